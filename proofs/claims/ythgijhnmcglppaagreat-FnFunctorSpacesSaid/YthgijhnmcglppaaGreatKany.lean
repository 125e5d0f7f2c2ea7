/- Several texts in one: G05, G06, G07, G11. -/
import Derived.Test.YthgijhnmcglppaaGreatKhx
set_option linter.unusedSimpArgs false
set_option linter.unusedVariables false
set_option maxRecDepth 100000
set_option maxHeartbeats 8000000
section
namespace Go.Eng
open Go Go.Proofs Go.Cats
@[go_sem] theorem aQ4 (k:Int):marks k 0=[]:=rfl
theorem aHK:pN []=0:=rfl
attribute [go_sem] aHK Int.add_zero Int.sub_zero Int.natCast_zero Int.ofNat_zero List.take_zero List.drop_zero
theorem aHJ (l:List (List Int)) (i:Nat) (h:i<l.length):(l.getD i []).length≤pN l:=by
 have h2:=aGq l i h
 have h4:=aKB l (i+1)
 omega
structure CatL (c:Cat):Prop where
 fr:(c.fr.length:Int)≤9223372036854775807
 to:(c.to.length:Int)≤9223372036854775807
 id:(c.id.length:Int)≤9223372036854775807
 co:(c.co.length:Int)≤9223372036854775807
 row:∀f,f<c.co.length→((c.co.getD f []).length:Int)≤9223372036854775807
def aH3 (c:Cat):Nat:=c.fr.length+c.to.length+c.id.length+(c.co.length+pN c.co)
end Go.Eng
end
section
namespace Go.Eng
open Go Go.Proofs Go.Cats
end Go.Eng
end
section
namespace Go.Eng
open Go Go.Proofs Go.Cats
end Go.Eng
end
section
namespace Go.Eng
open Go Go.Proofs Go.Cats
theorem qA:aE Tryz.prog 217:=⟨_,Tryz.func217,rfl,rfl⟩
theorem rM {l:List Int} {n:Int} (hl:l.length≤1048576):Spec Tryz.prog 217 [.bor [] (ints l),iv n] [] (iv (idxOf l n)) []:=by
 refine aD (E:=TE) 0 Tryz.func217 rfl (by simp [Tryz.f217]) fun X hn hX=>?_
 repeat'(first|refine wkQ ?_|refine Tw.f ?_ ?_|(refine fun(hc:(_:Bool)=_)=>?_;try simp only [hcS]at hc))
 refine aG (G:={i:Nat//i≤l.length∧(bJ i (tB l n)=none)}) (fun⟨i,_⟩=>[(8,iv i)]) [0,1,7] (fun⟨i,_⟩=>[]) [] (fun zz=>l.length-zz.1) ⟨0,Nat.zero_le _,by rfl⟩ ?_ ?_
 ·exact Imp.au hX
 rintro⟨i,hii,hwi⟩
 simp only [go_sem,simprocAttr]
 repeat'(first|refine wkQ ?_|refine Tw.f ?_ ?_|(refine fun(hc:(_:Bool)=_)=>?_;try simp only [hcS]at hc))
 all_goals try exact om_
 ·(first|refine aB ?_|refine aA ?_);simp only [go_sem,simprocAttr,Tryz.f217]
  rw [idxOf_hit hwi (by omega) hc.symm]
 ·refine⟨⟨i+1,by omega,(by exact cM hwi (aLL fun q=>hc q.symm))⟩,by simp only;omega,Imp.ao hX⟩
 ·(first|refine aB ?_|refine aA ?_);simp only [go_sem,simprocAttr,Tryz.f217]
  rw [uE (iZ hwi hii (by omega))]
theorem pR:aE Tryz.prog 123:=⟨_,Tryz.func123,rfl,rfl⟩
theorem aBB {l:List Int} {n:Int} (hl:l.length≤1048576):Spec Tryz.prog 123 [.bor [] (ints l),iv n] [] (iv (idxOf l n)) []:=by
 refine aD (E:=TE) 0 Tryz.func123 rfl (by simp [Tryz.f123]) fun X hn hX=>?_
 repeat'(first|refine wkQ ?_|refine Tw.f ?_ ?_|(refine kcQ qA ?_;refine krQ (rM ?_) ?_)|(refine fun(hc:(_:Bool)=_)=>?_;try simp only [hcS]at hc))
 all_goals try exact om_
 (first|refine aB ?_|refine aA ?_);simp only [go_sem,simprocAttr,Tryz.f123]
theorem bZ:aE Tryz.prog 194:=⟨_,Tryz.func194,rfl,rfl⟩
theorem cP {l:List Int} (hl:l.length≤1048576):Spec Tryz.prog 194 [.bor [] (ints l)] [] (.sl 0) [(0,⟨1, .arr (ints l)⟩)]:=by
 refine aD (E:=TE) 0 Tryz.func194 rfl (by simp [Tryz.f194]) fun X hn hX=>?_
 repeat'(first|refine wkQ ?_|refine Tw.f ?_ ?_|(refine fun(hc:(_:Bool)=_)=>?_;try simp only [hcS]at hc))
 all_goals try exact om_
 (first|refine aB ?_|refine aA ?_);simp only [go_sem,simprocAttr,Tryz.f194]
theorem zG:aE Tryz.prog 213:=⟨_,Tryz.func213,rfl,rfl⟩
theorem aBF {l:List (List Int)} (hl:l.length≤1048576) (hr:∀i,i<l.length→(l.getD i []).length≤1048576):Spec Tryz.prog 213 [.bor [] (aF l)] [] (.sl 0) [(0,⟨1, .arr (aF l)⟩)]:=by
 refine aD (E:=TE) 0 Tryz.func213 rfl (by simp [Tryz.f213]) fun X hn hX=>?_
 repeat'(first|refine wkQ ?_|refine Tw.f ?_ ?_|(refine fun(hc:(_:Bool)=_)=>?_;try simp only [hcS]at hc))
 all_goals try exact om_
 refine aG (G:={i:Nat//i≤l.length∧(True)}) (fun⟨i,_⟩=>[(4,iv i),(3, .sl 0)]) [0,2] (fun⟨i,_⟩=>[(0,⟨1, .arr (aF (l.take i))⟩)]) [0] (fun zz=>l.length-zz.1) ⟨0,Nat.zero_le _,by first|trivial|simp⟩ ?_ ?_
 ·exact Imp.au hX
 rintro⟨i,hii,hwi⟩
 simp only [go_sem,simprocAttr]
 have h1:=hr i
 have h2:(l.take i).length≤i:=by simp;omega
 repeat'(first|refine wkQ ?_|refine Tw.f ?_ ?_|(refine kcQ bZ ?_;refine krQ (cP ?_) ?_)|(refine fun(hc:(_:Bool)=_)=>?_;try simp only [hcS]at hc))
 all_goals try exact om_
 ·refine⟨⟨i+1,by omega,(by trivial)⟩,by simp only;omega,Imp.auto hX (by simp only [go_sem,simprocAttr,aDM (d:=[]) (show i<l.length by omega)])⟩
 ·(first|refine aB ?_|refine aA ?_);simp only [go_sem,simprocAttr,Tryz.f213]
  rw [List.take_of_length_le (by omega)]
theorem tU:aE Tryz.prog 193:=⟨_,Tryz.func193,rfl,rfl⟩
theorem yO {c:Cat} (hb:CatB c):Spec Tryz.prog 193 [bK c] [] (.agg [iv c.ob, .sl 0, .sl 1, .sl 2, .sl 3]) [(0,⟨1, .arr (ints c.fr)⟩),(1,⟨1, .arr (ints c.to)⟩),(2,⟨1, .arr (ints c.id)⟩),(3,⟨1, .arr (aF c.co)⟩)]:=by
 refine aD (E:=TE) 0 Tryz.func193 rfl (by simp [Tryz.f193]) fun X hn hX=>?_
 obtain⟨b1,b2,b3,b4,b5,b6,b7⟩:=hb
 repeat'(first|refine wkQ ?_|refine Tw.f ?_ ?_|(refine kcQ bZ ?_;refine krQ (cP ?_) ?_)|(refine kcQ zG ?_;refine krQ (aBF ?_ ?_) ?_)|(refine fun(hc:(_:Bool)=_)=>?_;try simp only [hcS]at hc))
 all_goals try exact om_
 (first|refine aB ?_|refine aA ?_);simp only [go_sem,simprocAttr,Tryz.f193]
structure SFL (f:SF):Prop where
 shape:CatL f.shape
 sizes:(f.sizes.length:Int)≤9223372036854775807
 acts:(f.acts.length:Int)≤9223372036854775807
 row:∀a,a<f.acts.length→((f.acts.getD a []).length:Int)≤9223372036854775807
end Go.Eng
end
