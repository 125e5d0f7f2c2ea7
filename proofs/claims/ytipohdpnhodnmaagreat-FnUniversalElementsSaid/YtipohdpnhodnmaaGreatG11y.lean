/- Several texts in one: G12, H02, G11, O05. -/
import Derived.Test.YtipohdpnhodnmaaGreatKex
import Derived.Test.YtipohdpnhodnmaaGreatH01q
set_option linter.unusedSimpArgs false
set_option linter.unusedVariables false
set_option maxRecDepth 100000
set_option maxHeartbeats 16000000
section
namespace Go.Eng
open Go Go.Proofs Go.Cats
theorem aEK:aF Tryz.prog 193:=⟨_,Tryz.func193,rfl,rfl⟩
theorem aH2 {c:Cat} {x y:Int} (hl:c.fr.length≤1048576) (ht:c.to.length=c.fr.length):Spec Tryz.prog 193 [jX c,iv x,iv y] [] (.sl 0) [(0,⟨1, .arr (ints (c.hom x y))⟩)]:=by
 refine aD (E:=TE) 0 Tryz.func193 rfl (by simp [Tryz.f193]) fun X hn hX=>?_
 repeat'(first|refine wkQ ?_|refine Tw.f ?_ ?_|(refine fun(hc:(_:Bool)=_)=>?_;try simp only [hcS]at hc))
 all_goals try exact om_
 refine aG (G:={i:Nat//i≤c.fr.length∧(True)}) (fun⟨i,_⟩=>[(8,iv i),(7, .sl 1)]) [1,2,3,6] (fun⟨i,_⟩=>[(1,⟨1, .arr (ints (c.homI x y i))⟩)]) [1] (fun zz=>c.fr.length-zz.1) ⟨0,Nat.zero_le _,by first|trivial|simp⟩ ?_ ?_
 ·exact Imp.au hX
 rintro⟨i,hii,hwi⟩
 simp only [go_sem,simprocAttr]
 have hlen:=c.homI_len x y i
 repeat'(first|refine wkQ ?_|refine Tw.f ?_ ?_|(refine fun(hc:(_:Bool)=_)=>?_;try simp only [hcS]at hc))
 all_goals try exact om_
 all_goals try(refine⟨⟨i+1,by omega,(by trivial)⟩,by simp only;omega,Imp.auto hX (by simp only [go_sem,simprocAttr,Cat.homI_succ, *])⟩)
 ·(first|refine aB ?_|refine aA ?_);simp only [go_sem,simprocAttr,Tryz.f193]
  have:i=c.fr.length:=by omega
  subst this
  simp [Cat.hom]
theorem kY:aF Tryz.prog 138:=⟨_,Tryz.func138,rfl,rfl⟩
theorem mL {c:Cat} (hb:CatB c):Spec Tryz.prog 138 [.bptr [] (dJ c)] [] (.agg [iv c.ob, .sl 0, .sl 1, .sl 2, .sl 3]) [(0,⟨1, .arr (ints c.fr)⟩),(1,⟨1, .arr (ints c.to)⟩),(2,⟨1, .arr (ints c.id)⟩),(3,⟨1, .arr (aC c.co)⟩)]:=by
 refine aD (E:=TE) 0 Tryz.func138 rfl (by simp [Tryz.f138]) fun X hn hX=>?_
 obtain⟨b1,b2,b3,b4,b5,b6,b7⟩:=hb
 repeat'(first|refine wkQ ?_|refine Tw.f ?_ ?_|(refine kcQ jM ?_;refine krQ (mN ?_) ?_)|(refine kcQ qK ?_;refine krQ (uD ?_ ?_) ?_)|(refine fun(hc:(_:Bool)=_)=>?_;try simp only [hcS]at hc))
 all_goals try exact om_
 (first|refine aB ?_|refine aA ?_);simp only [go_sem,simprocAttr,Tryz.f138]
end Go.Eng
end
section
namespace Go.Eng
open Go Go.Proofs Go.Cats
theorem jF:aF Tryz.prog 257:=⟨_,Tryz.func257,rfl,rfl⟩
theorem lL {l:List Int} {n:Int} (hl:l.length≤1048576):Spec Tryz.prog 257 [.bor [] (ints l),iv n] [] (iv (idxOf l n)) []:=by
 refine aD (E:=TE) 0 Tryz.func257 rfl (by simp [Tryz.f257]) fun X hn hX=>?_
 repeat'(first|refine wkQ ?_|refine Tw.f ?_ ?_|(refine fun(hc:(_:Bool)=_)=>?_;try simp only [hcS]at hc))
 refine aG (G:={i:Nat//i≤l.length∧(aW i (iY l n)=none)}) (fun⟨i,_⟩=>[(5,iv i)]) [0,1] (fun⟨i,_⟩=>[]) [] (fun zz=>l.length-zz.1) ⟨0,Nat.zero_le _,by rfl⟩ ?_ ?_
 ·exact Imp.au hX
 rintro⟨i,hii,hwi⟩
 simp only [go_sem,simprocAttr]
 repeat'(first|refine wkQ ?_|refine Tw.f ?_ ?_|(refine fun(hc:(_:Bool)=_)=>?_;try simp only [hcS]at hc))
 all_goals try exact om_
 ·(first|refine aB ?_|refine aA ?_);simp only [go_sem,simprocAttr,Tryz.f257]
  rw [idxOf_hit hwi (by omega) hc]
 ·refine⟨⟨i+1,by omega,(by exact aX hwi (aE2 hc))⟩,by simp only;omega,Imp.ao hX⟩
 ·(first|refine aB ?_|refine aA ?_);simp only [go_sem,simprocAttr,Tryz.f257]
  rw [qW (bK hwi hii (by omega))]
end Go.Eng
end
section
namespace Go.Eng
open Go Go.Proofs Go.Cats
theorem nR:aF Tryz.prog 198:=⟨_,Tryz.func198,rfl,rfl⟩
theorem oS {l:List Int} {n:Int} (hl:l.length≤1048576):Spec Tryz.prog 198 [.bor [] (ints l),iv n] [] (iv (idxOf l n)) []:=by
 refine aD (E:=TE) 0 Tryz.func198 rfl (by simp [Tryz.f198]) fun X hn hX=>?_
 repeat'(first|refine wkQ ?_|refine Tw.f ?_ ?_|(refine fun(hc:(_:Bool)=_)=>?_;try simp only [hcS]at hc))
 refine aG (G:={i:Nat//i≤l.length∧(aW i (iY l n)=none)}) (fun⟨i,_⟩=>[(8,iv i)]) [0,1,7] (fun⟨i,_⟩=>[]) [] (fun zz=>l.length-zz.1) ⟨0,Nat.zero_le _,by rfl⟩ ?_ ?_
 ·exact Imp.au hX
 rintro⟨i,hii,hwi⟩
 simp only [go_sem,simprocAttr]
 repeat'(first|refine wkQ ?_|refine Tw.f ?_ ?_|(refine fun(hc:(_:Bool)=_)=>?_;try simp only [hcS]at hc))
 all_goals try exact om_
 ·(first|refine aB ?_|refine aA ?_);simp only [go_sem,simprocAttr,Tryz.f198]
  rw [idxOf_hit hwi (by omega) hc.symm]
 ·refine⟨⟨i+1,by omega,(by exact aX hwi (aE2 fun q=>hc q.symm))⟩,by simp only;omega,Imp.ao hX⟩
 ·(first|refine aB ?_|refine aA ?_);simp only [go_sem,simprocAttr,Tryz.f198]
  rw [qW (bK hwi hii (by omega))]
theorem vP:aF Tryz.prog 140:=⟨_,Tryz.func140,rfl,rfl⟩
theorem zU {l:List Int} {n:Int} (hl:l.length≤1048576):Spec Tryz.prog 140 [.bor [] (ints l),iv n] [] (iv (idxOf l n)) []:=by
 refine aD (E:=TE) 0 Tryz.func140 rfl (by simp [Tryz.f140]) fun X hn hX=>?_
 repeat'(first|refine wkQ ?_|refine Tw.f ?_ ?_|(refine kcQ nR ?_;refine krQ (oS ?_) ?_)|(refine fun(hc:(_:Bool)=_)=>?_;try simp only [hcS]at hc))
 all_goals try exact om_
 (first|refine aB ?_|refine aA ?_);simp only [go_sem,simprocAttr,Tryz.f140]
theorem eU:aF Tryz.prog 181:=⟨_,Tryz.func181,rfl,rfl⟩
theorem gA {l:List Int} (hl:l.length≤1048576):Spec Tryz.prog 181 [.bor [] (ints l)] [] (.sl 0) [(0,⟨1, .arr (ints l)⟩)]:=by
 refine aD (E:=TE) 0 Tryz.func181 rfl (by simp [Tryz.f181]) fun X hn hX=>?_
 repeat'(first|refine wkQ ?_|refine Tw.f ?_ ?_|(refine fun(hc:(_:Bool)=_)=>?_;try simp only [hcS]at hc))
 all_goals try exact om_
 (first|refine aB ?_|refine aA ?_);simp only [go_sem,simprocAttr,Tryz.f181]
theorem oD:aF Tryz.prog 182:=⟨_,Tryz.func182,rfl,rfl⟩
theorem rJ {l:List (List Int)} (hl:l.length≤1048576) (hr:∀i,i<l.length→(l.getD i []).length≤1048576):Spec Tryz.prog 182 [.bor [] (aC l)] [] (.sl 0) [(0,⟨1, .arr (aC l)⟩)]:=by
 refine aD (E:=TE) 0 Tryz.func182 rfl (by simp [Tryz.f182]) fun X hn hX=>?_
 repeat'(first|refine wkQ ?_|refine Tw.f ?_ ?_|(refine fun(hc:(_:Bool)=_)=>?_;try simp only [hcS]at hc))
 all_goals try exact om_
 refine aG (G:={i:Nat//i≤l.length∧(True)}) (fun⟨i,_⟩=>[(4,iv i),(3, .sl 0)]) [0,2] (fun⟨i,_⟩=>[(0,⟨1, .arr (aC (l.take i))⟩)]) [0] (fun zz=>l.length-zz.1) ⟨0,Nat.zero_le _,by first|trivial|simp⟩ ?_ ?_
 ·exact Imp.au hX
 rintro⟨i,hii,hwi⟩
 simp only [go_sem,simprocAttr]
 have h1:=hr i
 have h2:(l.take i).length≤i:=by simp;omega
 repeat'(first|refine wkQ ?_|refine Tw.f ?_ ?_|(refine kcQ eU ?_;refine krQ (gA ?_) ?_)|(refine fun(hc:(_:Bool)=_)=>?_;try simp only [hcS]at hc))
 all_goals try exact om_
 ·refine⟨⟨i+1,by omega,(by trivial)⟩,by simp only;omega,Imp.auto hX (by simp only [go_sem,simprocAttr,aBO (d:=[]) (show i<l.length by omega)])⟩
 ·(first|refine aB ?_|refine aA ?_);simp only [go_sem,simprocAttr,Tryz.f182]
  rw [List.take_of_length_le (by omega)]
theorem fQ:aF Tryz.prog 180:=⟨_,Tryz.func180,rfl,rfl⟩
theorem iM {c:Cat} (hb:CatB c):Spec Tryz.prog 180 [jX c] [] (.agg [iv c.ob, .sl 0, .sl 1, .sl 2, .sl 3]) [(0,⟨1, .arr (ints c.fr)⟩),(1,⟨1, .arr (ints c.to)⟩),(2,⟨1, .arr (ints c.id)⟩),(3,⟨1, .arr (aC c.co)⟩)]:=by
 refine aD (E:=TE) 0 Tryz.func180 rfl (by simp [Tryz.f180]) fun X hn hX=>?_
 obtain⟨b1,b2,b3,b4,b5,b6,b7⟩:=hb
 repeat'(first|refine wkQ ?_|refine Tw.f ?_ ?_|(refine kcQ eU ?_;refine krQ (gA ?_) ?_)|(refine kcQ oD ?_;refine krQ (rJ ?_ ?_) ?_)|(refine fun(hc:(_:Bool)=_)=>?_;try simp only [hcS]at hc))
 all_goals try exact om_
 (first|refine aB ?_|refine aA ?_);simp only [go_sem,simprocAttr,Tryz.f180]
theorem uY:aF Tryz.prog 163:=⟨_,Tryz.func163,rfl,rfl⟩
theorem aAn {c:Cat} {f g:Int} (h0:0≤f) (h1:f<c.co.length) (h2:0≤g) (h3:g<(c.co.getD f.toNat []).length):Spec Tryz.prog 163 [jX c,iv f,iv g] [] (iv (c.C f g)) []:=by
 refine aD (E:=TE) 0 Tryz.func163 rfl (by simp [Tryz.f163]) fun X hn hX=>?_
 repeat'(first|refine wkQ ?_|refine Tw.f ?_ ?_|(refine fun(hc:(_:Bool)=_)=>?_;try simp only [hcS]at hc))
 all_goals try exact om_
 (first|refine aB ?_|refine aA ?_);simp only [go_sem,simprocAttr,Tryz.f163]
structure SFL (f:SF):Prop where
 shape:CatL f.shape
 sizes:(f.sizes.length:Int)≤9223372036854775807
 acts:(f.acts.length:Int)≤9223372036854775807
 row:∀a,a<f.acts.length→((f.acts.getD a []).length:Int)≤9223372036854775807
end Go.Eng
end
section
namespace Go.Eng
open Go Go.Proofs Go.Cats
theorem SM.same {f g:SM} (h1:f.src=g.src) (h2:f.tgt=g.tgt) (h3:f.parts=g.parts):f=g:=by cases f;cases g;simp_all
structure SML (m:SM):Prop where
 src:SFL m.src
 tgt:SFL m.tgt
 parts:(m.parts.length:Int)≤9223372036854775807
 row:∀a,a<m.parts.length→((m.parts.getD a []).length:Int)≤9223372036854775807
def oH (l:List (List Int)) (x:List Int) (i:Nat):Option Int:=if l.getD i []=x then some (i:Int)else none
def pP (l:List (List Int)) (x:List Int):Int:=(aW l.length (oH l x)).getD (-1)
theorem aJr {l:List (List Int)} {x:List Int} {i:Nat} (h:aW i (oH l x)=none) (hi:i<l.length) (k:l.getD i []=x):pP l x=i:=by
 unfold pP
 rw [dL hi h (show oH l x i=some (i:Int) from if_pos k)];rfl
theorem aHq {l:List (List Int)} {x:List Int} (h:aW l.length (oH l x)=none):pP l x= -1:=by
 unfold pP
 rw [h];rfl
theorem aMo {l:List (List Int)} {x:List Int} {i:Nat} (k:¬l.getD i []=x):oH l x i=none:=if_neg k
theorem rR:aF Tryz.prog 192:=⟨_,Tryz.func192,rfl,rfl⟩
theorem vK {l:List (List Int)} {x:List Int} (hl:l.length≤1048576) (hr:∀i,i<l.length→(l.getD i []).length≤1048576) (hx:x.length≤1048576):Spec Tryz.prog 192 [.bor [] (aC l), .bor [] (ints x)] [] (iv (pP l x)) []:=by
 refine aD (E:=TE) 0 Tryz.func192 rfl (by simp [Tryz.f192]) fun X hn hX=>?_
 repeat'(first|refine wkQ ?_|refine Tw.f ?_ ?_|(refine fun(hc:(_:Bool)=_)=>?_;try simp only [hcS]at hc))
 refine aG (G:={i:Nat//i≤l.length∧(aW i (oH l x)=none)}) (fun⟨i,_⟩=>[(5,iv i)]) [0,1] (fun⟨i,_⟩=>[]) [] (fun zz=>l.length-zz.1) ⟨0,Nat.zero_le _,by rfl⟩ ?_ ?_
 ·exact Imp.au hX
 rintro⟨i,hii,hwi⟩
 simp only [go_sem,simprocAttr]
 have h1:=hr i
 repeat'(first|refine wkQ ?_|refine Tw.f ?_ ?_|(refine kcQ lC ?_;refine krQ (zY ?_ ?_) ?_)|(refine fun(hc:(_:Bool)=_)=>?_;try simp only [hcS]at hc))
 all_goals try exact om_
 ·(first|refine aB ?_|refine aA ?_);simp only [go_sem,simprocAttr,Tryz.f192]
  rw [aJr hwi (by omega) hc]
 ·refine⟨⟨i+1,by omega,(by exact aX hwi (aMo hc))⟩,by simp only;omega,Imp.ao hX⟩
 ·(first|refine aB ?_|refine aA ?_);simp only [go_sem,simprocAttr,Tryz.f192]
  rw [aHq (bK hwi hii (by omega))]
end Go.Eng
end
