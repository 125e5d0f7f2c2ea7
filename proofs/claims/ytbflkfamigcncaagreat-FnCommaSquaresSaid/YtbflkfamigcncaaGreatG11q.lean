/- The law's own functions on set functors; copies; places. -/
import Derived.Test.YtbflkfamigcncaaGreatKhx
import Derived.Test.YtbflkfamigcncaaGreatKanx
set_option linter.unusedSimpArgs false
set_option linter.unusedVariables false
set_option maxRecDepth 100000
set_option maxHeartbeats 8000000
namespace Go.Eng
open Go Go.Proofs Go.Cats
theorem dB:aF Tryz.prog 170:=⟨_,Tryz.func170,rfl,rfl⟩
theorem dZ {l:List Int} (hl:l.length≤1048576):Spec Tryz.prog 170 [.bor [] (ints l)] [] (.sl 0) [(0,⟨1, .arr (ints l)⟩)]:=by
 refine aD (E:=TE) 0 Tryz.func170 rfl (by simp [Tryz.f170]) fun X hn hX=>?_
 repeat'(first|refine wkQ ?_|refine Tw.f ?_ ?_|(refine fun(hc:(_:Bool)=_)=>?_;try simp only [hcS]at hc))
 all_goals try exact om_
 (first|refine aB ?_|refine aA ?_);simp only [go_sem,simprocAttr,Tryz.f170]
theorem xG:aF Tryz.prog 199:=⟨_,Tryz.func199,rfl,rfl⟩
theorem aAK {l:List (List Int)} (hl:l.length≤1048576) (hr:∀i,i<l.length→(l.getD i []).length≤1048576):Spec Tryz.prog 199 [.bor [] (aE l)] [] (.sl 0) [(0,⟨1, .arr (aE l)⟩)]:=by
 refine aD (E:=TE) 0 Tryz.func199 rfl (by simp [Tryz.f199]) fun X hn hX=>?_
 repeat'(first|refine wkQ ?_|refine Tw.f ?_ ?_|(refine fun(hc:(_:Bool)=_)=>?_;try simp only [hcS]at hc))
 all_goals try exact om_
 refine aH (G:={i:Nat//i≤l.length∧(True)}) (fun⟨i,_⟩=>[(4,iv i),(3, .sl 0)]) [0,2] (fun⟨i,_⟩=>[(0,⟨1, .arr (aE (l.take i))⟩)]) [0] (fun zz=>l.length-zz.1) ⟨0,Nat.zero_le _,by first|trivial|simp⟩ ?_ ?_
 ·exact Imp.au hX
 rintro⟨i,hii,hwi⟩
 simp only [go_sem,simprocAttr]
 have h1:=hr i
 have h2:(l.take i).length≤i:=by simp;omega
 repeat'(first|refine wkQ ?_|refine Tw.f ?_ ?_|(refine kcQ dB ?_;refine krQ (dZ ?_) ?_)|(refine fun(hc:(_:Bool)=_)=>?_;try simp only [hcS]at hc))
 all_goals try exact om_
 ·refine⟨⟨i+1,by omega,(by trivial)⟩,by simp only;omega,Imp.auto hX (by simp only [go_sem,simprocAttr,aCu (d:=[]) (show i<l.length by omega)])⟩
 ·(first|refine aB ?_|refine aA ?_);simp only [go_sem,simprocAttr,Tryz.f199]
  rw [List.take_of_length_le (by omega)]
theorem sD:aF Tryz.prog 169:=⟨_,Tryz.func169,rfl,rfl⟩
theorem wW {c:Cat} (hb:CatB c):Spec Tryz.prog 169 [dN c] [] (.agg [iv c.ob, .sl 0, .sl 1, .sl 2, .sl 3]) [(0,⟨1, .arr (ints c.fr)⟩),(1,⟨1, .arr (ints c.to)⟩),(2,⟨1, .arr (ints c.id)⟩),(3,⟨1, .arr (aE c.co)⟩)]:=by
 refine aD (E:=TE) 0 Tryz.func169 rfl (by simp [Tryz.f169]) fun X hn hX=>?_
 obtain⟨b1,b2,b3,b4,b5,b6,b7⟩:=hb
 repeat'(first|refine wkQ ?_|refine Tw.f ?_ ?_|(refine kcQ dB ?_;refine krQ (dZ ?_) ?_)|(refine kcQ xG ?_;refine krQ (aAK ?_ ?_) ?_)|(refine fun(hc:(_:Bool)=_)=>?_;try simp only [hcS]at hc))
 all_goals try exact om_
 (first|refine aB ?_|refine aA ?_);simp only [go_sem,simprocAttr,Tryz.f169]
theorem pG:aF Tryz.prog 124:=⟨_,Tryz.func124,rfl,rfl⟩
theorem tB {c:Cat} {f g:Int} (h0:0≤f) (h1:f<c.co.length) (h2:0≤g) (h3:g<(c.co.getD f.toNat []).length):Spec Tryz.prog 124 [dN c,iv f,iv g] [] (iv (c.C f g)) []:=by
 refine aD (E:=TE) 0 Tryz.func124 rfl (by simp [Tryz.f124]) fun X hn hX=>?_
 repeat'(first|refine wkQ ?_|refine Tw.f ?_ ?_|(refine fun(hc:(_:Bool)=_)=>?_;try simp only [hcS]at hc))
 all_goals try exact om_
 (first|refine aB ?_|refine aA ?_);simp only [go_sem,simprocAttr,Tryz.f124]
structure SFL (f:SF):Prop where
 shape:CatL f.shape
 sizes:(f.sizes.length:Int)≤9223372036854775807
 acts:(f.acts.length:Int)≤9223372036854775807
 row:∀a,a<f.acts.length→((f.acts.getD a []).length:Int)≤9223372036854775807
end Go.Eng
