/- Constant set functors, by the reference. -/
import Derived.Test.YtipohdpnhodnmaaGreatB04q
import Derived.Test.YtipohdpnhodnmaaGreatE01q
set_option linter.unusedSimpArgs false
set_option linter.unusedVariables false
set_option maxRecDepth 100000
set_option maxHeartbeats 16000000
namespace Go.Eng
open Go Go.Proofs Go.Cats
def aIN (c:Cat) (n:Nat):SF:=⟨c,List.replicate c.ob.toNat (n:Int),List.replicate c.fr.length (nums n)⟩
section
variable {c:Cat} {n i j:Nat}
theorem aCc {m:Nat} {z:Int} (h:i<m):(List.replicate m z).getD i 0=z:=by
 rw [List.getD_eq_getElem?_getD,List.getElem?_replicate,if_pos h];rfl
theorem aLN {m:Nat} {z:List Int} (h:i<m):(List.replicate m z).getD i []=z:=by
 rw [List.getD_eq_getElem?_getD,List.getElem?_replicate,if_pos h];rfl
theorem aES (s:Shape c) (hn:n≤16):Loose (aIN c n):=by
 have o0:=s.ob0
 refine⟨s,List.length_replicate,fun x hx=>?_,List.length_replicate,fun a ha=>?_⟩
 ·have hx:x<c.ob.toNat:=by have h:x<(List.replicate c.ob.toNat (n:Int)).length:=hx;rwa [List.length_replicate]at h
  show 0≤(List.replicate c.ob.toNat (n:Int)).getD x 0∧(List.replicate c.ob.toNat (n:Int)).getD x 0≤1000
  rw [aCc hx];omega
 ·have ha:a<c.fr.length:=by have h:a<(List.replicate c.fr.length (nums n)).length:=ha;rwa [List.length_replicate]at h
  have f1:=s.frw a ha
  have f2:=s.tow a (by rw [s.tol];exact ha)
  show(((List.replicate c.fr.length (nums n)).getD a []).length:Int)=(List.replicate c.ob.toNat (n:Int)).getD (c.fr.getD a 0).toNat 0∧Within ((List.replicate c.fr.length (nums n)).getD a []) ((List.replicate c.ob.toNat (n:Int)).getD (c.to.getD a 0).toNat 0)
  rw [aLN ha,aCc (by omega),aCc (by omega),dS]
  refine⟨rfl,fun e he=>?_⟩
  rw [dS]at he
  rw [sF he]
  omega
theorem aKB (z:Int):List.replicate 0 z=[]:=rfl
theorem aHM (z:List Int):List.replicate 0 z=[]:=rfl
end
attribute [local go_sem] aKB aHM List.length_replicate mK
theorem vR:aF Tryz.prog 175:=⟨_,Tryz.func175,rfl,rfl⟩
theorem aAp {c:Cat} {n:Nat} (hs:Shape c) (hb:CatB c) (hn16:n≤16):Spec Tryz.prog 175 [jX c,iv n] [] (sfO 0 (aIN c n)) (sfQ 0 (aIN c n)):=by
 have o0:=hs.ob0
 have o8:=hs.ob8
 have m40:=hs.m40
 show Spec Tryz.prog 175 [jX c,iv n] [] (.agg [iv c.ob, .sl 0, .sl 1, .sl 2, .sl 3, .sl 4, .sl 5]) [(0,⟨1, .arr (ints c.fr)⟩),(1,⟨1, .arr (ints c.to)⟩),(2,⟨1, .arr (ints c.id)⟩),(3,⟨1, .arr (aC c.co)⟩),(4,⟨1, .arr (ints (List.replicate c.ob.toNat (n:Int)))⟩),(5,⟨1, .arr (aC (List.replicate c.fr.length (nums n)))⟩)]
 refine aD (E:=TE) 0 Tryz.func175 rfl (by simp [Tryz.f175]) fun X hn hX=>?_
 repeat'(first|refine wkQ ?_|refine Tw.f ?_ ?_|(refine kcQ fQ ?_;refine krQ (iM ?_) ?_)|(refine fun(hc:(_:Bool)=_)=>?_;try simp only [hcS]at hc))
 all_goals try exact om_
 all_goals try(exfalso;omega)
 refine cZ (Imp.adoptBi 6 5 _ _ rfl rfl rfl (by rw [hX];rfl)) ?_
 refine cZ (Imp.adoptBs 6 6 _ _ rfl rfl rfl (by rw [hX];rfl)) ?_
 refine aG (G:={i:Nat//i≤c.ob.toNat∧(True)}) (fun⟨i,_⟩=>[(6,iv i)]) [1,2,4,5] (fun⟨i,_⟩=>[(6,⟨1, .box [iv c.ob, .sl 2, .sl 3, .sl 4, .sl 5, .sl 7, .sl 8]⟩),(2,⟨1, .arr (ints c.fr)⟩),(3,⟨1, .arr (ints c.to)⟩),(4,⟨1, .arr (ints c.id)⟩),(5,⟨1, .arr (aC c.co)⟩),(7,⟨1, .arr (ints (List.replicate i (n:Int)))⟩),(8,⟨1, .arr (aC [])⟩),(1,⟨1, .box [iv 0, .v (.slice none 0 0), .v (.slice none 0 0), .v (.slice none 0 0), .v (.slice none 0 0), .v (.slice none 0 0), .v (.slice none 0 0)]⟩),(0,⟨1, .box [iv c.ob, .bor [] (ints c.fr), .bor [] (ints c.to), .bor [] (ints c.id), .bor [] (aC c.co)]⟩)]) [0,1,2,3,4,5,6,7,8] (fun zz=>c.ob.toNat-zz.1) ⟨0,Nat.zero_le _,by first|trivial|simp⟩ ?_ ?_
 ·exact Imp.au hX
 rintro⟨i,hii,hwi⟩
 simp only [go_sem,simprocAttr]
 rcases Nat.lt_or_ge i c.ob.toNat with hi|hi
 ·have e1:=List.replicate_succ' (n:=i) (a:=(n:Int))
  repeat'(first|refine wkQ ?_|refine Tw.f ?_ ?_|(refine fun(hc:(_:Bool)=_)=>?_;try simp only [hcS]at hc))
  all_goals try exact om_
  all_goals try(exfalso;omega)
  refine⟨⟨i+1,by omega,(by trivial)⟩,by simp only;omega,Imp.auto hX (by simp only [go_sem,simprocAttr,e1])⟩
 obtain rfl:i=c.ob.toNat:=by omega
 repeat'(first|refine wkQ ?_|refine Tw.f ?_ ?_|(refine fun(hc:(_:Bool)=_)=>?_;try simp only [hcS]at hc))
 all_goals try exact om_
 all_goals try(exfalso;omega)
 refine aG (G:={a:Nat//a≤c.fr.length∧(True)}) (fun⟨a,_⟩=>[(7,iv a)]) [1,2,4,5] (fun⟨a,_⟩=>[(6,⟨1, .box [iv c.ob, .sl 2, .sl 3, .sl 4, .sl 5, .sl 7, .sl 8]⟩),(2,⟨1, .arr (ints c.fr)⟩),(3,⟨1, .arr (ints c.to)⟩),(4,⟨1, .arr (ints c.id)⟩),(5,⟨1, .arr (aC c.co)⟩),(7,⟨1, .arr (ints (List.replicate c.ob.toNat (n:Int)))⟩),(8,⟨1, .arr (aC (List.replicate a (nums n)))⟩),(1,⟨1, .box [iv 0, .v (.slice none 0 0), .v (.slice none 0 0), .v (.slice none 0 0), .v (.slice none 0 0), .v (.slice none 0 0), .v (.slice none 0 0)]⟩),(0,⟨1, .box [iv c.ob, .bor [] (ints c.fr), .bor [] (ints c.to), .bor [] (ints c.id), .bor [] (aC c.co)]⟩)]) [0,1,2,3,4,5,6,7,8] (fun zz=>c.fr.length-zz.1) ⟨0,Nat.zero_le _,by first|trivial|simp⟩ ?_ ?_
 ·exact Imp.au hX
 rintro⟨a,hia,hwa⟩
 simp only [go_sem,simprocAttr]
 rcases Nat.lt_or_ge a c.fr.length with ha|ha
 ·repeat'(first|refine wkQ ?_|refine Tw.f ?_ ?_|(refine fun(hc:(_:Bool)=_)=>?_;try simp only [hcS]at hc))
  all_goals try exact om_
  all_goals try(exfalso;omega)
  refine aG (G:={j:Nat//j≤n∧(True)}) (fun⟨j,_⟩=>[(9,iv j),(8, .sl 9)]) [1,2,4,5,7] (fun⟨j,_⟩=>[(6,⟨1, .box [iv c.ob, .sl 2, .sl 3, .sl 4, .sl 5, .sl 7, .sl 8]⟩),(2,⟨1, .arr (ints c.fr)⟩),(3,⟨1, .arr (ints c.to)⟩),(4,⟨1, .arr (ints c.id)⟩),(5,⟨1, .arr (aC c.co)⟩),(7,⟨1, .arr (ints (List.replicate c.ob.toNat (n:Int)))⟩),(8,⟨1, .arr (aC (List.replicate a (nums n)))⟩),(1,⟨1, .box [iv 0, .v (.slice none 0 0), .v (.slice none 0 0), .v (.slice none 0 0), .v (.slice none 0 0), .v (.slice none 0 0), .v (.slice none 0 0)]⟩),(0,⟨1, .box [iv c.ob, .bor [] (ints c.fr), .bor [] (ints c.to), .bor [] (ints c.id), .bor [] (aC c.co)]⟩),(9,⟨1, .arr (ints (nums j))⟩)]) [0,1,2,3,4,5,6,7,8,9] (fun zz=>n-zz.1) ⟨0,Nat.zero_le _,by first|trivial|simp⟩ ?_ ?_
  ·exact Imp.au hX
  rintro⟨j,hij,hwj⟩
  simp only [go_sem,simprocAttr]
  have nl:=dS j
  rcases Nat.lt_or_ge j n with hj|hj
  ·repeat'(first|refine wkQ ?_|refine Tw.f ?_ ?_|(refine fun(hc:(_:Bool)=_)=>?_;try simp only [hcS]at hc))
   all_goals try exact om_
   all_goals try(exfalso;omega)
   refine⟨⟨j+1,by omega,(by trivial)⟩,by simp only;omega,Imp.auto hX (by simp only [go_sem,simprocAttr,uA])⟩
  ·obtain rfl:j=n:=by omega
   have e1:=List.replicate_succ' (n:=a) (a:=nums j)
   repeat'(first|refine wkQ ?_|refine Tw.f ?_ ?_|(refine fun(hc:(_:Bool)=_)=>?_;try simp only [hcS]at hc))
   all_goals try exact om_
   all_goals try(exfalso;omega)
   refine⟨⟨a+1,by omega,(by trivial)⟩,by simp only;omega,Imp.auto hX (by simp only [go_sem,simprocAttr,e1])⟩
 obtain rfl:a=c.fr.length:=by omega
 repeat'(first|refine wkQ ?_|refine Tw.f ?_ ?_|(refine fun(hc:(_:Bool)=_)=>?_;try simp only [hcS]at hc))
 all_goals try exact om_
 all_goals try(exfalso;omega)
 (first|refine aB ?_|refine aA ?_);simp only [go_sem,simprocAttr,Tryz.f175]
end Go.Eng
