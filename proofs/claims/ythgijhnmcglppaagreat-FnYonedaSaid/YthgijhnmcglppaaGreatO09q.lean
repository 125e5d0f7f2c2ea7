/- The map of an element: parts, by the reference and by the program; copies. -/
import Derived.Test.YthgijhnmcglppaaGreatO06q
set_option linter.unusedSimpArgs false
set_option linter.unusedVariables false
set_option maxRecDepth 100000
set_option maxHeartbeats 8000000
namespace Go.Eng
open Go Go.Proofs Go.Cats
attribute [go_sem] SF.eRow_zero SF.eRow_len SF.eParts_zero SF.eParts_len
theorem fX:aE Tryz.prog 212:=⟨_,Tryz.func212,rfl,rfl⟩
theorem iS {f:SF} (hb:SFB f):Spec Tryz.prog 212 [sfV f] [] (.agg [iv f.shape.ob, .sl 0, .sl 1, .sl 2, .sl 3, .sl 4, .sl 5]) [(0,⟨1, .arr (ints f.shape.fr)⟩),(1,⟨1, .arr (ints f.shape.to)⟩),(2,⟨1, .arr (ints f.shape.id)⟩),(3,⟨1, .arr (aC f.shape.co)⟩),(4,⟨1, .arr (ints f.sizes)⟩),(5,⟨1, .arr (aC f.acts)⟩)]:=by
 refine aD (E:=TE) 0 Tryz.func212 rfl (by simp [Tryz.f212]) fun X hn hX=>?_
 obtain⟨b1,b2,b3,b4⟩:=hb
 repeat'(first|refine wkQ ?_|refine Tw.f ?_ ?_|(refine kcQ fV ?_;refine krQ (iR ?_) ?_)|(refine kcQ fA ?_;refine krQ (gI ?_) ?_)|(refine kcQ kZ ?_;refine krQ (nH ?_ ?_) ?_)|(refine fun(hc:(_:Bool)=_)=>?_;try simp only [hcS]at hc))
 all_goals try exact om_
 (first|refine aB ?_|refine aA ?_);simp only [go_sem,simprocAttr,Tryz.f212]
theorem aCO:aE Tryz.prog 119:=⟨_,Tryz.func119,rfl,rfl⟩
theorem aFb {f g:SF} {p:List (List Int)} (hf:SFB f) (hg:SFB g) (hp:p.length≤1048576) (hr:∀i,i<p.length→(p.getD i []).length≤1048576):Spec Tryz.prog 119 [sfV f,sfV g, .bor [] (aC p)] [] (.agg [iv f.shape.ob, .sl 0, .sl 1, .sl 2, .sl 3, .sl 4, .sl 5,iv g.shape.ob, .sl 6, .sl 7, .sl 8, .sl 9, .sl 10, .sl 11, .sl 12]) [(0,⟨1, .arr (ints f.shape.fr)⟩),(1,⟨1, .arr (ints f.shape.to)⟩),(2,⟨1, .arr (ints f.shape.id)⟩),(3,⟨1, .arr (aC f.shape.co)⟩),(4,⟨1, .arr (ints f.sizes)⟩),(5,⟨1, .arr (aC f.acts)⟩),(6,⟨1, .arr (ints g.shape.fr)⟩),(7,⟨1, .arr (ints g.shape.to)⟩),(8,⟨1, .arr (ints g.shape.id)⟩),(9,⟨1, .arr (aC g.shape.co)⟩),(10,⟨1, .arr (ints g.sizes)⟩),(11,⟨1, .arr (aC g.acts)⟩),(12,⟨1, .arr (aC p)⟩)]:=by
 refine aD (E:=TE) 0 Tryz.func119 rfl (by simp [Tryz.f119]) fun X hn hX=>?_
 repeat'(first|refine wkQ ?_|refine Tw.f ?_ ?_|(refine kcQ fX ?_;refine krQ (iS ?_) ?_)|(refine kcQ kZ ?_;refine krQ (nH ?_ ?_) ?_)|(refine fun(hc:(_:Bool)=_)=>?_;try simp only [hcS]at hc))
 all_goals try exact om_
 (first|refine aB ?_|refine aA ?_);simp only [go_sem,simprocAttr,Tryz.f119]
theorem jX:aE Tryz.prog 134:=⟨_,Tryz.func134,rfl,rfl⟩
theorem lX {f:SF} {x e:Int} (s:IsSF f):Spec Tryz.prog 134 [sfV f,iv x,iv e] [] (bv (dec (f.Elem x e))) []:=by
 refine aD (E:=TE) 0 Tryz.func134 rfl (by simp [Tryz.f134]) fun X hn hX=>?_
 have h1:=s.szl
 repeat'(first|refine wkQ ?_|refine Tw.f ?_ ?_|(refine kcQ lS ?_;refine krQ (nJ) ?_)|(refine fun(hc:(_:Bool)=_)=>?_;try simp only [hcS]at hc))
 all_goals try exact om_
 ·(first|refine aB ?_|refine aA ?_);simp only [go_sem,simprocAttr,Tryz.f134]
  exact congrArg (fun b=>Sv.v (.bool b)) (by rw [←jC];exact bW ⟨fun h=>⟨by assumption,hc,h⟩,fun h=>h.2.2⟩)
 ·(first|refine aB ?_|refine aA ?_);simp only [go_sem,simprocAttr,Tryz.f134]
  exact cK (fun h=>by have:=h.2.1;omega)
 ·(first|refine aB ?_|refine aA ?_);simp only [go_sem,simprocAttr,Tryz.f134]
  exact cK (fun h=>hc h.1)
theorem aBO:aE Tryz.prog 135:=⟨_,Tryz.func135,rfl,rfl⟩
theorem aDU {f:SF} {x e:Int} (s:IsSF f) (hb:SFB f) (h:f.Elem x e):Spec Tryz.prog 135 [sfV f,iv x,iv e] [] (.sl 0) [(0,⟨1, .arr (aC (f.eParts x e f.shape.ob.toNat))⟩)]:=by
 refine aD (E:=TE) 0 Tryz.func135 rfl (by simp [Tryz.f135]) fun X hn hX=>?_
 have hS:=s.cat.toShape
 have h8:=hS.ob8
 have h0:=hS.ob0
 have h40:=hS.m40
 have htl:=hS.tol
 repeat'(first|refine wkQ ?_|refine Tw.f ?_ ?_|(refine fun(hc:(_:Bool)=_)=>?_;try simp only [hcS]at hc))
 all_goals try exact om_
 refine aH (G:={y:Nat//y≤f.shape.ob.toNat∧(True)}) (fun⟨y,_⟩=>[(8,iv y),(7, .sl 1)]) [1,2,3,6] (fun⟨y,_⟩=>[(1,⟨1, .arr (aC (f.eParts x e y))⟩)]) [1] (fun zz=>f.shape.ob.toNat-zz.1) ⟨0,Nat.zero_le _,by first|trivial|simp⟩ ?_ ?_
 ·exact Imp.au hX
 rintro⟨y,hiy,hwy⟩
 simp only [go_sem,simprocAttr]
 have hlen:=f.shape.hom_len x y
 repeat'(first|refine wkQ ?_|refine Tw.f ?_ ?_|(refine kcQ xO ?_;refine krQ (aBs ?_ ?_) ?_)|(refine fun(hc:(_:Bool)=_)=>?_;try simp only [hcS]at hc))
 all_goals try exact om_
 ·refine aH (G:={k:Nat//k≤(f.shape.hom x y).length∧(True)}) (fun⟨k,_⟩=>[(11,iv k),(10, .sl 3)]) [1,2,3,6,7,8,9] (fun⟨k,_⟩=>[(3,⟨1, .arr (ints (f.eRow x e y k))⟩)]) [3] (fun zz=>(f.shape.hom x y).length-zz.1) ⟨0,Nat.zero_le _,by first|trivial|simp⟩ ?_ ?_
  ·exact Imp.au hX
  rintro⟨k,hik,hwk⟩
  simp only [go_sem,simprocAttr]
  have hm:=fun hk:k<(f.shape.hom x y).length=>SF.elem_act s h (bO (d:=0) hk)
  repeat'(first|refine wkQ ?_|refine Tw.f ?_ ?_|(refine fun(hc:(_:Bool)=_)=>?_;try simp only [hcS]at hc))
  all_goals try exact om_
  ·exact h.2.1
  ·have e1:=SF.eRow_succ (f:=f) (x:=x) (e:=e) (y:=y) (k:=k) (by omega)
   refine⟨⟨k+1,by omega,(by trivial)⟩,by simp only;omega,Imp.auto hX (by simp only [go_sem,simprocAttr,e1])⟩
  ·have e1:=SF.eParts_succ f x e y k (by omega)
   refine⟨⟨y+1,by omega,(by trivial)⟩,by simp only;omega,Imp.auto hX (by simp only [go_sem,simprocAttr,e1])⟩
 ·have e:y=f.shape.ob.toNat:=by omega
  subst e
  (first|refine aB ?_|refine aA ?_);simp only [go_sem,simprocAttr,Tryz.f135]
theorem pR:aE Tryz.prog 210:=⟨_,Tryz.func210,rfl,rfl⟩
theorem rC {f:SF} (hb:SFB f):Spec Tryz.prog 210 [.bptr [] (sfD f)] [] (.agg [iv f.shape.ob, .sl 0, .sl 1, .sl 2, .sl 3, .sl 4, .sl 5]) [(0,⟨1, .arr (ints f.shape.fr)⟩),(1,⟨1, .arr (ints f.shape.to)⟩),(2,⟨1, .arr (ints f.shape.id)⟩),(3,⟨1, .arr (aC f.shape.co)⟩),(4,⟨1, .arr (ints f.sizes)⟩),(5,⟨1, .arr (aC f.acts)⟩)]:=by
 refine aD (E:=TE) 0 Tryz.func210 rfl (by simp [Tryz.f210]) fun X hn hX=>?_
 obtain⟨b1,b2,b3,b4⟩:=hb
 repeat'(first|refine wkQ ?_|refine Tw.f ?_ ?_|(refine kcQ gM ?_;refine krQ (iQ ?_) ?_)|(refine kcQ tN ?_;refine krQ (zM ?_) ?_)|(refine kcQ mR ?_;refine krQ (pM ?_ ?_) ?_)|(refine fun(hc:(_:Bool)=_)=>?_;try simp only [hcS]at hc))
 all_goals try exact om_
 (first|refine aB ?_|refine aA ?_);simp only [go_sem,simprocAttr,Tryz.f210]
theorem aEr:aE Tryz.prog 112:=⟨_,Tryz.func112,rfl,rfl⟩
theorem aHq {f g:SF} {p:List (List Int)} (hf:SFB f) (hg:SFB g) (hp:p.length≤1048576) (hr:∀i,i<p.length→(p.getD i []).length≤1048576):Spec Tryz.prog 112 [.bptr [] (sfD f), .bptr [] (sfD g), .bor [] (aC p)] [] (.agg [iv f.shape.ob, .sl 0, .sl 1, .sl 2, .sl 3, .sl 4, .sl 5,iv g.shape.ob, .sl 6, .sl 7, .sl 8, .sl 9, .sl 10, .sl 11, .sl 12]) [(0,⟨1, .arr (ints f.shape.fr)⟩),(1,⟨1, .arr (ints f.shape.to)⟩),(2,⟨1, .arr (ints f.shape.id)⟩),(3,⟨1, .arr (aC f.shape.co)⟩),(4,⟨1, .arr (ints f.sizes)⟩),(5,⟨1, .arr (aC f.acts)⟩),(6,⟨1, .arr (ints g.shape.fr)⟩),(7,⟨1, .arr (ints g.shape.to)⟩),(8,⟨1, .arr (ints g.shape.id)⟩),(9,⟨1, .arr (aC g.shape.co)⟩),(10,⟨1, .arr (ints g.sizes)⟩),(11,⟨1, .arr (aC g.acts)⟩),(12,⟨1, .arr (aC p)⟩)]:=by
 refine aD (E:=TE) 0 Tryz.func112 rfl (by simp [Tryz.f112]) fun X hn hX=>?_
 repeat'(first|refine wkQ ?_|refine Tw.f ?_ ?_|(refine kcQ pR ?_;refine krQ (rC ?_) ?_)|(refine kcQ mR ?_;refine krQ (pM ?_ ?_) ?_)|(refine fun(hc:(_:Bool)=_)=>?_;try simp only [hcS]at hc))
 all_goals try exact om_
 (first|refine aB ?_|refine aA ?_);simp only [go_sem,simprocAttr,Tryz.f112]
theorem bN:aE Tryz.prog 131:=⟨_,Tryz.func131,rfl,rfl⟩
theorem dC {f:SF} {x e:Int} (s:IsSF f) (hb:SFB f):Spec Tryz.prog 131 [.bptr [] (sfD f),iv x,iv e] [] (iv (if dec (f.Elem x e)then 0 else 2)) []:=by
 refine aD (E:=TE) 0 Tryz.func131 rfl (by simp [Tryz.f131]) fun X hn hX=>?_
 have h1:=s.szl
 have hS:=s.cat.toShape
 have h8:=hS.ob8
 have h0:=hS.ob0
 have h17:=s.szw x.toNat
 repeat'(first|refine wkQ ?_|refine Tw.f ?_ ?_|(refine kcQ cN ?_;refine krQ (cV ?_) ?_)|(refine kcQ dQ ?_;refine krQ (fF) ?_)|(refine fun(hc:(_:Bool)=_)=>?_;try simp only [hcS]at hc))
 all_goals try exact om_
 ·exact absurd s hc
 ·(first|refine aB ?_|refine aA ?_);simp only [go_sem,simprocAttr,Tryz.f131]
  rw [pZ (fun h:f.Elem x e=>hc ⟨h.2.1,by have:=h.2.2;omega⟩)];rfl
 ·(first|refine aB ?_|refine aA ?_);simp only [go_sem,simprocAttr,Tryz.f131]
  rw [mG (show f.Elem x e from⟨⟨by omega,by omega⟩,by omega,by omega⟩)];rfl
 ·(first|refine aB ?_|refine aA ?_);simp only [go_sem,simprocAttr,Tryz.f131]
  rw [pZ (fun h:f.Elem x e=>hc ⟨h.1.1,by have:=h.1.2;omega⟩)];rfl
theorem jB {f:SF} {x e:Int} (n:¬IsSF f) (hb:SFB f):Spec Tryz.prog 131 [.bptr [] (sfD f),iv x,iv e] [] (iv 1) []:=by
 refine aD (E:=TE) 0 Tryz.func131 rfl (by simp [Tryz.f131]) fun X hn hX=>?_
 repeat'(first|refine wkQ ?_|refine Tw.f ?_ ?_|(refine kcQ cN ?_;refine krQ (cV ?_) ?_)|(refine fun(hc:(_:Bool)=_)=>?_;try simp only [hcS]at hc))
 all_goals try exact om_
 ·(first|refine aB ?_|refine aA ?_);simp only [go_sem,simprocAttr,Tryz.f131]
 all_goals exact absurd (by assumption) n
theorem jG:aE Tryz.prog 132:=⟨_,Tryz.func132,rfl,rfl⟩
theorem kN {f:SF} {x e:Int} (s:IsSF f) (hb:SFB f) (h:f.Elem x e):Spec Tryz.prog 132 [.bptr [] (sfD f),iv x,iv e] [] (.sl 0) [(0,⟨1, .arr (aC (f.eParts x e f.shape.ob.toNat))⟩)]:=by
 refine aD (E:=TE) 0 Tryz.func132 rfl (by simp [Tryz.f132]) fun X hn hX=>?_
 have hS:=s.cat.toShape
 have h8:=hS.ob8
 have h0:=hS.ob0
 have h40:=hS.m40
 have htl:=hS.tol
 repeat'(first|refine wkQ ?_|refine Tw.f ?_ ?_|(refine fun(hc:(_:Bool)=_)=>?_;try simp only [hcS]at hc))
 all_goals try exact om_
 refine aH (G:={y:Nat//y≤f.shape.ob.toNat∧(True)}) (fun⟨y,_⟩=>[(8,iv y),(7, .sl 0)]) [0,1,2,6] (fun⟨y,_⟩=>[(0,⟨1, .arr (aC (f.eParts x e y))⟩)]) [0] (fun zz=>f.shape.ob.toNat-zz.1) ⟨0,Nat.zero_le _,by first|trivial|simp⟩ ?_ ?_
 ·exact Imp.au hX
 rintro⟨y,hiy,hwy⟩
 simp only [go_sem,simprocAttr]
 have hlen:=f.shape.hom_len x y
 repeat'(first|refine wkQ ?_|refine Tw.f ?_ ?_|(refine kcQ iC ?_;refine krQ (jD ?_ ?_) ?_)|(refine fun(hc:(_:Bool)=_)=>?_;try simp only [hcS]at hc))
 all_goals try exact om_
 ·refine aH (G:={k:Nat//k≤(f.shape.hom x y).length∧(True)}) (fun⟨k,_⟩=>[(30,iv k),(9, .sl 1)]) [0,1,2,6,7,8,28,29] (fun⟨k,_⟩=>[(1,⟨1, .arr (ints (f.eRow x e y k))⟩)]) [1] (fun zz=>(f.shape.hom x y).length-zz.1) ⟨0,Nat.zero_le _,by first|trivial|simp⟩ ?_ ?_
  ·exact Imp.au hX
  rintro⟨k,hik,hwk⟩
  simp only [go_sem,simprocAttr]
  have hm:=fun hk:k<(f.shape.hom x y).length=>SF.elem_act s h (bO (d:=0) hk)
  repeat'(first|refine wkQ ?_|refine Tw.f ?_ ?_|(refine fun(hc:(_:Bool)=_)=>?_;try simp only [hcS]at hc))
  all_goals try exact om_
  ·exact h.2.1
  ·have e1:=SF.eRow_succ (f:=f) (x:=x) (e:=e) (y:=y) (k:=k) (by omega)
   refine⟨⟨k+1,by omega,(by trivial)⟩,by simp only;omega,Imp.auto hX (by simp only [go_sem,simprocAttr,e1])⟩
  ·have e1:=SF.eParts_succ f x e y k (by omega)
   refine⟨⟨y+1,by omega,(by trivial)⟩,by simp only;omega,Imp.auto hX (by simp only [go_sem,simprocAttr,e1])⟩
 ·have e:y=f.shape.ob.toNat:=by omega
  subst e
  (first|refine aB ?_|refine aA ?_);simp only [go_sem,simprocAttr,Tryz.f132]
end Go.Eng
