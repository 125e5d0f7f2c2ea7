/- Several texts in one: O08, K01, K02, K03. -/
import Derived.Test.YthgijhnmcglppaaGreatO07q
import Derived.Test.YthgijhnmcglppaaGreatKjx
import Derived.Test.YthgijhnmcglppaaGreatO09q
set_option linter.unusedSimpArgs false
set_option linter.unusedVariables false
set_option maxRecDepth 100000
set_option maxHeartbeats 16000000
section
namespace Go.Eng
open Go Go.Proofs Go.Cats
section
variable (c:Cat) (x:Int)
@[go_sem] theorem aBn:(c.rep x).shape=c:=rfl
end
theorem aEq:aE Tryz.prog 120:=⟨_,Tryz.func120,rfl,rfl⟩
theorem aHp {c:Cat} {x:Int} (hs:Shape c) (hb:CatB c):Spec Tryz.prog 120 [iE c,iv x] [] (.agg [iv c.ob, .sl 0, .sl 1, .sl 2, .sl 3, .sl 4, .sl 5]) [(0,⟨1, .arr (ints c.fr)⟩),(1,⟨1, .arr (ints c.to)⟩),(2,⟨1, .arr (ints c.id)⟩),(3,⟨1, .arr (aC c.co)⟩),(4,⟨1, .arr (ints (c.rep x).sizes)⟩),(5,⟨1, .arr (aC (c.rep x).acts)⟩)]:=by
 refine aD (E:=TE) 0 Tryz.func120 rfl (by simp [Tryz.f120]) fun X hn hX=>?_
 repeat'(first|refine wkQ ?_|refine Tw.f ?_ ?_|(refine kcQ vC ?_;refine krQ (aFa (x:=x) ?_ ?_) ?_)|(refine fun(hc:(_:Bool)=_)=>?_;try simp only [hcS]at hc))
 all_goals try exact om_
 (first|refine aB ?_|refine aA ?_);simp only [go_sem,simprocAttr,Tryz.f120]
theorem jW:aE Tryz.prog 40:=⟨_,Tryz.func40,rfl,rfl⟩
theorem qB {m:SM} {x:Int} (hb:SMB m):Spec Tryz.prog 40 [smV m,iv x] [] (.tup [iv (m.elemR x).1,iv (m.elemR x).2]) []:=by
 refine aD (E:=TE) 0 Tryz.func40 rfl (by simp [Tryz.f40]) fun X hn hX=>?_
 have hbs:=hb.src
 have hbc:=hbs.shape
 have hrow:=hb.row x.toNat
 by_cases hm:IsSM m
 ·have hS:=hm.src.cat.toShape
  have hR:=Cat.rep_sfb hS hbc x
  have hl:=m.src.shape.hom_len x x
  have h40:=hS.m40
  have htl:=hS.tol
  have hid:=fun k=>Cat.id_place hS (x:=x) k
  have hel:=fun k e=>SM.elem_row hm (x:=x) k e
  by_cases hsm:m.src.shape.small x
  ·repeat'(first|refine wkQ ?_|refine Tw.f ?_ ?_|(refine kcQ dE ?_;refine krQ (dM ?_) ?_)|(refine kcQ dQ ?_;refine krQ (fF) ?_)|(refine kcQ bK ?_;refine kwQ (cG (x:=x) hS hbc hsm) [(0,1),(1,2),(2,3),(3,4),(4,5),(5,6)] [0] ?_)|(refine kcQ aBR ?_;refine kwQ (aDX (f:=m.src.shape.rep x) (g:=m.src) hR hbs) [] [7,1,2,3,4,5,6,0] ?_)|(refine kcQ iC ?_;refine kwQ (jD (c:=m.src.shape) (x:=x) (y:=x) (by omega) htl) [(0,8)] [0] ?_)|(refine kcQ fS ?_;refine krQ (kO ?_) ?_)|(refine fun(hc:(_:Bool)=_)=>?_;try simp only [hcS]at hc))
   all_goals try exact om_
   ·exact absurd hm hc
   ·have:=hbc.ob1;have:=hS.ob0;omega
   ·have:=hbc.ob2;omega
   ·(first|refine aB ?_|refine aA ?_);simp only [go_sem,simprocAttr,Tryz.f40]
    rw [SM.elemR_2 hm (fun q=>hc ⟨q.1,by omega⟩)]
   ·(first|refine aB ?_|refine aA ?_);simp only [go_sem,simprocAttr,Tryz.f40]
    rw [SM.elemR_5 hm ⟨by omega,by omega⟩ (fun q=>hc q.2.symm)]
   all_goals try(have k:=hel ⟨by omega,by omega⟩ (by symm;assumption);have k2:=hid ⟨by omega,by omega⟩;omega)
   ·(first|refine aB ?_|refine aA ?_);simp only [go_sem,simprocAttr,Tryz.f40]
    rw [SM.elemR_0 hm ⟨by omega,by omega⟩ ⟨hsm,by symm;assumption⟩]
  ·repeat'(first|refine wkQ ?_|refine Tw.f ?_ ?_|(refine kcQ dE ?_;refine krQ (dM ?_) ?_)|(refine kcQ dQ ?_;refine krQ (fF) ?_)|(refine kcQ bK ?_;refine kwQ (eB (x:=x) hS hbc hsm) [] [0] ?_)|(refine fun(hc:(_:Bool)=_)=>?_;try simp only [hcS]at hc))
   all_goals try exact om_
   ·exact absurd hm hc
   ·have:=hbc.ob1;have:=hS.ob0;omega
   ·have:=hbc.ob2;omega
   ·(first|refine aB ?_|refine aA ?_);simp only [go_sem,simprocAttr,Tryz.f40]
    rw [SM.elemR_2 hm (fun q=>hc ⟨q.1,by omega⟩)]
   ·(first|refine aB ?_|refine aA ?_);simp only [go_sem,simprocAttr,Tryz.f40]
    rw [SM.elemR_5 hm ⟨by omega,by omega⟩ (fun q=>hsm q.1)]
 ·repeat'(first|refine wkQ ?_|refine Tw.f ?_ ?_|(refine kcQ dE ?_;refine krQ (dM ?_) ?_)|(refine fun(hc:(_:Bool)=_)=>?_;try simp only [hcS]at hc))
  all_goals try exact om_
  ·(first|refine aB ?_|refine aA ?_);simp only [go_sem,simprocAttr,Tryz.f40]
   rw [SM.elemR_1 hm]
  all_goals exact absurd (by assumption) hm
end Go.Eng
end
section
namespace Go.Eng
open Go Go.Proofs Go.Cats
attribute [local go_sem] List.set_cons_zero List.set_cons_succ
theorem aNZ {f g:SF} (a:f.shape=g.shape) (b:f.sizes=g.sizes) (c:f.acts=g.acts):f=g:=by
 cases f;cases g;simp only at a b c;subst a;subst b;subst c;rfl
theorem aN3 {f g:SM} (a:f.src=g.src) (b:f.tgt=g.tgt) (c:f.parts=g.parts):f=g:=by
 cases f;cases g;simp only at a b c;subst a;subst b;subst c;rfl
theorem iV:aE Tryz.prog 50:=⟨_,Tryz.func50,rfl,rfl⟩
theorem jL {f g:SF} (hf:SFB f) (hg:SFB g):Spec Tryz.prog 50 [sfV f,sfV g] [] (bv (dec (f=g))) []:=by
 refine aD (E:=TE) 0 Tryz.func50 rfl (by simp [Tryz.f50]) fun X hn hX=>?_
 have f1:=hf.shape
 have f2:=hf.sizes
 have f3:=hf.acts
 have f4:=hf.row
 have g1:=hg.shape
 have g2:=hg.sizes
 have g3:=hg.acts
 have g4:=hg.row
 repeat'(first|refine wkQ ?_|refine Tw.f ?_ ?_|(refine kcQ aBQ ?_;refine krQ (aDW ?_ ?_) ?_)|(refine kcQ mT ?_;refine krQ (oT ?_ ?_) ?_)|(refine kcQ mU ?_;refine krQ (pN ?_ ?_ ?_ ?_) ?_)|(refine fun(hc:(_:Bool)=_)=>?_;try simp only [hcS]at hc))
 all_goals try exact om_
 ·(first|refine aB ?_|refine aA ?_);simp only [go_sem,simprocAttr,Tryz.f50]
  exact congrArg bv (bW ⟨fun h=>aNZ (by assumption) (by assumption) h,fun h=>congrArg SF.acts h⟩)
 ·(first|refine aB ?_|refine aA ?_);simp only [go_sem,simprocAttr,Tryz.f50]
  exact cK (fun h=>hc (congrArg SF.sizes h))
 ·(first|refine aB ?_|refine aA ?_);simp only [go_sem,simprocAttr,Tryz.f50]
  exact cK (fun h=>hc (congrArg SF.shape h))
theorem mV:aE Tryz.prog 39:=⟨_,Tryz.func39,rfl,rfl⟩
theorem oU {f g:SM} (hf:SMB f) (hg:SMB g):Spec Tryz.prog 39 [smV f,smV g] [] (bv (dec (f=g))) []:=by
 refine aD (E:=TE) 0 Tryz.func39 rfl (by simp [Tryz.f39]) fun X hn hX=>?_
 have f1:=hf.src
 have f2:=hf.tgt
 have f3:=hf.parts
 have f4:=hf.row
 have g1:=hg.src
 have g2:=hg.tgt
 have g3:=hg.parts
 have g4:=hg.row
 repeat'(first|refine wkQ ?_|refine Tw.f ?_ ?_|(refine kcQ iV ?_;refine krQ (jL (f:=f.src) (g:=g.src) ?_ ?_) ?_)|(refine kcQ iV ?_;refine krQ (jL (f:=f.tgt) (g:=g.tgt) ?_ ?_) ?_)|(refine kcQ mU ?_;refine krQ (pN ?_ ?_ ?_ ?_) ?_)|(refine fun(hc:(_:Bool)=_)=>?_;try simp only [hcS]at hc))
 all_goals try exact om_
 ·(first|refine aB ?_|refine aA ?_);simp only [go_sem,simprocAttr,Tryz.f39]
  exact congrArg bv (bW ⟨fun h=>aN3 (by assumption) (by assumption) h,fun h=>congrArg SM.parts h⟩)
 ·(first|refine aB ?_|refine aA ?_);simp only [go_sem,simprocAttr,Tryz.f39]
  exact cK (fun h=>hc (congrArg SM.tgt h))
 ·(first|refine aB ?_|refine aA ?_);simp only [go_sem,simprocAttr,Tryz.f39]
  exact cK (fun h=>hc (congrArg SM.src h))
def thP (s t:List (List Int)) (i:Nat):List (List Int):=(List.range i).map fun x=>thn (s.getD x []) (t.getD x [])
theorem aKi (s t:List (List Int)):thP s t 0=[]:=rfl
attribute [local go_sem] aKi
end Go.Eng
end
section
namespace Go.Eng
open Go Go.Proofs Go.Cats
attribute [local go_sem] List.set_cons_zero List.set_cons_succ
def arR (c:Cat) (h:Int) (z i:Nat):List Int:=((c.hom (c.T h) z).take i).map fun k=>idxOf (c.hom (c.F h) z) (c.C h k)
theorem aHK (c:Cat) (h:Int) (z:Nat):arR c h z 0=[]:=rfl
theorem aHJ (c:Cat) (h:Int):arP c h 0=[]:=rfl
attribute [local go_sem] aHK aHJ
end Go.Eng
end
section
namespace Go.Eng
open Go Go.Proofs Go.Cats
attribute [local go_sem] List.set_cons_zero List.set_cons_succ
abbrev smO (n:Nat) (m:SM):Sv:= .agg [iv m.src.shape.ob, .sl n, .sl (n+1), .sl (n+2), .sl (n+3), .sl (n+4), .sl (n+5),iv m.tgt.shape.ob, .sl (n+6), .sl (n+7), .sl (n+8), .sl (n+9), .sl (n+10), .sl (n+11), .sl (n+12)]
abbrev smQ (n:Nat) (m:SM):List (Nat×Rs):=[(n,⟨1, .arr (ints m.src.shape.fr)⟩),(n+1,⟨1, .arr (ints m.src.shape.to)⟩),(n+2,⟨1, .arr (ints m.src.shape.id)⟩),(n+3,⟨1, .arr (aC m.src.shape.co)⟩),(n+4,⟨1, .arr (ints m.src.sizes)⟩),(n+5,⟨1, .arr (aC m.src.acts)⟩),(n+6,⟨1, .arr (ints m.tgt.shape.fr)⟩),(n+7,⟨1, .arr (ints m.tgt.shape.to)⟩),(n+8,⟨1, .arr (ints m.tgt.shape.id)⟩),(n+9,⟨1, .arr (aC m.tgt.shape.co)⟩),(n+10,⟨1, .arr (ints m.tgt.sizes)⟩),(n+11,⟨1, .arr (aC m.tgt.acts)⟩),(n+12,⟨1, .arr (aC m.parts)⟩)]
attribute [go_sem] smQ
end Go.Eng
end
