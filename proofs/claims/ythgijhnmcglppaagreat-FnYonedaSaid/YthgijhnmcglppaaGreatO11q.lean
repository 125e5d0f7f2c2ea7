/- The map of an element, by the reference and by the program: where it is made, and where it is not. -/
import Derived.Test.YthgijhnmcglppaaGreatO08y
set_option linter.unusedSimpArgs false
set_option linter.unusedVariables false
set_option maxRecDepth 100000
set_option maxHeartbeats 8000000
namespace Go.Eng
open Go Go.Proofs Go.Cats
attribute [go_sem] List.set_cons_zero List.set_cons_succ
theorem aN {X:Cx} {E:Env} {Q:Exit→Ss→Prop} {σ τ:Ss} (h:Imp X σ τ) (k:V X E .ret τ Q):V X E .ret σ Q:=dN h k
@[go_sem] theorem aPv (f:SF) (x e:Int):(f.eMap x e).src=f.shape.rep x:=rfl
@[go_sem] theorem aPw (f:SF) (x e:Int):(f.eMap x e).tgt=f:=rfl
@[go_sem] theorem aM8 (f:SF) (x e:Int):(f.eMap x e).parts=f.eParts x e f.shape.ob.toNat:=rfl
def _root_.Go.Cats.SF.ENo (f:SF) (x e code:Int):Prop:=(¬IsSF f∧code=1)∨(IsSF f∧¬f.Elem x e∧code=2)∨(IsSF f∧f.Elem x e∧¬f.shape.small x∧code=3)
theorem fN:aE Tryz.prog 46:=⟨_,Tryz.func46,rfl,rfl⟩
theorem nL {f:SF} {x e:Int} (s:IsSF f) (hb:SFB f) (h:f.Elem x e) (hsm:f.shape.small x):Spec Tryz.prog 46 [sfV f,iv x,iv e] []
  (.tup [.agg [iv f.shape.ob, .sl 0, .sl 1, .sl 2, .sl 3, .sl 4, .sl 5,iv f.shape.ob, .sl 6, .sl 7, .sl 8, .sl 9, .sl 10, .sl 11, .sl 12],iv 0]) [(0,⟨1, .arr (ints f.shape.fr)⟩),(1,⟨1, .arr (ints f.shape.to)⟩),(2,⟨1, .arr (ints f.shape.id)⟩),(3,⟨1, .arr (aC f.shape.co)⟩),(4,⟨1, .arr (ints (f.shape.rep x).sizes)⟩),(5,⟨1, .arr (aC (f.shape.rep x).acts)⟩),(6,⟨1, .arr (ints f.shape.fr)⟩),(7,⟨1, .arr (ints f.shape.to)⟩),(8,⟨1, .arr (ints f.shape.id)⟩),(9,⟨1, .arr (aC f.shape.co)⟩),(10,⟨1, .arr (ints f.sizes)⟩),(11,⟨1, .arr (aC f.acts)⟩),(12,⟨1, .arr (aC (f.eParts x e f.shape.ob.toNat))⟩)]:=by
 refine aD (E:=TE) 0 Tryz.func46 rfl (by simp [Tryz.f46]) fun X hn hX=>?_
 have hbc:=hb.shape
 have hS:=s.cat.toShape
 have hM:=SF.eMap_smb hS hb x e
 have hR:=hM.src
 have hp:=hM.parts
 have hrow:=hM.row
 repeat'(first|refine wkQ ?_|refine Tw.f ?_ ?_|(refine kcQ iD ?_;refine krQ (kP ?_) ?_)|(refine kcQ jX ?_;refine krQ (lX ?_) ?_)|(refine kcQ rP ?_;refine krQ (vN ?_) ?_)|(refine kcQ aEq ?_;refine krQ (aHp ?_ ?_) ?_)|(refine kcQ aBO ?_;refine krQ (aDU ?_ ?_ ?_) ?_)|(refine kcQ aCO ?_;refine krQ (aFb (f:=f.shape.rep x) (g:=f) ?_ ?_ ?_ ?_) ?_)|(refine fun(hc:(_:Bool)=_)=>?_;try simp only [hcS]at hc))
 all_goals try exact om_
 all_goals try(first|exact absurd s hc|exact absurd h hc|exact absurd hsm hc)
 ·exact hR
 ·first|exact hp|(have:=hS.ob8;omega)
 ·first|exact hrow|exact fun i hi=>hrow i (by show i<(f.eParts x e f.shape.ob.toNat).length;rw [SF.eParts_len];exact hi)
 ·(first|refine aB ?_|refine aA ?_);simp only [go_sem,simprocAttr,Tryz.f46]
theorem nV {f:SF} {x e code:Int} (hb:SFB f) (hno:f.ENo x e code):Spec Tryz.prog 46 [sfV f,iv x,iv e] []
  (.tup [.agg [iv 0, .sl 0, .sl 1, .sl 2, .sl 3, .sl 4, .sl 5,iv 0, .sl 6, .sl 7, .sl 8, .sl 9, .sl 10, .sl 11, .sl 12],iv code]) [(0,⟨1, .arr (ints [])⟩),(1,⟨1, .arr (ints [])⟩),(2,⟨1, .arr (ints [])⟩),(3,⟨1, .arr (aC [])⟩),(4,⟨1, .arr (ints [])⟩),(5,⟨1, .arr (aC [])⟩),(6,⟨1, .arr (ints [])⟩),(7,⟨1, .arr (ints [])⟩),(8,⟨1, .arr (ints [])⟩),(9,⟨1, .arr (aC [])⟩),(10,⟨1, .arr (ints [])⟩),(11,⟨1, .arr (aC [])⟩),(12,⟨1, .arr (aC [])⟩)]:=by
 refine aD (E:=TE) 0 Tryz.func46 rfl (by simp [Tryz.f46]) fun X hn hX=>?_
 rcases hno with⟨n1,rfl⟩|⟨s,n2,rfl⟩|⟨s,h,n3,rfl⟩
 ·repeat'(first|refine aN (Imp.adoptBi 1 1 _ _ rfl rfl rfl (by rw [hX];rfl)) ?_|refine aN (Imp.adoptBi 1 2 _ _ rfl rfl rfl (by rw [hX];rfl)) ?_|refine aN (Imp.adoptBi 1 3 _ _ rfl rfl rfl (by rw [hX];rfl)) ?_|refine aN (Imp.adoptBs 1 4 _ _ rfl rfl rfl (by rw [hX];rfl)) ?_|refine aN (Imp.adoptBi 1 5 _ _ rfl rfl rfl (by rw [hX];rfl)) ?_|refine aN (Imp.adoptBs 1 6 _ _ rfl rfl rfl (by rw [hX];rfl)) ?_|refine aN (Imp.adoptBi 1 8 _ _ rfl rfl rfl (by rw [hX];rfl)) ?_|refine aN (Imp.adoptBi 1 9 _ _ rfl rfl rfl (by rw [hX];rfl)) ?_|refine aN (Imp.adoptBi 1 10 _ _ rfl rfl rfl (by rw [hX];rfl)) ?_|refine aN (Imp.adoptBs 1 11 _ _ rfl rfl rfl (by rw [hX];rfl)) ?_|refine aN (Imp.adoptBi 1 12 _ _ rfl rfl rfl (by rw [hX];rfl)) ?_|refine aN (Imp.adoptBs 1 13 _ _ rfl rfl rfl (by rw [hX];rfl)) ?_|refine aN (Imp.adoptBs 1 14 _ _ rfl rfl rfl (by rw [hX];rfl)) ?_|(with_reducible first|refine St.f ?_|refine V_c ?_|refine eDn ?_|refine And.intro ?_ ?_|refine aJ ?_ ?_)|((refine aT ?_);intro K hK)|((with_reducible refine So.f ?_);intro K hK;simp(contextual:=true)only [go_sem,simprocAttr])|((with_reducible refine hK _ ?_);clear hK K)|((with_reducible refine aG 133 ?_);refine EvCall.rr (kP ?_) iD ?_)|(refine fun(hc:(_:Bool)=_)=>?_;try simp only [hcS]at hc))
  all_goals try exact om_
  ·(first|refine aB ?_|refine aA ?_);simp only [go_sem,simprocAttr,Tryz.f46]
  all_goals exact absurd (by assumption) n1
 ·repeat'(first|refine aN (Imp.adoptBi 1 1 _ _ rfl rfl rfl (by rw [hX];rfl)) ?_|refine aN (Imp.adoptBi 1 2 _ _ rfl rfl rfl (by rw [hX];rfl)) ?_|refine aN (Imp.adoptBi 1 3 _ _ rfl rfl rfl (by rw [hX];rfl)) ?_|refine aN (Imp.adoptBs 1 4 _ _ rfl rfl rfl (by rw [hX];rfl)) ?_|refine aN (Imp.adoptBi 1 5 _ _ rfl rfl rfl (by rw [hX];rfl)) ?_|refine aN (Imp.adoptBs 1 6 _ _ rfl rfl rfl (by rw [hX];rfl)) ?_|refine aN (Imp.adoptBi 1 8 _ _ rfl rfl rfl (by rw [hX];rfl)) ?_|refine aN (Imp.adoptBi 1 9 _ _ rfl rfl rfl (by rw [hX];rfl)) ?_|refine aN (Imp.adoptBi 1 10 _ _ rfl rfl rfl (by rw [hX];rfl)) ?_|refine aN (Imp.adoptBs 1 11 _ _ rfl rfl rfl (by rw [hX];rfl)) ?_|refine aN (Imp.adoptBi 1 12 _ _ rfl rfl rfl (by rw [hX];rfl)) ?_|refine aN (Imp.adoptBs 1 13 _ _ rfl rfl rfl (by rw [hX];rfl)) ?_|refine aN (Imp.adoptBs 1 14 _ _ rfl rfl rfl (by rw [hX];rfl)) ?_|(with_reducible first|refine St.f ?_|refine V_c ?_|refine eDn ?_|refine And.intro ?_ ?_|refine aJ ?_ ?_)|((refine aT ?_);intro K hK)|((with_reducible refine So.f ?_);intro K hK;simp(contextual:=true)only [go_sem,simprocAttr])|((with_reducible refine hK _ ?_);clear hK K)|((with_reducible refine aG 133 ?_);refine EvCall.rr (kP ?_) iD ?_)|((with_reducible refine aG 134 ?_);refine EvCall.rr (lX ?_) jX ?_)|(refine fun(hc:(_:Bool)=_)=>?_;try simp only [hcS]at hc))
  all_goals try exact om_
  ·exact absurd s hc
  ·(first|refine aB ?_|refine aA ?_);simp only [go_sem,simprocAttr,Tryz.f46]
  all_goals exact absurd (by assumption) n2
 ·have hS:=s.cat.toShape
  repeat'(first|refine aN (Imp.adoptBi 1 1 _ _ rfl rfl rfl (by rw [hX];rfl)) ?_|refine aN (Imp.adoptBi 1 2 _ _ rfl rfl rfl (by rw [hX];rfl)) ?_|refine aN (Imp.adoptBi 1 3 _ _ rfl rfl rfl (by rw [hX];rfl)) ?_|refine aN (Imp.adoptBs 1 4 _ _ rfl rfl rfl (by rw [hX];rfl)) ?_|refine aN (Imp.adoptBi 1 5 _ _ rfl rfl rfl (by rw [hX];rfl)) ?_|refine aN (Imp.adoptBs 1 6 _ _ rfl rfl rfl (by rw [hX];rfl)) ?_|refine aN (Imp.adoptBi 1 8 _ _ rfl rfl rfl (by rw [hX];rfl)) ?_|refine aN (Imp.adoptBi 1 9 _ _ rfl rfl rfl (by rw [hX];rfl)) ?_|refine aN (Imp.adoptBi 1 10 _ _ rfl rfl rfl (by rw [hX];rfl)) ?_|refine aN (Imp.adoptBs 1 11 _ _ rfl rfl rfl (by rw [hX];rfl)) ?_|refine aN (Imp.adoptBi 1 12 _ _ rfl rfl rfl (by rw [hX];rfl)) ?_|refine aN (Imp.adoptBs 1 13 _ _ rfl rfl rfl (by rw [hX];rfl)) ?_|refine aN (Imp.adoptBs 1 14 _ _ rfl rfl rfl (by rw [hX];rfl)) ?_|(with_reducible first|refine St.f ?_|refine V_c ?_|refine eDn ?_|refine And.intro ?_ ?_|refine aJ ?_ ?_)|((refine aT ?_);intro K hK)|((with_reducible refine So.f ?_);intro K hK;simp(contextual:=true)only [go_sem,simprocAttr])|((with_reducible refine hK _ ?_);clear hK K)|((with_reducible refine aG 133 ?_);refine EvCall.rr (kP ?_) iD ?_)|((with_reducible refine aG 134 ?_);refine EvCall.rr (lX ?_) jX ?_)|((with_reducible refine aG 115 ?_);refine EvCall.rr (vN ?_) rP ?_)|(refine fun(hc:(_:Bool)=_)=>?_;try simp only [hcS]at hc))
  all_goals try exact om_
  ·exact absurd s hc
  ·exact absurd h hc
  ·(first|refine aB ?_|refine aA ?_);simp only [go_sem,simprocAttr,Tryz.f46]
  all_goals exact absurd (by assumption) n3
theorem gN:aE Tryz.prog 45:=⟨_,Tryz.func45,rfl,rfl⟩
theorem sX {f:SF} {x e:Int} (s:IsSF f) (hb:SFB f) (h:f.Elem x e) (hsm:f.shape.small x):Spec Tryz.prog 45 [sfV f,iv x,iv e] []
  (.tup [.agg [iv f.shape.ob, .sl 0, .sl 1, .sl 2, .sl 3, .sl 4, .sl 5,iv f.shape.ob, .sl 6, .sl 7, .sl 8, .sl 9, .sl 10, .sl 11, .sl 12],iv 0]) [(0,⟨1, .arr (ints f.shape.fr)⟩),(1,⟨1, .arr (ints f.shape.to)⟩),(2,⟨1, .arr (ints f.shape.id)⟩),(3,⟨1, .arr (aC f.shape.co)⟩),(4,⟨1, .arr (ints (f.shape.rep x).sizes)⟩),(5,⟨1, .arr (aC (f.shape.rep x).acts)⟩),(6,⟨1, .arr (ints f.shape.fr)⟩),(7,⟨1, .arr (ints f.shape.to)⟩),(8,⟨1, .arr (ints f.shape.id)⟩),(9,⟨1, .arr (aC f.shape.co)⟩),(10,⟨1, .arr (ints f.sizes)⟩),(11,⟨1, .arr (aC f.acts)⟩),(12,⟨1, .arr (aC (f.eParts x e f.shape.ob.toNat))⟩)]:=by
 refine aD (E:=TE) 0 Tryz.func45 rfl (by simp [Tryz.f45]) fun X hn hX=>?_
 have hbc:=hb.shape
 have hS:=s.cat.toShape
 have hM:=SF.eMap_smb hS hb x e
 have hR:=hM.src
 have hp:=hM.parts
 have hrow:=hM.row
 have hd:=mG h
 repeat'(first|refine wkQ ?_|refine Tw.f ?_ ?_|(refine kcQ bN ?_;refine krQ (dC ?_ ?_) ?_)|(refine kcQ bK ?_;refine kwQ (cG (x:=x) hS hbc hsm) [(0,2),(1,3),(2,4),(3,5),(4,6),(5,7)] [0] ?_)|(refine kcQ jG ?_;refine krQ (kN ?_ ?_ ?_) ?_)|(refine kcQ aEr ?_;refine kwQ (aHq (f:=f.shape.rep x) (g:=f) (p:=f.eParts x e f.shape.ob.toNat) hR hb hp hrow) [(0,10),(1,11),(2,12),(3,13),(4,14),(5,15),(6,16),(7,17),(8,18),(9,19),(10,20),(11,21),(12,22)] [8,2,3,4,5,6,7,0,9] ?_)|(refine fun(hc:(_:Bool)=_)=>?_;try simp only [hcS]at hc))
 all_goals try exact om_
 ·rw [hd]at hc;exact absurd rfl hc
 ·(first|refine aB ?_|refine aA ?_);simp only [go_sem,simprocAttr,Tryz.f45]
theorem uG {f:SF} {x e code:Int} (hb:SFB f) (hno:f.ENo x e code):Spec Tryz.prog 45 [sfV f,iv x,iv e] []
  (.tup [.agg [iv 0, .sl 0, .sl 1, .sl 2, .sl 3, .sl 4, .sl 5,iv 0, .sl 6, .sl 7, .sl 8, .sl 9, .sl 10, .sl 11, .sl 12],iv code]) [(0,⟨1, .arr (ints [])⟩),(1,⟨1, .arr (ints [])⟩),(2,⟨1, .arr (ints [])⟩),(3,⟨1, .arr (aC [])⟩),(4,⟨1, .arr (ints [])⟩),(5,⟨1, .arr (aC [])⟩),(6,⟨1, .arr (ints [])⟩),(7,⟨1, .arr (ints [])⟩),(8,⟨1, .arr (ints [])⟩),(9,⟨1, .arr (aC [])⟩),(10,⟨1, .arr (ints [])⟩),(11,⟨1, .arr (aC [])⟩),(12,⟨1, .arr (aC [])⟩)]:=by
 refine aD (E:=TE) 0 Tryz.func45 rfl (by simp [Tryz.f45]) fun X hn hX=>?_
 rcases hno with⟨n1,rfl⟩|⟨s,n2,rfl⟩|⟨s,h,n3,rfl⟩
 ·repeat'(first|refine aN (Imp.adoptBi 1 1 _ _ rfl rfl rfl (by rw [hX];rfl)) ?_|refine aN (Imp.adoptBi 1 2 _ _ rfl rfl rfl (by rw [hX];rfl)) ?_|refine aN (Imp.adoptBi 1 3 _ _ rfl rfl rfl (by rw [hX];rfl)) ?_|refine aN (Imp.adoptBs 1 4 _ _ rfl rfl rfl (by rw [hX];rfl)) ?_|refine aN (Imp.adoptBi 1 5 _ _ rfl rfl rfl (by rw [hX];rfl)) ?_|refine aN (Imp.adoptBs 1 6 _ _ rfl rfl rfl (by rw [hX];rfl)) ?_|refine aN (Imp.adoptBi 1 8 _ _ rfl rfl rfl (by rw [hX];rfl)) ?_|refine aN (Imp.adoptBi 1 9 _ _ rfl rfl rfl (by rw [hX];rfl)) ?_|refine aN (Imp.adoptBi 1 10 _ _ rfl rfl rfl (by rw [hX];rfl)) ?_|refine aN (Imp.adoptBs 1 11 _ _ rfl rfl rfl (by rw [hX];rfl)) ?_|refine aN (Imp.adoptBi 1 12 _ _ rfl rfl rfl (by rw [hX];rfl)) ?_|refine aN (Imp.adoptBs 1 13 _ _ rfl rfl rfl (by rw [hX];rfl)) ?_|refine aN (Imp.adoptBs 1 14 _ _ rfl rfl rfl (by rw [hX];rfl)) ?_|(with_reducible first|refine St.f ?_|refine V_c ?_|refine And.intro ?_ ?_|refine aJ ?_ ?_)|((refine aT ?_);intro K hK)|((with_reducible refine So.f ?_);intro K hK;simp(contextual:=true)only [go_sem,simprocAttr])|((with_reducible refine hK _ ?_);clear hK K)|((with_reducible refine aG 131 ?_);refine EvCall.rq (a:=(jB (by first|omega|assumption|rfl) (by first|omega|assumption|rfl))) (b:=bN) (c:=?_);all_goals try simp only [go_sem,simprocAttr])|(refine fun(hc:(_:Bool)=_)=>?_;try simp only [hcS]at hc))
  all_goals try exact om_
  ·(first|refine aB ?_|refine aA ?_);simp only [go_sem,simprocAttr,Tryz.f45]
  all_goals exact absurd hc (by decide)
 ·have hd:=pZ n2
  repeat'(first|refine aN (Imp.adoptBi 1 1 _ _ rfl rfl rfl (by rw [hX];rfl)) ?_|refine aN (Imp.adoptBi 1 2 _ _ rfl rfl rfl (by rw [hX];rfl)) ?_|refine aN (Imp.adoptBi 1 3 _ _ rfl rfl rfl (by rw [hX];rfl)) ?_|refine aN (Imp.adoptBs 1 4 _ _ rfl rfl rfl (by rw [hX];rfl)) ?_|refine aN (Imp.adoptBi 1 5 _ _ rfl rfl rfl (by rw [hX];rfl)) ?_|refine aN (Imp.adoptBs 1 6 _ _ rfl rfl rfl (by rw [hX];rfl)) ?_|refine aN (Imp.adoptBi 1 8 _ _ rfl rfl rfl (by rw [hX];rfl)) ?_|refine aN (Imp.adoptBi 1 9 _ _ rfl rfl rfl (by rw [hX];rfl)) ?_|refine aN (Imp.adoptBi 1 10 _ _ rfl rfl rfl (by rw [hX];rfl)) ?_|refine aN (Imp.adoptBs 1 11 _ _ rfl rfl rfl (by rw [hX];rfl)) ?_|refine aN (Imp.adoptBi 1 12 _ _ rfl rfl rfl (by rw [hX];rfl)) ?_|refine aN (Imp.adoptBs 1 13 _ _ rfl rfl rfl (by rw [hX];rfl)) ?_|refine aN (Imp.adoptBs 1 14 _ _ rfl rfl rfl (by rw [hX];rfl)) ?_|(with_reducible first|refine St.f ?_|refine V_c ?_|refine And.intro ?_ ?_|refine aJ ?_ ?_)|((refine aT ?_);intro K hK)|((with_reducible refine So.f ?_);intro K hK;simp(contextual:=true)only [go_sem,simprocAttr])|((with_reducible refine hK _ ?_);clear hK K)|((with_reducible refine aG 131 ?_);refine EvCall.rr (dC ?_ ?_) bN ?_)|(refine fun(hc:(_:Bool)=_)=>?_;try simp only [hcS]at hc))
  all_goals try exact om_
  ·(first|refine aB ?_|refine aA ?_);simp only [go_sem,simprocAttr,Tryz.f45]
   rw [hd];rfl
  all_goals(rw [hd]at hc;exact absurd hc (by decide))
 ·have hS:=s.cat.toShape
  have hbc:=hb.shape
  have hd:=mG h
  repeat'(first|refine aN (Imp.adoptBi 1 1 _ _ rfl rfl rfl (by rw [hX];rfl)) ?_|refine aN (Imp.adoptBi 1 2 _ _ rfl rfl rfl (by rw [hX];rfl)) ?_|refine aN (Imp.adoptBi 1 3 _ _ rfl rfl rfl (by rw [hX];rfl)) ?_|refine aN (Imp.adoptBs 1 4 _ _ rfl rfl rfl (by rw [hX];rfl)) ?_|refine aN (Imp.adoptBi 1 5 _ _ rfl rfl rfl (by rw [hX];rfl)) ?_|refine aN (Imp.adoptBs 1 6 _ _ rfl rfl rfl (by rw [hX];rfl)) ?_|refine aN (Imp.adoptBi 1 8 _ _ rfl rfl rfl (by rw [hX];rfl)) ?_|refine aN (Imp.adoptBi 1 9 _ _ rfl rfl rfl (by rw [hX];rfl)) ?_|refine aN (Imp.adoptBi 1 10 _ _ rfl rfl rfl (by rw [hX];rfl)) ?_|refine aN (Imp.adoptBs 1 11 _ _ rfl rfl rfl (by rw [hX];rfl)) ?_|refine aN (Imp.adoptBi 1 12 _ _ rfl rfl rfl (by rw [hX];rfl)) ?_|refine aN (Imp.adoptBs 1 13 _ _ rfl rfl rfl (by rw [hX];rfl)) ?_|refine aN (Imp.adoptBs 1 14 _ _ rfl rfl rfl (by rw [hX];rfl)) ?_|(with_reducible first|refine St.f ?_|refine V_c ?_|refine And.intro ?_ ?_|refine aJ ?_ ?_)|((refine aT ?_);intro K hK)|((with_reducible refine So.f ?_);intro K hK;simp(contextual:=true)only [go_sem,simprocAttr])|((with_reducible refine hK _ ?_);clear hK K)|((with_reducible refine aG 131 ?_);refine EvCall.rr (dC ?_ ?_) bN ?_)|((with_reducible refine aG 111 ?_);refine EvCall.mr (eB (x:=x) hS hbc n3) bK [] [0] ?_)|(refine fun(hc:(_:Bool)=_)=>?_;try simp only [hcS]at hc))
  all_goals try exact om_
  ·rw [hd]at hc;exact absurd rfl hc
  ·(first|refine aB ?_|refine aA ?_);simp only [go_sem,simprocAttr,Tryz.f45]
end Go.Eng
