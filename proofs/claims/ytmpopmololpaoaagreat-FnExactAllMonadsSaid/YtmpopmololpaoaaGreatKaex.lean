/- Several texts in one: R23, R24, R25, R26. -/
import Derived.Test.YtmpopmololpaoaaGreatKadx
set_option linter.unusedSimpArgs false
set_option linter.unusedVariables false
set_option maxRecDepth 100000
set_option maxHeartbeats 16000000
section
namespace Go.Eng
open Go Go.Proofs Go.Cats
noncomputable def cbP (f : Fun) (d : Cat) (i : Nat) : List Int:=thn f.obs ((fcL f.tgt d).getD i default).obs
noncomputable def cbQ (f : Fun) (d : Cat) (i : Nat) : List Int:=thn f.ars ((fcL f.tgt d).getD i default).ars
noncomputable def cbF (f : Fun) (d : Cat) : Fun:=⟨fcK d (fcL f.tgt d),fcK d (fcL f.src d),btO (fun i=>fcAt (fcL f.src d) (cbP f d i) (cbQ f d i)) (fcL f.tgt d).length,btA (fun i=>fcAt (fcL f.src d) (cbP f d i) (cbQ f d i)) (fcA (fcL f.tgt d)) (fcA (fcL f.src d)) (fun a=>thn f.obs (((fcA (fcL f.tgt d)).getD a []).drop 2)) (fcA (fcL f.tgt d)).length⟩
attribute [local go_sem] List.set_cons_zero List.set_cons_succ
def CbOut (f : Fun) (d : Cat) (g : Fun) (code : Int) : Prop :=
  (¬ (IsFun f ∧ IsCat d) ∧ g = nilF ∧ code = 1) ∨ (IsFun f ∧ IsCat d ∧ ((¬ (FcY f.tgt d ∧ FcY f.src d) ∧ g = nilF ∧ code = 3) ∨ (FcY f.tgt d ∧ FcY f.src d ∧ g = cbF f d ∧ code = 0)))
theorem is_v {f : Fun} {v : Bool} (hb : FunB f) (h : dec (IsFun f) = v) : Spec Tryz.prog 75 [.bptr [] (funD f)] [] (bv v) []:=by
  subst h
  exact sp_Functor_isFunctor hb
end Go.Eng
end
section
namespace Go.Eng
open Go Go.Proofs Go.Cats
attribute [local go_sem] List.set_cons_zero List.set_cons_succ btO_zero btA_zero
theorem sp_l06Is_v {f : Fun} {v : Bool} (hb : FunB f) (h : dec (IsFun f) = v) : Spec Tryz.prog 71 [funV f] [] (bv v) []:=by
  subst h
  exact sp_l06Is hb
end Go.Eng
end
section
namespace Go.Eng
open Go Go.Proofs Go.Cats
noncomputable def chP (c : Cat) (g : Fun) (i : Nat) : List Int:=thn ((fcL c g.src).getD i default).obs g.obs
noncomputable def chQ (c : Cat) (g : Fun) (i : Nat) : List Int:=thn ((fcL c g.src).getD i default).ars g.ars
noncomputable def chF (c : Cat) (g : Fun) : Fun:=⟨fcK g.src (fcL c g.src),fcK g.tgt (fcL c g.tgt),btO (fun i=>fcAt (fcL c g.tgt) (chP c g i) (chQ c g i)) (fcL c g.src).length,btA (fun i=>fcAt (fcL c g.tgt) (chP c g i) (chQ c g i)) (fcA (fcL c g.src)) (fcA (fcL c g.tgt)) (fun a=>thn (((fcA (fcL c g.src)).getD a []).drop 2) g.ars) (fcA (fcL c g.src)).length⟩
attribute [local go_sem] List.set_cons_zero List.set_cons_succ
def ChOut (c : Cat) (g : Fun) (k : Fun) (code : Int) : Prop :=
  (¬ (IsCat c ∧ IsFun g) ∧ k = nilF ∧ code = 1) ∨ (IsCat c ∧ IsFun g ∧ ((¬ (FcY c g.src ∧ FcY c g.tgt) ∧ k = nilF ∧ code = 3) ∨ (FcY c g.src ∧ FcY c g.tgt ∧ k = chF c g ∧ code = 0)))
end Go.Eng
end
section
namespace Go.Eng
open Go Go.Proofs Go.Cats
attribute [local go_sem] List.set_cons_zero List.set_cons_succ btO_zero btA_zero
end Go.Eng
end
