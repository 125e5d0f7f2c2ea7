/- Several texts in one: R23, R24. -/
import Derived.Test.YtfinbajnalaomaaGreatKabx
set_option linter.unusedSimpArgs false
set_option linter.unusedVariables false
set_option maxRecDepth 100000
set_option maxHeartbeats 16000000
section
namespace Go.Eng
open Go Go.Proofs Go.Cats
noncomputable def cbP (f : Fun) (d : Cat) (i : Nat) : List Int := thn f.obs ((fcL f.tgt d).getD i default).obs
noncomputable def cbQ (f : Fun) (d : Cat) (i : Nat) : List Int := thn f.ars ((fcL f.tgt d).getD i default).ars
noncomputable def cbF (f : Fun) (d : Cat) : Fun := ⟨fcK d (fcL f.tgt d), fcK d (fcL f.src d), btO (fun i => fcAt (fcL f.src d) (cbP f d i) (cbQ f d i)) (fcL f.tgt d).length, btA (fun i => fcAt (fcL f.src d) (cbP f d i) (cbQ f d i)) (fcA (fcL f.tgt d)) (fcA (fcL f.src d)) (fun a => thn f.obs (((fcA (fcL f.tgt d)).getD a []).drop 2)) (fcA (fcL f.tgt d)).length⟩
attribute [local go_sem] List.set_cons_zero List.set_cons_succ
def CbOut (f : Fun) (d : Cat) (g : Fun) (code : Int) : Prop :=
  (¬ (IsFun f ∧ IsCat d) ∧ g = nilF ∧ code = 1) ∨ (IsFun f ∧ IsCat d ∧ ((¬ (FcY f.tgt d ∧ FcY f.src d) ∧ g = nilF ∧ code = 3) ∨ (FcY f.tgt d ∧ FcY f.src d ∧ g = cbF f d ∧ code = 0)))
theorem is_v {f : Fun} {v : Bool} (hb : FunB f) (h : dec (IsFun f) = v) : Spec Tryz.prog 22 [.bptr [] (funD f)] [] (bv v) [] := by
  subst h
  exact sp_Functor_isFunctor hb
theorem ic_v {c : Cat} {v : Bool} (hb : CatB c) (h : dec (IsCat c) = v) : Spec Tryz.prog 21 [.bptr [] (catD c)] [] (bv v) [] := by
  subst h
  exact sp_Category_isCategory hb
end Go.Eng
end
section
namespace Go.Eng
open Go Go.Proofs Go.Cats
attribute [local go_sem] List.set_cons_zero List.set_cons_succ btO_zero btA_zero
theorem sp_l06Is_v {f : Fun} {v : Bool} (hb : FunB f) (h : dec (IsFun f) = v) : Spec Tryz.prog 15 [funV f] [] (bv v) [] := by
  subst h
  exact sp_l06Is hb
end Go.Eng
end
