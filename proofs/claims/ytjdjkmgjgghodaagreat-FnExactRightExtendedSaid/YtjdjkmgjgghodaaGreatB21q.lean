/- Natural maps between right extensions by the program. -/
import Derived.Test.YtjdjkmgjgghodaaGreatKmx
import Derived.Test.YtjdjkmgjgghodaaGreatKdx
import Derived.Test.YtjdjkmgjgghodaaGreatB20q
set_option linter.unusedSimpArgs false
set_option linter.unusedVariables false
set_option maxRecDepth 100000
set_option maxHeartbeats 16000000
namespace Go.Eng
open Go Go.Proofs Go.Cats
attribute [local go_sem] exF_shape omN_zero omR_zero omP_zero one_nilSl5 List.getD_cons_zero List.getD_cons_succ List.set_cons_zero List.set_cons_succ goneL
theorem lend_ok {k : Fun} {f : SF} : ∃ B : List (List Dt),B.length = k.tgt.ob.toNat ∧ (∀ i : Nat,(i : Int) < k.tgt.ob → (ptsB B).at i = .pt (rAtD k f i)) ∧ ∀ (w : World) (R : Nat → Prop) (u : Value),RdV w R (ptsD (rAts k f k.tgt.ob.toNat)) u → RdV w R (ptsB B) u:=by
  refine ⟨(List.range k.tgt.ob.toNat).map fun y : Nat=>rAtD k f y,by simp,fun i hi=>?_,fun w R u h=>pts_lend _ w R u (by unfold rAts at h; rw [List.map_map]; exact h)⟩
  rw [ptsB_at (by simp; omega),List.getD_eq_getElem?_getD,List.getElem?_map,List.getElem?_range (by omega)]; rfl
end Go.Eng
