/- What the row of FnFunctorSpaces asks of the program. -/
import Derived.Test.YthgijhnmcglppaaGreatRows
import Derived.JoinedOf
import Derived.ProofKit
set_option linter.unusedSimpArgs false
set_option linter.unusedVariables false
set_option maxRecDepth 100000
set_option maxHeartbeats 16000000
namespace Go.Proofs.YthgijhnmcglppaaGreat
open Go Go.ChangeShapes Go.WideShapes Go.RowKit
theorem closed_fnFunctorSpaces : joinedFacts Tryz.pinned.checked.prog 5 Tryz.f5 Rows.fnFunctorSpacesSpec Rows.fnFunctorSpacesRow = true := by
  unfold joinedFacts
  simp only [Bool.and_eq_true]
  repeat' with_reducible apply And.intro
  all_goals (as_aux_lemma => kernel_rfl)
end Go.Proofs.YthgijhnmcglppaaGreat
