/- What the row of FnDiagonals asks of the program. -/
import Derived.Test.YthgijhnmcglppaaGreatRows
import Derived.JoinedOf
import Derived.ProofKit
set_option linter.unusedSimpArgs false
set_option linter.unusedVariables false
set_option maxRecDepth 100000
set_option maxHeartbeats 16000000
namespace Go.Proofs.YthgijhnmcglppaaGreat
open Go Go.ChangeShapes Go.WideShapes Go.RowKit
theorem closed_fnDiagonals : joinedFacts Tryz.pinned.checked.prog 3 Tryz.f3 Rows.fnDiagonalsSpec Rows.fnDiagonalsRow = true := by
  unfold joinedFacts
  simp only [Bool.and_eq_true]
  repeat' with_reducible apply And.intro
  all_goals (as_aux_lemma => kernel_rfl)
end Go.Proofs.YthgijhnmcglppaaGreat
