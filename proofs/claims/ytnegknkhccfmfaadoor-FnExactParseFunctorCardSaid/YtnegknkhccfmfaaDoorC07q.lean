/- The reference's comma categories: the code. -/
import Derived.Test.YtnegknkhccfmfaaDoorKix
import Derived.Test.YtnegknkhccfmfaaDoorC02q
set_option linter.unusedSimpArgs false
set_option linter.unusedVariables false
set_option maxRecDepth 100000
set_option maxHeartbeats 16000000
namespace Go.Eng
open Go Go.Proofs Go.Cats
@[go_sem] theorem one_nil_c : (Value.slice none 0 0).oneCell' = true := rfl
structure CYes (f e : Fun) : Prop where
  src : IsFun f
  tgt : IsFun e
  one : f.tgt = e.tgt
  obs : (cObj f e).length ≤ 8
  ars : (cmA f e).length ≤ 40
def CNo (f e : Fun) (c : Int) : Prop :=
  (¬ (IsFun f ∧ IsFun e) ∧ c = 1) ∨ ((IsFun f ∧ IsFun e) ∧ f.tgt ≠ e.tgt ∧ c = 5) ∨
  ((IsFun f ∧ IsFun e) ∧ f.tgt = e.tgt ∧ (8 < (cObj f e).length ∨ (cObj f e).length ≤ 8 ∧ 40 < (cmA f e).length) ∧ c = 3)
end Go.Eng
