/- Several texts in one: C16, C17. -/
import Derived.Test.YtfinbajnalaomaaGreatKtx
import Derived.Test.YtfinbajnalaomaaGreatKpx
set_option linter.unusedSimpArgs false
set_option linter.unusedVariables false
set_option maxRecDepth 100000
set_option maxHeartbeats 16000000
section
namespace Go.Eng
open Go Go.Proofs Go.Cats
structure MkOk (k : Int) (n : Nat) : Prop where
  lo : 0 ≤ k
  hi : k + n ≤ 9223372036854775807
/-! ### The marks are held -/
end Go.Eng
end
section
namespace Go.Eng
open Go Go.Proofs Go.Cats
def COut (f e : Fun) (c : Cat) (code : Int) : Prop := (CYes f e ∧ c = cmC f e (cmA f e).length ∧ code = 0) ∨ (CNo f e code ∧ c = ⟨0, [], [], [], []⟩)
end Go.Eng
end
