/- Several texts in one: C14, C15. -/
import Derived.Test.YtnegknkhccfmfaaDoorC07q
set_option linter.unusedSimpArgs false
set_option linter.unusedVariables false
set_option maxRecDepth 100000
set_option maxHeartbeats 16000000
section
namespace Go.Eng
open Go Go.Proofs Go.Cats
section
variable {f e : Fun} {O A : List (List Int)} {ts : List (Nat × Nat)}
end
structure KeyOK (A : List (List Int)) : Prop where
  b : ∀ r ∈ A, ∀ x ∈ r, 0 ≤ x ∧ x < 256
  nd : A.Nodup
def flS (n : Nat) (F : Nat → Int) (i : Nat) : List Int := tb i F ++ List.replicate (n - i) 0
theorem flS_zero (n : Nat) (F : Nat → Int) : flS n F 0 = List.replicate n 0 := by simp [flS, tb_zero]
attribute [local go_sem] colN_zero flS_zero
end Go.Eng
end
section
namespace Go.Eng
open Go Go.Proofs Go.Cats
attribute [local go_sem] one_nil_c8 one_ptr_c8
end Go.Eng
end
