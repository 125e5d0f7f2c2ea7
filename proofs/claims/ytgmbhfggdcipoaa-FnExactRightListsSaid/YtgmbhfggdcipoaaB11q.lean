/- MatchingFamilies, by the program and by the reference. -/
import Derived.Test.YtgmbhfggdcipoaaKdx
import Derived.Test.YtgmbhfggdcipoaaB10q
set_option linter.unusedSimpArgs false
set_option linter.unusedVariables false
set_option maxRecDepth 100000
set_option maxHeartbeats 16000000
namespace Go.Eng
open Go Go.Proofs Go.Cats
theorem adoptLL {P : Program} {F : FuncId} {args : List Sv} {y : Value} (h : Spec P F args [] (.tup [.v (.slice none 0 0), .v y]) []) : Spec P F args [] (.tup [.sl 0, .v y]) [(0, ⟨1, .arr (intss [])⟩)] := by
  refine Spec.adopt h (emptyL_cons_s emptyL_nil) fun w S v cn h => ?_
  simp only [Sv.ok, Sv.okL] at h ⊢
  obtain ⟨vs, rfl, x, r, rfl, e, hr⟩ := h
  exact ⟨_, rfl, _, _, rfl, ⟨Nat.le_refl 1, e⟩, hr⟩
end Go.Eng
