/- The engine, part FT: a functor is taken out of a list of one. -/
import Derived.Test.YtmpopmololpaoaaKux
set_option linter.unusedVariables false
set_option linter.unusedSimpArgs false
namespace Go.Eng
open Go Go.Cats
section
variable {E : Env} {dst : Option Nat} {σ : Ss} {K : Ss → Prop}
end
theorem Imp.dropL {X : Cx} {σ : Ss} (i cv : Nat) (d : Dt) (h : σ.get i = ⟨cv, .arr d⟩) (hcv : 1 ≤ cv) : Imp X σ ⟨σ.tm, (i, ⟨cv + 1, .gone⟩) :: σ.rs, σ.nx⟩ := by
  have e : (σ.get i).cv = cv := by rw [h]
  have := Imp.drop (X := X) (σ := σ) i (by rw [e]; exact hcv)
  rw [e] at this
  exact this
end Go.Eng
