/- The engine, part FT: a functor is taken out of a list of one. -/
import Derived.Test.YtmpopmololpaoaaKux
set_option linter.unusedVariables false
set_option linter.unusedSimpArgs false
namespace Go.Eng
open Go Go.Cats
section
variable {E : Env} {dst : Option Nat} {σ : Ss} {K : Ss → Prop}
end
theorem Imp.open1 {X : Cx} {tm : List (Nat × Sv)} {rs : List (Nat × Rs)} {nx : Nat} (i k cv : Nat) (d e : Dt) (hs : List (Nat × Sv)) (hi : rsL rs i = ⟨cv, .hol d hs⟩ ∨ (rsL rs i = ⟨cv, .arr d⟩ ∧ hs = [])) (hcv : 1 ≤ cv) (hkk : k < d.nc) (hh : hlk hs k = none) (he : d.at k = e) (hsl : e.isSl = true) (hf : rsL rs nx = ⟨0, .gone⟩) :
    Imp X ⟨tm, rs, nx⟩ ⟨tm, (i, ⟨cv + 1, .hol d ((k, .sl nx) :: hs)⟩) :: (nx, ⟨1, .arr e⟩) :: rs, nx + 1⟩ := by
  subst he
  have e : ((⟨tm, rs, nx⟩ : Ss).get i).cv = cv := by
    unfold Ss.get
    rcases hi with hi | ⟨hi, _⟩ <;> rw [hi]
  have h := Imp.open_ (X := X) (σ := ⟨tm, rs, nx⟩) i k d hs (by
    unfold Ss.get
    rcases hi with hi | ⟨hi, h2⟩
    · rw [hi]; exact .inl rfl
    · rw [hi]; exact .inr ⟨rfl, h2⟩) (by rw [e]; exact hcv) hkk hh hsl hf
  rw [e] at h
  exact h
theorem Imp.dropL {X : Cx} {σ : Ss} (i cv : Nat) (d : Dt) (h : σ.get i = ⟨cv, .arr d⟩) (hcv : 1 ≤ cv) : Imp X σ ⟨σ.tm, (i, ⟨cv + 1, .gone⟩) :: σ.rs, σ.nx⟩ := by
  have e : (σ.get i).cv = cv := by rw [h]
  have := Imp.drop (X := X) (σ := σ) i (by rw [e]; exact hcv)
  rw [e] at this
  exact this
end Go.Eng
