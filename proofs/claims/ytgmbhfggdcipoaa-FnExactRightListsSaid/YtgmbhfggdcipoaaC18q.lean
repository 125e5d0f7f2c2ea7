/- The projections of comma categories: functors, by the program and by the reference. -/
import Derived.Test.YtgmbhfggdcipoaaKdx
import Derived.Test.YtgmbhfggdcipoaaC17q
set_option linter.unusedSimpArgs false
set_option linter.unusedVariables false
set_option maxRecDepth 100000
set_option maxHeartbeats 16000000
namespace Go.Eng
open Go Go.Proofs Go.Cats
attribute [local go_sem] one_nil_c8 one_ptr_c8

theorem cm_b {f e : Fun} (hy : CYes f e) : CatB (cmC f e (cmA f e).length) := COut.b (.inl ⟨hy, rfl, rfl⟩)
/-- The functors to the sources. -/
noncomputable def cmF (f e : Fun) : Fun := ⟨cmC f e (cmA f e).length, f.src, colN (cObj f e) 0 (cObj f e).length, colN (cmA f e) 2 (cmA f e).length⟩
noncomputable def cmG (f e : Fun) : Fun := ⟨cmC f e (cmA f e).length, e.src, colN (cObj f e) 1 (cObj f e).length, colN (cmA f e) 3 (cmA f e).length⟩
theorem cmF_b {f e : Fun} (hf : FunB f) (hy : CYes f e) : FunB (cmF f e) := ⟨cm_b hy, hf.src, by have := hy.obs; simp only [cmF, colN_len]; omega, by have := hy.ars; simp only [cmF, colN_len]; omega⟩
theorem cmG_b {f e : Fun} (he : FunB e) (hy : CYes f e) : FunB (cmG f e) := ⟨cm_b hy, he.src, by have := hy.obs; simp only [cmG, colN_len]; omega, by have := hy.ars; simp only [cmG, colN_len]; omega⟩
def nilF : Fun := ⟨⟨0, [], [], [], []⟩, ⟨0, [], [], [], []⟩, [], []⟩
theorem nilF_b : FunB nilF := by
  have h : CatB (⟨0, [], [], [], []⟩ : Cat) := ⟨by simp, by simp, by simp, by simp, by simp, by simp, fun i hi => by simp at hi⟩
  exact ⟨h, h, by simp [nilF], by simp [nilF]⟩
/-- The functor and the code. -/
def CommaLeftOut (f e g : Fun) (code : Int) : Prop := (CYes f e ∧ g = cmF f e ∧ code = 0) ∨ (CNo f e code ∧ g = nilF)
theorem CommaLeftOut.ex (f e : Fun) : ∃ g code, CommaLeftOut f e g code := by
  obtain ⟨c, code, ⟨h, _, rfl⟩ | ⟨h, _⟩⟩ := cOut f e
  · exact ⟨_, _, .inl ⟨h, rfl, rfl⟩⟩
  · exact ⟨_, _, .inr ⟨h, rfl⟩⟩
theorem CommaLeftOut.b {f e g : Fun} {code : Int} (hf : FunB f) (he : FunB e) (h : CommaLeftOut f e g code) : FunB g := by
  rcases h with ⟨hy, rfl, rfl⟩ | ⟨hn, rfl⟩
  · exact cmF_b hf hy
  · exact nilF_b
/-- The functor and the code. -/
def CommaRightOut (f e g : Fun) (code : Int) : Prop := (CYes f e ∧ g = cmG f e ∧ code = 0) ∨ (CNo f e code ∧ g = nilF)
theorem CommaRightOut.ex (f e : Fun) : ∃ g code, CommaRightOut f e g code := by
  obtain ⟨c, code, ⟨h, _, rfl⟩ | ⟨h, _⟩⟩ := cOut f e
  · exact ⟨_, _, .inl ⟨h, rfl, rfl⟩⟩
  · exact ⟨_, _, .inr ⟨h, rfl⟩⟩
theorem CommaRightOut.b {f e g : Fun} {code : Int} (hf : FunB f) (he : FunB e) (h : CommaRightOut f e g code) : FunB g := by
  rcases h with ⟨hy, rfl, rfl⟩ | ⟨hn, rfl⟩
  · exact cmG_b he hy
  · exact nilF_b
end Go.Eng
