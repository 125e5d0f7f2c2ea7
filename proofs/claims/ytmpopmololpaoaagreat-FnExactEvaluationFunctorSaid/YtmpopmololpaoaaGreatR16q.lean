/- FunctorCategory, by the program and by the reference. -/
import Derived.Test.YtmpopmololpaoaaGreatKdx
import Derived.Test.YtmpopmololpaoaaGreatC18q
import Derived.Test.YtmpopmololpaoaaGreatR15q
import Derived.Test.YtmpopmololpaoaaGreatQ05q
set_option linter.unusedSimpArgs false
set_option linter.unusedVariables false
set_option maxRecDepth 100000
set_option maxHeartbeats 16000000
namespace Go.Eng
open Go Go.Proofs Go.Cats
theorem sp_l02Is_v {c : Cat} {v : Bool} (hb : CatB c) (h : dec (IsCat c) = v) : Spec Tryz.prog 51 [catV c] [] (bv v) [] := by
  subst h
  exact sp_l02Is hb
def FcOut (c d K : Cat) (L : List Fun) (A : List (List Int)) (code : Int) : Prop :=
  (¬ (IsCat c ∧ IsCat d) ∧ K = Cat.nil ∧ L = [] ∧ A = [] ∧ code = 1) ∨ (IsCat c ∧ IsCat d ∧ ¬ FcY c d ∧ K = Cat.nil ∧ L = [] ∧ A = [] ∧ code = 3) ∨ (IsCat c ∧ IsCat d ∧ FcY c d ∧ K = fcK d (fcL c d) ∧ L = fcL c d ∧ A = fcA (fcL c d) ∧ code = 0)
theorem FcOut.ex (c d : Cat) : ∃ K L A code, FcOut c d K L A code := by
  by_cases h : IsCat c ∧ IsCat d
  · by_cases h2 : FcY c d
    · exact ⟨_, _, _, _, .inr (.inr ⟨h.1, h.2, h2, rfl, rfl, rfl, rfl⟩)⟩
    · exact ⟨_, _, _, _, .inr (.inl ⟨h.1, h.2, h2, rfl, rfl, rfl, rfl⟩)⟩
  · exact ⟨_, _, _, _, .inl ⟨h, rfl, rfl, rfl, rfl⟩⟩
end Go.Eng
