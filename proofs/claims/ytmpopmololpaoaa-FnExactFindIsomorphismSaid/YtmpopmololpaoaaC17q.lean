/- Comma categories: the outcomes; what is lent is not too long. -/
import Derived.Test.YtmpopmololpaoaaKdx
import Derived.Test.YtmpopmololpaoaaC15q
import Derived.Test.YtmpopmololpaoaaC16q
import Derived.Test.YtmpopmololpaoaaD03q
set_option linter.unusedSimpArgs false
set_option linter.unusedVariables false
set_option maxRecDepth 100000
set_option maxHeartbeats 16000000
namespace Go.Eng
open Go Go.Proofs Go.Cats
def COut (f e : Fun) (c : Cat) (code : Int) : Prop := (CYes f e ∧ c = cmC f e (cmA f e).length ∧ code = 0) ∨ (CNo f e code ∧ c = ⟨0, [], [], [], []⟩)
theorem cOut (f e : Fun) : ∃ c code, COut f e c code := by
  by_cases h1 : IsFun f ∧ IsFun e
  · by_cases h2 : f.tgt = e.tgt
    · by_cases h3 : (cObj f e).length ≤ 8
      · by_cases h4 : (cmA f e).length ≤ 40
        · exact ⟨_, _, .inl ⟨⟨h1.1, h1.2, h2, h3, h4⟩, rfl, rfl⟩⟩
        · exact ⟨_, 3, .inr ⟨.inr (.inr ⟨h1, h2, .inr ⟨h3, by omega⟩, rfl⟩), rfl⟩⟩
      · exact ⟨_, 3, .inr ⟨.inr (.inr ⟨h1, h2, .inl (by omega), rfl⟩), rfl⟩⟩
    · exact ⟨_, 5, .inr ⟨.inr (.inl ⟨h1, h2, rfl⟩), rfl⟩⟩
  · exact ⟨_, 1, .inr ⟨.inl ⟨h1, rfl⟩, rfl⟩⟩
theorem COut.b {f e : Fun} {c : Cat} {code : Int} (h : COut f e c code) : CatB c := by
  rcases h with ⟨hy, rfl, rfl⟩ | ⟨hn, rfl⟩
  · have h1 := hy.obs
    have h2 := hy.ars
    refine ⟨?_, ?_, ?_, ?_, ?_, ?_, fun i hi => ?_⟩
    · simp only [cmC, bCat]; omega
    · simp only [cmC, bCat]; omega
    · simp only [cmC, bCat, colN_len]; omega
    · simp only [cmC, bCat, colN_len]; omega
    · simp only [cmC, bCat, tb_len]; omega
    · simp only [cmC, bCat, tb_len]; omega
    · simp only [cmC, bCat, tb_len] at hi
      simp only [cmC, bCat]
      rw [Go.Cats.tb_at _ _ _ hi, tb_len]
      omega
  · exact ⟨by simp, by simp, by simp, by simp, by simp, by simp, fun i hi => by simp at hi⟩
theorem sumLen_le_of {l : List (List Int)} {a b : Nat} (ha : l.length ≤ a) (hb : ∀ i, i < l.length → (l.getD i []).length ≤ b) : sumLen l ≤ a * b := by
  induction l generalizing a with
  | nil => simp [sumLen]
  | cons x l ih =>
    have h1 := hb 0 (by simp)
    have h2 := ih (a := l.length) (Nat.le_refl _) fun i hi => by have := hb (i + 1) (by simp; omega); simpa using this
    have e : sumLen (x :: l) = x.length + sumLen l := by simp [sumLen]
    rw [e]
    have h3 : x.length ≤ b := by simpa using h1
    simp only [List.length_cons] at ha
    calc x.length + sumLen l ≤ b + l.length * b := by omega
      _ = (l.length + 1) * b := by rw [Nat.succ_mul]; omega
      _ ≤ a * b := Nat.mul_le_mul_right b ha
theorem _root_.Go.Cats.CatB.mkn {c : Cat} (h : CatB c) : c.mkn ≤ 1099514773504 := by
  have h1 := sumLen_le_of h.co h.row
  have := h.fr; have := h.to; have := h.id
  unfold Go.Cats.Cat.mkn; omega
theorem FunB.mkn {f : Fun} (h : FunB f) : f.mkn ≤ 2199031644160 := by
  have h0 := h.src.mkn
  have h1 := h.tgt.mkn
  have := h.obs; have := h.ars
  unfold Go.Cats.Fun.mkn; omega
end Go.Eng
