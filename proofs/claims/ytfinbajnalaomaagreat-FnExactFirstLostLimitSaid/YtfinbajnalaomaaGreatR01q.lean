/- Transformations, by the program: the square of an arrow; the search in depth; all transformations between two functors. -/
import Derived.Test.YtfinbajnalaomaaGreatKbex
import Derived.Test.YtfinbajnalaomaaGreatQ02q
set_option linter.unusedSimpArgs false
set_option linter.unusedVariables false
set_option maxRecDepth 100000
set_option maxHeartbeats 16000000
namespace Go.Eng
open Go Go.Proofs Go.Cats
theorem stL_1r {β : Type} (M) (o : List β) (q) : (stL M o q).1 = decide (o.length + 1 ≤ M) := rfl
theorem stL_2r {β : Type} (M) (o : List β) (q) : (stL M o q).2 = o ++ [q] := rfl
attribute [local go_sem] List.set_cons_zero List.set_cons_succ stL_1r stL_2r
theorem rows_len {c : Cat} (s : Shape c) {g : Int} (h0 : 0 ≤ g) (h1 : g < c.fr.length) : g < c.co.length ∧ (c.co.getD g.toNat []).length = c.fr.length := ⟨by rw [s.col]; exact h1, (s.coe g.toNat (by omega)).1⟩
theorem all_sq {f g : Fun} {P : List Int} {x : Nat} {a : Nat} (h : ∀ b, b < a → max (f.src.fr.getD b 0) (f.src.to.getD b 0) = x → SqP f g P b) (k : max (f.src.fr.getD a 0) (f.src.to.getD a 0) = x → SqP f g P a) : ∀ b, b < a + 1 → max (f.src.fr.getD b 0) (f.src.to.getD b 0) = x → SqP f g P b := fun b hb hm => by
  by_cases e : b = a
  · subst e; exact k hm
  · exact h b (by omega) hm
theorem natRun_all {f g : Fun} {M : Nat} {F : List (List Int)} (hs : Shape f.src) (hF : F.length ≤ M) : (natRun f g M f.src.ob.toNat (List.replicate f.src.ob.toNat 0) F).1 = (eat (stL M) F (natA f g)).1 ∧ (natRun f g M f.src.ob.toNat (List.replicate f.src.ob.toNat 0) F).2.1 = (eat (stL M) F (natA f g)).2 := by
  have := natRun_eat (f := f) (g := g) hs f.src.ob.toNat 0 (List.replicate f.src.ob.toNat 0) F (by rw [List.length_replicate]) (by omega) .nil hF
  exact ⟨this.ok, this.out⟩
end Go.Eng
