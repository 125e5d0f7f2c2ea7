/- The engine, part FT: a functor is taken out of a list of one. -/
import Derived.Test.YtnegknkhccfmfaaDoorKux
set_option linter.unusedVariables false
set_option linter.unusedSimpArgs false
namespace Go.Eng
open Go Go.Cats
section
variable {E : Env} {dst : Option Nat} {σ : Ss} {K : Ss → Prop}
end
theorem Imp.lendPtr {X : Cx} {σ : Ss} (k i o : Nat) (ds : List Dt) (V : List Nat) (hk : lk σ.tm k = .ptr i o) (hv : Sv.viewP V (rsL σ.rs) (.ptr i o) ds) (hV : ∀ j ∈ V, 1 ≤ (rsL σ.rs j).cv) :
    Imp X σ ⟨(k, .bptr (V.map fun j => (j, (rsL σ.rs j).cv)) ds) :: σ.tm, σ.rs, σ.nx⟩ := by
  rintro w1 U1 dfs a w ⟨hd, hn, c, hp, ht, hpin⟩
  refine ⟨hd, hn, c, hp, fun s => ?_, hpin⟩
  by_cases e : s = k
  · subst e
    have h1 := ht s
    rw [hk] at h1
    obtain ⟨g1, g2⟩ := viewP_ok hp hv h1
    show Sv.ok w X.S c (rsL σ.rs) (lk ((s, _) :: σ.tm) s) _
    simp only [lk, if_pos]
    simp only [Sv.ok]
    refine ⟨fun p hp' => ?_, g2, fun _ => PtrTo.mono (fun b hb => ?_) g1⟩
    · obtain ⟨j, hj, rfl⟩ := List.mem_map.1 hp'
      exact ⟨hV j hj, Nat.le_refl _⟩
    · rcases hb with hb | ⟨j, hj, hb⟩
      · exact .inl hb
      · exact .inr ⟨_, List.mem_map.2 ⟨j, hj, rfl⟩, hb⟩
  · show Sv.ok w X.S c (rsL σ.rs) (lk ((k, _) :: σ.tm) s) _
    simp only [lk, if_neg e]
    exact ht s
end Go.Eng
