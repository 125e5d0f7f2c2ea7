/- The engine, part MR: a map that the call itself has made is ranged over; entries are deleted in the rounds. -/
import Derived.Test.YtnegknkhccfmfaaDoorKex
import Derived.Maps.Range
import Derived.Maps.Views
import Derived.StringKeys
import Derived.Laws.Small
import Derived.Laws.Strings
import Derived.WideShapes
set_option linter.unusedVariables false
set_option linter.unusedSimpArgs false
namespace Go.Eng
open Go Go.Maps Go.RowKit Go.WideMaps
theorem ab_get {p : Ab} {w : World} {F : Nat → Prop} {u : Value} (h : OwV w F (.ab p) u) : ∃ F', (∀ b, F' b → F b) ∧ p.p w u F' := by
  simp only [OwV] at h
  exact ⟨h.2.choose, h.2.choose_spec.1, h.2.choose_spec.2⟩
theorem ab_mk {p : Ab} {w : World} {F : Nat → Prop} {u : Value} (h1 : u.oneCell' = true) (h : p.p w u F) : OwV w F (.ab p) u := by
  simp only [OwV]
  exact ⟨h1, F, fun _ h => h, h⟩
section
variable {X : Cx} {E : Env} {c : Code} {σ : Ss} {Q : Exit → Ss → Prop} {k e : TypeId} {n : Nat} {D : DataW Unit} {mv : Value} {W : Lit} {z : Int}
end
section
variable {E : Env} {d : Option Nat} {σ : Ss} {K : Ss → Prop} {k e : TypeId} {n cv i j m : Nat} {D : DataW Unit} {mv : Value} {W : Lit} {z : Int} {x : Operand} {φ : Nat → Prop}
end
end Go.Eng
