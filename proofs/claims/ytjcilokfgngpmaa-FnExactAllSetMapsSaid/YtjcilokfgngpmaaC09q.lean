/- Comma categories by the program: the arrows between two objects, yielded one by one. -/
import Derived.Test.YtjcilokfgngpmaaKmx
import Derived.Test.YtjcilokfgngpmaaG01q
import Derived.Test.YtjcilokfgngpmaaKex
set_option linter.unusedSimpArgs false
set_option linter.unusedVariables false
set_option maxRecDepth 100000
set_option maxHeartbeats 16000000
namespace Go.Eng
open Go Go.Proofs Go.Cats

/-- A comma: its functors, the header of its objects, its arrows. -/
abbrev cmK (f e : Fun) (h : Value) (d : Dt) : Rk := .bx [.bptr [] (funD f), .bptr [] (funD e), .v h, .dead] 3 d
/-- What the pairs and the loop's body are handed. -/
abbrev cmL (f e : Fun) (h : Value) (s t : Nat) (p q : List Int) (A : List (List Int)) : List (Nat × Rs) :=
  [(3, ⟨1, cmK f e h (intss A)⟩), (8, ⟨1, .box [.ptr 3 0]⟩), (9, ⟨1, .box [.bor [] (ints p)]⟩), (10, ⟨1, .box [.bor [] (ints q)]⟩), (7, ⟨1, .box [iv t]⟩), (4, ⟨1, .box [.ptr 3 0]⟩), (0, ⟨1, .box [.v (.pointer none)]⟩), (1, ⟨1, .box [.v (.bool false)]⟩), (6, ⟨1, .box [iv s]⟩)]
abbrev cmI : List Nat := [3, 8, 9, 10, 7, 4, 0, 1, 6]
noncomputable def TEp (ids : List Nat) (B : Nat → Nat × Value) : Env := { P := Try.prog, ti := tenv, ok := tok, hk := pinK ids B }
@[go_sem] theorem TEp_ti (ids : List Nat) (B : Nat → Nat × Value) (t : TypeId) : (TEp ids B).ti t = tenv t := rfl
@[go_sem] theorem TEp_P (ids : List Nat) (B : Nat → Nat × Value) : (TEp ids B).P = Try.prog := rfl
attribute [local go_sem] cmK cmL

end Go.Eng
