/- The engine, part FM: one functor in the middle of a list of functors, cell by cell. -/
import Derived.Test.YtmpopmololpaoaaKox
import Derived.Test.YtmpopmololpaoaaEngFtq
set_option linter.unusedVariables false
set_option linter.unusedSimpArgs false
namespace Go.Eng
open Go Go.Cats
section
variable {A B : List Fun} {cs : List Dt} {k : Nat} {e : Dt}
variable {X : Cx} {tm : List (Nat × Sv)} {rs : List (Nat × Rs)} {nx : Nat}
end
section
variable {a0 a1 a2 a3 a4 a5 a6 a7 a8 a9 a10 a11 : Dt} {A B : List Fun} {e : Dt}
@[go_sem] theorem mid_z (n : Nat) : n * 12 + 0 = n * 12 := rfl
@[go_sem] theorem mid_51 (n : Nat) : n * 12 + 5 + 1 = n * 12 + 6 := rfl
@[go_sem] theorem mid_52 (n : Nat) : n * 12 + 5 + 2 = n * 12 + 7 := rfl
@[go_sem] theorem mid_53 (n : Nat) : n * 12 + 5 + 3 = n * 12 + 8 := rfl
@[go_sem] theorem mid_54 (n : Nat) : n * 12 + 5 + 4 = n * 12 + 9 := rfl
@[go_sem] theorem mid_50 (n : Nat) : n * 12 + 5 + 0 = n * 12 + 5 := rfl
end
end Go.Eng
