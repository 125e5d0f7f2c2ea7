/- Category.table: the composites of a category, by a closure that only reads. -/
import Derived.Test.YtjcilokfgngpmaaG01q
import Derived.Test.YtjcilokfgngpmaaKex
set_option linter.unusedSimpArgs false
set_option linter.unusedVariables false
set_option maxRecDepth 100000
set_option maxHeartbeats 16000000
namespace Go.Eng
open Go Go.Proofs Go.Cats

/-- An entry of a table, a row of it, the whole. -/
def tEnt (fr to : List Int) (h : Nat → Nat → Int) (i j : Nat) : Int := if to.getD i 0 = fr.getD j 0 then h i j else -1
def tRows (fr to : List Int) (h : Nat → Nat → Int) (i : Nat) : List (List Int) := (List.range i).map fun k => (List.range fr.length).map (tEnt fr to h k)
section
variable {fr to : List Int} {h : Nat → Nat → Int} {i j m : Nat}
@[go_sem] theorem tRows_zero : tRows fr to h 0 = [] := rfl
theorem tRows_len : (tRows fr to h i).length = i := by simp [tRows]
theorem tb_at {x : List Int} : (intsN (tRows fr to h i ++ [x]) m).at i = ints x := by
  rw [intsN_at (by simp [tRows_len])]
  simp [List.getD_eq_getElem?_getD, tRows_len]
end
end Go.Eng
