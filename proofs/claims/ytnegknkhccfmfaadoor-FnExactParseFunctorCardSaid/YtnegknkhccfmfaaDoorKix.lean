/- Several texts in one: C10, C04, C09, C08, C12, C13, C11, C05, C06. -/
import Derived.Test.YtnegknkhccfmfaaDoorKex
import Derived.Test.YtnegknkhccfmfaaDoorC01q
import Derived.Test.YtnegknkhccfmfaaDoorG11q
set_option linter.unusedSimpArgs false
set_option linter.unusedVariables false
set_option maxRecDepth 100000
set_option maxHeartbeats 16000000
section
namespace Go.Eng
open Go Go.Proofs Go.Cats
@[go_sem] theorem bys_isSl (l) : (bys l).isSl = true := rfl
@[go_sem] theorem bys_sz (l) : (bys l).sz = 1 := rfl
@[go_sem] theorem bys_nc (l : List Int) : (bys l).nc = l.length := by simp [bys, Dt.nc, Dt.cells]
@[go_sem] theorem bys_len (l : List Int) : (bys l).len = l.length := by simp [bys, Dt.len, Dt.sz, Dt.nc, Dt.cells]
@[go_sem] theorem bys_ones (l : List Int) : (bys l).ones = true := by simp [bys, Dt.ones, Dt.cells, Dt.one, Value.oneCell']
@[go_sem] theorem bys_flat (l : List Int) : (bys l).flat = true := by simp [bys, Dt.flat, Dt.cells, Dt.isV]
@[go_sem] theorem bys_app (l m : List Int) : Dt.app 1 (.v (.int .u8 0)) (bys l) (bys m) = bys (l ++ m) := by simp [bys, Dt.app, Dt.cells]
@[go_sem] theorem bys_nil : Dt.sl 1 (.v (.int .u8 0)) [] = bys [] := rfl
@[go_sem] theorem bys_one (n : Int) : Dt.sl 1 (.v (.int .u8 0)) [.v (.int .u8 n)] = bys [n] := rfl
theorem ty_u8 : (Tryd.prog.underlying 2).isSome = true ∧ Tryd.prog.underlying 5 = some (.int .u8) := ⟨by rw [Tryd.underlying2]; rfl, Tryd.underlying5⟩
end Go.Eng
end
section
namespace Go.Eng
open Go Go.Proofs Go.Cats
attribute [go_sem] cO_zero colN_zero colN_len
end Go.Eng
end
section
namespace Go.Eng
open Go Go.Proofs Go.Cats
abbrev cmK (f e : Fun) (h : Value) (d : Dt) : Rk := .bx [.bptr [] (funD f), .bptr [] (funD e), .v h, .dead] 3 d
abbrev cmL (f e : Fun) (h : Value) (s t : Nat) (p q : List Int) (A : List (List Int)) : List (Nat × Rs) :=
  [(3, ⟨1, cmK f e h (intss A)⟩), (8, ⟨1, .box [.ptr 3 0]⟩), (9, ⟨1, .box [.bor [] (ints p)]⟩), (10, ⟨1, .box [.bor [] (ints q)]⟩), (7, ⟨1, .box [iv t]⟩), (4, ⟨1, .box [.ptr 3 0]⟩), (0, ⟨1, .box [.v (.pointer none)]⟩), (1, ⟨1, .box [.v (.bool false)]⟩), (6, ⟨1, .box [iv s]⟩)]
abbrev cmI : List Nat := [3, 8, 9, 10, 7, 4, 0, 1, 6]
attribute [local go_sem] cmK cmL
end Go.Eng
end
section
namespace Go.Eng
open Go Go.Proofs Go.Cats
attribute [local go_sem] cA_zero cmK
@[go_sem] theorem one_nil_c8 : (Value.slice none 0 0).oneCell' = true := rfl
@[go_sem] theorem one_ptr_c8 : (Value.pointer none).oneCell' = true := rfl
attribute [local go_sem] cmL idML cmI
end Go.Eng
end
section
namespace Go.Eng
open Go Go.Proofs Go.Cats
attribute [local go_sem] cmK cmL
end Go.Eng
end
section
namespace Go.Eng
open Go Go.Proofs Go.Cats
attribute [local go_sem] cA_zero cmK cmL idML cmI
end Go.Eng
end
section
namespace Go.Eng
open Go Go.Proofs Go.Cats
def tEnt (fr to : List Int) (h : Nat → Nat → Int) (i j : Nat) : Int := if to.getD i 0 = fr.getD j 0 then h i j else -1
def tRows (fr to : List Int) (h : Nat → Nat → Int) (i : Nat) : List (List Int) := (List.range i).map fun k => (List.range fr.length).map (tEnt fr to h k)
section
variable {fr to : List Int} {h : Nat → Nat → Int} {i j m : Nat}
@[go_sem] theorem tRows_zero : tRows fr to h 0 = [] := rfl
theorem tRows_len : (tRows fr to h i).length = i := by simp [tRows]
theorem tb_at {x : List Int} : (intsN (tRows fr to h i ++ [x]) m).at i = ints x := by
  rw [intsN_at (by simp [tRows_len])]
  simp [List.getD_eq_getElem?_getD, tRows_len]
end
end Go.Eng
end
section
namespace Go.Eng
open Go Go.Proofs Go.Cats
attribute [local go_sem] cO_zero colN_zero colN_len cA_zero
end Go.Eng
end
section
namespace Go.Eng
open Go Go.Proofs Go.Cats
attribute [local go_sem] colN_zero colN_len tb_zero tb_len
end Go.Eng
end
