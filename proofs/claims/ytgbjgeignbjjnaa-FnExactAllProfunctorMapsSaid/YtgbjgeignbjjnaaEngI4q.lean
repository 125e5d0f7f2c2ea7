/- The engine, part I4: lists of lists of lists of lists of numbers. -/
import Derived.Test.YtgbjgeignbjjnaaKex
set_option linter.unusedVariables false
set_option linter.unusedSimpArgs false
namespace Go.Eng
open Go Go.Cats
def intssss (l : List (List (List (List Int)))) : Dt := .sl 1 (.sl 1 (.sl 1 (.sl 1 (.v (.int .i64 0)) []) []) []) (l.map intsss)
@[go_sem] theorem intssss_isSl (l) : (intssss l).isSl = true := rfl
@[go_sem] theorem intssss_sz (l) : (intssss l).sz = 1 := rfl
@[go_sem] theorem intssss_nc (l : List (List (List (List Int)))) : (intssss l).nc = l.length := by simp [intssss, Dt.nc, Dt.cells]
@[go_sem] theorem intssss_len (l : List (List (List (List Int)))) : (intssss l).len = l.length := by simp [intssss, Dt.len, Dt.sz, Dt.nc, Dt.cells]
@[go_sem] theorem intssss_at (l : List (List (List (List Int)))) (k : Nat) : (intssss l).at k = intsss (l.getD k []) := by
  simp only [intssss, Dt.at, Dt.cells, Dt.df, List.getD_eq_getElem?_getD, List.getElem?_map]
  cases l[k]? <;> rfl
@[go_sem] theorem ofDt_intssss (ts) (l : List (List (List (List Int)))) : Sv.ofDt ts (intssss l) = .bor ts (intssss l) := rfl
@[go_sem] theorem intssss_nil1 : Dt.sl 1 (intsss []) [] = intssss [] := rfl
@[go_sem] theorem intssss_one1 (q : List (List (List Int))) : Dt.sl 1 (intsss []) [intsss q] = intssss [q] := rfl
@[go_sem] theorem intssss_flat1 (q : List (List (List Int))) : (intssss [q]).flat = false := rfl
@[go_sem] theorem intssss_ones (l : List (List (List (List Int)))) : (intssss l).ones = true := by
  simp only [intssss, Dt.ones, Dt.cells, List.all_map]
  exact List.all_eq_true.2 fun _ _ => rfl
@[go_sem] theorem intssss_app (l m : List (List (List (List Int)))) : Dt.app 1 (intsss []) (intssss l) (intssss m) = intssss (l ++ m) := by simp [intssss, intsss, Dt.app, Dt.cells, List.map_append]
@[go_sem] theorem dfOf_intsss (a : List (List (List Int))) (l : List Dt) : dfOf (intsss a :: l) = intsss [] := rfl
end Go.Eng
