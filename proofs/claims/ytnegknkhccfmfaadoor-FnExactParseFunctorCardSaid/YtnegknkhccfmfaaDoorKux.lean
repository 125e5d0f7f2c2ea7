/- The engine, part FS: lists of truth values; lists of functors. -/
import Derived.Test.YtnegknkhccfmfaaDoorKex
set_option linter.unusedVariables false
set_option linter.unusedSimpArgs false
namespace Go.Eng
open Go Go.Cats
/-! ### Lists of truth values -/
def bols (l : List Bool) : Dt := .sl 1 (.v (.bool false)) (l.map fun x => .v (.bool x))
@[go_sem] theorem bols_isSl (l) : (bols l).isSl = true := rfl
@[go_sem] theorem bols_sz (l) : (bols l).sz = 1 := rfl
@[go_sem] theorem bols_nc (l : List Bool) : (bols l).nc = l.length := by simp [bols, Dt.nc, Dt.cells]
@[go_sem] theorem bols_len (l : List Bool) : (bols l).len = l.length := by simp [bols, Dt.len, Dt.sz, Dt.nc, Dt.cells]
@[go_sem] theorem bols_at (l : List Bool) (k : Nat) : (bols l).at k = .v (.bool (l.getD k false)) := by
  simp [bols, Dt.at, Dt.cells, Dt.df, List.getD_eq_getElem?_getD]
@[go_sem] theorem ofDt_bols (ts) (l : List Bool) : Sv.ofDt ts (bols l) = .bor ts (bols l) := rfl
@[go_sem] theorem bols_ones (l : List Bool) : (bols l).ones = true := by simp [bols, Dt.ones, Dt.cells, Dt.one, Value.oneCell']
@[go_sem] theorem bols_flat (l : List Bool) : (bols l).flat = true := by simp [bols, Dt.flat, Dt.cells, Dt.isV]
@[go_sem] theorem bols_put (l : List Bool) (k : Nat) (x : Bool) : (bols l).put k (.v (.bool x)) = bols (l.set k x) := by simp [bols, Dt.put, Dt.cells, Dt.sz, Dt.df, List.map_set]
@[go_sem] theorem bols_rep (n : Nat) : Dt.sl 1 (.v (.bool false)) (List.replicate n (.v (.bool false))) = bols (List.replicate n false) := by simp [bols]
/-! ### Lists of functors -/
def funC (f : Fun) : List Dt := [.v (.int .i64 f.src.ob), ints f.src.fr, ints f.src.to, ints f.src.id, intss f.src.co, .v (.int .i64 f.tgt.ob), ints f.tgt.fr, ints f.tgt.to, ints f.tgt.id, intss f.tgt.co, ints f.obs, ints f.ars]
def funsD (l : List Fun) : Dt := .sl 12 (.v (.int .i64 0)) (l.flatMap funC)
instance : Inhabited Fun := ⟨Fun.nil⟩
theorem funC_len (f : Fun) : (funC f).length = 12 := rfl
theorem funs_cells (l : List Fun) : (l.flatMap funC).length = l.length * 12 := by
  induction l with
  | nil => rfl
  | cons f l ih => rw [List.flatMap_cons, List.length_append, ih, funC_len, List.length_cons]; omega
@[go_sem] theorem funs_isSl (l) : (funsD l).isSl = true := rfl
@[go_sem] theorem funs_sz (l) : (funsD l).sz = 12 := rfl
@[go_sem] theorem funs_nc (l : List Fun) : (funsD l).nc = l.length * 12 := funs_cells l
@[go_sem] theorem funs_len (l : List Fun) : (funsD l).len = l.length := by
  unfold Dt.len
  rw [funs_nc, funs_sz]; omega
@[go_sem] theorem ofDt_funs (ts) (l : List Fun) : Sv.ofDt ts (funsD l) = .bor ts (funsD l) := rfl
@[go_sem] theorem funs_ones (l : List Fun) : (funsD l).ones = true := by
  unfold funsD Dt.ones Dt.cells
  rw [List.all_eq_true]
  intro d hd
  obtain ⟨f, _, hf⟩ := List.mem_flatMap.1 hd
  simp only [funC, List.mem_cons, List.not_mem_nil, or_false] at hf
  rcases hf with rfl | rfl | rfl | rfl | rfl | rfl | rfl | rfl | rfl | rfl | rfl | rfl <;> rfl
@[go_sem] theorem funs_app (l m : List Fun) : Dt.app 12 (.v (.int .i64 0)) (funsD l) (funsD m) = funsD (l ++ m) := by simp [funsD, Dt.app, Dt.cells]
@[go_sem] theorem funs_nil : Dt.sl 12 (.v (.int .i64 0)) [] = funsD [] := rfl
@[go_sem] theorem funs_one (o p : Int) (a b c e f g q r : List Int) (d h : List (List Int)) : Dt.sl 12 (.v (.int .i64 0)) [.v (.int .i64 o), ints a, ints b, ints c, intss d, .v (.int .i64 p), ints e, ints f, ints g, intss h, ints q, ints r] = funsD [⟨⟨o, a, b, c, d⟩, ⟨p, e, f, g, h⟩, q, r⟩] := rfl
@[go_sem] theorem funs_flat1 (f : Fun) : (funsD [f]).flat = false := rfl
end Go.Eng
