/- Several texts in one: S01, S02, S03, S05. -/
import Derived.Test.YtfinbajnalaomaaGreatC18q
set_option linter.unusedSimpArgs false
set_option linter.unusedVariables false
set_option maxRecDepth 100000
set_option maxHeartbeats 16000000
section
namespace Go.Eng
open Go Go.Proofs Go.Cats
attribute [local go_sem] one_nil_c8 one_ptr_c8
def prs (l : List (Int × Int)) : Dt := .sl 2 (.v (.int .i64 0)) (l.flatMap fun p => [.v (.int .i64 p.1), .v (.int .i64 p.2)])
theorem prs_cl (l : List (Int × Int)) : (l.flatMap fun p => ([.v (.int .i64 p.1), .v (.int .i64 p.2)] : List Dt)).length = l.length * 2 := by
  induction l with
  | nil => rfl
  | cons p l ih => simp only [List.flatMap_cons, List.length_append, ih, List.length_cons, List.length_nil]; omega
@[go_sem] theorem prs_isSl (l) : (prs l).isSl = true := rfl
@[go_sem] theorem prs_sz (l) : (prs l).sz = 2 := rfl
@[go_sem] theorem prs_nc (l : List (Int × Int)) : (prs l).nc = l.length * 2 := by simp only [prs, Dt.nc, Dt.cells]; exact prs_cl l
@[go_sem] theorem prs_len (l : List (Int × Int)) : (prs l).len = l.length := by
  have := prs_nc l
  unfold Dt.len
  rw [this, prs_sz]; omega
@[go_sem] theorem prs_ones (l : List (Int × Int)) : (prs l).ones = true := by
  simp only [prs, Dt.ones, Dt.cells, List.all_eq_true, List.mem_flatMap, forall_exists_index, and_imp]
  intro x p _ hx
  simp only [List.mem_cons, List.not_mem_nil, or_false] at hx
  rcases hx with rfl | rfl <;> rfl
@[go_sem] theorem prs_flat (l : List (Int × Int)) : (prs l).flat = true := by
  simp only [prs, Dt.flat, Dt.cells, List.all_eq_true, List.mem_flatMap, forall_exists_index, and_imp]
  intro x p _ hx
  simp only [List.mem_cons, List.not_mem_nil, or_false] at hx
  rcases hx with rfl | rfl <;> rfl
@[go_sem] theorem prs_app (l m : List (Int × Int)) : Dt.app 2 (.v (.int .i64 0)) (prs l) (prs m) = prs (l ++ m) := by simp [prs, Dt.app, Dt.cells, List.flatMap_append]
@[go_sem] theorem prs_nil : Dt.sl 2 (.v (.int .i64 0)) [] = prs [] := rfl
@[go_sem] theorem prs_one (a b : Int) : Dt.sl 2 (.v (.int .i64 0)) [.v (.int .i64 a), .v (.int .i64 b)] = prs [(a, b)] := rfl
@[go_sem] theorem prs_part0 (a b : Int) (l : List (Int × Int)) : (prs ((a, b) :: l)).part 0 2 = [.v (.int .i64 a), .v (.int .i64 b)] := rfl
@[go_sem] theorem ofDt_prs (ts) (l : List (Int × Int)) : Sv.ofDt ts (prs l) = .bor ts (prs l) := rfl
theorem one_put (r : List Int) : (intsN [] 1).put 0 (ints r) = intss [r] := rfl
theorem ss_put (r q : List Int) : (intss [r]).put 0 (ints q) = intss [q] := rfl
theorem rep_one : List.replicate 1 (0 : Int) = [0] := rfl
attribute [local go_sem] List.getD_cons_zero one_put ss_put rep_one List.set_cons_zero
end Go.Eng
end
section
namespace Go.Eng
open Go Go.Proofs Go.Cats
attribute [local go_sem] one_nil_c8 one_ptr_c8 List.getD_cons_zero nums_zero nums_len
theorem oneC_ob : oneC.ob = 1 := rfl
theorem oneC_fr : oneC.fr = [0] := rfl
attribute [local go_sem] oneC_ob oneC_fr
theorem cal_l06Constant : Callable Tryz.prog 88 := ⟨_, Tryz.func88, rfl, rfl⟩
def OC (c : Cat) (l : List Int) (code : Int) : Prop := (¬ IsCat c ∧ code = 1) ∨ (IsCat c ∧ ¬ Within l c.ob ∧ code = 2) ∨ (IsCat c ∧ Within l c.ob ∧ code = 0)
end Go.Eng
end
section
namespace Go.Eng
open Go Go.Proofs Go.Cats
attribute [local go_sem] one_nil_c8 one_ptr_c8 List.getD_cons_zero nums_zero nums_len
end Go.Eng
end
section
namespace Go.Eng
open Go Go.Proofs Go.Cats
attribute [local go_sem] one_nil_c8 one_ptr_c8 List.getD_cons_zero
def FnSliceFunctorOut (c : Cat) (x : Int) (g : Fun) (code : Int) : Prop := (OC c [x] code ∧ code ≠ 0 ∧ g = nilF) ∨ (OC c [x] 0 ∧ CommaLeftOut (selfF c) (pointF c x) g code)
def FnCosliceFunctorOut (c : Cat) (x : Int) (g : Fun) (code : Int) : Prop := (OC c [x] code ∧ code ≠ 0 ∧ g = nilF) ∨ (OC c [x] 0 ∧ CommaRightOut (pointF c x) (selfF c) g code)
end Go.Eng
end
