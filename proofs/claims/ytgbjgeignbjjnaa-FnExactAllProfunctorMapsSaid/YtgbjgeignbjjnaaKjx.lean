/- Several texts in one: S01, S02, S03, S05. -/
import Derived.Test.YtgbjgeignbjjnaaC18q
set_option linter.unusedSimpArgs false
set_option linter.unusedVariables false
set_option maxRecDepth 100000
set_option maxHeartbeats 16000000
section
namespace Go.Eng
open Go Go.Proofs Go.Cats
attribute [local go_sem] one_nil_c8 one_ptr_c8
def prs (l : List (Int × Int)) : Dt := .sl 2 (.v (.int .i64 0)) (l.flatMap fun p => [.v (.int .i64 p.1), .v (.int .i64 p.2)])
theorem prs_cl (l : List (Int × Int)) : (l.flatMap fun p => ([.v (.int .i64 p.1), .v (.int .i64 p.2)] : List Dt)).length = l.length * 2 := by
  induction l with
  | nil => rfl
  | cons p l ih => simp only [List.flatMap_cons, List.length_append, ih, List.length_cons, List.length_nil]; omega
@[go_sem] theorem prs_isSl (l) : (prs l).isSl = true := rfl
@[go_sem] theorem prs_sz (l) : (prs l).sz = 2 := rfl
@[go_sem] theorem prs_nc (l : List (Int × Int)) : (prs l).nc = l.length * 2 := by simp only [prs, Dt.nc, Dt.cells]; exact prs_cl l
@[go_sem] theorem prs_len (l : List (Int × Int)) : (prs l).len = l.length := by
  have := prs_nc l
  unfold Dt.len
  rw [this, prs_sz]; omega
@[go_sem] theorem prs_ones (l : List (Int × Int)) : (prs l).ones = true := by
  simp only [prs, Dt.ones, Dt.cells, List.all_eq_true, List.mem_flatMap, forall_exists_index, and_imp]
  intro x p _ hx
  simp only [List.mem_cons, List.not_mem_nil, or_false] at hx
  rcases hx with rfl | rfl <;> rfl
@[go_sem] theorem prs_flat (l : List (Int × Int)) : (prs l).flat = true := by
  simp only [prs, Dt.flat, Dt.cells, List.all_eq_true, List.mem_flatMap, forall_exists_index, and_imp]
  intro x p _ hx
  simp only [List.mem_cons, List.not_mem_nil, or_false] at hx
  rcases hx with rfl | rfl <;> rfl
@[go_sem] theorem prs_app (l m : List (Int × Int)) : Dt.app 2 (.v (.int .i64 0)) (prs l) (prs m) = prs (l ++ m) := by simp [prs, Dt.app, Dt.cells, List.flatMap_append]
@[go_sem] theorem prs_nil : Dt.sl 2 (.v (.int .i64 0)) [] = prs [] := rfl
@[go_sem] theorem prs_one (a b : Int) : Dt.sl 2 (.v (.int .i64 0)) [.v (.int .i64 a), .v (.int .i64 b)] = prs [(a, b)] := rfl
@[go_sem] theorem prs_part0 (a b : Int) (l : List (Int × Int)) : (prs ((a, b) :: l)).part 0 2 = [.v (.int .i64 a), .v (.int .i64 b)] := rfl
@[go_sem] theorem ofDt_prs (ts) (l : List (Int × Int)) : Sv.ofDt ts (prs l) = .bor ts (prs l) := rfl
theorem one_put (r : List Int) : (intsN [] 1).put 0 (ints r) = intss [r] := rfl
theorem ss_put (r q : List Int) : (intss [r]).put 0 (ints q) = intss [q] := rfl
theorem rep_one : List.replicate 1 (0 : Int) = [0] := rfl
attribute [local go_sem] List.getD_cons_zero one_put ss_put rep_one List.set_cons_zero
end Go.Eng
end
section
namespace Go.Eng
open Go Go.Proofs Go.Cats
attribute [local go_sem] one_nil_c8 one_ptr_c8 List.getD_cons_zero nums_zero nums_len
theorem oneC_ob : oneC.ob = 1 := rfl
theorem oneC_fr : oneC.fr = [0] := rfl
attribute [local go_sem] oneC_ob oneC_fr
def OC (c : Cat) (l : List Int) (code : Int) : Prop := (¬ IsCat c ∧ code = 1) ∨ (IsCat c ∧ ¬ Within l c.ob ∧ code = 2) ∨ (IsCat c ∧ Within l c.ob ∧ code = 0)
end Go.Eng
end
section
namespace Go.Eng
open Go Go.Proofs Go.Cats
attribute [local go_sem] one_nil_c8 one_ptr_c8 List.getD_cons_zero nums_zero nums_len
theorem nums_fill {n i : Nat} (h : i < n) : (nums i ++ List.replicate (n - i) 0).set i (i : Int) = nums (i + 1) ++ List.replicate (n - (i + 1)) 0 := by
  have e : n - i = n - (i + 1) + 1 := by omega
  rw [List.set_append_right _ _ (by rw [nums_len]; omega), nums_len, Nat.sub_self, e, nums_succ]
  simp [List.replicate_succ]
theorem cal_numbers : Callable Try.prog 81 := ⟨_, Try.func81, rfl, rfl⟩
theorem sp_numbers {n : Nat} (h : n ≤ 1048576) : Spec Try.prog 81 [iv n] [] (.sl 0) [(0, ⟨1, .arr (ints (nums n))⟩)] := by
  refine spec_of_V (E := TE) 0 Try.func81 rfl (by simp [Try.f81]) fun X hn hX => ?_
  repeat' (first | (with_reducible first | refine V_seq ?_ | refine V_block ?_ | refine V_skip ?_ | refine V_ret ?_ | refine V_exit ?_) | ((with_reducible refine V_cond ?_); simp only [go_sem, simprocAttr]) | ((refine V_region (by rw [hn]; rfl) ?_); intro K hK) | ((first | with_reducible refine evOps_n ?_ | ((with_reducible apply evOps_g); rfl)); intro K hK; simp (contextual := true) only [go_sem, simprocAttr]) | with_reducible refine evOps_nil ?_ | ((with_reducible refine hK _ ?_); clear hK K) | (with_reducible first | refine And.intro ?_ ?_ | refine nxt_n ?_ | refine nxt_r ?_ | refine nxt_e ?_ | refine blk_n ?_ | refine blk_r ?_ | refine blk_same ?_ | refine blk_other (by decide) ?_ | refine noG_n ?_ | refine noG_r ?_ | refine noG_e ?_ | refine inR_mk ?_ ?_) | (refine fun (hc : (_ : Bool) = _) => ?_; try simp only [hcS] at hc))
  all_goals try exact om_
  refine V_loopK (G := {i : Nat // i ≤ n ∧ (True)}) (fun ⟨i, _⟩ => [(9, iv i), (3, .sl 0)]) [2, 8] (fun ⟨i, _⟩ => [(0, ⟨1, .arr (ints (nums i ++ List.replicate (n - i) 0))⟩)]) [0] (fun zz => n - zz.1) ⟨0, Nat.zero_le _, by first | trivial | simp⟩ ?_ ?_
  · exact Imp.au hX
  rintro ⟨i, hii, hwi⟩
  simp only [go_sem, simprocAttr]
  have l1 : (nums i ++ List.replicate (n - i) 0).length = n := by rw [List.length_append, nums_len, List.length_replicate]; omega
  repeat' (first | (with_reducible first | refine V_seq ?_ | refine V_block ?_ | refine V_skip ?_ | refine V_ret ?_ | refine V_exit ?_) | ((with_reducible refine V_cond ?_); simp only [go_sem, simprocAttr]) | ((refine V_region (by rw [hn]; rfl) ?_); intro K hK) | ((first | with_reducible refine evOps_n ?_ | ((with_reducible apply evOps_g); rfl)); intro K hK; simp (contextual := true) only [go_sem, simprocAttr]) | with_reducible refine evOps_nil ?_ | ((with_reducible refine hK _ ?_); clear hK K) | (with_reducible first | refine And.intro ?_ ?_ | refine nxt_n ?_ | refine nxt_r ?_ | refine nxt_e ?_ | refine blk_n ?_ | refine blk_r ?_ | refine blk_same ?_ | refine blk_other (by decide) ?_ | refine noG_n ?_ | refine noG_r ?_ | refine noG_e ?_ | refine inR_mk ?_ ?_) | (refine fun (hc : (_ : Bool) = _) => ?_; try simp only [hcS] at hc))
  all_goals try exact om_
  · have e1 := nums_fill (n := n) (i := i) (by omega)
    refine ⟨⟨i + 1, by omega, (by trivial)⟩, by simp only; omega, Imp.auto hX (by simp only [go_sem, simprocAttr, e1])⟩
  · have e : i = n := by omega
    subst e
    (first | refine ret_auto ?_ | refine ret_auto' ?_); simp only [go_sem, simprocAttr, Try.f81]
    rw [Nat.sub_self, List.replicate_zero, List.append_nil]
end Go.Eng
end
section
namespace Go.Eng
open Go Go.Proofs Go.Cats
attribute [local go_sem] one_nil_c8 one_ptr_c8 List.getD_cons_zero
def FnSliceFunctorOut (c : Cat) (x : Int) (g : Fun) (code : Int) : Prop := (OC c [x] code ∧ code ≠ 0 ∧ g = nilF) ∨ (OC c [x] 0 ∧ CommaLeftOut (selfF c) (pointF c x) g code)
def FnCosliceFunctorOut (c : Cat) (x : Int) (g : Fun) (code : Int) : Prop := (OC c [x] code ∧ code ≠ 0 ∧ g = nilF) ∨ (OC c [x] 0 ∧ CommaRightOut (pointF c x) (selfF c) g code)
end Go.Eng
end
