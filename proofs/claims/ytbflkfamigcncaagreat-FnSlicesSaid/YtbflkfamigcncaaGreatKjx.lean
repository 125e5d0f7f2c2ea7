/- Several texts in one: S01, S02, S03, S05. -/
import Derived.Test.YtbflkfamigcncaaGreatC18q
set_option linter.unusedSimpArgs false
set_option linter.unusedVariables false
set_option maxRecDepth 100000
set_option maxHeartbeats 16000000
section
namespace Go.Eng
open Go Go.Proofs Go.Cats
attribute [local go_sem] one_nil_c8 one_ptr_c8
def prs (l : List (Int × Int)) : Dt := .sl 2 (.v (.int .i64 0)) (l.flatMap fun p => [.v (.int .i64 p.1), .v (.int .i64 p.2)])
theorem prs_cl (l : List (Int × Int)) : (l.flatMap fun p => ([.v (.int .i64 p.1), .v (.int .i64 p.2)] : List Dt)).length = l.length * 2 := by
  induction l with
  | nil => rfl
  | cons p l ih => simp only [List.flatMap_cons, List.length_append, ih, List.length_cons, List.length_nil]; omega
@[go_sem] theorem prs_isSl (l) : (prs l).isSl = true := rfl
@[go_sem] theorem prs_sz (l) : (prs l).sz = 2 := rfl
@[go_sem] theorem prs_nc (l : List (Int × Int)) : (prs l).nc = l.length * 2 := by simp only [prs, Dt.nc, Dt.cells]; exact prs_cl l
@[go_sem] theorem prs_len (l : List (Int × Int)) : (prs l).len = l.length := by
  have := prs_nc l
  unfold Dt.len
  rw [this, prs_sz]; omega
@[go_sem] theorem prs_ones (l : List (Int × Int)) : (prs l).ones = true := by
  simp only [prs, Dt.ones, Dt.cells, List.all_eq_true, List.mem_flatMap, forall_exists_index, and_imp]
  intro x p _ hx
  simp only [List.mem_cons, List.not_mem_nil, or_false] at hx
  rcases hx with rfl | rfl <;> rfl
@[go_sem] theorem prs_flat (l : List (Int × Int)) : (prs l).flat = true := by
  simp only [prs, Dt.flat, Dt.cells, List.all_eq_true, List.mem_flatMap, forall_exists_index, and_imp]
  intro x p _ hx
  simp only [List.mem_cons, List.not_mem_nil, or_false] at hx
  rcases hx with rfl | rfl <;> rfl
@[go_sem] theorem prs_app (l m : List (Int × Int)) : Dt.app 2 (.v (.int .i64 0)) (prs l) (prs m) = prs (l ++ m) := by simp [prs, Dt.app, Dt.cells, List.flatMap_append]
@[go_sem] theorem prs_nil : Dt.sl 2 (.v (.int .i64 0)) [] = prs [] := rfl
@[go_sem] theorem prs_one (a b : Int) : Dt.sl 2 (.v (.int .i64 0)) [.v (.int .i64 a), .v (.int .i64 b)] = prs [(a, b)] := rfl
@[go_sem] theorem prs_part0 (a b : Int) (l : List (Int × Int)) : (prs ((a, b) :: l)).part 0 2 = [.v (.int .i64 a), .v (.int .i64 b)] := rfl
@[go_sem] theorem ofDt_prs (ts) (l : List (Int × Int)) : Sv.ofDt ts (prs l) = .bor ts (prs l) := rfl
theorem eq_pair : EqP2 TE.P 287 := eqP2_mk Tryz.underlying287 (by decide) (by decide) Tryz.underlying2 (by first | exact Tryz.stoodInHeld287 | kernel_rfl) (by first | exact Tryz.eqGuardType287 | kernel_rfl) fun xs off w v h => run_part_plain (P := Tryz.prog) w (by kernel_rfl) h
theorem hook_el2 {E : Env} {d : Option Nat} {t u : TypeId} {x y : Operand} {σ : Ss} {K : Ss → Prop} {a b a' b' : Int} (hq : EqP2 E.P t) (hx : σ.opd x = .agg [iv a, iv b]) (hy : σ.opd y = .agg [iv a', iv b'])
    (hK : K (σ.ap d (.v (.bool (decide (a = a') && decide (b = b')))) [] σ.nx)) : EvHook E d (.binOp .eql t x y u) σ K := hook_eq2 hq false hx hy hK
theorem cal_Index_impl_pair_int64_impl_pair_int64 : Callable Tryz.prog 279 := ⟨_, Tryz.func279, rfl, rfl⟩
theorem sp_Index_impl_pair_int64_impl_pair_int64  : Spec Tryz.prog 279 [.bor [] (prs [(0, 0)]), .agg [iv 0, iv 0]] [] (iv 0) [] := by
  refine spec_of_V (E := TE) 0 Tryz.func279 rfl (by simp [Tryz.f279]) fun X hn hX => ?_
  repeat' (first | (exfalso; first | omega | (simp at hc; done)) | with_reducible refine St.f ?_ | ((with_reducible refine V_cond ?_); simp only [go_sem, simprocAttr]) | ((first | refine V_rg ?_ | refine V_dr ?_); intro K hK) | ((first | with_reducible refine So.f ?_ | ((with_reducible apply evOps_g); rfl) | ((with_reducible apply evOpsD_g); rfl)); intro K hK; simp (contextual := true) only [go_sem, simprocAttr]) | ((with_reducible refine evOpsD_nil ?_ ?_); kernel_rfl) | ((with_reducible refine hK _ ?_); clear hK K) | (with_reducible first | refine And.intro ?_ ?_ | refine blk_other (by decide) ?_ | refine inR_mk ?_ ?_) | (with_reducible refine V_rounds 2 ?_) | (with_reducible refine VR_2 ?_) | (with_reducible refine VR_1 ?_) | (refine hook_el2 eq_pair (by simp only [go_sem, simprocAttr]; rfl) (by simp only [go_sem, simprocAttr]; rfl) ?_; simp only [go_sem, simprocAttr]) | (refine fun (hc : (_ : Bool) = _) => ?_; try simp only [hcS] at hc))
  all_goals try exact om_
  (first | refine ret_auto ?_ | refine ret_auto' ?_); simp only [go_sem, simprocAttr, Tryz.f279]
theorem cal_index_impl_pair_int64 : Callable Tryz.prog 262 := ⟨_, Tryz.func262, rfl, rfl⟩
theorem sp_index_impl_pair_int64  : Spec Tryz.prog 262 [.bor [] (prs [(0, 0)]), .agg [iv 0, iv 0]] [] (iv 0) [] := by
  refine spec_of_V (E := TE) 0 Tryz.func262 rfl (by simp [Tryz.f262]) fun X hn hX => ?_
  repeat' (first | with_reducible refine St.f ?_ | ((with_reducible refine V_cond ?_); simp only [go_sem, simprocAttr]) | ((refine V_rg ?_); intro K hK) | ((first | with_reducible refine So.f ?_ | ((with_reducible apply evOps_g); rfl)); intro K hK; simp (contextual := true) only [go_sem, simprocAttr]) | ((with_reducible refine hK _ ?_); clear hK K) | (with_reducible first | refine And.intro ?_ ?_ | refine inR_mk ?_ ?_) | ((with_reducible refine evCall_at 279 ?_); refine EvCall.rq (a := (sp_Index_impl_pair_int64_impl_pair_int64)) (b := cal_Index_impl_pair_int64_impl_pair_int64) (c := ?_); all_goals try simp only [go_sem, simprocAttr]) | (refine fun (hc : (_ : Bool) = _) => ?_; try simp only [hcS] at hc))
  all_goals try exact om_
  (first | refine ret_auto ?_ | refine ret_auto' ?_); simp only [go_sem, simprocAttr, Tryz.f262]
theorem cal_PreorderCategory_1 : Callable Tryz.prog 261 := ⟨_, Tryz.func261, rfl, rfl⟩
theorem sp_PreorderCategory_1  : Spec Tryz.prog 261 [iv 0, iv 0, .bptr [] [prs [(0, 0)]], .bptr [] [.v (.int .i64 1), ints [0], ints [0]]] [] (iv 0) [] := by
  refine spec_of_V (E := TE) 0 Tryz.func261 rfl (by simp [Tryz.f261]) fun X hn hX => ?_
  repeat' (first | with_reducible refine St.f ?_ | ((with_reducible refine V_cond ?_); simp only [go_sem, simprocAttr]) | ((first | refine V_rg ?_ | refine V_dr ?_); intro K hK) | ((first | with_reducible refine So.f ?_ | ((with_reducible apply evOps_g); rfl) | ((with_reducible apply evOpsD_g); rfl)); intro K hK; simp (contextual := true) only [go_sem, simprocAttr]) | ((with_reducible refine evOpsD_nil ?_ ?_); kernel_rfl) | ((with_reducible refine hK _ ?_); clear hK K) | (with_reducible first | refine And.intro ?_ ?_ | refine inR_mk ?_ ?_) | ((with_reducible refine evCall_at 262 ?_); refine EvCall.rq (a := (sp_index_impl_pair_int64)) (b := cal_index_impl_pair_int64) (c := ?_); all_goals try simp only [go_sem, simprocAttr]) | (refine fun (hc : (_ : Bool) = _) => ?_; try simp only [hcS] at hc))
  all_goals try exact om_
  (first | refine ret_auto ?_ | refine ret_auto' ?_); simp only [go_sem, simprocAttr, Tryz.f261]
theorem one_put (r : List Int) : (intsN [] 1).put 0 (ints r) = intss [r] := rfl
theorem ss_put (r q : List Int) : (intss [r]).put 0 (ints q) = intss [q] := rfl
theorem rep_one : List.replicate 1 (0 : Int) = [0] := rfl
attribute [local go_sem] List.getD_cons_zero one_put ss_put rep_one List.set_cons_zero
section
variable (x : Value) (l : List Int)
theorem rz_isSl : (Dt.sl 1 (ints []) [Dt.v x]).isSl = true := rfl
theorem rz_sz : (Dt.sl 1 (ints []) [Dt.v x]).sz = 1 := rfl
theorem rz_nc : (Dt.sl 1 (ints []) [Dt.v x]).nc = 1 := rfl
theorem rz_len : (Dt.sl 1 (ints []) [Dt.v x]).len = 1 := by simp [Dt.len, Dt.sz, Dt.nc, Dt.cells]
theorem rz_at : (Dt.sl 1 (ints []) [Dt.v x]).at 0 = .v x := rfl
theorem rz_put : (Dt.sl 1 (ints []) [Dt.v x]).put 0 (ints l) = intss [l] := rfl
attribute [local go_sem] rz_isSl rz_sz rz_nc rz_len rz_at rz_put
end
attribute [local go_sem] rz_isSl rz_sz rz_nc rz_len rz_at rz_put
theorem sp_Category_table_one : Spec Tryz.prog 137 [.ptr 0 0, .fn 261 [.ptr 4 0, .ptr 0 0]] [(0, ⟨1, .box [iv 1, .sl 1, .sl 2, .sl 3, .v (.slice none 0 0)]⟩), (1, ⟨1, .arr (ints [0])⟩), (2, ⟨1, .arr (ints [0])⟩), (3, ⟨1, .arr (ints [0])⟩), (4, ⟨1, .box [.sl 5]⟩), (5, ⟨1, .arr (prs [(0, 0)])⟩)] (.tup [])
    [(0, ⟨1, .box [iv 1, .sl 1, .sl 2, .sl 3, .sl 6]⟩), (1, ⟨1, .arr (ints [0])⟩), (2, ⟨1, .arr (ints [0])⟩), (3, ⟨1, .arr (ints [0])⟩), (4, ⟨1, .box [.sl 5]⟩), (5, ⟨1, .arr (prs [(0, 0)])⟩), (6, ⟨1, .arr (intss [[0]])⟩)] := by
  refine spec_of_V (E := TE) 6 Tryz.func137 rfl (by simp [Tryz.f137]) fun X hn hX => ?_
  repeat' (first | (exfalso; first | omega | (simp at hc; done)) | (refine V_at 9 (Imp.open_ 6 0 _ [] (.inr ⟨rfl, rfl⟩) (by simp [go_sem, simprocAttr]) (by simp [go_sem, simprocAttr]) rfl rfl rfl) ?_; simp only [go_sem, simprocAttr]) | refine V_at 12 (Imp.closeA 6 8 0 _ _ rfl rfl (by decide) (by simp [go_sem, simprocAttr])) ?_ | with_reducible refine St.f ?_ | ((with_reducible refine V_cond ?_); simp only [go_sem, simprocAttr]) | ((first | refine V_rg ?_ | refine V_dr ?_); intro K hK) | ((first | with_reducible refine So.f ?_ | ((with_reducible apply evOps_g); rfl) | ((with_reducible apply evOpsD_g); rfl)); intro K hK; simp (contextual := true) only [go_sem, simprocAttr]) | ((with_reducible refine evOpsD_nil ?_ ?_); kernel_rfl) | ((with_reducible refine hK _ ?_); clear hK K) | (with_reducible first | refine And.intro ?_ ?_ | refine blk_other (by decide) ?_ | refine inR_mk ?_ ?_) | ((with_reducible refine evCall_at 84 ?_); refine EvCall.mq (sp_Category_arrows_tb (ob:=1) (fr:=[0]) (to:=[0]) (id:=[0])) cal_Category_arrows [] [0,1,2,3] ?_; all_goals try simp only [go_sem, simprocAttr]) | ((with_reducible refine evCall_at 261 ?_); refine EvCall.mq (sp_PreorderCategory_1) cal_PreorderCategory_1 [] [4,5,0,1,2] ?_; all_goals try simp only [go_sem, simprocAttr]) | (with_reducible refine V_rounds 2 ?_) | (with_reducible refine VR_2 ?_) | (with_reducible refine VR_1 ?_) | (refine fun (hc : (_ : Bool) = _) => ?_; try simp only [hcS] at hc))
  all_goals try exact om_
  (first | refine ret_auto ?_ | refine ret_auto' ?_); simp only [go_sem, simprocAttr, Tryz.f137]
theorem cal_isPreorder : Callable Tryz.prog 260 := ⟨_, Tryz.func260, rfl, rfl⟩
theorem sp_isPreorder  : Spec Tryz.prog 260 [.bor [] (intss [[1]])] [] (bv true) [] := by
  refine spec_of_V (E := TE) 0 Tryz.func260 rfl (by simp [Tryz.f260]) fun X hn hX => ?_
  repeat' (first | (refine V_regionH 10 (by rw [hn]; rfl) ?_; intro K hK; refine evOpsH_n ?_; simp only [go_sem, simprocAttr]; refine evOpsH_h ?_; refine hook_andNot (k := .i64) (a := 1) (b := 1) (c := 0) (by simp only [go_sem, simprocAttr]) (by simp only [go_sem, simprocAttr]) (by decide) ?_; refine evOpsH_n ?_; simp only [go_sem, simprocAttr]; refine evOpsH_e ?_; refine hK _ ?_; clear hK K) | (exfalso; first | omega | (simp at hc; done)) | with_reducible refine St.f ?_ | ((with_reducible refine V_cond ?_); simp only [go_sem, simprocAttr]) | ((first | refine V_rg ?_ | refine V_dr ?_); intro K hK) | ((first | with_reducible refine So.f ?_ | ((with_reducible apply evOps_g); rfl) | ((with_reducible apply evOpsD_g); rfl)); intro K hK; simp (contextual := true) only [go_sem, simprocAttr]) | ((with_reducible refine evOpsD_nil ?_ ?_); kernel_rfl) | ((with_reducible refine hK _ ?_); clear hK K) | (with_reducible first | refine And.intro ?_ ?_ | refine blk_other (by decide) ?_ | refine inR_mk ?_ ?_) | (with_reducible refine V_rounds 2 ?_) | (with_reducible refine VR_2 ?_) | (with_reducible refine VR_1 ?_) | (refine fun (hc : (_ : Bool) = _) => ?_; try simp only [hcS] at hc))
  all_goals try exact om_
  (first | refine ret_auto ?_ | refine ret_auto' ?_); simp only [go_sem, simprocAttr, Tryz.f260]
theorem cal_PreorderCategory : Callable Tryz.prog 233 := ⟨_, Tryz.func233, rfl, rfl⟩
theorem sp_PreorderCategory  : Spec Tryz.prog 233 [.bor [] (intss [[1]])] [] (.tup [.agg [iv 1, .sl 0, .sl 1, .sl 2, .sl 3], iv 0]) [(0, ⟨1, .arr (ints [0])⟩), (1, ⟨1, .arr (ints [0])⟩), (2, ⟨1, .arr (ints [0])⟩), (3, ⟨1, .arr (intss [[0]])⟩)] := by
  refine spec_of_V (E := TE) 0 Tryz.func233 rfl (by simp [Tryz.f233]) fun X hn hX => ?_
  repeat' (first | (exfalso; first | omega | (simp at hc; done)) | with_reducible refine St.f ?_ | ((with_reducible refine V_cond ?_); simp only [go_sem, simprocAttr]) | ((refine V_rg ?_); intro K hK) | ((first | with_reducible refine So.f ?_ | ((with_reducible apply evOps_g); rfl)); intro K hK; simp (contextual := true) only [go_sem, simprocAttr]) | ((with_reducible refine hK _ ?_); clear hK K) | (with_reducible first | refine And.intro ?_ ?_ | refine blk_other (by decide) ?_ | refine inR_mk ?_ ?_) | ((with_reducible refine evCall_at 260 ?_); refine EvCall.rq (a := (sp_isPreorder)) (b := cal_isPreorder) (c := ?_); all_goals try simp only [go_sem, simprocAttr]) | ((with_reducible refine evCall_at 137 ?_); refine EvCall.mq (sp_Category_table_one) cal_Category_table [(0,1),(1,9),(2,11),(3,5),(4,3),(5,7),(6,12)] [] ?_; all_goals try simp only [go_sem, simprocAttr]) | (with_reducible refine V_rounds 2 ?_) | (with_reducible refine VR_2 ?_) | (with_reducible refine VR_1 ?_) | (refine fun (hc : (_ : Bool) = _) => ?_; try simp only [hcS] at hc))
  all_goals try exact om_
  (first | refine ret_auto ?_ | refine ret_auto' ?_); simp only [go_sem, simprocAttr, Tryz.f233]
theorem cal_chain : Callable Tryz.prog 204 := ⟨_, Tryz.func204, rfl, rfl⟩
theorem sp_chain  : Spec Tryz.prog 204 [iv 1] [] (.agg [iv 1, .sl 0, .sl 1, .sl 2, .sl 3]) [(0, ⟨1, .arr (ints [0])⟩), (1, ⟨1, .arr (ints [0])⟩), (2, ⟨1, .arr (ints [0])⟩), (3, ⟨1, .arr (intss [[0]])⟩)] := by
  refine spec_of_V (E := TE) 0 Tryz.func204 rfl (by simp [Tryz.f204]) fun X hn hX => ?_
  repeat' (first | (exfalso; first | omega | (simp at hc; done)) | (refine V_at 9 (Imp.open_ 1 0 _ [] (.inr ⟨rfl, rfl⟩) (by simp [go_sem, simprocAttr]) (by simp [go_sem, simprocAttr]) rfl rfl rfl) ?_; simp only [go_sem, simprocAttr]) | refine V_at 8 (Imp.closeA 1 3 0 _ _ rfl rfl (by decide) (by simp [go_sem, simprocAttr])) ?_ | with_reducible refine St.f ?_ | ((with_reducible refine V_cond ?_); simp only [go_sem, simprocAttr]) | ((refine V_rg ?_); intro K hK) | ((first | with_reducible refine So.f ?_ | ((with_reducible apply evOps_g); rfl)); intro K hK; simp (contextual := true) only [go_sem, simprocAttr]) | ((with_reducible refine hK _ ?_); clear hK K) | (with_reducible first | refine And.intro ?_ ?_ | refine blk_other (by decide) ?_ | refine inR_mk ?_ ?_) | ((with_reducible refine evCall_at 233 ?_); refine EvCall.rq (a := (sp_PreorderCategory)) (b := cal_PreorderCategory) (c := ?_); all_goals try simp only [go_sem, simprocAttr]) | (with_reducible refine V_rounds 2 ?_) | (with_reducible refine VR_2 ?_) | (with_reducible refine VR_1 ?_) | (refine fun (hc : (_ : Bool) = _) => ?_; try simp only [hcS] at hc))
  all_goals try exact om_
  (first | refine ret_auto ?_ | refine ret_auto' ?_); simp only [go_sem, simprocAttr, Tryz.f204]
end Go.Eng
end
section
namespace Go.Eng
open Go Go.Proofs Go.Cats
attribute [local go_sem] one_nil_c8 one_ptr_c8 List.getD_cons_zero nums_zero nums_len
namespace Zo
theorem cal_l03Poset : Callable Tryz.prog 153 := ⟨_, Tryz.func153, rfl, rfl⟩
theorem sp_l03Poset  : Spec Tryz.prog 153 [.bor [] (intss [[1]])] [] (.agg [iv 1, .sl 0, .sl 1, .sl 2, .sl 3]) [(0, ⟨1, .arr (ints [0])⟩), (1, ⟨1, .arr (ints [0])⟩), (2, ⟨1, .arr (ints [0])⟩), (3, ⟨1, .arr (intss [[0]])⟩)] := by
  refine spec_of_V (E := TE) 0 Tryz.func153 rfl (by simp [Tryz.f153]) fun X hn hX => ?_
  repeat' (first | (exfalso; first | omega | (simp at hc; done)) | with_reducible refine St.f ?_ | ((with_reducible refine V_cond ?_); simp only [go_sem, simprocAttr]) | ((first | refine V_rg ?_ | refine V_dr ?_); intro K hK) | ((first | with_reducible refine So.f ?_ | ((with_reducible apply evOps_g); rfl) | ((with_reducible apply evOpsD_g); rfl)); intro K hK; simp (contextual := true) only [go_sem, simprocAttr]) | ((with_reducible refine evOpsD_nil ?_ ?_); kernel_rfl) | ((with_reducible refine hK _ ?_); clear hK K) | (with_reducible first | refine And.intro ?_ ?_ | refine blk_other (by decide) ?_ | refine inR_mk ?_ ?_) | (with_reducible refine V_rounds 2 ?_) | (with_reducible refine VR_2 ?_) | (with_reducible refine VR_1 ?_) | (refine fun (hc : (_ : Bool) = _) => ?_; try simp only [hcS] at hc))
  all_goals try exact om_
  (first | refine ret_auto ?_ | refine ret_auto' ?_); simp only [go_sem, simprocAttr, Tryz.f153]
end Zo
open Zo (sp_l03Poset cal_l03Poset)
theorem cal_l09One : Callable Tryz.prog 141 := ⟨_, Tryz.func141, rfl, rfl⟩
theorem sp_l09One  : Spec Tryz.prog 141 [] [] (.agg [iv 1, .sl 0, .sl 1, .sl 2, .sl 3]) [(0, ⟨1, .arr (ints [0])⟩), (1, ⟨1, .arr (ints [0])⟩), (2, ⟨1, .arr (ints [0])⟩), (3, ⟨1, .arr (intss [[0]])⟩)] := by
  refine spec_of_V (E := TE) 0 Tryz.func141 rfl (by simp [Tryz.f141]) fun X hn hX => ?_
  repeat' (first | with_reducible refine St.f ?_ | ((with_reducible refine V_cond ?_); simp only [go_sem, simprocAttr]) | ((refine V_rg ?_); intro K hK) | ((first | with_reducible refine So.f ?_ | ((with_reducible apply evOps_g); rfl)); intro K hK; simp (contextual := true) only [go_sem, simprocAttr]) | ((with_reducible refine hK _ ?_); clear hK K) | (with_reducible first | refine And.intro ?_ ?_ | refine inR_mk ?_ ?_) | ((with_reducible refine evCall_at 153 ?_); refine EvCall.rq (a := (sp_l03Poset)) (b := cal_l03Poset) (c := ?_); all_goals try simp only [go_sem, simprocAttr]) | (refine fun (hc : (_ : Bool) = _) => ?_; try simp only [hcS] at hc))
  all_goals try exact om_
  (first | refine ret_auto ?_ | refine ret_auto' ?_); simp only [go_sem, simprocAttr, Tryz.f141]
theorem cal_l06Self : Callable Tryz.prog 67 := ⟨_, Tryz.func67, rfl, rfl⟩
theorem sp_l06Self {c : Cat} (hb : CatB c) (h0 : 0 ≤ c.ob) (h8 : c.ob ≤ 1048576) : Spec Tryz.prog 67 [catV c] [] (.agg [iv (selfF c).src.ob, .sl 0, .sl 1, .sl 2, .sl 3, iv (selfF c).tgt.ob, .sl 4, .sl 5, .sl 6, .sl 7, .sl 8, .sl 9]) [(0, ⟨1, .arr (ints (selfF c).src.fr)⟩), (1, ⟨1, .arr (ints (selfF c).src.to)⟩), (2, ⟨1, .arr (ints (selfF c).src.id)⟩), (3, ⟨1, .arr (intss (selfF c).src.co)⟩), (4, ⟨1, .arr (ints (selfF c).tgt.fr)⟩), (5, ⟨1, .arr (ints (selfF c).tgt.to)⟩), (6, ⟨1, .arr (ints (selfF c).tgt.id)⟩), (7, ⟨1, .arr (intss (selfF c).tgt.co)⟩), (8, ⟨1, .arr (ints (selfF c).obs)⟩), (9, ⟨1, .arr (ints (selfF c).ars)⟩)] := by
  refine spec_of_V (E := TE) 0 Tryz.func67 rfl (by simp [Tryz.f67]) fun X hn hX => ?_
  have b := hb.fr
  repeat' (first | with_reducible refine St.f ?_ | ((with_reducible refine V_cond ?_); simp only [go_sem, simprocAttr]) | ((refine V_rg ?_); intro K hK) | ((first | with_reducible refine So.f ?_ | ((with_reducible apply evOps_g); rfl)); intro K hK; simp (contextual := true) only [go_sem, simprocAttr]) | ((with_reducible refine hK _ ?_); clear hK K) | (with_reducible first | refine And.intro ?_ ?_ | refine blk_other (by decide) ?_ | refine inR_mk ?_ ?_) | (refine fun (hc : (_ : Bool) = _) => ?_; try simp only [hcS] at hc))
  all_goals try exact om_
  refine V_loopK (G := {i : Nat // i ≤ c.ob.toNat ∧ (True)}) (fun ⟨i, _⟩ => [(5, iv i), (3, .sl 2)]) [1, 2, 4] (fun ⟨i, _⟩ => [(2, ⟨1, .arr (ints (nums i))⟩)]) [2] (fun zz => c.ob.toNat - zz.1) ⟨0, Nat.zero_le _, by first | trivial | simp⟩ ?_ ?_
  · exact Imp.au hX
  rintro ⟨i, hii, hwi⟩
  simp only [go_sem, simprocAttr]
  repeat' (first | with_reducible refine St.f ?_ | ((with_reducible refine V_cond ?_); simp only [go_sem, simprocAttr]) | ((refine V_rg ?_); intro K hK) | ((first | with_reducible refine So.f ?_ | ((with_reducible apply evOps_g); rfl)); intro K hK; simp (contextual := true) only [go_sem, simprocAttr]) | ((with_reducible refine hK _ ?_); clear hK K) | (with_reducible first | refine And.intro ?_ ?_ | refine blk_other (by decide) ?_ | refine inR_mk ?_ ?_) | (refine fun (hc : (_ : Bool) = _) => ?_; try simp only [hcS] at hc))
  all_goals try exact om_
  · refine ⟨⟨i + 1, by omega, (by trivial)⟩, by simp only; omega, Imp.auto hX (by simp only [go_sem, simprocAttr, nums_succ])⟩
  · have e : i = c.ob.toNat := by omega
    subst e
    refine V_loopK (G := {a : Nat // a ≤ c.fr.length ∧ (True)}) (fun ⟨a, _⟩ => [(6, iv a), (4, .sl 3)]) [1, 2, 3] (fun ⟨a, _⟩ => [(3, ⟨1, .arr (ints (nums a))⟩)]) [3] (fun zz => c.fr.length - zz.1) ⟨0, Nat.zero_le _, by first | trivial | simp⟩ ?_ ?_
    · exact Imp.au hX
    rintro ⟨a, hia, hwa⟩
    simp only [go_sem, simprocAttr]
    have l1 := nums_len c.ob.toNat
    have l2 := nums_len a
    repeat' (first | with_reducible refine St.f ?_ | ((with_reducible refine V_cond ?_); simp only [go_sem, simprocAttr]) | ((refine V_rg ?_); intro K hK) | ((first | with_reducible refine So.f ?_ | ((with_reducible apply evOps_g); rfl)); intro K hK; simp (contextual := true) only [go_sem, simprocAttr]) | ((with_reducible refine hK _ ?_); clear hK K) | (with_reducible first | refine And.intro ?_ ?_ | refine blk_other (by decide) ?_ | refine inR_mk ?_ ?_) | ((with_reducible refine evCall_at 91 ?_); refine EvCall.rq (a := (sp_l06Make (c:=c) (d:=c) (p:=nums c.ob.toNat) (q:=nums a) ?_ ?_ ?_ ?_)) (b := cal_l06Make) (c := ?_); all_goals try simp only [go_sem, simprocAttr]) | (refine fun (hc : (_ : Bool) = _) => ?_; try simp only [hcS] at hc))
    all_goals try exact om_
    · refine ⟨⟨a + 1, by omega, (by trivial)⟩, by simp only; omega, Imp.auto hX (by simp only [go_sem, simprocAttr, nums_succ])⟩
    · have e : a = c.fr.length := by omega
      subst e
      (first | refine ret_auto ?_ | refine ret_auto' ?_); simp only [go_sem, simprocAttr, Tryz.f67]
      exact ⟨⟨rfl, rfl, rfl, rfl, rfl, rfl, rfl, rfl, rfl, rfl⟩, rfl⟩
theorem oneC_b : CatB oneC := ⟨by decide, by decide, by decide, by decide, by decide, by decide, fun f hf => by
  have h : f = 0 := by
    have h2 : f < 1 := hf
    omega
  subst h; decide⟩
theorem oneC_ob : oneC.ob = 1 := rfl
theorem oneC_fr : oneC.fr = [0] := rfl
attribute [local go_sem] oneC_ob oneC_fr
theorem cal_l06Constant : Callable Tryz.prog 89 := ⟨_, Tryz.func89, rfl, rfl⟩
theorem sp_l06Constant {d : Cat} {y : Int} (hb : CatB d) (h0 : 0 ≤ y) (h1 : y < d.id.length) : Spec Tryz.prog 89 [catV oneC, catV d, iv y] [] (.agg [iv (pointF d y).src.ob, .sl 0, .sl 1, .sl 2, .sl 3, iv (pointF d y).tgt.ob, .sl 4, .sl 5, .sl 6, .sl 7, .sl 8, .sl 9]) [(0, ⟨1, .arr (ints (pointF d y).src.fr)⟩), (1, ⟨1, .arr (ints (pointF d y).src.to)⟩), (2, ⟨1, .arr (ints (pointF d y).src.id)⟩), (3, ⟨1, .arr (intss (pointF d y).src.co)⟩), (4, ⟨1, .arr (ints (pointF d y).tgt.fr)⟩), (5, ⟨1, .arr (ints (pointF d y).tgt.to)⟩), (6, ⟨1, .arr (ints (pointF d y).tgt.id)⟩), (7, ⟨1, .arr (intss (pointF d y).tgt.co)⟩), (8, ⟨1, .arr (ints (pointF d y).obs)⟩), (9, ⟨1, .arr (ints (pointF d y).ars)⟩)] := by
  refine spec_of_V (E := TE) 0 Tryz.func89 rfl (by simp [Tryz.f89]) fun X hn hX => ?_
  have b1 := oneC_b
  repeat' (first | (exfalso; first | omega | (simp at hc; done)) | with_reducible refine St.f ?_ | ((with_reducible refine V_cond ?_); simp only [go_sem, simprocAttr]) | ((refine V_rg ?_); intro K hK) | ((first | with_reducible refine So.f ?_ | ((with_reducible apply evOps_g); rfl)); intro K hK; simp (contextual := true) only [go_sem, simprocAttr]) | ((with_reducible refine hK _ ?_); clear hK K) | (with_reducible first | refine And.intro ?_ ?_ | refine blk_other (by decide) ?_ | refine inR_mk ?_ ?_) | ((with_reducible refine evCall_at 91 ?_); refine EvCall.rq (a := (sp_l06Make (c:=oneC) (d:=d) (p:=[y]) (q:=[d.I y]) ?_ ?_ ?_ ?_)) (b := cal_l06Make) (c := ?_); all_goals try simp only [go_sem, simprocAttr]) | (with_reducible refine V_rounds 2 ?_) | (with_reducible refine VR_2 ?_) | (with_reducible refine VR_1 ?_) | (refine fun (hc : (_ : Bool) = _) => ?_; try simp only [hcS] at hc))
  all_goals try exact om_
  (first | refine ret_auto ?_ | refine ret_auto' ?_); simp only [go_sem, simprocAttr, Tryz.f89]
  exact ⟨⟨rfl, rfl, rfl, rfl, rfl, rfl, rfl, rfl, rfl, rfl⟩, rfl⟩
theorem cal_l09Point : Callable Tryz.prog 68 := ⟨_, Tryz.func68, rfl, rfl⟩
theorem sp_l09Point {c : Cat} {x : Int} (hb : CatB c) (h0 : 0 ≤ x) (h1 : x < c.id.length) : Spec Tryz.prog 68 [catV c, iv x] [] (.agg [iv (pointF c x).src.ob, .sl 0, .sl 1, .sl 2, .sl 3, iv (pointF c x).tgt.ob, .sl 4, .sl 5, .sl 6, .sl 7, .sl 8, .sl 9]) [(0, ⟨1, .arr (ints (pointF c x).src.fr)⟩), (1, ⟨1, .arr (ints (pointF c x).src.to)⟩), (2, ⟨1, .arr (ints (pointF c x).src.id)⟩), (3, ⟨1, .arr (intss (pointF c x).src.co)⟩), (4, ⟨1, .arr (ints (pointF c x).tgt.fr)⟩), (5, ⟨1, .arr (ints (pointF c x).tgt.to)⟩), (6, ⟨1, .arr (ints (pointF c x).tgt.id)⟩), (7, ⟨1, .arr (intss (pointF c x).tgt.co)⟩), (8, ⟨1, .arr (ints (pointF c x).obs)⟩), (9, ⟨1, .arr (ints (pointF c x).ars)⟩)] := by
  refine spec_of_V (E := TE) 0 Tryz.func68 rfl (by simp [Tryz.f68]) fun X hn hX => ?_
  repeat' (first | with_reducible refine St.f ?_ | ((with_reducible refine V_cond ?_); simp only [go_sem, simprocAttr]) | ((first | refine V_rg ?_ | refine V_dr ?_); intro K hK) | ((first | with_reducible refine So.f ?_ | ((with_reducible apply evOps_g); rfl) | ((with_reducible apply evOpsD_g); rfl)); intro K hK; simp (contextual := true) only [go_sem, simprocAttr]) | ((with_reducible refine evOpsD_nil ?_ ?_); kernel_rfl) | ((with_reducible refine hK _ ?_); clear hK K) | (with_reducible first | refine And.intro ?_ ?_ | refine inR_mk ?_ ?_) | ((with_reducible refine evCall_at 141 ?_); refine EvCall.rq (a := (sp_l09One)) (b := cal_l09One) (c := ?_); all_goals try simp only [go_sem, simprocAttr]) | ((with_reducible refine evCall_at 89 ?_); refine EvCall.rq (a := (sp_l06Constant (d:=c) (y:=x) ?_ ?_ ?_)) (b := cal_l06Constant) (c := ?_); all_goals try simp only [go_sem, simprocAttr]) | (refine fun (hc : (_ : Bool) = _) => ?_; try simp only [hcS] at hc))
  all_goals try exact om_
  (first | refine ret_auto ?_ | refine ret_auto' ?_); simp only [go_sem, simprocAttr, Tryz.f68]
def OC (c : Cat) (l : List Int) (code : Int) : Prop := (¬ IsCat c ∧ code = 1) ∨ (IsCat c ∧ ¬ Within l c.ob ∧ code = 2) ∨ (IsCat c ∧ Within l c.ob ∧ code = 0)
theorem oc_ex (c : Cat) (l : List Int) : ∃ code, OC c l code := by
  by_cases h1 : IsCat c
  · by_cases h2 : Within l c.ob
    · exact ⟨0, .inr (.inr ⟨h1, h2, rfl⟩)⟩
    · exact ⟨2, .inr (.inl ⟨h1, h2, rfl⟩)⟩
  · exact ⟨1, .inl ⟨h1, rfl⟩⟩
theorem cal_l02Objects : Callable Tryz.prog 140 := ⟨_, Tryz.func140, rfl, rfl⟩
theorem sp_l02Objects_at {c : Cat} {l : List Int} {code : Int} (hb : CatB c) (hl : l.length ≤ 1048576) (h : OC c l code) : Spec Tryz.prog 140 [catV c, .bor [] (ints l)] [] (iv code) [] := by
  refine spec_of_V (E := TE) 0 Tryz.func140 rfl (by simp [Tryz.f140]) fun X hn hX => ?_
  rcases h with ⟨h1, rfl⟩ | ⟨h1, h2, rfl⟩ | ⟨h1, h2, rfl⟩
  all_goals (repeat' (first | with_reducible refine St.f ?_ | ((with_reducible refine V_cond ?_); simp only [go_sem, simprocAttr]) | ((refine V_rg ?_); intro K hK) | ((first | with_reducible refine So.f ?_ | ((with_reducible apply evOps_g); rfl)); intro K hK; simp (contextual := true) only [go_sem, simprocAttr]) | ((with_reducible refine hK _ ?_); clear hK K) | (with_reducible first | refine And.intro ?_ ?_ | refine inR_mk ?_ ?_) | ((with_reducible refine evCall_at 78 ?_); refine EvCall.rq (a := (sp_l02Is ?_)) (b := cal_l02Is) (c := ?_); all_goals try simp only [go_sem, simprocAttr]) | ((with_reducible refine evCall_at 205 ?_); refine EvCall.rq (a := (sp_l01Map ?_)) (b := cal_l01Map) (c := ?_); all_goals try simp only [go_sem, simprocAttr]) | (refine fun (hc : (_ : Bool) = _) => ?_; try simp only [hcS] at hc)))
  all_goals try exact om_
  all_goals first | exact absurd (by assumption) h1 | exact absurd h1 (by assumption) | exact absurd h2 (by assumption) | exact absurd (by assumption) h2 | skip
  all_goals ((first | refine ret_auto ?_ | refine ret_auto' ?_); simp only [go_sem, simprocAttr, Tryz.f140])
theorem cal_l09Object : Callable Tryz.prog 66 := ⟨_, Tryz.func66, rfl, rfl⟩
theorem sp_l09Object_at {c : Cat} {x code : Int} (hb : CatB c) (h : OC c [x] code) : Spec Tryz.prog 66 [catV c, iv x] [] (iv code) [] := by
  refine spec_of_V (E := TE) 0 Tryz.func66 rfl (by simp [Tryz.f66]) fun X hn hX => ?_
  have hl : [x].length ≤ 1048576 := by simp
  repeat' (first | with_reducible refine St.f ?_ | ((with_reducible refine V_cond ?_); simp only [go_sem, simprocAttr]) | ((refine V_rg ?_); intro K hK) | ((first | with_reducible refine So.f ?_ | ((with_reducible apply evOps_g); rfl)); intro K hK; simp (contextual := true) only [go_sem, simprocAttr]) | ((with_reducible refine hK _ ?_); clear hK K) | (with_reducible first | refine And.intro ?_ ?_ | refine inR_mk ?_ ?_) | ((with_reducible refine evCall_at 140 ?_); refine EvCall.rq (a := (sp_l02Objects_at (l:=[x]) (code:=code) (by first | omega | assumption | rfl) (by first | omega | assumption | rfl) (by first | omega | assumption | rfl))) (b := cal_l02Objects) (c := ?_); all_goals try simp only [go_sem, simprocAttr]) | (refine fun (hc : (_ : Bool) = _) => ?_; try simp only [hcS] at hc))
  all_goals try exact om_
  (first | refine ret_auto ?_ | refine ret_auto' ?_); simp only [go_sem, simprocAttr, Tryz.f66]
theorem oc_zero {c : Cat} {x : Int} (h : OC c [x] 0) : IsCat c ∧ 0 ≤ x ∧ x < c.ob := by
  rcases h with ⟨_, h⟩ | ⟨_, _, h⟩ | ⟨h1, h2, _⟩
  · cases h
  · cases h
  · have := h2 0 (by simp)
    exact ⟨h1, by simpa using this⟩
theorem selfF_b {c : Cat} (hb : CatB c) (h : IsCat c) : FunB (selfF c) := ⟨hb, hb, by have := h.ob8; simp only [selfF, nums_len]; omega, by have := hb.fr; simp only [selfF, nums_len]; omega⟩
theorem pointF_b {c : Cat} (x : Int) (hb : CatB c) : FunB (pointF c x) := ⟨oneC_b, hb, by simp [pointF], by simp [pointF]⟩
theorem cal_spec_SliceCategory : Callable Tryz.prog 12 := ⟨_, Tryz.func12, rfl, rfl⟩
theorem sp_spec_SliceCategory_bad {c : Cat} {x code : Int} (hb : CatB c) (h : OC c [x] code) (h0 : code ≠ 0) : Spec Tryz.prog 12 [catV c, iv x] [] (.tup [.agg [iv 0, .v (.slice none 0 0), .v (.slice none 0 0), .v (.slice none 0 0), .v (.slice none 0 0)], iv code]) [] := by
  refine spec_of_V (E := TE) 0 Tryz.func12 rfl (by simp [Tryz.f12]) fun X hn hX => ?_
  repeat' (first | with_reducible refine St.f ?_ | ((with_reducible refine V_cond ?_); simp only [go_sem, simprocAttr]) | ((first | refine V_rg ?_ | refine V_dr ?_); intro K hK) | ((first | with_reducible refine So.f ?_ | ((with_reducible apply evOps_g); rfl) | ((with_reducible apply evOpsD_g); rfl)); intro K hK; simp (contextual := true) only [go_sem, simprocAttr]) | ((with_reducible refine evOpsD_nil ?_ ?_); kernel_rfl) | ((with_reducible refine hK _ ?_); clear hK K) | (with_reducible first | refine And.intro ?_ ?_ | refine inR_mk ?_ ?_) | ((with_reducible refine evCall_at 66 ?_); refine EvCall.rq (a := (sp_l09Object_at (code:=code) (by first | omega | assumption | rfl) (by first | omega | assumption | rfl))) (b := cal_l09Object) (c := ?_); all_goals try simp only [go_sem, simprocAttr]) | (refine fun (hc : (_ : Bool) = _) => ?_; try simp only [hcS] at hc))
  all_goals try exact om_
  · (first | refine ret_auto ?_ | refine ret_auto' ?_); simp only [go_sem, simprocAttr, Tryz.f12]
  all_goals omega
theorem sp_spec_SliceCategory_ok {c r : Cat} {x code : Int} (hb : CatB c) (h : OC c [x] 0) (h2 : COut (selfF c) (pointF c x) r code) : Spec Tryz.prog 12 [catV c, iv x] [] (.tup [.agg [iv r.ob, .sl 0, .sl 1, .sl 2, .sl 3], iv code]) [(0, ⟨1, .arr (ints r.fr)⟩), (1, ⟨1, .arr (ints r.to)⟩), (2, ⟨1, .arr (ints r.id)⟩), (3, ⟨1, .arr (intss r.co)⟩)] := by
  refine spec_of_V (E := TE) 0 Tryz.func12 rfl (by simp [Tryz.f12]) fun X hn hX => ?_
  obtain ⟨h3, h4, h5⟩ := oc_zero h
  have h6 := h3.ob0
  have h7 := h3.ob8
  have h8 := h3.idl
  have b1 := selfF_b hb h3
  have b2 := pointF_b x hb
  repeat' (first | with_reducible refine St.f ?_ | ((with_reducible refine V_cond ?_); simp only [go_sem, simprocAttr]) | ((first | refine V_rg ?_ | refine V_dr ?_); intro K hK) | ((first | with_reducible refine So.f ?_ | ((with_reducible apply evOps_g); rfl) | ((with_reducible apply evOpsD_g); rfl)); intro K hK; simp (contextual := true) only [go_sem, simprocAttr]) | ((with_reducible refine evOpsD_nil ?_ ?_); kernel_rfl) | ((with_reducible refine hK _ ?_); clear hK K) | (with_reducible first | refine And.intro ?_ ?_ | refine inR_mk ?_ ?_) | ((with_reducible refine evCall_at 66 ?_); refine EvCall.rq (a := (sp_l09Object_at (code:=0) (by first | omega | assumption | rfl) (by first | omega | assumption | rfl))) (b := cal_l09Object) (c := ?_); all_goals try simp only [go_sem, simprocAttr]) | ((with_reducible refine evCall_at 67 ?_); refine EvCall.rq (a := (sp_l06Self ?_ ?_ ?_)) (b := cal_l06Self) (c := ?_); all_goals try simp only [go_sem, simprocAttr]) | ((with_reducible refine evCall_at 68 ?_); refine EvCall.rq (a := (sp_l09Point ?_ ?_ ?_)) (b := cal_l09Point) (c := ?_); all_goals try simp only [go_sem, simprocAttr]) | ((with_reducible refine evCall_at 46 ?_); refine EvCall.rq (a := (sp_spec_CommaCategory_at (f:=selfF c) (e:=pointF c x) (c:=r) (code:=code) (by first | omega | assumption | rfl) (by first | omega | assumption | rfl) (by first | omega | assumption | rfl))) (b := cal_spec_CommaCategory) (c := ?_); all_goals try simp only [go_sem, simprocAttr]) | (refine fun (hc : (_ : Bool) = _) => ?_; try simp only [hcS] at hc))
  all_goals try exact om_
  (first | refine ret_auto ?_ | refine ret_auto' ?_); simp only [go_sem, simprocAttr, Tryz.f12]
end Go.Eng
end
section
namespace Go.Eng
open Go Go.Proofs Go.Cats
attribute [local go_sem] one_nil_c8 one_ptr_c8 List.getD_cons_zero nums_zero nums_len
theorem cal_objectCode : Callable Tryz.prog 132 := ⟨_, Tryz.func132, rfl, rfl⟩
theorem sp_objectCode_at {c : Cat} {l : List Int} {code : Int} (hb : CatB c) (hl : l.length ≤ 1048576) (h : OC c l code) : Spec Tryz.prog 132 [.bptr [] (catD c), .bor [] (ints l)] [] (iv code) [] := by
  refine spec_of_V (E := TE) 0 Tryz.func132 rfl (by simp [Tryz.f132]) fun X hn hX => ?_
  rcases h with ⟨h1, rfl⟩ | ⟨h1, h2, rfl⟩ | ⟨h1, h2, rfl⟩
  · repeat' (first | with_reducible refine St.f ?_ | ((with_reducible refine V_cond ?_); simp only [go_sem, simprocAttr]) | ((refine V_rg ?_); intro K hK) | ((first | with_reducible refine So.f ?_ | ((with_reducible apply evOps_g); rfl)); intro K hK; simp (contextual := true) only [go_sem, simprocAttr]) | ((with_reducible refine hK _ ?_); clear hK K) | (with_reducible first | refine And.intro ?_ ?_ | refine inR_mk ?_ ?_) | ((with_reducible refine evCall_at 71 ?_); refine EvCall.rq (a := (sp_Category_isCategory ?_)) (b := cal_Category_isCategory) (c := ?_); all_goals try simp only [go_sem, simprocAttr]) | ((with_reducible refine evCall_at 194 ?_); refine EvCall.rq (a := (sp_within ?_ ?_)) (b := cal_within) (c := ?_); all_goals try simp only [go_sem, simprocAttr]) | (refine fun (hc : (_ : Bool) = _) => ?_; try simp only [hcS] at hc))
    all_goals try exact om_
    · (first | refine ret_auto ?_ | refine ret_auto' ?_); simp only [go_sem, simprocAttr, Tryz.f132]
    all_goals exact absurd (by assumption) h1
  · have o1 := h1.ob0
    have o2 := h1.ob8
    have o3 : inR (c.ob - 1) := ⟨by omega, by omega⟩
    repeat' (first | with_reducible refine St.f ?_ | ((with_reducible refine V_cond ?_); simp only [go_sem, simprocAttr]) | ((refine V_rg ?_); intro K hK) | ((first | with_reducible refine So.f ?_ | ((with_reducible apply evOps_g); rfl)); intro K hK; simp (contextual := true) only [go_sem, simprocAttr]) | ((with_reducible refine hK _ ?_); clear hK K) | (with_reducible first | refine And.intro ?_ ?_ | refine inR_mk ?_ ?_) | ((with_reducible refine evCall_at 71 ?_); refine EvCall.rq (a := (sp_Category_isCategory ?_)) (b := cal_Category_isCategory) (c := ?_); all_goals try simp only [go_sem, simprocAttr]) | ((with_reducible refine evCall_at 194 ?_); refine EvCall.rq (a := (sp_within ?_ ?_)) (b := cal_within) (c := ?_); all_goals try simp only [go_sem, simprocAttr]) | (refine fun (hc : (_ : Bool) = _) => ?_; try simp only [hcS] at hc))
    all_goals try exact om_
    · exact absurd h1 (by assumption)
    · (first | refine ret_auto ?_ | refine ret_auto' ?_); simp only [go_sem, simprocAttr, Tryz.f132]
    all_goals exact absurd (by assumption) h2
  · have o1 := h1.ob0
    have o2 := h1.ob8
    have o3 : inR (c.ob - 1) := ⟨by omega, by omega⟩
    repeat' (first | with_reducible refine St.f ?_ | ((with_reducible refine V_cond ?_); simp only [go_sem, simprocAttr]) | ((refine V_rg ?_); intro K hK) | ((first | with_reducible refine So.f ?_ | ((with_reducible apply evOps_g); rfl)); intro K hK; simp (contextual := true) only [go_sem, simprocAttr]) | ((with_reducible refine hK _ ?_); clear hK K) | (with_reducible first | refine And.intro ?_ ?_ | refine inR_mk ?_ ?_) | ((with_reducible refine evCall_at 71 ?_); refine EvCall.rq (a := (sp_Category_isCategory ?_)) (b := cal_Category_isCategory) (c := ?_); all_goals try simp only [go_sem, simprocAttr]) | ((with_reducible refine evCall_at 194 ?_); refine EvCall.rq (a := (sp_within ?_ ?_)) (b := cal_within) (c := ?_); all_goals try simp only [go_sem, simprocAttr]) | (refine fun (hc : (_ : Bool) = _) => ?_; try simp only [hcS] at hc))
    all_goals try exact om_
    · exact absurd h1 (by assumption)
    · exact absurd h2 (by assumption)
    · (first | refine ret_auto ?_ | refine ret_auto' ?_); simp only [go_sem, simprocAttr, Tryz.f132]
theorem nums_fill {n i : Nat} (h : i < n) : (nums i ++ List.replicate (n - i) 0).set i (i : Int) = nums (i + 1) ++ List.replicate (n - (i + 1)) 0 := by
  have e : n - i = n - (i + 1) + 1 := by omega
  rw [List.set_append_right _ _ (by rw [nums_len]; omega), nums_len, Nat.sub_self, e, nums_succ]
  simp [List.replicate_succ]
theorem cal_numbers : Callable Tryz.prog 148 := ⟨_, Tryz.func148, rfl, rfl⟩
theorem sp_numbers {n : Nat} (h : n ≤ 1048576) : Spec Tryz.prog 148 [iv n] [] (.sl 0) [(0, ⟨1, .arr (ints (nums n))⟩)] := by
  refine spec_of_V (E := TE) 0 Tryz.func148 rfl (by simp [Tryz.f148]) fun X hn hX => ?_
  repeat' (first | with_reducible refine St.f ?_ | ((with_reducible refine V_cond ?_); simp only [go_sem, simprocAttr]) | ((refine V_rg ?_); intro K hK) | ((first | with_reducible refine So.f ?_ | ((with_reducible apply evOps_g); rfl)); intro K hK; simp (contextual := true) only [go_sem, simprocAttr]) | ((with_reducible refine hK _ ?_); clear hK K) | (with_reducible first | refine And.intro ?_ ?_ | refine blk_other (by decide) ?_ | refine inR_mk ?_ ?_) | (refine fun (hc : (_ : Bool) = _) => ?_; try simp only [hcS] at hc))
  all_goals try exact om_
  refine V_loopK (G := {i : Nat // i ≤ n ∧ (True)}) (fun ⟨i, _⟩ => [(9, iv i), (3, .sl 0)]) [2, 8] (fun ⟨i, _⟩ => [(0, ⟨1, .arr (ints (nums i ++ List.replicate (n - i) 0))⟩)]) [0] (fun zz => n - zz.1) ⟨0, Nat.zero_le _, by first | trivial | simp⟩ ?_ ?_
  · exact Imp.au hX
  rintro ⟨i, hii, hwi⟩
  simp only [go_sem, simprocAttr]
  have l1 : (nums i ++ List.replicate (n - i) 0).length = n := by rw [List.length_append, nums_len, List.length_replicate]; omega
  repeat' (first | with_reducible refine St.f ?_ | ((with_reducible refine V_cond ?_); simp only [go_sem, simprocAttr]) | ((refine V_rg ?_); intro K hK) | ((first | with_reducible refine So.f ?_ | ((with_reducible apply evOps_g); rfl)); intro K hK; simp (contextual := true) only [go_sem, simprocAttr]) | ((with_reducible refine hK _ ?_); clear hK K) | (with_reducible first | refine And.intro ?_ ?_ | refine blk_other (by decide) ?_ | refine inR_mk ?_ ?_) | (refine fun (hc : (_ : Bool) = _) => ?_; try simp only [hcS] at hc))
  all_goals try exact om_
  · have e1 := nums_fill (n := n) (i := i) (by omega)
    refine ⟨⟨i + 1, by omega, (by trivial)⟩, by simp only; omega, Imp.auto hX (by simp only [go_sem, simprocAttr, e1])⟩
  · have e : i = n := by omega
    subst e
    (first | refine ret_auto ?_ | refine ret_auto' ?_); simp only [go_sem, simprocAttr, Tryz.f148]
    rw [Nat.sub_self, List.replicate_zero, List.append_nil]
theorem sp_numbers_i {n : Int} (h0 : 0 ≤ n) (h : n ≤ 1048576) : Spec Tryz.prog 148 [iv n] [] (.sl 0) [(0, ⟨1, .arr (ints (nums n.toNat))⟩)] := by
  have := sp_numbers (n := n.toNat) (by omega)
  rwa [Int.toNat_of_nonneg h0] at this
theorem cal_identity : Callable Tryz.prog 76 := ⟨_, Tryz.func76, rfl, rfl⟩
theorem sp_identity {c : Cat} (hb : CatB c) (h0 : 0 ≤ c.ob) (h8 : c.ob ≤ 1048576) : Spec Tryz.prog 76 [.bptr [] (catD c)] [] (.agg [iv (selfF c).src.ob, .sl 0, .sl 1, .sl 2, .sl 3, iv (selfF c).tgt.ob, .sl 4, .sl 5, .sl 6, .sl 7, .sl 8, .sl 9]) [(0, ⟨1, .arr (ints (selfF c).src.fr)⟩), (1, ⟨1, .arr (ints (selfF c).src.to)⟩), (2, ⟨1, .arr (ints (selfF c).src.id)⟩), (3, ⟨1, .arr (intss (selfF c).src.co)⟩), (4, ⟨1, .arr (ints (selfF c).tgt.fr)⟩), (5, ⟨1, .arr (ints (selfF c).tgt.to)⟩), (6, ⟨1, .arr (ints (selfF c).tgt.id)⟩), (7, ⟨1, .arr (intss (selfF c).tgt.co)⟩), (8, ⟨1, .arr (ints (selfF c).obs)⟩), (9, ⟨1, .arr (ints (selfF c).ars)⟩)] := by
  refine spec_of_V (E := TE) 0 Tryz.func76 rfl (by simp [Tryz.f76]) fun X hn hX => ?_
  have b := hb.fr
  have l1 := nums_len c.ob.toNat
  have l2 := nums_len c.fr.length
  repeat' (first | with_reducible refine St.f ?_ | ((with_reducible refine V_cond ?_); simp only [go_sem, simprocAttr]) | ((refine V_rg ?_); intro K hK) | ((first | with_reducible refine So.f ?_ | ((with_reducible apply evOps_g); rfl)); intro K hK; simp (contextual := true) only [go_sem, simprocAttr]) | ((with_reducible refine hK _ ?_); clear hK K) | (with_reducible first | refine And.intro ?_ ?_ | refine inR_mk ?_ ?_) | ((with_reducible refine evCall_at 84 ?_); refine EvCall.rq (a := (sp_Category_arrows)) (b := cal_Category_arrows) (c := ?_); all_goals try simp only [go_sem, simprocAttr]) | ((with_reducible refine evCall_at 148 ?_); refine EvCall.rq (a := (sp_numbers_i (n:=c.ob) h0 h8)) (b := cal_numbers) (c := ?_); all_goals try simp only [go_sem, simprocAttr]) | ((with_reducible refine evCall_at 148 ?_); refine EvCall.rq (a := (sp_numbers (n:=c.fr.length) ?_)) (b := cal_numbers) (c := ?_); all_goals try simp only [go_sem, simprocAttr]) | ((with_reducible refine evCall_at 86 ?_); refine EvCall.rq (a := (sp_functor (c:=c) (d:=c) (p:=nums c.ob.toNat) (q:=nums c.fr.length) ?_ ?_ ?_ ?_)) (b := cal_functor) (c := ?_); all_goals try simp only [go_sem, simprocAttr]) | (refine fun (hc : (_ : Bool) = _) => ?_; try simp only [hcS] at hc))
  all_goals try exact om_
  (first | refine ret_auto ?_ | refine ret_auto' ?_); simp only [go_sem, simprocAttr, Tryz.f76]
  exact ⟨⟨rfl, rfl, rfl, rfl, rfl, rfl, rfl, rfl, rfl, rfl⟩, rfl⟩
theorem cal_point : Callable Tryz.prog 135 := ⟨_, Tryz.func135, rfl, rfl⟩
theorem sp_point {c : Cat} {x : Int} (hb : CatB c) (h0 : 0 ≤ x) (h1 : x < c.id.length) : Spec Tryz.prog 135 [.bptr [] (catD c), iv x] [] (.agg [iv (pointF c x).src.ob, .sl 0, .sl 1, .sl 2, .sl 3, iv (pointF c x).tgt.ob, .sl 4, .sl 5, .sl 6, .sl 7, .sl 8, .sl 9]) [(0, ⟨1, .arr (ints (pointF c x).src.fr)⟩), (1, ⟨1, .arr (ints (pointF c x).src.to)⟩), (2, ⟨1, .arr (ints (pointF c x).src.id)⟩), (3, ⟨1, .arr (intss (pointF c x).src.co)⟩), (4, ⟨1, .arr (ints (pointF c x).tgt.fr)⟩), (5, ⟨1, .arr (ints (pointF c x).tgt.to)⟩), (6, ⟨1, .arr (ints (pointF c x).tgt.id)⟩), (7, ⟨1, .arr (intss (pointF c x).tgt.co)⟩), (8, ⟨1, .arr (ints (pointF c x).obs)⟩), (9, ⟨1, .arr (ints (pointF c x).ars)⟩)] := by
  refine spec_of_V (E := TE) 0 Tryz.func135 rfl (by simp [Tryz.f135]) fun X hn hX => ?_
  have b1 := oneC_b
  repeat' (first | with_reducible refine St.f ?_ | ((with_reducible refine V_cond ?_); simp only [go_sem, simprocAttr]) | ((refine V_rg ?_); intro K hK) | ((first | with_reducible refine So.f ?_ | ((with_reducible apply evOps_g); rfl)); intro K hK; simp (contextual := true) only [go_sem, simprocAttr]) | ((with_reducible refine hK _ ?_); clear hK K) | (with_reducible first | refine And.intro ?_ ?_ | refine inR_mk ?_ ?_) | ((with_reducible refine evCall_at 204 ?_); refine EvCall.rq (a := (sp_chain)) (b := cal_chain) (c := ?_); all_goals try simp only [go_sem, simprocAttr]) | ((with_reducible refine evCall_at 86 ?_); refine EvCall.rq (a := (sp_functor (c:=oneC) (d:=c) (p:=[x]) (q:=[c.I x]) ?_ ?_ ?_ ?_)) (b := cal_functor) (c := ?_); all_goals try simp only [go_sem, simprocAttr]) | (refine fun (hc : (_ : Bool) = _) => ?_; try simp only [hcS] at hc))
  all_goals try exact om_
  (first | refine ret_auto ?_ | refine ret_auto' ?_); simp only [go_sem, simprocAttr, Tryz.f135]
  exact ⟨⟨rfl, rfl, rfl, rfl, rfl, rfl, rfl, rfl, rfl, rfl⟩, rfl⟩
theorem sp_commaOf_none {f e : Fun} (hf : IsFun f) (he : IsFun e) (hT : f.tgt = e.tgt) (hn : ¬ CYes f e) : Spec Tryz.prog 77 [.bptr [] (funD f), .bptr [] (funD e)] [] (.tup [.v (.pointer none), .v (.bool false)]) [] := by
  by_cases h9 : (cObj f e).length ≤ 8
  · by_cases h10 : (cmA f e).length ≤ 40
    · exact absurd ⟨hf, he, hT, h9, h10⟩ hn
    · exact sp_commaOf_many hf he hT h9 (by unfold cmA at h10; omega)
  · exact sp_commaOf_big hf he hT (by omega)
theorem sp_slice_bad {c : Cat} {x code : Int} (hb : CatB c) (h : OC c [x] code) (h0 : code ≠ 0) : Spec Tryz.prog 64 [.bptr [] (catD c), iv x, .v (.bool false)] [] (.tup [.v (.pointer none), iv code]) [] := by
  refine spec_of_V (E := TE) 0 Tryz.func64 rfl (by simp [Tryz.f64]) fun X hn hX => ?_
  have hl : [x].length ≤ 1048576 := by simp
  repeat' (first | with_reducible refine St.f ?_ | ((with_reducible refine V_cond ?_); simp only [go_sem, simprocAttr]) | ((refine V_rg ?_); intro K hK) | ((first | with_reducible refine So.f ?_ | ((with_reducible apply evOps_g); rfl)); intro K hK; simp (contextual := true) only [go_sem, simprocAttr]) | ((with_reducible refine hK _ ?_); clear hK K) | (with_reducible first | refine And.intro ?_ ?_ | refine inR_mk ?_ ?_) | ((with_reducible refine evCall_at 132 ?_); refine EvCall.rq (a := (sp_objectCode_at (l:=[x]) (code:=code) (by first | omega | assumption | rfl) (by first | omega | assumption | rfl) (by first | omega | assumption | rfl))) (b := cal_objectCode) (c := ?_); all_goals try simp only [go_sem, simprocAttr]) | (refine fun (hc : (_ : Bool) = _) => ?_; try simp only [hcS] at hc))
  all_goals try exact om_
  · (first | refine ret_auto ?_ | refine ret_auto' ?_); simp only [go_sem, simprocAttr, Tryz.f64]
  all_goals omega
theorem sp_slice_big {c : Cat} {x : Int} (hb : CatB c) (h : OC c [x] 0) (hn : ¬ CYes (selfF c) (pointF c x)) : Spec Tryz.prog 64 [.bptr [] (catD c), iv x, .v (.bool false)] [] (.tup [.v (.pointer none), iv 3]) [] := by
  obtain ⟨h3, h4, h5⟩ := oc_zero h
  have g1 := selfF_fun h3
  have g2 := pointF_fun h3 h4 h5
  have h6 := h3.ob0
  have h7 := h3.ob8
  have h8 := h3.idl
  have hl : [x].length ≤ 1048576 := by simp
  refine spec_of_V (E := TE) 0 Tryz.func64 rfl (by simp [Tryz.f64]) fun X hn hX => ?_
  repeat' (first | with_reducible refine St.f ?_ | ((with_reducible refine V_cond ?_); simp only [go_sem, simprocAttr]) | ((refine V_rg ?_); intro K hK) | ((first | with_reducible refine So.f ?_ | ((with_reducible apply evOps_g); rfl)); intro K hK; simp (contextual := true) only [go_sem, simprocAttr]) | ((with_reducible refine hK _ ?_); clear hK K) | (with_reducible first | refine And.intro ?_ ?_ | refine inR_mk ?_ ?_) | ((with_reducible refine evCall_at 132 ?_); refine EvCall.rq (a := (sp_objectCode_at (l:=[x]) (code:=0) (by first | omega | assumption | rfl) (by first | omega | assumption | rfl) (by first | omega | assumption | rfl))) (b := cal_objectCode) (c := ?_); all_goals try simp only [go_sem, simprocAttr]) | ((with_reducible refine evCall_at 76 ?_); refine EvCall.rq (a := (sp_identity ?_ ?_ ?_)) (b := cal_identity) (c := ?_); all_goals try simp only [go_sem, simprocAttr]) | ((with_reducible refine evCall_at 135 ?_); refine EvCall.rq (a := (sp_point ?_ ?_ ?_)) (b := cal_point) (c := ?_); all_goals try simp only [go_sem, simprocAttr]) | ((with_reducible refine evCall_at 77 ?_); refine EvCall.rq (a := (sp_commaOf_none (f:=selfF c) (e:=pointF c x) (by first | omega | assumption | rfl) (by first | omega | assumption | rfl) (by first | omega | assumption | rfl) (by first | omega | assumption | rfl))) (b := cal_commaOf) (c := ?_); all_goals try simp only [go_sem, simprocAttr]) | (refine fun (hc : (_ : Bool) = _) => ?_; try simp only [hcS] at hc))
  all_goals try exact om_
  (first | refine ret_auto ?_ | refine ret_auto' ?_); simp only [go_sem, simprocAttr, Tryz.f64]
theorem sp_slice_yes {c : Cat} {x : Int} (hb : CatB c) (h : OC c [x] 0) (hy : CYes (selfF c) (pointF c x)) : Spec Tryz.prog 64 [.bptr [] (catD c), iv x, .v (.bool false)] [] (.tup [.ptr 0 0, iv 0]) [(0, ⟨1, .box [.bptr [(3, 1), (4, 1), (5, 1), (6, 1), (7, 1), (8, 1), (9, 1), (10, 1), (11, 1), (12, 1), (13, 1), (14, 1), (15, 1), (16, 1), (17, 1), (18, 1), (19, 1), (20, 1), (21, 1), (22, 1), (23, 1), (24, 1), (1, 1)] (funD (selfF c)), .bptr [(3, 1), (4, 1), (5, 1), (6, 1), (7, 1), (8, 1), (9, 1), (10, 1), (11, 1), (12, 1), (13, 1), (14, 1), (15, 1), (16, 1), (17, 1), (18, 1), (19, 1), (20, 1), (21, 1), (22, 1), (23, 1), (24, 1), (1, 1)] (funD (pointF c x)), .sl 1, .sl 2]⟩), (1, ⟨1, .arr (intss (cObj (selfF c) (pointF c x)))⟩), (2, ⟨1, .arr (intss (cmA (selfF c) (pointF c x)))⟩), (3, ⟨1, .box [iv (selfF c).src.ob, .sl 5, .sl 6, .sl 7, .sl 8, iv (selfF c).tgt.ob, .sl 9, .sl 10, .sl 11, .sl 12, .sl 13, .sl 14]⟩), (4, ⟨1, .box [iv (pointF c x).src.ob, .sl 15, .sl 16, .sl 17, .sl 18, iv (pointF c x).tgt.ob, .sl 19, .sl 20, .sl 21, .sl 22, .sl 23, .sl 24]⟩), (5, ⟨1, .arr (ints (selfF c).src.fr)⟩), (6, ⟨1, .arr (ints (selfF c).src.to)⟩), (7, ⟨1, .arr (ints (selfF c).src.id)⟩), (8, ⟨1, .arr (intss (selfF c).src.co)⟩), (9, ⟨1, .arr (ints (selfF c).tgt.fr)⟩), (10, ⟨1, .arr (ints (selfF c).tgt.to)⟩), (11, ⟨1, .arr (ints (selfF c).tgt.id)⟩), (12, ⟨1, .arr (intss (selfF c).tgt.co)⟩), (13, ⟨1, .arr (ints (selfF c).obs)⟩), (14, ⟨1, .arr (ints (selfF c).ars)⟩), (15, ⟨1, .arr (ints (pointF c x).src.fr)⟩), (16, ⟨1, .arr (ints (pointF c x).src.to)⟩), (17, ⟨1, .arr (ints (pointF c x).src.id)⟩), (18, ⟨1, .arr (intss (pointF c x).src.co)⟩), (19, ⟨1, .arr (ints (pointF c x).tgt.fr)⟩), (20, ⟨1, .arr (ints (pointF c x).tgt.to)⟩), (21, ⟨1, .arr (ints (pointF c x).tgt.id)⟩), (22, ⟨1, .arr (intss (pointF c x).tgt.co)⟩), (23, ⟨1, .arr (ints (pointF c x).obs)⟩), (24, ⟨1, .arr (ints (pointF c x).ars)⟩)] := by
  obtain ⟨h3, h4, h5⟩ := oc_zero h
  have h6 := h3.ob0
  have h7 := h3.ob8
  have h8 := h3.idl
  have hl : [x].length ≤ 1048576 := by simp
  have y1 := hy.src
  have y2 := hy.tgt
  have y3 := hy.one
  have y4 := hy.obs
  have y5 : (cArr (selfF c) (pointF c x) (cObj (selfF c) (pointF c x))).length ≤ 40 := hy.ars
  refine spec_of_V (E := TE) 0 Tryz.func64 rfl (by simp [Tryz.f64]) fun X hn hX => ?_
  repeat' (first | with_reducible refine St.f ?_ | ((with_reducible refine V_cond ?_); simp only [go_sem, simprocAttr]) | ((refine V_rg ?_); intro K hK) | ((first | with_reducible refine So.f ?_ | ((with_reducible apply evOps_g); rfl)); intro K hK; simp (contextual := true) only [go_sem, simprocAttr]) | ((with_reducible refine hK _ ?_); clear hK K) | (with_reducible first | refine And.intro ?_ ?_ | refine inR_mk ?_ ?_) | ((with_reducible refine evCall_at 132 ?_); refine EvCall.rq (a := (sp_objectCode_at (l:=[x]) (code:=0) (by first | omega | assumption | rfl) (by first | omega | assumption | rfl) (by first | omega | assumption | rfl))) (b := cal_objectCode) (c := ?_); all_goals try simp only [go_sem, simprocAttr]) | ((with_reducible refine evCall_at 76 ?_); refine EvCall.rq (a := (sp_identity ?_ ?_ ?_)) (b := cal_identity) (c := ?_); all_goals try simp only [go_sem, simprocAttr]) | ((with_reducible refine evCall_at 135 ?_); refine EvCall.rq (a := (sp_point ?_ ?_ ?_)) (b := cal_point) (c := ?_); all_goals try simp only [go_sem, simprocAttr]) | ((with_reducible refine evCall_at 77 ?_); refine EvCall.rq (a := (sp_commaOf_ok (f:=selfF c) (e:=pointF c x) (by first | omega | assumption | rfl) (by first | omega | assumption | rfl) (by first | omega | assumption | rfl) (by first | omega | assumption | rfl) (by first | omega | assumption | rfl))) (b := cal_commaOf) (c := ?_); all_goals try simp only [go_sem, simprocAttr]) | (refine fun (hc : (_ : Bool) = _) => ?_; try simp only [hcS] at hc))
  all_goals try exact om_
  (first | refine ret_auto ?_ | refine ret_auto' ?_); simp only [go_sem, simprocAttr, Tryz.f64]
  rfl
theorem cal_slice : Callable Tryz.prog 64 := ⟨_, Tryz.func64, rfl, rfl⟩
end Go.Eng
end
section
namespace Go.Eng
open Go Go.Proofs Go.Cats
attribute [local go_sem] one_nil_c8 one_ptr_c8 List.getD_cons_zero
theorem cal_spec_SliceFunctor : Callable Tryz.prog 15 := ⟨_, Tryz.func15, rfl, rfl⟩
theorem sp_spec_SliceFunctor_bad {c : Cat} {x code : Int} (hb : CatB c) (h : OC c [x] code) (h0 : code ≠ 0) : Spec Tryz.prog 15 [catV c, iv x] [] (.tup [.agg [iv 0, .v (.slice none 0 0), .v (.slice none 0 0), .v (.slice none 0 0), .v (.slice none 0 0), iv 0, .v (.slice none 0 0), .v (.slice none 0 0), .v (.slice none 0 0), .v (.slice none 0 0), .v (.slice none 0 0), .v (.slice none 0 0)], iv code]) [] := by
  refine spec_of_V (E := TE) 0 Tryz.func15 rfl (by simp [Tryz.f15]) fun X hn hX => ?_
  repeat' (first | with_reducible refine St.f ?_ | ((with_reducible refine V_cond ?_); simp only [go_sem, simprocAttr]) | ((first | refine V_rg ?_ | refine V_dr ?_); intro K hK) | ((first | with_reducible refine So.f ?_ | ((with_reducible apply evOps_g); rfl) | ((with_reducible apply evOpsD_g); rfl)); intro K hK; simp (contextual := true) only [go_sem, simprocAttr]) | ((with_reducible refine evOpsD_nil ?_ ?_); kernel_rfl) | ((with_reducible refine hK _ ?_); clear hK K) | (with_reducible first | refine And.intro ?_ ?_ | refine inR_mk ?_ ?_) | ((with_reducible refine evCall_at 66 ?_); refine EvCall.rq (a := (sp_l09Object_at (code:=code) (by first | omega | assumption | rfl) (by first | omega | assumption | rfl))) (b := cal_l09Object) (c := ?_); all_goals try simp only [go_sem, simprocAttr]) | (refine fun (hc : (_ : Bool) = _) => ?_; try simp only [hcS] at hc))
  all_goals try exact om_
  · (first | refine ret_auto ?_ | refine ret_auto' ?_); simp only [go_sem, simprocAttr, Tryz.f15]
  all_goals omega
theorem sp_spec_SliceFunctor_ok {c : Cat} {g : Fun} {x code : Int} (hb : CatB c) (h : OC c [x] 0) (h2 : CommaLeftOut (selfF c) (pointF c x) g code) : Spec Tryz.prog 15 [catV c, iv x] [] (.tup [.agg [iv g.src.ob, .sl 0, .sl 1, .sl 2, .sl 3, iv g.tgt.ob, .sl 4, .sl 5, .sl 6, .sl 7, .sl 8, .sl 9], iv code]) [(0, ⟨1, .arr (ints g.src.fr)⟩), (1, ⟨1, .arr (ints g.src.to)⟩), (2, ⟨1, .arr (ints g.src.id)⟩), (3, ⟨1, .arr (intss g.src.co)⟩), (4, ⟨1, .arr (ints g.tgt.fr)⟩), (5, ⟨1, .arr (ints g.tgt.to)⟩), (6, ⟨1, .arr (ints g.tgt.id)⟩), (7, ⟨1, .arr (intss g.tgt.co)⟩), (8, ⟨1, .arr (ints g.obs)⟩), (9, ⟨1, .arr (ints g.ars)⟩)] := by
  refine spec_of_V (E := TE) 0 Tryz.func15 rfl (by simp [Tryz.f15]) fun X hn hX => ?_
  obtain ⟨h3, h4, h5⟩ := oc_zero h
  have h6 := h3.ob0
  have h7 := h3.ob8
  have h8 := h3.idl
  have b1 := selfF_b hb h3
  have b2 := pointF_b x hb
  repeat' (first | with_reducible refine St.f ?_ | ((with_reducible refine V_cond ?_); simp only [go_sem, simprocAttr]) | ((first | refine V_rg ?_ | refine V_dr ?_); intro K hK) | ((first | with_reducible refine So.f ?_ | ((with_reducible apply evOps_g); rfl) | ((with_reducible apply evOpsD_g); rfl)); intro K hK; simp (contextual := true) only [go_sem, simprocAttr]) | ((with_reducible refine evOpsD_nil ?_ ?_); kernel_rfl) | ((with_reducible refine hK _ ?_); clear hK K) | (with_reducible first | refine And.intro ?_ ?_ | refine inR_mk ?_ ?_) | ((with_reducible refine evCall_at 66 ?_); refine EvCall.rq (a := (sp_l09Object_at (code:=0) (by first | omega | assumption | rfl) (by first | omega | assumption | rfl))) (b := cal_l09Object) (c := ?_); all_goals try simp only [go_sem, simprocAttr]) | ((with_reducible refine evCall_at 67 ?_); refine EvCall.rq (a := (sp_l06Self ?_ ?_ ?_)) (b := cal_l06Self) (c := ?_); all_goals try simp only [go_sem, simprocAttr]) | ((with_reducible refine evCall_at 68 ?_); refine EvCall.rq (a := (sp_l09Point ?_ ?_ ?_)) (b := cal_l09Point) (c := ?_); all_goals try simp only [go_sem, simprocAttr]) | ((with_reducible refine evCall_at 50 ?_); refine EvCall.rq (a := (sp_spec_CommaLeft_at (f:=selfF c) (e:=pointF c x) (g:=g) (code:=code) (by first | omega | assumption | rfl) (by first | omega | assumption | rfl) (by first | omega | assumption | rfl))) (b := cal_spec_CommaLeft) (c := ?_); all_goals try simp only [go_sem, simprocAttr]) | (refine fun (hc : (_ : Bool) = _) => ?_; try simp only [hcS] at hc))
  all_goals try exact om_
  (first | refine ret_auto ?_ | refine ret_auto' ?_); simp only [go_sem, simprocAttr, Tryz.f15]
def FnSliceFunctorOut (c : Cat) (x : Int) (g : Fun) (code : Int) : Prop := (OC c [x] code ∧ code ≠ 0 ∧ g = nilF) ∨ (OC c [x] 0 ∧ CommaLeftOut (selfF c) (pointF c x) g code)
theorem FnSliceFunctorOut.b {c : Cat} {x : Int} {g : Fun} {code : Int} (hb : CatB c) (h : FnSliceFunctorOut c x g code) : FunB g := by
  rcases h with ⟨_, _, rfl⟩ | ⟨h0, h⟩
  · exact nilF_b
  · have b1 := selfF_b hb (oc_zero h0).1
    have b2 := pointF_b x hb
    exact h.b b1 b2
theorem sp_spec_SliceFunctor_at {c : Cat} {g : Fun} {x code : Int} (hb : CatB c) (h : FnSliceFunctorOut c x g code) : Spec Tryz.prog 15 [catV c, iv x] [] (.tup [.agg [iv g.src.ob, .sl 0, .sl 1, .sl 2, .sl 3, iv g.tgt.ob, .sl 4, .sl 5, .sl 6, .sl 7, .sl 8, .sl 9], iv code]) [(0, ⟨1, .arr (ints g.src.fr)⟩), (1, ⟨1, .arr (ints g.src.to)⟩), (2, ⟨1, .arr (ints g.src.id)⟩), (3, ⟨1, .arr (intss g.src.co)⟩), (4, ⟨1, .arr (ints g.tgt.fr)⟩), (5, ⟨1, .arr (ints g.tgt.to)⟩), (6, ⟨1, .arr (ints g.tgt.id)⟩), (7, ⟨1, .arr (intss g.tgt.co)⟩), (8, ⟨1, .arr (ints g.obs)⟩), (9, ⟨1, .arr (ints g.ars)⟩)] := by
  rcases h with ⟨h1, h2, rfl⟩ | ⟨h1, h2⟩
  · exact adoptF (sp_spec_SliceFunctor_bad hb h1 h2)
  · exact sp_spec_SliceFunctor_ok hb h1 h2
theorem cal_SliceFunctor : Callable Tryz.prog 14 := ⟨_, Tryz.func14, rfl, rfl⟩
theorem sp_SliceFunctor_bad {c : Cat} {x code : Int} (hb : CatB c) (h : OC c [x] code) (h0 : code ≠ 0) : Spec Tryz.prog 14 [catV c, iv x] [] (.tup [.agg [iv 0, .v (.slice none 0 0), .v (.slice none 0 0), .v (.slice none 0 0), .v (.slice none 0 0), iv 0, .v (.slice none 0 0), .v (.slice none 0 0), .v (.slice none 0 0), .v (.slice none 0 0), .v (.slice none 0 0), .v (.slice none 0 0)], iv code]) [] := by
  refine spec_of_V (E := TE) 0 Tryz.func14 rfl (by simp [Tryz.f14]) fun X hn hX => ?_
  repeat' (first | with_reducible refine St.f ?_ | ((with_reducible refine V_cond ?_); simp only [go_sem, simprocAttr]) | ((refine V_rg ?_); intro K hK) | ((first | with_reducible refine So.f ?_ | ((with_reducible apply evOps_g); rfl)); intro K hK; simp (contextual := true) only [go_sem, simprocAttr]) | ((with_reducible refine hK _ ?_); clear hK K) | (with_reducible first | refine And.intro ?_ ?_ | refine inR_mk ?_ ?_) | ((with_reducible refine evCall_at 64 ?_); refine EvCall.rq (a := (sp_slice_bad (c:=c) (x:=x) (code:=code) (by first | omega | assumption | rfl) (by first | omega | assumption | rfl) (by first | omega | assumption | rfl))) (b := cal_slice) (c := ?_); all_goals try simp only [go_sem, simprocAttr]) | (refine fun (hc : (_ : Bool) = _) => ?_; try simp only [hcS] at hc))
  all_goals try exact om_
  · (first | refine ret_auto ?_ | refine ret_auto' ?_); simp only [go_sem, simprocAttr, Tryz.f14]
theorem sp_SliceFunctor_big {c : Cat} {x : Int} (hb : CatB c) (h : OC c [x] 0) (h0 : ¬ CYes (selfF c) (pointF c x)) : Spec Tryz.prog 14 [catV c, iv x] [] (.tup [.agg [iv 0, .v (.slice none 0 0), .v (.slice none 0 0), .v (.slice none 0 0), .v (.slice none 0 0), iv 0, .v (.slice none 0 0), .v (.slice none 0 0), .v (.slice none 0 0), .v (.slice none 0 0), .v (.slice none 0 0), .v (.slice none 0 0)], iv 3]) [] := by
  refine spec_of_V (E := TE) 0 Tryz.func14 rfl (by simp [Tryz.f14]) fun X hn hX => ?_
  repeat' (first | with_reducible refine St.f ?_ | ((with_reducible refine V_cond ?_); simp only [go_sem, simprocAttr]) | ((refine V_rg ?_); intro K hK) | ((first | with_reducible refine So.f ?_ | ((with_reducible apply evOps_g); rfl)); intro K hK; simp (contextual := true) only [go_sem, simprocAttr]) | ((with_reducible refine hK _ ?_); clear hK K) | (with_reducible first | refine And.intro ?_ ?_ | refine inR_mk ?_ ?_) | ((with_reducible refine evCall_at 64 ?_); refine EvCall.rq (a := (sp_slice_big (c:=c) (x:=x) (by first | omega | assumption | rfl) (by first | omega | assumption | rfl) (by first | omega | assumption | rfl))) (b := cal_slice) (c := ?_); all_goals try simp only [go_sem, simprocAttr]) | (refine fun (hc : (_ : Bool) = _) => ?_; try simp only [hcS] at hc))
  all_goals try exact om_
  (first | refine ret_auto ?_ | refine ret_auto' ?_); simp only [go_sem, simprocAttr, Tryz.f14]
theorem sp_SliceFunctor_yes {c : Cat} {x : Int} (hb : CatB c) (h : OC c [x] 0) (hy : CYes (selfF c) (pointF c x)) : Spec Tryz.prog 14 [catV c, iv x] [] (.tup [.agg [iv (cmF (selfF c) (pointF c x)).src.ob, .sl 0, .sl 1, .sl 2, .sl 3, iv (cmF (selfF c) (pointF c x)).tgt.ob, .sl 4, .sl 5, .sl 6, .sl 7, .sl 8, .sl 9], iv 0]) [(0, ⟨1, .arr (ints (cmF (selfF c) (pointF c x)).src.fr)⟩), (1, ⟨1, .arr (ints (cmF (selfF c) (pointF c x)).src.to)⟩), (2, ⟨1, .arr (ints (cmF (selfF c) (pointF c x)).src.id)⟩), (3, ⟨1, .arr (intss (cmF (selfF c) (pointF c x)).src.co)⟩), (4, ⟨1, .arr (ints (cmF (selfF c) (pointF c x)).tgt.fr)⟩), (5, ⟨1, .arr (ints (cmF (selfF c) (pointF c x)).tgt.to)⟩), (6, ⟨1, .arr (ints (cmF (selfF c) (pointF c x)).tgt.id)⟩), (7, ⟨1, .arr (intss (cmF (selfF c) (pointF c x)).tgt.co)⟩), (8, ⟨1, .arr (ints (cmF (selfF c) (pointF c x)).obs)⟩), (9, ⟨1, .arr (ints (cmF (selfF c) (pointF c x)).ars)⟩)] := by
  have b3 := (selfF_b hb (oc_zero h).1).src
  have b4 := (pointF_b x hb).src
  refine spec_of_V (E := TE) 0 Tryz.func14 rfl (by simp [Tryz.f14]) fun X hn hX => ?_
  repeat' (first | with_reducible refine St.f ?_ | ((with_reducible refine V_cond ?_); simp only [go_sem, simprocAttr]) | ((refine V_rg ?_); intro K hK) | ((first | with_reducible refine So.f ?_ | ((with_reducible apply evOps_g); rfl)); intro K hK; simp (contextual := true) only [go_sem, simprocAttr]) | ((with_reducible refine hK _ ?_); clear hK K) | (with_reducible first | refine And.intro ?_ ?_ | refine inR_mk ?_ ?_) | ((with_reducible refine evCall_at 64 ?_); refine EvCall.rq (a := (sp_slice_yes (c:=c) (x:=x) (by first | omega | assumption | rfl) (by first | omega | assumption | rfl) (by first | omega | assumption | rfl))) (b := cal_slice) (c := ?_); all_goals try simp only [go_sem, simprocAttr]) | ((with_reducible refine evCall_at 70 ?_); refine EvCall.rq (a := (sp_comma_left (f:=selfF c) (e:=pointF c x) ?_ ?_)) (b := cal_comma_left) (c := ?_); all_goals try simp only [go_sem, simprocAttr]) | (refine fun (hc : (_ : Bool) = _) => ?_; try simp only [hcS] at hc))
  all_goals try exact om_
  (first | refine ret_auto ?_ | refine ret_auto' ?_); simp only [go_sem, simprocAttr, Tryz.f14]
theorem sp_SliceFunctor_at {c : Cat} {g : Fun} {x code : Int} (hb : CatB c) (h : FnSliceFunctorOut c x g code) : Spec Tryz.prog 14 [catV c, iv x] [] (.tup [.agg [iv g.src.ob, .sl 0, .sl 1, .sl 2, .sl 3, iv g.tgt.ob, .sl 4, .sl 5, .sl 6, .sl 7, .sl 8, .sl 9], iv code]) [(0, ⟨1, .arr (ints g.src.fr)⟩), (1, ⟨1, .arr (ints g.src.to)⟩), (2, ⟨1, .arr (ints g.src.id)⟩), (3, ⟨1, .arr (intss g.src.co)⟩), (4, ⟨1, .arr (ints g.tgt.fr)⟩), (5, ⟨1, .arr (ints g.tgt.to)⟩), (6, ⟨1, .arr (ints g.tgt.id)⟩), (7, ⟨1, .arr (intss g.tgt.co)⟩), (8, ⟨1, .arr (ints g.obs)⟩), (9, ⟨1, .arr (ints g.ars)⟩)] := by
  rcases h with ⟨h1, h2, rfl⟩ | ⟨h1, h2⟩
  · exact adoptF (sp_SliceFunctor_bad hb h1 h2)
  · rcases h2 with ⟨hy, rfl, rfl⟩ | ⟨hn, rfl⟩
    · exact sp_SliceFunctor_yes hb h1 hy
    · obtain ⟨g1, g2, g3⟩ := oc_zero h1
      have s1 := selfF_fun g1
      have s2 := pointF_fun g1 g2 g3
      rcases hn with ⟨q, _⟩ | ⟨_, q, _⟩ | ⟨_, _, q, rfl⟩
      · exact absurd (And.intro (by assumption) (by assumption)) q
      · exact absurd rfl q
      · exact adoptF (sp_SliceFunctor_big hb h1 fun hy => by have := hy.obs; have := hy.ars; omega)
def FnCosliceFunctorOut (c : Cat) (x : Int) (g : Fun) (code : Int) : Prop := (OC c [x] code ∧ code ≠ 0 ∧ g = nilF) ∨ (OC c [x] 0 ∧ CommaRightOut (pointF c x) (selfF c) g code)
end Go.Eng
end
