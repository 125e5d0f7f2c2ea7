/- The lists of arrows, first time and after. -/
import Derived.Test.YtlofngpklcccmaaGreatO03q
set_option linter.unusedSimpArgs false
set_option linter.unusedVariables false
set_option maxRecDepth 100000
set_option maxHeartbeats 8000000
namespace Go.Eng
open Go Go.Proofs Go.Cats
attribute [go_sem] oncL0 oncL1

/-- The object, done, as it is read. -/
def oncD (c : Cat) (x : Int) (rows : List (List Int)) : List Dt := [.pt (catD c), .v (.int .i64 x), .v (.int .u32 1), .v (.int .i32 0), .v (.int .u32 0), intss rows]

section
variable (c : Cat) (x : Int) (rows : List (List Int))
@[go_sem] theorem oncD_o : ((oncD c x rows).drop 2).take 3 = [.v (.int .u32 1), .v (.int .i32 0), .v (.int .u32 0)] := rfl
@[go_sem] theorem oncD_r : ((oncD c x rows).drop 5).take 1 = [intss rows] := rfl
end

theorem cal_arrowsOut_list : Callable Tryz.prog 59 := ⟨_, Tryz.func59, rfl, rfl⟩
theorem sp_arrowsOut_list {c : Cat} (hs : Shape c) {x : Int} : Spec Tryz.prog 59 [.ptr 0 0] [(0, ⟨1, .box (onc c x 0 0 (.v (.slice none 0 0)))⟩)] (.sl 1) [(0, ⟨1, .box (onc c x 1 0 (.sl 1))⟩), (1, ⟨1, .arr (intss (c.homs x c.ob.toNat))⟩)] := by
  refine spec_of_V (E := TE) 1 Tryz.func59 rfl (by simp [Tryz.f59]) fun X hn hX => ?_
  repeat' (first
    | with_reducible refine V_seq ?_
    | with_reducible refine V_block ?_
    | with_reducible refine V_scope ?_
    | with_reducible refine V_skip ?_
    | with_reducible refine V_ret ?_
    | with_reducible refine V_exit ?_
    | ((with_reducible refine V_cond ?_); simp only [go_sem, ↓reduceIte, Nat.reduceAdd, Nat.reduceSub, Nat.reduceMul, Nat.reduceDiv, Nat.reduceLT, Nat.reduceLeDiff, Nat.reduceEqDiff, Int.reduceToNat, reduceCtorEq])
    | (refine V_region (by rw [hn]; rfl) ?_; intro K hK)
    | (refine V_drawn hmix (by rw [hn]; rfl) ?_; intro K hK)
    | ((with_reducible refine evOps_n ?_); intro K hK; simp (contextual := true) only [go_sem, ↓reduceIte, Nat.reduceAdd, Nat.reduceSub, Nat.reduceMul, Nat.reduceDiv, Nat.reduceLT, Nat.reduceLeDiff, Nat.reduceEqDiff, Int.reduceToNat, reduceCtorEq])
    | ((with_reducible apply evOps_g); rfl; intro K hK; simp (contextual := true) only [go_sem, ↓reduceIte, Nat.reduceAdd, Nat.reduceSub, Nat.reduceMul, Nat.reduceDiv, Nat.reduceLT, Nat.reduceLeDiff, Nat.reduceEqDiff, Int.reduceToNat, reduceCtorEq])
    | with_reducible refine evOps_nil ?_
    | ((with_reducible refine evOpsD_n ?_); intro K hK; simp (contextual := true) only [go_sem, ↓reduceIte, Nat.reduceAdd, Nat.reduceSub, Nat.reduceMul, Nat.reduceDiv, Nat.reduceLT, Nat.reduceLeDiff, Nat.reduceEqDiff, Int.reduceToNat, reduceCtorEq])
    | ((with_reducible apply evOpsD_g); rfl; intro K hK; simp (contextual := true) only [go_sem, ↓reduceIte, Nat.reduceAdd, Nat.reduceSub, Nat.reduceMul, Nat.reduceDiv, Nat.reduceLT, Nat.reduceLeDiff, Nat.reduceEqDiff, Int.reduceToNat, reduceCtorEq])
    | ((with_reducible refine evOpsD_nil ?_ ?_); kernel_rfl)
    | ((with_reducible refine hK _ ?_); clear hK K)
    | with_reducible refine And.intro ?_ ?_
    | with_reducible refine nxt_n ?_
    | with_reducible refine nxt_r ?_
    | with_reducible refine nxt_e ?_
    | with_reducible refine blk_n ?_
    | with_reducible refine blk_r ?_
    | with_reducible refine blk_same ?_
    | (with_reducible refine blk_other (by decide) ?_)
    | with_reducible refine noG_n ?_
    | with_reducible refine noG_r ?_
    | with_reducible refine noG_e ?_
    | with_reducible refine inR_mk ?_ ?_
    | ((with_reducible refine evCall_at 86 ?_); refine EvCall.mk (sp_Once_Do (x:=x) hs) cal_Once_Do [(0,0),(1,1),(2,2)] [] (by simp [go_sem, ↓reduceIte, Nat.reduceAdd, Nat.reduceSub, Nat.reduceMul, Nat.reduceDiv, Nat.reduceLT, Nat.reduceLeDiff, Nat.reduceEqDiff, Int.reduceToNat, reduceCtorEq]) (by simp [go_sem, ↓reduceIte, Nat.reduceAdd, Nat.reduceSub, Nat.reduceMul, Nat.reduceDiv, Nat.reduceLT, Nat.reduceLeDiff, Nat.reduceEqDiff, Int.reduceToNat, reduceCtorEq]) ?_; all_goals try simp only [go_sem, ↓reduceIte, Nat.reduceAdd, Nat.reduceSub, Nat.reduceMul, Nat.reduceDiv, Nat.reduceLT, Nat.reduceLeDiff, Nat.reduceEqDiff, Int.reduceToNat, reduceCtorEq])
    | (refine fun (hc : (_ : Bool) = _) => ?_; try simp only [decide_eq_true_eq, decide_eq_false_iff_not, Bool.not_eq_true', Bool.not_eq_false', Int.not_lt, Int.not_le, Cats.dec_iff, Cats.dec_not, Bool.and_eq_true, Bool.or_eq_true, Bool.and_eq_false_iff, Bool.or_eq_false_iff, Bool.not_eq_true, Bool.not_eq_false, Decidable.not_not, not_true_eq_false, not_false_eq_true] at hc))
  all_goals try (first | (with_reducible assumption) | ((try simp only [Cat.F, Cat.T, Cat.I, Cat.C, Fun.O, Fun.A, Cat.Entry, Int.toNat_natCast] at *); omega))
  (first | refine ret_auto ?_ | refine ret_auto' ?_); simp only [go_sem, ↓reduceIte, Nat.reduceAdd, Nat.reduceSub, Nat.reduceMul, Nat.reduceDiv, Nat.reduceLT, Nat.reduceLeDiff, Nat.reduceEqDiff, Int.reduceToNat, reduceCtorEq, Tryz.f59]

theorem sp_arrowsOut_list_done {c : Cat} {x : Int} {rows : List (List Int)} : Spec Tryz.prog 59 [.bptr [] (oncD c x rows)] [] (.bor [] (intss rows)) [] := by
  refine spec_of_V (E := TE) 0 Tryz.func59 rfl (by simp [Tryz.f59]) fun X hn hX => ?_
  repeat' (first
    | with_reducible refine V_seq ?_
    | with_reducible refine V_block ?_
    | with_reducible refine V_scope ?_
    | with_reducible refine V_skip ?_
    | with_reducible refine V_ret ?_
    | with_reducible refine V_exit ?_
    | ((with_reducible refine V_cond ?_); simp only [go_sem, ↓reduceIte, Nat.reduceAdd, Nat.reduceSub, Nat.reduceMul, Nat.reduceDiv, Nat.reduceLT, Nat.reduceLeDiff, Nat.reduceEqDiff, Int.reduceToNat, reduceCtorEq])
    | (refine V_region (by rw [hn]; rfl) ?_; intro K hK)
    | (refine V_drawn hmix (by rw [hn]; rfl) ?_; intro K hK)
    | ((with_reducible refine evOps_n ?_); intro K hK; simp (contextual := true) only [go_sem, ↓reduceIte, Nat.reduceAdd, Nat.reduceSub, Nat.reduceMul, Nat.reduceDiv, Nat.reduceLT, Nat.reduceLeDiff, Nat.reduceEqDiff, Int.reduceToNat, reduceCtorEq])
    | ((with_reducible apply evOps_g); rfl; intro K hK; simp (contextual := true) only [go_sem, ↓reduceIte, Nat.reduceAdd, Nat.reduceSub, Nat.reduceMul, Nat.reduceDiv, Nat.reduceLT, Nat.reduceLeDiff, Nat.reduceEqDiff, Int.reduceToNat, reduceCtorEq])
    | with_reducible refine evOps_nil ?_
    | ((with_reducible refine evOpsD_n ?_); intro K hK; simp (contextual := true) only [go_sem, ↓reduceIte, Nat.reduceAdd, Nat.reduceSub, Nat.reduceMul, Nat.reduceDiv, Nat.reduceLT, Nat.reduceLeDiff, Nat.reduceEqDiff, Int.reduceToNat, reduceCtorEq])
    | ((with_reducible apply evOpsD_g); rfl; intro K hK; simp (contextual := true) only [go_sem, ↓reduceIte, Nat.reduceAdd, Nat.reduceSub, Nat.reduceMul, Nat.reduceDiv, Nat.reduceLT, Nat.reduceLeDiff, Nat.reduceEqDiff, Int.reduceToNat, reduceCtorEq])
    | ((with_reducible refine evOpsD_nil ?_ ?_); kernel_rfl)
    | ((with_reducible refine hK _ ?_); clear hK K)
    | with_reducible refine And.intro ?_ ?_
    | with_reducible refine nxt_n ?_
    | with_reducible refine nxt_r ?_
    | with_reducible refine nxt_e ?_
    | with_reducible refine blk_n ?_
    | with_reducible refine blk_r ?_
    | with_reducible refine blk_same ?_
    | (with_reducible refine blk_other (by decide) ?_)
    | with_reducible refine noG_n ?_
    | with_reducible refine noG_r ?_
    | with_reducible refine noG_e ?_
    | with_reducible refine inR_mk ?_ ?_
    | ((with_reducible refine evCall_at 86 ?_); refine EvCall.mk (sp_Once_Do_done) cal_Once_Do [] [] (by simp [go_sem, ↓reduceIte, Nat.reduceAdd, Nat.reduceSub, Nat.reduceMul, Nat.reduceDiv, Nat.reduceLT, Nat.reduceLeDiff, Nat.reduceEqDiff, Int.reduceToNat, reduceCtorEq]) (by simp [go_sem, ↓reduceIte, Nat.reduceAdd, Nat.reduceSub, Nat.reduceMul, Nat.reduceDiv, Nat.reduceLT, Nat.reduceLeDiff, Nat.reduceEqDiff, Int.reduceToNat, reduceCtorEq]) ?_; all_goals try simp only [go_sem, ↓reduceIte, Nat.reduceAdd, Nat.reduceSub, Nat.reduceMul, Nat.reduceDiv, Nat.reduceLT, Nat.reduceLeDiff, Nat.reduceEqDiff, Int.reduceToNat, reduceCtorEq])
    | (refine fun (hc : (_ : Bool) = _) => ?_; try simp only [decide_eq_true_eq, decide_eq_false_iff_not, Bool.not_eq_true', Bool.not_eq_false', Int.not_lt, Int.not_le, Cats.dec_iff, Cats.dec_not, Bool.and_eq_true, Bool.or_eq_true, Bool.and_eq_false_iff, Bool.or_eq_false_iff, Bool.not_eq_true, Bool.not_eq_false, Decidable.not_not, not_true_eq_false, not_false_eq_true] at hc))
  all_goals try (first | (with_reducible assumption) | ((try simp only [Cat.F, Cat.T, Cat.I, Cat.C, Fun.O, Fun.A, Cat.Entry, Int.toNat_natCast] at *); omega))
  (first | refine ret_auto ?_ | refine ret_auto' ?_); simp only [go_sem, ↓reduceIte, Nat.reduceAdd, Nat.reduceSub, Nat.reduceMul, Nat.reduceDiv, Nat.reduceLT, Nat.reduceLeDiff, Nat.reduceEqDiff, Int.reduceToNat, reduceCtorEq, Tryz.f59]
end Go.Eng
