/- sync.Once: the closure that lists the arrows. -/
import Derived.Test.YtlofngpklcccmaaGreatKm
import Derived.Test.YtlofngpklcccmaaGreatG02q
import Derived.Test.YtlofngpklcccmaaGreatO01q
set_option linter.unusedSimpArgs false
set_option linter.unusedVariables false
set_option maxRecDepth 100000
set_option maxHeartbeats 8000000
namespace Go.Eng
open Go Go.Proofs Go.Cats

@[go_sem] theorem Cat.homs_zero (c : Cat) (x : Int) : c.homs x 0 = [] := rfl
theorem Cat.homs_succ (c : Cat) (x : Int) (n : Nat) : c.homs x (n + 1) = c.homs x n ++ [c.hom x n] := by simp [Cat.homs, List.range_succ]
@[go_sem] theorem Cat.homs_len (c : Cat) (x : Int) (n : Nat) : (c.homs x n).length = n := by simp [Cat.homs]
theorem Cat.homs_get (c : Cat) (x : Int) (n i : Nat) (h : i < n) : (c.homs x n).getD i [] = c.hom x i := by
  simp [Cat.homs, List.getD_eq_getElem?_getD, h]

/-- The object: the category, the arrow's source, the Once, the lists. -/
def onc (c : Cat) (x : Int) (d s : Int) (rows : Sv) : List Sv := [.bptr [] (catD c), iv x, .v (.int .u32 d), .v (.int .i32 s), .v (.int .u32 0), rows]
attribute [go_sem] onc

theorem cal_arrowsOut_list_1 : Callable Tryz.prog 87 := ⟨_, Tryz.func87, rfl, rfl⟩
theorem sp_arrowsOut_list_1 {c : Cat} (hs : Shape c) {x : Int} : Spec Tryz.prog 87 [.ptr 1 0] [(0, ⟨2, .box (onc c x 0 1 (.v (.slice none 0 0)))⟩), (1, ⟨1, .box [.ptr 0 0]⟩)] (.tup []) [(0, ⟨1, .box (onc c x 0 1 (.sl 2))⟩), (1, ⟨1, .box [.ptr 0 0]⟩), (2, ⟨1, .arr (intss (c.homs x c.ob.toNat))⟩)] := by
  refine spec_of_V (E := TE) 2 Tryz.func87 rfl (by simp [Tryz.f87]) fun X hn hX => ?_
  have ⟨s1, s2, s3, s4, s5, s6, s7, s8, s9, s10, s11⟩ := hs
  refine V_imp (Imp.adoptBs 0 5 2 _ rfl rfl rfl (by rw [hX]; rfl)) ?_
  repeat' (first
    | with_reducible refine V_seq ?_
    | with_reducible refine V_block ?_
    | with_reducible refine V_scope ?_
    | with_reducible refine V_skip ?_
    | with_reducible refine V_ret ?_
    | with_reducible refine V_exit ?_
    | ((with_reducible refine V_cond ?_); simp only [go_sem, ↓reduceIte, Nat.reduceAdd, Nat.reduceSub, Nat.reduceMul, Nat.reduceDiv, Nat.reduceLT, Nat.reduceLeDiff, Nat.reduceEqDiff, Int.reduceToNat, reduceCtorEq])
    | (refine V_region (by rw [hn]; rfl) ?_; intro K hK)
    | (refine V_drawn hmix (by rw [hn]; rfl) ?_; intro K hK)
    | ((with_reducible refine evOps_n ?_); intro K hK; simp (contextual := true) only [go_sem, ↓reduceIte, Nat.reduceAdd, Nat.reduceSub, Nat.reduceMul, Nat.reduceDiv, Nat.reduceLT, Nat.reduceLeDiff, Nat.reduceEqDiff, Int.reduceToNat, reduceCtorEq])
    | ((with_reducible apply evOps_g); rfl; intro K hK; simp (contextual := true) only [go_sem, ↓reduceIte, Nat.reduceAdd, Nat.reduceSub, Nat.reduceMul, Nat.reduceDiv, Nat.reduceLT, Nat.reduceLeDiff, Nat.reduceEqDiff, Int.reduceToNat, reduceCtorEq])
    | with_reducible refine evOps_nil ?_
    | ((with_reducible refine evOpsD_n ?_); intro K hK; simp (contextual := true) only [go_sem, ↓reduceIte, Nat.reduceAdd, Nat.reduceSub, Nat.reduceMul, Nat.reduceDiv, Nat.reduceLT, Nat.reduceLeDiff, Nat.reduceEqDiff, Int.reduceToNat, reduceCtorEq])
    | ((with_reducible apply evOpsD_g); rfl; intro K hK; simp (contextual := true) only [go_sem, ↓reduceIte, Nat.reduceAdd, Nat.reduceSub, Nat.reduceMul, Nat.reduceDiv, Nat.reduceLT, Nat.reduceLeDiff, Nat.reduceEqDiff, Int.reduceToNat, reduceCtorEq])
    | ((with_reducible refine evOpsD_nil ?_ ?_); kernel_rfl)
    | ((with_reducible refine hK _ ?_); clear hK K)
    | with_reducible refine And.intro ?_ ?_
    | with_reducible refine nxt_n ?_
    | with_reducible refine nxt_r ?_
    | with_reducible refine nxt_e ?_
    | with_reducible refine blk_n ?_
    | with_reducible refine blk_r ?_
    | with_reducible refine blk_same ?_
    | (with_reducible refine blk_other (by decide) ?_)
    | with_reducible refine noG_n ?_
    | with_reducible refine noG_r ?_
    | with_reducible refine noG_e ?_
    | with_reducible refine inR_mk ?_ ?_
    | (refine fun (hc : (_ : Bool) = _) => ?_; try simp only [decide_eq_true_eq, decide_eq_false_iff_not, Bool.not_eq_true', Bool.not_eq_false', Int.not_lt, Int.not_le, Cats.dec_iff, Cats.dec_not, Bool.and_eq_true, Bool.or_eq_true, Bool.and_eq_false_iff, Bool.or_eq_false_iff, Bool.not_eq_true, Bool.not_eq_false, Decidable.not_not, not_true_eq_false, not_false_eq_true] at hc))
  refine V_loopK (G := {i : Nat // i ≤ c.ob.toNat ∧ (True)}) (fun ⟨i, _⟩ => [(1, iv i)]) [0] (fun ⟨i, _⟩ => [(0, ⟨1, .box (onc c x 0 1 (.sl 2))⟩), (1, ⟨1, .box [.ptr 0 0]⟩), (2, ⟨1, .arr (intss (c.homs x i))⟩)]) [0, 1, 2] (fun g => c.ob.toNat - g.1) ⟨0, Nat.zero_le _, by first | trivial | simp⟩ ?_ ?_
  · exact Imp.auto hX (by simp [go_sem, ↓reduceIte, Nat.reduceAdd, Nat.reduceSub, Nat.reduceMul, Nat.reduceDiv, Nat.reduceLT, Nat.reduceLeDiff, Nat.reduceEqDiff, Int.reduceToNat, reduceCtorEq])
  rintro ⟨i, hii, hwi⟩
  simp only [go_sem, ↓reduceIte, Nat.reduceAdd, Nat.reduceSub, Nat.reduceMul, Nat.reduceDiv, Nat.reduceLT, Nat.reduceLeDiff, Nat.reduceEqDiff, Int.reduceToNat, reduceCtorEq]
  have hlen := c.hom_len x i
  repeat' (first
    | with_reducible refine V_seq ?_
    | with_reducible refine V_block ?_
    | with_reducible refine V_scope ?_
    | with_reducible refine V_skip ?_
    | with_reducible refine V_ret ?_
    | with_reducible refine V_exit ?_
    | ((with_reducible refine V_cond ?_); simp only [go_sem, ↓reduceIte, Nat.reduceAdd, Nat.reduceSub, Nat.reduceMul, Nat.reduceDiv, Nat.reduceLT, Nat.reduceLeDiff, Nat.reduceEqDiff, Int.reduceToNat, reduceCtorEq])
    | (refine V_region (by rw [hn]; rfl) ?_; intro K hK)
    | (refine V_drawn hmix (by rw [hn]; rfl) ?_; intro K hK)
    | ((with_reducible refine evOps_n ?_); intro K hK; simp (contextual := true) only [go_sem, ↓reduceIte, Nat.reduceAdd, Nat.reduceSub, Nat.reduceMul, Nat.reduceDiv, Nat.reduceLT, Nat.reduceLeDiff, Nat.reduceEqDiff, Int.reduceToNat, reduceCtorEq])
    | ((with_reducible apply evOps_g); rfl; intro K hK; simp (contextual := true) only [go_sem, ↓reduceIte, Nat.reduceAdd, Nat.reduceSub, Nat.reduceMul, Nat.reduceDiv, Nat.reduceLT, Nat.reduceLeDiff, Nat.reduceEqDiff, Int.reduceToNat, reduceCtorEq])
    | with_reducible refine evOps_nil ?_
    | ((with_reducible refine evOpsD_n ?_); intro K hK; simp (contextual := true) only [go_sem, ↓reduceIte, Nat.reduceAdd, Nat.reduceSub, Nat.reduceMul, Nat.reduceDiv, Nat.reduceLT, Nat.reduceLeDiff, Nat.reduceEqDiff, Int.reduceToNat, reduceCtorEq])
    | ((with_reducible apply evOpsD_g); rfl; intro K hK; simp (contextual := true) only [go_sem, ↓reduceIte, Nat.reduceAdd, Nat.reduceSub, Nat.reduceMul, Nat.reduceDiv, Nat.reduceLT, Nat.reduceLeDiff, Nat.reduceEqDiff, Int.reduceToNat, reduceCtorEq])
    | ((with_reducible refine evOpsD_nil ?_ ?_); kernel_rfl)
    | ((with_reducible refine hK _ ?_); clear hK K)
    | with_reducible refine And.intro ?_ ?_
    | with_reducible refine nxt_n ?_
    | with_reducible refine nxt_r ?_
    | with_reducible refine nxt_e ?_
    | with_reducible refine blk_n ?_
    | with_reducible refine blk_r ?_
    | with_reducible refine blk_same ?_
    | (with_reducible refine blk_other (by decide) ?_)
    | with_reducible refine noG_n ?_
    | with_reducible refine noG_r ?_
    | with_reducible refine noG_e ?_
    | with_reducible refine inR_mk ?_ ?_
    | ((with_reducible refine evCall_at 51 ?_); refine EvCall.rd (by first | (simp only [go_sem, ↓reduceIte, Nat.reduceAdd, Nat.reduceSub, Nat.reduceMul, Nat.reduceDiv, Nat.reduceLT, Nat.reduceLeDiff, Nat.reduceEqDiff, Int.reduceToNat, reduceCtorEq]; rfl) | rfl) (sp_Category_hom ?_ ?_) cal_Category_hom (by simp [go_sem, ↓reduceIte, Nat.reduceAdd, Nat.reduceSub, Nat.reduceMul, Nat.reduceDiv, Nat.reduceLT, Nat.reduceLeDiff, Nat.reduceEqDiff, Int.reduceToNat, reduceCtorEq]) (by simp [go_sem, ↓reduceIte, Nat.reduceAdd, Nat.reduceSub, Nat.reduceMul, Nat.reduceDiv, Nat.reduceLT, Nat.reduceLeDiff, Nat.reduceEqDiff, Int.reduceToNat, reduceCtorEq]) ?_; all_goals try simp only [go_sem, ↓reduceIte, Nat.reduceAdd, Nat.reduceSub, Nat.reduceMul, Nat.reduceDiv, Nat.reduceLT, Nat.reduceLeDiff, Nat.reduceEqDiff, Int.reduceToNat, reduceCtorEq])
    | (refine fun (hc : (_ : Bool) = _) => ?_; try simp only [decide_eq_true_eq, decide_eq_false_iff_not, Bool.not_eq_true', Bool.not_eq_false', Int.not_lt, Int.not_le, Cats.dec_iff, Cats.dec_not, Bool.and_eq_true, Bool.or_eq_true, Bool.and_eq_false_iff, Bool.or_eq_false_iff, Bool.not_eq_true, Bool.not_eq_false, Decidable.not_not, not_true_eq_false, not_false_eq_true] at hc))
  all_goals try (first | (with_reducible assumption) | ((try simp only [Cat.F, Cat.T, Cat.I, Cat.C, Fun.O, Fun.A, Cat.Entry, Int.toNat_natCast] at *); omega))
  · refine ⟨⟨i + 1, by omega, (by trivial)⟩, by simp only; omega, Imp.auto hX (by simp only [go_sem, ↓reduceIte, Nat.reduceAdd, Nat.reduceSub, Nat.reduceMul, Nat.reduceDiv, Nat.reduceLT, Nat.reduceLeDiff, Nat.reduceEqDiff, Int.reduceToNat, reduceCtorEq, Cat.homs_succ])⟩
  · (first | refine ret_auto ?_ | refine ret_auto' ?_); simp only [go_sem, ↓reduceIte, Nat.reduceAdd, Nat.reduceSub, Nat.reduceMul, Nat.reduceDiv, Nat.reduceLT, Nat.reduceLeDiff, Nat.reduceEqDiff, Int.reduceToNat, reduceCtorEq, Tryz.f87]
    rw [show c.ob.toNat = i from by omega]
end Go.Eng
