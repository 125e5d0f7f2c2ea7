/- The law FnExactMatchingFamilies is true of the given program: for every set functor, number and list the call returns true, and all read behind it as they did. No condition. -/
import Derived.Test.YtgmbhfggdcipoaaKdx
import Derived.Test.YtgmbhfggdcipoaaKex
import Derived.Test.YtgmbhfggdcipoaaB11q
import Derived.Test.YtgmbhfggdcipoaaA16q
import Derived.Test.YtgmbhfggdcipoaaRows
import Derived.JoinedOf
import Derived.ProofKit
set_option linter.unusedSimpArgs false
set_option linter.unusedVariables false
set_option maxRecDepth 100000
set_option maxHeartbeats 16000000
namespace Go.Eng
open Go Go.Proofs Go.Cats

theorem cal_FnExactMatchingFamilies : Callable Try.prog 3 := ⟨_, Try.func3, rfl, rfl⟩
theorem sp_FnExactMatchingFamilies {a0 : SF} {a1 : Int} {a2 : List Int} (t0 : SFT a0) (b2 : (a2.length : Int) ≤ 9223372036854775807) : Spec Try.prog 3 [sfV a0, iv a1, .bor [] (ints a2)] [] (bv true) [] := by
  refine spec_of_V (E := TE) 0 Try.func3 rfl (by simp [Try.f3]) fun X hn hX => ?_
  have lf := t0.l
  by_cases hs : a2.length ≤ 1048576
  · by_cases hz : (sfSz a0 : Int) ≤ 1048576
    · have hf := t0.b (by omega)
      have k1 := hf.mkn
      obtain ⟨R, c, ⟨l0, l1⟩, sp_MatchingFamilies_loc, sp_spec_MatchingFamilies_loc⟩ := families_key (x := a1) hf hs
      have l3 : ∀ k, k < R.length → (R.getD k []).length ≤ 1048576 := fun k hk => by have := l1 k hk; omega
      have l2 := sumLen_le_of (show R.length ≤ 1048576 by omega) l3
      repeat' (first
        | with_reducible first | refine V_seq ?_ | refine V_block ?_ | refine V_skip ?_ | refine V_ret ?_ | refine V_exit ?_
        | ((with_reducible refine V_cond ?_); simp only [go_sem, ↓reduceIte, Nat.reduceAdd, Nat.reduceSub, Nat.reduceMul, Nat.reduceDiv, Nat.reduceLT, Nat.reduceLeDiff, Nat.reduceEqDiff, Int.reduceToNat, reduceCtorEq])
        | ((first | refine V_region (by rw [hn]; rfl) ?_ | refine V_drawn hmix (by rw [hn]; rfl) ?_); intro K hK)
        | ((first | with_reducible refine evOps_n ?_ | ((with_reducible apply evOps_g); rfl) | with_reducible refine evOpsD_n ?_ | ((with_reducible apply evOpsD_g); rfl)); intro K hK; simp (contextual := true) only [go_sem, ↓reduceIte, Nat.reduceAdd, Nat.reduceSub, Nat.reduceMul, Nat.reduceDiv, Nat.reduceLT, Nat.reduceLeDiff, Nat.reduceEqDiff, Int.reduceToNat, reduceCtorEq])
        | with_reducible refine evOps_nil ?_
        | ((with_reducible refine evOpsD_nil ?_ ?_); kernel_rfl)
        | ((with_reducible refine hK _ ?_); clear hK K)
        | with_reducible first | refine And.intro ?_ ?_ | refine nxt_n ?_ | refine nxt_r ?_ | refine nxt_e ?_ | refine blk_n ?_ | refine blk_r ?_ | refine blk_same ?_ | refine blk_other (by decide) ?_ | refine noG_n ?_ | refine noG_r ?_ | refine noG_e ?_ | refine inR_mk ?_ ?_
        | ((with_reducible refine evCall_at 9 ?_); refine EvCall.rd (by first | (simp only [go_sem, ↓reduceIte, Nat.reduceAdd, Nat.reduceSub, Nat.reduceMul, Nat.reduceDiv, Nat.reduceLT, Nat.reduceLeDiff, Nat.reduceEqDiff, Int.reduceToNat, reduceCtorEq]; rfl) | rfl) (sp_szSetFunctor_yes (f:=a0) (by first | omega | assumption | rfl | exact (by assumption : SMB _).src | exact (by assumption : SMB _).tgt) (by first | omega | assumption | rfl | exact (by assumption : SMB _).src | exact (by assumption : SMB _).tgt)) cal_szSetFunctor (by simp [go_sem]) (by simp [go_sem]) ?_; all_goals try simp only [go_sem, ↓reduceIte, Nat.reduceAdd, Nat.reduceSub, Nat.reduceMul, Nat.reduceDiv, Nat.reduceLT, Nat.reduceLeDiff, Nat.reduceEqDiff, Int.reduceToNat, reduceCtorEq])
        | ((with_reducible refine evCall_at 11 ?_); refine EvCall.rd (by first | (simp only [go_sem, ↓reduceIte, Nat.reduceAdd, Nat.reduceSub, Nat.reduceMul, Nat.reduceDiv, Nat.reduceLT, Nat.reduceLeDiff, Nat.reduceEqDiff, Int.reduceToNat, reduceCtorEq]; rfl) | rfl) (sp_toSetFunctor (f:=a0) ?_) cal_toSetFunctor (by simp [go_sem]) (by simp [go_sem]) ?_; all_goals try simp only [go_sem, ↓reduceIte, Nat.reduceAdd, Nat.reduceSub, Nat.reduceMul, Nat.reduceDiv, Nat.reduceLT, Nat.reduceLeDiff, Nat.reduceEqDiff, Int.reduceToNat, reduceCtorEq])
        | ((with_reducible refine evCall_at 12 ?_); refine EvCall.rd (by first | (simp only [go_sem, ↓reduceIte, Nat.reduceAdd, Nat.reduceSub, Nat.reduceMul, Nat.reduceDiv, Nat.reduceLT, Nat.reduceLeDiff, Nat.reduceEqDiff, Int.reduceToNat, reduceCtorEq]; rfl) | rfl) (sp_toInt64S (l:=a2) ?_) cal_toInt64S (by simp [go_sem]) (by simp [go_sem]) ?_; all_goals try simp only [go_sem, ↓reduceIte, Nat.reduceAdd, Nat.reduceSub, Nat.reduceMul, Nat.reduceDiv, Nat.reduceLT, Nat.reduceLeDiff, Nat.reduceEqDiff, Int.reduceToNat, reduceCtorEq])
        | ((with_reducible refine evCall_at 10 ?_); refine EvCall.rd (by first | (simp only [go_sem, ↓reduceIte, Nat.reduceAdd, Nat.reduceSub, Nat.reduceMul, Nat.reduceDiv, Nat.reduceLT, Nat.reduceLeDiff, Nat.reduceEqDiff, Int.reduceToNat, reduceCtorEq]; rfl) | rfl) (sp_spec_MatchingFamilies_loc) cal_spec_MatchingFamilies (by simp [go_sem]) (by simp [go_sem]) ?_; all_goals try simp only [go_sem, ↓reduceIte, Nat.reduceAdd, Nat.reduceSub, Nat.reduceMul, Nat.reduceDiv, Nat.reduceLT, Nat.reduceLeDiff, Nat.reduceEqDiff, Int.reduceToNat, reduceCtorEq])
        | ((with_reducible refine evCall_at 13 ?_); refine EvCall.rd (by first | (simp only [go_sem, ↓reduceIte, Nat.reduceAdd, Nat.reduceSub, Nat.reduceMul, Nat.reduceDiv, Nat.reduceLT, Nat.reduceLeDiff, Nat.reduceEqDiff, Int.reduceToNat, reduceCtorEq]; rfl) | rfl) (sp_MatchingFamilies_loc) cal_MatchingFamilies (by simp [go_sem]) (by simp [go_sem]) ?_; all_goals try simp only [go_sem, ↓reduceIte, Nat.reduceAdd, Nat.reduceSub, Nat.reduceMul, Nat.reduceDiv, Nat.reduceLT, Nat.reduceLeDiff, Nat.reduceEqDiff, Int.reduceToNat, reduceCtorEq])
        | ((with_reducible refine evCall_at 14 ?_); refine EvCall.rd (by first | (simp only [go_sem, ↓reduceIte, Nat.reduceAdd, Nat.reduceSub, Nat.reduceMul, Nat.reduceDiv, Nat.reduceLT, Nat.reduceLeDiff, Nat.reduceEqDiff, Int.reduceToNat, reduceCtorEq]; rfl) | rfl) (sp_eqInt64SS (a:=R) (b:=R) ?_ ?_ ?_ ?_) cal_eqInt64SS (by simp [go_sem]) (by simp [go_sem]) ?_; all_goals try simp only [go_sem, ↓reduceIte, Nat.reduceAdd, Nat.reduceSub, Nat.reduceMul, Nat.reduceDiv, Nat.reduceLT, Nat.reduceLeDiff, Nat.reduceEqDiff, Int.reduceToNat, reduceCtorEq])
        | ((with_reducible refine evCall_at 15 ?_); refine EvCall.rd (by first | (simp only [go_sem, ↓reduceIte, Nat.reduceAdd, Nat.reduceSub, Nat.reduceMul, Nat.reduceDiv, Nat.reduceLT, Nat.reduceLeDiff, Nat.reduceEqDiff, Int.reduceToNat, reduceCtorEq]; rfl) | rfl) (sp_eqSetFunctor (f:=a0) (g:=a0) ?_ ?_) cal_eqSetFunctor (by simp [go_sem]) (by simp [go_sem]) ?_; all_goals try simp only [go_sem, ↓reduceIte, Nat.reduceAdd, Nat.reduceSub, Nat.reduceMul, Nat.reduceDiv, Nat.reduceLT, Nat.reduceLeDiff, Nat.reduceEqDiff, Int.reduceToNat, reduceCtorEq])
        | ((with_reducible refine evCall_at 16 ?_); refine EvCall.rd (by first | (simp only [go_sem, ↓reduceIte, Nat.reduceAdd, Nat.reduceSub, Nat.reduceMul, Nat.reduceDiv, Nat.reduceLT, Nat.reduceLeDiff, Nat.reduceEqDiff, Int.reduceToNat, reduceCtorEq]; rfl) | rfl) (sp_eqInt64S (a:=a2) (b:=a2) ?_ ?_) cal_eqInt64S (by simp [go_sem]) (by simp [go_sem]) ?_; all_goals try simp only [go_sem, ↓reduceIte, Nat.reduceAdd, Nat.reduceSub, Nat.reduceMul, Nat.reduceDiv, Nat.reduceLT, Nat.reduceLeDiff, Nat.reduceEqDiff, Int.reduceToNat, reduceCtorEq])
        | ((with_reducible refine evCall_at 17 ?_); refine EvCall.mu (by first | (simp only [go_sem, ↓reduceIte, Nat.reduceAdd, Nat.reduceSub, Nat.reduceMul, Nat.reduceDiv, Nat.reduceLT, Nat.reduceLeDiff, Nat.reduceEqDiff, Int.reduceToNat, reduceCtorEq]; rfl) | rfl) (by first | (simp only [go_sem, ↓reduceIte, Nat.reduceAdd, Nat.reduceSub, Nat.reduceMul, Nat.reduceDiv, Nat.reduceLT, Nat.reduceLeDiff, Nat.reduceEqDiff, Int.reduceToNat, reduceCtorEq]; rfl) | rfl) (by first | (simp only [go_sem, ↓reduceIte, Nat.reduceAdd, Nat.reduceSub, Nat.reduceMul, Nat.reduceDiv, Nat.reduceLT, Nat.reduceLeDiff, Nat.reduceEqDiff, Int.reduceToNat, reduceCtorEq]; rfl) | rfl) (sp_markSetFunctor (f:=a0) ?_ ?_ ?_) cal_markSetFunctor (by first | (simp only [go_sem, ↓reduceIte, Nat.reduceAdd, Nat.reduceSub, Nat.reduceMul, Nat.reduceDiv, Nat.reduceLT, Nat.reduceLeDiff, Nat.reduceEqDiff, Int.reduceToNat, reduceCtorEq]; rfl) | rfl) (by first | (simp only [go_sem, ↓reduceIte, Nat.reduceAdd, Nat.reduceSub, Nat.reduceMul, Nat.reduceDiv, Nat.reduceLT, Nat.reduceLeDiff, Nat.reduceEqDiff, Int.reduceToNat, reduceCtorEq]; rfl) | rfl) (by simp [go_sem]) (by simp [go_sem]) ?_; all_goals try simp only [go_sem, ↓reduceIte, Nat.reduceAdd, Nat.reduceSub, Nat.reduceMul, Nat.reduceDiv, Nat.reduceLT, Nat.reduceLeDiff, Nat.reduceEqDiff, Int.reduceToNat, reduceCtorEq])
        | ((with_reducible refine evCall_at 18 ?_); refine EvCall.mu (by first | (simp only [go_sem, ↓reduceIte, Nat.reduceAdd, Nat.reduceSub, Nat.reduceMul, Nat.reduceDiv, Nat.reduceLT, Nat.reduceLeDiff, Nat.reduceEqDiff, Int.reduceToNat, reduceCtorEq]; rfl) | rfl) (by first | (simp only [go_sem, ↓reduceIte, Nat.reduceAdd, Nat.reduceSub, Nat.reduceMul, Nat.reduceDiv, Nat.reduceLT, Nat.reduceLeDiff, Nat.reduceEqDiff, Int.reduceToNat, reduceCtorEq]; rfl) | rfl) (by first | (simp only [go_sem, ↓reduceIte, Nat.reduceAdd, Nat.reduceSub, Nat.reduceMul, Nat.reduceDiv, Nat.reduceLT, Nat.reduceLeDiff, Nat.reduceEqDiff, Int.reduceToNat, reduceCtorEq]; rfl) | rfl) (sp_markInt64S (l:=a2) ?_ ?_ ?_) cal_markInt64S (by first | (simp only [go_sem, ↓reduceIte, Nat.reduceAdd, Nat.reduceSub, Nat.reduceMul, Nat.reduceDiv, Nat.reduceLT, Nat.reduceLeDiff, Nat.reduceEqDiff, Int.reduceToNat, reduceCtorEq]; rfl) | rfl) (by first | (simp only [go_sem, ↓reduceIte, Nat.reduceAdd, Nat.reduceSub, Nat.reduceMul, Nat.reduceDiv, Nat.reduceLT, Nat.reduceLeDiff, Nat.reduceEqDiff, Int.reduceToNat, reduceCtorEq]; rfl) | rfl) (by simp [go_sem]) (by simp [go_sem]) ?_; all_goals try simp only [go_sem, ↓reduceIte, Nat.reduceAdd, Nat.reduceSub, Nat.reduceMul, Nat.reduceDiv, Nat.reduceLT, Nat.reduceLeDiff, Nat.reduceEqDiff, Int.reduceToNat, reduceCtorEq])
        | ((with_reducible refine evCall_at 19 ?_); refine EvCall.mu (by first | (simp only [go_sem, ↓reduceIte, Nat.reduceAdd, Nat.reduceSub, Nat.reduceMul, Nat.reduceDiv, Nat.reduceLT, Nat.reduceLeDiff, Nat.reduceEqDiff, Int.reduceToNat, reduceCtorEq]; rfl) | rfl) (by first | (simp only [go_sem, ↓reduceIte, Nat.reduceAdd, Nat.reduceSub, Nat.reduceMul, Nat.reduceDiv, Nat.reduceLT, Nat.reduceLeDiff, Nat.reduceEqDiff, Int.reduceToNat, reduceCtorEq]; rfl) | rfl) (by first | (simp only [go_sem, ↓reduceIte, Nat.reduceAdd, Nat.reduceSub, Nat.reduceMul, Nat.reduceDiv, Nat.reduceLT, Nat.reduceLeDiff, Nat.reduceEqDiff, Int.reduceToNat, reduceCtorEq]; rfl) | rfl) (sp_markInt64SS (l:=R) ?_ ?_ ?_) cal_markInt64SS (by first | (simp only [go_sem, ↓reduceIte, Nat.reduceAdd, Nat.reduceSub, Nat.reduceMul, Nat.reduceDiv, Nat.reduceLT, Nat.reduceLeDiff, Nat.reduceEqDiff, Int.reduceToNat, reduceCtorEq]; rfl) | rfl) (by first | (simp only [go_sem, ↓reduceIte, Nat.reduceAdd, Nat.reduceSub, Nat.reduceMul, Nat.reduceDiv, Nat.reduceLT, Nat.reduceLeDiff, Nat.reduceEqDiff, Int.reduceToNat, reduceCtorEq]; rfl) | rfl) (by simp [go_sem]) (by simp [go_sem]) ?_; all_goals try simp only [go_sem, ↓reduceIte, Nat.reduceAdd, Nat.reduceSub, Nat.reduceMul, Nat.reduceDiv, Nat.reduceLT, Nat.reduceLeDiff, Nat.reduceEqDiff, Int.reduceToNat, reduceCtorEq])
        | ((with_reducible refine evCall_at 20 ?_); refine EvCall.rd (by first | (simp only [go_sem, ↓reduceIte, Nat.reduceAdd, Nat.reduceSub, Nat.reduceMul, Nat.reduceDiv, Nat.reduceLT, Nat.reduceLeDiff, Nat.reduceEqDiff, Int.reduceToNat, reduceCtorEq]; rfl) | rfl) (sp_heldInt64SS_at (m:=marksS 1 R) (l:=R) (k:=1) (by first | omega | assumption | rfl | exact (by assumption : SMB _).src | exact (by assumption : SMB _).tgt) (by first | omega | assumption | rfl | exact (by assumption : SMB _).src | exact (by assumption : SMB _).tgt) (by first | omega | assumption | rfl | exact (by assumption : SMB _).src | exact (by assumption : SMB _).tgt) (by first | omega | assumption | rfl | exact (by assumption : SMB _).src | exact (by assumption : SMB _).tgt)) cal_heldInt64SS (by simp [go_sem]) (by simp [go_sem]) ?_; all_goals try simp only [go_sem, ↓reduceIte, Nat.reduceAdd, Nat.reduceSub, Nat.reduceMul, Nat.reduceDiv, Nat.reduceLT, Nat.reduceLeDiff, Nat.reduceEqDiff, Int.reduceToNat, reduceCtorEq])
        | (refine fun (hc : (_ : Bool) = _) => ?_; try simp only [decide_eq_true_eq, decide_eq_false_iff_not, Bool.not_eq_true', Bool.not_eq_false', Int.not_lt, Int.not_le, Cats.dec_iff, Cats.dec_not, Bool.and_eq_true, Bool.or_eq_true, Bool.and_eq_false_iff, Bool.or_eq_false_iff, Bool.not_eq_true, Bool.not_eq_false, Decidable.not_not, not_true_eq_false, not_false_eq_true] at hc))
      all_goals try (first | (with_reducible assumption) | ((try simp only [Cat.F, Cat.T, Cat.I, Cat.C, Fun.O, Fun.A, Cat.Entry, Int.toNat_natCast] at *); omega))
      (first | refine ret_auto ?_ | refine ret_auto' ?_); simp only [go_sem, ↓reduceIte, Nat.reduceAdd, Nat.reduceSub, Nat.reduceMul, Nat.reduceDiv, Nat.reduceLT, Nat.reduceLeDiff, Nat.reduceEqDiff, Int.reduceToNat, reduceCtorEq, Try.f3]
    · repeat' (first
        | with_reducible first | refine V_seq ?_ | refine V_block ?_ | refine V_skip ?_ | refine V_ret ?_ | refine V_exit ?_
        | ((with_reducible refine V_cond ?_); simp only [go_sem, ↓reduceIte, Nat.reduceAdd, Nat.reduceSub, Nat.reduceMul, Nat.reduceDiv, Nat.reduceLT, Nat.reduceLeDiff, Nat.reduceEqDiff, Int.reduceToNat, reduceCtorEq])
        | ((first | refine V_region (by rw [hn]; rfl) ?_ | refine V_drawn hmix (by rw [hn]; rfl) ?_); intro K hK)
        | ((first | with_reducible refine evOps_n ?_ | ((with_reducible apply evOps_g); rfl) | with_reducible refine evOpsD_n ?_ | ((with_reducible apply evOpsD_g); rfl)); intro K hK; simp (contextual := true) only [go_sem, ↓reduceIte, Nat.reduceAdd, Nat.reduceSub, Nat.reduceMul, Nat.reduceDiv, Nat.reduceLT, Nat.reduceLeDiff, Nat.reduceEqDiff, Int.reduceToNat, reduceCtorEq])
        | with_reducible refine evOps_nil ?_
        | ((with_reducible refine evOpsD_nil ?_ ?_); kernel_rfl)
        | ((with_reducible refine hK _ ?_); clear hK K)
        | with_reducible first | refine And.intro ?_ ?_ | refine nxt_n ?_ | refine nxt_r ?_ | refine nxt_e ?_ | refine blk_n ?_ | refine blk_r ?_ | refine blk_same ?_ | refine blk_other (by decide) ?_ | refine noG_n ?_ | refine noG_r ?_ | refine noG_e ?_ | refine inR_mk ?_ ?_
        | ((with_reducible refine evCall_at 9 ?_); refine EvCall.rd (by first | (simp only [go_sem, ↓reduceIte, Nat.reduceAdd, Nat.reduceSub, Nat.reduceMul, Nat.reduceDiv, Nat.reduceLT, Nat.reduceLeDiff, Nat.reduceEqDiff, Int.reduceToNat, reduceCtorEq]; rfl) | rfl) (sp_szSetFunctor_no (f:=a0) (by first | omega | assumption | rfl | exact (by assumption : SMB _).src | exact (by assumption : SMB _).tgt) (by first | omega | assumption | rfl | exact (by assumption : SMB _).src | exact (by assumption : SMB _).tgt) (by first | omega | assumption | rfl | exact (by assumption : SMB _).src | exact (by assumption : SMB _).tgt) (by first | omega | assumption | rfl | exact (by assumption : SMB _).src | exact (by assumption : SMB _).tgt)) cal_szSetFunctor (by simp [go_sem]) (by simp [go_sem]) ?_; all_goals try simp only [go_sem, ↓reduceIte, Nat.reduceAdd, Nat.reduceSub, Nat.reduceMul, Nat.reduceDiv, Nat.reduceLT, Nat.reduceLeDiff, Nat.reduceEqDiff, Int.reduceToNat, reduceCtorEq])
        | (refine fun (hc : (_ : Bool) = _) => ?_; try simp only [decide_eq_true_eq, decide_eq_false_iff_not, Bool.not_eq_true', Bool.not_eq_false', Int.not_lt, Int.not_le, Cats.dec_iff, Cats.dec_not, Bool.and_eq_true, Bool.or_eq_true, Bool.and_eq_false_iff, Bool.or_eq_false_iff, Bool.not_eq_true, Bool.not_eq_false, Decidable.not_not, not_true_eq_false, not_false_eq_true] at hc))
      all_goals try (first | (with_reducible assumption) | ((try simp only [Cat.F, Cat.T, Cat.I, Cat.C, Fun.O, Fun.A, Cat.Entry, Int.toNat_natCast] at *); omega))
      (first | refine ret_auto ?_ | refine ret_auto' ?_); simp only [go_sem, ↓reduceIte, Nat.reduceAdd, Nat.reduceSub, Nat.reduceMul, Nat.reduceDiv, Nat.reduceLT, Nat.reduceLeDiff, Nat.reduceEqDiff, Int.reduceToNat, reduceCtorEq, Try.f3]
  · repeat' (first
      | with_reducible first | refine V_seq ?_ | refine V_block ?_ | refine V_skip ?_ | refine V_ret ?_ | refine V_exit ?_
      | ((with_reducible refine V_cond ?_); simp only [go_sem, ↓reduceIte, Nat.reduceAdd, Nat.reduceSub, Nat.reduceMul, Nat.reduceDiv, Nat.reduceLT, Nat.reduceLeDiff, Nat.reduceEqDiff, Int.reduceToNat, reduceCtorEq])
      | ((first | refine V_region (by rw [hn]; rfl) ?_ | refine V_drawn hmix (by rw [hn]; rfl) ?_); intro K hK)
      | ((first | with_reducible refine evOps_n ?_ | ((with_reducible apply evOps_g); rfl) | with_reducible refine evOpsD_n ?_ | ((with_reducible apply evOpsD_g); rfl)); intro K hK; simp (contextual := true) only [go_sem, ↓reduceIte, Nat.reduceAdd, Nat.reduceSub, Nat.reduceMul, Nat.reduceDiv, Nat.reduceLT, Nat.reduceLeDiff, Nat.reduceEqDiff, Int.reduceToNat, reduceCtorEq])
      | with_reducible refine evOps_nil ?_
      | ((with_reducible refine evOpsD_nil ?_ ?_); kernel_rfl)
      | ((with_reducible refine hK _ ?_); clear hK K)
      | with_reducible first | refine And.intro ?_ ?_ | refine nxt_n ?_ | refine nxt_r ?_ | refine nxt_e ?_ | refine blk_n ?_ | refine blk_r ?_ | refine blk_same ?_ | refine blk_other (by decide) ?_ | refine noG_n ?_ | refine noG_r ?_ | refine noG_e ?_ | refine inR_mk ?_ ?_
      | (refine fun (hc : (_ : Bool) = _) => ?_; try simp only [decide_eq_true_eq, decide_eq_false_iff_not, Bool.not_eq_true', Bool.not_eq_false', Int.not_lt, Int.not_le, Cats.dec_iff, Cats.dec_not, Bool.and_eq_true, Bool.or_eq_true, Bool.and_eq_false_iff, Bool.or_eq_false_iff, Bool.not_eq_true, Bool.not_eq_false, Decidable.not_not, not_true_eq_false, not_false_eq_true] at hc))
    all_goals try (first | (with_reducible assumption) | ((try simp only [Cat.F, Cat.T, Cat.I, Cat.C, Fun.O, Fun.A, Cat.Entry, Int.toNat_natCast] at *); omega))
    (first | refine ret_auto ?_ | refine ret_auto' ?_); simp only [go_sem, ↓reduceIte, Nat.reduceAdd, Nat.reduceSub, Nat.reduceMul, Nat.reduceDiv, Nat.reduceLT, Nat.reduceLeDiff, Nat.reduceEqDiff, Int.reduceToNat, reduceCtorEq, Try.f3]
end Go.Eng

namespace Go.Proofs.Ytgmbhfggdcipoaa
open Go Go.Eng Go.Cats Go.ChangeShapes Go.WideShapes Go.RowKit

theorem Try.own12_ : ownKnob Try.checked.prog.godebug = none := by kernel_rfl
theorem Try.laidOut12_ : laidOutB Try.prog = true := by kernel_rfl

theorem matchingFamilies_lifted (os : Os) (started : os.Started) (H : Type) (enc : TypeId × Value → H) :
    ReturnsInHanded {} Try.checked os 3 .any (Rows.fnExactMatchingFamiliesSpec.pre6 enc Try.prog Try.f3 Rows.fnExactMatchingFamiliesRow.domain Rows.fnExactMatchingFamiliesRow.apart) (Rows.fnExactMatchingFamiliesSpec.post enc Try.prog Try.f3 Rows.fnExactMatchingFamiliesRow.apart Rows.fnExactMatchingFamiliesRow.fresh Rows.fnExactMatchingFamiliesRow.handsOn Rows.fnExactMatchingFamiliesRow.again) := by
  refine returnsInHanded_of_change (C := Try.checked) Try.own12_ started (by kernel_rfl) Try.func3
    (ChangeSpec.witness6 (enc := enc) (C := Try.checked) false ⟨#[], #[.agg #[.int .i64 0, .slice none 0 0, .slice none 0 0, .slice none 0 0, .slice none 0 0, .slice none 0 0, .slice none 0 0], .int .i64 0, .slice none 0 0], []⟩ 8 (by kernel_rfl) (by kernel_rfl) (by kernel_rfl) (by kernel_rfl)) ?_
  intro W base args ds gs before hval0 hW hcnd _
  have hval : ∀ (j : Nat) t v, Try.f3.params[j]? = some t → args[j]? = some v → Value.okWide Try.prog W .any base t v := hval0
  have hW' := hW
  obtain ⟨p, q, hA0, hV, rfl, hfz, hnd⟩ := hW
  obtain ⟨rfl, rfl⟩ := trodVars_none hV
  have hA : DataW.TrodAll enc Try.prog W 0 (fun _ => true) true [27, 2, 22] args.toList ds p := hA0
  obtain ⟨v0, v1, v2, d0, d1, d2, p0, p1, p2, rfl, rfl, rfl, h0, h1, h2⟩ := trodAll_three hA
  obtain ⟨cs0, rfl, _⟩ := okWide_struct Try.underlying27 (hval 0 27 v0 rfl rfl)
  obtain ⟨fuel0, hf0⟩ := h0
  have hg0 := hf0
  rw [show (Value.agg cs0).cells.toList = cs0.toList from rfl] at hf0
  obtain ⟨a0, hm0, hok0⟩ := rd_sf hf0
  obtain ⟨a1, rfl⟩ := okWide_int Try.underlying2 (hval 1 2 v1 rfl rfl)
  obtain ⟨x2, y2, z2, rfl⟩ := okWide_slice Try.underlying22 (hval 2 22 v2 rfl rfl)
  obtain ⟨fuel2, hf2⟩ := h2
  have hg2 := hf2
  rw [show (Value.slice x2 y2 z2).cells.toList = [Value.slice x2 y2 z2] from rfl] at hf2
  obtain ⟨u2, a2, hu2, ho2, hr2, hb2, _⟩ := rd_ints Try.underlying22 Try.underlying2 (by kernel_rfl) hf2
  obtain rfl : Value.slice x2 y2 z2 = u2 := by simpa using hu2
  have hlt : ∀ y ∈ p0 ++ p1 ++ p2, y.block < W.heap.size := fun y hy => hW'.lt y (by simpa using hy)
  refine (sp_FnExactMatchingFamilies (a0 := a0) (a1 := a1) (a2 := a2) hm0 hb2 W (Old W) (Old W) _ [.agg cs0, .int .i64 a1, .slice x2 y2 z2] (hp_start W) ?_).mono fun ed W' ⟨v, c1, he, hp, hv, _⟩ => ?_
  · simp only [Sv.okL, Sv.ok]
    exact ⟨_, _, rfl, ⟨cs0.toList, by simp, hok0 _ _⟩, _, _, rfl, rfl, _, _, rfl, ⟨fun p hp => (by simp at hp), ho2, fun _ => RdV.mono (fun b hb => .inl hb) _ _ hr2⟩, rfl⟩
  · simp only [Sv.ok] at hv
    subst hv
    subst he
    have hb := below_of_hp hp
    refine ⟨_, rfl, post_law hW' rfl rfl Try.underlying4 rfl hb ?_⟩
    rw [List.append_nil, List.append_assoc]
    exact trodAll_mk3 (Below.trod Try.laidOut12_ (by kernel_rfl) (of_decide_eq_true (by kernel_rfl)) ⟨fuel0, hg0⟩ hb (fun y hy => hlt y (by simp [hy]))) (Below.trod Try.laidOut12_ (by kernel_rfl) (of_decide_eq_true (by kernel_rfl)) h1 hb (fun y hy => hlt y (by simp [hy]))) (Below.trod Try.laidOut12_ (by kernel_rfl) (of_decide_eq_true (by kernel_rfl)) ⟨fuel2, hg2⟩ hb (fun y hy => hlt y (by simp [hy])))

theorem matchingFamilies_holds : Rows.FnExactMatchingFamiliesSaid :=
  OpenClaim.holds_of_wide_leaving 3 Try.f3 rfl rfl rfl rfl rfl rfl rfl ⟨rfl, rfl, rfl, rfl, rfl⟩ rfl rfl rfl rfl rfl (by kernel_rfl) Try.func3 (by kernel_rfl)
    (of_decide_eq_true (by kernel_rfl)) (by unfold Func.isWrapper; first | (rw [if_pos (by decide +kernel)]; kernel_rfl) | (rw [if_neg (by decide +kernel)]; exact ⟨rfl, rfl⟩))
    (fun os started H enc _ => leaving_of_handed (matchingFamilies_lifted os started H enc))
#print axioms matchingFamilies_holds
end Go.Proofs.Ytgmbhfggdcipoaa
