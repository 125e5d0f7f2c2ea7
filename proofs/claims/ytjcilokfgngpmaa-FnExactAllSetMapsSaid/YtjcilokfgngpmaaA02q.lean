/- The search of natural maps: the errors; parts that nothing is known of. -/
import Derived.Test.YtjcilokfgngpmaaA01q
set_option linter.unusedSimpArgs false
set_option linter.unusedVariables false
set_option maxRecDepth 100000
set_option maxHeartbeats 8000000
namespace Go.Eng
open Go Go.Proofs Go.Cats

theorem one_nil_a2 : (Value.slice none 0 0).oneCell' = true := rfl
attribute [local go_sem] one_nil_a2

theorem cal_setsCode : Callable Try.prog 57 := ⟨_, Try.func57, rfl, rfl⟩
theorem sp_setsCode {f g : SF} {c : Int} (hf : SFB f) (hg : SFB g) (h : SCo f g c) : Spec Try.prog 57 [.bptr [] (sfD f), .bptr [] (sfD g)] [] (iv c) [] := by
  refine spec_of_V (E := TE) 0 Try.func57 rfl (by simp [Try.f57]) fun X hn hX => ?_
  have f1 := hf.shape
  have g1 := hg.shape
  rcases h with ⟨h6, rfl⟩ | ⟨h6, h7, rfl⟩ | ⟨h6, h7, rfl⟩
  · repeat' (first
      | with_reducible first | refine V_seq ?_ | refine V_block ?_ | refine V_skip ?_ | refine V_ret ?_ | refine V_exit ?_
      | ((with_reducible refine V_cond ?_); simp only [go_sem, ↓reduceIte, Nat.reduceAdd, Nat.reduceSub, Nat.reduceMul, Nat.reduceDiv, Nat.reduceLT, Nat.reduceLeDiff, Nat.reduceEqDiff, Int.reduceToNat, reduceCtorEq])
      | ((first | refine V_region (by rw [hn]; rfl) ?_ | refine V_drawn hmix (by rw [hn]; rfl) ?_); intro K hK)
      | ((first | with_reducible refine evOps_n ?_ | ((with_reducible apply evOps_g); rfl) | with_reducible refine evOpsD_n ?_ | ((with_reducible apply evOpsD_g); rfl)); intro K hK; simp (contextual := true) only [go_sem, ↓reduceIte, Nat.reduceAdd, Nat.reduceSub, Nat.reduceMul, Nat.reduceDiv, Nat.reduceLT, Nat.reduceLeDiff, Nat.reduceEqDiff, Int.reduceToNat, reduceCtorEq])
      | with_reducible refine evOps_nil ?_
      | ((with_reducible refine evOpsD_nil ?_ ?_); kernel_rfl)
      | ((with_reducible refine hK _ ?_); clear hK K)
      | with_reducible first | refine And.intro ?_ ?_ | refine nxt_n ?_ | refine nxt_r ?_ | refine nxt_e ?_ | refine blk_n ?_ | refine blk_r ?_ | refine blk_same ?_ | refine blk_other (by decide) ?_ | refine noG_n ?_ | refine noG_r ?_ | refine noG_e ?_ | refine inR_mk ?_ ?_
      | ((with_reducible refine evCall_at 89 ?_); refine EvCall.rd (by first | (simp only [go_sem, ↓reduceIte, Nat.reduceAdd, Nat.reduceSub, Nat.reduceMul, Nat.reduceDiv, Nat.reduceLT, Nat.reduceLeDiff, Nat.reduceEqDiff, Int.reduceToNat, reduceCtorEq]; rfl) | rfl) (sp_areSetFunctors_two (by first | omega | assumption | rfl | exact (by assumption : SMB _).src | exact (by assumption : SMB _).tgt) (by first | omega | assumption | rfl | exact (by assumption : SMB _).src | exact (by assumption : SMB _).tgt)) cal_areSetFunctors (by simp [go_sem]) (by simp [go_sem]) ?_; all_goals try simp only [go_sem, ↓reduceIte, Nat.reduceAdd, Nat.reduceSub, Nat.reduceMul, Nat.reduceDiv, Nat.reduceLT, Nat.reduceLeDiff, Nat.reduceEqDiff, Int.reduceToNat, reduceCtorEq])
      | (refine fun (hc : (_ : Bool) = _) => ?_; try simp only [decide_eq_true_eq, decide_eq_false_iff_not, Bool.not_eq_true', Bool.not_eq_false', Int.not_lt, Int.not_le, Cats.dec_iff, Cats.dec_not, Bool.and_eq_true, Bool.or_eq_true, Bool.and_eq_false_iff, Bool.or_eq_false_iff, Bool.not_eq_true, Bool.not_eq_false, Decidable.not_not, not_true_eq_false, not_false_eq_true] at hc))
    all_goals try (first | (with_reducible assumption) | ((try simp only [Cat.F, Cat.T, Cat.I, Cat.C, Fun.O, Fun.A, Cat.Entry, Int.toNat_natCast] at *); omega))
    · (first | refine ret_auto ?_ | refine ret_auto' ?_); simp only [go_sem, ↓reduceIte, Nat.reduceAdd, Nat.reduceSub, Nat.reduceMul, Nat.reduceDiv, Nat.reduceLT, Nat.reduceLeDiff, Nat.reduceEqDiff, Int.reduceToNat, reduceCtorEq, Try.f57]
    all_goals exact absurd (by assumption) h6
  · repeat' (first
      | with_reducible first | refine V_seq ?_ | refine V_block ?_ | refine V_skip ?_ | refine V_ret ?_ | refine V_exit ?_
      | ((with_reducible refine V_cond ?_); simp only [go_sem, ↓reduceIte, Nat.reduceAdd, Nat.reduceSub, Nat.reduceMul, Nat.reduceDiv, Nat.reduceLT, Nat.reduceLeDiff, Nat.reduceEqDiff, Int.reduceToNat, reduceCtorEq])
      | ((first | refine V_region (by rw [hn]; rfl) ?_ | refine V_drawn hmix (by rw [hn]; rfl) ?_); intro K hK)
      | ((first | with_reducible refine evOps_n ?_ | ((with_reducible apply evOps_g); rfl) | with_reducible refine evOpsD_n ?_ | ((with_reducible apply evOpsD_g); rfl)); intro K hK; simp (contextual := true) only [go_sem, ↓reduceIte, Nat.reduceAdd, Nat.reduceSub, Nat.reduceMul, Nat.reduceDiv, Nat.reduceLT, Nat.reduceLeDiff, Nat.reduceEqDiff, Int.reduceToNat, reduceCtorEq])
      | with_reducible refine evOps_nil ?_
      | ((with_reducible refine evOpsD_nil ?_ ?_); kernel_rfl)
      | ((with_reducible refine hK _ ?_); clear hK K)
      | with_reducible first | refine And.intro ?_ ?_ | refine nxt_n ?_ | refine nxt_r ?_ | refine nxt_e ?_ | refine blk_n ?_ | refine blk_r ?_ | refine blk_same ?_ | refine blk_other (by decide) ?_ | refine noG_n ?_ | refine noG_r ?_ | refine noG_e ?_ | refine inR_mk ?_ ?_
      | ((with_reducible refine evCall_at 89 ?_); refine EvCall.rd (by first | (simp only [go_sem, ↓reduceIte, Nat.reduceAdd, Nat.reduceSub, Nat.reduceMul, Nat.reduceDiv, Nat.reduceLT, Nat.reduceLeDiff, Nat.reduceEqDiff, Int.reduceToNat, reduceCtorEq]; rfl) | rfl) (sp_areSetFunctors_two (by first | omega | assumption | rfl | exact (by assumption : SMB _).src | exact (by assumption : SMB _).tgt) (by first | omega | assumption | rfl | exact (by assumption : SMB _).src | exact (by assumption : SMB _).tgt)) cal_areSetFunctors (by simp [go_sem]) (by simp [go_sem]) ?_; all_goals try simp only [go_sem, ↓reduceIte, Nat.reduceAdd, Nat.reduceSub, Nat.reduceMul, Nat.reduceDiv, Nat.reduceLT, Nat.reduceLeDiff, Nat.reduceEqDiff, Int.reduceToNat, reduceCtorEq])
      | ((with_reducible refine evCall_at 90 ?_); refine EvCall.rd (by first | (simp only [go_sem, ↓reduceIte, Nat.reduceAdd, Nat.reduceSub, Nat.reduceMul, Nat.reduceDiv, Nat.reduceLT, Nat.reduceLeDiff, Nat.reduceEqDiff, Int.reduceToNat, reduceCtorEq]; rfl) | rfl) (sp_sameCategory (c:=f.shape) (d:=g.shape) ?_ ?_) cal_sameCategory (by simp [go_sem]) (by simp [go_sem]) ?_; all_goals try simp only [go_sem, ↓reduceIte, Nat.reduceAdd, Nat.reduceSub, Nat.reduceMul, Nat.reduceDiv, Nat.reduceLT, Nat.reduceLeDiff, Nat.reduceEqDiff, Int.reduceToNat, reduceCtorEq])
      | (refine fun (hc : (_ : Bool) = _) => ?_; try simp only [decide_eq_true_eq, decide_eq_false_iff_not, Bool.not_eq_true', Bool.not_eq_false', Int.not_lt, Int.not_le, Cats.dec_iff, Cats.dec_not, Bool.and_eq_true, Bool.or_eq_true, Bool.and_eq_false_iff, Bool.or_eq_false_iff, Bool.not_eq_true, Bool.not_eq_false, Decidable.not_not, not_true_eq_false, not_false_eq_true] at hc))
    all_goals try (first | (with_reducible assumption) | ((try simp only [Cat.F, Cat.T, Cat.I, Cat.C, Fun.O, Fun.A, Cat.Entry, Int.toNat_natCast] at *); omega))
    all_goals try ((first | refine ret_auto ?_ | refine ret_auto' ?_); simp only [go_sem, ↓reduceIte, Nat.reduceAdd, Nat.reduceSub, Nat.reduceMul, Nat.reduceDiv, Nat.reduceLT, Nat.reduceLeDiff, Nat.reduceEqDiff, Int.reduceToNat, reduceCtorEq, Try.f57])
    all_goals first | contradiction | exact absurd (by assumption) h7
  · repeat' (first
      | with_reducible first | refine V_seq ?_ | refine V_block ?_ | refine V_skip ?_ | refine V_ret ?_ | refine V_exit ?_
      | ((with_reducible refine V_cond ?_); simp only [go_sem, ↓reduceIte, Nat.reduceAdd, Nat.reduceSub, Nat.reduceMul, Nat.reduceDiv, Nat.reduceLT, Nat.reduceLeDiff, Nat.reduceEqDiff, Int.reduceToNat, reduceCtorEq])
      | ((first | refine V_region (by rw [hn]; rfl) ?_ | refine V_drawn hmix (by rw [hn]; rfl) ?_); intro K hK)
      | ((first | with_reducible refine evOps_n ?_ | ((with_reducible apply evOps_g); rfl) | with_reducible refine evOpsD_n ?_ | ((with_reducible apply evOpsD_g); rfl)); intro K hK; simp (contextual := true) only [go_sem, ↓reduceIte, Nat.reduceAdd, Nat.reduceSub, Nat.reduceMul, Nat.reduceDiv, Nat.reduceLT, Nat.reduceLeDiff, Nat.reduceEqDiff, Int.reduceToNat, reduceCtorEq])
      | with_reducible refine evOps_nil ?_
      | ((with_reducible refine evOpsD_nil ?_ ?_); kernel_rfl)
      | ((with_reducible refine hK _ ?_); clear hK K)
      | with_reducible first | refine And.intro ?_ ?_ | refine nxt_n ?_ | refine nxt_r ?_ | refine nxt_e ?_ | refine blk_n ?_ | refine blk_r ?_ | refine blk_same ?_ | refine blk_other (by decide) ?_ | refine noG_n ?_ | refine noG_r ?_ | refine noG_e ?_ | refine inR_mk ?_ ?_
      | ((with_reducible refine evCall_at 89 ?_); refine EvCall.rd (by first | (simp only [go_sem, ↓reduceIte, Nat.reduceAdd, Nat.reduceSub, Nat.reduceMul, Nat.reduceDiv, Nat.reduceLT, Nat.reduceLeDiff, Nat.reduceEqDiff, Int.reduceToNat, reduceCtorEq]; rfl) | rfl) (sp_areSetFunctors_two (by first | omega | assumption | rfl | exact (by assumption : SMB _).src | exact (by assumption : SMB _).tgt) (by first | omega | assumption | rfl | exact (by assumption : SMB _).src | exact (by assumption : SMB _).tgt)) cal_areSetFunctors (by simp [go_sem]) (by simp [go_sem]) ?_; all_goals try simp only [go_sem, ↓reduceIte, Nat.reduceAdd, Nat.reduceSub, Nat.reduceMul, Nat.reduceDiv, Nat.reduceLT, Nat.reduceLeDiff, Nat.reduceEqDiff, Int.reduceToNat, reduceCtorEq])
      | ((with_reducible refine evCall_at 90 ?_); refine EvCall.rd (by first | (simp only [go_sem, ↓reduceIte, Nat.reduceAdd, Nat.reduceSub, Nat.reduceMul, Nat.reduceDiv, Nat.reduceLT, Nat.reduceLeDiff, Nat.reduceEqDiff, Int.reduceToNat, reduceCtorEq]; rfl) | rfl) (sp_sameCategory (c:=f.shape) (d:=g.shape) ?_ ?_) cal_sameCategory (by simp [go_sem]) (by simp [go_sem]) ?_; all_goals try simp only [go_sem, ↓reduceIte, Nat.reduceAdd, Nat.reduceSub, Nat.reduceMul, Nat.reduceDiv, Nat.reduceLT, Nat.reduceLeDiff, Nat.reduceEqDiff, Int.reduceToNat, reduceCtorEq])
      | (refine fun (hc : (_ : Bool) = _) => ?_; try simp only [decide_eq_true_eq, decide_eq_false_iff_not, Bool.not_eq_true', Bool.not_eq_false', Int.not_lt, Int.not_le, Cats.dec_iff, Cats.dec_not, Bool.and_eq_true, Bool.or_eq_true, Bool.and_eq_false_iff, Bool.or_eq_false_iff, Bool.not_eq_true, Bool.not_eq_false, Decidable.not_not, not_true_eq_false, not_false_eq_true] at hc))
    all_goals try (first | (with_reducible assumption) | ((try simp only [Cat.F, Cat.T, Cat.I, Cat.C, Fun.O, Fun.A, Cat.Entry, Int.toNat_natCast] at *); omega))
    all_goals try ((first | refine ret_auto ?_ | refine ret_auto' ?_); simp only [go_sem, ↓reduceIte, Nat.reduceAdd, Nat.reduceSub, Nat.reduceMul, Nat.reduceDiv, Nat.reduceLT, Nat.reduceLeDiff, Nat.reduceEqDiff, Int.reduceToNat, reduceCtorEq, Try.f57])
    all_goals contradiction

theorem cal_l19Code : Callable Try.prog 53 := ⟨_, Try.func53, rfl, rfl⟩
theorem sp_l19Code {f g : SF} {c : Int} (hf : SFB f) (hg : SFB g) (h : LCo f g c) : Spec Try.prog 53 [sfV f, sfV g] [] (iv c) [] := by
  refine spec_of_V (E := TE) 0 Try.func53 rfl (by simp [Try.f53]) fun X hn hX => ?_
  have f1 := hf.shape
  have g1 := hg.shape
  rcases h with ⟨h6, rfl⟩ | ⟨h6, h7, rfl⟩ | ⟨h6, h7, h8, rfl⟩ | ⟨h6, h7, h8, rfl⟩
  · repeat' (first
      | with_reducible first | refine V_seq ?_ | refine V_block ?_ | refine V_skip ?_ | refine V_ret ?_ | refine V_exit ?_
      | ((with_reducible refine V_cond ?_); simp only [go_sem, ↓reduceIte, Nat.reduceAdd, Nat.reduceSub, Nat.reduceMul, Nat.reduceDiv, Nat.reduceLT, Nat.reduceLeDiff, Nat.reduceEqDiff, Int.reduceToNat, reduceCtorEq])
      | ((first | refine V_region (by rw [hn]; rfl) ?_ | refine V_drawn hmix (by rw [hn]; rfl) ?_); intro K hK)
      | ((first | with_reducible refine evOps_n ?_ | ((with_reducible apply evOps_g); rfl) | with_reducible refine evOpsD_n ?_ | ((with_reducible apply evOpsD_g); rfl)); intro K hK; simp (contextual := true) only [go_sem, ↓reduceIte, Nat.reduceAdd, Nat.reduceSub, Nat.reduceMul, Nat.reduceDiv, Nat.reduceLT, Nat.reduceLeDiff, Nat.reduceEqDiff, Int.reduceToNat, reduceCtorEq])
      | with_reducible refine evOps_nil ?_
      | ((with_reducible refine evOpsD_nil ?_ ?_); kernel_rfl)
      | ((with_reducible refine hK _ ?_); clear hK K)
      | with_reducible first | refine And.intro ?_ ?_ | refine nxt_n ?_ | refine nxt_r ?_ | refine nxt_e ?_ | refine blk_n ?_ | refine blk_r ?_ | refine blk_same ?_ | refine blk_other (by decide) ?_ | refine noG_n ?_ | refine noG_r ?_ | refine noG_e ?_ | refine inR_mk ?_ ?_
      | ((with_reducible refine evCall_at 84 ?_); refine EvCall.rd (by first | (simp only [go_sem, ↓reduceIte, Nat.reduceAdd, Nat.reduceSub, Nat.reduceMul, Nat.reduceDiv, Nat.reduceLT, Nat.reduceLeDiff, Nat.reduceEqDiff, Int.reduceToNat, reduceCtorEq]; rfl) | rfl) (sp_l19Is (f:=f) ?_) cal_l19Is (by simp [go_sem]) (by simp [go_sem]) ?_; all_goals try simp only [go_sem, ↓reduceIte, Nat.reduceAdd, Nat.reduceSub, Nat.reduceMul, Nat.reduceDiv, Nat.reduceLT, Nat.reduceLeDiff, Nat.reduceEqDiff, Int.reduceToNat, reduceCtorEq])
      | ((with_reducible refine evCall_at 84 ?_); refine EvCall.rd (by first | (simp only [go_sem, ↓reduceIte, Nat.reduceAdd, Nat.reduceSub, Nat.reduceMul, Nat.reduceDiv, Nat.reduceLT, Nat.reduceLeDiff, Nat.reduceEqDiff, Int.reduceToNat, reduceCtorEq]; rfl) | rfl) (sp_l19Is (f:=g) ?_) cal_l19Is (by simp [go_sem]) (by simp [go_sem]) ?_; all_goals try simp only [go_sem, ↓reduceIte, Nat.reduceAdd, Nat.reduceSub, Nat.reduceMul, Nat.reduceDiv, Nat.reduceLT, Nat.reduceLeDiff, Nat.reduceEqDiff, Int.reduceToNat, reduceCtorEq])
      | (refine fun (hc : (_ : Bool) = _) => ?_; try simp only [decide_eq_true_eq, decide_eq_false_iff_not, Bool.not_eq_true', Bool.not_eq_false', Int.not_lt, Int.not_le, Cats.dec_iff, Cats.dec_not, Bool.and_eq_true, Bool.or_eq_true, Bool.and_eq_false_iff, Bool.or_eq_false_iff, Bool.not_eq_true, Bool.not_eq_false, Decidable.not_not, not_true_eq_false, not_false_eq_true] at hc))
    all_goals try (first | (with_reducible assumption) | ((try simp only [Cat.F, Cat.T, Cat.I, Cat.C, Fun.O, Fun.A, Cat.Entry, Int.toNat_natCast] at *); omega))
    all_goals try ((first | refine ret_auto ?_ | refine ret_auto' ?_); simp only [go_sem, ↓reduceIte, Nat.reduceAdd, Nat.reduceSub, Nat.reduceMul, Nat.reduceDiv, Nat.reduceLT, Nat.reduceLeDiff, Nat.reduceEqDiff, Int.reduceToNat, reduceCtorEq, Try.f53])
    all_goals exact absurd ⟨by assumption, by assumption⟩ h6
  · have h61 := h6.1
    have h62 := h6.2
    repeat' (first
      | with_reducible first | refine V_seq ?_ | refine V_block ?_ | refine V_skip ?_ | refine V_ret ?_ | refine V_exit ?_
      | ((with_reducible refine V_cond ?_); simp only [go_sem, ↓reduceIte, Nat.reduceAdd, Nat.reduceSub, Nat.reduceMul, Nat.reduceDiv, Nat.reduceLT, Nat.reduceLeDiff, Nat.reduceEqDiff, Int.reduceToNat, reduceCtorEq])
      | ((first | refine V_region (by rw [hn]; rfl) ?_ | refine V_drawn hmix (by rw [hn]; rfl) ?_); intro K hK)
      | ((first | with_reducible refine evOps_n ?_ | ((with_reducible apply evOps_g); rfl) | with_reducible refine evOpsD_n ?_ | ((with_reducible apply evOpsD_g); rfl)); intro K hK; simp (contextual := true) only [go_sem, ↓reduceIte, Nat.reduceAdd, Nat.reduceSub, Nat.reduceMul, Nat.reduceDiv, Nat.reduceLT, Nat.reduceLeDiff, Nat.reduceEqDiff, Int.reduceToNat, reduceCtorEq])
      | with_reducible refine evOps_nil ?_
      | ((with_reducible refine evOpsD_nil ?_ ?_); kernel_rfl)
      | ((with_reducible refine hK _ ?_); clear hK K)
      | with_reducible first | refine And.intro ?_ ?_ | refine nxt_n ?_ | refine nxt_r ?_ | refine nxt_e ?_ | refine blk_n ?_ | refine blk_r ?_ | refine blk_same ?_ | refine blk_other (by decide) ?_ | refine noG_n ?_ | refine noG_r ?_ | refine noG_e ?_ | refine inR_mk ?_ ?_
      | ((with_reducible refine evCall_at 84 ?_); refine EvCall.rd (by first | (simp only [go_sem, ↓reduceIte, Nat.reduceAdd, Nat.reduceSub, Nat.reduceMul, Nat.reduceDiv, Nat.reduceLT, Nat.reduceLeDiff, Nat.reduceEqDiff, Int.reduceToNat, reduceCtorEq]; rfl) | rfl) (sp_l19Is (f:=f) ?_) cal_l19Is (by simp [go_sem]) (by simp [go_sem]) ?_; all_goals try simp only [go_sem, ↓reduceIte, Nat.reduceAdd, Nat.reduceSub, Nat.reduceMul, Nat.reduceDiv, Nat.reduceLT, Nat.reduceLeDiff, Nat.reduceEqDiff, Int.reduceToNat, reduceCtorEq])
      | ((with_reducible refine evCall_at 84 ?_); refine EvCall.rd (by first | (simp only [go_sem, ↓reduceIte, Nat.reduceAdd, Nat.reduceSub, Nat.reduceMul, Nat.reduceDiv, Nat.reduceLT, Nat.reduceLeDiff, Nat.reduceEqDiff, Int.reduceToNat, reduceCtorEq]; rfl) | rfl) (sp_l19Is (f:=g) ?_) cal_l19Is (by simp [go_sem]) (by simp [go_sem]) ?_; all_goals try simp only [go_sem, ↓reduceIte, Nat.reduceAdd, Nat.reduceSub, Nat.reduceMul, Nat.reduceDiv, Nat.reduceLT, Nat.reduceLeDiff, Nat.reduceEqDiff, Int.reduceToNat, reduceCtorEq])
      | ((with_reducible refine evCall_at 85 ?_); refine EvCall.rd (by first | (simp only [go_sem, ↓reduceIte, Nat.reduceAdd, Nat.reduceSub, Nat.reduceMul, Nat.reduceDiv, Nat.reduceLT, Nat.reduceLeDiff, Nat.reduceEqDiff, Int.reduceToNat, reduceCtorEq]; rfl) | rfl) (sp_l02Same (a:=f.shape) (b:=g.shape) ?_ ?_) cal_l02Same (by simp [go_sem]) (by simp [go_sem]) ?_; all_goals try simp only [go_sem, ↓reduceIte, Nat.reduceAdd, Nat.reduceSub, Nat.reduceMul, Nat.reduceDiv, Nat.reduceLT, Nat.reduceLeDiff, Nat.reduceEqDiff, Int.reduceToNat, reduceCtorEq])
      | (refine fun (hc : (_ : Bool) = _) => ?_; try simp only [decide_eq_true_eq, decide_eq_false_iff_not, Bool.not_eq_true', Bool.not_eq_false', Int.not_lt, Int.not_le, Cats.dec_iff, Cats.dec_not, Bool.and_eq_true, Bool.or_eq_true, Bool.and_eq_false_iff, Bool.or_eq_false_iff, Bool.not_eq_true, Bool.not_eq_false, Decidable.not_not, not_true_eq_false, not_false_eq_true] at hc))
    all_goals try (first | (with_reducible assumption) | ((try simp only [Cat.F, Cat.T, Cat.I, Cat.C, Fun.O, Fun.A, Cat.Entry, Int.toNat_natCast] at *); omega))
    all_goals try ((first | refine ret_auto ?_ | refine ret_auto' ?_); simp only [go_sem, ↓reduceIte, Nat.reduceAdd, Nat.reduceSub, Nat.reduceMul, Nat.reduceDiv, Nat.reduceLT, Nat.reduceLeDiff, Nat.reduceEqDiff, Int.reduceToNat, reduceCtorEq, Try.f53])
    all_goals first | contradiction | exact absurd h61 (by assumption) | exact absurd h62 (by assumption)
  · have h61 := h6.1
    have h62 := h6.2
    repeat' (first
      | with_reducible first | refine V_seq ?_ | refine V_block ?_ | refine V_skip ?_ | refine V_ret ?_ | refine V_exit ?_
      | ((with_reducible refine V_cond ?_); simp only [go_sem, ↓reduceIte, Nat.reduceAdd, Nat.reduceSub, Nat.reduceMul, Nat.reduceDiv, Nat.reduceLT, Nat.reduceLeDiff, Nat.reduceEqDiff, Int.reduceToNat, reduceCtorEq])
      | ((first | refine V_region (by rw [hn]; rfl) ?_ | refine V_drawn hmix (by rw [hn]; rfl) ?_); intro K hK)
      | ((first | with_reducible refine evOps_n ?_ | ((with_reducible apply evOps_g); rfl) | with_reducible refine evOpsD_n ?_ | ((with_reducible apply evOpsD_g); rfl)); intro K hK; simp (contextual := true) only [go_sem, ↓reduceIte, Nat.reduceAdd, Nat.reduceSub, Nat.reduceMul, Nat.reduceDiv, Nat.reduceLT, Nat.reduceLeDiff, Nat.reduceEqDiff, Int.reduceToNat, reduceCtorEq])
      | with_reducible refine evOps_nil ?_
      | ((with_reducible refine evOpsD_nil ?_ ?_); kernel_rfl)
      | ((with_reducible refine hK _ ?_); clear hK K)
      | with_reducible first | refine And.intro ?_ ?_ | refine nxt_n ?_ | refine nxt_r ?_ | refine nxt_e ?_ | refine blk_n ?_ | refine blk_r ?_ | refine blk_same ?_ | refine blk_other (by decide) ?_ | refine noG_n ?_ | refine noG_r ?_ | refine noG_e ?_ | refine inR_mk ?_ ?_
      | ((with_reducible refine evCall_at 84 ?_); refine EvCall.rd (by first | (simp only [go_sem, ↓reduceIte, Nat.reduceAdd, Nat.reduceSub, Nat.reduceMul, Nat.reduceDiv, Nat.reduceLT, Nat.reduceLeDiff, Nat.reduceEqDiff, Int.reduceToNat, reduceCtorEq]; rfl) | rfl) (sp_l19Is (f:=f) ?_) cal_l19Is (by simp [go_sem]) (by simp [go_sem]) ?_; all_goals try simp only [go_sem, ↓reduceIte, Nat.reduceAdd, Nat.reduceSub, Nat.reduceMul, Nat.reduceDiv, Nat.reduceLT, Nat.reduceLeDiff, Nat.reduceEqDiff, Int.reduceToNat, reduceCtorEq])
      | ((with_reducible refine evCall_at 84 ?_); refine EvCall.rd (by first | (simp only [go_sem, ↓reduceIte, Nat.reduceAdd, Nat.reduceSub, Nat.reduceMul, Nat.reduceDiv, Nat.reduceLT, Nat.reduceLeDiff, Nat.reduceEqDiff, Int.reduceToNat, reduceCtorEq]; rfl) | rfl) (sp_l19Is (f:=g) ?_) cal_l19Is (by simp [go_sem]) (by simp [go_sem]) ?_; all_goals try simp only [go_sem, ↓reduceIte, Nat.reduceAdd, Nat.reduceSub, Nat.reduceMul, Nat.reduceDiv, Nat.reduceLT, Nat.reduceLeDiff, Nat.reduceEqDiff, Int.reduceToNat, reduceCtorEq])
      | ((with_reducible refine evCall_at 85 ?_); refine EvCall.rd (by first | (simp only [go_sem, ↓reduceIte, Nat.reduceAdd, Nat.reduceSub, Nat.reduceMul, Nat.reduceDiv, Nat.reduceLT, Nat.reduceLeDiff, Nat.reduceEqDiff, Int.reduceToNat, reduceCtorEq]; rfl) | rfl) (sp_l02Same (a:=f.shape) (b:=g.shape) ?_ ?_) cal_l02Same (by simp [go_sem]) (by simp [go_sem]) ?_; all_goals try simp only [go_sem, ↓reduceIte, Nat.reduceAdd, Nat.reduceSub, Nat.reduceMul, Nat.reduceDiv, Nat.reduceLT, Nat.reduceLeDiff, Nat.reduceEqDiff, Int.reduceToNat, reduceCtorEq])
      | ((with_reducible refine evCall_at 86 ?_); refine EvCall.rd (by first | (simp only [go_sem, ↓reduceIte, Nat.reduceAdd, Nat.reduceSub, Nat.reduceMul, Nat.reduceDiv, Nat.reduceLT, Nat.reduceLeDiff, Nat.reduceEqDiff, Int.reduceToNat, reduceCtorEq]; rfl) | rfl) (sp_l19Count ?_) cal_l19Count (by simp [go_sem]) (by simp [go_sem]) ?_; all_goals try simp only [go_sem, ↓reduceIte, Nat.reduceAdd, Nat.reduceSub, Nat.reduceMul, Nat.reduceDiv, Nat.reduceLT, Nat.reduceLeDiff, Nat.reduceEqDiff, Int.reduceToNat, reduceCtorEq])
      | (refine fun (hc : (_ : Bool) = _) => ?_; try simp only [decide_eq_true_eq, decide_eq_false_iff_not, Bool.not_eq_true', Bool.not_eq_false', Int.not_lt, Int.not_le, Cats.dec_iff, Cats.dec_not, Bool.and_eq_true, Bool.or_eq_true, Bool.and_eq_false_iff, Bool.or_eq_false_iff, Bool.not_eq_true, Bool.not_eq_false, Decidable.not_not, not_true_eq_false, not_false_eq_true] at hc))
    all_goals try (first | (with_reducible assumption) | ((try simp only [Cat.F, Cat.T, Cat.I, Cat.C, Fun.O, Fun.A, Cat.Entry, Int.toNat_natCast] at *); omega))
    all_goals try ((first | refine ret_auto ?_ | refine ret_auto' ?_); simp only [go_sem, ↓reduceIte, Nat.reduceAdd, Nat.reduceSub, Nat.reduceMul, Nat.reduceDiv, Nat.reduceLT, Nat.reduceLeDiff, Nat.reduceEqDiff, Int.reduceToNat, reduceCtorEq, Try.f53])
    all_goals first | contradiction | omega | exact absurd h61 (by assumption) | exact absurd h62 (by assumption)
  · have h61 := h6.1
    have h62 := h6.2
    repeat' (first
      | with_reducible first | refine V_seq ?_ | refine V_block ?_ | refine V_skip ?_ | refine V_ret ?_ | refine V_exit ?_
      | ((with_reducible refine V_cond ?_); simp only [go_sem, ↓reduceIte, Nat.reduceAdd, Nat.reduceSub, Nat.reduceMul, Nat.reduceDiv, Nat.reduceLT, Nat.reduceLeDiff, Nat.reduceEqDiff, Int.reduceToNat, reduceCtorEq])
      | ((first | refine V_region (by rw [hn]; rfl) ?_ | refine V_drawn hmix (by rw [hn]; rfl) ?_); intro K hK)
      | ((first | with_reducible refine evOps_n ?_ | ((with_reducible apply evOps_g); rfl) | with_reducible refine evOpsD_n ?_ | ((with_reducible apply evOpsD_g); rfl)); intro K hK; simp (contextual := true) only [go_sem, ↓reduceIte, Nat.reduceAdd, Nat.reduceSub, Nat.reduceMul, Nat.reduceDiv, Nat.reduceLT, Nat.reduceLeDiff, Nat.reduceEqDiff, Int.reduceToNat, reduceCtorEq])
      | with_reducible refine evOps_nil ?_
      | ((with_reducible refine evOpsD_nil ?_ ?_); kernel_rfl)
      | ((with_reducible refine hK _ ?_); clear hK K)
      | with_reducible first | refine And.intro ?_ ?_ | refine nxt_n ?_ | refine nxt_r ?_ | refine nxt_e ?_ | refine blk_n ?_ | refine blk_r ?_ | refine blk_same ?_ | refine blk_other (by decide) ?_ | refine noG_n ?_ | refine noG_r ?_ | refine noG_e ?_ | refine inR_mk ?_ ?_
      | ((with_reducible refine evCall_at 84 ?_); refine EvCall.rd (by first | (simp only [go_sem, ↓reduceIte, Nat.reduceAdd, Nat.reduceSub, Nat.reduceMul, Nat.reduceDiv, Nat.reduceLT, Nat.reduceLeDiff, Nat.reduceEqDiff, Int.reduceToNat, reduceCtorEq]; rfl) | rfl) (sp_l19Is (f:=f) ?_) cal_l19Is (by simp [go_sem]) (by simp [go_sem]) ?_; all_goals try simp only [go_sem, ↓reduceIte, Nat.reduceAdd, Nat.reduceSub, Nat.reduceMul, Nat.reduceDiv, Nat.reduceLT, Nat.reduceLeDiff, Nat.reduceEqDiff, Int.reduceToNat, reduceCtorEq])
      | ((with_reducible refine evCall_at 84 ?_); refine EvCall.rd (by first | (simp only [go_sem, ↓reduceIte, Nat.reduceAdd, Nat.reduceSub, Nat.reduceMul, Nat.reduceDiv, Nat.reduceLT, Nat.reduceLeDiff, Nat.reduceEqDiff, Int.reduceToNat, reduceCtorEq]; rfl) | rfl) (sp_l19Is (f:=g) ?_) cal_l19Is (by simp [go_sem]) (by simp [go_sem]) ?_; all_goals try simp only [go_sem, ↓reduceIte, Nat.reduceAdd, Nat.reduceSub, Nat.reduceMul, Nat.reduceDiv, Nat.reduceLT, Nat.reduceLeDiff, Nat.reduceEqDiff, Int.reduceToNat, reduceCtorEq])
      | ((with_reducible refine evCall_at 85 ?_); refine EvCall.rd (by first | (simp only [go_sem, ↓reduceIte, Nat.reduceAdd, Nat.reduceSub, Nat.reduceMul, Nat.reduceDiv, Nat.reduceLT, Nat.reduceLeDiff, Nat.reduceEqDiff, Int.reduceToNat, reduceCtorEq]; rfl) | rfl) (sp_l02Same (a:=f.shape) (b:=g.shape) ?_ ?_) cal_l02Same (by simp [go_sem]) (by simp [go_sem]) ?_; all_goals try simp only [go_sem, ↓reduceIte, Nat.reduceAdd, Nat.reduceSub, Nat.reduceMul, Nat.reduceDiv, Nat.reduceLT, Nat.reduceLeDiff, Nat.reduceEqDiff, Int.reduceToNat, reduceCtorEq])
      | ((with_reducible refine evCall_at 86 ?_); refine EvCall.rd (by first | (simp only [go_sem, ↓reduceIte, Nat.reduceAdd, Nat.reduceSub, Nat.reduceMul, Nat.reduceDiv, Nat.reduceLT, Nat.reduceLeDiff, Nat.reduceEqDiff, Int.reduceToNat, reduceCtorEq]; rfl) | rfl) (sp_l19Count ?_) cal_l19Count (by simp [go_sem]) (by simp [go_sem]) ?_; all_goals try simp only [go_sem, ↓reduceIte, Nat.reduceAdd, Nat.reduceSub, Nat.reduceMul, Nat.reduceDiv, Nat.reduceLT, Nat.reduceLeDiff, Nat.reduceEqDiff, Int.reduceToNat, reduceCtorEq])
      | (refine fun (hc : (_ : Bool) = _) => ?_; try simp only [decide_eq_true_eq, decide_eq_false_iff_not, Bool.not_eq_true', Bool.not_eq_false', Int.not_lt, Int.not_le, Cats.dec_iff, Cats.dec_not, Bool.and_eq_true, Bool.or_eq_true, Bool.and_eq_false_iff, Bool.or_eq_false_iff, Bool.not_eq_true, Bool.not_eq_false, Decidable.not_not, not_true_eq_false, not_false_eq_true] at hc))
    all_goals try (first | (with_reducible assumption) | ((try simp only [Cat.F, Cat.T, Cat.I, Cat.C, Fun.O, Fun.A, Cat.Entry, Int.toNat_natCast] at *); omega))
    all_goals try ((first | refine ret_auto ?_ | refine ret_auto' ?_); simp only [go_sem, ↓reduceIte, Nat.reduceAdd, Nat.reduceSub, Nat.reduceMul, Nat.reduceDiv, Nat.reduceLT, Nat.reduceLeDiff, Nat.reduceEqDiff, Int.reduceToNat, reduceCtorEq, Try.f53])
    all_goals first | contradiction | omega | exact absurd h61 (by assumption) | exact absurd h62 (by assumption)

theorem openP_zero : openP [] = [] := rfl
attribute [go_sem] openP_zero
theorem cal_l19Open : Callable Try.prog 88 := ⟨_, Try.func88, rfl, rfl⟩
theorem sp_l19Open {f : SF} (h : IsSF f) : Spec Try.prog 88 [sfV f] [] (.sl 0) [(0, ⟨1, .arr (intss (openP f.sizes))⟩)] := by
  refine spec_of_V (E := TE) 0 Try.func88 rfl (by simp [Try.f88]) fun X hn hX => ?_
  have h1 := h.szl
  have h2 := h.cat.ob8
  repeat' (first
    | with_reducible first | refine V_seq ?_ | refine V_block ?_ | refine V_skip ?_ | refine V_ret ?_ | refine V_exit ?_
    | ((with_reducible refine V_cond ?_); simp only [go_sem, ↓reduceIte, Nat.reduceAdd, Nat.reduceSub, Nat.reduceMul, Nat.reduceDiv, Nat.reduceLT, Nat.reduceLeDiff, Nat.reduceEqDiff, Int.reduceToNat, reduceCtorEq])
    | ((first | refine V_region (by rw [hn]; rfl) ?_ | refine V_drawn hmix (by rw [hn]; rfl) ?_); intro K hK)
    | ((first | with_reducible refine evOps_n ?_ | ((with_reducible apply evOps_g); rfl) | with_reducible refine evOpsD_n ?_ | ((with_reducible apply evOpsD_g); rfl)); intro K hK; simp (contextual := true) only [go_sem, ↓reduceIte, Nat.reduceAdd, Nat.reduceSub, Nat.reduceMul, Nat.reduceDiv, Nat.reduceLT, Nat.reduceLeDiff, Nat.reduceEqDiff, Int.reduceToNat, reduceCtorEq])
    | with_reducible refine evOps_nil ?_
    | ((with_reducible refine evOpsD_nil ?_ ?_); kernel_rfl)
    | ((with_reducible refine hK _ ?_); clear hK K)
    | with_reducible first | refine And.intro ?_ ?_ | refine nxt_n ?_ | refine nxt_r ?_ | refine nxt_e ?_ | refine blk_n ?_ | refine blk_r ?_ | refine blk_same ?_ | refine blk_other (by decide) ?_ | refine noG_n ?_ | refine noG_r ?_ | refine noG_e ?_ | refine inR_mk ?_ ?_
    | (refine fun (hc : (_ : Bool) = _) => ?_; try simp only [decide_eq_true_eq, decide_eq_false_iff_not, Bool.not_eq_true', Bool.not_eq_false', Int.not_lt, Int.not_le, Cats.dec_iff, Cats.dec_not, Bool.and_eq_true, Bool.or_eq_true, Bool.and_eq_false_iff, Bool.or_eq_false_iff, Bool.not_eq_true, Bool.not_eq_false, Decidable.not_not, not_true_eq_false, not_false_eq_true] at hc))
  all_goals try (first | (with_reducible assumption) | ((try simp only [Cat.F, Cat.T, Cat.I, Cat.C, Fun.O, Fun.A, Cat.Entry, Int.toNat_natCast] at *); omega))
  refine V_loopK (G := {x : Nat // x ≤ f.sizes.length ∧ (True)}) (fun ⟨x, _⟩ => [(4, iv x), (3, .sl 1)]) [1, 2] (fun ⟨x, _⟩ => [(1, ⟨1, .arr (intss (openP (f.sizes.take x)))⟩)]) [1] (fun g => f.sizes.length - g.1) ⟨0, Nat.zero_le _, by first | trivial | simp⟩ ?_ ?_
  · exact Imp.auto hX (by simp [go_sem, ↓reduceIte, Nat.reduceAdd, Nat.reduceSub, Nat.reduceMul, Nat.reduceDiv, Nat.reduceLT, Nat.reduceLeDiff, Nat.reduceEqDiff, Int.reduceToNat, reduceCtorEq])
  rintro ⟨x, hix, hwx⟩
  simp only [go_sem, ↓reduceIte, Nat.reduceAdd, Nat.reduceSub, Nat.reduceMul, Nat.reduceDiv, Nat.reduceLT, Nat.reduceLeDiff, Nat.reduceEqDiff, Int.reduceToNat, reduceCtorEq]
  have h3 := h.szw x
  have h4 := openP_len (f.sizes.take x)
  repeat' (first
    | with_reducible first | refine V_seq ?_ | refine V_block ?_ | refine V_skip ?_ | refine V_ret ?_ | refine V_exit ?_
    | ((with_reducible refine V_cond ?_); simp only [go_sem, ↓reduceIte, Nat.reduceAdd, Nat.reduceSub, Nat.reduceMul, Nat.reduceDiv, Nat.reduceLT, Nat.reduceLeDiff, Nat.reduceEqDiff, Int.reduceToNat, reduceCtorEq])
    | ((first | refine V_region (by rw [hn]; rfl) ?_ | refine V_drawn hmix (by rw [hn]; rfl) ?_); intro K hK)
    | ((first | with_reducible refine evOps_n ?_ | ((with_reducible apply evOps_g); rfl) | with_reducible refine evOpsD_n ?_ | ((with_reducible apply evOpsD_g); rfl)); intro K hK; simp (contextual := true) only [go_sem, ↓reduceIte, Nat.reduceAdd, Nat.reduceSub, Nat.reduceMul, Nat.reduceDiv, Nat.reduceLT, Nat.reduceLeDiff, Nat.reduceEqDiff, Int.reduceToNat, reduceCtorEq])
    | with_reducible refine evOps_nil ?_
    | ((with_reducible refine evOpsD_nil ?_ ?_); kernel_rfl)
    | ((with_reducible refine hK _ ?_); clear hK K)
    | with_reducible first | refine And.intro ?_ ?_ | refine nxt_n ?_ | refine nxt_r ?_ | refine nxt_e ?_ | refine blk_n ?_ | refine blk_r ?_ | refine blk_same ?_ | refine blk_other (by decide) ?_ | refine noG_n ?_ | refine noG_r ?_ | refine noG_e ?_ | refine inR_mk ?_ ?_
    | (refine fun (hc : (_ : Bool) = _) => ?_; try simp only [decide_eq_true_eq, decide_eq_false_iff_not, Bool.not_eq_true', Bool.not_eq_false', Int.not_lt, Int.not_le, Cats.dec_iff, Cats.dec_not, Bool.and_eq_true, Bool.or_eq_true, Bool.and_eq_false_iff, Bool.or_eq_false_iff, Bool.not_eq_true, Bool.not_eq_false, Decidable.not_not, not_true_eq_false, not_false_eq_true] at hc))
  all_goals try (first | (with_reducible assumption) | ((try simp only [Cat.F, Cat.T, Cat.I, Cat.C, Fun.O, Fun.A, Cat.Entry, Int.toNat_natCast] at *); omega))
  · refine V_loopK (G := {e : Nat // e ≤ (f.sizes.getD x 0).toNat ∧ (True)}) (fun ⟨e, _⟩ => [(6, iv e), (3, .sl 1), (5, .sl 2)]) [1, 2, 4] (fun ⟨e, _⟩ => [(1, ⟨1, .arr (intss (openP (f.sizes.take x)))⟩), (2, ⟨1, .arr (ints (List.replicate e (-1)))⟩)]) [1, 2] (fun g => (f.sizes.getD x 0).toNat - g.1) ⟨0, Nat.zero_le _, by first | trivial | simp⟩ ?_ ?_
    · exact Imp.auto hX (by simp [go_sem, ↓reduceIte, Nat.reduceAdd, Nat.reduceSub, Nat.reduceMul, Nat.reduceDiv, Nat.reduceLT, Nat.reduceLeDiff, Nat.reduceEqDiff, Int.reduceToNat, reduceCtorEq])
    rintro ⟨e, hie, hwe⟩
    simp only [go_sem, ↓reduceIte, Nat.reduceAdd, Nat.reduceSub, Nat.reduceMul, Nat.reduceDiv, Nat.reduceLT, Nat.reduceLeDiff, Nat.reduceEqDiff, Int.reduceToNat, reduceCtorEq]
    have h5 := List.length_take_le x f.sizes
    repeat' (first
      | with_reducible first | refine V_seq ?_ | refine V_block ?_ | refine V_skip ?_ | refine V_ret ?_ | refine V_exit ?_
      | ((with_reducible refine V_cond ?_); simp only [go_sem, ↓reduceIte, Nat.reduceAdd, Nat.reduceSub, Nat.reduceMul, Nat.reduceDiv, Nat.reduceLT, Nat.reduceLeDiff, Nat.reduceEqDiff, Int.reduceToNat, reduceCtorEq])
      | ((first | refine V_region (by rw [hn]; rfl) ?_ | refine V_drawn hmix (by rw [hn]; rfl) ?_); intro K hK)
      | ((first | with_reducible refine evOps_n ?_ | ((with_reducible apply evOps_g); rfl) | with_reducible refine evOpsD_n ?_ | ((with_reducible apply evOpsD_g); rfl)); intro K hK; simp (contextual := true) only [go_sem, ↓reduceIte, Nat.reduceAdd, Nat.reduceSub, Nat.reduceMul, Nat.reduceDiv, Nat.reduceLT, Nat.reduceLeDiff, Nat.reduceEqDiff, Int.reduceToNat, reduceCtorEq])
      | with_reducible refine evOps_nil ?_
      | ((with_reducible refine evOpsD_nil ?_ ?_); kernel_rfl)
      | ((with_reducible refine hK _ ?_); clear hK K)
      | with_reducible first | refine And.intro ?_ ?_ | refine nxt_n ?_ | refine nxt_r ?_ | refine nxt_e ?_ | refine blk_n ?_ | refine blk_r ?_ | refine blk_same ?_ | refine blk_other (by decide) ?_ | refine noG_n ?_ | refine noG_r ?_ | refine noG_e ?_ | refine inR_mk ?_ ?_
      | (refine fun (hc : (_ : Bool) = _) => ?_; try simp only [decide_eq_true_eq, decide_eq_false_iff_not, Bool.not_eq_true', Bool.not_eq_false', Int.not_lt, Int.not_le, Cats.dec_iff, Cats.dec_not, Bool.and_eq_true, Bool.or_eq_true, Bool.and_eq_false_iff, Bool.or_eq_false_iff, Bool.not_eq_true, Bool.not_eq_false, Decidable.not_not, not_true_eq_false, not_false_eq_true] at hc))
    all_goals try (first | (with_reducible assumption) | ((try simp only [Cat.F, Cat.T, Cat.I, Cat.C, Fun.O, Fun.A, Cat.Entry, Int.toNat_natCast] at *); omega))
    · refine ⟨⟨e + 1, by omega, (by trivial)⟩, by simp only; omega, Imp.auto hX (by simp only [go_sem, ↓reduceIte, Nat.reduceAdd, Nat.reduceSub, Nat.reduceMul, Nat.reduceDiv, Nat.reduceLT, Nat.reduceLeDiff, Nat.reduceEqDiff, Int.reduceToNat, reduceCtorEq, rep_snoc])⟩
    · refine ⟨⟨x + 1, by omega, (by trivial)⟩, by simp only; omega, Imp.auto hX (by simp only [go_sem, ↓reduceIte, Nat.reduceAdd, Nat.reduceSub, Nat.reduceMul, Nat.reduceDiv, Nat.reduceLT, Nat.reduceLeDiff, Nat.reduceEqDiff, Int.reduceToNat, reduceCtorEq, openP_succ (show x < f.sizes.length by omega), show e = (f.sizes.getD x 0).toNat by omega])⟩
  · (first | refine ret_auto ?_ | refine ret_auto' ?_); simp only [go_sem, ↓reduceIte, Nat.reduceAdd, Nat.reduceSub, Nat.reduceMul, Nat.reduceDiv, Nat.reduceLT, Nat.reduceLeDiff, Nat.reduceEqDiff, Int.reduceToNat, reduceCtorEq, Try.f88]
    rw [List.take_of_length_le (by omega)]
end Go.Eng
