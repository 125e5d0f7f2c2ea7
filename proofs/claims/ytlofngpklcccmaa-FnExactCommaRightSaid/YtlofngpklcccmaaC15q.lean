/- The comma category of two functors, by the program: the code, the answer. -/
import Derived.Test.YtlofngpklcccmaaC13q
import Derived.Test.YtlofngpklcccmaaC14q
set_option linter.unusedSimpArgs false
set_option linter.unusedVariables false
set_option maxRecDepth 100000
set_option maxHeartbeats 16000000
namespace Go.Eng
open Go Go.Proofs Go.Cats
attribute [local go_sem] one_nil_c8 one_ptr_c8

theorem cal_commaCode : Callable Try.prog 55 := ⟨_, Try.func55, rfl, rfl⟩
theorem sp_commaCode_yes {f e : Fun} (hf : FunB f) (he : FunB e) (hy : CYes f e) : Spec Try.prog 55 [.bptr [] (funD f), .bptr [] (funD e)] [] (.tup [.ptr 0 0, iv 0]) [(0, ⟨1, .box [.bptr [(1, 1)] (funD f), .bptr [(1, 1)] (funD e), .sl 1, .sl 2]⟩), (1, ⟨1, .arr (intss (cObj f e))⟩), (2, ⟨1, .arr (intss (cmA f e))⟩)] := by
  refine spec_of_V (E := TE) 0 Try.func55 rfl (by simp [Try.f55]) fun X hn hX => ?_
  have f1 := hf.tgt
  have e1 := he.tgt
  have h6 : IsFun f ∧ IsFun e := ⟨hy.src, hy.tgt⟩
  have T := sp_commaOf_ok hy.src hy.tgt hy.one hy.obs hy.ars
  repeat' (first
    | with_reducible first | refine V_seq ?_ | refine V_block ?_ | refine V_skip ?_ | refine V_ret ?_ | refine V_exit ?_
    | ((with_reducible refine V_cond ?_); simp only [go_sem, ↓reduceIte, Nat.reduceAdd, Nat.reduceSub, Nat.reduceMul, Nat.reduceDiv, Nat.reduceLT, Nat.reduceLeDiff, Nat.reduceEqDiff, Int.reduceToNat, reduceCtorEq])
    | ((first | refine V_region (by rw [hn]; rfl) ?_ | refine V_drawn hmix (by rw [hn]; rfl) ?_); intro K hK)
    | ((first | with_reducible refine evOps_n ?_ | ((with_reducible apply evOps_g); rfl) | with_reducible refine evOpsD_n ?_ | ((with_reducible apply evOpsD_g); rfl)); intro K hK; simp (contextual := true) only [go_sem, ↓reduceIte, Nat.reduceAdd, Nat.reduceSub, Nat.reduceMul, Nat.reduceDiv, Nat.reduceLT, Nat.reduceLeDiff, Nat.reduceEqDiff, Int.reduceToNat, reduceCtorEq])
    | with_reducible refine evOps_nil ?_
    | ((with_reducible refine evOpsD_nil ?_ ?_); kernel_rfl)
    | ((with_reducible refine hK _ ?_); clear hK K)
    | with_reducible first | refine And.intro ?_ ?_ | refine nxt_n ?_ | refine nxt_r ?_ | refine nxt_e ?_ | refine blk_n ?_ | refine blk_r ?_ | refine blk_same ?_ | refine blk_other (by decide) ?_ | refine noG_n ?_ | refine noG_r ?_ | refine noG_e ?_ | refine inR_mk ?_ ?_
    | ((with_reducible refine evCall_at 89 ?_); refine EvCall.rd (by first | (simp only [go_sem, ↓reduceIte, Nat.reduceAdd, Nat.reduceSub, Nat.reduceMul, Nat.reduceDiv, Nat.reduceLT, Nat.reduceLeDiff, Nat.reduceEqDiff, Int.reduceToNat, reduceCtorEq]; rfl) | rfl) (sp_areFunctors_two (by first | omega | assumption | rfl | exact (by assumption : SMB _).src | exact (by assumption : SMB _).tgt) (by first | omega | assumption | rfl | exact (by assumption : SMB _).src | exact (by assumption : SMB _).tgt)) cal_areFunctors (by simp [go_sem]) (by simp [go_sem]) ?_; all_goals try simp only [go_sem, ↓reduceIte, Nat.reduceAdd, Nat.reduceSub, Nat.reduceMul, Nat.reduceDiv, Nat.reduceLT, Nat.reduceLeDiff, Nat.reduceEqDiff, Int.reduceToNat, reduceCtorEq])
    | ((with_reducible refine evCall_at 90 ?_); refine EvCall.rd (by first | (simp only [go_sem, ↓reduceIte, Nat.reduceAdd, Nat.reduceSub, Nat.reduceMul, Nat.reduceDiv, Nat.reduceLT, Nat.reduceLeDiff, Nat.reduceEqDiff, Int.reduceToNat, reduceCtorEq]; rfl) | rfl) (sp_sameCategory (c:=f.tgt) (d:=e.tgt) ?_ ?_) cal_sameCategory (by simp [go_sem]) (by simp [go_sem]) ?_; all_goals try simp only [go_sem, ↓reduceIte, Nat.reduceAdd, Nat.reduceSub, Nat.reduceMul, Nat.reduceDiv, Nat.reduceLT, Nat.reduceLeDiff, Nat.reduceEqDiff, Int.reduceToNat, reduceCtorEq])
    | ((with_reducible refine evCall_at 91 ?_); refine EvCall.mk (T) cal_commaOf [(0,1),(1,2),(2,3)] [] (by simp [go_sem] <;> first | rfl | exact ⟨rfl, rfl⟩ | exact ⟨rfl, rfl, rfl⟩) (by simp [go_sem] <;> first | rfl | exact ⟨rfl, rfl⟩ | exact ⟨rfl, rfl, rfl⟩) ?_; all_goals try simp only [go_sem, ↓reduceIte, Nat.reduceAdd, Nat.reduceSub, Nat.reduceMul, Nat.reduceDiv, Nat.reduceLT, Nat.reduceLeDiff, Nat.reduceEqDiff, Int.reduceToNat, reduceCtorEq])
    | (refine fun (hc : (_ : Bool) = _) => ?_; try simp only [decide_eq_true_eq, decide_eq_false_iff_not, Bool.not_eq_true', Bool.not_eq_false', Int.not_lt, Int.not_le, Cats.dec_iff, Cats.dec_not, Bool.and_eq_true, Bool.or_eq_true, Bool.and_eq_false_iff, Bool.or_eq_false_iff, Bool.not_eq_true, Bool.not_eq_false, Decidable.not_not, not_true_eq_false, not_false_eq_true] at hc))
  all_goals try (first | (with_reducible assumption) | ((try simp only [Cat.F, Cat.T, Cat.I, Cat.C, Fun.O, Fun.A, Cat.Entry, Int.toNat_natCast] at *); omega))
  · exact absurd h6 hc
  · exact absurd hy.one hc
  · (first | refine ret_auto ?_ | refine ret_auto' ?_); simp only [go_sem, ↓reduceIte, Nat.reduceAdd, Nat.reduceSub, Nat.reduceMul, Nat.reduceDiv, Nat.reduceLT, Nat.reduceLeDiff, Nat.reduceEqDiff, Int.reduceToNat, reduceCtorEq, Try.f55]
    rfl
theorem sp_commaCode_no {f e : Fun} {c : Int} (hf : FunB f) (he : FunB e) (h : CNo f e c) : Spec Try.prog 55 [.bptr [] (funD f), .bptr [] (funD e)] [] (.tup [.v (.pointer none), iv c]) [] := by
  refine spec_of_V (E := TE) 0 Try.func55 rfl (by simp [Try.f55]) fun X hn hX => ?_
  have f1 := hf.tgt
  have e1 := he.tgt
  rcases h with ⟨h6, rfl⟩ | ⟨h6, h7, rfl⟩ | ⟨h6, h7, h8, rfl⟩
  · repeat' (first
      | with_reducible first | refine V_seq ?_ | refine V_block ?_ | refine V_skip ?_ | refine V_ret ?_ | refine V_exit ?_
      | ((with_reducible refine V_cond ?_); simp only [go_sem, ↓reduceIte, Nat.reduceAdd, Nat.reduceSub, Nat.reduceMul, Nat.reduceDiv, Nat.reduceLT, Nat.reduceLeDiff, Nat.reduceEqDiff, Int.reduceToNat, reduceCtorEq])
      | ((first | refine V_region (by rw [hn]; rfl) ?_ | refine V_drawn hmix (by rw [hn]; rfl) ?_); intro K hK)
      | ((first | with_reducible refine evOps_n ?_ | ((with_reducible apply evOps_g); rfl) | with_reducible refine evOpsD_n ?_ | ((with_reducible apply evOpsD_g); rfl)); intro K hK; simp (contextual := true) only [go_sem, ↓reduceIte, Nat.reduceAdd, Nat.reduceSub, Nat.reduceMul, Nat.reduceDiv, Nat.reduceLT, Nat.reduceLeDiff, Nat.reduceEqDiff, Int.reduceToNat, reduceCtorEq])
      | with_reducible refine evOps_nil ?_
      | ((with_reducible refine evOpsD_nil ?_ ?_); kernel_rfl)
      | ((with_reducible refine hK _ ?_); clear hK K)
      | with_reducible first | refine And.intro ?_ ?_ | refine nxt_n ?_ | refine nxt_r ?_ | refine nxt_e ?_ | refine blk_n ?_ | refine blk_r ?_ | refine blk_same ?_ | refine blk_other (by decide) ?_ | refine noG_n ?_ | refine noG_r ?_ | refine noG_e ?_ | refine inR_mk ?_ ?_
      | ((with_reducible refine evCall_at 89 ?_); refine EvCall.rd (by first | (simp only [go_sem, ↓reduceIte, Nat.reduceAdd, Nat.reduceSub, Nat.reduceMul, Nat.reduceDiv, Nat.reduceLT, Nat.reduceLeDiff, Nat.reduceEqDiff, Int.reduceToNat, reduceCtorEq]; rfl) | rfl) (sp_areFunctors_two (by first | omega | assumption | rfl | exact (by assumption : SMB _).src | exact (by assumption : SMB _).tgt) (by first | omega | assumption | rfl | exact (by assumption : SMB _).src | exact (by assumption : SMB _).tgt)) cal_areFunctors (by simp [go_sem]) (by simp [go_sem]) ?_; all_goals try simp only [go_sem, ↓reduceIte, Nat.reduceAdd, Nat.reduceSub, Nat.reduceMul, Nat.reduceDiv, Nat.reduceLT, Nat.reduceLeDiff, Nat.reduceEqDiff, Int.reduceToNat, reduceCtorEq])
      | (refine fun (hc : (_ : Bool) = _) => ?_; try simp only [decide_eq_true_eq, decide_eq_false_iff_not, Bool.not_eq_true', Bool.not_eq_false', Int.not_lt, Int.not_le, Cats.dec_iff, Cats.dec_not, Bool.and_eq_true, Bool.or_eq_true, Bool.and_eq_false_iff, Bool.or_eq_false_iff, Bool.not_eq_true, Bool.not_eq_false, Decidable.not_not, not_true_eq_false, not_false_eq_true] at hc))
    all_goals try (first | (with_reducible assumption) | ((try simp only [Cat.F, Cat.T, Cat.I, Cat.C, Fun.O, Fun.A, Cat.Entry, Int.toNat_natCast] at *); omega))
    · (first | refine ret_auto ?_ | refine ret_auto' ?_); simp only [go_sem, ↓reduceIte, Nat.reduceAdd, Nat.reduceSub, Nat.reduceMul, Nat.reduceDiv, Nat.reduceLT, Nat.reduceLeDiff, Nat.reduceEqDiff, Int.reduceToNat, reduceCtorEq, Try.f55]
    all_goals exact absurd (by assumption) h6
  · repeat' (first
      | with_reducible first | refine V_seq ?_ | refine V_block ?_ | refine V_skip ?_ | refine V_ret ?_ | refine V_exit ?_
      | ((with_reducible refine V_cond ?_); simp only [go_sem, ↓reduceIte, Nat.reduceAdd, Nat.reduceSub, Nat.reduceMul, Nat.reduceDiv, Nat.reduceLT, Nat.reduceLeDiff, Nat.reduceEqDiff, Int.reduceToNat, reduceCtorEq])
      | ((first | refine V_region (by rw [hn]; rfl) ?_ | refine V_drawn hmix (by rw [hn]; rfl) ?_); intro K hK)
      | ((first | with_reducible refine evOps_n ?_ | ((with_reducible apply evOps_g); rfl) | with_reducible refine evOpsD_n ?_ | ((with_reducible apply evOpsD_g); rfl)); intro K hK; simp (contextual := true) only [go_sem, ↓reduceIte, Nat.reduceAdd, Nat.reduceSub, Nat.reduceMul, Nat.reduceDiv, Nat.reduceLT, Nat.reduceLeDiff, Nat.reduceEqDiff, Int.reduceToNat, reduceCtorEq])
      | with_reducible refine evOps_nil ?_
      | ((with_reducible refine evOpsD_nil ?_ ?_); kernel_rfl)
      | ((with_reducible refine hK _ ?_); clear hK K)
      | with_reducible first | refine And.intro ?_ ?_ | refine nxt_n ?_ | refine nxt_r ?_ | refine nxt_e ?_ | refine blk_n ?_ | refine blk_r ?_ | refine blk_same ?_ | refine blk_other (by decide) ?_ | refine noG_n ?_ | refine noG_r ?_ | refine noG_e ?_ | refine inR_mk ?_ ?_
      | ((with_reducible refine evCall_at 89 ?_); refine EvCall.rd (by first | (simp only [go_sem, ↓reduceIte, Nat.reduceAdd, Nat.reduceSub, Nat.reduceMul, Nat.reduceDiv, Nat.reduceLT, Nat.reduceLeDiff, Nat.reduceEqDiff, Int.reduceToNat, reduceCtorEq]; rfl) | rfl) (sp_areFunctors_two (by first | omega | assumption | rfl | exact (by assumption : SMB _).src | exact (by assumption : SMB _).tgt) (by first | omega | assumption | rfl | exact (by assumption : SMB _).src | exact (by assumption : SMB _).tgt)) cal_areFunctors (by simp [go_sem]) (by simp [go_sem]) ?_; all_goals try simp only [go_sem, ↓reduceIte, Nat.reduceAdd, Nat.reduceSub, Nat.reduceMul, Nat.reduceDiv, Nat.reduceLT, Nat.reduceLeDiff, Nat.reduceEqDiff, Int.reduceToNat, reduceCtorEq])
      | ((with_reducible refine evCall_at 90 ?_); refine EvCall.rd (by first | (simp only [go_sem, ↓reduceIte, Nat.reduceAdd, Nat.reduceSub, Nat.reduceMul, Nat.reduceDiv, Nat.reduceLT, Nat.reduceLeDiff, Nat.reduceEqDiff, Int.reduceToNat, reduceCtorEq]; rfl) | rfl) (sp_sameCategory (c:=f.tgt) (d:=e.tgt) ?_ ?_) cal_sameCategory (by simp [go_sem]) (by simp [go_sem]) ?_; all_goals try simp only [go_sem, ↓reduceIte, Nat.reduceAdd, Nat.reduceSub, Nat.reduceMul, Nat.reduceDiv, Nat.reduceLT, Nat.reduceLeDiff, Nat.reduceEqDiff, Int.reduceToNat, reduceCtorEq])
      | (refine fun (hc : (_ : Bool) = _) => ?_; try simp only [decide_eq_true_eq, decide_eq_false_iff_not, Bool.not_eq_true', Bool.not_eq_false', Int.not_lt, Int.not_le, Cats.dec_iff, Cats.dec_not, Bool.and_eq_true, Bool.or_eq_true, Bool.and_eq_false_iff, Bool.or_eq_false_iff, Bool.not_eq_true, Bool.not_eq_false, Decidable.not_not, not_true_eq_false, not_false_eq_true] at hc))
    all_goals try (first | (with_reducible assumption) | ((try simp only [Cat.F, Cat.T, Cat.I, Cat.C, Fun.O, Fun.A, Cat.Entry, Int.toNat_natCast] at *); omega))
    · exact absurd h6 hc
    · (first | refine ret_auto ?_ | refine ret_auto' ?_); simp only [go_sem, ↓reduceIte, Nat.reduceAdd, Nat.reduceSub, Nat.reduceMul, Nat.reduceDiv, Nat.reduceLT, Nat.reduceLeDiff, Nat.reduceEqDiff, Int.reduceToNat, reduceCtorEq, Try.f55]
    · exact absurd hc h7
  · have T : Spec Try.prog 91 [.bptr [] (funD f), .bptr [] (funD e)] [] (.tup [.v (.pointer none), .v (.bool false)]) [] := by
      rcases h8 with h8 | ⟨h8, h9⟩
      · exact sp_commaOf_big h6.1 h6.2 h7 h8
      · exact sp_commaOf_many h6.1 h6.2 h7 h8 h9
    repeat' (first
      | with_reducible first | refine V_seq ?_ | refine V_block ?_ | refine V_skip ?_ | refine V_ret ?_ | refine V_exit ?_
      | ((with_reducible refine V_cond ?_); simp only [go_sem, ↓reduceIte, Nat.reduceAdd, Nat.reduceSub, Nat.reduceMul, Nat.reduceDiv, Nat.reduceLT, Nat.reduceLeDiff, Nat.reduceEqDiff, Int.reduceToNat, reduceCtorEq])
      | ((first | refine V_region (by rw [hn]; rfl) ?_ | refine V_drawn hmix (by rw [hn]; rfl) ?_); intro K hK)
      | ((first | with_reducible refine evOps_n ?_ | ((with_reducible apply evOps_g); rfl) | with_reducible refine evOpsD_n ?_ | ((with_reducible apply evOpsD_g); rfl)); intro K hK; simp (contextual := true) only [go_sem, ↓reduceIte, Nat.reduceAdd, Nat.reduceSub, Nat.reduceMul, Nat.reduceDiv, Nat.reduceLT, Nat.reduceLeDiff, Nat.reduceEqDiff, Int.reduceToNat, reduceCtorEq])
      | with_reducible refine evOps_nil ?_
      | ((with_reducible refine evOpsD_nil ?_ ?_); kernel_rfl)
      | ((with_reducible refine hK _ ?_); clear hK K)
      | with_reducible first | refine And.intro ?_ ?_ | refine nxt_n ?_ | refine nxt_r ?_ | refine nxt_e ?_ | refine blk_n ?_ | refine blk_r ?_ | refine blk_same ?_ | refine blk_other (by decide) ?_ | refine noG_n ?_ | refine noG_r ?_ | refine noG_e ?_ | refine inR_mk ?_ ?_
      | ((with_reducible refine evCall_at 89 ?_); refine EvCall.rd (by first | (simp only [go_sem, ↓reduceIte, Nat.reduceAdd, Nat.reduceSub, Nat.reduceMul, Nat.reduceDiv, Nat.reduceLT, Nat.reduceLeDiff, Nat.reduceEqDiff, Int.reduceToNat, reduceCtorEq]; rfl) | rfl) (sp_areFunctors_two (by first | omega | assumption | rfl | exact (by assumption : SMB _).src | exact (by assumption : SMB _).tgt) (by first | omega | assumption | rfl | exact (by assumption : SMB _).src | exact (by assumption : SMB _).tgt)) cal_areFunctors (by simp [go_sem]) (by simp [go_sem]) ?_; all_goals try simp only [go_sem, ↓reduceIte, Nat.reduceAdd, Nat.reduceSub, Nat.reduceMul, Nat.reduceDiv, Nat.reduceLT, Nat.reduceLeDiff, Nat.reduceEqDiff, Int.reduceToNat, reduceCtorEq])
      | ((with_reducible refine evCall_at 90 ?_); refine EvCall.rd (by first | (simp only [go_sem, ↓reduceIte, Nat.reduceAdd, Nat.reduceSub, Nat.reduceMul, Nat.reduceDiv, Nat.reduceLT, Nat.reduceLeDiff, Nat.reduceEqDiff, Int.reduceToNat, reduceCtorEq]; rfl) | rfl) (sp_sameCategory (c:=f.tgt) (d:=e.tgt) ?_ ?_) cal_sameCategory (by simp [go_sem]) (by simp [go_sem]) ?_; all_goals try simp only [go_sem, ↓reduceIte, Nat.reduceAdd, Nat.reduceSub, Nat.reduceMul, Nat.reduceDiv, Nat.reduceLT, Nat.reduceLeDiff, Nat.reduceEqDiff, Int.reduceToNat, reduceCtorEq])
      | ((with_reducible refine evCall_at 91 ?_); refine EvCall.mk (T) cal_commaOf [] [] (by simp [go_sem] <;> first | rfl | exact ⟨rfl, rfl⟩ | exact ⟨rfl, rfl, rfl⟩) (by simp [go_sem] <;> first | rfl | exact ⟨rfl, rfl⟩ | exact ⟨rfl, rfl, rfl⟩) ?_; all_goals try simp only [go_sem, ↓reduceIte, Nat.reduceAdd, Nat.reduceSub, Nat.reduceMul, Nat.reduceDiv, Nat.reduceLT, Nat.reduceLeDiff, Nat.reduceEqDiff, Int.reduceToNat, reduceCtorEq])
      | (refine fun (hc : (_ : Bool) = _) => ?_; try simp only [decide_eq_true_eq, decide_eq_false_iff_not, Bool.not_eq_true', Bool.not_eq_false', Int.not_lt, Int.not_le, Cats.dec_iff, Cats.dec_not, Bool.and_eq_true, Bool.or_eq_true, Bool.and_eq_false_iff, Bool.or_eq_false_iff, Bool.not_eq_true, Bool.not_eq_false, Decidable.not_not, not_true_eq_false, not_false_eq_true] at hc))
    all_goals try (first | (with_reducible assumption) | ((try simp only [Cat.F, Cat.T, Cat.I, Cat.C, Fun.O, Fun.A, Cat.Entry, Int.toNat_natCast] at *); omega))
    · exact absurd h6 hc
    · exact absurd h7 hc
    · (first | refine ret_auto ?_ | refine ret_auto' ?_); simp only [go_sem, ↓reduceIte, Nat.reduceAdd, Nat.reduceSub, Nat.reduceMul, Nat.reduceDiv, Nat.reduceLT, Nat.reduceLeDiff, Nat.reduceEqDiff, Int.reduceToNat, reduceCtorEq, Try.f55]

theorem cal_CommaCategory : Callable Try.prog 15 := ⟨_, Try.func15, rfl, rfl⟩
theorem sp_CommaCategory_yes {f e : Fun} (hf : FunB f) (he : FunB e) (hy : CYes f e) : Spec Try.prog 15 [funV f, funV e] []
    (.tup [.agg [iv (cObj f e).length, .sl 0, .sl 1, .sl 2, .sl 3], iv 0]) [(0, ⟨1, .arr (ints (cmC f e 0).fr)⟩), (1, ⟨1, .arr (ints (cmC f e 0).to)⟩), (2, ⟨1, .arr (ints (cmC f e 0).id)⟩), (3, ⟨1, .arr (intss (cmC f e (cmA f e).length).co)⟩)] := by
  refine spec_of_V (E := TE) 0 Try.func15 rfl (by simp [Try.f15]) fun X hn hX => ?_
  repeat' (first
    | with_reducible first | refine V_seq ?_ | refine V_block ?_ | refine V_skip ?_ | refine V_ret ?_ | refine V_exit ?_
    | ((with_reducible refine V_cond ?_); simp only [go_sem, ↓reduceIte, Nat.reduceAdd, Nat.reduceSub, Nat.reduceMul, Nat.reduceDiv, Nat.reduceLT, Nat.reduceLeDiff, Nat.reduceEqDiff, Int.reduceToNat, reduceCtorEq])
    | ((first | refine V_region (by rw [hn]; rfl) ?_ | refine V_drawn hmix (by rw [hn]; rfl) ?_); intro K hK)
    | ((first | with_reducible refine evOps_n ?_ | ((with_reducible apply evOps_g); rfl) | with_reducible refine evOpsD_n ?_ | ((with_reducible apply evOpsD_g); rfl)); intro K hK; simp (contextual := true) only [go_sem, ↓reduceIte, Nat.reduceAdd, Nat.reduceSub, Nat.reduceMul, Nat.reduceDiv, Nat.reduceLT, Nat.reduceLeDiff, Nat.reduceEqDiff, Int.reduceToNat, reduceCtorEq])
    | with_reducible refine evOps_nil ?_
    | ((with_reducible refine evOpsD_nil ?_ ?_); kernel_rfl)
    | ((with_reducible refine hK _ ?_); clear hK K)
    | with_reducible first | refine And.intro ?_ ?_ | refine nxt_n ?_ | refine nxt_r ?_ | refine nxt_e ?_ | refine blk_n ?_ | refine blk_r ?_ | refine blk_same ?_ | refine blk_other (by decide) ?_ | refine noG_n ?_ | refine noG_r ?_ | refine noG_e ?_ | refine inR_mk ?_ ?_
    | ((with_reducible refine evCall_at 55 ?_); refine EvCall.rd (by first | (simp only [go_sem, ↓reduceIte, Nat.reduceAdd, Nat.reduceSub, Nat.reduceMul, Nat.reduceDiv, Nat.reduceLT, Nat.reduceLeDiff, Nat.reduceEqDiff, Int.reduceToNat, reduceCtorEq]; rfl) | rfl) (sp_commaCode_yes (by first | omega | assumption | rfl | exact (by assumption : SMB _).src | exact (by assumption : SMB _).tgt) (by first | omega | assumption | rfl | exact (by assumption : SMB _).src | exact (by assumption : SMB _).tgt) (by first | omega | assumption | rfl | exact (by assumption : SMB _).src | exact (by assumption : SMB _).tgt)) cal_commaCode (by simp [go_sem]) (by simp [go_sem]) ?_; all_goals try simp only [go_sem, ↓reduceIte, Nat.reduceAdd, Nat.reduceSub, Nat.reduceMul, Nat.reduceDiv, Nat.reduceLT, Nat.reduceLeDiff, Nat.reduceEqDiff, Int.reduceToNat, reduceCtorEq])
    | ((with_reducible refine evCall_at 56 ?_); refine EvCall.rd (by first | (simp only [go_sem, ↓reduceIte, Nat.reduceAdd, Nat.reduceSub, Nat.reduceMul, Nat.reduceDiv, Nat.reduceLT, Nat.reduceLeDiff, Nat.reduceEqDiff, Int.reduceToNat, reduceCtorEq]; rfl) | rfl) (sp_comma_category (f:=f) (e:=e) ?_) cal_comma_category (by simp [go_sem]) (by simp [go_sem]) ?_; all_goals try simp only [go_sem, ↓reduceIte, Nat.reduceAdd, Nat.reduceSub, Nat.reduceMul, Nat.reduceDiv, Nat.reduceLT, Nat.reduceLeDiff, Nat.reduceEqDiff, Int.reduceToNat, reduceCtorEq])
    | (refine fun (hc : (_ : Bool) = _) => ?_; try simp only [decide_eq_true_eq, decide_eq_false_iff_not, Bool.not_eq_true', Bool.not_eq_false', Int.not_lt, Int.not_le, Cats.dec_iff, Cats.dec_not, Bool.and_eq_true, Bool.or_eq_true, Bool.and_eq_false_iff, Bool.or_eq_false_iff, Bool.not_eq_true, Bool.not_eq_false, Decidable.not_not, not_true_eq_false, not_false_eq_true] at hc))
  all_goals try (first | (with_reducible assumption) | ((try simp only [Cat.F, Cat.T, Cat.I, Cat.C, Fun.O, Fun.A, Cat.Entry, Int.toNat_natCast] at *); omega))
  (first | refine ret_auto ?_ | refine ret_auto' ?_); simp only [go_sem, ↓reduceIte, Nat.reduceAdd, Nat.reduceSub, Nat.reduceMul, Nat.reduceDiv, Nat.reduceLT, Nat.reduceLeDiff, Nat.reduceEqDiff, Int.reduceToNat, reduceCtorEq, Try.f15]
  exact ⟨rfl, rfl⟩
theorem sp_CommaCategory_no {f e : Fun} {c : Int} (hf : FunB f) (he : FunB e) (h : CNo f e c) : Spec Try.prog 15 [funV f, funV e] []
    (.tup [.agg [iv 0, .v (.slice none 0 0), .v (.slice none 0 0), .v (.slice none 0 0), .v (.slice none 0 0)], iv c]) [] := by
  refine spec_of_V (E := TE) 0 Try.func15 rfl (by simp [Try.f15]) fun X hn hX => ?_
  have hc0 : c ≠ 0 := by rcases h with ⟨_, rfl⟩ | ⟨_, _, rfl⟩ | ⟨_, _, _, rfl⟩ <;> decide
  repeat' (first
    | with_reducible first | refine V_seq ?_ | refine V_block ?_ | refine V_skip ?_ | refine V_ret ?_ | refine V_exit ?_
    | ((with_reducible refine V_cond ?_); simp only [go_sem, ↓reduceIte, Nat.reduceAdd, Nat.reduceSub, Nat.reduceMul, Nat.reduceDiv, Nat.reduceLT, Nat.reduceLeDiff, Nat.reduceEqDiff, Int.reduceToNat, reduceCtorEq])
    | ((first | refine V_region (by rw [hn]; rfl) ?_ | refine V_drawn hmix (by rw [hn]; rfl) ?_); intro K hK)
    | ((first | with_reducible refine evOps_n ?_ | ((with_reducible apply evOps_g); rfl) | with_reducible refine evOpsD_n ?_ | ((with_reducible apply evOpsD_g); rfl)); intro K hK; simp (contextual := true) only [go_sem, ↓reduceIte, Nat.reduceAdd, Nat.reduceSub, Nat.reduceMul, Nat.reduceDiv, Nat.reduceLT, Nat.reduceLeDiff, Nat.reduceEqDiff, Int.reduceToNat, reduceCtorEq])
    | with_reducible refine evOps_nil ?_
    | ((with_reducible refine evOpsD_nil ?_ ?_); kernel_rfl)
    | ((with_reducible refine hK _ ?_); clear hK K)
    | with_reducible first | refine And.intro ?_ ?_ | refine nxt_n ?_ | refine nxt_r ?_ | refine nxt_e ?_ | refine blk_n ?_ | refine blk_r ?_ | refine blk_same ?_ | refine blk_other (by decide) ?_ | refine noG_n ?_ | refine noG_r ?_ | refine noG_e ?_ | refine inR_mk ?_ ?_
    | ((with_reducible refine evCall_at 55 ?_); refine EvCall.rd (by first | (simp only [go_sem, ↓reduceIte, Nat.reduceAdd, Nat.reduceSub, Nat.reduceMul, Nat.reduceDiv, Nat.reduceLT, Nat.reduceLeDiff, Nat.reduceEqDiff, Int.reduceToNat, reduceCtorEq]; rfl) | rfl) (sp_commaCode_no (by first | omega | assumption | rfl | exact (by assumption : SMB _).src | exact (by assumption : SMB _).tgt) (by first | omega | assumption | rfl | exact (by assumption : SMB _).src | exact (by assumption : SMB _).tgt) (by first | omega | assumption | rfl | exact (by assumption : SMB _).src | exact (by assumption : SMB _).tgt)) cal_commaCode (by simp [go_sem]) (by simp [go_sem]) ?_; all_goals try simp only [go_sem, ↓reduceIte, Nat.reduceAdd, Nat.reduceSub, Nat.reduceMul, Nat.reduceDiv, Nat.reduceLT, Nat.reduceLeDiff, Nat.reduceEqDiff, Int.reduceToNat, reduceCtorEq])
    | (refine fun (hc : (_ : Bool) = _) => ?_; try simp only [decide_eq_true_eq, decide_eq_false_iff_not, Bool.not_eq_true', Bool.not_eq_false', Int.not_lt, Int.not_le, Cats.dec_iff, Cats.dec_not, Bool.and_eq_true, Bool.or_eq_true, Bool.and_eq_false_iff, Bool.or_eq_false_iff, Bool.not_eq_true, Bool.not_eq_false, Decidable.not_not, not_true_eq_false, not_false_eq_true] at hc))
  all_goals try (first | (with_reducible assumption) | ((try simp only [Cat.F, Cat.T, Cat.I, Cat.C, Fun.O, Fun.A, Cat.Entry, Int.toNat_natCast] at *); omega))
  · (first | refine ret_auto ?_ | refine ret_auto' ?_); simp only [go_sem, ↓reduceIte, Nat.reduceAdd, Nat.reduceSub, Nat.reduceMul, Nat.reduceDiv, Nat.reduceLT, Nat.reduceLeDiff, Nat.reduceEqDiff, Int.reduceToNat, reduceCtorEq, Try.f15]
end Go.Eng
