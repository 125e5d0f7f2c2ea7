/- The law FnExactAllSetMaps is true of the given program: for every two set functors the call returns true, and both read behind it as they did. No condition. -/
import Derived.Test.YtjcilokfgngpmaaKdx
import Derived.Test.YtjcilokfgngpmaaA15q
import Derived.Test.YtjcilokfgngpmaaA16q
import Derived.Test.YtjcilokfgngpmaaRows
import Derived.JoinedOf
import Derived.ProofKit
set_option linter.unusedSimpArgs false
set_option linter.unusedVariables false
set_option maxRecDepth 100000
set_option maxHeartbeats 16000000
namespace Go.Eng
open Go Go.Proofs Go.Cats

theorem cal_FnExactAllSetMaps : Callable Try.prog 4 := ⟨_, Try.func4, rfl, rfl⟩
theorem sp_FnExactAllSetMaps {f g : SF} (tf : SFT f) (tg : SFT g) : Spec Try.prog 4 [sfV f, sfV g] [] (bv true) [] := by
  refine spec_of_V (E := TE) 0 Try.func4 rfl (by simp [Try.f4]) fun X hn hX => ?_
  have lf := tf.l
  have lg := tg.l
  by_cases hz : (sfSz f : Int) ≤ 1048576
  · by_cases hz2 : (sfSz g : Int) ≤ 1048576 - sfSz f
    · have hf := tf.b (by omega)
      have hg := tg.b (by omega)
      have k1 := hf.mkn
      have k2 := hg.mkn
      have key : ∃ (R : List (List (List Int))) (c : Int), L3 R ∧ Spec Try.prog 21 [sfV f, sfV g] [] (.tup [.sl 0, iv c]) [(0, ⟨1, .arr (intsss R)⟩)] ∧ Spec Try.prog 20 [sfV f, sfV g] [] (.tup [.sl 0, iv c]) [(0, ⟨1, .arr (intsss R)⟩)] := by
        have l30 : L3 [] := ⟨by decide, fun i hi => by simp at hi, fun i hi => by simp at hi⟩
        rcases bad_ex f g with ⟨c, hb⟩ | ⟨hp, he⟩
        · exact ⟨[], c, l30, adoptSSS (sp_AllSetMaps_bad hf hg hb), adoptSSS (sp_spec_AllSetMaps_bad hf hg hb)⟩
        · rcases Nat.lt_or_ge 200 (allM f g false).length with hD | hD
          · exact ⟨[], 3, l30, adoptSSS (sp_AllSetMaps_many hf hg hp he hD), adoptSSS (sp_spec_AllSetMaps_many hf hg hp he hD)⟩
          · refine ⟨_, 0, ?_, sp_AllSetMaps_yes hf hg hp he hD, sp_spec_AllSetMaps_yes hf hg hp he hD⟩
            have hQ : ∀ i, i < (allM f g false).length → Cats.Good f g false ((allM f g false).getD i []) := fun i hi => (dfs_good hp _ _ (good_open false hp) _ (by rw [List.getD_eq_getElem?_getD, List.getElem?_eq_getElem hi]; exact List.getElem_mem hi)).1
            have q2 := hp.src.szl
            have q3 := hp.src.cat.ob8
            refine ⟨by omega, fun i hi => ?_, fun i hi j hj => ?_⟩
            · have h1 := (hQ i hi).len
              omega
            · have h0 := (hQ i hi).len
              have h1 := (hQ i hi).row j hj
              have h2 := hp.src.szw j (by omega)
              omega
      obtain ⟨R, c, hR, sp_AllSetMaps_loc, sp_spec_AllSetMaps_loc⟩ := key
      have q1 := hR.tot R.length (Nat.le_refl _)
      rw [List.take_length] at q1
      have q2 := hR.one
      repeat' (first
        | with_reducible first | refine V_seq ?_ | refine V_block ?_ | refine V_skip ?_ | refine V_ret ?_ | refine V_exit ?_
        | ((with_reducible refine V_cond ?_); simp only [go_sem, ↓reduceIte, Nat.reduceAdd, Nat.reduceSub, Nat.reduceMul, Nat.reduceDiv, Nat.reduceLT, Nat.reduceLeDiff, Nat.reduceEqDiff, Int.reduceToNat, reduceCtorEq])
        | ((first | refine V_region (by rw [hn]; rfl) ?_ | refine V_drawn hmix (by rw [hn]; rfl) ?_); intro K hK)
        | ((first | with_reducible refine evOps_n ?_ | ((with_reducible apply evOps_g); rfl) | with_reducible refine evOpsD_n ?_ | ((with_reducible apply evOpsD_g); rfl)); intro K hK; simp (contextual := true) only [go_sem, ↓reduceIte, Nat.reduceAdd, Nat.reduceSub, Nat.reduceMul, Nat.reduceDiv, Nat.reduceLT, Nat.reduceLeDiff, Nat.reduceEqDiff, Int.reduceToNat, reduceCtorEq])
        | with_reducible refine evOps_nil ?_
        | ((with_reducible refine evOpsD_nil ?_ ?_); kernel_rfl)
        | ((with_reducible refine hK _ ?_); clear hK K)
        | with_reducible first | refine And.intro ?_ ?_ | refine nxt_n ?_ | refine nxt_r ?_ | refine nxt_e ?_ | refine blk_n ?_ | refine blk_r ?_ | refine blk_same ?_ | refine blk_other (by decide) ?_ | refine noG_n ?_ | refine noG_r ?_ | refine noG_e ?_ | refine inR_mk ?_ ?_
        | ((with_reducible refine evCall_at 11 ?_); refine EvCall.rd (by first | (simp only [go_sem, ↓reduceIte, Nat.reduceAdd, Nat.reduceSub, Nat.reduceMul, Nat.reduceDiv, Nat.reduceLT, Nat.reduceLeDiff, Nat.reduceEqDiff, Int.reduceToNat, reduceCtorEq]; rfl) | rfl) (sp_szSetFunctor_yes (f:=f) (by first | omega | assumption | rfl | exact (by assumption : SMB _).src | exact (by assumption : SMB _).tgt) (by first | omega | assumption | rfl | exact (by assumption : SMB _).src | exact (by assumption : SMB _).tgt)) cal_szSetFunctor (by simp [go_sem]) (by simp [go_sem]) ?_; all_goals try simp only [go_sem, ↓reduceIte, Nat.reduceAdd, Nat.reduceSub, Nat.reduceMul, Nat.reduceDiv, Nat.reduceLT, Nat.reduceLeDiff, Nat.reduceEqDiff, Int.reduceToNat, reduceCtorEq])
        | ((with_reducible refine evCall_at 11 ?_); refine EvCall.rd (by first | (simp only [go_sem, ↓reduceIte, Nat.reduceAdd, Nat.reduceSub, Nat.reduceMul, Nat.reduceDiv, Nat.reduceLT, Nat.reduceLeDiff, Nat.reduceEqDiff, Int.reduceToNat, reduceCtorEq]; rfl) | rfl) (sp_szSetFunctor_yes (f:=g) (by first | omega | assumption | rfl | exact (by assumption : SMB _).src | exact (by assumption : SMB _).tgt) (by first | omega | assumption | rfl | exact (by assumption : SMB _).src | exact (by assumption : SMB _).tgt)) cal_szSetFunctor (by simp [go_sem]) (by simp [go_sem]) ?_; all_goals try simp only [go_sem, ↓reduceIte, Nat.reduceAdd, Nat.reduceSub, Nat.reduceMul, Nat.reduceDiv, Nat.reduceLT, Nat.reduceLeDiff, Nat.reduceEqDiff, Int.reduceToNat, reduceCtorEq])
        | ((with_reducible refine evCall_at 13 ?_); refine EvCall.rd (by first | (simp only [go_sem, ↓reduceIte, Nat.reduceAdd, Nat.reduceSub, Nat.reduceMul, Nat.reduceDiv, Nat.reduceLT, Nat.reduceLeDiff, Nat.reduceEqDiff, Int.reduceToNat, reduceCtorEq]; rfl) | rfl) (sp_toSetFunctor (f:=f) ?_) cal_toSetFunctor (by simp [go_sem]) (by simp [go_sem]) ?_; all_goals try simp only [go_sem, ↓reduceIte, Nat.reduceAdd, Nat.reduceSub, Nat.reduceMul, Nat.reduceDiv, Nat.reduceLT, Nat.reduceLeDiff, Nat.reduceEqDiff, Int.reduceToNat, reduceCtorEq])
        | ((with_reducible refine evCall_at 13 ?_); refine EvCall.rd (by first | (simp only [go_sem, ↓reduceIte, Nat.reduceAdd, Nat.reduceSub, Nat.reduceMul, Nat.reduceDiv, Nat.reduceLT, Nat.reduceLeDiff, Nat.reduceEqDiff, Int.reduceToNat, reduceCtorEq]; rfl) | rfl) (sp_toSetFunctor (f:=g) ?_) cal_toSetFunctor (by simp [go_sem]) (by simp [go_sem]) ?_; all_goals try simp only [go_sem, ↓reduceIte, Nat.reduceAdd, Nat.reduceSub, Nat.reduceMul, Nat.reduceDiv, Nat.reduceLT, Nat.reduceLeDiff, Nat.reduceEqDiff, Int.reduceToNat, reduceCtorEq])
        | ((with_reducible refine evCall_at 20 ?_); refine EvCall.rd (by first | (simp only [go_sem, ↓reduceIte, Nat.reduceAdd, Nat.reduceSub, Nat.reduceMul, Nat.reduceDiv, Nat.reduceLT, Nat.reduceLeDiff, Nat.reduceEqDiff, Int.reduceToNat, reduceCtorEq]; rfl) | rfl) (sp_spec_AllSetMaps_loc) cal_spec_AllSetMaps (by simp [go_sem]) (by simp [go_sem]) ?_; all_goals try simp only [go_sem, ↓reduceIte, Nat.reduceAdd, Nat.reduceSub, Nat.reduceMul, Nat.reduceDiv, Nat.reduceLT, Nat.reduceLeDiff, Nat.reduceEqDiff, Int.reduceToNat, reduceCtorEq])
        | ((with_reducible refine evCall_at 21 ?_); refine EvCall.rd (by first | (simp only [go_sem, ↓reduceIte, Nat.reduceAdd, Nat.reduceSub, Nat.reduceMul, Nat.reduceDiv, Nat.reduceLT, Nat.reduceLeDiff, Nat.reduceEqDiff, Int.reduceToNat, reduceCtorEq]; rfl) | rfl) (sp_AllSetMaps_loc) cal_AllSetMaps (by simp [go_sem]) (by simp [go_sem]) ?_; all_goals try simp only [go_sem, ↓reduceIte, Nat.reduceAdd, Nat.reduceSub, Nat.reduceMul, Nat.reduceDiv, Nat.reduceLT, Nat.reduceLeDiff, Nat.reduceEqDiff, Int.reduceToNat, reduceCtorEq])
        | ((with_reducible refine evCall_at 22 ?_); refine EvCall.rd (by first | (simp only [go_sem, ↓reduceIte, Nat.reduceAdd, Nat.reduceSub, Nat.reduceMul, Nat.reduceDiv, Nat.reduceLT, Nat.reduceLeDiff, Nat.reduceEqDiff, Int.reduceToNat, reduceCtorEq]; rfl) | rfl) (sp_eqInt64SSS (a:=R) (b:=R) ?_ ?_) cal_eqInt64SSS (by simp [go_sem]) (by simp [go_sem]) ?_; all_goals try simp only [go_sem, ↓reduceIte, Nat.reduceAdd, Nat.reduceSub, Nat.reduceMul, Nat.reduceDiv, Nat.reduceLT, Nat.reduceLeDiff, Nat.reduceEqDiff, Int.reduceToNat, reduceCtorEq])
        | ((with_reducible refine evCall_at 16 ?_); refine EvCall.rd (by first | (simp only [go_sem, ↓reduceIte, Nat.reduceAdd, Nat.reduceSub, Nat.reduceMul, Nat.reduceDiv, Nat.reduceLT, Nat.reduceLeDiff, Nat.reduceEqDiff, Int.reduceToNat, reduceCtorEq]; rfl) | rfl) (sp_eqSetFunctor (f:=f) (g:=f) ?_ ?_) cal_eqSetFunctor (by simp [go_sem]) (by simp [go_sem]) ?_; all_goals try simp only [go_sem, ↓reduceIte, Nat.reduceAdd, Nat.reduceSub, Nat.reduceMul, Nat.reduceDiv, Nat.reduceLT, Nat.reduceLeDiff, Nat.reduceEqDiff, Int.reduceToNat, reduceCtorEq])
        | ((with_reducible refine evCall_at 16 ?_); refine EvCall.rd (by first | (simp only [go_sem, ↓reduceIte, Nat.reduceAdd, Nat.reduceSub, Nat.reduceMul, Nat.reduceDiv, Nat.reduceLT, Nat.reduceLeDiff, Nat.reduceEqDiff, Int.reduceToNat, reduceCtorEq]; rfl) | rfl) (sp_eqSetFunctor (f:=g) (g:=g) ?_ ?_) cal_eqSetFunctor (by simp [go_sem]) (by simp [go_sem]) ?_; all_goals try simp only [go_sem, ↓reduceIte, Nat.reduceAdd, Nat.reduceSub, Nat.reduceMul, Nat.reduceDiv, Nat.reduceLT, Nat.reduceLeDiff, Nat.reduceEqDiff, Int.reduceToNat, reduceCtorEq])
        | ((with_reducible refine evCall_at 17 ?_); refine EvCall.mu (by first | (simp only [go_sem, ↓reduceIte, Nat.reduceAdd, Nat.reduceSub, Nat.reduceMul, Nat.reduceDiv, Nat.reduceLT, Nat.reduceLeDiff, Nat.reduceEqDiff, Int.reduceToNat, reduceCtorEq]; rfl) | rfl) (by first | (simp only [go_sem, ↓reduceIte, Nat.reduceAdd, Nat.reduceSub, Nat.reduceMul, Nat.reduceDiv, Nat.reduceLT, Nat.reduceLeDiff, Nat.reduceEqDiff, Int.reduceToNat, reduceCtorEq]; rfl) | rfl) (by first | (simp only [go_sem, ↓reduceIte, Nat.reduceAdd, Nat.reduceSub, Nat.reduceMul, Nat.reduceDiv, Nat.reduceLT, Nat.reduceLeDiff, Nat.reduceEqDiff, Int.reduceToNat, reduceCtorEq]; rfl) | rfl) (sp_markSetFunctor (f:=f) ?_ ?_ ?_) cal_markSetFunctor (by first | (simp only [go_sem, ↓reduceIte, Nat.reduceAdd, Nat.reduceSub, Nat.reduceMul, Nat.reduceDiv, Nat.reduceLT, Nat.reduceLeDiff, Nat.reduceEqDiff, Int.reduceToNat, reduceCtorEq]; rfl) | rfl) (by first | (simp only [go_sem, ↓reduceIte, Nat.reduceAdd, Nat.reduceSub, Nat.reduceMul, Nat.reduceDiv, Nat.reduceLT, Nat.reduceLeDiff, Nat.reduceEqDiff, Int.reduceToNat, reduceCtorEq]; rfl) | rfl) (by simp [go_sem]) (by simp [go_sem]) ?_; all_goals try simp only [go_sem, ↓reduceIte, Nat.reduceAdd, Nat.reduceSub, Nat.reduceMul, Nat.reduceDiv, Nat.reduceLT, Nat.reduceLeDiff, Nat.reduceEqDiff, Int.reduceToNat, reduceCtorEq])
        | ((with_reducible refine evCall_at 17 ?_); refine EvCall.mu (by first | (simp only [go_sem, ↓reduceIte, Nat.reduceAdd, Nat.reduceSub, Nat.reduceMul, Nat.reduceDiv, Nat.reduceLT, Nat.reduceLeDiff, Nat.reduceEqDiff, Int.reduceToNat, reduceCtorEq]; rfl) | rfl) (by first | (simp only [go_sem, ↓reduceIte, Nat.reduceAdd, Nat.reduceSub, Nat.reduceMul, Nat.reduceDiv, Nat.reduceLT, Nat.reduceLeDiff, Nat.reduceEqDiff, Int.reduceToNat, reduceCtorEq]; rfl) | rfl) (by first | (simp only [go_sem, ↓reduceIte, Nat.reduceAdd, Nat.reduceSub, Nat.reduceMul, Nat.reduceDiv, Nat.reduceLT, Nat.reduceLeDiff, Nat.reduceEqDiff, Int.reduceToNat, reduceCtorEq]; rfl) | rfl) (sp_markSetFunctor (f:=g) ?_ ?_ ?_) cal_markSetFunctor (by first | (simp only [go_sem, ↓reduceIte, Nat.reduceAdd, Nat.reduceSub, Nat.reduceMul, Nat.reduceDiv, Nat.reduceLT, Nat.reduceLeDiff, Nat.reduceEqDiff, Int.reduceToNat, reduceCtorEq]; rfl) | rfl) (by first | (simp only [go_sem, ↓reduceIte, Nat.reduceAdd, Nat.reduceSub, Nat.reduceMul, Nat.reduceDiv, Nat.reduceLT, Nat.reduceLeDiff, Nat.reduceEqDiff, Int.reduceToNat, reduceCtorEq]; rfl) | rfl) (by simp [go_sem]) (by simp [go_sem]) ?_; all_goals try simp only [go_sem, ↓reduceIte, Nat.reduceAdd, Nat.reduceSub, Nat.reduceMul, Nat.reduceDiv, Nat.reduceLT, Nat.reduceLeDiff, Nat.reduceEqDiff, Int.reduceToNat, reduceCtorEq])
        | ((with_reducible refine evCall_at 23 ?_); refine EvCall.mu (by first | (simp only [go_sem, ↓reduceIte, Nat.reduceAdd, Nat.reduceSub, Nat.reduceMul, Nat.reduceDiv, Nat.reduceLT, Nat.reduceLeDiff, Nat.reduceEqDiff, Int.reduceToNat, reduceCtorEq]; rfl) | rfl) (by first | (simp only [go_sem, ↓reduceIte, Nat.reduceAdd, Nat.reduceSub, Nat.reduceMul, Nat.reduceDiv, Nat.reduceLT, Nat.reduceLeDiff, Nat.reduceEqDiff, Int.reduceToNat, reduceCtorEq]; rfl) | rfl) (by first | (simp only [go_sem, ↓reduceIte, Nat.reduceAdd, Nat.reduceSub, Nat.reduceMul, Nat.reduceDiv, Nat.reduceLT, Nat.reduceLeDiff, Nat.reduceEqDiff, Int.reduceToNat, reduceCtorEq]; rfl) | rfl) (sp_markInt64SSS (l:=R) ?_ ?_ ?_) cal_markInt64SSS (by first | (simp only [go_sem, ↓reduceIte, Nat.reduceAdd, Nat.reduceSub, Nat.reduceMul, Nat.reduceDiv, Nat.reduceLT, Nat.reduceLeDiff, Nat.reduceEqDiff, Int.reduceToNat, reduceCtorEq]; rfl) | rfl) (by first | (simp only [go_sem, ↓reduceIte, Nat.reduceAdd, Nat.reduceSub, Nat.reduceMul, Nat.reduceDiv, Nat.reduceLT, Nat.reduceLeDiff, Nat.reduceEqDiff, Int.reduceToNat, reduceCtorEq]; rfl) | rfl) (by simp [go_sem]) (by simp [go_sem]) ?_; all_goals try simp only [go_sem, ↓reduceIte, Nat.reduceAdd, Nat.reduceSub, Nat.reduceMul, Nat.reduceDiv, Nat.reduceLT, Nat.reduceLeDiff, Nat.reduceEqDiff, Int.reduceToNat, reduceCtorEq])
        | ((with_reducible refine evCall_at 24 ?_); refine EvCall.rd (by first | (simp only [go_sem, ↓reduceIte, Nat.reduceAdd, Nat.reduceSub, Nat.reduceMul, Nat.reduceDiv, Nat.reduceLT, Nat.reduceLeDiff, Nat.reduceEqDiff, Int.reduceToNat, reduceCtorEq]; rfl) | rfl) (sp_heldInt64SSS_at (m:=marksSS 1 R) (l:=R) (k:=1) (by first | omega | assumption | rfl | exact (by assumption : SMB _).src | exact (by assumption : SMB _).tgt) (by first | omega | assumption | rfl | exact (by assumption : SMB _).src | exact (by assumption : SMB _).tgt) (by first | omega | assumption | rfl | exact (by assumption : SMB _).src | exact (by assumption : SMB _).tgt) (by first | omega | assumption | rfl | exact (by assumption : SMB _).src | exact (by assumption : SMB _).tgt)) cal_heldInt64SSS (by simp [go_sem]) (by simp [go_sem]) ?_; all_goals try simp only [go_sem, ↓reduceIte, Nat.reduceAdd, Nat.reduceSub, Nat.reduceMul, Nat.reduceDiv, Nat.reduceLT, Nat.reduceLeDiff, Nat.reduceEqDiff, Int.reduceToNat, reduceCtorEq])
        | (refine fun (hc : (_ : Bool) = _) => ?_; try simp only [decide_eq_true_eq, decide_eq_false_iff_not, Bool.not_eq_true', Bool.not_eq_false', Int.not_lt, Int.not_le, Cats.dec_iff, Cats.dec_not, Bool.and_eq_true, Bool.or_eq_true, Bool.and_eq_false_iff, Bool.or_eq_false_iff, Bool.not_eq_true, Bool.not_eq_false, Decidable.not_not, not_true_eq_false, not_false_eq_true] at hc))
      all_goals try (first | (with_reducible assumption) | ((try simp only [Cat.F, Cat.T, Cat.I, Cat.C, Fun.O, Fun.A, Cat.Entry, Int.toNat_natCast] at *); omega))
      (first | refine ret_auto ?_ | refine ret_auto' ?_); simp only [go_sem, ↓reduceIte, Nat.reduceAdd, Nat.reduceSub, Nat.reduceMul, Nat.reduceDiv, Nat.reduceLT, Nat.reduceLeDiff, Nat.reduceEqDiff, Int.reduceToNat, reduceCtorEq, Try.f4]
    · repeat' (first
        | with_reducible first | refine V_seq ?_ | refine V_block ?_ | refine V_skip ?_ | refine V_ret ?_ | refine V_exit ?_
        | ((with_reducible refine V_cond ?_); simp only [go_sem, ↓reduceIte, Nat.reduceAdd, Nat.reduceSub, Nat.reduceMul, Nat.reduceDiv, Nat.reduceLT, Nat.reduceLeDiff, Nat.reduceEqDiff, Int.reduceToNat, reduceCtorEq])
        | ((first | refine V_region (by rw [hn]; rfl) ?_ | refine V_drawn hmix (by rw [hn]; rfl) ?_); intro K hK)
        | ((first | with_reducible refine evOps_n ?_ | ((with_reducible apply evOps_g); rfl) | with_reducible refine evOpsD_n ?_ | ((with_reducible apply evOpsD_g); rfl)); intro K hK; simp (contextual := true) only [go_sem, ↓reduceIte, Nat.reduceAdd, Nat.reduceSub, Nat.reduceMul, Nat.reduceDiv, Nat.reduceLT, Nat.reduceLeDiff, Nat.reduceEqDiff, Int.reduceToNat, reduceCtorEq])
        | with_reducible refine evOps_nil ?_
        | ((with_reducible refine evOpsD_nil ?_ ?_); kernel_rfl)
        | ((with_reducible refine hK _ ?_); clear hK K)
        | with_reducible first | refine And.intro ?_ ?_ | refine nxt_n ?_ | refine nxt_r ?_ | refine nxt_e ?_ | refine blk_n ?_ | refine blk_r ?_ | refine blk_same ?_ | refine blk_other (by decide) ?_ | refine noG_n ?_ | refine noG_r ?_ | refine noG_e ?_ | refine inR_mk ?_ ?_
        | ((with_reducible refine evCall_at 11 ?_); refine EvCall.rd (by first | (simp only [go_sem, ↓reduceIte, Nat.reduceAdd, Nat.reduceSub, Nat.reduceMul, Nat.reduceDiv, Nat.reduceLT, Nat.reduceLeDiff, Nat.reduceEqDiff, Int.reduceToNat, reduceCtorEq]; rfl) | rfl) (sp_szSetFunctor_yes (f:=f) (by first | omega | assumption | rfl | exact (by assumption : SMB _).src | exact (by assumption : SMB _).tgt) (by first | omega | assumption | rfl | exact (by assumption : SMB _).src | exact (by assumption : SMB _).tgt)) cal_szSetFunctor (by simp [go_sem]) (by simp [go_sem]) ?_; all_goals try simp only [go_sem, ↓reduceIte, Nat.reduceAdd, Nat.reduceSub, Nat.reduceMul, Nat.reduceDiv, Nat.reduceLT, Nat.reduceLeDiff, Nat.reduceEqDiff, Int.reduceToNat, reduceCtorEq])
        | ((with_reducible refine evCall_at 11 ?_); refine EvCall.rd (by first | (simp only [go_sem, ↓reduceIte, Nat.reduceAdd, Nat.reduceSub, Nat.reduceMul, Nat.reduceDiv, Nat.reduceLT, Nat.reduceLeDiff, Nat.reduceEqDiff, Int.reduceToNat, reduceCtorEq]; rfl) | rfl) (sp_szSetFunctor_no (f:=g) (by first | omega | assumption | rfl | exact (by assumption : SMB _).src | exact (by assumption : SMB _).tgt) (by first | omega | assumption | rfl | exact (by assumption : SMB _).src | exact (by assumption : SMB _).tgt) (by first | omega | assumption | rfl | exact (by assumption : SMB _).src | exact (by assumption : SMB _).tgt) (by first | omega | assumption | rfl | exact (by assumption : SMB _).src | exact (by assumption : SMB _).tgt)) cal_szSetFunctor (by simp [go_sem]) (by simp [go_sem]) ?_; all_goals try simp only [go_sem, ↓reduceIte, Nat.reduceAdd, Nat.reduceSub, Nat.reduceMul, Nat.reduceDiv, Nat.reduceLT, Nat.reduceLeDiff, Nat.reduceEqDiff, Int.reduceToNat, reduceCtorEq])
        | (refine fun (hc : (_ : Bool) = _) => ?_; try simp only [decide_eq_true_eq, decide_eq_false_iff_not, Bool.not_eq_true', Bool.not_eq_false', Int.not_lt, Int.not_le, Cats.dec_iff, Cats.dec_not, Bool.and_eq_true, Bool.or_eq_true, Bool.and_eq_false_iff, Bool.or_eq_false_iff, Bool.not_eq_true, Bool.not_eq_false, Decidable.not_not, not_true_eq_false, not_false_eq_true] at hc))
      all_goals try (first | (with_reducible assumption) | ((try simp only [Cat.F, Cat.T, Cat.I, Cat.C, Fun.O, Fun.A, Cat.Entry, Int.toNat_natCast] at *); omega))
      (first | refine ret_auto ?_ | refine ret_auto' ?_); simp only [go_sem, ↓reduceIte, Nat.reduceAdd, Nat.reduceSub, Nat.reduceMul, Nat.reduceDiv, Nat.reduceLT, Nat.reduceLeDiff, Nat.reduceEqDiff, Int.reduceToNat, reduceCtorEq, Try.f4]
  · repeat' (first
      | with_reducible first | refine V_seq ?_ | refine V_block ?_ | refine V_skip ?_ | refine V_ret ?_ | refine V_exit ?_
      | ((with_reducible refine V_cond ?_); simp only [go_sem, ↓reduceIte, Nat.reduceAdd, Nat.reduceSub, Nat.reduceMul, Nat.reduceDiv, Nat.reduceLT, Nat.reduceLeDiff, Nat.reduceEqDiff, Int.reduceToNat, reduceCtorEq])
      | ((first | refine V_region (by rw [hn]; rfl) ?_ | refine V_drawn hmix (by rw [hn]; rfl) ?_); intro K hK)
      | ((first | with_reducible refine evOps_n ?_ | ((with_reducible apply evOps_g); rfl) | with_reducible refine evOpsD_n ?_ | ((with_reducible apply evOpsD_g); rfl)); intro K hK; simp (contextual := true) only [go_sem, ↓reduceIte, Nat.reduceAdd, Nat.reduceSub, Nat.reduceMul, Nat.reduceDiv, Nat.reduceLT, Nat.reduceLeDiff, Nat.reduceEqDiff, Int.reduceToNat, reduceCtorEq])
      | with_reducible refine evOps_nil ?_
      | ((with_reducible refine evOpsD_nil ?_ ?_); kernel_rfl)
      | ((with_reducible refine hK _ ?_); clear hK K)
      | with_reducible first | refine And.intro ?_ ?_ | refine nxt_n ?_ | refine nxt_r ?_ | refine nxt_e ?_ | refine blk_n ?_ | refine blk_r ?_ | refine blk_same ?_ | refine blk_other (by decide) ?_ | refine noG_n ?_ | refine noG_r ?_ | refine noG_e ?_ | refine inR_mk ?_ ?_
      | ((with_reducible refine evCall_at 11 ?_); refine EvCall.rd (by first | (simp only [go_sem, ↓reduceIte, Nat.reduceAdd, Nat.reduceSub, Nat.reduceMul, Nat.reduceDiv, Nat.reduceLT, Nat.reduceLeDiff, Nat.reduceEqDiff, Int.reduceToNat, reduceCtorEq]; rfl) | rfl) (sp_szSetFunctor_no (f:=f) (by first | omega | assumption | rfl | exact (by assumption : SMB _).src | exact (by assumption : SMB _).tgt) (by first | omega | assumption | rfl | exact (by assumption : SMB _).src | exact (by assumption : SMB _).tgt) (by first | omega | assumption | rfl | exact (by assumption : SMB _).src | exact (by assumption : SMB _).tgt) (by first | omega | assumption | rfl | exact (by assumption : SMB _).src | exact (by assumption : SMB _).tgt)) cal_szSetFunctor (by simp [go_sem]) (by simp [go_sem]) ?_; all_goals try simp only [go_sem, ↓reduceIte, Nat.reduceAdd, Nat.reduceSub, Nat.reduceMul, Nat.reduceDiv, Nat.reduceLT, Nat.reduceLeDiff, Nat.reduceEqDiff, Int.reduceToNat, reduceCtorEq])
      | (refine fun (hc : (_ : Bool) = _) => ?_; try simp only [decide_eq_true_eq, decide_eq_false_iff_not, Bool.not_eq_true', Bool.not_eq_false', Int.not_lt, Int.not_le, Cats.dec_iff, Cats.dec_not, Bool.and_eq_true, Bool.or_eq_true, Bool.and_eq_false_iff, Bool.or_eq_false_iff, Bool.not_eq_true, Bool.not_eq_false, Decidable.not_not, not_true_eq_false, not_false_eq_true] at hc))
    all_goals try (first | (with_reducible assumption) | ((try simp only [Cat.F, Cat.T, Cat.I, Cat.C, Fun.O, Fun.A, Cat.Entry, Int.toNat_natCast] at *); omega))
    (first | refine ret_auto ?_ | refine ret_auto' ?_); simp only [go_sem, ↓reduceIte, Nat.reduceAdd, Nat.reduceSub, Nat.reduceMul, Nat.reduceDiv, Nat.reduceLT, Nat.reduceLeDiff, Nat.reduceEqDiff, Int.reduceToNat, reduceCtorEq, Try.f4]
end Go.Eng

namespace Go.Proofs.Ytjcilokfgngpmaa
open Go Go.Eng Go.Cats Go.ChangeShapes Go.WideShapes Go.RowKit

theorem Try.own11_ : ownKnob Try.checked.prog.godebug = none := by kernel_rfl
theorem Try.laidOut11_ : laidOutB Try.prog = true := by kernel_rfl

theorem allSetMaps_lifted (os : Os) (started : os.Started) (H : Type) (enc : TypeId × Value → H) :
    ReturnsInHanded {} Try.checked os 4 .any (Rows.fnExactAllSetMapsSpec.pre6 enc Try.prog Try.f4 Rows.fnExactAllSetMapsRow.domain Rows.fnExactAllSetMapsRow.apart) (Rows.fnExactAllSetMapsSpec.post enc Try.prog Try.f4 Rows.fnExactAllSetMapsRow.apart Rows.fnExactAllSetMapsRow.fresh Rows.fnExactAllSetMapsRow.handsOn Rows.fnExactAllSetMapsRow.again) := by
  refine returnsInHanded_of_change (C := Try.checked) Try.own11_ started (by kernel_rfl) Try.func4
    (ChangeSpec.witness6 (enc := enc) (C := Try.checked) false ⟨#[], #[.agg #[.int .i64 0, .slice none 0 0, .slice none 0 0, .slice none 0 0, .slice none 0 0, .slice none 0 0, .slice none 0 0], .agg #[.int .i64 0, .slice none 0 0, .slice none 0 0, .slice none 0 0, .slice none 0 0, .slice none 0 0, .slice none 0 0]], []⟩ 8 (by kernel_rfl) (by kernel_rfl) (by kernel_rfl) (by kernel_rfl)) ?_
  intro W base args ds gs before hval0 hW hcnd _
  have hval : ∀ (j : Nat) t v, Try.f4.params[j]? = some t → args[j]? = some v → Value.okWide Try.prog W .any base t v := hval0
  have hW' := hW
  obtain ⟨p, q, hA0, hV, rfl, hfz, hnd⟩ := hW
  obtain ⟨rfl, rfl⟩ := trodVars_none hV
  have hA : DataW.TrodAll enc Try.prog W 0 (fun _ => true) true [27, 27] args.toList ds p := hA0
  obtain ⟨v0, v1, d0, d1, p0, p1, rfl, rfl, rfl, h0, h1⟩ := trodAll_two hA
  obtain ⟨cs, rfl, _⟩ := okWide_struct Try.underlying27 (hval 0 27 v0 rfl rfl)
  obtain ⟨cs1, rfl, _⟩ := okWide_struct Try.underlying27 (hval 1 27 v1 rfl rfl)
  obtain ⟨fuel, hf⟩ := h0
  obtain ⟨fuel1, hf1⟩ := h1
  have hf0 := hf
  have hf10 := hf1
  rw [show (Value.agg cs).cells.toList = cs.toList from rfl] at hf
  rw [show (Value.agg cs1).cells.toList = cs1.toList from rfl] at hf1
  obtain ⟨f, hm, hok⟩ := rd_sf hf
  obtain ⟨e, hm1, hok1⟩ := rd_sf hf1
  have hlt : ∀ y ∈ p0 ++ p1, y.block < W.heap.size := fun y hy => hW'.lt y (by simpa using hy)
  refine (sp_FnExactAllSetMaps (f := f) (g := e) hm hm1 W (Old W) (Old W) _ [.agg cs, .agg cs1] (hp_start W) ?_).mono fun ed W' ⟨v, c1, he, hp, hv, _⟩ => ?_
  · simp only [Sv.okL, Sv.ok]
    exact ⟨_, _, rfl, ⟨cs.toList, by simp, hok _ _⟩, _, _, rfl, ⟨cs1.toList, by simp, hok1 _ _⟩, rfl⟩
  · simp only [Sv.ok] at hv
    subst hv
    subst he
    have hb := below_of_hp hp
    refine ⟨_, rfl, post_law hW' rfl rfl Try.underlying4 rfl hb ?_⟩
    rw [List.append_nil]
    exact trodAll_mk2 (Below.trod Try.laidOut11_ (by kernel_rfl) (of_decide_eq_true (by kernel_rfl)) ⟨fuel, hf0⟩ hb (fun y hy => hlt y (by simp [hy]))) (Below.trod Try.laidOut11_ (by kernel_rfl) (of_decide_eq_true (by kernel_rfl)) ⟨fuel1, hf10⟩ hb (fun y hy => hlt y (by simp [hy])))

theorem allSetMaps_holds : Rows.FnExactAllSetMapsSaid :=
  OpenClaim.holds_of_wide 4 Try.f4 rfl rfl rfl rfl rfl rfl rfl ⟨rfl, rfl, rfl, rfl, rfl⟩ rfl rfl rfl rfl rfl (by kernel_rfl) Try.func4 (by kernel_rfl)
    (of_decide_eq_true (by kernel_rfl)) (by unfold Func.isWrapper; first | (rw [if_pos (by decide +kernel)]; kernel_rfl) | (rw [if_neg (by decide +kernel)]; exact ⟨rfl, rfl⟩))
    (fun os started H enc _ => allSetMaps_lifted os started H enc)
#print axioms allSetMaps_holds
end Go.Proofs.Ytjcilokfgngpmaa
