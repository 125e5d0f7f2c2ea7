/- Several texts in one: U06, U07. -/
import Derived.Test.YtfinbajnalaomaaGreatKaox
set_option linter.unusedSimpArgs false
set_option linter.unusedVariables false
set_option maxRecDepth 100000
set_option maxHeartbeats 16000000
section
namespace Go.Eng
open Go Go.Proofs Go.Cats
attribute [local go_sem] List.set_cons_zero List.set_cons_succ moU_zero
end Go.Eng
end
section
namespace Go.Eng
open Go Go.Proofs Go.Cats
attribute [local go_sem] List.set_cons_zero List.set_cons_succ moA_zero
def AfO (c d : Cat) (r : Sv) (L1 : List (Nat × Rs)) : Prop :=
  ((MovP c d ∧ (fcL c d).length ≤ 200) ∧ r = .tup [.sl 0, iv 0] ∧ L1 = [(0, ⟨1, .arr (funsD (fcL c d))⟩)]) ∨ (¬ (MovP c d ∧ (fcL c d).length ≤ 200) ∧ r = .tup [.v (.slice none 0 0), iv 3] ∧ L1 = [])
theorem cal_AllFunctors : Callable Tryz.prog 23 := ⟨_, Tryz.func23, rfl, rfl⟩
theorem sp_AllFunctors_o {c d : Cat} {r : Sv} {L1 : List (Nat × Rs)} (sc : IsCat c) (sd : IsCat d) (bc : CatB c) (bd : CatB d) (ho : AfO c d r L1) : Spec Tryz.prog 23 [catV c, catV d] [] r L1 := by
  have hmo := sp_movable bc bd sc.toShape sd.toShape
  have hall := sp_allFunctors (b := false) (M := 200) sc sd bc bd (by decide)
  rw [eat_L (M := 200) _ _ (Nat.zero_le _), List.nil_append, show funX c d false c.ob.toNat [] = fcL c d from rfl] at hall
  have ar := sp_areCategories_two bc bd
  rw [dec_t (And.intro sc sd)] at ar
  by_cases hM : MovP c d
  · rw [dec_t hM] at hmo
    by_cases hL : (fcL c d).length ≤ 200
    · rw [decide_eq_true hL, List.take_of_length_le (by omega)] at hall
      rcases ho with ⟨_, rfl, rfl⟩ | ⟨ho, _, _⟩
      · refine spec_of_V (E := TE) 0 Tryz.func23 rfl (by simp [Tryz.f23]) fun X hn hX => ?_
        repeat' (first | (refine V_at 1 (Imp.trans (Imp.lendCat 2 0 1 c rfl rfl (Nat.le_refl 1)) (Imp.lendCat 3 1 1 d rfl rfl (Nat.le_refl 1))) ?_; simp only [go_sem, simprocAttr]) | (with_reducible first | refine V_seq ?_ | refine V_skip ?_ | refine V_ret ?_) | ((with_reducible refine V_cond ?_); simp only [go_sem, simprocAttr]) | ((refine V_region (by rw [hn]; rfl) ?_); intro K hK) | ((first | with_reducible refine evOps_n ?_ | ((with_reducible apply evOps_g); rfl)); intro K hK; simp (contextual := true) only [go_sem, simprocAttr]) | with_reducible refine evOps_nil ?_ | ((with_reducible refine hK _ ?_); clear hK K) | (with_reducible first | refine And.intro ?_ ?_ | refine nxt_n ?_ | refine nxt_r ?_ | refine inR_mk ?_ ?_) | ((with_reducible refine evCall_at 40 ?_); refine EvCall.mk (ar) cal_areCategories [] [2,0,1] (by simp [go_sem] <;> (repeat' (first | rfl | constructor))) (by simp [go_sem] <;> (repeat' (first | rfl | constructor))) ?_; all_goals try simp only [go_sem, simprocAttr]) | ((with_reducible refine evCall_at 42 ?_); refine EvCall.mk (hmo) cal_movable [] [0,1] (by simp [go_sem] <;> (repeat' (first | rfl | constructor))) (by simp [go_sem] <;> (repeat' (first | rfl | constructor))) ?_; all_goals try simp only [go_sem, simprocAttr]) | ((with_reducible refine evCall_at 43 ?_); refine EvCall.mk (hall) cal_allFunctors [(0,3)] [0,1] (by simp [go_sem] <;> (repeat' (first | rfl | constructor))) (by simp [go_sem] <;> (repeat' (first | rfl | constructor))) ?_; all_goals try simp only [go_sem, simprocAttr]) | (refine fun (hc : (_ : Bool) = _) => ?_; try simp only [hcS] at hc))
        all_goals try exact om_
        all_goals ((first | refine ret_auto ?_ | refine ret_auto' ?_); simp only [go_sem, simprocAttr, Tryz.f23])
      · exact absurd ⟨hM, hL⟩ ho
    · rw [decide_eq_false hL] at hall
      rcases ho with ⟨ho, _, _⟩ | ⟨_, rfl, rfl⟩
      · exact absurd ho.2 hL
      · refine spec_of_V (E := TE) 0 Tryz.func23 rfl (by simp [Tryz.f23]) fun X hn hX => ?_
        repeat' (first | (refine V_at 1 (Imp.trans (Imp.lendCat 2 0 1 c rfl rfl (Nat.le_refl 1)) (Imp.lendCat 3 1 1 d rfl rfl (Nat.le_refl 1))) ?_; simp only [go_sem, simprocAttr]) | (with_reducible first | refine V_seq ?_ | refine V_skip ?_ | refine V_ret ?_) | ((with_reducible refine V_cond ?_); simp only [go_sem, simprocAttr]) | ((refine V_region (by rw [hn]; rfl) ?_); intro K hK) | ((first | with_reducible refine evOps_n ?_ | ((with_reducible apply evOps_g); rfl)); intro K hK; simp (contextual := true) only [go_sem, simprocAttr]) | with_reducible refine evOps_nil ?_ | ((with_reducible refine hK _ ?_); clear hK K) | (with_reducible first | refine And.intro ?_ ?_ | refine nxt_n ?_ | refine nxt_r ?_ | refine inR_mk ?_ ?_) | ((with_reducible refine evCall_at 40 ?_); refine EvCall.mk (ar) cal_areCategories [] [2,0,1] (by simp [go_sem] <;> (repeat' (first | rfl | constructor))) (by simp [go_sem] <;> (repeat' (first | rfl | constructor))) ?_; all_goals try simp only [go_sem, simprocAttr]) | ((with_reducible refine evCall_at 42 ?_); refine EvCall.mk (hmo) cal_movable [] [0,1] (by simp [go_sem] <;> (repeat' (first | rfl | constructor))) (by simp [go_sem] <;> (repeat' (first | rfl | constructor))) ?_; all_goals try simp only [go_sem, simprocAttr]) | ((with_reducible refine evCall_at 43 ?_); refine EvCall.mk (hall) cal_allFunctors [(0,3)] [0,1] (by simp [go_sem] <;> (repeat' (first | rfl | constructor))) (by simp [go_sem] <;> (repeat' (first | rfl | constructor))) ?_; all_goals try simp only [go_sem, simprocAttr]) | (refine fun (hc : (_ : Bool) = _) => ?_; try simp only [hcS] at hc))
        all_goals try exact om_
        all_goals ((first | refine ret_auto ?_ | refine ret_auto' ?_); simp only [go_sem, simprocAttr, Tryz.f23])
  · rw [dec_f hM] at hmo
    rcases ho with ⟨ho, _, _⟩ | ⟨_, rfl, rfl⟩
    · exact absurd ho.1 hM
    · refine spec_of_V (E := TE) 0 Tryz.func23 rfl (by simp [Tryz.f23]) fun X hn hX => ?_
      repeat' (first | (refine V_at 1 (Imp.trans (Imp.lendCat 2 0 1 c rfl rfl (Nat.le_refl 1)) (Imp.lendCat 3 1 1 d rfl rfl (Nat.le_refl 1))) ?_; simp only [go_sem, simprocAttr]) | (with_reducible first | refine V_seq ?_ | refine V_skip ?_ | refine V_ret ?_) | ((with_reducible refine V_cond ?_); simp only [go_sem, simprocAttr]) | ((refine V_region (by rw [hn]; rfl) ?_); intro K hK) | ((first | with_reducible refine evOps_n ?_ | ((with_reducible apply evOps_g); rfl)); intro K hK; simp (contextual := true) only [go_sem, simprocAttr]) | with_reducible refine evOps_nil ?_ | ((with_reducible refine hK _ ?_); clear hK K) | (with_reducible first | refine And.intro ?_ ?_ | refine nxt_n ?_ | refine nxt_r ?_ | refine inR_mk ?_ ?_) | ((with_reducible refine evCall_at 40 ?_); refine EvCall.mk (ar) cal_areCategories [] [2,0,1] (by simp [go_sem] <;> (repeat' (first | rfl | constructor))) (by simp [go_sem] <;> (repeat' (first | rfl | constructor))) ?_; all_goals try simp only [go_sem, simprocAttr]) | ((with_reducible refine evCall_at 42 ?_); refine EvCall.mk (hmo) cal_movable [] [0,1] (by simp [go_sem] <;> (repeat' (first | rfl | constructor))) (by simp [go_sem] <;> (repeat' (first | rfl | constructor))) ?_; all_goals try simp only [go_sem, simprocAttr]) | (refine fun (hc : (_ : Bool) = _) => ?_; try simp only [hcS] at hc))
      all_goals try exact om_
      all_goals ((first | refine ret_auto ?_ | refine ret_auto' ?_); simp only [go_sem, simprocAttr, Tryz.f23])
end Go.Eng
end
