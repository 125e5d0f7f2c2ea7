/- Paths in order. -/
import Derived.Test.YtbflkfamigcncaaGreatZ06q
set_option linter.unusedSimpArgs false
set_option linter.unusedVariables false
set_option maxRecDepth 100000
set_option maxHeartbeats 16000000
namespace Go.Eng
open Go Go.Proofs Go.Cats
attribute [local go_sem] List.set_cons_zero List.set_cons_succ
namespace Zp
theorem lessL_drop : ∀ (a b : List Int) (i : Nat), a.take i = b.take i → i ≤ a.length → i ≤ b.length → lessL a b = lessL (a.drop i) (b.drop i)
  | a, b, 0, _, _, _ => rfl
  | [], _, i + 1, _, h, _ => by simp at h
  | _ :: _, [], i + 1, _, _, h => by simp at h
  | x :: a, y :: b, i + 1, h, h1, h2 => by
    simp only [List.take_succ_cons, List.cons.injEq] at h
    obtain ⟨rfl, h⟩ := h
    rw [lessL, if_pos rfl]
    exact lessL_drop a b i h (by simpa using h1) (by simpa using h2)
theorem lessL_at {a b : List Int} {i : Nat} (h : a.take i = b.take i) (ha : i < a.length) (hb : i < b.length) (hne : ¬ a.getD i 0 = b.getD i 0) : lessL a b = decide (a.getD i 0 < b.getD i 0) := by
  rw [lessL_drop a b i h (by omega) (by omega), List.drop_eq_getElem_cons ha, List.drop_eq_getElem_cons hb]
  rw [List.getD_eq_getElem?_getD, List.getElem?_eq_getElem ha, List.getD_eq_getElem?_getD, List.getElem?_eq_getElem hb] at hne ⊢
  simp only [Option.getD_some] at hne ⊢
  rw [lessL, if_neg hne]
theorem lessL_end {a b : List Int} {i : Nat} (h : a.take i = b.take i) (ha : i ≤ a.length) (hb : i ≤ b.length) (he : i = a.length ∨ i = b.length) : lessL a b = decide (a.length < b.length) := by
  rw [lessL_drop a b i h ha hb]
  rcases he with rfl | rfl
  · rw [List.drop_length]
    by_cases q : a.length < b.length
    · rw [decide_eq_true q, List.drop_eq_getElem_cons q]; rfl
    · rw [decide_eq_false q, List.drop_eq_nil_of_le (by omega)]; rfl
  · rw [List.drop_length (l := b)]
    have : ¬ a.length < b.length := by omega
    rw [decide_eq_false this]
    cases a.drop b.length <;> rfl
theorem cal_l01Less : Callable Tryz.prog 283 := ⟨_, Tryz.func283, rfl, rfl⟩
theorem sp_l01Less {a b : List Int} (ha : a.length ≤ 1048576) (hb : b.length ≤ 1048576) : Spec Tryz.prog 283 [.bor [] (ints a), .bor [] (ints b)] [] (bv (lessL a b)) [] := by
  refine spec_of_V (E := TE) 0 Tryz.func283 rfl (by simp [Tryz.f283]) fun X hn hX => ?_
  repeat' (first | with_reducible refine St.f ?_ | ((with_reducible refine V_cond ?_); simp only [go_sem, simprocAttr]) | ((first | refine V_rg ?_ | refine V_dr ?_); intro K hK) | ((first | with_reducible refine So.f ?_ | ((with_reducible apply evOps_g); rfl) | ((with_reducible apply evOpsD_g); rfl)); intro K hK; simp (contextual := true) only [go_sem, simprocAttr]) | ((with_reducible refine evOpsD_nil ?_ ?_); kernel_rfl) | ((with_reducible refine hK _ ?_); clear hK K) | (with_reducible first | refine And.intro ?_ ?_ | refine blk_other (by decide) ?_ | refine inR_mk ?_ ?_) | (refine fun (hc : (_ : Bool) = _) => ?_; try simp only [hcS] at hc))
  all_goals try exact om_
  refine V_loopK (G := {i : Nat // i ≤ a.length ∧ (a.take i = b.take i ∧ i ≤ b.length)}) (fun ⟨i, _⟩ => [(5, iv i)]) [0, 1] (fun ⟨i, _⟩ => []) [] (fun zz => a.length - zz.1) ⟨0, Nat.zero_le _, (⟨rfl, Nat.zero_le _⟩)⟩ ?_ ?_
  · exact Imp.au hX
  rintro ⟨i, hii, hwi⟩
  simp only [go_sem, simprocAttr]
  obtain ⟨hw1, hw2⟩ := hwi
  repeat' (first | with_reducible refine St.f ?_ | ((with_reducible refine V_cond ?_); simp only [go_sem, simprocAttr]) | ((first | refine V_rg ?_ | refine V_dr ?_); intro K hK) | ((first | with_reducible refine So.f ?_ | ((with_reducible apply evOps_g); rfl) | ((with_reducible apply evOpsD_g); rfl)); intro K hK; simp (contextual := true) only [go_sem, simprocAttr]) | ((with_reducible refine evOpsD_nil ?_ ?_); kernel_rfl) | ((with_reducible refine hK _ ?_); clear hK K) | (with_reducible first | refine And.intro ?_ ?_ | refine blk_other (by decide) ?_ | refine inR_mk ?_ ?_) | (refine fun (hc : (_ : Bool) = _) => ?_; try simp only [hcS] at hc))
  all_goals try exact om_
  · (first | refine ret_auto ?_ | refine ret_auto' ?_); simp only [go_sem, simprocAttr, Tryz.f283]
    rw [lessL_at hw1 (by omega) (by omega) hc]
  · refine ⟨⟨i + 1, by omega, (by exact ⟨take_snoc hw1 (by omega) (by omega) hc, by omega⟩)⟩, by simp only; omega, Imp.ao hX⟩
  all_goals ((first | refine ret_auto ?_ | refine ret_auto' ?_); simp only [go_sem, simprocAttr, Tryz.f283]; rw [lessL_end hw1 (by omega) (by omega) (by omega), show decide ((a.length : Int) < (b.length : Int)) = decide (a.length < b.length) from by rw [decide_eq_decide]; omega])
end Zp
open Zp (cal_l01Less)
theorem cal_l03Before : Callable Tryz.prog 280 := ⟨_, Tryz.func280, rfl, rfl⟩
theorem sp_l03Before {a b : Pth} (ha : a.2.2.length ≤ 1048576) (hb : b.2.2.length ≤ 1048576) : Spec Tryz.prog 280 [.agg [iv a.1, iv a.2.1, .bor [] (ints a.2.2)], .agg [iv b.1, iv b.2.1, .bor [] (ints b.2.2)]] [] (.v (.bool (pLess a b))) [] := by
  have hless := Zp.sp_l01Less ha hb
  unfold pLess
  refine spec_of_V (E := TE) 0 Tryz.func280 rfl (by simp [Tryz.f280]) fun X hn hX => ?_
  by_cases h1 : a.1 = b.1
  · rw [if_neg (by simpa using h1)]
    by_cases h2 : a.2.1 = b.2.1
    · rw [if_neg (by simpa using h2)]
      repeat' (first | with_reducible refine St.f ?_ | ((with_reducible refine V_cond ?_); simp only [go_sem, simprocAttr]) | ((refine V_rg ?_); intro K hK) | ((first | with_reducible refine So.f ?_ | ((with_reducible apply evOps_g); rfl)); intro K hK; simp (contextual := true) only [go_sem, simprocAttr]) | ((with_reducible refine hK _ ?_); clear hK K) | (with_reducible first | refine And.intro ?_ ?_ | refine inR_mk ?_ ?_) | ((with_reducible refine evCall_at 283 ?_); refine EvCall.mq (hless) cal_l01Less [] [] ?_; all_goals try simp only [go_sem, simprocAttr]) | (refine fun (hc : (_ : Bool) = _) => ?_; try simp only [hcS] at hc))
      all_goals try exact om_
      all_goals try (exfalso; omega)
      (first | refine ret_auto ?_ | refine ret_auto' ?_); simp only [go_sem, simprocAttr, Tryz.f280]
    · rw [if_pos h2]
      repeat' (first | with_reducible refine St.f ?_ | ((with_reducible refine V_cond ?_); simp only [go_sem, simprocAttr]) | ((refine V_rg ?_); intro K hK) | ((first | with_reducible refine So.f ?_ | ((with_reducible apply evOps_g); rfl)); intro K hK; simp (contextual := true) only [go_sem, simprocAttr]) | ((with_reducible refine hK _ ?_); clear hK K) | (with_reducible first | refine And.intro ?_ ?_ | refine inR_mk ?_ ?_) | (refine fun (hc : (_ : Bool) = _) => ?_; try simp only [hcS] at hc))
      all_goals try exact om_
      all_goals try (exfalso; omega)
      (first | refine ret_auto ?_ | refine ret_auto' ?_); simp only [go_sem, simprocAttr, Tryz.f280]
  · rw [if_pos h1]
    repeat' (first | with_reducible refine St.f ?_ | ((with_reducible refine V_cond ?_); simp only [go_sem, simprocAttr]) | ((refine V_rg ?_); intro K hK) | ((first | with_reducible refine So.f ?_ | ((with_reducible apply evOps_g); rfl)); intro K hK; simp (contextual := true) only [go_sem, simprocAttr]) | ((with_reducible refine hK _ ?_); clear hK K) | (with_reducible first | refine And.intro ?_ ?_ | refine inR_mk ?_ ?_) | (refine fun (hc : (_ : Bool) = _) => ?_; try simp only [hcS] at hc))
    all_goals try exact om_
    all_goals try (exfalso; omega)
    (first | refine ret_auto ?_ | refine ret_auto' ?_); simp only [go_sem, simprocAttr, Tryz.f280]
end Go.Eng
