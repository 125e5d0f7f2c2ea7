/- Draws of categories, rarely spoilt; a category and an object. -/
import Derived.Test.YtbflkfamigcncaaGreatZ13q
set_option linter.unusedSimpArgs false
set_option linter.unusedVariables false
set_option maxRecDepth 100000
set_option maxHeartbeats 16000000
namespace Go.Eng
open Go Go.Proofs Go.Cats
attribute [go_sem] catR catQ
def drawF (s : RnS) (o m : Int) : Cat × RnS := if nextF (somF o m 12 s).2 24 = 0 then bendF (nextS (somF o m 12 s).2 24) (somF o m 12 s).1 else ((somF o m 12 s).1, nextS (somF o m 12 s).2 24)
theorem drawF_ok {s : RnS} {o m : Int} (hs : RnOk s) (ho : o ≤ 8) (hm : m ≤ 40) (ho1 : 1 ≤ o) (hm1 : 1 ≤ m) : RnOk (drawF s o m).2 ∧ CatB (drawF s o m).1 := by
  obtain ⟨h1, h2, _⟩ := somF_ok ho hm ho1 hm1 12 s hs
  unfold drawF
  split
  · exact bendF_ok (nextS_ok h1) h2.toShape
  · exact ⟨nextS_ok (n := 24) h1, shape_B h2.toShape⟩
theorem cal_l02Draw : Callable Tryz.prog 74 := ⟨_, Tryz.func74, rfl, rfl⟩
theorem sp_l02Draw {s : RnS} {o m : Int} (hs : RnOk s) (ho : o ≤ 8) (hm : m ≤ 40) (ho1 : 1 ≤ o) (hm1 : 1 ≤ m) : Spec Tryz.prog 74 [.ptr 0 0, iv o, iv m] [(0, srcR s)] (catO 1 (drawF s o m).1) ((0, srcR (drawF s o m).2) :: catR 1 (drawF s o m).1) := by
  refine spec_of_V (E := TE) 1 Tryz.func74 rfl (by simp [Tryz.f74]) fun X hn hX => ?_
  obtain ⟨h1, h2, _⟩ := somF_ok ho hm ho1 hm1 12 s hs
  have hA := sp_l02Some hs ho hm
  have ed : drawF s o m = if nextF (somF o m 12 s).2 24 = 0 then bendF (nextS (somF o m 12 s).2 24) (somF o m 12 s).1 else ((somF o m 12 s).1, nextS (somF o m 12 s).2 24) := rfl
  rw [ed]
  clear ed
  obtain ⟨c, t, hct⟩ : ∃ c t, somF o m 12 s = (c, t) := ⟨_, _, rfl⟩
  rw [hct] at h1 h2 hA ⊢
  simp only at h1 h2 hA ⊢
  have hB := sp_l01Next (n := 24) h1
  have hC := sp_l02Bend (nextS_ok (n := 24) h1) h2.toShape
  by_cases h0 : nextF t 24 = 0
  · rw [if_pos h0]
    rw [h0] at hB
    repeat' (first | with_reducible refine St.f ?_ | ((with_reducible refine V_cond ?_); simp only [go_sem, simprocAttr]) | ((refine V_rg ?_); intro K hK) | ((first | with_reducible refine So.f ?_ | ((with_reducible apply evOps_g); rfl)); intro K hK; simp (contextual := true) only [go_sem, simprocAttr]) | ((with_reducible refine hK _ ?_); clear hK K) | (with_reducible first | refine And.intro ?_ ?_ | refine inR_mk ?_ ?_) | ((with_reducible refine evCall_at 145 ?_); refine EvCall.mq (hA) cal_l02Some [(0,0),(1,2),(2,3),(3,4),(4,5)] [] ?_; all_goals try simp only [go_sem, simprocAttr]) | ((with_reducible refine evCall_at 146 ?_); refine EvCall.mq (hB) cal_l01Next [(0,0)] [] ?_; all_goals try simp only [go_sem, simprocAttr]) | ((with_reducible refine evCall_at 147 ?_); refine EvCall.mq (hC) cal_l02Bend [(0,0),(1,2),(2,3),(3,4),(4,5),(5,7),(6,8),(7,9),(8,10)] [] ?_; all_goals try simp only [go_sem, simprocAttr]) | (refine fun (hc : (_ : Bool) = _) => ?_; try simp only [hcS] at hc))
    all_goals try exact om_
    (first | refine ret_auto ?_ | refine ret_auto' ?_); simp only [go_sem, simprocAttr, Tryz.f74]
  · rw [if_neg h0]
    repeat' (first | (refine V_at 4 (Imp.arrAb 5 _ (intss c.co) rfl rfl) ?_; simp only [go_sem, simprocAttr]) | with_reducible refine St.f ?_ | ((with_reducible refine V_cond ?_); simp only [go_sem, simprocAttr]) | ((refine V_rg ?_); intro K hK) | ((first | with_reducible refine So.f ?_ | ((with_reducible apply evOps_g); rfl)); intro K hK; simp (contextual := true) only [go_sem, simprocAttr]) | ((with_reducible refine hK _ ?_); clear hK K) | (with_reducible first | refine And.intro ?_ ?_ | refine inR_mk ?_ ?_) | ((with_reducible refine evCall_at 145 ?_); refine EvCall.mq (hA) cal_l02Some [(0,0),(1,2),(2,3),(3,4),(4,5)] [] ?_; all_goals try simp only [go_sem, simprocAttr]) | ((with_reducible refine evCall_at 146 ?_); refine EvCall.mq (hB) cal_l01Next [(0,0)] [] ?_; all_goals try simp only [go_sem, simprocAttr]) | (refine fun (hc : (_ : Bool) = _) => ?_; try simp only [hcS] at hc))
    all_goals try exact om_
    all_goals try contradiction
    (first | refine ret_auto ?_ | refine ret_auto' ?_); simp only [go_sem, simprocAttr, Tryz.f74]
end Go.Eng
