/- Draws: a category and an object; the category of which the arrows are taken. -/
import Derived.Test.YtbflkfamigcncaaGreatZ14q
set_option linter.unusedSimpArgs false
set_option linter.unusedVariables false
set_option maxRecDepth 100000
set_option maxHeartbeats 16000000
namespace Go.Eng
open Go Go.Proofs Go.Cats
attribute [local go_sem] List.set_cons_zero List.set_cons_succ
structure CodeOk (l : List Int) : Prop where
  len : l.length ≤ 4096
  b : ∀ i, i < l.length → 0 ≤ l.getD i 0 ∧ l.getD i 0 < 256
theorem CodeOk.src {l : List Int} (h : CodeOk l) : RnOk (from_ l) := from_ok h.len h.b
def pointedF (l : List Int) : Cat × Int := ((drawF (from_ l) 5 14).1, numF (drawF (from_ l) 5 14).2 (drawF (from_ l) 5 14).1.ob)
theorem pointedF_ok {l : List Int} (h : CodeOk l) : CatB (pointedF l).1 := (drawF_ok h.src (by decide) (by decide) (by decide) (by decide)).2
theorem cal_l09Pointed : Callable Tryz.prog 63 := ⟨_, Tryz.func63, rfl, rfl⟩
theorem sp_l09Pointed {l : List Int} (h : CodeOk l) : Spec Tryz.prog 63 [.bor [] (bys l)] [] (.tup [catO 0 (pointedF l).1, iv (pointedF l).2]) (catR 0 (pointedF l).1) := by
  refine spec_of_V (E := TE) 0 Tryz.func63 rfl (by simp [Tryz.f63]) fun X hn hX => ?_
  have hF := sp_l01From (l := l) h.len
  have hD := sp_l02Draw (o := 5) (m := 14) h.src (by decide) (by decide) (by decide) (by decide)
  have hk := (drawF_ok (o := 5) (m := 14) h.src (by decide) (by decide) (by decide) (by decide)).1
  have hN := sp_l02Number (n := (drawF (from_ l) 5 14).1.ob) hk
  have e : pointedF l = ((drawF (from_ l) 5 14).1, numF (drawF (from_ l) 5 14).2 (drawF (from_ l) 5 14).1.ob) := rfl
  rw [e]
  clear e
  generalize drawF (from_ l) 5 14 = d at hD hk hN ⊢
  obtain ⟨c, t⟩ := d
  simp only at hD hk hN ⊢
  repeat' (first | with_reducible refine St.f ?_ | ((with_reducible refine V_cond ?_); simp only [go_sem, simprocAttr]) | ((first | refine V_rg ?_ | refine V_dr ?_); intro K hK) | ((first | with_reducible refine So.f ?_ | ((with_reducible apply evOps_g); rfl) | ((with_reducible apply evOpsD_g); rfl)); intro K hK; simp (contextual := true) only [go_sem, simprocAttr]) | ((with_reducible refine evOpsD_nil ?_ ?_); kernel_rfl) | ((with_reducible refine hK _ ?_); clear hK K) | (with_reducible first | refine And.intro ?_ ?_ | refine inR_mk ?_ ?_) | ((with_reducible refine evCall_at 73 ?_); refine EvCall.mq (hF) cal_l01From [(0,1)] [] ?_; all_goals try simp only [go_sem, simprocAttr]) | ((with_reducible refine evCall_at 74 ?_); refine EvCall.mq (hD) cal_l02Draw [(0,1),(1,2),(2,3),(3,4),(4,5)] [] ?_; all_goals try simp only [go_sem, simprocAttr]) | ((with_reducible refine evCall_at 104 ?_); refine EvCall.mq (hN) cal_l02Number [(0,1)] [] ?_; all_goals try simp only [go_sem, simprocAttr]) | (refine fun (hc : (_ : Bool) = _) => ?_; try simp only [hcS] at hc))
  all_goals try exact om_
  (first | refine ret_auto ?_ | refine ret_auto' ?_); simp only [go_sem, simprocAttr, Tryz.f63]
theorem cal_spec_DrawSliceCategory : Callable Tryz.prog 10 := ⟨_, Tryz.func10, rfl, rfl⟩
theorem sp_spec_DrawSliceCategory {l : List Int} (h : CodeOk l) : Spec Tryz.prog 10 [.bor [] (bys l)] [] (.tup [catO 0 (pointedF l).1, iv (pointedF l).2]) (catR 0 (pointedF l).1) := by
  refine spec_of_V (E := TE) 0 Tryz.func10 rfl (by simp [Tryz.f10]) fun X hn hX => ?_
  have hP := sp_l09Pointed h
  repeat' (first | with_reducible refine St.f ?_ | ((with_reducible refine V_cond ?_); simp only [go_sem, simprocAttr]) | ((refine V_rg ?_); intro K hK) | ((first | with_reducible refine So.f ?_ | ((with_reducible apply evOps_g); rfl)); intro K hK; simp (contextual := true) only [go_sem, simprocAttr]) | ((with_reducible refine hK _ ?_); clear hK K) | (with_reducible first | refine And.intro ?_ ?_ | refine inR_mk ?_ ?_) | ((with_reducible refine evCall_at 63 ?_); refine EvCall.mq (hP) cal_l09Pointed [(0,1),(1,2),(2,3),(3,4)] [] ?_; all_goals try simp only [go_sem, simprocAttr]) | (refine fun (hc : (_ : Bool) = _) => ?_; try simp only [hcS] at hc))
  all_goals try exact om_
  (first | refine ret_auto ?_ | refine ret_auto' ?_); simp only [go_sem, simprocAttr, Tryz.f10]
def arrowDrF (l : List Int) : Cat := (drawF (nextS (from_ l) 4) 4 ([4, 5, 6, 9].getD (nextF (from_ l) 4).toNat 0)).1
theorem pick4 {s : RnS} (hs : RnOk s) : 1 ≤ ([4, 5, 6, 9] : List Int).getD (nextF s 4).toNat 0 ∧ ([4, 5, 6, 9] : List Int).getD (nextF s 4).toNat 0 ≤ 40 := by
  have b := nextF_b (n := 4) hs (by decide)
  have : (nextF s 4).toNat = 0 ∨ (nextF s 4).toNat = 1 ∨ (nextF s 4).toNat = 2 ∨ (nextF s 4).toNat = 3 := by omega
  rcases this with q | q | q | q <;> rw [q] <;> decide
theorem arrowDrF_ok {l : List Int} (h : CodeOk l) : CatB (arrowDrF l) := by
  obtain ⟨h1, h2⟩ := pick4 h.src
  exact (drawF_ok (nextS_ok h.src) (by decide) h2 (by decide) h1).2
theorem cal_spec_DrawArrowCategory : Callable Tryz.prog 18 := ⟨_, Tryz.func18, rfl, rfl⟩
theorem sp_spec_DrawArrowCategory {l : List Int} (h : CodeOk l) : Spec Tryz.prog 18 [.bor [] (bys l)] [] (catO 0 (arrowDrF l)) (catR 0 (arrowDrF l)) := by
  refine spec_of_V (E := TE) 0 Tryz.func18 rfl (by simp [Tryz.f18]) fun X hn hX => ?_
  have hF := sp_l01From (l := l) h.len
  have hP : Spec Tryz.prog 75 [.ptr 0 0, .sl 1] [(0, srcR (from_ l)), (1, ⟨1, .arr (ints [4, 5, 6, 9])⟩)] (iv ([4, 5, 6, 9].getD (nextF (from_ l) 4).toNat 0)) [(0, srcR (nextS (from_ l) 4)), (1, ⟨1, .arr (ints [4, 5, 6, 9])⟩)] := sp_l01Pick (l := [4, 5, 6, 9]) h.src (by simp) (by simp)
  obtain ⟨h1, h2⟩ := pick4 h.src
  have e : arrowDrF l = (drawF (nextS (from_ l) 4) 4 ([4, 5, 6, 9].getD (nextF (from_ l) 4).toNat 0)).1 := rfl
  rw [e]
  clear e
  have hs := h.src
  generalize ([4, 5, 6, 9] : List Int).getD (nextF (from_ l) 4).toNat 0 = m at h1 h2 hP ⊢
  have hD := sp_l02Draw (o := 4) (m := m) (nextS_ok (n := 4) hs) (by decide) h2 (by decide) h1
  generalize drawF (nextS (from_ l) 4) 4 m = d at hD ⊢
  obtain ⟨c, t⟩ := d
  simp only at hD ⊢
  repeat' (first | with_reducible refine St.f ?_ | ((with_reducible refine V_cond ?_); simp only [go_sem, simprocAttr]) | ((refine V_rg ?_); intro K hK) | ((first | with_reducible refine So.f ?_ | ((with_reducible apply evOps_g); rfl)); intro K hK; simp (contextual := true) only [go_sem, simprocAttr]) | ((with_reducible refine hK _ ?_); clear hK K) | (with_reducible first | refine And.intro ?_ ?_ | refine inR_mk ?_ ?_) | ((with_reducible refine evCall_at 73 ?_); refine EvCall.mq (hF) cal_l01From [(0,1)] [] ?_; all_goals try simp only [go_sem, simprocAttr]) | ((with_reducible refine evCall_at 75 ?_); refine EvCall.mq (hP) cal_l01Pick [(0,1),(1,2)] [] ?_; all_goals try simp only [go_sem, simprocAttr]) | ((with_reducible refine evCall_at 74 ?_); refine EvCall.mq (hD) cal_l02Draw [(0,1),(1,3),(2,4),(3,5),(4,6)] [] ?_; all_goals try simp only [go_sem, simprocAttr]) | (refine fun (hc : (_ : Bool) = _) => ?_; try simp only [hcS] at hc))
  all_goals try exact om_
  (first | refine ret_auto ?_ | refine ret_auto' ?_); simp only [go_sem, simprocAttr, Tryz.f18]
end Go.Eng
