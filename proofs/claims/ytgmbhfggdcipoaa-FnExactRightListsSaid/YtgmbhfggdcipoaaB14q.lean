/- RightLists, by the program and by the reference. -/
import Derived.Test.YtgmbhfggdcipoaaKdx
import Derived.Test.YtgmbhfggdcipoaaB11q
import Derived.Test.YtgmbhfggdcipoaaB12q
import Derived.Test.YtgmbhfggdcipoaaB13q
set_option linter.unusedSimpArgs false
set_option linter.unusedVariables false
set_option maxRecDepth 100000
set_option maxHeartbeats 16000000
namespace Go.Eng
open Go Go.Proofs Go.Cats

/-- The error of a functor and a set functor on its source; the same with an object of its target. -/
def _root_.Go.Cats.BCo (k : Fun) (f : SF) (c : Int) : Prop := (¬ (IsFun k ∧ IsSF f) ∧ c = 1) ∨ (IsFun k ∧ IsSF f ∧ k.src ≠ f.shape ∧ c = 5) ∨ (IsFun k ∧ IsSF f ∧ k.src = f.shape ∧ c = 0)
def _root_.Go.Cats.RCo (k : Fun) (f : SF) (y : Int) (c : Int) : Prop := (¬ (IsFun k ∧ IsSF f) ∧ c = 1) ∨ (IsFun k ∧ IsSF f ∧ ¬ (0 ≤ y ∧ y < k.tgt.ob) ∧ c = 2) ∨ (IsFun k ∧ IsSF f ∧ (0 ≤ y ∧ y < k.tgt.ob) ∧ k.src ≠ f.shape ∧ c = 5) ∨ (IsFun k ∧ IsSF f ∧ (0 ≤ y ∧ y < k.tgt.ob) ∧ k.src = f.shape ∧ c = 0)
theorem rco_cases (k : Fun) (f : SF) (y : Int) : (∃ c, RCo k f y c ∧ c ≠ 0) ∨ (IsFun k ∧ IsSF f ∧ (0 ≤ y ∧ y < k.tgt.ob) ∧ k.src = f.shape) := by
  unfold Go.Cats.RCo
  by_cases h1 : IsFun k ∧ IsSF f
  · by_cases h2 : 0 ≤ y ∧ y < k.tgt.ob
    · by_cases h3 : k.src = f.shape
      · exact .inr ⟨h1.1, h1.2, h2, h3⟩
      · exact .inl ⟨5, .inr (.inr (.inl ⟨h1.1, h1.2, h2, h3, rfl⟩)), by decide⟩
    · exact .inl ⟨2, .inr (.inl ⟨h1.1, h1.2, h2, rfl⟩), by decide⟩
  · exact .inl ⟨1, .inl ⟨h1, rfl⟩, by decide⟩
theorem cal_baseCode : Callable Try.prog 70 := ⟨_, Try.func70, rfl, rfl⟩
theorem sp_baseCode {k : Fun} {f : SF} {c : Int} (hk : FunB k) (hf : SFB f) (h : BCo k f c) : Spec Try.prog 70 [.bptr [] (funD k), .bptr [] (sfD f)] [] (iv c) [] := by
  refine spec_of_V (E := TE) 0 Try.func70 rfl (by simp [Try.f70]) fun X hn hX => ?_
  have k1 := hk.src
  have f1 := hf.shape
  rcases h with ⟨h6, rfl⟩ | ⟨h6, h7, h8, rfl⟩ | ⟨h6, h7, h8, rfl⟩
  · repeat' (first
      | with_reducible first | refine V_seq ?_ | refine V_block ?_ | refine V_skip ?_ | refine V_ret ?_ | refine V_exit ?_
      | ((with_reducible refine V_cond ?_); simp only [go_sem, simprocAttr])
      | ((first | refine V_region (by rw [hn]; rfl) ?_ | refine V_drawn hmix (by rw [hn]; rfl) ?_); intro K hK)
      | ((first | with_reducible refine evOps_n ?_ | ((with_reducible apply evOps_g); rfl) | with_reducible refine evOpsD_n ?_ | ((with_reducible apply evOpsD_g); rfl)); intro K hK; simp (contextual := true) only [go_sem, simprocAttr])
      | with_reducible refine evOps_nil ?_
      | ((with_reducible refine evOpsD_nil ?_ ?_); kernel_rfl)
      | ((with_reducible refine hK _ ?_); clear hK K)
      | with_reducible first | refine And.intro ?_ ?_ | refine nxt_n ?_ | refine nxt_r ?_ | refine nxt_e ?_ | refine blk_n ?_ | refine blk_r ?_ | refine blk_same ?_ | refine blk_other (by decide) ?_ | refine noG_n ?_ | refine noG_r ?_ | refine noG_e ?_ | refine inR_mk ?_ ?_
      | ((with_reducible refine evCall_at 100 ?_); refine EvCall.rd (by first | (simp only [go_sem, simprocAttr]; rfl) | rfl) (sp_Functor_isFunctor (f:=k) ?_) cal_Functor_isFunctor (by simp [go_sem]) (by simp [go_sem]) ?_; all_goals try simp only [go_sem, simprocAttr])
      | ((with_reducible refine evCall_at 76 ?_); refine EvCall.rd (by first | (simp only [go_sem, simprocAttr]; rfl) | rfl) (sp_SetFunctor_isSetFunctor (f:=f) ?_) cal_SetFunctor_isSetFunctor (by simp [go_sem]) (by simp [go_sem]) ?_; all_goals try simp only [go_sem, simprocAttr])
      | (refine fun (hc : (_ : Bool) = _) => ?_; try simp only [hcS] at hc))
    all_goals try (first | (with_reducible assumption) | ((try simp only [Cat.F, Cat.T, Cat.I, Cat.C, Fun.O, Fun.A, Cat.Entry, Int.toNat_natCast] at *); omega))
    all_goals try ((first | refine ret_auto ?_ | refine ret_auto' ?_); simp only [go_sem, simprocAttr, Try.f70])
    all_goals first | contradiction | exact absurd ⟨by assumption, by assumption⟩ h6
  · repeat' (first
      | with_reducible first | refine V_seq ?_ | refine V_block ?_ | refine V_skip ?_ | refine V_ret ?_ | refine V_exit ?_
      | ((with_reducible refine V_cond ?_); simp only [go_sem, simprocAttr])
      | ((first | refine V_region (by rw [hn]; rfl) ?_ | refine V_drawn hmix (by rw [hn]; rfl) ?_); intro K hK)
      | ((first | with_reducible refine evOps_n ?_ | ((with_reducible apply evOps_g); rfl) | with_reducible refine evOpsD_n ?_ | ((with_reducible apply evOpsD_g); rfl)); intro K hK; simp (contextual := true) only [go_sem, simprocAttr])
      | with_reducible refine evOps_nil ?_
      | ((with_reducible refine evOpsD_nil ?_ ?_); kernel_rfl)
      | ((with_reducible refine hK _ ?_); clear hK K)
      | with_reducible first | refine And.intro ?_ ?_ | refine nxt_n ?_ | refine nxt_r ?_ | refine nxt_e ?_ | refine blk_n ?_ | refine blk_r ?_ | refine blk_same ?_ | refine blk_other (by decide) ?_ | refine noG_n ?_ | refine noG_r ?_ | refine noG_e ?_ | refine inR_mk ?_ ?_
      | ((with_reducible refine evCall_at 100 ?_); refine EvCall.rd (by first | (simp only [go_sem, simprocAttr]; rfl) | rfl) (sp_Functor_isFunctor (f:=k) ?_) cal_Functor_isFunctor (by simp [go_sem]) (by simp [go_sem]) ?_; all_goals try simp only [go_sem, simprocAttr])
      | ((with_reducible refine evCall_at 76 ?_); refine EvCall.rd (by first | (simp only [go_sem, simprocAttr]; rfl) | rfl) (sp_SetFunctor_isSetFunctor (f:=f) ?_) cal_SetFunctor_isSetFunctor (by simp [go_sem]) (by simp [go_sem]) ?_; all_goals try simp only [go_sem, simprocAttr])
      | ((with_reducible refine evCall_at 88 ?_); refine EvCall.rd (by first | (simp only [go_sem, simprocAttr]; rfl) | rfl) (sp_sameCategory (c:=k.src) (d:=f.shape) ?_ ?_) cal_sameCategory (by simp [go_sem]) (by simp [go_sem]) ?_; all_goals try simp only [go_sem, simprocAttr])
      | (refine fun (hc : (_ : Bool) = _) => ?_; try simp only [hcS] at hc))
    all_goals try (first | (with_reducible assumption) | ((try simp only [Cat.F, Cat.T, Cat.I, Cat.C, Fun.O, Fun.A, Cat.Entry, Int.toNat_natCast] at *); omega))
    all_goals try ((first | refine ret_auto ?_ | refine ret_auto' ?_); simp only [go_sem, simprocAttr, Try.f70])
    all_goals contradiction
  · repeat' (first
      | with_reducible first | refine V_seq ?_ | refine V_block ?_ | refine V_skip ?_ | refine V_ret ?_ | refine V_exit ?_
      | ((with_reducible refine V_cond ?_); simp only [go_sem, simprocAttr])
      | ((first | refine V_region (by rw [hn]; rfl) ?_ | refine V_drawn hmix (by rw [hn]; rfl) ?_); intro K hK)
      | ((first | with_reducible refine evOps_n ?_ | ((with_reducible apply evOps_g); rfl) | with_reducible refine evOpsD_n ?_ | ((with_reducible apply evOpsD_g); rfl)); intro K hK; simp (contextual := true) only [go_sem, simprocAttr])
      | with_reducible refine evOps_nil ?_
      | ((with_reducible refine evOpsD_nil ?_ ?_); kernel_rfl)
      | ((with_reducible refine hK _ ?_); clear hK K)
      | with_reducible first | refine And.intro ?_ ?_ | refine nxt_n ?_ | refine nxt_r ?_ | refine nxt_e ?_ | refine blk_n ?_ | refine blk_r ?_ | refine blk_same ?_ | refine blk_other (by decide) ?_ | refine noG_n ?_ | refine noG_r ?_ | refine noG_e ?_ | refine inR_mk ?_ ?_
      | ((with_reducible refine evCall_at 100 ?_); refine EvCall.rd (by first | (simp only [go_sem, simprocAttr]; rfl) | rfl) (sp_Functor_isFunctor (f:=k) ?_) cal_Functor_isFunctor (by simp [go_sem]) (by simp [go_sem]) ?_; all_goals try simp only [go_sem, simprocAttr])
      | ((with_reducible refine evCall_at 76 ?_); refine EvCall.rd (by first | (simp only [go_sem, simprocAttr]; rfl) | rfl) (sp_SetFunctor_isSetFunctor (f:=f) ?_) cal_SetFunctor_isSetFunctor (by simp [go_sem]) (by simp [go_sem]) ?_; all_goals try simp only [go_sem, simprocAttr])
      | ((with_reducible refine evCall_at 88 ?_); refine EvCall.rd (by first | (simp only [go_sem, simprocAttr]; rfl) | rfl) (sp_sameCategory (c:=k.src) (d:=f.shape) ?_ ?_) cal_sameCategory (by simp [go_sem]) (by simp [go_sem]) ?_; all_goals try simp only [go_sem, simprocAttr])
      | (refine fun (hc : (_ : Bool) = _) => ?_; try simp only [hcS] at hc))
    all_goals try (first | (with_reducible assumption) | ((try simp only [Cat.F, Cat.T, Cat.I, Cat.C, Fun.O, Fun.A, Cat.Entry, Int.toNat_natCast] at *); omega))
    all_goals try ((first | refine ret_auto ?_ | refine ret_auto' ?_); simp only [go_sem, simprocAttr, Try.f70])
    all_goals contradiction

theorem cal_baseAtCode : Callable Try.prog 66 := ⟨_, Try.func66, rfl, rfl⟩
theorem sp_baseAtCode {k : Fun} {f : SF} {y c : Int} (hk : FunB k) (hf : SFB f) (h : RCo k f y c) : Spec Try.prog 66 [.bptr [] (funD k), .bptr [] (sfD f), iv y] [] (iv c) [] := by
  refine spec_of_V (E := TE) 0 Try.func66 rfl (by simp [Try.f66]) fun X hn hX => ?_
  rcases h with ⟨h6, rfl⟩ | ⟨h6, h7, h8, rfl⟩ | ⟨h6, h7, h8, h9, rfl⟩ | ⟨h6, h7, h8, h9, rfl⟩
  · repeat' (first
      | with_reducible first | refine V_seq ?_ | refine V_block ?_ | refine V_skip ?_ | refine V_ret ?_ | refine V_exit ?_
      | ((with_reducible refine V_cond ?_); simp only [go_sem, simprocAttr])
      | ((first | refine V_region (by rw [hn]; rfl) ?_ | refine V_drawn hmix (by rw [hn]; rfl) ?_); intro K hK)
      | ((first | with_reducible refine evOps_n ?_ | ((with_reducible apply evOps_g); rfl) | with_reducible refine evOpsD_n ?_ | ((with_reducible apply evOpsD_g); rfl)); intro K hK; simp (contextual := true) only [go_sem, simprocAttr])
      | with_reducible refine evOps_nil ?_
      | ((with_reducible refine evOpsD_nil ?_ ?_); kernel_rfl)
      | ((with_reducible refine hK _ ?_); clear hK K)
      | with_reducible first | refine And.intro ?_ ?_ | refine nxt_n ?_ | refine nxt_r ?_ | refine nxt_e ?_ | refine blk_n ?_ | refine blk_r ?_ | refine blk_same ?_ | refine blk_other (by decide) ?_ | refine noG_n ?_ | refine noG_r ?_ | refine noG_e ?_ | refine inR_mk ?_ ?_
      | ((with_reducible refine evCall_at 100 ?_); refine EvCall.rd (by first | (simp only [go_sem, simprocAttr]; rfl) | rfl) (sp_Functor_isFunctor (f:=k) ?_) cal_Functor_isFunctor (by simp [go_sem]) (by simp [go_sem]) ?_; all_goals try simp only [go_sem, simprocAttr])
      | ((with_reducible refine evCall_at 76 ?_); refine EvCall.rd (by first | (simp only [go_sem, simprocAttr]; rfl) | rfl) (sp_SetFunctor_isSetFunctor (f:=f) ?_) cal_SetFunctor_isSetFunctor (by simp [go_sem]) (by simp [go_sem]) ?_; all_goals try simp only [go_sem, simprocAttr])
      | (refine fun (hc : (_ : Bool) = _) => ?_; try simp only [hcS] at hc))
    all_goals try (first | (with_reducible assumption) | ((try simp only [Cat.F, Cat.T, Cat.I, Cat.C, Fun.O, Fun.A, Cat.Entry, Int.toNat_natCast] at *); omega))
    all_goals try ((first | refine ret_auto ?_ | refine ret_auto' ?_); simp only [go_sem, simprocAttr, Try.f66])
    all_goals first | contradiction | exact absurd ⟨by assumption, by assumption⟩ h6
  all_goals have h10 := h6.tgt.ob0
  all_goals have h11 := h6.tgt.ob8
  · repeat' (first
      | with_reducible first | refine V_seq ?_ | refine V_block ?_ | refine V_skip ?_ | refine V_ret ?_ | refine V_exit ?_
      | ((with_reducible refine V_cond ?_); simp only [go_sem, simprocAttr])
      | ((first | refine V_region (by rw [hn]; rfl) ?_ | refine V_drawn hmix (by rw [hn]; rfl) ?_); intro K hK)
      | ((first | with_reducible refine evOps_n ?_ | ((with_reducible apply evOps_g); rfl) | with_reducible refine evOpsD_n ?_ | ((with_reducible apply evOpsD_g); rfl)); intro K hK; simp (contextual := true) only [go_sem, simprocAttr])
      | with_reducible refine evOps_nil ?_
      | ((with_reducible refine evOpsD_nil ?_ ?_); kernel_rfl)
      | ((with_reducible refine hK _ ?_); clear hK K)
      | with_reducible first | refine And.intro ?_ ?_ | refine nxt_n ?_ | refine nxt_r ?_ | refine nxt_e ?_ | refine blk_n ?_ | refine blk_r ?_ | refine blk_same ?_ | refine blk_other (by decide) ?_ | refine noG_n ?_ | refine noG_r ?_ | refine noG_e ?_ | refine inR_mk ?_ ?_
      | ((with_reducible refine evCall_at 100 ?_); refine EvCall.rd (by first | (simp only [go_sem, simprocAttr]; rfl) | rfl) (sp_Functor_isFunctor (f:=k) ?_) cal_Functor_isFunctor (by simp [go_sem]) (by simp [go_sem]) ?_; all_goals try simp only [go_sem, simprocAttr])
      | ((with_reducible refine evCall_at 76 ?_); refine EvCall.rd (by first | (simp only [go_sem, simprocAttr]; rfl) | rfl) (sp_SetFunctor_isSetFunctor (f:=f) ?_) cal_SetFunctor_isSetFunctor (by simp [go_sem]) (by simp [go_sem]) ?_; all_goals try simp only [go_sem, simprocAttr])
      | ((with_reducible refine evCall_at 54 ?_); refine EvCall.rd (by first | (simp only [go_sem, simprocAttr]; rfl) | rfl) (sp_inRange) cal_inRange (by simp [go_sem]) (by simp [go_sem]) ?_; all_goals try simp only [go_sem, simprocAttr])
      | (refine fun (hc : (_ : Bool) = _) => ?_; try simp only [hcS] at hc))
    all_goals try (first | (with_reducible assumption) | ((try simp only [Cat.F, Cat.T, Cat.I, Cat.C, Fun.O, Fun.A, Cat.Entry, Int.toNat_natCast] at *); omega))
    all_goals try ((first | refine ret_auto ?_ | refine ret_auto' ?_); simp only [go_sem, simprocAttr, Try.f66])
    all_goals first | contradiction | (exfalso; omega)
  · have hb : BCo k f 5 := .inr (.inl ⟨h6, h7, h9, rfl⟩)
    repeat' (first
      | with_reducible first | refine V_seq ?_ | refine V_block ?_ | refine V_skip ?_ | refine V_ret ?_ | refine V_exit ?_
      | ((with_reducible refine V_cond ?_); simp only [go_sem, simprocAttr])
      | ((first | refine V_region (by rw [hn]; rfl) ?_ | refine V_drawn hmix (by rw [hn]; rfl) ?_); intro K hK)
      | ((first | with_reducible refine evOps_n ?_ | ((with_reducible apply evOps_g); rfl) | with_reducible refine evOpsD_n ?_ | ((with_reducible apply evOpsD_g); rfl)); intro K hK; simp (contextual := true) only [go_sem, simprocAttr])
      | with_reducible refine evOps_nil ?_
      | ((with_reducible refine evOpsD_nil ?_ ?_); kernel_rfl)
      | ((with_reducible refine hK _ ?_); clear hK K)
      | with_reducible first | refine And.intro ?_ ?_ | refine nxt_n ?_ | refine nxt_r ?_ | refine nxt_e ?_ | refine blk_n ?_ | refine blk_r ?_ | refine blk_same ?_ | refine blk_other (by decide) ?_ | refine noG_n ?_ | refine noG_r ?_ | refine noG_e ?_ | refine inR_mk ?_ ?_
      | ((with_reducible refine evCall_at 100 ?_); refine EvCall.rd (by first | (simp only [go_sem, simprocAttr]; rfl) | rfl) (sp_Functor_isFunctor (f:=k) ?_) cal_Functor_isFunctor (by simp [go_sem]) (by simp [go_sem]) ?_; all_goals try simp only [go_sem, simprocAttr])
      | ((with_reducible refine evCall_at 76 ?_); refine EvCall.rd (by first | (simp only [go_sem, simprocAttr]; rfl) | rfl) (sp_SetFunctor_isSetFunctor (f:=f) ?_) cal_SetFunctor_isSetFunctor (by simp [go_sem]) (by simp [go_sem]) ?_; all_goals try simp only [go_sem, simprocAttr])
      | ((with_reducible refine evCall_at 54 ?_); refine EvCall.rd (by first | (simp only [go_sem, simprocAttr]; rfl) | rfl) (sp_inRange) cal_inRange (by simp [go_sem]) (by simp [go_sem]) ?_; all_goals try simp only [go_sem, simprocAttr])
      | ((with_reducible refine evCall_at 70 ?_); refine EvCall.rd (by first | (simp only [go_sem, simprocAttr]; rfl) | rfl) (sp_baseCode (k:=k) (f:=f) (c:=5) ?_ ?_ ?_) cal_baseCode (by simp [go_sem]) (by simp [go_sem]) ?_; all_goals try simp only [go_sem, simprocAttr])
      | (refine fun (hc : (_ : Bool) = _) => ?_; try simp only [hcS] at hc))
    all_goals try (first | (with_reducible assumption) | ((try simp only [Cat.F, Cat.T, Cat.I, Cat.C, Fun.O, Fun.A, Cat.Entry, Int.toNat_natCast] at *); omega))
    all_goals try ((first | refine ret_auto ?_ | refine ret_auto' ?_); simp only [go_sem, simprocAttr, Try.f66])
    all_goals first | contradiction | (exfalso; omega)
  · have hb : BCo k f 0 := .inr (.inr ⟨h6, h7, h9, rfl⟩)
    repeat' (first
      | with_reducible first | refine V_seq ?_ | refine V_block ?_ | refine V_skip ?_ | refine V_ret ?_ | refine V_exit ?_
      | ((with_reducible refine V_cond ?_); simp only [go_sem, simprocAttr])
      | ((first | refine V_region (by rw [hn]; rfl) ?_ | refine V_drawn hmix (by rw [hn]; rfl) ?_); intro K hK)
      | ((first | with_reducible refine evOps_n ?_ | ((with_reducible apply evOps_g); rfl) | with_reducible refine evOpsD_n ?_ | ((with_reducible apply evOpsD_g); rfl)); intro K hK; simp (contextual := true) only [go_sem, simprocAttr])
      | with_reducible refine evOps_nil ?_
      | ((with_reducible refine evOpsD_nil ?_ ?_); kernel_rfl)
      | ((with_reducible refine hK _ ?_); clear hK K)
      | with_reducible first | refine And.intro ?_ ?_ | refine nxt_n ?_ | refine nxt_r ?_ | refine nxt_e ?_ | refine blk_n ?_ | refine blk_r ?_ | refine blk_same ?_ | refine blk_other (by decide) ?_ | refine noG_n ?_ | refine noG_r ?_ | refine noG_e ?_ | refine inR_mk ?_ ?_
      | ((with_reducible refine evCall_at 100 ?_); refine EvCall.rd (by first | (simp only [go_sem, simprocAttr]; rfl) | rfl) (sp_Functor_isFunctor (f:=k) ?_) cal_Functor_isFunctor (by simp [go_sem]) (by simp [go_sem]) ?_; all_goals try simp only [go_sem, simprocAttr])
      | ((with_reducible refine evCall_at 76 ?_); refine EvCall.rd (by first | (simp only [go_sem, simprocAttr]; rfl) | rfl) (sp_SetFunctor_isSetFunctor (f:=f) ?_) cal_SetFunctor_isSetFunctor (by simp [go_sem]) (by simp [go_sem]) ?_; all_goals try simp only [go_sem, simprocAttr])
      | ((with_reducible refine evCall_at 54 ?_); refine EvCall.rd (by first | (simp only [go_sem, simprocAttr]; rfl) | rfl) (sp_inRange) cal_inRange (by simp [go_sem]) (by simp [go_sem]) ?_; all_goals try simp only [go_sem, simprocAttr])
      | ((with_reducible refine evCall_at 70 ?_); refine EvCall.rd (by first | (simp only [go_sem, simprocAttr]; rfl) | rfl) (sp_baseCode (k:=k) (f:=f) (c:=0) ?_ ?_ ?_) cal_baseCode (by simp [go_sem]) (by simp [go_sem]) ?_; all_goals try simp only [go_sem, simprocAttr])
      | (refine fun (hc : (_ : Bool) = _) => ?_; try simp only [hcS] at hc))
    all_goals try (first | (with_reducible assumption) | ((try simp only [Cat.F, Cat.T, Cat.I, Cat.C, Fun.O, Fun.A, Cat.Entry, Int.toNat_natCast] at *); omega))
    all_goals try ((first | refine ret_auto ?_ | refine ret_auto' ?_); simp only [go_sem, simprocAttr, Try.f66])
    all_goals first | contradiction | (exfalso; omega)

theorem cal_l23Place : Callable Try.prog 63 := ⟨_, Try.func63, rfl, rfl⟩
theorem sp_l23Place {k : Fun} {f : SF} {y c : Int} (hk : FunB k) (hf : SFB f) (h : RCo k f y c) : Spec Try.prog 63 [funV k, sfV f, iv y] [] (iv c) [] := by
  refine spec_of_V (E := TE) 0 Try.func63 rfl (by simp [Try.f63]) fun X hn hX => ?_
  have k1 := hk.src
  have f1 := hf.shape
  rcases h with ⟨h6, rfl⟩ | ⟨h6, h7, h8, rfl⟩ | ⟨h6, h7, h8, h9, rfl⟩ | ⟨h6, h7, h8, h9, rfl⟩
  · repeat' (first
      | with_reducible first | refine V_seq ?_ | refine V_block ?_ | refine V_skip ?_ | refine V_ret ?_ | refine V_exit ?_
      | ((with_reducible refine V_cond ?_); simp only [go_sem, simprocAttr])
      | ((first | refine V_region (by rw [hn]; rfl) ?_ | refine V_drawn hmix (by rw [hn]; rfl) ?_); intro K hK)
      | ((first | with_reducible refine evOps_n ?_ | ((with_reducible apply evOps_g); rfl) | with_reducible refine evOpsD_n ?_ | ((with_reducible apply evOpsD_g); rfl)); intro K hK; simp (contextual := true) only [go_sem, simprocAttr])
      | with_reducible refine evOps_nil ?_
      | ((with_reducible refine evOpsD_nil ?_ ?_); kernel_rfl)
      | ((with_reducible refine hK _ ?_); clear hK K)
      | with_reducible first | refine And.intro ?_ ?_ | refine nxt_n ?_ | refine nxt_r ?_ | refine nxt_e ?_ | refine blk_n ?_ | refine blk_r ?_ | refine blk_same ?_ | refine blk_other (by decide) ?_ | refine noG_n ?_ | refine noG_r ?_ | refine noG_e ?_ | refine inR_mk ?_ ?_
      | ((with_reducible refine evCall_at 98 ?_); refine EvCall.rd (by first | (simp only [go_sem, simprocAttr]; rfl) | rfl) (sp_l06Is (f:=k) ?_) cal_l06Is (by simp [go_sem]) (by simp [go_sem]) ?_; all_goals try simp only [go_sem, simprocAttr])
      | ((with_reducible refine evCall_at 48 ?_); refine EvCall.rd (by first | (simp only [go_sem, simprocAttr]; rfl) | rfl) (sp_l19Is (f:=f) ?_) cal_l19Is (by simp [go_sem]) (by simp [go_sem]) ?_; all_goals try simp only [go_sem, simprocAttr])
      | (refine fun (hc : (_ : Bool) = _) => ?_; try simp only [hcS] at hc))
    all_goals try (first | (with_reducible assumption) | ((try simp only [Cat.F, Cat.T, Cat.I, Cat.C, Fun.O, Fun.A, Cat.Entry, Int.toNat_natCast] at *); omega))
    all_goals try ((first | refine ret_auto ?_ | refine ret_auto' ?_); simp only [go_sem, simprocAttr, Try.f63])
    all_goals first | contradiction | exact absurd ⟨by assumption, by assumption⟩ h6
  · repeat' (first
      | with_reducible first | refine V_seq ?_ | refine V_block ?_ | refine V_skip ?_ | refine V_ret ?_ | refine V_exit ?_
      | ((with_reducible refine V_cond ?_); simp only [go_sem, simprocAttr])
      | ((first | refine V_region (by rw [hn]; rfl) ?_ | refine V_drawn hmix (by rw [hn]; rfl) ?_); intro K hK)
      | ((first | with_reducible refine evOps_n ?_ | ((with_reducible apply evOps_g); rfl) | with_reducible refine evOpsD_n ?_ | ((with_reducible apply evOpsD_g); rfl)); intro K hK; simp (contextual := true) only [go_sem, simprocAttr])
      | with_reducible refine evOps_nil ?_
      | ((with_reducible refine evOpsD_nil ?_ ?_); kernel_rfl)
      | ((with_reducible refine hK _ ?_); clear hK K)
      | with_reducible first | refine And.intro ?_ ?_ | refine nxt_n ?_ | refine nxt_r ?_ | refine nxt_e ?_ | refine blk_n ?_ | refine blk_r ?_ | refine blk_same ?_ | refine blk_other (by decide) ?_ | refine noG_n ?_ | refine noG_r ?_ | refine noG_e ?_ | refine inR_mk ?_ ?_
      | ((with_reducible refine evCall_at 98 ?_); refine EvCall.rd (by first | (simp only [go_sem, simprocAttr]; rfl) | rfl) (sp_l06Is (f:=k) ?_) cal_l06Is (by simp [go_sem]) (by simp [go_sem]) ?_; all_goals try simp only [go_sem, simprocAttr])
      | ((with_reducible refine evCall_at 48 ?_); refine EvCall.rd (by first | (simp only [go_sem, simprocAttr]; rfl) | rfl) (sp_l19Is (f:=f) ?_) cal_l19Is (by simp [go_sem]) (by simp [go_sem]) ?_; all_goals try simp only [go_sem, simprocAttr])
      | ((with_reducible refine evCall_at 49 ?_); refine EvCall.rd (by first | (simp only [go_sem, simprocAttr]; rfl) | rfl) (sp_l02Object (c:=k.tgt)) cal_l02Object (by simp [go_sem]) (by simp [go_sem]) ?_; all_goals try simp only [go_sem, simprocAttr])
      | (refine fun (hc : (_ : Bool) = _) => ?_; try simp only [hcS] at hc))
    all_goals try (first | (with_reducible assumption) | ((try simp only [Cat.F, Cat.T, Cat.I, Cat.C, Fun.O, Fun.A, Cat.Entry, Int.toNat_natCast] at *); omega))
    all_goals try ((first | refine ret_auto ?_ | refine ret_auto' ?_); simp only [go_sem, simprocAttr, Try.f63])
    all_goals first | contradiction | (exfalso; omega)
  · repeat' (first
      | with_reducible first | refine V_seq ?_ | refine V_block ?_ | refine V_skip ?_ | refine V_ret ?_ | refine V_exit ?_
      | ((with_reducible refine V_cond ?_); simp only [go_sem, simprocAttr])
      | ((first | refine V_region (by rw [hn]; rfl) ?_ | refine V_drawn hmix (by rw [hn]; rfl) ?_); intro K hK)
      | ((first | with_reducible refine evOps_n ?_ | ((with_reducible apply evOps_g); rfl) | with_reducible refine evOpsD_n ?_ | ((with_reducible apply evOpsD_g); rfl)); intro K hK; simp (contextual := true) only [go_sem, simprocAttr])
      | with_reducible refine evOps_nil ?_
      | ((with_reducible refine evOpsD_nil ?_ ?_); kernel_rfl)
      | ((with_reducible refine hK _ ?_); clear hK K)
      | with_reducible first | refine And.intro ?_ ?_ | refine nxt_n ?_ | refine nxt_r ?_ | refine nxt_e ?_ | refine blk_n ?_ | refine blk_r ?_ | refine blk_same ?_ | refine blk_other (by decide) ?_ | refine noG_n ?_ | refine noG_r ?_ | refine noG_e ?_ | refine inR_mk ?_ ?_
      | ((with_reducible refine evCall_at 98 ?_); refine EvCall.rd (by first | (simp only [go_sem, simprocAttr]; rfl) | rfl) (sp_l06Is (f:=k) ?_) cal_l06Is (by simp [go_sem]) (by simp [go_sem]) ?_; all_goals try simp only [go_sem, simprocAttr])
      | ((with_reducible refine evCall_at 48 ?_); refine EvCall.rd (by first | (simp only [go_sem, simprocAttr]; rfl) | rfl) (sp_l19Is (f:=f) ?_) cal_l19Is (by simp [go_sem]) (by simp [go_sem]) ?_; all_goals try simp only [go_sem, simprocAttr])
      | ((with_reducible refine evCall_at 49 ?_); refine EvCall.rd (by first | (simp only [go_sem, simprocAttr]; rfl) | rfl) (sp_l02Object (c:=k.tgt)) cal_l02Object (by simp [go_sem]) (by simp [go_sem]) ?_; all_goals try simp only [go_sem, simprocAttr])
      | ((with_reducible refine evCall_at 50 ?_); refine EvCall.rd (by first | (simp only [go_sem, simprocAttr]; rfl) | rfl) (sp_l02Same (a:=f.shape) (b:=k.src) ?_ ?_) cal_l02Same (by simp [go_sem]) (by simp [go_sem]) ?_; all_goals try simp only [go_sem, simprocAttr])
      | (refine fun (hc : (_ : Bool) = _) => ?_; try simp only [hcS] at hc))
    all_goals try (first | (with_reducible assumption) | ((try simp only [Cat.F, Cat.T, Cat.I, Cat.C, Fun.O, Fun.A, Cat.Entry, Int.toNat_natCast] at *); omega))
    all_goals try ((first | refine ret_auto ?_ | refine ret_auto' ?_); simp only [go_sem, simprocAttr, Try.f63])
    all_goals first | contradiction | (exfalso; omega) | exact absurd (Eq.symm (by assumption)) h9
  · repeat' (first
      | with_reducible first | refine V_seq ?_ | refine V_block ?_ | refine V_skip ?_ | refine V_ret ?_ | refine V_exit ?_
      | ((with_reducible refine V_cond ?_); simp only [go_sem, simprocAttr])
      | ((first | refine V_region (by rw [hn]; rfl) ?_ | refine V_drawn hmix (by rw [hn]; rfl) ?_); intro K hK)
      | ((first | with_reducible refine evOps_n ?_ | ((with_reducible apply evOps_g); rfl) | with_reducible refine evOpsD_n ?_ | ((with_reducible apply evOpsD_g); rfl)); intro K hK; simp (contextual := true) only [go_sem, simprocAttr])
      | with_reducible refine evOps_nil ?_
      | ((with_reducible refine evOpsD_nil ?_ ?_); kernel_rfl)
      | ((with_reducible refine hK _ ?_); clear hK K)
      | with_reducible first | refine And.intro ?_ ?_ | refine nxt_n ?_ | refine nxt_r ?_ | refine nxt_e ?_ | refine blk_n ?_ | refine blk_r ?_ | refine blk_same ?_ | refine blk_other (by decide) ?_ | refine noG_n ?_ | refine noG_r ?_ | refine noG_e ?_ | refine inR_mk ?_ ?_
      | ((with_reducible refine evCall_at 98 ?_); refine EvCall.rd (by first | (simp only [go_sem, simprocAttr]; rfl) | rfl) (sp_l06Is (f:=k) ?_) cal_l06Is (by simp [go_sem]) (by simp [go_sem]) ?_; all_goals try simp only [go_sem, simprocAttr])
      | ((with_reducible refine evCall_at 48 ?_); refine EvCall.rd (by first | (simp only [go_sem, simprocAttr]; rfl) | rfl) (sp_l19Is (f:=f) ?_) cal_l19Is (by simp [go_sem]) (by simp [go_sem]) ?_; all_goals try simp only [go_sem, simprocAttr])
      | ((with_reducible refine evCall_at 49 ?_); refine EvCall.rd (by first | (simp only [go_sem, simprocAttr]; rfl) | rfl) (sp_l02Object (c:=k.tgt)) cal_l02Object (by simp [go_sem]) (by simp [go_sem]) ?_; all_goals try simp only [go_sem, simprocAttr])
      | ((with_reducible refine evCall_at 50 ?_); refine EvCall.rd (by first | (simp only [go_sem, simprocAttr]; rfl) | rfl) (sp_l02Same (a:=f.shape) (b:=k.src) ?_ ?_) cal_l02Same (by simp [go_sem]) (by simp [go_sem]) ?_; all_goals try simp only [go_sem, simprocAttr])
      | (refine fun (hc : (_ : Bool) = _) => ?_; try simp only [hcS] at hc))
    all_goals try (first | (with_reducible assumption) | ((try simp only [Cat.F, Cat.T, Cat.I, Cat.C, Fun.O, Fun.A, Cat.Entry, Int.toNat_natCast] at *); omega))
    all_goals try ((first | refine ret_auto ?_ | refine ret_auto' ?_); simp only [go_sem, simprocAttr, Try.f63])
    all_goals first | contradiction | (exfalso; omega) | exact absurd h9.symm (by assumption)

theorem rco_0 {k : Fun} {f : SF} {y : Int} (hk : IsFun k) (hf : IsSF f) (h0 : 0 ≤ y ∧ y < k.tgt.ob) (he : k.src = f.shape) : RCo k f y 0 := .inr (.inr (.inr ⟨hk, hf, h0, he, rfl⟩))
theorem cal_RightLists : Callable Try.prog 28 := ⟨_, Try.func28, rfl, rfl⟩
theorem sp_RightLists_bad {k : Fun} {f : SF} {y c : Int} (hk : FunB k) (hf : SFB f) (h : RCo k f y c) (h0 : c ≠ 0) : Spec Try.prog 28 [funV k, sfV f, iv y] [] (.tup [.v (.slice none 0 0), iv c]) [] := by
  refine spec_of_V (E := TE) 0 Try.func28 rfl (by simp [Try.f28]) fun X hn hX => ?_
  repeat' (first
    | with_reducible first | refine V_seq ?_ | refine V_block ?_ | refine V_skip ?_ | refine V_ret ?_ | refine V_exit ?_
    | ((with_reducible refine V_cond ?_); simp only [go_sem, simprocAttr])
    | ((first | refine V_region (by rw [hn]; rfl) ?_ | refine V_drawn hmix (by rw [hn]; rfl) ?_); intro K hK)
    | ((first | with_reducible refine evOps_n ?_ | ((with_reducible apply evOps_g); rfl) | with_reducible refine evOpsD_n ?_ | ((with_reducible apply evOpsD_g); rfl)); intro K hK; simp (contextual := true) only [go_sem, simprocAttr])
    | with_reducible refine evOps_nil ?_
    | ((with_reducible refine evOpsD_nil ?_ ?_); kernel_rfl)
    | ((with_reducible refine hK _ ?_); clear hK K)
    | with_reducible first | refine And.intro ?_ ?_ | refine nxt_n ?_ | refine nxt_r ?_ | refine nxt_e ?_ | refine blk_n ?_ | refine blk_r ?_ | refine blk_same ?_ | refine blk_other (by decide) ?_ | refine noG_n ?_ | refine noG_r ?_ | refine noG_e ?_ | refine inR_mk ?_ ?_
    | ((with_reducible refine evCall_at 66 ?_); refine EvCall.rd (by first | (simp only [go_sem, simprocAttr]; rfl) | rfl) (sp_baseAtCode (k:=k) (f:=f) (c:=c) ?_ ?_ ?_) cal_baseAtCode (by simp [go_sem]) (by simp [go_sem]) ?_; all_goals try simp only [go_sem, simprocAttr])
    | (refine fun (hc : (_ : Bool) = _) => ?_; try simp only [hcS] at hc))
  all_goals try (first | (with_reducible assumption) | ((try simp only [Cat.F, Cat.T, Cat.I, Cat.C, Fun.O, Fun.A, Cat.Entry, Int.toNat_natCast] at *); omega))
  all_goals try ((first | refine ret_auto ?_ | refine ret_auto' ?_); simp only [go_sem, simprocAttr, Try.f28])
  all_goals omega
theorem sp_RightLists_far {k : Fun} {f : SF} {y : Int} (hk : FunB k) (hf : SFB f) (ik : IsFun k) (jf : IsSF f) (h0 : 0 ≤ y ∧ y < k.tgt.ob) (he : k.src = f.shape) (hS : 64 < (rSeats k y k.obs.length).length) : Spec Try.prog 28 [funV k, sfV f, iv y] [] (.tup [.v (.slice none 0 0), iv 3]) [] := by
  have hc0 := rco_0 ik jf h0 he
  refine spec_of_V (E := TE) 0 Try.func28 rfl (by simp [Try.f28]) fun X hn hX => ?_
  repeat' (first
    | with_reducible first | refine V_seq ?_ | refine V_block ?_ | refine V_skip ?_ | refine V_ret ?_ | refine V_exit ?_
    | ((with_reducible refine V_cond ?_); simp only [go_sem, simprocAttr])
    | ((first | refine V_region (by rw [hn]; rfl) ?_ | refine V_drawn hmix (by rw [hn]; rfl) ?_); intro K hK)
    | ((first | with_reducible refine evOps_n ?_ | ((with_reducible apply evOps_g); rfl) | with_reducible refine evOpsD_n ?_ | ((with_reducible apply evOpsD_g); rfl)); intro K hK; simp (contextual := true) only [go_sem, simprocAttr])
    | with_reducible refine evOps_nil ?_
    | ((with_reducible refine evOpsD_nil ?_ ?_); kernel_rfl)
    | ((with_reducible refine hK _ ?_); clear hK K)
    | with_reducible first | refine And.intro ?_ ?_ | refine nxt_n ?_ | refine nxt_r ?_ | refine nxt_e ?_ | refine blk_n ?_ | refine blk_r ?_ | refine blk_same ?_ | refine blk_other (by decide) ?_ | refine noG_n ?_ | refine noG_r ?_ | refine noG_e ?_ | refine inR_mk ?_ ?_
    | ((with_reducible refine evCall_at 66 ?_); refine EvCall.rd (by first | (simp only [go_sem, simprocAttr]; rfl) | rfl) (sp_baseAtCode (k:=k) (f:=f) (c:=0) ?_ ?_ ?_) cal_baseAtCode (by simp [go_sem]) (by simp [go_sem]) ?_; all_goals try simp only [go_sem, simprocAttr])
    | ((with_reducible refine evCall_at 67 ?_); refine EvCall.rd (by first | (simp only [go_sem, simprocAttr]; rfl) | rfl) (sp_rightLists_no (k:=k) (f:=f) (by first | omega | assumption | rfl | exact (by assumption : SMB _).src | exact (by assumption : SMB _).tgt) (by first | omega | assumption | rfl | exact (by assumption : SMB _).src | exact (by assumption : SMB _).tgt)) cal_rightLists (by simp [go_sem]) (by simp [go_sem]) ?_; all_goals try simp only [go_sem, simprocAttr])
    | (refine fun (hc : (_ : Bool) = _) => ?_; try simp only [hcS] at hc))
  all_goals try (first | (with_reducible assumption) | ((try simp only [Cat.F, Cat.T, Cat.I, Cat.C, Fun.O, Fun.A, Cat.Entry, Int.toNat_natCast] at *); omega))
  all_goals try ((first | refine ret_auto ?_ | refine ret_auto' ?_); simp only [go_sem, simprocAttr, Try.f28])
  all_goals first | contradiction | omega
theorem sp_RightLists_many {k : Fun} {f : SF} {y : Int} (hk : FunB k) (hf : SFB f) (ik : IsFun k) (jf : IsSF f) (h0 : 0 ≤ y ∧ y < k.tgt.ob) (he : k.src = f.shape) (hS : (rSeats k y k.obs.length).length ≤ 64) (hD : 16 < (rtL k f y).length) : Spec Try.prog 28 [funV k, sfV f, iv y] [] (.tup [.v (.slice none 0 0), iv 3]) [] := by
  have hc0 := rco_0 ik jf h0 he
  have sp_rightLists_loc := sp_rightLists_yes ik jf he.symm hS
  rw [decide_eq_false (by omega)] at sp_rightLists_loc
  refine spec_of_V (E := TE) 0 Try.func28 rfl (by simp [Try.f28]) fun X hn hX => ?_
  repeat' (first
    | with_reducible first | refine V_seq ?_ | refine V_block ?_ | refine V_skip ?_ | refine V_ret ?_ | refine V_exit ?_
    | ((with_reducible refine V_cond ?_); simp only [go_sem, simprocAttr])
    | ((first | refine V_region (by rw [hn]; rfl) ?_ | refine V_drawn hmix (by rw [hn]; rfl) ?_); intro K hK)
    | ((first | with_reducible refine evOps_n ?_ | ((with_reducible apply evOps_g); rfl) | with_reducible refine evOpsD_n ?_ | ((with_reducible apply evOpsD_g); rfl)); intro K hK; simp (contextual := true) only [go_sem, simprocAttr])
    | with_reducible refine evOps_nil ?_
    | ((with_reducible refine evOpsD_nil ?_ ?_); kernel_rfl)
    | ((with_reducible refine hK _ ?_); clear hK K)
    | with_reducible first | refine And.intro ?_ ?_ | refine nxt_n ?_ | refine nxt_r ?_ | refine nxt_e ?_ | refine blk_n ?_ | refine blk_r ?_ | refine blk_same ?_ | refine blk_other (by decide) ?_ | refine noG_n ?_ | refine noG_r ?_ | refine noG_e ?_ | refine inR_mk ?_ ?_
    | ((with_reducible refine evCall_at 66 ?_); refine EvCall.rd (by first | (simp only [go_sem, simprocAttr]; rfl) | rfl) (sp_baseAtCode (k:=k) (f:=f) (c:=0) ?_ ?_ ?_) cal_baseAtCode (by simp [go_sem]) (by simp [go_sem]) ?_; all_goals try simp only [go_sem, simprocAttr])
    | ((with_reducible refine evCall_at 67 ?_); refine EvCall.rd (by first | (simp only [go_sem, simprocAttr]; rfl) | rfl) (sp_rightLists_loc) cal_rightLists (by simp [go_sem]) (by simp [go_sem]) ?_; all_goals try simp only [go_sem, simprocAttr])
    | (refine fun (hc : (_ : Bool) = _) => ?_; try simp only [hcS] at hc))
  all_goals try (first | (with_reducible assumption) | ((try simp only [Cat.F, Cat.T, Cat.I, Cat.C, Fun.O, Fun.A, Cat.Entry, Int.toNat_natCast] at *); omega))
  all_goals try ((first | refine ret_auto ?_ | refine ret_auto' ?_); simp only [go_sem, simprocAttr, Try.f28])
  all_goals first | contradiction | omega
theorem sp_RightLists_yes {k : Fun} {f : SF} {y : Int} (hk : FunB k) (hf : SFB f) (ik : IsFun k) (jf : IsSF f) (h0 : 0 ≤ y ∧ y < k.tgt.ob) (he : k.src = f.shape) (hS : (rSeats k y k.obs.length).length ≤ 64) (hD : (rtL k f y).length ≤ 16) : Spec Try.prog 28 [funV k, sfV f, iv y] [] (.tup [.sl 0, iv 0]) [(0, ⟨1, .arr (intss (rtL k f y))⟩)] := by
  have hc0 := rco_0 ik jf h0 he
  have sp_rightLists_loc := sp_rightLists_yes ik jf he.symm hS
  rw [decide_eq_true hD, List.take_of_length_le (by omega)] at sp_rightLists_loc
  refine spec_of_V (E := TE) 0 Try.func28 rfl (by simp [Try.f28]) fun X hn hX => ?_
  repeat' (first
    | with_reducible first | refine V_seq ?_ | refine V_block ?_ | refine V_skip ?_ | refine V_ret ?_ | refine V_exit ?_
    | ((with_reducible refine V_cond ?_); simp only [go_sem, simprocAttr])
    | ((first | refine V_region (by rw [hn]; rfl) ?_ | refine V_drawn hmix (by rw [hn]; rfl) ?_); intro K hK)
    | ((first | with_reducible refine evOps_n ?_ | ((with_reducible apply evOps_g); rfl) | with_reducible refine evOpsD_n ?_ | ((with_reducible apply evOpsD_g); rfl)); intro K hK; simp (contextual := true) only [go_sem, simprocAttr])
    | with_reducible refine evOps_nil ?_
    | ((with_reducible refine evOpsD_nil ?_ ?_); kernel_rfl)
    | ((with_reducible refine hK _ ?_); clear hK K)
    | with_reducible first | refine And.intro ?_ ?_ | refine nxt_n ?_ | refine nxt_r ?_ | refine nxt_e ?_ | refine blk_n ?_ | refine blk_r ?_ | refine blk_same ?_ | refine blk_other (by decide) ?_ | refine noG_n ?_ | refine noG_r ?_ | refine noG_e ?_ | refine inR_mk ?_ ?_
    | ((with_reducible refine evCall_at 66 ?_); refine EvCall.rd (by first | (simp only [go_sem, simprocAttr]; rfl) | rfl) (sp_baseAtCode (k:=k) (f:=f) (c:=0) ?_ ?_ ?_) cal_baseAtCode (by simp [go_sem]) (by simp [go_sem]) ?_; all_goals try simp only [go_sem, simprocAttr])
    | ((with_reducible refine evCall_at 67 ?_); refine EvCall.rd (by first | (simp only [go_sem, simprocAttr]; rfl) | rfl) (sp_rightLists_loc) cal_rightLists (by simp [go_sem]) (by simp [go_sem]) ?_; all_goals try simp only [go_sem, simprocAttr])
    | (refine fun (hc : (_ : Bool) = _) => ?_; try simp only [hcS] at hc))
  all_goals try (first | (with_reducible assumption) | ((try simp only [Cat.F, Cat.T, Cat.I, Cat.C, Fun.O, Fun.A, Cat.Entry, Int.toNat_natCast] at *); omega))
  all_goals try ((first | refine ret_auto ?_ | refine ret_auto' ?_); simp only [go_sem, simprocAttr, Try.f28])
  all_goals first | contradiction | omega

theorem cal_spec_RightLists : Callable Try.prog 26 := ⟨_, Try.func26, rfl, rfl⟩
theorem sp_spec_RightLists_bad {k : Fun} {f : SF} {y c : Int} (hk : FunB k) (hf : SFB f) (h : RCo k f y c) (h0 : c ≠ 0) : Spec Try.prog 26 [funV k, sfV f, iv y] [] (.tup [.v (.slice none 0 0), iv c]) [] := by
  refine spec_of_V (E := TE) 0 Try.func26 rfl (by simp [Try.f26]) fun X hn hX => ?_
  repeat' (first
    | with_reducible first | refine V_seq ?_ | refine V_block ?_ | refine V_skip ?_ | refine V_ret ?_ | refine V_exit ?_
    | ((with_reducible refine V_cond ?_); simp only [go_sem, simprocAttr])
    | ((first | refine V_region (by rw [hn]; rfl) ?_ | refine V_drawn hmix (by rw [hn]; rfl) ?_); intro K hK)
    | ((first | with_reducible refine evOps_n ?_ | ((with_reducible apply evOps_g); rfl) | with_reducible refine evOpsD_n ?_ | ((with_reducible apply evOpsD_g); rfl)); intro K hK; simp (contextual := true) only [go_sem, simprocAttr])
    | with_reducible refine evOps_nil ?_
    | ((with_reducible refine evOpsD_nil ?_ ?_); kernel_rfl)
    | ((with_reducible refine hK _ ?_); clear hK K)
    | with_reducible first | refine And.intro ?_ ?_ | refine nxt_n ?_ | refine nxt_r ?_ | refine nxt_e ?_ | refine blk_n ?_ | refine blk_r ?_ | refine blk_same ?_ | refine blk_other (by decide) ?_ | refine noG_n ?_ | refine noG_r ?_ | refine noG_e ?_ | refine inR_mk ?_ ?_
    | ((with_reducible refine evCall_at 63 ?_); refine EvCall.rd (by first | (simp only [go_sem, simprocAttr]; rfl) | rfl) (sp_l23Place (k:=k) (f:=f) (c:=c) ?_ ?_ ?_) cal_l23Place (by simp [go_sem]) (by simp [go_sem]) ?_; all_goals try simp only [go_sem, simprocAttr])
    | (refine fun (hc : (_ : Bool) = _) => ?_; try simp only [hcS] at hc))
  all_goals try (first | (with_reducible assumption) | ((try simp only [Cat.F, Cat.T, Cat.I, Cat.C, Fun.O, Fun.A, Cat.Entry, Int.toNat_natCast] at *); omega))
  all_goals try ((first | refine ret_auto ?_ | refine ret_auto' ?_); simp only [go_sem, simprocAttr, Try.f26])
  all_goals omega
theorem sp_spec_RightLists_far {k : Fun} {f : SF} {y : Int} (hk : FunB k) (hf : SFB f) (ik : IsFun k) (jf : IsSF f) (h0 : 0 ≤ y ∧ y < k.tgt.ob) (he : k.src = f.shape) (hS : 64 < (rSeats k y k.obs.length).length) : Spec Try.prog 26 [funV k, sfV f, iv y] [] (.tup [.v (.slice none 0 0), iv 3]) [] := by
  have hc0 := rco_0 ik jf h0 he
  refine spec_of_V (E := TE) 0 Try.func26 rfl (by simp [Try.f26]) fun X hn hX => ?_
  repeat' (first
    | with_reducible first | refine V_seq ?_ | refine V_block ?_ | refine V_skip ?_ | refine V_ret ?_ | refine V_exit ?_
    | ((with_reducible refine V_cond ?_); simp only [go_sem, simprocAttr])
    | ((first | refine V_region (by rw [hn]; rfl) ?_ | refine V_drawn hmix (by rw [hn]; rfl) ?_); intro K hK)
    | ((first | with_reducible refine evOps_n ?_ | ((with_reducible apply evOps_g); rfl) | with_reducible refine evOpsD_n ?_ | ((with_reducible apply evOpsD_g); rfl)); intro K hK; simp (contextual := true) only [go_sem, simprocAttr])
    | with_reducible refine evOps_nil ?_
    | ((with_reducible refine evOpsD_nil ?_ ?_); kernel_rfl)
    | ((with_reducible refine hK _ ?_); clear hK K)
    | with_reducible first | refine And.intro ?_ ?_ | refine nxt_n ?_ | refine nxt_r ?_ | refine nxt_e ?_ | refine blk_n ?_ | refine blk_r ?_ | refine blk_same ?_ | refine blk_other (by decide) ?_ | refine noG_n ?_ | refine noG_r ?_ | refine noG_e ?_ | refine inR_mk ?_ ?_
    | ((with_reducible refine evCall_at 63 ?_); refine EvCall.rd (by first | (simp only [go_sem, simprocAttr]; rfl) | rfl) (sp_l23Place (k:=k) (f:=f) (c:=0) ?_ ?_ ?_) cal_l23Place (by simp [go_sem]) (by simp [go_sem]) ?_; all_goals try simp only [go_sem, simprocAttr])
    | ((with_reducible refine evCall_at 64 ?_); refine EvCall.rd (by first | (simp only [go_sem, simprocAttr]; rfl) | rfl) (sp_l23Seats (k:=k) ?_) cal_l23Seats (by simp [go_sem]) (by simp [go_sem]) ?_; all_goals try simp only [go_sem, simprocAttr])
    | (refine fun (hc : (_ : Bool) = _) => ?_; try simp only [hcS] at hc))
  all_goals try (first | (with_reducible assumption) | ((try simp only [Cat.F, Cat.T, Cat.I, Cat.C, Fun.O, Fun.A, Cat.Entry, Int.toNat_natCast] at *); omega))
  all_goals try ((first | refine ret_auto ?_ | refine ret_auto' ?_); simp only [go_sem, simprocAttr, Try.f26])
  all_goals first | contradiction | omega
theorem sp_spec_RightLists_many {k : Fun} {f : SF} {y : Int} (hk : FunB k) (hf : SFB f) (ik : IsFun k) (jf : IsSF f) (h0 : 0 ≤ y ∧ y < k.tgt.ob) (he : k.src = f.shape) (hS : (rSeats k y k.obs.length).length ≤ 64) (hD : 16 < (rtL k f y).length) : Spec Try.prog 26 [funV k, sfV f, iv y] [] (.tup [.v (.slice none 0 0), iv 3]) [] := by
  have hc0 := rco_0 ik jf h0 he
  have sp_l23Lists_loc : Spec Try.prog 65 [funV k, sfV f, iv y] [] (.sl 0) [(0, ⟨1, .arr (intss ((rtL k f y).take 17))⟩)] := sp_l23Lists (y := y) ik jf he.symm hS
  obtain ⟨L, hL⟩ : ∃ L, rtL k f y = L := ⟨_, rfl⟩
  rw [hL] at sp_l23Lists_loc hD
  refine spec_of_V (E := TE) 0 Try.func26 rfl (by simp [Try.f26]) fun X hn hX => ?_
  repeat' (first
    | with_reducible first | refine V_seq ?_ | refine V_block ?_ | refine V_skip ?_ | refine V_ret ?_ | refine V_exit ?_
    | ((with_reducible refine V_cond ?_); simp only [go_sem, simprocAttr])
    | ((first | refine V_region (by rw [hn]; rfl) ?_ | refine V_drawn hmix (by rw [hn]; rfl) ?_); intro K hK)
    | ((first | with_reducible refine evOps_n ?_ | ((with_reducible apply evOps_g); rfl) | with_reducible refine evOpsD_n ?_ | ((with_reducible apply evOpsD_g); rfl)); intro K hK; simp (contextual := true) only [go_sem, simprocAttr])
    | with_reducible refine evOps_nil ?_
    | ((with_reducible refine evOpsD_nil ?_ ?_); kernel_rfl)
    | ((with_reducible refine hK _ ?_); clear hK K)
    | with_reducible first | refine And.intro ?_ ?_ | refine nxt_n ?_ | refine nxt_r ?_ | refine nxt_e ?_ | refine blk_n ?_ | refine blk_r ?_ | refine blk_same ?_ | refine blk_other (by decide) ?_ | refine noG_n ?_ | refine noG_r ?_ | refine noG_e ?_ | refine inR_mk ?_ ?_
    | ((with_reducible refine evCall_at 63 ?_); refine EvCall.rd (by first | (simp only [go_sem, simprocAttr]; rfl) | rfl) (sp_l23Place (k:=k) (f:=f) (c:=0) ?_ ?_ ?_) cal_l23Place (by simp [go_sem]) (by simp [go_sem]) ?_; all_goals try simp only [go_sem, simprocAttr])
    | ((with_reducible refine evCall_at 64 ?_); refine EvCall.rd (by first | (simp only [go_sem, simprocAttr]; rfl) | rfl) (sp_l23Seats (k:=k) ?_) cal_l23Seats (by simp [go_sem]) (by simp [go_sem]) ?_; all_goals try simp only [go_sem, simprocAttr])
    | ((with_reducible refine evCall_at 65 ?_); refine EvCall.rd (by first | (simp only [go_sem, simprocAttr]; rfl) | rfl) (sp_l23Lists_loc) cal_l23Lists (by simp [go_sem]) (by simp [go_sem]) ?_; all_goals try simp only [go_sem, simprocAttr])
    | (refine fun (hc : (_ : Bool) = _) => ?_; try simp only [hcS] at hc))
  all_goals try (first | (with_reducible assumption) | ((try simp only [Cat.F, Cat.T, Cat.I, Cat.C, Fun.O, Fun.A, Cat.Entry, Int.toNat_natCast] at *); omega))
  all_goals try ((first | refine ret_auto ?_ | refine ret_auto' ?_); simp only [go_sem, simprocAttr, Try.f26])
  all_goals first | contradiction | omega
theorem sp_spec_RightLists_yes {k : Fun} {f : SF} {y : Int} (hk : FunB k) (hf : SFB f) (ik : IsFun k) (jf : IsSF f) (h0 : 0 ≤ y ∧ y < k.tgt.ob) (he : k.src = f.shape) (hS : (rSeats k y k.obs.length).length ≤ 64) (hD : (rtL k f y).length ≤ 16) : Spec Try.prog 26 [funV k, sfV f, iv y] [] (.tup [.sl 0, iv 0]) [(0, ⟨1, .arr (intss (rtL k f y))⟩)] := by
  have hc0 := rco_0 ik jf h0 he
  have sp_l23Lists_loc : Spec Try.prog 65 [funV k, sfV f, iv y] [] (.sl 0) [(0, ⟨1, .arr (intss ((rtL k f y).take 17))⟩)] := sp_l23Lists (y := y) ik jf he.symm hS
  obtain ⟨L, hL⟩ : ∃ L, rtL k f y = L := ⟨_, rfl⟩
  rw [hL] at sp_l23Lists_loc hD ⊢
  rw [List.take_of_length_le (by omega)] at sp_l23Lists_loc
  refine spec_of_V (E := TE) 0 Try.func26 rfl (by simp [Try.f26]) fun X hn hX => ?_
  repeat' (first
    | with_reducible first | refine V_seq ?_ | refine V_block ?_ | refine V_skip ?_ | refine V_ret ?_ | refine V_exit ?_
    | ((with_reducible refine V_cond ?_); simp only [go_sem, simprocAttr])
    | ((first | refine V_region (by rw [hn]; rfl) ?_ | refine V_drawn hmix (by rw [hn]; rfl) ?_); intro K hK)
    | ((first | with_reducible refine evOps_n ?_ | ((with_reducible apply evOps_g); rfl) | with_reducible refine evOpsD_n ?_ | ((with_reducible apply evOpsD_g); rfl)); intro K hK; simp (contextual := true) only [go_sem, simprocAttr])
    | with_reducible refine evOps_nil ?_
    | ((with_reducible refine evOpsD_nil ?_ ?_); kernel_rfl)
    | ((with_reducible refine hK _ ?_); clear hK K)
    | with_reducible first | refine And.intro ?_ ?_ | refine nxt_n ?_ | refine nxt_r ?_ | refine nxt_e ?_ | refine blk_n ?_ | refine blk_r ?_ | refine blk_same ?_ | refine blk_other (by decide) ?_ | refine noG_n ?_ | refine noG_r ?_ | refine noG_e ?_ | refine inR_mk ?_ ?_
    | ((with_reducible refine evCall_at 63 ?_); refine EvCall.rd (by first | (simp only [go_sem, simprocAttr]; rfl) | rfl) (sp_l23Place (k:=k) (f:=f) (c:=0) ?_ ?_ ?_) cal_l23Place (by simp [go_sem]) (by simp [go_sem]) ?_; all_goals try simp only [go_sem, simprocAttr])
    | ((with_reducible refine evCall_at 64 ?_); refine EvCall.rd (by first | (simp only [go_sem, simprocAttr]; rfl) | rfl) (sp_l23Seats (k:=k) ?_) cal_l23Seats (by simp [go_sem]) (by simp [go_sem]) ?_; all_goals try simp only [go_sem, simprocAttr])
    | ((with_reducible refine evCall_at 65 ?_); refine EvCall.rd (by first | (simp only [go_sem, simprocAttr]; rfl) | rfl) (sp_l23Lists_loc) cal_l23Lists (by simp [go_sem]) (by simp [go_sem]) ?_; all_goals try simp only [go_sem, simprocAttr])
    | (refine fun (hc : (_ : Bool) = _) => ?_; try simp only [hcS] at hc))
  all_goals try (first | (with_reducible assumption) | ((try simp only [Cat.F, Cat.T, Cat.I, Cat.C, Fun.O, Fun.A, Cat.Entry, Int.toNat_natCast] at *); omega))
  all_goals try ((first | refine ret_auto ?_ | refine ret_auto' ?_); simp only [go_sem, simprocAttr, Try.f26])
  all_goals first | contradiction | omega
theorem rights_key {k : Fun} {f : SF} {y : Int} (hk : FunB k) (hf : SFB f) : ∃ (R : List (List Int)) (c : Int), (R.length ≤ 16 ∧ ∀ k, k < R.length → (R.getD k []).length ≤ 64) ∧
    Spec Try.prog 28 [funV k, sfV f, iv y] [] (.tup [.sl 0, iv c]) [(0, ⟨1, .arr (intss R)⟩)] ∧ Spec Try.prog 26 [funV k, sfV f, iv y] [] (.tup [.sl 0, iv c]) [(0, ⟨1, .arr (intss R)⟩)] := by
  rcases rco_cases k f y with ⟨c, h, h0⟩ | ⟨ik, jf, h0, he⟩
  · exact ⟨[], c, ⟨by decide, fun k hk => by simp at hk⟩, adoptLL (sp_RightLists_bad hk hf h h0), adoptLL (sp_spec_RightLists_bad hk hf h h0)⟩
  · rcases Nat.lt_or_ge 64 (rSeats k y k.obs.length).length with hS | hS
    · exact ⟨[], 3, ⟨by decide, fun k hk => by simp at hk⟩, adoptLL (sp_RightLists_far hk hf ik jf h0 he hS), adoptLL (sp_spec_RightLists_far hk hf ik jf h0 he hS)⟩
    · rcases Nat.lt_or_ge 16 (rtL k f y).length with hD | hD
      · exact ⟨[], 3, ⟨by decide, fun k hk => by simp at hk⟩, adoptLL (sp_RightLists_many hk hf ik jf h0 he hS hD), adoptLL (sp_spec_RightLists_many hk hf ik jf h0 he hS hD)⟩
      · refine ⟨_, 0, ⟨hD, fun i hi => ?_⟩, sp_RightLists_yes hk hf ik jf h0 he hS hD, sp_spec_RightLists_yes hk hf ik jf h0 he hS hD⟩
        have h1 := genL_len (memL_getD hi)
        rw [rOb_len] at h1
        show ((genL f (rOb k y) (rJ k (rSeats k y k.obs.length))).getD i []).length ≤ 64
        omega
end Go.Eng
