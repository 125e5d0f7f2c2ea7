/- The law FnExactRightExtension is true of the given program: for every functor and set functor the call returns true, and both read behind it as they did. No condition. -/
import Derived.Test.YtgmbhfggdcipoaaKdx
import Derived.Test.YtgmbhfggdcipoaaKex
import Derived.Test.YtgmbhfggdcipoaaB18q
import Derived.Test.YtgmbhfggdcipoaaA16q
import Derived.Test.YtgmbhfggdcipoaaRows
import Derived.JoinedOf
import Derived.ProofKit
set_option linter.unusedSimpArgs false
set_option linter.unusedVariables false
set_option maxRecDepth 100000
set_option maxHeartbeats 16000000
namespace Go.Eng
open Go Go.Proofs Go.Cats

theorem cal_heldSetFunctor : Callable Try.prog 33 := ⟨_, Try.func33, rfl, rfl⟩
theorem sp_heldSetFunctor_at {d f : SF} {k : Int} (h : d = f.mk_ k) (hk : 0 ≤ k) (hl : k + f.mkn ≤ 9223372036854775807) (hb : SFB f) : Spec Try.prog 33 [sfV d, iv k] [] (iv (k + f.mkn)) [] := by
  subst h
  unfold Go.Cats.SF.mkn at hl
  obtain ⟨b1, b2, b3, b4⟩ := hb
  have e0 : (f.mk_ k).shape = f.shape.mk_ k := rfl
  have e1 : (f.mk_ k).sizes = marks (k + f.shape.mkn) f.sizes.length := rfl
  have e2 : (f.mk_ k).acts = marksS (k + f.shape.mkn + f.sizes.length) f.acts := rfl
  refine spec_of_V (E := TE) 0 Try.func33 rfl (by simp [Try.f33]) fun X hn hX => ?_
  repeat' (first
    | with_reducible first | refine V_seq ?_ | refine V_block ?_ | refine V_skip ?_ | refine V_ret ?_ | refine V_exit ?_
    | ((with_reducible refine V_cond ?_); simp only [go_sem, simprocAttr])
    | ((first | refine V_region (by rw [hn]; rfl) ?_ | refine V_drawn hmix (by rw [hn]; rfl) ?_); intro K hK)
    | ((first | with_reducible refine evOps_n ?_ | ((with_reducible apply evOps_g); rfl) | with_reducible refine evOpsD_n ?_ | ((with_reducible apply evOpsD_g); rfl)); intro K hK; simp (contextual := true) only [go_sem, simprocAttr])
    | with_reducible refine evOps_nil ?_
    | ((with_reducible refine evOpsD_nil ?_ ?_); kernel_rfl)
    | ((with_reducible refine hK _ ?_); clear hK K)
    | with_reducible first | refine And.intro ?_ ?_ | refine nxt_n ?_ | refine nxt_r ?_ | refine nxt_e ?_ | refine blk_n ?_ | refine blk_r ?_ | refine blk_same ?_ | refine blk_other (by decide) ?_ | refine noG_n ?_ | refine noG_r ?_ | refine noG_e ?_ | refine inR_mk ?_ ?_
    | ((with_reducible refine evCall_at 68 ?_); refine EvCall.rd (by first | (simp only [go_sem, simprocAttr]; rfl) | rfl) (sp_heldCategory_at (by first | omega | assumption | rfl | exact (by assumption : SMB _).src | exact (by assumption : SMB _).tgt) (by first | omega | assumption | rfl | exact (by assumption : SMB _).src | exact (by assumption : SMB _).tgt) (by first | omega | assumption | rfl | exact (by assumption : SMB _).src | exact (by assumption : SMB _).tgt) (by first | omega | assumption | rfl | exact (by assumption : SMB _).src | exact (by assumption : SMB _).tgt)) cal_heldCategory (by simp [go_sem]) (by simp [go_sem]) ?_; all_goals try simp only [go_sem, simprocAttr])
    | ((with_reducible refine evCall_at 47 ?_); refine EvCall.rd (by first | (simp only [go_sem, simprocAttr]; rfl) | rfl) (sp_heldInt64S_at (by first | omega | assumption | rfl | exact (by assumption : SMB _).src | exact (by assumption : SMB _).tgt) (by first | omega | assumption | rfl | exact (by assumption : SMB _).src | exact (by assumption : SMB _).tgt) (by first | omega | assumption | rfl | exact (by assumption : SMB _).src | exact (by assumption : SMB _).tgt)) cal_heldInt64S (by simp [go_sem]) (by simp [go_sem]) ?_; all_goals try simp only [go_sem, simprocAttr])
    | ((with_reducible refine evCall_at 20 ?_); refine EvCall.rd (by first | (simp only [go_sem, simprocAttr]; rfl) | rfl) (sp_heldInt64SS_at (by first | omega | assumption | rfl | exact (by assumption : SMB _).src | exact (by assumption : SMB _).tgt) (by first | omega | assumption | rfl | exact (by assumption : SMB _).src | exact (by assumption : SMB _).tgt) (by first | omega | assumption | rfl | exact (by assumption : SMB _).src | exact (by assumption : SMB _).tgt) (by first | omega | assumption | rfl | exact (by assumption : SMB _).src | exact (by assumption : SMB _).tgt)) cal_heldInt64SS (by simp [go_sem]) (by simp [go_sem]) ?_; all_goals try simp only [go_sem, simprocAttr])
    | (refine fun (hc : (_ : Bool) = _) => ?_; try simp only [hcS] at hc))
  all_goals try (first | (with_reducible assumption) | ((try simp only [Cat.F, Cat.T, Cat.I, Cat.C, Fun.O, Fun.A, Cat.Entry, Int.toNat_natCast] at *); omega))
  (first | refine ret_auto ?_ | refine ret_auto' ?_); simp only [go_sem, simprocAttr, Try.f33]
  exact iv_eq (by unfold Go.Cats.SF.mkn; omega)

theorem cal_FnExactRightExtension : Callable Try.prog 8 := ⟨_, Try.func8, rfl, rfl⟩
theorem sp_FnExactRightExtension {a0 : Fun} {a1 : SF} (t0 : FunT a0) (t1 : SFT a1) : Spec Try.prog 8 [funV a0, sfV a1] [] (bv true) [] := by
  refine spec_of_V (E := TE) 0 Try.func8 rfl (by simp [Try.f8]) fun X hn hX => ?_
  have l0 := t0.l
  have l1 := t1.l
  by_cases hz : (funSz a0 : Int) ≤ 1048576
  · by_cases hz2 : (sfSz a1 : Int) ≤ 1048576 - funSz a0
    · have hk := t0.b (by omega)
      have hf := t1.b (by omega)
      have k0 := hk.mkn
      have k1 := hf.mkn
      obtain ⟨r, c, hr, sp_RightExtension_loc, sp_spec_RightExtension_loc⟩ := rightEx_key hk hf
      have k2 := hr.mkn
      repeat' (first
        | with_reducible first | refine V_seq ?_ | refine V_block ?_ | refine V_skip ?_ | refine V_ret ?_ | refine V_exit ?_
        | ((with_reducible refine V_cond ?_); simp only [go_sem, simprocAttr])
        | ((first | refine V_region (by rw [hn]; rfl) ?_ | refine V_drawn hmix (by rw [hn]; rfl) ?_); intro K hK)
        | ((first | with_reducible refine evOps_n ?_ | ((with_reducible apply evOps_g); rfl) | with_reducible refine evOpsD_n ?_ | ((with_reducible apply evOpsD_g); rfl)); intro K hK; simp (contextual := true) only [go_sem, simprocAttr])
        | with_reducible refine evOps_nil ?_
        | ((with_reducible refine evOpsD_nil ?_ ?_); kernel_rfl)
        | ((with_reducible refine hK _ ?_); clear hK K)
        | with_reducible first | refine And.intro ?_ ?_ | refine nxt_n ?_ | refine nxt_r ?_ | refine nxt_e ?_ | refine blk_n ?_ | refine blk_r ?_ | refine blk_same ?_ | refine blk_other (by decide) ?_ | refine noG_n ?_ | refine noG_r ?_ | refine noG_e ?_ | refine inR_mk ?_ ?_
        | ((with_reducible refine evCall_at 25 ?_); refine EvCall.rd (by first | (simp only [go_sem, simprocAttr]; rfl) | rfl) (sp_szFunctor_yes (f:=a0) (by first | omega | assumption | rfl | exact (by assumption : SMB _).src | exact (by assumption : SMB _).tgt) (by first | omega | assumption | rfl | exact (by assumption : SMB _).src | exact (by assumption : SMB _).tgt)) cal_szFunctor (by simp [go_sem]) (by simp [go_sem]) ?_; all_goals try simp only [go_sem, simprocAttr])
        | ((with_reducible refine evCall_at 9 ?_); refine EvCall.rd (by first | (simp only [go_sem, simprocAttr]; rfl) | rfl) (sp_szSetFunctor_yes (f:=a1) (by first | omega | assumption | rfl | exact (by assumption : SMB _).src | exact (by assumption : SMB _).tgt) (by first | omega | assumption | rfl | exact (by assumption : SMB _).src | exact (by assumption : SMB _).tgt)) cal_szSetFunctor (by simp [go_sem]) (by simp [go_sem]) ?_; all_goals try simp only [go_sem, simprocAttr])
        | ((with_reducible refine evCall_at 27 ?_); refine EvCall.rd (by first | (simp only [go_sem, simprocAttr]; rfl) | rfl) (sp_toFunctor (f:=a0) ?_) cal_toFunctor (by simp [go_sem]) (by simp [go_sem]) ?_; all_goals try simp only [go_sem, simprocAttr])
        | ((with_reducible refine evCall_at 11 ?_); refine EvCall.rd (by first | (simp only [go_sem, simprocAttr]; rfl) | rfl) (sp_toSetFunctor (f:=a1) ?_) cal_toSetFunctor (by simp [go_sem]) (by simp [go_sem]) ?_; all_goals try simp only [go_sem, simprocAttr])
        | ((with_reducible refine evCall_at 34 ?_); refine EvCall.rd (by first | (simp only [go_sem, simprocAttr]; rfl) | rfl) (sp_spec_RightExtension_loc) cal_spec_RightExtension (by simp [go_sem]) (by simp [go_sem]) ?_; all_goals try simp only [go_sem, simprocAttr])
        | ((with_reducible refine evCall_at 35 ?_); refine EvCall.rd (by first | (simp only [go_sem, simprocAttr]; rfl) | rfl) (sp_RightExtension_loc) cal_RightExtension (by simp [go_sem]) (by simp [go_sem]) ?_; all_goals try simp only [go_sem, simprocAttr])
        | ((with_reducible refine evCall_at 29 ?_); refine EvCall.rd (by first | (simp only [go_sem, simprocAttr]; rfl) | rfl) (sp_eqFunctor (f:=a0) (g:=a0) ?_ ?_) cal_eqFunctor (by simp [go_sem]) (by simp [go_sem]) ?_; all_goals try simp only [go_sem, simprocAttr])
        | ((with_reducible refine evCall_at 15 ?_); refine EvCall.rd (by first | (simp only [go_sem, simprocAttr]; rfl) | rfl) (sp_eqSetFunctor (f:=r) (g:=r) ?_ ?_) cal_eqSetFunctor (by simp [go_sem]) (by simp [go_sem]) ?_; all_goals try simp only [go_sem, simprocAttr])
        | ((with_reducible refine evCall_at 15 ?_); refine EvCall.rd (by first | (simp only [go_sem, simprocAttr]; rfl) | rfl) (sp_eqSetFunctor (f:=a1) (g:=a1) ?_ ?_) cal_eqSetFunctor (by simp [go_sem]) (by simp [go_sem]) ?_; all_goals try simp only [go_sem, simprocAttr])
        | ((with_reducible refine evCall_at 30 ?_); refine EvCall.mu (by first | (simp only [go_sem, simprocAttr]; rfl) | rfl) (by first | (simp only [go_sem, simprocAttr]; rfl) | rfl) (by first | (simp only [go_sem, simprocAttr]; rfl) | rfl) (sp_markFunctor (f:=a0) ?_ ?_ ?_) cal_markFunctor (by first | (simp only [go_sem, simprocAttr]; rfl) | rfl) (by first | (simp only [go_sem, simprocAttr]; rfl) | rfl) (by simp [go_sem]) (by simp [go_sem]) ?_; all_goals try simp only [go_sem, simprocAttr])
        | ((with_reducible refine evCall_at 17 ?_); refine EvCall.mu (by first | (simp only [go_sem, simprocAttr]; rfl) | rfl) (by first | (simp only [go_sem, simprocAttr]; rfl) | rfl) (by first | (simp only [go_sem, simprocAttr]; rfl) | rfl) (sp_markSetFunctor (f:=a1) ?_ ?_ ?_) cal_markSetFunctor (by first | (simp only [go_sem, simprocAttr]; rfl) | rfl) (by first | (simp only [go_sem, simprocAttr]; rfl) | rfl) (by simp [go_sem]) (by simp [go_sem]) ?_; all_goals try simp only [go_sem, simprocAttr])
        | ((with_reducible refine evCall_at 17 ?_); refine EvCall.mu (by first | (simp only [go_sem, simprocAttr]; rfl) | rfl) (by first | (simp only [go_sem, simprocAttr]; rfl) | rfl) (by first | (simp only [go_sem, simprocAttr]; rfl) | rfl) (sp_markSetFunctor (f:=r) ?_ ?_ ?_) cal_markSetFunctor (by first | (simp only [go_sem, simprocAttr]; rfl) | rfl) (by first | (simp only [go_sem, simprocAttr]; rfl) | rfl) (by simp [go_sem]) (by simp [go_sem]) ?_; all_goals try simp only [go_sem, simprocAttr])
        | ((with_reducible refine evCall_at 33 ?_); refine EvCall.rd (by first | (simp only [go_sem, simprocAttr]; rfl) | rfl) (sp_heldSetFunctor_at (d:=r.mk_ 1) (f:=r) (k:=1) (by first | omega | assumption | rfl | exact (by assumption : SMB _).src | exact (by assumption : SMB _).tgt) (by first | omega | assumption | rfl | exact (by assumption : SMB _).src | exact (by assumption : SMB _).tgt) (by first | omega | assumption | rfl | exact (by assumption : SMB _).src | exact (by assumption : SMB _).tgt) (by first | omega | assumption | rfl | exact (by assumption : SMB _).src | exact (by assumption : SMB _).tgt)) cal_heldSetFunctor (by simp [go_sem]) (by simp [go_sem]) ?_; all_goals try simp only [go_sem, simprocAttr])
        | (refine fun (hc : (_ : Bool) = _) => ?_; try simp only [hcS] at hc))
      all_goals try (first | (with_reducible assumption) | ((try simp only [Cat.F, Cat.T, Cat.I, Cat.C, Fun.O, Fun.A, Cat.Entry, Int.toNat_natCast] at *); omega))
      (first | refine ret_auto ?_ | refine ret_auto' ?_); simp only [go_sem, simprocAttr, Try.f8]
    · have hk := t0.b (by omega)
      repeat' (first
        | with_reducible first | refine V_seq ?_ | refine V_block ?_ | refine V_skip ?_ | refine V_ret ?_ | refine V_exit ?_
        | ((with_reducible refine V_cond ?_); simp only [go_sem, simprocAttr])
        | ((first | refine V_region (by rw [hn]; rfl) ?_ | refine V_drawn hmix (by rw [hn]; rfl) ?_); intro K hK)
        | ((first | with_reducible refine evOps_n ?_ | ((with_reducible apply evOps_g); rfl) | with_reducible refine evOpsD_n ?_ | ((with_reducible apply evOpsD_g); rfl)); intro K hK; simp (contextual := true) only [go_sem, simprocAttr])
        | with_reducible refine evOps_nil ?_
        | ((with_reducible refine evOpsD_nil ?_ ?_); kernel_rfl)
        | ((with_reducible refine hK _ ?_); clear hK K)
        | with_reducible first | refine And.intro ?_ ?_ | refine nxt_n ?_ | refine nxt_r ?_ | refine nxt_e ?_ | refine blk_n ?_ | refine blk_r ?_ | refine blk_same ?_ | refine blk_other (by decide) ?_ | refine noG_n ?_ | refine noG_r ?_ | refine noG_e ?_ | refine inR_mk ?_ ?_
        | ((with_reducible refine evCall_at 25 ?_); refine EvCall.rd (by first | (simp only [go_sem, simprocAttr]; rfl) | rfl) (sp_szFunctor_yes (f:=a0) (by first | omega | assumption | rfl | exact (by assumption : SMB _).src | exact (by assumption : SMB _).tgt) (by first | omega | assumption | rfl | exact (by assumption : SMB _).src | exact (by assumption : SMB _).tgt)) cal_szFunctor (by simp [go_sem]) (by simp [go_sem]) ?_; all_goals try simp only [go_sem, simprocAttr])
        | ((with_reducible refine evCall_at 9 ?_); refine EvCall.rd (by first | (simp only [go_sem, simprocAttr]; rfl) | rfl) (sp_szSetFunctor_no (f:=a1) (by first | omega | assumption | rfl | exact (by assumption : SMB _).src | exact (by assumption : SMB _).tgt) (by first | omega | assumption | rfl | exact (by assumption : SMB _).src | exact (by assumption : SMB _).tgt) (by first | omega | assumption | rfl | exact (by assumption : SMB _).src | exact (by assumption : SMB _).tgt) (by first | omega | assumption | rfl | exact (by assumption : SMB _).src | exact (by assumption : SMB _).tgt)) cal_szSetFunctor (by simp [go_sem]) (by simp [go_sem]) ?_; all_goals try simp only [go_sem, simprocAttr])
        | (refine fun (hc : (_ : Bool) = _) => ?_; try simp only [hcS] at hc))
      all_goals try (first | (with_reducible assumption) | ((try simp only [Cat.F, Cat.T, Cat.I, Cat.C, Fun.O, Fun.A, Cat.Entry, Int.toNat_natCast] at *); omega))
      (first | refine ret_auto ?_ | refine ret_auto' ?_); simp only [go_sem, simprocAttr, Try.f8]
  · repeat' (first
      | with_reducible first | refine V_seq ?_ | refine V_block ?_ | refine V_skip ?_ | refine V_ret ?_ | refine V_exit ?_
      | ((with_reducible refine V_cond ?_); simp only [go_sem, simprocAttr])
      | ((first | refine V_region (by rw [hn]; rfl) ?_ | refine V_drawn hmix (by rw [hn]; rfl) ?_); intro K hK)
      | ((first | with_reducible refine evOps_n ?_ | ((with_reducible apply evOps_g); rfl) | with_reducible refine evOpsD_n ?_ | ((with_reducible apply evOpsD_g); rfl)); intro K hK; simp (contextual := true) only [go_sem, simprocAttr])
      | with_reducible refine evOps_nil ?_
      | ((with_reducible refine evOpsD_nil ?_ ?_); kernel_rfl)
      | ((with_reducible refine hK _ ?_); clear hK K)
      | with_reducible first | refine And.intro ?_ ?_ | refine nxt_n ?_ | refine nxt_r ?_ | refine nxt_e ?_ | refine blk_n ?_ | refine blk_r ?_ | refine blk_same ?_ | refine blk_other (by decide) ?_ | refine noG_n ?_ | refine noG_r ?_ | refine noG_e ?_ | refine inR_mk ?_ ?_
      | ((with_reducible refine evCall_at 25 ?_); refine EvCall.rd (by first | (simp only [go_sem, simprocAttr]; rfl) | rfl) (sp_szFunctor_no (f:=a0) (by first | omega | assumption | rfl | exact (by assumption : SMB _).src | exact (by assumption : SMB _).tgt) (by first | omega | assumption | rfl | exact (by assumption : SMB _).src | exact (by assumption : SMB _).tgt) (by first | omega | assumption | rfl | exact (by assumption : SMB _).src | exact (by assumption : SMB _).tgt) (by first | omega | assumption | rfl | exact (by assumption : SMB _).src | exact (by assumption : SMB _).tgt)) cal_szFunctor (by simp [go_sem]) (by simp [go_sem]) ?_; all_goals try simp only [go_sem, simprocAttr])
      | (refine fun (hc : (_ : Bool) = _) => ?_; try simp only [hcS] at hc))
    all_goals try (first | (with_reducible assumption) | ((try simp only [Cat.F, Cat.T, Cat.I, Cat.C, Fun.O, Fun.A, Cat.Entry, Int.toNat_natCast] at *); omega))
    (first | refine ret_auto ?_ | refine ret_auto' ?_); simp only [go_sem, simprocAttr, Try.f8]
end Go.Eng

namespace Go.Proofs.Ytgmbhfggdcipoaa
open Go Go.Eng Go.Cats Go.ChangeShapes Go.WideShapes Go.RowKit

theorem Try.own14_ : ownKnob Try.checked.prog.godebug = none := by kernel_rfl
theorem Try.laidOut14_ : laidOutB Try.prog = true := by kernel_rfl

theorem rightExtension_lifted (os : Os) (started : os.Started) (H : Type) (enc : TypeId × Value → H) :
    ReturnsInHanded {} Try.checked os 8 .any (Rows.fnExactRightExtensionSpec.pre6 enc Try.prog Try.f8 Rows.fnExactRightExtensionRow.domain Rows.fnExactRightExtensionRow.apart) (Rows.fnExactRightExtensionSpec.post enc Try.prog Try.f8 Rows.fnExactRightExtensionRow.apart Rows.fnExactRightExtensionRow.fresh Rows.fnExactRightExtensionRow.handsOn Rows.fnExactRightExtensionRow.again) := by
  refine returnsInHanded_of_change (C := Try.checked) Try.own14_ started (by kernel_rfl) Try.func8
    (ChangeSpec.witness6 (enc := enc) (C := Try.checked) false ⟨#[], #[.agg #[.int .i64 0, .slice none 0 0, .slice none 0 0, .slice none 0 0, .slice none 0 0, .int .i64 0, .slice none 0 0, .slice none 0 0, .slice none 0 0, .slice none 0 0, .slice none 0 0, .slice none 0 0], .agg #[.int .i64 0, .slice none 0 0, .slice none 0 0, .slice none 0 0, .slice none 0 0, .slice none 0 0, .slice none 0 0]], []⟩ 8 (by kernel_rfl) (by kernel_rfl) (by kernel_rfl) (by kernel_rfl)) ?_
  intro W base args ds gs before hval0 hW hcnd _
  have hval : ∀ (j : Nat) t v, Try.f8.params[j]? = some t → args[j]? = some v → Value.okWide Try.prog W .any base t v := hval0
  have hW' := hW
  obtain ⟨p, q, hA0, hV, rfl, hfz, hnd⟩ := hW
  obtain ⟨rfl, rfl⟩ := trodVars_none hV
  have hA : DataW.TrodAll enc Try.prog W 0 (fun _ => true) true [49, 27] args.toList ds p := hA0
  obtain ⟨v0, v1, d0, d1, p0, p1, rfl, rfl, rfl, h0, h1⟩ := trodAll_two hA
  obtain ⟨cs0, rfl, _⟩ := okWide_struct Try.underlying49 (hval 0 49 v0 rfl rfl)
  obtain ⟨fuel0, hf0⟩ := h0
  have hg0 := hf0
  rw [show (Value.agg cs0).cells.toList = cs0.toList from rfl] at hf0
  obtain ⟨a0, hm0, hok0⟩ := rd_fun hf0
  obtain ⟨cs1, rfl, _⟩ := okWide_struct Try.underlying27 (hval 1 27 v1 rfl rfl)
  obtain ⟨fuel1, hf1⟩ := h1
  have hg1 := hf1
  rw [show (Value.agg cs1).cells.toList = cs1.toList from rfl] at hf1
  obtain ⟨a1, hm1, hok1⟩ := rd_sf hf1
  have hlt : ∀ y ∈ p0 ++ p1, y.block < W.heap.size := fun y hy => hW'.lt y (by simpa using hy)
  refine (sp_FnExactRightExtension (a0 := a0) (a1 := a1) hm0 hm1 W (Old W) (Old W) _ [.agg cs0, .agg cs1] (hp_start W) ?_).mono fun ed W' ⟨v, c1, he, hp, hv, _⟩ => ?_
  · simp only [Sv.okL, Sv.ok]
    exact ⟨_, _, rfl, ⟨cs0.toList, by simp, hok0 _ _⟩, _, _, rfl, ⟨cs1.toList, by simp, hok1 _ _⟩, rfl⟩
  · simp only [Sv.ok] at hv
    subst hv
    subst he
    have hb := below_of_hp hp
    refine ⟨_, rfl, post_law hW' rfl rfl Try.underlying4 rfl hb ?_⟩
    rw [List.append_nil]
    exact trodAll_mk2 (Below.trod Try.laidOut14_ (by kernel_rfl) (of_decide_eq_true (by kernel_rfl)) ⟨fuel0, hg0⟩ hb (fun y hy => hlt y (by simp [hy]))) (Below.trod Try.laidOut14_ (by kernel_rfl) (of_decide_eq_true (by kernel_rfl)) ⟨fuel1, hg1⟩ hb (fun y hy => hlt y (by simp [hy])))

theorem rightExtension_holds : Rows.FnExactRightExtensionSaid :=
  OpenClaim.holds_of_wide_leaving 8 Try.f8 rfl rfl rfl rfl rfl rfl rfl ⟨rfl, rfl, rfl, rfl, rfl⟩ rfl rfl rfl rfl rfl (by kernel_rfl) Try.func8 (by kernel_rfl)
    (of_decide_eq_true (by kernel_rfl)) (by unfold Func.isWrapper; first | (rw [if_pos (by decide +kernel)]; kernel_rfl) | (rw [if_neg (by decide +kernel)]; exact ⟨rfl, rfl⟩))
    (fun os started H enc _ => leaving_of_handed (rightExtension_lifted os started H enc))
#print axioms rightExtension_holds
end Go.Proofs.Ytgmbhfggdcipoaa
