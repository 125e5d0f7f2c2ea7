/- The law FnExactRightCounit is true of the given program: for every functor and set functor the call returns true, and both read behind it as they did. No condition. -/
import Derived.Test.YtjdjkmgjgghodaaGreatKdx
import Derived.Test.YtjdjkmgjgghodaaGreatB20q
import Derived.Test.YtjdjkmgjgghodaaGreatH04q
import Derived.Test.YtjdjkmgjgghodaaGreatRows
import Derived.JoinedOf
import Derived.ProofKit
set_option linter.unusedSimpArgs false
set_option linter.unusedVariables false
set_option maxRecDepth 100000
set_option maxHeartbeats 16000000
namespace Go.Eng
open Go Go.Proofs Go.Cats
def _root_.Go.Cats.nilSM : SM := ⟨nilSF, nilSF, []⟩
theorem nilSM_b : SMB nilSM := by
  have hnil : SFB nilSF := ⟨⟨by decide, by decide, by decide, by decide, by decide, by decide, fun f h => by simp [nilSF] at h⟩, by decide, by decide, fun a h => by simp [nilSF] at h⟩
  exact ⟨hnil, hnil, by decide, fun a h => by simp [nilSM] at h⟩
theorem adoptSM {P : Program} {F : FuncId} {args : List Sv} {y : Value} (h : Spec P F args [] (.tup [.agg [iv 0, .v (.slice none 0 0), .v (.slice none 0 0), .v (.slice none 0 0), .v (.slice none 0 0), .v (.slice none 0 0), .v (.slice none 0 0), iv 0, .v (.slice none 0 0), .v (.slice none 0 0), .v (.slice none 0 0), .v (.slice none 0 0), .v (.slice none 0 0), .v (.slice none 0 0), .v (.slice none 0 0)], .v y]) []) : Spec P F args [] (.tup [.agg [iv nilSM.src.shape.ob, .sl 0, .sl 1, .sl 2, .sl 3, .sl 4, .sl 5, iv nilSM.tgt.shape.ob, .sl 6, .sl 7, .sl 8, .sl 9, .sl 10, .sl 11, .sl 12], .v y])
    [(0, ⟨1, .arr (ints nilSM.src.shape.fr)⟩), (1, ⟨1, .arr (ints nilSM.src.shape.to)⟩), (2, ⟨1, .arr (ints nilSM.src.shape.id)⟩), (3, ⟨1, .arr (intss nilSM.src.shape.co)⟩), (4, ⟨1, .arr (ints nilSM.src.sizes)⟩), (5, ⟨1, .arr (intss nilSM.src.acts)⟩), (6, ⟨1, .arr (ints nilSM.tgt.shape.fr)⟩), (7, ⟨1, .arr (ints nilSM.tgt.shape.to)⟩), (8, ⟨1, .arr (ints nilSM.tgt.shape.id)⟩), (9, ⟨1, .arr (intss nilSM.tgt.shape.co)⟩), (10, ⟨1, .arr (ints nilSM.tgt.sizes)⟩), (11, ⟨1, .arr (intss nilSM.tgt.acts)⟩), (12, ⟨1, .arr (intss nilSM.parts)⟩)] := by
  refine Spec.adopt h (emptyL_cons_i (emptyL_cons_i (emptyL_cons_i (emptyL_cons_s (emptyL_cons_i (emptyL_cons_s (emptyL_cons_i (emptyL_cons_i (emptyL_cons_i (emptyL_cons_s (emptyL_cons_i (emptyL_cons_s (emptyL_cons_s emptyL_nil))))))))))))) fun w S v cn h => ?_
  simp only [Sv.ok, Sv.okL] at h ⊢
  obtain ⟨vs, rfl, x, r, rfl, ⟨us, rfl, hu⟩, hr⟩ := h
  refine ⟨_, rfl, _, _, rfl, ⟨us, rfl, ?_⟩, hr⟩
  obtain ⟨x0, r0, rfl, e0, x1, r1, rfl, e1, x2, r2, rfl, e2, x3, r3, rfl, e3, x4, r4, rfl, e4, x5, r5, rfl, e5, x6, r6, rfl, e6, x7, r7, rfl, e7, x8, r8, rfl, e8, x9, r9, rfl, e9, x10, r10, rfl, e10, x11, r11, rfl, e11, x12, r12, rfl, e12, x13, r13, rfl, e13, x14, r14, rfl, e14, e15⟩ := hu
  exact ⟨_, _, rfl, e0, _, _, rfl, ⟨Nat.le_refl 1, e1⟩, _, _, rfl, ⟨Nat.le_refl 1, e2⟩, _, _, rfl, ⟨Nat.le_refl 1, e3⟩, _, _, rfl, ⟨Nat.le_refl 1, e4⟩, _, _, rfl, ⟨Nat.le_refl 1, e5⟩, _, _, rfl, ⟨Nat.le_refl 1, e6⟩, _, _, rfl, e7, _, _, rfl, ⟨Nat.le_refl 1, e8⟩, _, _, rfl, ⟨Nat.le_refl 1, e9⟩, _, _, rfl, ⟨Nat.le_refl 1, e10⟩, _, _, rfl, ⟨Nat.le_refl 1, e11⟩, _, _, rfl, ⟨Nat.le_refl 1, e12⟩, _, _, rfl, ⟨Nat.le_refl 1, e13⟩, _, _, rfl, ⟨Nat.le_refl 1, e14⟩, e15⟩
theorem counit_key {k : Fun} {f : SF} (hk : FunB k) (hf : SFB f) : ∃ (r : SM) (c : Int), SMB r ∧
    Spec Tryz.prog 11 [funV k, sfV f] [] (.tup [.agg [iv r.src.shape.ob, .sl 0, .sl 1, .sl 2, .sl 3, .sl 4, .sl 5, iv r.tgt.shape.ob, .sl 6, .sl 7, .sl 8, .sl 9, .sl 10, .sl 11, .sl 12], iv c]) [(0, ⟨1, .arr (ints r.src.shape.fr)⟩), (1, ⟨1, .arr (ints r.src.shape.to)⟩), (2, ⟨1, .arr (ints r.src.shape.id)⟩), (3, ⟨1, .arr (intss r.src.shape.co)⟩), (4, ⟨1, .arr (ints r.src.sizes)⟩), (5, ⟨1, .arr (intss r.src.acts)⟩), (6, ⟨1, .arr (ints r.tgt.shape.fr)⟩), (7, ⟨1, .arr (ints r.tgt.shape.to)⟩), (8, ⟨1, .arr (ints r.tgt.shape.id)⟩), (9, ⟨1, .arr (intss r.tgt.shape.co)⟩), (10, ⟨1, .arr (ints r.tgt.sizes)⟩), (11, ⟨1, .arr (intss r.tgt.acts)⟩), (12, ⟨1, .arr (intss r.parts)⟩)] ∧
    Spec Tryz.prog 8 [funV k, sfV f] [] (.tup [.agg [iv r.src.shape.ob, .sl 0, .sl 1, .sl 2, .sl 3, .sl 4, .sl 5, iv r.tgt.shape.ob, .sl 6, .sl 7, .sl 8, .sl 9, .sl 10, .sl 11, .sl 12], iv c]) [(0, ⟨1, .arr (ints r.src.shape.fr)⟩), (1, ⟨1, .arr (ints r.src.shape.to)⟩), (2, ⟨1, .arr (ints r.src.shape.id)⟩), (3, ⟨1, .arr (intss r.src.shape.co)⟩), (4, ⟨1, .arr (ints r.src.sizes)⟩), (5, ⟨1, .arr (intss r.src.acts)⟩), (6, ⟨1, .arr (ints r.tgt.shape.fr)⟩), (7, ⟨1, .arr (ints r.tgt.shape.to)⟩), (8, ⟨1, .arr (ints r.tgt.shape.id)⟩), (9, ⟨1, .arr (intss r.tgt.shape.co)⟩), (10, ⟨1, .arr (ints r.tgt.sizes)⟩), (11, ⟨1, .arr (intss r.tgt.acts)⟩), (12, ⟨1, .arr (intss r.parts)⟩)] := by
  rcases bco_cases k f with ⟨c, h, h0⟩ | ⟨ik, jf, he⟩
  · exact ⟨nilSM, c, nilSM_b, adoptSM (sp_RightCounit_bad hk hf h h0), adoptSM (sp_spec_RightCounit_bad hk hf h h0)⟩
  · rcases ex_cases k f with ⟨y0, hb⟩ | hg
    · exact ⟨nilSM, 3, nilSM_b, adoptSM (sp_RightCounit_far hk hf ik jf he hb), adoptSM (sp_spec_RightCounit_far hk hf ik jf he hb)⟩
    · refine ⟨⟨alF k (exF k f), f, cuR k f k.obs.length⟩, 0, ⟨alF_b hk (exF_b ik hk hg) (by rw [exF_acl]; exact ik.fits.arw), hf, by rw [cuR_len]; exact hk.obs, fun i hi => ?_⟩, sp_RightCounit_yes hk hf ik jf he hg, sp_spec_RightCounit_yes hk hf ik jf he hg⟩
      have hi' : i < k.obs.length := by have h : i < (cuR k f k.obs.length).length := hi; rwa [cuR_len] at h
      have o := ik.fits.obw i hi'
      obtain ⟨y, hy⟩ : ∃ y : Nat, k.obs.getD i 0 = y := ⟨_, (Int.toNat_of_nonneg o.1).symm⟩
      have := (hg y (by omega)).2
      show ((cuR k f k.obs.length).getD i []).length ≤ _
      rw [cuR_at hi', colN_len, hy]; omega
theorem cal_FnExactRightCounit : Callable Tryz.prog 3 := ⟨_, Tryz.func3, rfl, rfl⟩
theorem sp_FnExactRightCounit {a0 : Fun} {a1 : SF} (t0 : FunT a0) (t1 : SFT a1) : Spec Tryz.prog 3 [funV a0, sfV a1] [] (bv true) [] := by
  refine spec_of_V (E := TE) 0 Tryz.func3 rfl (by simp [Tryz.f3]) fun X hn hX => ?_
  have l0 := t0.l
  have l1 := t1.l
  by_cases hz : (funSz a0 : Int) ≤ 1048576
  · by_cases hz2 : (sfSz a1 : Int) ≤ 1048576 - funSz a0
    · have hk := t0.b (by omega)
      have hf := t1.b (by omega)
      have k0 := hk.mkn
      have k1 := hf.mkn
      obtain ⟨r, c, hr, sp_RightCounit_loc, sp_spec_RightCounit_loc⟩ := counit_key hk hf
      have k2 := hr.mkn
      repeat' (first | (with_reducible first | refine V_seq ?_ | refine V_block ?_ | refine V_skip ?_ | refine V_ret ?_ | refine V_exit ?_) | ((with_reducible refine V_cond ?_); simp only [go_sem, simprocAttr]) | ((first | refine V_region (by rw [hn]; rfl) ?_ | refine V_drawn hmix (by rw [hn]; rfl) ?_); intro K hK) | ((first | with_reducible refine evOps_n ?_ | ((with_reducible apply evOps_g); rfl) | with_reducible refine evOpsD_n ?_ | ((with_reducible apply evOpsD_g); rfl)); intro K hK; simp (contextual := true) only [go_sem, simprocAttr]) | with_reducible refine evOps_nil ?_ | ((with_reducible refine evOpsD_nil ?_ ?_); kernel_rfl) | ((with_reducible refine hK _ ?_); clear hK K) | (with_reducible first | refine And.intro ?_ ?_ | refine nxt_n ?_ | refine nxt_r ?_ | refine nxt_e ?_ | refine blk_n ?_ | refine blk_r ?_ | refine blk_same ?_ | refine blk_other (by decide) ?_ | refine noG_n ?_ | refine noG_r ?_ | refine noG_e ?_ | refine inR_mk ?_ ?_) | ((with_reducible refine evCall_at 6 ?_); refine EvCall.rd (by first | (simp only [go_sem, simprocAttr]; rfl) | rfl) (sp_szFunctor_yes (f:=a0) (by first | omega | assumption | rfl | exact (by assumption : SMB _).src | exact (by assumption : SMB _).tgt) (by first | omega | assumption | rfl | exact (by assumption : SMB _).src | exact (by assumption : SMB _).tgt)) cal_szFunctor (by simp [go_sem]) (by simp [go_sem]) ?_; all_goals try simp only [go_sem, simprocAttr]) | ((with_reducible refine evCall_at 7 ?_); refine EvCall.rd (by first | (simp only [go_sem, simprocAttr]; rfl) | rfl) (sp_szSetFunctor_yes (f:=a1) (by first | omega | assumption | rfl | exact (by assumption : SMB _).src | exact (by assumption : SMB _).tgt) (by first | omega | assumption | rfl | exact (by assumption : SMB _).src | exact (by assumption : SMB _).tgt)) cal_szSetFunctor (by simp [go_sem]) (by simp [go_sem]) ?_; all_goals try simp only [go_sem, simprocAttr]) | ((with_reducible refine evCall_at 9 ?_); refine EvCall.rd (by first | (simp only [go_sem, simprocAttr]; rfl) | rfl) (sp_toFunctor (f:=a0) ?_) cal_toFunctor (by simp [go_sem]) (by simp [go_sem]) ?_; all_goals try simp only [go_sem, simprocAttr]) | ((with_reducible refine evCall_at 10 ?_); refine EvCall.rd (by first | (simp only [go_sem, simprocAttr]; rfl) | rfl) (sp_toSetFunctor (f:=a1) ?_) cal_toSetFunctor (by simp [go_sem]) (by simp [go_sem]) ?_; all_goals try simp only [go_sem, simprocAttr]) | ((with_reducible refine evCall_at 8 ?_); refine EvCall.rd (by first | (simp only [go_sem, simprocAttr]; rfl) | rfl) (sp_spec_RightCounit_loc) cal_spec_RightCounit (by simp [go_sem]) (by simp [go_sem]) ?_; all_goals try simp only [go_sem, simprocAttr]) | ((with_reducible refine evCall_at 11 ?_); refine EvCall.rd (by first | (simp only [go_sem, simprocAttr]; rfl) | rfl) (sp_RightCounit_loc) cal_RightCounit (by simp [go_sem]) (by simp [go_sem]) ?_; all_goals try simp only [go_sem, simprocAttr]) | ((with_reducible refine evCall_at 13 ?_); refine EvCall.rd (by first | (simp only [go_sem, simprocAttr]; rfl) | rfl) (sp_eqFunctor (f:=a0) (g:=a0) ?_ ?_) cal_eqFunctor (by simp [go_sem]) (by simp [go_sem]) ?_; all_goals try simp only [go_sem, simprocAttr]) | ((with_reducible refine evCall_at 12 ?_); refine EvCall.rd (by first | (simp only [go_sem, simprocAttr]; rfl) | rfl) (sp_eqSetMap (f:=r) (g:=r) ?_ ?_) cal_eqSetMap (by simp [go_sem]) (by simp [go_sem]) ?_; all_goals try simp only [go_sem, simprocAttr]) | ((with_reducible refine evCall_at 14 ?_); refine EvCall.rd (by first | (simp only [go_sem, simprocAttr]; rfl) | rfl) (sp_eqSetFunctor (f:=a1) (g:=a1) ?_ ?_) cal_eqSetFunctor (by simp [go_sem]) (by simp [go_sem]) ?_; all_goals try simp only [go_sem, simprocAttr]) | ((with_reducible refine evCall_at 15 ?_); refine EvCall.mu (by first | (simp only [go_sem, simprocAttr]; rfl) | rfl) (by first | (simp only [go_sem, simprocAttr]; rfl) | rfl) (by first | (simp only [go_sem, simprocAttr]; rfl) | rfl) (sp_markFunctor (f:=a0) ?_ ?_ ?_) cal_markFunctor (by first | (simp only [go_sem, simprocAttr]; rfl) | rfl) (by first | (simp only [go_sem, simprocAttr]; rfl) | rfl) (by simp [go_sem]) (by simp [go_sem]) ?_; all_goals try simp only [go_sem, simprocAttr]) | ((with_reducible refine evCall_at 16 ?_); refine EvCall.mu (by first | (simp only [go_sem, simprocAttr]; rfl) | rfl) (by first | (simp only [go_sem, simprocAttr]; rfl) | rfl) (by first | (simp only [go_sem, simprocAttr]; rfl) | rfl) (sp_markSetFunctor (f:=a1) ?_ ?_ ?_) cal_markSetFunctor (by first | (simp only [go_sem, simprocAttr]; rfl) | rfl) (by first | (simp only [go_sem, simprocAttr]; rfl) | rfl) (by simp [go_sem]) (by simp [go_sem]) ?_; all_goals try simp only [go_sem, simprocAttr]) | ((with_reducible refine evCall_at 17 ?_); refine EvCall.mu (by first | (simp only [go_sem, simprocAttr]; rfl) | rfl) (by first | (simp only [go_sem, simprocAttr]; rfl) | rfl) (by first | (simp only [go_sem, simprocAttr]; rfl) | rfl) (sp_markSetMap (m:=r) ?_ ?_ ?_) cal_markSetMap (by first | (simp only [go_sem, simprocAttr]; rfl) | rfl) (by first | (simp only [go_sem, simprocAttr]; rfl) | rfl) (by simp [go_sem]) (by simp [go_sem]) ?_; all_goals try simp only [go_sem, simprocAttr]) | ((with_reducible refine evCall_at 18 ?_); refine EvCall.rd (by first | (simp only [go_sem, simprocAttr]; rfl) | rfl) (sp_heldSetMap_at (d:=r.mk_ 1) (m:=r) (k:=1) (by first | omega | assumption | rfl | exact (by assumption : SMB _).src | exact (by assumption : SMB _).tgt) (by first | omega | assumption | rfl | exact (by assumption : SMB _).src | exact (by assumption : SMB _).tgt) (by first | omega | assumption | rfl | exact (by assumption : SMB _).src | exact (by assumption : SMB _).tgt) (by first | omega | assumption | rfl | exact (by assumption : SMB _).src | exact (by assumption : SMB _).tgt)) cal_heldSetMap (by simp [go_sem]) (by simp [go_sem]) ?_; all_goals try simp only [go_sem, simprocAttr]) | (refine fun (hc : (_ : Bool) = _) => ?_; try simp only [hcS] at hc))
      all_goals try (first | (with_reducible assumption) | ((try simp only [Cat.F, Cat.T, Cat.I, Cat.C, Fun.O, Fun.A, Cat.Entry, Int.toNat_natCast] at *); omega))
      (first | refine ret_auto ?_ | refine ret_auto' ?_); simp only [go_sem, simprocAttr, Tryz.f3]
    · have hk := t0.b (by omega)
      repeat' (first | (with_reducible first | refine V_seq ?_ | refine V_block ?_ | refine V_skip ?_ | refine V_ret ?_ | refine V_exit ?_) | ((with_reducible refine V_cond ?_); simp only [go_sem, simprocAttr]) | ((first | refine V_region (by rw [hn]; rfl) ?_ | refine V_drawn hmix (by rw [hn]; rfl) ?_); intro K hK) | ((first | with_reducible refine evOps_n ?_ | ((with_reducible apply evOps_g); rfl) | with_reducible refine evOpsD_n ?_ | ((with_reducible apply evOpsD_g); rfl)); intro K hK; simp (contextual := true) only [go_sem, simprocAttr]) | with_reducible refine evOps_nil ?_ | ((with_reducible refine evOpsD_nil ?_ ?_); kernel_rfl) | ((with_reducible refine hK _ ?_); clear hK K) | (with_reducible first | refine And.intro ?_ ?_ | refine nxt_n ?_ | refine nxt_r ?_ | refine nxt_e ?_ | refine blk_n ?_ | refine blk_r ?_ | refine blk_same ?_ | refine blk_other (by decide) ?_ | refine noG_n ?_ | refine noG_r ?_ | refine noG_e ?_ | refine inR_mk ?_ ?_) | ((with_reducible refine evCall_at 6 ?_); refine EvCall.rd (by first | (simp only [go_sem, simprocAttr]; rfl) | rfl) (sp_szFunctor_yes (f:=a0) (by first | omega | assumption | rfl | exact (by assumption : SMB _).src | exact (by assumption : SMB _).tgt) (by first | omega | assumption | rfl | exact (by assumption : SMB _).src | exact (by assumption : SMB _).tgt)) cal_szFunctor (by simp [go_sem]) (by simp [go_sem]) ?_; all_goals try simp only [go_sem, simprocAttr]) | ((with_reducible refine evCall_at 7 ?_); refine EvCall.rd (by first | (simp only [go_sem, simprocAttr]; rfl) | rfl) (sp_szSetFunctor_no (f:=a1) (by first | omega | assumption | rfl | exact (by assumption : SMB _).src | exact (by assumption : SMB _).tgt) (by first | omega | assumption | rfl | exact (by assumption : SMB _).src | exact (by assumption : SMB _).tgt) (by first | omega | assumption | rfl | exact (by assumption : SMB _).src | exact (by assumption : SMB _).tgt) (by first | omega | assumption | rfl | exact (by assumption : SMB _).src | exact (by assumption : SMB _).tgt)) cal_szSetFunctor (by simp [go_sem]) (by simp [go_sem]) ?_; all_goals try simp only [go_sem, simprocAttr]) | (refine fun (hc : (_ : Bool) = _) => ?_; try simp only [hcS] at hc))
      all_goals try (first | (with_reducible assumption) | ((try simp only [Cat.F, Cat.T, Cat.I, Cat.C, Fun.O, Fun.A, Cat.Entry, Int.toNat_natCast] at *); omega))
      (first | refine ret_auto ?_ | refine ret_auto' ?_); simp only [go_sem, simprocAttr, Tryz.f3]
  · repeat' (first | (with_reducible first | refine V_seq ?_ | refine V_block ?_ | refine V_skip ?_ | refine V_ret ?_ | refine V_exit ?_) | ((with_reducible refine V_cond ?_); simp only [go_sem, simprocAttr]) | ((first | refine V_region (by rw [hn]; rfl) ?_ | refine V_drawn hmix (by rw [hn]; rfl) ?_); intro K hK) | ((first | with_reducible refine evOps_n ?_ | ((with_reducible apply evOps_g); rfl) | with_reducible refine evOpsD_n ?_ | ((with_reducible apply evOpsD_g); rfl)); intro K hK; simp (contextual := true) only [go_sem, simprocAttr]) | with_reducible refine evOps_nil ?_ | ((with_reducible refine evOpsD_nil ?_ ?_); kernel_rfl) | ((with_reducible refine hK _ ?_); clear hK K) | (with_reducible first | refine And.intro ?_ ?_ | refine nxt_n ?_ | refine nxt_r ?_ | refine nxt_e ?_ | refine blk_n ?_ | refine blk_r ?_ | refine blk_same ?_ | refine blk_other (by decide) ?_ | refine noG_n ?_ | refine noG_r ?_ | refine noG_e ?_ | refine inR_mk ?_ ?_) | ((with_reducible refine evCall_at 6 ?_); refine EvCall.rd (by first | (simp only [go_sem, simprocAttr]; rfl) | rfl) (sp_szFunctor_no (f:=a0) (by first | omega | assumption | rfl | exact (by assumption : SMB _).src | exact (by assumption : SMB _).tgt) (by first | omega | assumption | rfl | exact (by assumption : SMB _).src | exact (by assumption : SMB _).tgt) (by first | omega | assumption | rfl | exact (by assumption : SMB _).src | exact (by assumption : SMB _).tgt) (by first | omega | assumption | rfl | exact (by assumption : SMB _).src | exact (by assumption : SMB _).tgt)) cal_szFunctor (by simp [go_sem]) (by simp [go_sem]) ?_; all_goals try simp only [go_sem, simprocAttr]) | (refine fun (hc : (_ : Bool) = _) => ?_; try simp only [hcS] at hc))
    all_goals try (first | (with_reducible assumption) | ((try simp only [Cat.F, Cat.T, Cat.I, Cat.C, Fun.O, Fun.A, Cat.Entry, Int.toNat_natCast] at *); omega))
    (first | refine ret_auto ?_ | refine ret_auto' ?_); simp only [go_sem, simprocAttr, Tryz.f3]
end Go.Eng
namespace Go.Proofs.YtjdjkmgjgghodaaGreat
open Go Go.Eng Go.Cats Go.ChangeShapes Go.WideShapes Go.RowKit
theorem Tryz.own15_ : ownKnob Tryz.checked.prog.godebug = none := by kernel_rfl
theorem Tryz.laidOut15_ : laidOutB Tryz.prog = true := by kernel_rfl
theorem rightCounit_lifted (os : Os) (started : os.Started) (H : Type) (enc : TypeId × Value → H) :
    ReturnsInHanded {} Tryz.checked os 3 .any (Rows.fnExactRightCounitSpec.pre6 enc Tryz.prog Tryz.f3 Rows.fnExactRightCounitRow.domain Rows.fnExactRightCounitRow.apart) (Rows.fnExactRightCounitSpec.post enc Tryz.prog Tryz.f3 Rows.fnExactRightCounitRow.apart Rows.fnExactRightCounitRow.fresh Rows.fnExactRightCounitRow.handsOn Rows.fnExactRightCounitRow.again) := by
  refine returnsInHanded_of_change (C := Tryz.checked) Tryz.own15_ started (by kernel_rfl) Tryz.func3
    (ChangeSpec.witness6 (enc := enc) (C := Tryz.checked) false ⟨#[], #[.agg #[.int .i64 0, .slice none 0 0, .slice none 0 0, .slice none 0 0, .slice none 0 0, .int .i64 0, .slice none 0 0, .slice none 0 0, .slice none 0 0, .slice none 0 0, .slice none 0 0, .slice none 0 0], .agg #[.int .i64 0, .slice none 0 0, .slice none 0 0, .slice none 0 0, .slice none 0 0, .slice none 0 0, .slice none 0 0]], []⟩ 8 (by kernel_rfl) (by kernel_rfl) (by kernel_rfl) (by kernel_rfl)) ?_
  intro W base args ds gs before hval0 hW hcnd _
  have hval : ∀ (j : Nat) t v, Tryz.f3.params[j]? = some t → args[j]? = some v → Value.okWide Tryz.prog W .any base t v := hval0
  have hW' := hW
  obtain ⟨p, q, hA0, hV, rfl, hfz, hnd⟩ := hW
  obtain ⟨rfl, rfl⟩ := trodVars_none hV
  have hA : DataW.TrodAll enc Tryz.prog W 0 (fun _ => true) true [27, 29] args.toList ds p := hA0
  obtain ⟨v0, v1, d0, d1, p0, p1, rfl, rfl, rfl, h0, h1⟩ := trodAll_two hA
  obtain ⟨cs0, rfl, _⟩ := okWide_struct Tryz.underlying27 (hval 0 27 v0 rfl rfl)
  obtain ⟨fuel0, hf0⟩ := h0
  have hg0 := hf0
  rw [show (Value.agg cs0).cells.toList = cs0.toList from rfl] at hf0
  obtain ⟨a0, hm0, hok0⟩ := rd_fun hf0
  obtain ⟨cs1, rfl, _⟩ := okWide_struct Tryz.underlying29 (hval 1 29 v1 rfl rfl)
  obtain ⟨fuel1, hf1⟩ := h1
  have hg1 := hf1
  rw [show (Value.agg cs1).cells.toList = cs1.toList from rfl] at hf1
  obtain ⟨a1, hm1, hok1⟩ := rd_sf hf1
  have hlt : ∀ y ∈ p0 ++ p1, y.block < W.heap.size := fun y hy => hW'.lt y (by simpa using hy)
  refine (sp_FnExactRightCounit (a0 := a0) (a1 := a1) hm0 hm1 W (Old W) (Old W) _ [.agg cs0, .agg cs1] (hp_start W) ?_).mono fun ed W' ⟨v, c1, he, hp, hv, _⟩ => ?_
  · simp only [Sv.okL, Sv.ok]
    exact ⟨_, _, rfl, ⟨cs0.toList, by simp, hok0 _ _⟩, _, _, rfl, ⟨cs1.toList, by simp, hok1 _ _⟩, rfl⟩
  · simp only [Sv.ok] at hv
    subst hv
    subst he
    have hb := below_of_hp hp
    refine ⟨_, rfl, post_law hW' rfl rfl Tryz.underlying4 rfl hb ?_⟩
    rw [List.append_nil]
    exact trodAll_mk2 (Below.trod Tryz.laidOut15_ (by kernel_rfl) (of_decide_eq_true (by kernel_rfl)) ⟨fuel0, hg0⟩ hb (fun y hy => hlt y (by simp [hy]))) (Below.trod Tryz.laidOut15_ (by kernel_rfl) (of_decide_eq_true (by kernel_rfl)) ⟨fuel1, hg1⟩ hb (fun y hy => hlt y (by simp [hy])))
theorem rightCounit_holds : Rows.FnExactRightCounitSaid :=
  OpenClaim.holds_of_wide 3 Tryz.f3 rfl rfl rfl rfl rfl rfl rfl ⟨rfl, rfl, rfl, rfl, rfl⟩ rfl rfl rfl rfl rfl (by kernel_rfl) Tryz.func3 (by kernel_rfl)
    (of_decide_eq_true (by kernel_rfl)) (by unfold Func.isWrapper; first | (rw [if_pos (by decide +kernel)]; kernel_rfl) | (rw [if_neg (by decide +kernel)]; exact ⟨rfl, rfl⟩))
    (fun os started H enc _ => rightCounit_lifted os started H enc)
#print axioms rightCounit_holds
end Go.Proofs.YtjdjkmgjgghodaaGreat
