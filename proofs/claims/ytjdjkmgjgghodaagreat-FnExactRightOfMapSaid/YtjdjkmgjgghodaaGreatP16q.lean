/- The law FnExactRightOfMap is true of the given program: for every functor and natural map the call returns true, and both read behind it as they did. No condition. -/
import Derived.Test.YtjdjkmgjgghodaaGreatKdx
import Derived.Test.YtjdjkmgjgghodaaGreatB22q
import Derived.Test.YtjdjkmgjgghodaaGreatH05q
import Derived.Test.YtjdjkmgjgghodaaGreatRows
import Derived.JoinedOf
import Derived.ProofKit
set_option linter.unusedSimpArgs false
set_option linter.unusedVariables false
set_option maxRecDepth 100000
set_option maxHeartbeats 16000000
namespace Go.Eng
open Go Go.Proofs Go.Cats
theorem ofMap_key {k : Fun} {m : SM} (hk : FunB k) (hm : SMB m) : ∃ (r : SM) (c : Int), SMB r ∧
    Spec Tryz.prog 22 [funV k, smV m] [] (.tup [.agg [iv r.src.shape.ob, .sl 0, .sl 1, .sl 2, .sl 3, .sl 4, .sl 5, iv r.tgt.shape.ob, .sl 6, .sl 7, .sl 8, .sl 9, .sl 10, .sl 11, .sl 12], iv c]) [(0, ⟨1, .arr (ints r.src.shape.fr)⟩), (1, ⟨1, .arr (ints r.src.shape.to)⟩), (2, ⟨1, .arr (ints r.src.shape.id)⟩), (3, ⟨1, .arr (intss r.src.shape.co)⟩), (4, ⟨1, .arr (ints r.src.sizes)⟩), (5, ⟨1, .arr (intss r.src.acts)⟩), (6, ⟨1, .arr (ints r.tgt.shape.fr)⟩), (7, ⟨1, .arr (ints r.tgt.shape.to)⟩), (8, ⟨1, .arr (ints r.tgt.shape.id)⟩), (9, ⟨1, .arr (intss r.tgt.shape.co)⟩), (10, ⟨1, .arr (ints r.tgt.sizes)⟩), (11, ⟨1, .arr (intss r.tgt.acts)⟩), (12, ⟨1, .arr (intss r.parts)⟩)] ∧
    Spec Tryz.prog 20 [funV k, smV m] [] (.tup [.agg [iv r.src.shape.ob, .sl 0, .sl 1, .sl 2, .sl 3, .sl 4, .sl 5, iv r.tgt.shape.ob, .sl 6, .sl 7, .sl 8, .sl 9, .sl 10, .sl 11, .sl 12], iv c]) [(0, ⟨1, .arr (ints r.src.shape.fr)⟩), (1, ⟨1, .arr (ints r.src.shape.to)⟩), (2, ⟨1, .arr (ints r.src.shape.id)⟩), (3, ⟨1, .arr (intss r.src.shape.co)⟩), (4, ⟨1, .arr (ints r.src.sizes)⟩), (5, ⟨1, .arr (intss r.src.acts)⟩), (6, ⟨1, .arr (ints r.tgt.shape.fr)⟩), (7, ⟨1, .arr (ints r.tgt.shape.to)⟩), (8, ⟨1, .arr (ints r.tgt.shape.id)⟩), (9, ⟨1, .arr (intss r.tgt.shape.co)⟩), (10, ⟨1, .arr (ints r.tgt.sizes)⟩), (11, ⟨1, .arr (intss r.tgt.acts)⟩), (12, ⟨1, .arr (intss r.parts)⟩)] := by
  rcases mco_cases k m with ⟨c, h, h0⟩ | ⟨ik, jm, he⟩
  · exact ⟨nilSM, c, nilSM_b, adoptSM (sp_RightOfMap_bad hk hm h h0), adoptSM (sp_spec_RightOfMap_bad hk hm h h0)⟩
  · rcases ex_cases k m.src with ⟨y0, hb⟩ | hg
    · exact ⟨nilSM, 3, nilSM_b, adoptSM (sp_RightOfMap_far1 hk hm ik jm he.symm hb), adoptSM (sp_spec_RightOfMap_far1 hk hm ik jm he.symm hb)⟩
    · rcases ex_cases k m.tgt with ⟨y0, hb⟩ | hg2
      · exact ⟨nilSM, 3, nilSM_b, adoptSM (sp_RightOfMap_far2 hk hm ik jm he.symm hg hb), adoptSM (sp_spec_RightOfMap_far2 hk hm ik jm he.symm hg hb)⟩
      · refine ⟨⟨exF k m.src, exF k m.tgt, omP k m k.tgt.ob.toNat⟩, 0, ⟨exF_b ik hk hg, exF_b ik hk hg2, ?_, fun i hi => ?_⟩, sp_RightOfMap_yes hk hm ik jm he.symm hg hg2, sp_spec_RightOfMap_yes hk hm ik jm he.symm hg hg2⟩
        · show (omP k m k.tgt.ob.toNat).length ≤ _
          have := ik.tgt.ob8
          rw [omP_len]; omega
        · have hi' : i < k.tgt.ob.toNat := by have h : i < (omP k m k.tgt.ob.toNat).length := hi; rwa [omP_len] at h
          have := (hg i (by omega)).2
          show ((omP k m k.tgt.ob.toNat).getD i []).length ≤ _
          rw [omP_at hi', omR_len]; omega
theorem cal_FnExactRightOfMap : Callable Tryz.prog 4 := ⟨_, Tryz.func4, rfl, rfl⟩
theorem sp_FnExactRightOfMap {a0 : Fun} {a1 : SM} (t0 : FunT a0) (t1 : SMT a1) : Spec Tryz.prog 4 [funV a0, smV a1] [] (bv true) [] := by
  refine spec_of_V (E := TE) 0 Tryz.func4 rfl (by simp [Tryz.f4]) fun X hn hX => ?_
  have l0 := t0.l
  have l1 := t1.l
  by_cases hz : (funSz a0 : Int) ≤ 1048576
  · by_cases hz2 : (smSz a1 : Int) ≤ 1048576 - funSz a0
    · have hk := t0.b (by omega)
      have hm := t1.b (by omega)
      have k0 := hk.mkn
      have k1 := hm.mkn
      obtain ⟨r, c, hr, sp_RightOfMap_loc, sp_spec_RightOfMap_loc⟩ := ofMap_key hk hm
      have k2 := hr.mkn
      repeat' (first | (with_reducible first | refine V_seq ?_ | refine V_skip ?_ | refine V_ret ?_) | ((with_reducible refine V_cond ?_); simp only [go_sem, simprocAttr]) | ((first | refine V_region (by rw [hn]; rfl) ?_ | refine V_drawn hmix (by rw [hn]; rfl) ?_); intro K hK) | ((first | with_reducible refine evOps_n ?_ | ((with_reducible apply evOps_g); rfl) | with_reducible refine evOpsD_n ?_ | ((with_reducible apply evOpsD_g); rfl)); intro K hK; simp (contextual := true) only [go_sem, simprocAttr]) | with_reducible refine evOps_nil ?_ | ((with_reducible refine evOpsD_nil ?_ ?_); kernel_rfl) | ((with_reducible refine hK _ ?_); clear hK K) | (with_reducible first | refine And.intro ?_ ?_ | refine nxt_n ?_ | refine nxt_r ?_ | refine inR_mk ?_ ?_) | ((with_reducible refine evCall_at 6 ?_); refine EvCall.rd (by first | (simp only [go_sem, simprocAttr]; rfl) | rfl) (sp_szFunctor_yes (f:=a0) (by first | omega | assumption | rfl | exact (by assumption : SMB _).src | exact (by assumption : SMB _).tgt) (by first | omega | assumption | rfl | exact (by assumption : SMB _).src | exact (by assumption : SMB _).tgt)) cal_szFunctor (by simp [go_sem]) (by simp [go_sem]) ?_; all_goals try simp only [go_sem, simprocAttr]) | ((with_reducible refine evCall_at 19 ?_); refine EvCall.rd (by first | (simp only [go_sem, simprocAttr]; rfl) | rfl) (sp_szSetMap_yes (m:=a1) (by first | omega | assumption | rfl | exact (by assumption : SMB _).src | exact (by assumption : SMB _).tgt) (by first | omega | assumption | rfl | exact (by assumption : SMB _).src | exact (by assumption : SMB _).tgt)) cal_szSetMap (by simp [go_sem]) (by simp [go_sem]) ?_; all_goals try simp only [go_sem, simprocAttr]) | ((with_reducible refine evCall_at 9 ?_); refine EvCall.rd (by first | (simp only [go_sem, simprocAttr]; rfl) | rfl) (sp_toFunctor (f:=a0) ?_) cal_toFunctor (by simp [go_sem]) (by simp [go_sem]) ?_; all_goals try simp only [go_sem, simprocAttr]) | ((with_reducible refine evCall_at 21 ?_); refine EvCall.rd (by first | (simp only [go_sem, simprocAttr]; rfl) | rfl) (sp_toSetMap (m:=a1) ?_) cal_toSetMap (by simp [go_sem]) (by simp [go_sem]) ?_; all_goals try simp only [go_sem, simprocAttr]) | ((with_reducible refine evCall_at 20 ?_); refine EvCall.rd (by first | (simp only [go_sem, simprocAttr]; rfl) | rfl) (sp_spec_RightOfMap_loc) cal_spec_RightOfMap (by simp [go_sem]) (by simp [go_sem]) ?_; all_goals try simp only [go_sem, simprocAttr]) | ((with_reducible refine evCall_at 22 ?_); refine EvCall.rd (by first | (simp only [go_sem, simprocAttr]; rfl) | rfl) (sp_RightOfMap_loc) cal_RightOfMap (by simp [go_sem]) (by simp [go_sem]) ?_; all_goals try simp only [go_sem, simprocAttr]) | ((with_reducible refine evCall_at 13 ?_); refine EvCall.rd (by first | (simp only [go_sem, simprocAttr]; rfl) | rfl) (sp_eqFunctor (f:=a0) (g:=a0) ?_ ?_) cal_eqFunctor (by simp [go_sem]) (by simp [go_sem]) ?_; all_goals try simp only [go_sem, simprocAttr]) | ((with_reducible refine evCall_at 12 ?_); refine EvCall.rd (by first | (simp only [go_sem, simprocAttr]; rfl) | rfl) (sp_eqSetMap (f:=r) (g:=r) ?_ ?_) cal_eqSetMap (by simp [go_sem]) (by simp [go_sem]) ?_; all_goals try simp only [go_sem, simprocAttr]) | ((with_reducible refine evCall_at 12 ?_); refine EvCall.rd (by first | (simp only [go_sem, simprocAttr]; rfl) | rfl) (sp_eqSetMap (f:=a1) (g:=a1) ?_ ?_) cal_eqSetMap (by simp [go_sem]) (by simp [go_sem]) ?_; all_goals try simp only [go_sem, simprocAttr]) | ((with_reducible refine evCall_at 15 ?_); refine EvCall.mu (by first | (simp only [go_sem, simprocAttr]; rfl) | rfl) (by first | (simp only [go_sem, simprocAttr]; rfl) | rfl) (by first | (simp only [go_sem, simprocAttr]; rfl) | rfl) (sp_markFunctor (f:=a0) ?_ ?_ ?_) cal_markFunctor (by first | (simp only [go_sem, simprocAttr]; rfl) | rfl) (by first | (simp only [go_sem, simprocAttr]; rfl) | rfl) (by simp [go_sem]) (by simp [go_sem]) ?_; all_goals try simp only [go_sem, simprocAttr]) | ((with_reducible refine evCall_at 17 ?_); refine EvCall.mu (by first | (simp only [go_sem, simprocAttr]; rfl) | rfl) (by first | (simp only [go_sem, simprocAttr]; rfl) | rfl) (by first | (simp only [go_sem, simprocAttr]; rfl) | rfl) (sp_markSetMap (m:=a1) ?_ ?_ ?_) cal_markSetMap (by first | (simp only [go_sem, simprocAttr]; rfl) | rfl) (by first | (simp only [go_sem, simprocAttr]; rfl) | rfl) (by simp [go_sem]) (by simp [go_sem]) ?_; all_goals try simp only [go_sem, simprocAttr]) | ((with_reducible refine evCall_at 17 ?_); refine EvCall.mu (by first | (simp only [go_sem, simprocAttr]; rfl) | rfl) (by first | (simp only [go_sem, simprocAttr]; rfl) | rfl) (by first | (simp only [go_sem, simprocAttr]; rfl) | rfl) (sp_markSetMap (m:=r) ?_ ?_ ?_) cal_markSetMap (by first | (simp only [go_sem, simprocAttr]; rfl) | rfl) (by first | (simp only [go_sem, simprocAttr]; rfl) | rfl) (by simp [go_sem]) (by simp [go_sem]) ?_; all_goals try simp only [go_sem, simprocAttr]) | ((with_reducible refine evCall_at 18 ?_); refine EvCall.rd (by first | (simp only [go_sem, simprocAttr]; rfl) | rfl) (sp_heldSetMap_at (d:=r.mk_ 1) (m:=r) (k:=1) (by first | omega | assumption | rfl | exact (by assumption : SMB _).src | exact (by assumption : SMB _).tgt) (by first | omega | assumption | rfl | exact (by assumption : SMB _).src | exact (by assumption : SMB _).tgt) (by first | omega | assumption | rfl | exact (by assumption : SMB _).src | exact (by assumption : SMB _).tgt) (by first | omega | assumption | rfl | exact (by assumption : SMB _).src | exact (by assumption : SMB _).tgt)) cal_heldSetMap (by simp [go_sem]) (by simp [go_sem]) ?_; all_goals try simp only [go_sem, simprocAttr]) | (refine fun (hc : (_ : Bool) = _) => ?_; try simp only [hcS] at hc))
      all_goals try (first | (with_reducible assumption) | ((try simp only [Cat.F, Cat.T, Cat.I, Cat.C, Fun.O, Fun.A, Cat.Entry, Int.toNat_natCast] at *); omega))
      (first | refine ret_auto ?_ | refine ret_auto' ?_); simp only [go_sem, simprocAttr, Tryz.f4]
    · have hk := t0.b (by omega)
      repeat' (first | (with_reducible first | refine V_seq ?_ | refine V_skip ?_ | refine V_ret ?_) | ((with_reducible refine V_cond ?_); simp only [go_sem, simprocAttr]) | ((first | refine V_region (by rw [hn]; rfl) ?_ | refine V_drawn hmix (by rw [hn]; rfl) ?_); intro K hK) | ((first | with_reducible refine evOps_n ?_ | ((with_reducible apply evOps_g); rfl) | with_reducible refine evOpsD_n ?_ | ((with_reducible apply evOpsD_g); rfl)); intro K hK; simp (contextual := true) only [go_sem, simprocAttr]) | with_reducible refine evOps_nil ?_ | ((with_reducible refine evOpsD_nil ?_ ?_); kernel_rfl) | ((with_reducible refine hK _ ?_); clear hK K) | (with_reducible first | refine And.intro ?_ ?_ | refine nxt_n ?_ | refine nxt_r ?_ | refine inR_mk ?_ ?_) | ((with_reducible refine evCall_at 6 ?_); refine EvCall.rd (by first | (simp only [go_sem, simprocAttr]; rfl) | rfl) (sp_szFunctor_yes (f:=a0) (by first | omega | assumption | rfl | exact (by assumption : SMB _).src | exact (by assumption : SMB _).tgt) (by first | omega | assumption | rfl | exact (by assumption : SMB _).src | exact (by assumption : SMB _).tgt)) cal_szFunctor (by simp [go_sem]) (by simp [go_sem]) ?_; all_goals try simp only [go_sem, simprocAttr]) | ((with_reducible refine evCall_at 19 ?_); refine EvCall.rd (by first | (simp only [go_sem, simprocAttr]; rfl) | rfl) (sp_szSetMap_no (m:=a1) (by first | omega | assumption | rfl | exact (by assumption : SMB _).src | exact (by assumption : SMB _).tgt) (by first | omega | assumption | rfl | exact (by assumption : SMB _).src | exact (by assumption : SMB _).tgt) (by first | omega | assumption | rfl | exact (by assumption : SMB _).src | exact (by assumption : SMB _).tgt) (by first | omega | assumption | rfl | exact (by assumption : SMB _).src | exact (by assumption : SMB _).tgt)) cal_szSetMap (by simp [go_sem]) (by simp [go_sem]) ?_; all_goals try simp only [go_sem, simprocAttr]) | (refine fun (hc : (_ : Bool) = _) => ?_; try simp only [hcS] at hc))
      all_goals try (first | (with_reducible assumption) | ((try simp only [Cat.F, Cat.T, Cat.I, Cat.C, Fun.O, Fun.A, Cat.Entry, Int.toNat_natCast] at *); omega))
      (first | refine ret_auto ?_ | refine ret_auto' ?_); simp only [go_sem, simprocAttr, Tryz.f4]
  · repeat' (first | (with_reducible first | refine V_seq ?_ | refine V_skip ?_ | refine V_ret ?_) | ((with_reducible refine V_cond ?_); simp only [go_sem, simprocAttr]) | ((first | refine V_region (by rw [hn]; rfl) ?_ | refine V_drawn hmix (by rw [hn]; rfl) ?_); intro K hK) | ((first | with_reducible refine evOps_n ?_ | ((with_reducible apply evOps_g); rfl) | with_reducible refine evOpsD_n ?_ | ((with_reducible apply evOpsD_g); rfl)); intro K hK; simp (contextual := true) only [go_sem, simprocAttr]) | with_reducible refine evOps_nil ?_ | ((with_reducible refine evOpsD_nil ?_ ?_); kernel_rfl) | ((with_reducible refine hK _ ?_); clear hK K) | (with_reducible first | refine And.intro ?_ ?_ | refine nxt_n ?_ | refine nxt_r ?_ | refine inR_mk ?_ ?_) | ((with_reducible refine evCall_at 6 ?_); refine EvCall.rd (by first | (simp only [go_sem, simprocAttr]; rfl) | rfl) (sp_szFunctor_no (f:=a0) (by first | omega | assumption | rfl | exact (by assumption : SMB _).src | exact (by assumption : SMB _).tgt) (by first | omega | assumption | rfl | exact (by assumption : SMB _).src | exact (by assumption : SMB _).tgt) (by first | omega | assumption | rfl | exact (by assumption : SMB _).src | exact (by assumption : SMB _).tgt) (by first | omega | assumption | rfl | exact (by assumption : SMB _).src | exact (by assumption : SMB _).tgt)) cal_szFunctor (by simp [go_sem]) (by simp [go_sem]) ?_; all_goals try simp only [go_sem, simprocAttr]) | (refine fun (hc : (_ : Bool) = _) => ?_; try simp only [hcS] at hc))
    all_goals try (first | (with_reducible assumption) | ((try simp only [Cat.F, Cat.T, Cat.I, Cat.C, Fun.O, Fun.A, Cat.Entry, Int.toNat_natCast] at *); omega))
    (first | refine ret_auto ?_ | refine ret_auto' ?_); simp only [go_sem, simprocAttr, Tryz.f4]
end Go.Eng
namespace Go.Proofs.YtjdjkmgjgghodaaGreat
open Go Go.Eng Go.Cats Go.ChangeShapes Go.WideShapes Go.RowKit
theorem Tryz.own16_ : ownKnob Tryz.checked.prog.godebug = none := by kernel_rfl
theorem Tryz.laidOut16_ : laidOutB Tryz.prog = true := by kernel_rfl
theorem rightOfMap_lifted (os : Os) (started : os.Started) (H : Type) (enc : TypeId × Value → H) :
    ReturnsInHanded {} Tryz.checked os 4 .any (Rows.fnExactRightOfMapSpec.pre6 enc Tryz.prog Tryz.f4 Rows.fnExactRightOfMapRow.domain Rows.fnExactRightOfMapRow.apart) (Rows.fnExactRightOfMapSpec.post enc Tryz.prog Tryz.f4 Rows.fnExactRightOfMapRow.apart Rows.fnExactRightOfMapRow.fresh Rows.fnExactRightOfMapRow.handsOn Rows.fnExactRightOfMapRow.again) := by
  refine returnsInHanded_of_change (C := Tryz.checked) Tryz.own16_ started (by kernel_rfl) Tryz.func4
    (ChangeSpec.witness6 (enc := enc) (C := Tryz.checked) false ⟨#[], #[.agg #[.int .i64 0, .slice none 0 0, .slice none 0 0, .slice none 0 0, .slice none 0 0, .int .i64 0, .slice none 0 0, .slice none 0 0, .slice none 0 0, .slice none 0 0, .slice none 0 0, .slice none 0 0], .agg #[.int .i64 0, .slice none 0 0, .slice none 0 0, .slice none 0 0, .slice none 0 0, .slice none 0 0, .slice none 0 0, .int .i64 0, .slice none 0 0, .slice none 0 0, .slice none 0 0, .slice none 0 0, .slice none 0 0, .slice none 0 0, .slice none 0 0]], []⟩ 8 (by kernel_rfl) (by kernel_rfl) (by kernel_rfl) (by kernel_rfl)) ?_
  intro W base args ds gs before hval0 hW hcnd _
  have hval : ∀ (j : Nat) t v, Tryz.f4.params[j]? = some t → args[j]? = some v → Value.okWide Tryz.prog W .any base t v := hval0
  have hW' := hW
  obtain ⟨p, q, hA0, hV, rfl, hfz, hnd⟩ := hW
  obtain ⟨rfl, rfl⟩ := trodVars_none hV
  have hA : DataW.TrodAll enc Tryz.prog W 0 (fun _ => true) true [27, 51] args.toList ds p := hA0
  obtain ⟨v0, v1, d0, d1, p0, p1, rfl, rfl, rfl, h0, h1⟩ := trodAll_two hA
  obtain ⟨cs0, rfl, _⟩ := okWide_struct Tryz.underlying27 (hval 0 27 v0 rfl rfl)
  obtain ⟨fuel0, hf0⟩ := h0
  have hg0 := hf0
  rw [show (Value.agg cs0).cells.toList = cs0.toList from rfl] at hf0
  obtain ⟨a0, hm0, hok0⟩ := rd_fun hf0
  obtain ⟨cs1, rfl, _⟩ := okWide_struct Tryz.underlying51 (hval 1 51 v1 rfl rfl)
  obtain ⟨fuel1, hf1⟩ := h1
  have hg1 := hf1
  rw [show (Value.agg cs1).cells.toList = cs1.toList from rfl] at hf1
  obtain ⟨a1, hm1, hok1⟩ := rd_sm hf1
  have hlt : ∀ y ∈ p0 ++ p1, y.block < W.heap.size := fun y hy => hW'.lt y (by simpa using hy)
  refine (sp_FnExactRightOfMap (a0 := a0) (a1 := a1) hm0 hm1 W (Old W) (Old W) _ [.agg cs0, .agg cs1] (hp_start W) ?_).mono fun ed W' ⟨v, c1, he, hp, hv, _⟩ => ?_
  · simp only [Sv.okL, Sv.ok]
    exact ⟨_, _, rfl, ⟨cs0.toList, by simp, hok0 _ _⟩, _, _, rfl, ⟨cs1.toList, by simp, hok1 _ _⟩, rfl⟩
  · simp only [Sv.ok] at hv
    subst hv
    subst he
    have hb := below_of_hp hp
    refine ⟨_, rfl, post_law hW' rfl rfl Tryz.underlying4 rfl hb ?_⟩
    rw [List.append_nil]
    exact trodAll_mk2 (Below.trod Tryz.laidOut16_ (by kernel_rfl) (of_decide_eq_true (by kernel_rfl)) ⟨fuel0, hg0⟩ hb (fun y hy => hlt y (by simp [hy]))) (Below.trod Tryz.laidOut16_ (by kernel_rfl) (of_decide_eq_true (by kernel_rfl)) ⟨fuel1, hg1⟩ hb (fun y hy => hlt y (by simp [hy])))
theorem rightOfMap_holds : Rows.FnExactRightOfMapSaid :=
  OpenClaim.holds_of_wide 4 Tryz.f4 rfl rfl rfl rfl rfl rfl rfl ⟨rfl, rfl, rfl, rfl, rfl⟩ rfl rfl rfl rfl rfl (by kernel_rfl) Tryz.func4 (by kernel_rfl)
    (of_decide_eq_true (by kernel_rfl)) (by unfold Func.isWrapper; first | (rw [if_pos (by decide +kernel)]; kernel_rfl) | (rw [if_neg (by decide +kernel)]; exact ⟨rfl, rfl⟩))
    (fun os started H enc _ => rightOfMap_lifted os started H enc)
#print axioms rightOfMap_holds
end Go.Proofs.YtjdjkmgjgghodaaGreat
