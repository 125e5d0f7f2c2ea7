/- The law FnExactRightExtended is true of the given program: for every functor, set functor and natural map the call returns true, and all read behind it as they did. No condition. -/
import Derived.Test.YtjdjkmgjgghodaaGreatKdx
import Derived.Test.YtjdjkmgjgghodaaGreatB24q
import Derived.Test.YtjdjkmgjgghodaaGreatH05q
import Derived.Test.YtjdjkmgjgghodaaGreatRows
import Derived.JoinedOf
import Derived.ProofKit
set_option linter.unusedSimpArgs false
set_option linter.unusedVariables false
set_option maxRecDepth 100000
set_option maxHeartbeats 16000000
namespace Go.Eng
open Go Go.Proofs Go.Cats
theorem extended_key {k : Fun} {g : SF} {m : SM} (hk : FunB k) (hg : SFB g) (hm : SMB m) : ∃ (r : SM) (c : Int),SMB r ∧
    Spec Tryz.prog 24 [funV k,sfV g,smV m] [] (.tup [.agg [iv r.src.shape.ob,.sl 0,.sl 1,.sl 2,.sl 3,.sl 4,.sl 5,iv r.tgt.shape.ob,.sl 6,.sl 7,.sl 8,.sl 9,.sl 10,.sl 11,.sl 12],iv c]) [(0,⟨1,.arr (ints r.src.shape.fr)⟩),(1,⟨1,.arr (ints r.src.shape.to)⟩),(2,⟨1,.arr (ints r.src.shape.id)⟩),(3,⟨1,.arr (intss r.src.shape.co)⟩),(4,⟨1,.arr (ints r.src.sizes)⟩),(5,⟨1,.arr (intss r.src.acts)⟩),(6,⟨1,.arr (ints r.tgt.shape.fr)⟩),(7,⟨1,.arr (ints r.tgt.shape.to)⟩),(8,⟨1,.arr (ints r.tgt.shape.id)⟩),(9,⟨1,.arr (intss r.tgt.shape.co)⟩),(10,⟨1,.arr (ints r.tgt.sizes)⟩),(11,⟨1,.arr (intss r.tgt.acts)⟩),(12,⟨1,.arr (intss r.parts)⟩)] ∧
    Spec Tryz.prog 23 [funV k,sfV g,smV m] [] (.tup [.agg [iv r.src.shape.ob,.sl 0,.sl 1,.sl 2,.sl 3,.sl 4,.sl 5,iv r.tgt.shape.ob,.sl 6,.sl 7,.sl 8,.sl 9,.sl 10,.sl 11,.sl 12],iv c]) [(0,⟨1,.arr (ints r.src.shape.fr)⟩),(1,⟨1,.arr (ints r.src.shape.to)⟩),(2,⟨1,.arr (ints r.src.shape.id)⟩),(3,⟨1,.arr (intss r.src.shape.co)⟩),(4,⟨1,.arr (ints r.src.sizes)⟩),(5,⟨1,.arr (intss r.src.acts)⟩),(6,⟨1,.arr (ints r.tgt.shape.fr)⟩),(7,⟨1,.arr (ints r.tgt.shape.to)⟩),(8,⟨1,.arr (ints r.tgt.shape.id)⟩),(9,⟨1,.arr (intss r.tgt.shape.co)⟩),(10,⟨1,.arr (ints r.tgt.sizes)⟩),(11,⟨1,.arr (intss r.tgt.acts)⟩),(12,⟨1,.arr (intss r.parts)⟩)]:=by
  rcases xco_cases k g m with ⟨c,h,h0⟩ | ⟨ik,ig,jm,hs,he⟩
  · exact ⟨nilSM,c,nilSM_b,adoptSM (sp_RightExtended_bad hk hg hm h h0),adoptSM (sp_spec_RightExtended_bad hk hg hm h h0)⟩
  · rcases ex_cases k m.tgt with ⟨y0,hb⟩ | hg2
    · exact ⟨nilSM,3,nilSM_b,adoptSM (sp_RightExtended_far hk hg hm ik ig jm hs he hb),adoptSM (sp_spec_RightExtended_far hk hg hm ik ig jm hs he hb)⟩
    · refine ⟨⟨g,exF k m.tgt,xeP k g m k.tgt.ob.toNat⟩,0,⟨hg,exF_b ik hk hg2,?_,fun i hi=>?_⟩,sp_RightExtended_yes hk hg hm ik ig jm hs he hg2,sp_spec_RightExtended_yes hk hg hm ik ig jm hs he hg2⟩
      · show (xeP k g m k.tgt.ob.toNat).length ≤ _
        have:=ik.tgt.ob8
        rw [xeP_len]; omega
      · have hi' : i < k.tgt.ob.toNat:=by have h : i < (xeP k g m k.tgt.ob.toNat).length:=hi; rwa [xeP_len] at h
        have zl:=ig.szl
        rw [← hs] at zl
        have:=(ig.szw i (by omega)).2
        show ((xeP k g m k.tgt.ob.toNat).getD i []).length ≤ _
        rw [xeP_at hi',xeR_len]; omega
theorem cal_FnExactRightExtended : Callable Tryz.prog 5:=⟨_,Tryz.func5,rfl,rfl⟩
theorem sp_FnExactRightExtended {a0 : Fun} {a1 : SF} {a2 : SM} (t0 : FunT a0) (t1 : SFT a1) (t2 : SMT a2) : Spec Tryz.prog 5 [funV a0,sfV a1,smV a2] [] (bv true) []:=by
  refine spec_of_V (E:=TE) 0 Tryz.func5 rfl (by simp [Tryz.f5]) fun X hn hX=>?_
  have l0:=t0.l
  have l1:=t1.l
  have l2:=t2.l
  by_cases hz : (funSz a0 : Int) ≤ 1048576
  · by_cases hz2 : (sfSz a1 : Int) ≤ 1048576 - funSz a0
    · by_cases hz3 : (smSz a2 : Int) ≤ 1048576 - funSz a0 - sfSz a1
      · have hk:=t0.b (by omega)
        have hg:=t1.b (by omega)
        have hm:=t2.b (by omega)
        have k0:=hk.mkn
        have k1:=hg.mkn
        have k2:=hm.mkn
        obtain ⟨r,c,hr,sp_RightExtended_loc,sp_spec_RightExtended_loc⟩:=extended_key hk hg hm
        have k3:=hr.mkn
        repeat' (first | (with_reducible first | refine V_seq ?_ | refine V_skip ?_ | refine V_ret ?_) | ((with_reducible refine V_cond ?_); simp only [go_sem,simprocAttr]) | ((first | refine V_region (by rw [hn]; rfl) ?_ | refine V_drawn hmix (by rw [hn]; rfl) ?_); intro K hK) | ((first | with_reducible refine evOps_n ?_ | ((with_reducible apply evOps_g); rfl) | with_reducible refine evOpsD_n ?_ | ((with_reducible apply evOpsD_g); rfl)); intro K hK; simp (contextual:=true) only [go_sem,simprocAttr]) | with_reducible refine evOps_nil ?_ | ((with_reducible refine evOpsD_nil ?_ ?_); kernel_rfl) | ((with_reducible refine hK _ ?_); clear hK K) | (with_reducible first | refine And.intro ?_ ?_ | refine nxt_n ?_ | refine nxt_r ?_ | refine inR_mk ?_ ?_) | ((with_reducible refine evCall_at 6 ?_); refine EvCall.rq (a:=(sp_szFunctor_yes (f:=a0) (by first | omega | assumption | rfl | exact (by assumption : SMB _).src | exact (by assumption : SMB _).tgt) (by first | omega | assumption | rfl | exact (by assumption : SMB _).src | exact (by assumption : SMB _).tgt))) (b:=cal_szFunctor) (c:=?_); all_goals try simp only [go_sem,simprocAttr]) | ((with_reducible refine evCall_at 7 ?_); refine EvCall.rq (a:=(sp_szSetFunctor_yes (f:=a1) (by first | omega | assumption | rfl | exact (by assumption : SMB _).src | exact (by assumption : SMB _).tgt) (by first | omega | assumption | rfl | exact (by assumption : SMB _).src | exact (by assumption : SMB _).tgt))) (b:=cal_szSetFunctor) (c:=?_); all_goals try simp only [go_sem,simprocAttr]) | ((with_reducible refine evCall_at 19 ?_); refine EvCall.rq (a:=(sp_szSetMap_yes (m:=a2) (by first | omega | assumption | rfl | exact (by assumption : SMB _).src | exact (by assumption : SMB _).tgt) (by first | omega | assumption | rfl | exact (by assumption : SMB _).src | exact (by assumption : SMB _).tgt))) (b:=cal_szSetMap) (c:=?_); all_goals try simp only [go_sem,simprocAttr]) | ((with_reducible refine evCall_at 9 ?_); refine EvCall.rq (a:=(sp_toFunctor (f:=a0) ?_)) (b:=cal_toFunctor) (c:=?_); all_goals try simp only [go_sem,simprocAttr]) | ((with_reducible refine evCall_at 10 ?_); refine EvCall.rq (a:=(sp_toSetFunctor (f:=a1) ?_)) (b:=cal_toSetFunctor) (c:=?_); all_goals try simp only [go_sem,simprocAttr]) | ((with_reducible refine evCall_at 21 ?_); refine EvCall.rq (a:=(sp_toSetMap (m:=a2) ?_)) (b:=cal_toSetMap) (c:=?_); all_goals try simp only [go_sem,simprocAttr]) | ((with_reducible refine evCall_at 23 ?_); refine EvCall.rq (a:=(sp_spec_RightExtended_loc)) (b:=cal_spec_RightExtended) (c:=?_); all_goals try simp only [go_sem,simprocAttr]) | ((with_reducible refine evCall_at 24 ?_); refine EvCall.rq (a:=(sp_RightExtended_loc)) (b:=cal_RightExtended) (c:=?_); all_goals try simp only [go_sem,simprocAttr]) | ((with_reducible refine evCall_at 13 ?_); refine EvCall.rq (a:=(sp_eqFunctor (f:=a0) (g:=a0) ?_ ?_)) (b:=cal_eqFunctor) (c:=?_); all_goals try simp only [go_sem,simprocAttr]) | ((with_reducible refine evCall_at 14 ?_); refine EvCall.rq (a:=(sp_eqSetFunctor (f:=a1) (g:=a1) ?_ ?_)) (b:=cal_eqSetFunctor) (c:=?_); all_goals try simp only [go_sem,simprocAttr]) | ((with_reducible refine evCall_at 12 ?_); refine EvCall.rq (a:=(sp_eqSetMap (f:=r) (g:=r) ?_ ?_)) (b:=cal_eqSetMap) (c:=?_); all_goals try simp only [go_sem,simprocAttr]) | ((with_reducible refine evCall_at 12 ?_); refine EvCall.rq (a:=(sp_eqSetMap (f:=a2) (g:=a2) ?_ ?_)) (b:=cal_eqSetMap) (c:=?_); all_goals try simp only [go_sem,simprocAttr]) | ((with_reducible refine evCall_at 15 ?_); refine EvCall.mu (by first | (simp only [go_sem,simprocAttr]; rfl) | rfl) (by first | (simp only [go_sem,simprocAttr]; rfl) | rfl) (by first | (simp only [go_sem,simprocAttr]; rfl) | rfl) (sp_markFunctor (f:=a0) ?_ ?_ ?_) cal_markFunctor (by first | (simp only [go_sem,simprocAttr]; rfl) | rfl) (by first | (simp only [go_sem,simprocAttr]; rfl) | rfl) (by simp [go_sem]) (by simp [go_sem]) ?_; all_goals try simp only [go_sem,simprocAttr]) | ((with_reducible refine evCall_at 16 ?_); refine EvCall.mu (by first | (simp only [go_sem,simprocAttr]; rfl) | rfl) (by first | (simp only [go_sem,simprocAttr]; rfl) | rfl) (by first | (simp only [go_sem,simprocAttr]; rfl) | rfl) (sp_markSetFunctor (f:=a1) ?_ ?_ ?_) cal_markSetFunctor (by first | (simp only [go_sem,simprocAttr]; rfl) | rfl) (by first | (simp only [go_sem,simprocAttr]; rfl) | rfl) (by simp [go_sem]) (by simp [go_sem]) ?_; all_goals try simp only [go_sem,simprocAttr]) | ((with_reducible refine evCall_at 17 ?_); refine EvCall.mu (by first | (simp only [go_sem,simprocAttr]; rfl) | rfl) (by first | (simp only [go_sem,simprocAttr]; rfl) | rfl) (by first | (simp only [go_sem,simprocAttr]; rfl) | rfl) (sp_markSetMap (m:=a2) ?_ ?_ ?_) cal_markSetMap (by first | (simp only [go_sem,simprocAttr]; rfl) | rfl) (by first | (simp only [go_sem,simprocAttr]; rfl) | rfl) (by simp [go_sem]) (by simp [go_sem]) ?_; all_goals try simp only [go_sem,simprocAttr]) | ((with_reducible refine evCall_at 17 ?_); refine EvCall.mu (by first | (simp only [go_sem,simprocAttr]; rfl) | rfl) (by first | (simp only [go_sem,simprocAttr]; rfl) | rfl) (by first | (simp only [go_sem,simprocAttr]; rfl) | rfl) (sp_markSetMap (m:=r) ?_ ?_ ?_) cal_markSetMap (by first | (simp only [go_sem,simprocAttr]; rfl) | rfl) (by first | (simp only [go_sem,simprocAttr]; rfl) | rfl) (by simp [go_sem]) (by simp [go_sem]) ?_; all_goals try simp only [go_sem,simprocAttr]) | ((with_reducible refine evCall_at 18 ?_); refine EvCall.rq (a:=(sp_heldSetMap_at (d:=r.mk_ 1) (m:=r) (k:=1) (by first | omega | assumption | rfl | exact (by assumption : SMB _).src | exact (by assumption : SMB _).tgt) (by first | omega | assumption | rfl | exact (by assumption : SMB _).src | exact (by assumption : SMB _).tgt) (by first | omega | assumption | rfl | exact (by assumption : SMB _).src | exact (by assumption : SMB _).tgt) (by first | omega | assumption | rfl | exact (by assumption : SMB _).src | exact (by assumption : SMB _).tgt))) (b:=cal_heldSetMap) (c:=?_); all_goals try simp only [go_sem,simprocAttr]) | (refine fun (hc : (_ : Bool) = _)=>?_; try simp only [hcS] at hc))
        all_goals try (first | (with_reducible assumption) | ((try simp only [Cat.F,Cat.T,Cat.I,Cat.C,Fun.O,Fun.A,Cat.Entry,Int.toNat_natCast] at *); omega))
        (first | refine ret_auto ?_ | refine ret_auto' ?_); simp only [go_sem,simprocAttr,Tryz.f5]
      · have hk:=t0.b (by omega)
        have hg:=t1.b (by omega)
        repeat' (first | (with_reducible first | refine V_seq ?_ | refine V_skip ?_ | refine V_ret ?_) | ((with_reducible refine V_cond ?_); simp only [go_sem,simprocAttr]) | ((first | refine V_region (by rw [hn]; rfl) ?_ | refine V_drawn hmix (by rw [hn]; rfl) ?_); intro K hK) | ((first | with_reducible refine evOps_n ?_ | ((with_reducible apply evOps_g); rfl) | with_reducible refine evOpsD_n ?_ | ((with_reducible apply evOpsD_g); rfl)); intro K hK; simp (contextual:=true) only [go_sem,simprocAttr]) | with_reducible refine evOps_nil ?_ | ((with_reducible refine evOpsD_nil ?_ ?_); kernel_rfl) | ((with_reducible refine hK _ ?_); clear hK K) | (with_reducible first | refine And.intro ?_ ?_ | refine nxt_n ?_ | refine nxt_r ?_ | refine inR_mk ?_ ?_) | ((with_reducible refine evCall_at 6 ?_); refine EvCall.rq (a:=(sp_szFunctor_yes (f:=a0) (by first | omega | assumption | rfl | exact (by assumption : SMB _).src | exact (by assumption : SMB _).tgt) (by first | omega | assumption | rfl | exact (by assumption : SMB _).src | exact (by assumption : SMB _).tgt))) (b:=cal_szFunctor) (c:=?_); all_goals try simp only [go_sem,simprocAttr]) | ((with_reducible refine evCall_at 7 ?_); refine EvCall.rq (a:=(sp_szSetFunctor_yes (f:=a1) (by first | omega | assumption | rfl | exact (by assumption : SMB _).src | exact (by assumption : SMB _).tgt) (by first | omega | assumption | rfl | exact (by assumption : SMB _).src | exact (by assumption : SMB _).tgt))) (b:=cal_szSetFunctor) (c:=?_); all_goals try simp only [go_sem,simprocAttr]) | ((with_reducible refine evCall_at 19 ?_); refine EvCall.rq (a:=(sp_szSetMap_no (m:=a2) (by first | omega | assumption | rfl | exact (by assumption : SMB _).src | exact (by assumption : SMB _).tgt) (by first | omega | assumption | rfl | exact (by assumption : SMB _).src | exact (by assumption : SMB _).tgt) (by first | omega | assumption | rfl | exact (by assumption : SMB _).src | exact (by assumption : SMB _).tgt) (by first | omega | assumption | rfl | exact (by assumption : SMB _).src | exact (by assumption : SMB _).tgt))) (b:=cal_szSetMap) (c:=?_); all_goals try simp only [go_sem,simprocAttr]) | (refine fun (hc : (_ : Bool) = _)=>?_; try simp only [hcS] at hc))
        all_goals try (first | (with_reducible assumption) | ((try simp only [Cat.F,Cat.T,Cat.I,Cat.C,Fun.O,Fun.A,Cat.Entry,Int.toNat_natCast] at *); omega))
        (first | refine ret_auto ?_ | refine ret_auto' ?_); simp only [go_sem,simprocAttr,Tryz.f5]
    · have hk:=t0.b (by omega)
      repeat' (first | (with_reducible first | refine V_seq ?_ | refine V_skip ?_ | refine V_ret ?_) | ((with_reducible refine V_cond ?_); simp only [go_sem,simprocAttr]) | ((first | refine V_region (by rw [hn]; rfl) ?_ | refine V_drawn hmix (by rw [hn]; rfl) ?_); intro K hK) | ((first | with_reducible refine evOps_n ?_ | ((with_reducible apply evOps_g); rfl) | with_reducible refine evOpsD_n ?_ | ((with_reducible apply evOpsD_g); rfl)); intro K hK; simp (contextual:=true) only [go_sem,simprocAttr]) | with_reducible refine evOps_nil ?_ | ((with_reducible refine evOpsD_nil ?_ ?_); kernel_rfl) | ((with_reducible refine hK _ ?_); clear hK K) | (with_reducible first | refine And.intro ?_ ?_ | refine nxt_n ?_ | refine nxt_r ?_ | refine inR_mk ?_ ?_) | ((with_reducible refine evCall_at 6 ?_); refine EvCall.rq (a:=(sp_szFunctor_yes (f:=a0) (by first | omega | assumption | rfl | exact (by assumption : SMB _).src | exact (by assumption : SMB _).tgt) (by first | omega | assumption | rfl | exact (by assumption : SMB _).src | exact (by assumption : SMB _).tgt))) (b:=cal_szFunctor) (c:=?_); all_goals try simp only [go_sem,simprocAttr]) | ((with_reducible refine evCall_at 7 ?_); refine EvCall.rq (a:=(sp_szSetFunctor_no (f:=a1) (by first | omega | assumption | rfl | exact (by assumption : SMB _).src | exact (by assumption : SMB _).tgt) (by first | omega | assumption | rfl | exact (by assumption : SMB _).src | exact (by assumption : SMB _).tgt) (by first | omega | assumption | rfl | exact (by assumption : SMB _).src | exact (by assumption : SMB _).tgt) (by first | omega | assumption | rfl | exact (by assumption : SMB _).src | exact (by assumption : SMB _).tgt))) (b:=cal_szSetFunctor) (c:=?_); all_goals try simp only [go_sem,simprocAttr]) | (refine fun (hc : (_ : Bool) = _)=>?_; try simp only [hcS] at hc))
      all_goals try (first | (with_reducible assumption) | ((try simp only [Cat.F,Cat.T,Cat.I,Cat.C,Fun.O,Fun.A,Cat.Entry,Int.toNat_natCast] at *); omega))
      (first | refine ret_auto ?_ | refine ret_auto' ?_); simp only [go_sem,simprocAttr,Tryz.f5]
  · repeat' (first | (with_reducible first | refine V_seq ?_ | refine V_skip ?_ | refine V_ret ?_) | ((with_reducible refine V_cond ?_); simp only [go_sem,simprocAttr]) | ((first | refine V_region (by rw [hn]; rfl) ?_ | refine V_drawn hmix (by rw [hn]; rfl) ?_); intro K hK) | ((first | with_reducible refine evOps_n ?_ | ((with_reducible apply evOps_g); rfl) | with_reducible refine evOpsD_n ?_ | ((with_reducible apply evOpsD_g); rfl)); intro K hK; simp (contextual:=true) only [go_sem,simprocAttr]) | with_reducible refine evOps_nil ?_ | ((with_reducible refine evOpsD_nil ?_ ?_); kernel_rfl) | ((with_reducible refine hK _ ?_); clear hK K) | (with_reducible first | refine And.intro ?_ ?_ | refine nxt_n ?_ | refine nxt_r ?_ | refine inR_mk ?_ ?_) | ((with_reducible refine evCall_at 6 ?_); refine EvCall.rq (a:=(sp_szFunctor_no (f:=a0) (by first | omega | assumption | rfl | exact (by assumption : SMB _).src | exact (by assumption : SMB _).tgt) (by first | omega | assumption | rfl | exact (by assumption : SMB _).src | exact (by assumption : SMB _).tgt) (by first | omega | assumption | rfl | exact (by assumption : SMB _).src | exact (by assumption : SMB _).tgt) (by first | omega | assumption | rfl | exact (by assumption : SMB _).src | exact (by assumption : SMB _).tgt))) (b:=cal_szFunctor) (c:=?_); all_goals try simp only [go_sem,simprocAttr]) | (refine fun (hc : (_ : Bool) = _)=>?_; try simp only [hcS] at hc))
    all_goals try (first | (with_reducible assumption) | ((try simp only [Cat.F,Cat.T,Cat.I,Cat.C,Fun.O,Fun.A,Cat.Entry,Int.toNat_natCast] at *); omega))
    (first | refine ret_auto ?_ | refine ret_auto' ?_); simp only [go_sem,simprocAttr,Tryz.f5]
end Go.Eng
namespace Go.Proofs.YtjdjkmgjgghodaaGreat
open Go Go.Eng Go.Cats Go.ChangeShapes Go.WideShapes Go.RowKit
theorem Tryz.own17_ : ownKnob Tryz.checked.prog.godebug = none:=by kernel_rfl
theorem Tryz.laidOut17_ : laidOutB Tryz.prog = true:=by kernel_rfl
theorem rightExtended_lifted (os : Os) (started : os.Started) (H : Type) (enc : TypeId × Value → H) :
    ReturnsInHanded {} Tryz.checked os 5 .any (Rows.fnExactRightExtendedSpec.pre6 enc Tryz.prog Tryz.f5 Rows.fnExactRightExtendedRow.domain Rows.fnExactRightExtendedRow.apart) (Rows.fnExactRightExtendedSpec.post enc Tryz.prog Tryz.f5 Rows.fnExactRightExtendedRow.apart Rows.fnExactRightExtendedRow.fresh Rows.fnExactRightExtendedRow.handsOn Rows.fnExactRightExtendedRow.again):=by
  refine returnsInHanded_of_change (C:=Tryz.checked) Tryz.own17_ started (by kernel_rfl) Tryz.func5
    (ChangeSpec.witness6 (enc:=enc) (C:=Tryz.checked) false ⟨#[],#[.agg #[.int .i64 0,.slice none 0 0,.slice none 0 0,.slice none 0 0,.slice none 0 0,.int .i64 0,.slice none 0 0,.slice none 0 0,.slice none 0 0,.slice none 0 0,.slice none 0 0,.slice none 0 0],.agg #[.int .i64 0,.slice none 0 0,.slice none 0 0,.slice none 0 0,.slice none 0 0,.slice none 0 0,.slice none 0 0],.agg #[.int .i64 0,.slice none 0 0,.slice none 0 0,.slice none 0 0,.slice none 0 0,.slice none 0 0,.slice none 0 0,.int .i64 0,.slice none 0 0,.slice none 0 0,.slice none 0 0,.slice none 0 0,.slice none 0 0,.slice none 0 0,.slice none 0 0]],[]⟩ 8 (by kernel_rfl) (by kernel_rfl) (by kernel_rfl) (by kernel_rfl)) ?_
  intro W base args ds gs before hval0 hW hcnd _
  have hval : ∀ (j : Nat) t v,Tryz.f5.params[j]? = some t → args[j]? = some v → Value.okWide Tryz.prog W .any base t v:=hval0
  have hW':=hW
  obtain ⟨p,q,hA0,hV,rfl,hfz,hnd⟩:=hW
  obtain ⟨rfl,rfl⟩:=trodVars_none hV
  have hA : DataW.TrodAll enc Tryz.prog W 0 (fun _=>true) true [27,29,51] args.toList ds p:=hA0
  obtain ⟨v0,v1,v2,d0,d1,d2,p0,p1,p2,rfl,rfl,rfl,h0,h1,h2⟩:=trodAll_three hA
  obtain ⟨cs0,rfl,_⟩:=okWide_struct Tryz.underlying27 (hval 0 27 v0 rfl rfl)
  obtain ⟨fuel0,hf0⟩:=h0
  have hg0:=hf0
  rw [show (Value.agg cs0).cells.toList = cs0.toList from rfl] at hf0
  obtain ⟨a0,hm0,hok0⟩:=rd_fun hf0
  obtain ⟨cs1,rfl,_⟩:=okWide_struct Tryz.underlying29 (hval 1 29 v1 rfl rfl)
  obtain ⟨fuel1,hf1⟩:=h1
  have hg1:=hf1
  rw [show (Value.agg cs1).cells.toList = cs1.toList from rfl] at hf1
  obtain ⟨a1,hm1,hok1⟩:=rd_sf hf1
  obtain ⟨cs2,rfl,_⟩:=okWide_struct Tryz.underlying51 (hval 2 51 v2 rfl rfl)
  obtain ⟨fuel2,hf2⟩:=h2
  have hg2:=hf2
  rw [show (Value.agg cs2).cells.toList = cs2.toList from rfl] at hf2
  obtain ⟨a2,hm2,hok2⟩:=rd_sm hf2
  have hlt : ∀ y ∈ p0 ++ p1 ++ p2,y.block < W.heap.size:=fun y hy=>hW'.lt y (by simpa using hy)
  refine (sp_FnExactRightExtended (a0:=a0) (a1:=a1) (a2:=a2) hm0 hm1 hm2 W (Old W) (Old W) _ [.agg cs0,.agg cs1,.agg cs2] (hp_start W) ?_).mono fun ed W' ⟨v,c1,he,hp,hv,_⟩=>?_
  · simp only [Sv.okL,Sv.ok]
    exact ⟨_,_,rfl,⟨cs0.toList,by simp,hok0 _ _⟩,_,_,rfl,⟨cs1.toList,by simp,hok1 _ _⟩,_,_,rfl,⟨cs2.toList,by simp,hok2 _ _⟩,rfl⟩
  · simp only [Sv.ok] at hv
    subst hv
    subst he
    have hb:=below_of_hp hp
    refine ⟨_,rfl,post_law hW' rfl rfl Tryz.underlying4 rfl hb ?_⟩
    rw [List.append_nil,List.append_assoc]
    exact trodAll_mk3 (Below.trod Tryz.laidOut17_ (by kernel_rfl) (of_decide_eq_true (by kernel_rfl)) ⟨fuel0,hg0⟩ hb (fun y hy=>hlt y (by simp [hy]))) (Below.trod Tryz.laidOut17_ (by kernel_rfl) (of_decide_eq_true (by kernel_rfl)) ⟨fuel1,hg1⟩ hb (fun y hy=>hlt y (by simp [hy]))) (Below.trod Tryz.laidOut17_ (by kernel_rfl) (of_decide_eq_true (by kernel_rfl)) ⟨fuel2,hg2⟩ hb (fun y hy=>hlt y (by simp [hy])))
theorem rightExtended_holds : Rows.FnExactRightExtendedSaid :=
  OpenClaim.holds_of_wide 5 Tryz.f5 rfl rfl rfl rfl rfl rfl rfl ⟨rfl,rfl,rfl,rfl,rfl⟩ rfl rfl rfl rfl rfl (by kernel_rfl) Tryz.func5 (by kernel_rfl)
    (of_decide_eq_true (by kernel_rfl)) (by unfold Func.isWrapper; first | (rw [if_pos (by decide +kernel)]; kernel_rfl) | (rw [if_neg (by decide +kernel)]; exact ⟨rfl,rfl⟩))
    (fun os started H enc _=>rightExtended_lifted os started H enc)
#print axioms rightExtended_holds
end Go.Proofs.YtjdjkmgjgghodaaGreat
