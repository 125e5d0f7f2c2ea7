/- The natural map to a right extension, by the program. -/
import Derived.Test.YtjdjkmgjgghodaaGreatKdx
import Derived.Test.YtjdjkmgjgghodaaGreatB21q
set_option linter.unusedSimpArgs false
set_option linter.unusedVariables false
set_option maxRecDepth 100000
set_option maxHeartbeats 16000000
namespace Go.Eng
open Go Go.Proofs Go.Cats
attribute [local go_sem] exF_shape alF_shape xeN_zero xeR_zero xeP_zero one_nilSl5 List.getD_cons_zero List.getD_cons_succ List.set_cons_zero List.set_cons_succ goneL
def _root_.Go.Cats.XCo (k : Fun) (g : SF) (m : SM) (c : Int) : Prop:=(¬ (IsFun k ∧ IsSF g ∧ IsSM m) ∧ c = 1) ∨ (IsFun k ∧ IsSF g ∧ IsSM m ∧ ¬ (k.tgt = g.shape ∧ k.src = m.src.shape) ∧ c = 5) ∨ (IsFun k ∧ IsSF g ∧ IsSM m ∧ k.tgt = g.shape ∧ k.src = m.src.shape ∧ alF k g ≠ m.src ∧ c = 5) ∨ (IsFun k ∧ IsSF g ∧ IsSM m ∧ k.tgt = g.shape ∧ k.src = m.src.shape ∧ alF k g = m.src ∧ c = 0)
theorem xco_cases (k : Fun) (g : SF) (m : SM) : (∃ c,XCo k g m c ∧ c ≠ 0) ∨ (IsFun k ∧ IsSF g ∧ IsSM m ∧ k.tgt = g.shape ∧ alF k g = m.src):=by
  by_cases h1 : IsFun k ∧ IsSF g ∧ IsSM m
  · by_cases h2 : k.tgt = g.shape ∧ k.src = m.src.shape
    · by_cases h3 : alF k g = m.src
      · exact .inr ⟨h1.1,h1.2.1,h1.2.2,h2.1,h3⟩
      · exact .inl ⟨5,.inr (.inr (.inl ⟨h1.1,h1.2.1,h1.2.2,h2.1,h2.2,h3,rfl⟩)),by decide⟩
    · exact .inl ⟨5,.inr (.inl ⟨h1.1,h1.2.1,h1.2.2,h2,rfl⟩),by decide⟩
  · exact .inl ⟨1,.inl ⟨h1,rfl⟩,by decide⟩
theorem xco_0 {k : Fun} {g : SF} {m : SM} (hk : IsFun k) (hg : IsSF g) (hm : IsSM m) (h1 : k.tgt = g.shape) (h2 : alF k g = m.src) : XCo k g m 0:=.inr (.inr (.inr ⟨hk,hg,hm,h1,by rw [← h2]; rfl,h2,rfl⟩))
theorem al_w {k : Fun} {g : SF} (hk : IsFun k) (hg : IsSF g) (h : k.tgt = g.shape) : Within k.obs g.sizes.length ∧ Within k.ars g.acts.length:=by
  have h1:=hk.fits.obw
  have h2:=hk.fits.arw
  rw [h] at h1 h2
  exact ⟨by rw [hg.szl]; exact h1,by rw [hg.acl]; exact h2⟩
theorem cal_extendedCode : Callable Tryz.prog 56:=⟨_,Tryz.func56,rfl,rfl⟩
theorem sp_extendedCode {k : Fun} {g : SF} {m : SM} {c : Int} (hk : FunB k) (hg : SFB g) (hm : SMB m) (h : XCo k g m c) : Spec Tryz.prog 56 [.bptr [] (funD k),.bptr [] (sfD g),.bptr [] (smD m),.bptr [] (sfD m.src)] [] (iv c) []:=by
  refine spec_of_V (E:=TE) 0 Tryz.func56 rfl (by simp [Tryz.f56]) fun X hn hX=>?_
  have k1:=hk.src
  have k2:=hk.tgt
  have g1:=hg.shape
  have m1:=hm.src
  have m2:=hm.src.shape
  rcases h with ⟨h6,rfl⟩ | ⟨h6,h7,h8,h9,rfl⟩ | ⟨h6,h7,h8,h9,h10,h11,rfl⟩ | ⟨h6,h7,h8,h9,h10,h11,rfl⟩
  · repeat' (first | (with_reducible first | refine V_seq ?_ | refine V_skip ?_ | refine V_ret ?_) | ((with_reducible refine V_cond ?_); simp only [go_sem,simprocAttr]) | ((first | refine V_region (by rw [hn]; rfl) ?_ | refine V_drawn hmix (by rw [hn]; rfl) ?_); intro K hK) | ((first | with_reducible refine evOps_n ?_ | ((with_reducible apply evOps_g); rfl) | with_reducible refine evOpsD_n ?_ | ((with_reducible apply evOpsD_g); rfl)); intro K hK; simp (contextual:=true) only [go_sem,simprocAttr]) | with_reducible refine evOps_nil ?_ | ((with_reducible refine evOpsD_nil ?_ ?_); kernel_rfl) | ((with_reducible refine hK _ ?_); clear hK K) | (with_reducible first | refine And.intro ?_ ?_ | refine nxt_n ?_ | refine nxt_r ?_ | refine inR_mk ?_ ?_) | ((with_reducible refine evCall_at 62 ?_); refine EvCall.rq (a:=(sp_Functor_isFunctor (f:=k) ?_)) (b:=cal_Functor_isFunctor) (c:=?_); all_goals try simp only [go_sem,simprocAttr]) | ((with_reducible refine evCall_at 63 ?_); refine EvCall.rq (a:=(sp_SetFunctor_isSetFunctor (f:=g) ?_)) (b:=cal_SetFunctor_isSetFunctor) (c:=?_); all_goals try simp only [go_sem,simprocAttr]) | ((with_reducible refine evCall_at 81 ?_); refine EvCall.rq (a:=(sp_SetMap_isNatural (m:=m) ?_)) (b:=cal_SetMap_isNatural) (c:=?_); all_goals try simp only [go_sem,simprocAttr]) | (refine fun (hc : (_ : Bool) = _)=>?_; try simp only [hcS] at hc))
    all_goals try (first | (with_reducible assumption) | ((try simp only [Cat.F,Cat.T,Cat.I,Cat.C,Fun.O,Fun.A,Cat.Entry,Int.toNat_natCast] at *); omega))
    all_goals try ((first | refine ret_auto ?_ | refine ret_auto' ?_); simp only [go_sem,simprocAttr,Tryz.f56])
    all_goals first | contradiction | exact absurd ⟨by assumption,by assumption,by assumption⟩ h6
  · repeat' (first | (with_reducible first | refine V_seq ?_ | refine V_skip ?_ | refine V_ret ?_) | ((with_reducible refine V_cond ?_); simp only [go_sem,simprocAttr]) | ((first | refine V_region (by rw [hn]; rfl) ?_ | refine V_drawn hmix (by rw [hn]; rfl) ?_); intro K hK) | ((first | with_reducible refine evOps_n ?_ | ((with_reducible apply evOps_g); rfl) | with_reducible refine evOpsD_n ?_ | ((with_reducible apply evOpsD_g); rfl)); intro K hK; simp (contextual:=true) only [go_sem,simprocAttr]) | with_reducible refine evOps_nil ?_ | ((with_reducible refine evOpsD_nil ?_ ?_); kernel_rfl) | ((with_reducible refine hK _ ?_); clear hK K) | (with_reducible first | refine And.intro ?_ ?_ | refine nxt_n ?_ | refine nxt_r ?_ | refine inR_mk ?_ ?_) | ((with_reducible refine evCall_at 62 ?_); refine EvCall.rq (a:=(sp_Functor_isFunctor (f:=k) ?_)) (b:=cal_Functor_isFunctor) (c:=?_); all_goals try simp only [go_sem,simprocAttr]) | ((with_reducible refine evCall_at 63 ?_); refine EvCall.rq (a:=(sp_SetFunctor_isSetFunctor (f:=g) ?_)) (b:=cal_SetFunctor_isSetFunctor) (c:=?_); all_goals try simp only [go_sem,simprocAttr]) | ((with_reducible refine evCall_at 81 ?_); refine EvCall.rq (a:=(sp_SetMap_isNatural (m:=m) ?_)) (b:=cal_SetMap_isNatural) (c:=?_); all_goals try simp only [go_sem,simprocAttr]) | ((with_reducible refine evCall_at 64 ?_); refine EvCall.rq (a:=(sp_sameCategory (c:=k.tgt) (d:=g.shape) ?_ ?_)) (b:=cal_sameCategory) (c:=?_); all_goals try simp only [go_sem,simprocAttr]) | ((with_reducible refine evCall_at 64 ?_); refine EvCall.rq (a:=(sp_sameCategory (c:=k.src) (d:=m.src.shape) ?_ ?_)) (b:=cal_sameCategory) (c:=?_); all_goals try simp only [go_sem,simprocAttr]) | (refine fun (hc : (_ : Bool) = _)=>?_; try simp only [hcS] at hc))
    all_goals try (first | (with_reducible assumption) | ((try simp only [Cat.F,Cat.T,Cat.I,Cat.C,Fun.O,Fun.A,Cat.Entry,Int.toNat_natCast] at *); omega))
    all_goals try ((first | refine ret_auto ?_ | refine ret_auto' ?_); simp only [go_sem,simprocAttr,Tryz.f56])
    all_goals first | contradiction | exact absurd ⟨by assumption,by assumption⟩ h9
  · obtain ⟨w1,w2⟩:=al_w h6 h7 h9
    have al:=alF_b hk hg w2
    repeat' (first | (with_reducible first | refine V_seq ?_ | refine V_skip ?_ | refine V_ret ?_) | ((with_reducible refine V_cond ?_); simp only [go_sem,simprocAttr]) | ((first | refine V_region (by rw [hn]; rfl) ?_ | refine V_drawn hmix (by rw [hn]; rfl) ?_); intro K hK) | ((first | with_reducible refine evOps_n ?_ | ((with_reducible apply evOps_g); rfl) | with_reducible refine evOpsD_n ?_ | ((with_reducible apply evOpsD_g); rfl)); intro K hK; simp (contextual:=true) only [go_sem,simprocAttr]) | with_reducible refine evOps_nil ?_ | ((with_reducible refine evOpsD_nil ?_ ?_); kernel_rfl) | ((with_reducible refine hK _ ?_); clear hK K) | (with_reducible first | refine And.intro ?_ ?_ | refine nxt_n ?_ | refine nxt_r ?_ | refine inR_mk ?_ ?_) | ((with_reducible refine evCall_at 62 ?_); refine EvCall.rq (a:=(sp_Functor_isFunctor (f:=k) ?_)) (b:=cal_Functor_isFunctor) (c:=?_); all_goals try simp only [go_sem,simprocAttr]) | ((with_reducible refine evCall_at 63 ?_); refine EvCall.rq (a:=(sp_SetFunctor_isSetFunctor (f:=g) ?_)) (b:=cal_SetFunctor_isSetFunctor) (c:=?_); all_goals try simp only [go_sem,simprocAttr]) | ((with_reducible refine evCall_at 81 ?_); refine EvCall.rq (a:=(sp_SetMap_isNatural (m:=m) ?_)) (b:=cal_SetMap_isNatural) (c:=?_); all_goals try simp only [go_sem,simprocAttr]) | ((with_reducible refine evCall_at 64 ?_); refine EvCall.rq (a:=(sp_sameCategory (c:=k.tgt) (d:=g.shape) ?_ ?_)) (b:=cal_sameCategory) (c:=?_); all_goals try simp only [go_sem,simprocAttr]) | ((with_reducible refine evCall_at 64 ?_); refine EvCall.rq (a:=(sp_sameCategory (c:=k.src) (d:=m.src.shape) ?_ ?_)) (b:=cal_sameCategory) (c:=?_); all_goals try simp only [go_sem,simprocAttr]) | ((with_reducible refine evCall_at 39 ?_); refine EvCall.rq (a:=(sp_along (k:=k) (g:=g) ?_ ?_ ?_ ?_)) (b:=cal_along) (c:=?_); all_goals try simp only [go_sem,simprocAttr]) | ((with_reducible refine evCall_at 84 ?_); refine EvCall.rq (a:=(sp_sameSets (f:=alF k g) (g:=m.src) ?_ ?_)) (b:=cal_sameSets) (c:=?_); all_goals try simp only [go_sem,simprocAttr]) | (refine fun (hc : (_ : Bool) = _)=>?_; try simp only [hcS] at hc))
    all_goals try (first | (with_reducible assumption) | ((try simp only [Cat.F,Cat.T,Cat.I,Cat.C,Fun.O,Fun.A,Cat.Entry,Int.toNat_natCast] at *); omega))
    all_goals try ((first | refine ret_auto ?_ | refine ret_auto' ?_); simp only [go_sem,simprocAttr,Tryz.f56])
    all_goals first | contradiction | exact absurd (by assumption) h11
  · obtain ⟨w1,w2⟩:=al_w h6 h7 h9
    have al:=alF_b hk hg w2
    repeat' (first | (with_reducible first | refine V_seq ?_ | refine V_skip ?_ | refine V_ret ?_) | ((with_reducible refine V_cond ?_); simp only [go_sem,simprocAttr]) | ((first | refine V_region (by rw [hn]; rfl) ?_ | refine V_drawn hmix (by rw [hn]; rfl) ?_); intro K hK) | ((first | with_reducible refine evOps_n ?_ | ((with_reducible apply evOps_g); rfl) | with_reducible refine evOpsD_n ?_ | ((with_reducible apply evOpsD_g); rfl)); intro K hK; simp (contextual:=true) only [go_sem,simprocAttr]) | with_reducible refine evOps_nil ?_ | ((with_reducible refine evOpsD_nil ?_ ?_); kernel_rfl) | ((with_reducible refine hK _ ?_); clear hK K) | (with_reducible first | refine And.intro ?_ ?_ | refine nxt_n ?_ | refine nxt_r ?_ | refine inR_mk ?_ ?_) | ((with_reducible refine evCall_at 62 ?_); refine EvCall.rq (a:=(sp_Functor_isFunctor (f:=k) ?_)) (b:=cal_Functor_isFunctor) (c:=?_); all_goals try simp only [go_sem,simprocAttr]) | ((with_reducible refine evCall_at 63 ?_); refine EvCall.rq (a:=(sp_SetFunctor_isSetFunctor (f:=g) ?_)) (b:=cal_SetFunctor_isSetFunctor) (c:=?_); all_goals try simp only [go_sem,simprocAttr]) | ((with_reducible refine evCall_at 81 ?_); refine EvCall.rq (a:=(sp_SetMap_isNatural (m:=m) ?_)) (b:=cal_SetMap_isNatural) (c:=?_); all_goals try simp only [go_sem,simprocAttr]) | ((with_reducible refine evCall_at 64 ?_); refine EvCall.rq (a:=(sp_sameCategory (c:=k.tgt) (d:=g.shape) ?_ ?_)) (b:=cal_sameCategory) (c:=?_); all_goals try simp only [go_sem,simprocAttr]) | ((with_reducible refine evCall_at 64 ?_); refine EvCall.rq (a:=(sp_sameCategory (c:=k.src) (d:=m.src.shape) ?_ ?_)) (b:=cal_sameCategory) (c:=?_); all_goals try simp only [go_sem,simprocAttr]) | ((with_reducible refine evCall_at 39 ?_); refine EvCall.rq (a:=(sp_along (k:=k) (g:=g) ?_ ?_ ?_ ?_)) (b:=cal_along) (c:=?_); all_goals try simp only [go_sem,simprocAttr]) | ((with_reducible refine evCall_at 84 ?_); refine EvCall.rq (a:=(sp_sameSets (f:=alF k g) (g:=m.src) ?_ ?_)) (b:=cal_sameSets) (c:=?_); all_goals try simp only [go_sem,simprocAttr]) | (refine fun (hc : (_ : Bool) = _)=>?_; try simp only [hcS] at hc))
    all_goals try (first | (with_reducible assumption) | ((try simp only [Cat.F,Cat.T,Cat.I,Cat.C,Fun.O,Fun.A,Cat.Entry,Int.toNat_natCast] at *); omega))
    all_goals try ((first | refine ret_auto ?_ | refine ret_auto' ?_); simp only [go_sem,simprocAttr,Tryz.f56])
    all_goals first | contradiction | exact absurd h11 (by assumption)
theorem cal_RightExtended : Callable Tryz.prog 24:=⟨_,Tryz.func24,rfl,rfl⟩
theorem sp_RightExtended_bad {k : Fun} {g : SF} {m : SM} {c : Int} (hk : FunB k) (hg : SFB g) (hm : SMB m) (h : XCo k g m c) (h0 : c ≠ 0) : Spec Tryz.prog 24 [funV k,sfV g,smV m] [] (.tup [.agg [iv 0,.v (.slice none 0 0),.v (.slice none 0 0),.v (.slice none 0 0),.v (.slice none 0 0),.v (.slice none 0 0),.v (.slice none 0 0),iv 0,.v (.slice none 0 0),.v (.slice none 0 0),.v (.slice none 0 0),.v (.slice none 0 0),.v (.slice none 0 0),.v (.slice none 0 0),.v (.slice none 0 0)],iv c]) []:=by
  have hec:=sp_extendedCode hk hg hm h
  refine spec_of_V (E:=TE) 0 Tryz.func24 rfl (by simp [Tryz.f24]) fun X hn hX=>?_
  repeat' (first | (with_reducible first | refine V_seq ?_ | refine V_block ?_ | refine V_skip ?_ | refine V_ret ?_ | refine V_exit ?_) | ((with_reducible refine V_cond ?_); simp only [go_sem,simprocAttr]) | ((first | refine V_region (by rw [hn]; rfl) ?_ | refine V_drawn hmix (by rw [hn]; rfl) ?_); intro K hK) | ((first | with_reducible refine evOps_n ?_ | ((with_reducible apply evOps_g); rfl) | with_reducible refine evOpsD_n ?_ | ((with_reducible apply evOpsD_g); rfl)); intro K hK; simp (contextual:=true) only [go_sem,simprocAttr]) | with_reducible refine evOps_nil ?_ | ((with_reducible refine evOpsD_nil ?_ ?_); kernel_rfl) | ((with_reducible refine hK _ ?_); clear hK K) | (with_reducible first | refine And.intro ?_ ?_ | refine nxt_n ?_ | refine nxt_r ?_ | refine nxt_e ?_ | refine blk_n ?_ | refine blk_r ?_ | refine blk_same ?_ | refine blk_other (by decide) ?_ | refine noG_n ?_ | refine noG_r ?_ | refine noG_e ?_ | refine inR_mk ?_ ?_) | ((with_reducible refine evCall_at 56 ?_); refine EvCall.mk (hec) cal_extendedCode [] [0,1,2] (by simp [go_sem] <;> (repeat' (first | rfl | constructor))) (by simp [go_sem] <;> (repeat' (first | rfl | constructor))) ?_; all_goals try simp only [go_sem,simprocAttr]) | (refine fun (hc : (_ : Bool) = _)=>?_; try simp only [hcS] at hc))
  all_goals try (first | (with_reducible assumption) | ((try simp only [Cat.F,Cat.T,Cat.I,Cat.C,Fun.O,Fun.A,Cat.Entry,Int.toNat_natCast] at *); omega))
  all_goals try ((first | refine ret_auto ?_ | refine ret_auto' ?_); simp only [go_sem,simprocAttr,Tryz.f24])
  all_goals omega
theorem sp_RightExtended_far {k : Fun} {g : SF} {m : SM} {y0 : Nat} (hk : FunB k) (hg : SFB g) (hm : SMB m) (ik : IsFun k) (ig : IsSF g) (jm : IsSM m) (hs : k.tgt = g.shape) (he : alF k g = m.src) (hb : ExBad k m.tgt y0) : Spec Tryz.prog 24 [funV k,sfV g,smV m] [] (.tup [.agg [iv 0,.v (.slice none 0 0),.v (.slice none 0 0),.v (.slice none 0 0),.v (.slice none 0 0),.v (.slice none 0 0),.v (.slice none 0 0),iv 0,.v (.slice none 0 0),.v (.slice none 0 0),.v (.slice none 0 0),.v (.slice none 0 0),.v (.slice none 0 0),.v (.slice none 0 0),.v (.slice none 0 0)],iv 3]) []:=by
  have hec:=sp_extendedCode hk hg hm (xco_0 ik ig jm hs he)
  have he2 : m.tgt.shape = k.src:=by rw [← jm.same,← he]; rfl
  have hn2:=sp_extendRight_no hk ik jm.tgt he2 hb
  refine spec_of_V (E:=TE) 0 Tryz.func24 rfl (by simp [Tryz.f24]) fun X hn hX=>?_
  repeat' (first | (with_reducible first | refine V_seq ?_ | refine V_block ?_ | refine V_skip ?_ | refine V_ret ?_ | refine V_exit ?_) | ((with_reducible refine V_cond ?_); simp only [go_sem,simprocAttr]) | ((first | refine V_region (by rw [hn]; rfl) ?_ | refine V_drawn hmix (by rw [hn]; rfl) ?_); intro K hK) | ((first | with_reducible refine evOps_n ?_ | ((with_reducible apply evOps_g); rfl) | with_reducible refine evOpsD_n ?_ | ((with_reducible apply evOpsD_g); rfl)); intro K hK; simp (contextual:=true) only [go_sem,simprocAttr]) | with_reducible refine evOps_nil ?_ | ((with_reducible refine evOpsD_nil ?_ ?_); kernel_rfl) | ((with_reducible refine hK _ ?_); clear hK K) | (with_reducible first | refine And.intro ?_ ?_ | refine nxt_n ?_ | refine nxt_r ?_ | refine nxt_e ?_ | refine blk_n ?_ | refine blk_r ?_ | refine blk_same ?_ | refine blk_other (by decide) ?_ | refine noG_n ?_ | refine noG_r ?_ | refine noG_e ?_ | refine inR_mk ?_ ?_) | ((with_reducible refine evCall_at 56 ?_); refine EvCall.mk (hec) cal_extendedCode [] [0,1,2] (by simp [go_sem] <;> (repeat' (first | rfl | constructor))) (by simp [go_sem] <;> (repeat' (first | rfl | constructor))) ?_; all_goals try simp only [go_sem,simprocAttr]) | ((with_reducible refine evCall_at 36 ?_); refine EvCall.mk (hn2) cal_extendRight [] [0,2] (by simp [go_sem] <;> (repeat' (first | rfl | constructor))) (by simp [go_sem] <;> (repeat' (first | rfl | constructor))) ?_; all_goals try simp only [go_sem,simprocAttr]) | (refine fun (hc : (_ : Bool) = _)=>?_; try simp only [hcS] at hc))
  all_goals try (first | (with_reducible assumption) | ((try simp only [Cat.F,Cat.T,Cat.I,Cat.C,Fun.O,Fun.A,Cat.Entry,Int.toNat_natCast] at *); omega))
  all_goals try ((first | refine ret_auto ?_ | refine ret_auto' ?_); simp only [go_sem,simprocAttr,Tryz.f24])
  all_goals first | contradiction | omega
theorem sp_RightExtended_yes {k : Fun} {g : SF} {m : SM} (hk : FunB k) (hg : SFB g) (hm : SMB m) (ik : IsFun k) (ig : IsSF g) (jm : IsSM m) (hs : k.tgt = g.shape) (he : alF k g = m.src) (hg2 : ∀ y : Nat,(y : Int) < k.tgt.ob → (exT k y).length ≤ 64 ∧ (exL k m.tgt y).length ≤ 16) : Spec Tryz.prog 24 [funV k,sfV g,smV m] [] (.tup [.agg [iv g.shape.ob,.sl 0,.sl 1,.sl 2,.sl 3,.sl 4,.sl 5,iv k.tgt.ob,.sl 6,.sl 7,.sl 8,.sl 9,.sl 10,.sl 11,.sl 12],iv 0])
    [(0,⟨1,.arr (ints g.shape.fr)⟩),(1,⟨1,.arr (ints g.shape.to)⟩),(2,⟨1,.arr (ints g.shape.id)⟩),(3,⟨1,.arr (intss g.shape.co)⟩),(4,⟨1,.arr (ints g.sizes)⟩),(5,⟨1,.arr (intss g.acts)⟩),(6,⟨1,.arr (ints k.tgt.fr)⟩),(7,⟨1,.arr (ints k.tgt.to)⟩),(8,⟨1,.arr (ints k.tgt.id)⟩),(9,⟨1,.arr (intss k.tgt.co)⟩),(10,⟨1,.arr (ints (exF k m.tgt).sizes)⟩),(11,⟨1,.arr (intss (exF k m.tgt).acts)⟩),(12,⟨1,.arr (intss (xeP k g m k.tgt.ob.toNat))⟩)]:=by
  have hec:=sp_extendedCode hk hg hm (xco_0 ik ig jm hs he)
  have he2 : m.tgt.shape = k.src:=by rw [← jm.same,← he]; rfl
  have jt:=jm.tgt
  have hx:=sp_extendRight_yes hk ik jt he2 hg2
  obtain ⟨A,hAl,hAt,hlend⟩:=lend_ok (k:=k) (f:=m.tgt)
  obtain ⟨P,hP⟩ : ∃ P,rAts k m.tgt k.tgt.ob.toNat = P:=⟨_,rfl⟩
  rw [hP] at hx hlend
  have ob0:=ik.tgt.ob0
  have ob8:=ik.tgt.ob8
  have zl:=ig.szl
  have zw:=ig.szw
  rw [← hs] at zl
  have hxb2:=exF_b ik hk hg2
  have hcl:=xeP_len (k:=k) (g:=g) (m:=m) (n:=k.tgt.ob.toNat)
  have hcr : ∀ i,i < (xeP k g m k.tgt.ob.toNat).length → ((xeP k g m k.tgt.ob.toNat).getD i []).length ≤ 1048576:=fun i hi=>by
    rw [hcl] at hi
    have:=(zw i (by omega)).2
    rw [xeP_at hi,xeR_len]; omega
  have hsm:=sp_setMap hg hxb2 (p:=xeP k g m k.tgt.ob.toNat) (by rw [hcl]; omega) hcr
  refine spec_of_V (E:=TE) 0 Tryz.func24 rfl (by simp [Tryz.f24]) fun X hn hX=>?_
  repeat' (first | (refine V_at 8 (Imp.cellLend 4 8 11 _ _ (ptsB A) rfl (Nat.le_refl 1) rfl rfl (Nat.le_refl 1) (by decide) hlend) ?_; simp only [go_sem,simprocAttr]) | (with_reducible first | refine V_seq ?_ | refine V_block ?_ | refine V_skip ?_ | refine V_ret ?_ | refine V_exit ?_) | ((with_reducible refine V_cond ?_); simp only [go_sem,simprocAttr]) | ((first | refine V_region (by rw [hn]; rfl) ?_ | refine V_drawn hmix (by rw [hn]; rfl) ?_); intro K hK) | ((first | with_reducible refine evOps_n ?_ | ((with_reducible apply evOps_g); rfl) | with_reducible refine evOpsD_n ?_ | ((with_reducible apply evOpsD_g); rfl)); intro K hK; simp (contextual:=true) only [go_sem,simprocAttr]) | with_reducible refine evOps_nil ?_ | ((with_reducible refine evOpsD_nil ?_ ?_); kernel_rfl) | ((with_reducible refine hK _ ?_); clear hK K) | (with_reducible first | refine And.intro ?_ ?_ | refine nxt_n ?_ | refine nxt_r ?_ | refine nxt_e ?_ | refine blk_n ?_ | refine blk_r ?_ | refine blk_same ?_ | refine blk_other (by decide) ?_ | refine noG_n ?_ | refine noG_r ?_ | refine noG_e ?_ | refine inR_mk ?_ ?_) | ((with_reducible refine evCall_at 56 ?_); refine EvCall.mk (hec) cal_extendedCode [] [0,1,2] (by simp [go_sem] <;> (repeat' (first | rfl | constructor))) (by simp [go_sem] <;> (repeat' (first | rfl | constructor))) ?_; all_goals try simp only [go_sem,simprocAttr]) | ((with_reducible refine evCall_at 36 ?_); refine EvCall.mk (hx) cal_extendRight [(0,4),(1,5),(2,6),(3,7),(4,8),(5,9),(6,10),(7,11)] [0,2] (by simp [go_sem] <;> (repeat' (first | rfl | constructor))) (by simp [go_sem] <;> (repeat' (first | rfl | constructor))) ?_; all_goals try simp only [go_sem,simprocAttr]) | (refine fun (hc : (_ : Bool) = _)=>?_; try simp only [hcS] at hc))
  all_goals try (first | (with_reducible assumption) | ((try simp only [Cat.F,Cat.T,Cat.I,Cat.C,Fun.O,Fun.A,Cat.Entry,Int.toNat_natCast] at *); omega))
  all_goals first | contradiction | skip
  refine V_loopK (G:={y : Nat // y ≤ k.tgt.ob.toNat ∧ (True)}) (fun ⟨y,_⟩=>[(39,iv y),(11,.sl 12),(3,.ptr 0 0),(4,.ptr 1 0),(5,.ptr 2 0),(6,.ptr 3 0),(9,.ptr 4 0)]) [7,37,38] (fun ⟨y,_⟩=>[(12,⟨1,.arr (intss (xeP k g m y))⟩)]) [12] (fun zz=>k.tgt.ob.toNat - zz.1) ⟨0,Nat.zero_le _,by first | trivial | simp⟩ ?_ ?_
  · exact Imp.auto hX (by simp [go_sem,simprocAttr])
  rintro ⟨y,hiy,hwy⟩
  simp only [go_sem,simprocAttr]
  rcases Nat.lt_or_ge y k.tgt.ob.toNat with hlt | hge
  · have ra:=hAt y (by omega)
    obtain ⟨g3,g4⟩:=hg2 y (by omega)
    have s1:=xeP_succ (k:=k) (g:=g) (m:=m) (n:=y)
    have s2:=xeP_len (k:=k) (g:=g) (m:=m) (n:=y)
    have z:=zw y (by omega)
    obtain ⟨q,hq⟩ : ∃ q : Nat,g.sizes.getD y 0 = q:=⟨_,(Int.toNat_of_nonneg z.1).symm⟩
    rw [hq] at z s1
    simp only [Int.toNat_natCast] at s1
    repeat' (first | (rw [ra]) | (rw [hq]) | (with_reducible first | refine V_seq ?_ | refine V_block ?_ | refine V_skip ?_ | refine V_ret ?_ | refine V_exit ?_) | ((with_reducible refine V_cond ?_); simp only [go_sem,simprocAttr]) | ((first | refine V_region (by rw [hn]; rfl) ?_ | refine V_drawn hmix (by rw [hn]; rfl) ?_); intro K hK) | ((first | with_reducible refine evOps_n ?_ | ((with_reducible apply evOps_g); rfl) | with_reducible refine evOpsD_n ?_ | ((with_reducible apply evOpsD_g); rfl)); intro K hK; simp (contextual:=true) only [go_sem,simprocAttr]) | with_reducible refine evOps_nil ?_ | ((with_reducible refine evOpsD_nil ?_ ?_); kernel_rfl) | ((with_reducible refine hK _ ?_); clear hK K) | (with_reducible first | refine And.intro ?_ ?_ | refine nxt_n ?_ | refine nxt_r ?_ | refine nxt_e ?_ | refine blk_n ?_ | refine blk_r ?_ | refine blk_same ?_ | refine blk_other (by decide) ?_ | refine noG_n ?_ | refine noG_r ?_ | refine noG_e ?_ | refine inR_mk ?_ ?_) | (refine fun (hc : (_ : Bool) = _)=>?_; try simp only [hcS] at hc))
    all_goals try (first | (with_reducible assumption) | ((try simp only [Cat.F,Cat.T,Cat.I,Cat.C,Fun.O,Fun.A,Cat.Entry,Int.toNat_natCast] at *); omega))
    refine V_loopK (G:={e : Nat // e ≤ q ∧ (True)}) (fun ⟨e,_⟩=>[(50,iv e),(14,.sl 13),(11,.sl 12),(3,.ptr 0 0),(4,.ptr 1 0),(5,.ptr 2 0),(6,.ptr 3 0),(9,.ptr 4 0)]) [7,13,37,38,39,49] (fun ⟨e,_⟩=>[(13,⟨1,.arr (ints (xeR k g m y e))⟩)]) [13] (fun zz=>q - zz.1) ⟨0,Nat.zero_le _,by first | trivial | simp⟩ ?_ ?_
    · exact Imp.auto hX (by simp [go_sem,simprocAttr])
    rintro ⟨e,hie,hwe⟩
    simp only [go_sem,simprocAttr]
    rcases Nat.lt_or_ge e q with hlt2 | hge2
    · have he3 : (e : Int) < g.sizes.getD ((y : Int)).toNat 0:=by rw [Int.toNat_natCast,hq]; omega
      have s3:=xeR_succ (k:=k) (g:=g) (m:=m) (y:=(y : Int)) (n:=e)
      have s4:=xeR_len (k:=k) (g:=g) (m:=m) (y:=(y : Int)) (n:=e)
      have mm:=xe_mem ik ig jm hs.symm he.symm (y:=(y : Int)) (e:=e) (by omega) (by omega) he3
      have ml:=xeN_len (k:=k) (g:=g) (m:=m) (y:=(y : Int)) (e:=e) (Nat.le_refl (exT k y).length)
      have kb : ∀ x ∈ xeN k g m y e (exT k y).length,0 ≤ x ∧ x < 256:=(keyOK_ex ik jt he2).b _ mm
      have kl : (xeN k g m y e (exT k y).length).length ≤ 64:=by omega
      have ks:=key_size kl
      have kf:=pm_fnd (keyOK_ex (y:=(y : Int)) ik jt he2) (.lit (.int .i64 0)) mm
      repeat' (first | (with_reducible first | refine V_seq ?_ | refine V_block ?_ | refine V_skip ?_ | refine V_ret ?_ | refine V_exit ?_) | ((with_reducible refine V_cond ?_); simp only [go_sem,simprocAttr]) | ((first | refine V_region (by rw [hn]; rfl) ?_ | refine V_drawn hmix (by rw [hn]; rfl) ?_); intro K hK) | ((first | with_reducible refine evOps_n ?_ | ((with_reducible apply evOps_g); rfl) | with_reducible refine evOpsD_n ?_ | ((with_reducible apply evOpsD_g); rfl)); intro K hK; simp (contextual:=true) only [go_sem,simprocAttr]) | with_reducible refine evOps_nil ?_ | ((with_reducible refine evOpsD_nil ?_ ?_); kernel_rfl) | ((with_reducible refine hK _ ?_); clear hK K) | (with_reducible first | refine And.intro ?_ ?_ | refine nxt_n ?_ | refine nxt_r ?_ | refine nxt_e ?_ | refine blk_n ?_ | refine blk_r ?_ | refine blk_same ?_ | refine blk_other (by decide) ?_ | refine noG_n ?_ | refine noG_r ?_ | refine noG_e ?_ | refine inR_mk ?_ ?_) | (refine fun (hc : (_ : Bool) = _)=>?_; try simp only [hcS] at hc))
      all_goals try (first | (with_reducible assumption) | ((try simp only [Cat.F,Cat.T,Cat.I,Cat.C,Fun.O,Fun.A,Cat.Entry,Int.toNat_natCast] at *); omega))
      refine V_loopK (G:={j : Nat // j ≤ (exT k y).length ∧ (True)}) (fun ⟨j,_⟩=>[(59,iv j),(16,.sl 14),(14,.sl 13),(11,.sl 12),(3,.ptr 0 0),(4,.ptr 1 0),(5,.ptr 2 0),(6,.ptr 3 0),(9,.ptr 4 0)]) [7,13,15,37,38,39,49,50,57,58] (fun ⟨j,_⟩=>[(14,⟨1,.arr (ints (xeN k g m y e j))⟩)]) [14] (fun zz=>(exT k y).length - zz.1) ⟨0,Nat.zero_le _,by first | trivial | simp⟩ ?_ ?_
      · exact Imp.auto hX (by simp [go_sem,simprocAttr])
      rintro ⟨j,hij,hwj⟩
      simp only [go_sem,simprocAttr]
      rcases Nat.lt_or_ge j (exT k y).length with hlt3 | hge3
      · obtain ⟨x,h,v,e1,e2,q1,q2,q3,e3,q4,q5,q6,q7,q8,q9⟩:=xe_val ik ig jm hs.symm he.symm (y:=(y : Int)) (e:=e) (by omega) (by omega) he3 hlt3
        have s5:=xeN_succ (k:=k) (g:=g) (m:=m) (y:=(y : Int)) (e:=e) hlt3
        have s6:=xeN_len (k:=k) (g:=g) (m:=m) (y:=(y : Int)) (e:=e) (Nat.le_of_lt hlt3)
        have ok:=(seat_x ik hlt3).len
        rw [e1,e2] at s5
        simp only [Int.toNat_natCast] at s5
        rw [e3] at s5
        simp only [Int.toNat_natCast] at s5
        repeat' (first | (rw [e1]) | (rw [e2]) | (rw [e3]) | (with_reducible first | refine V_seq ?_ | refine V_block ?_ | refine V_skip ?_ | refine V_ret ?_ | refine V_exit ?_) | ((with_reducible refine V_cond ?_); simp only [go_sem,simprocAttr]) | ((first | refine V_region (by rw [hn]; rfl) ?_ | refine V_drawn hmix (by rw [hn]; rfl) ?_); intro K hK) | ((first | with_reducible refine evOps_n ?_ | ((with_reducible apply evOps_g); rfl) | with_reducible refine evOpsD_n ?_ | ((with_reducible apply evOpsD_g); rfl)); intro K hK; simp (contextual:=true) only [go_sem,simprocAttr]) | with_reducible refine evOps_nil ?_ | ((with_reducible refine evOpsD_nil ?_ ?_); kernel_rfl) | ((with_reducible refine hK _ ?_); clear hK K) | (with_reducible first | refine And.intro ?_ ?_ | refine nxt_n ?_ | refine nxt_r ?_ | refine nxt_e ?_ | refine blk_n ?_ | refine blk_r ?_ | refine blk_same ?_ | refine blk_other (by decide) ?_ | refine noG_n ?_ | refine noG_r ?_ | refine noG_e ?_ | refine inR_mk ?_ ?_) | (refine fun (hc : (_ : Bool) = _)=>?_; try simp only [hcS] at hc))
        all_goals try (first | (with_reducible assumption) | ((try simp only [Cat.F,Cat.T,Cat.I,Cat.C,Fun.O,Fun.A,Cat.Entry,Int.toNat_natCast] at *); omega))
        · refine ⟨⟨j + 1,by omega,(by trivial)⟩,by simp only; omega,Imp.auto hX (by simp only [go_sem,simprocAttr,s5])⟩
      · have e1 : j = (exT k y).length:=by omega
        subst e1
        repeat' (first | (with_reducible first | refine V_seq ?_ | refine V_block ?_ | refine V_skip ?_ | refine V_ret ?_ | refine V_exit ?_) | ((with_reducible refine V_cond ?_); simp only [go_sem,simprocAttr]) | ((first | refine V_region (by rw [hn]; rfl) ?_ | refine V_drawn hmix (by rw [hn]; rfl) ?_); intro K hK) | ((first | with_reducible refine evOps_n ?_ | ((with_reducible apply evOps_g); rfl) | with_reducible refine evOpsD_n ?_ | ((with_reducible apply evOpsD_g); rfl)); intro K hK; simp (contextual:=true) only [go_sem,simprocAttr]) | with_reducible refine evOps_nil ?_ | ((with_reducible refine evOpsD_nil ?_ ?_); kernel_rfl) | ((with_reducible refine hK _ ?_); clear hK K) | (with_reducible first | refine And.intro ?_ ?_ | refine nxt_n ?_ | refine nxt_r ?_ | refine nxt_e ?_ | refine blk_n ?_ | refine blk_r ?_ | refine blk_same ?_ | refine blk_other (by decide) ?_ | refine noG_n ?_ | refine noG_r ?_ | refine noG_e ?_ | refine inR_mk ?_ ?_) | ((with_reducible refine evCall_at 53 ?_); refine EvCall.rq (a:=(sp_key_one (r:=xeN k g m y e (exT k y).length) (by first | omega | assumption | rfl | exact (by assumption : SMB _).src | exact (by assumption : SMB _).tgt) (by first | omega | assumption | rfl | exact (by assumption : SMB _).src | exact (by assumption : SMB _).tgt))) (b:=cal_key) (c:=?_); all_goals try simp only [go_sem,simprocAttr]) | (refine hook_lookup_b mapT (by simp only [go_sem,simprocAttr]; rfl) (by simp only [go_sem,simprocAttr]) (by simp only [go_sem,simprocAttr]) ks kf ?_; simp only [go_sem,simprocAttr]) | (refine fun (hc : (_ : Bool) = _)=>?_; try simp only [hcS] at hc))
        all_goals try (first | (with_reducible assumption) | ((try simp only [Cat.F,Cat.T,Cat.I,Cat.C,Fun.O,Fun.A,Cat.Entry,Int.toNat_natCast] at *); omega))
        · refine ⟨⟨e + 1,by omega,(by trivial)⟩,by simp only; omega,Imp.auto hX (by simp only [go_sem,simprocAttr,s3])⟩
    · have e1 : e = q:=by omega
      subst e1
      repeat' (first | (with_reducible first | refine V_seq ?_ | refine V_block ?_ | refine V_skip ?_ | refine V_ret ?_ | refine V_exit ?_) | ((with_reducible refine V_cond ?_); simp only [go_sem,simprocAttr]) | ((first | refine V_region (by rw [hn]; rfl) ?_ | refine V_drawn hmix (by rw [hn]; rfl) ?_); intro K hK) | ((first | with_reducible refine evOps_n ?_ | ((with_reducible apply evOps_g); rfl) | with_reducible refine evOpsD_n ?_ | ((with_reducible apply evOpsD_g); rfl)); intro K hK; simp (contextual:=true) only [go_sem,simprocAttr]) | with_reducible refine evOps_nil ?_ | ((with_reducible refine evOpsD_nil ?_ ?_); kernel_rfl) | ((with_reducible refine hK _ ?_); clear hK K) | (with_reducible first | refine And.intro ?_ ?_ | refine nxt_n ?_ | refine nxt_r ?_ | refine nxt_e ?_ | refine blk_n ?_ | refine blk_r ?_ | refine blk_same ?_ | refine blk_other (by decide) ?_ | refine noG_n ?_ | refine noG_r ?_ | refine noG_e ?_ | refine inR_mk ?_ ?_) | (refine fun (hc : (_ : Bool) = _)=>?_; try simp only [hcS] at hc))
      all_goals try (first | (with_reducible assumption) | ((try simp only [Cat.F,Cat.T,Cat.I,Cat.C,Fun.O,Fun.A,Cat.Entry,Int.toNat_natCast] at *); omega))
      · refine ⟨⟨y + 1,by omega,(by trivial)⟩,by simp only; omega,Imp.auto hX (by simp only [go_sem,simprocAttr,s1])⟩
  · have e1 : y = k.tgt.ob.toNat:=by omega
    subst e1
    repeat' (first | (with_reducible first | refine V_seq ?_ | refine V_block ?_ | refine V_skip ?_ | refine V_ret ?_ | refine V_exit ?_) | ((with_reducible refine V_cond ?_); simp only [go_sem,simprocAttr]) | ((first | refine V_region (by rw [hn]; rfl) ?_ | refine V_drawn hmix (by rw [hn]; rfl) ?_); intro K hK) | ((first | with_reducible refine evOps_n ?_ | ((with_reducible apply evOps_g); rfl) | with_reducible refine evOpsD_n ?_ | ((with_reducible apply evOpsD_g); rfl)); intro K hK; simp (contextual:=true) only [go_sem,simprocAttr]) | with_reducible refine evOps_nil ?_ | ((with_reducible refine evOpsD_nil ?_ ?_); kernel_rfl) | ((with_reducible refine hK _ ?_); clear hK K) | (with_reducible first | refine And.intro ?_ ?_ | refine nxt_n ?_ | refine nxt_r ?_ | refine nxt_e ?_ | refine blk_n ?_ | refine blk_r ?_ | refine blk_same ?_ | refine blk_other (by decide) ?_ | refine noG_n ?_ | refine noG_r ?_ | refine noG_e ?_ | refine inR_mk ?_ ?_) | ((with_reducible refine evCall_at 40 ?_); refine EvCall.mk (hsm) cal_setMap [(0,13),(1,14),(2,15),(3,16),(4,17),(5,18),(6,19),(7,20),(8,21),(9,22),(10,23),(11,24),(12,25)] [1,4,5,6,7,8,9,10,11,12] (by simp [go_sem] <;> (repeat' (first | rfl | constructor))) (by simp [go_sem] <;> (repeat' (first | rfl | constructor))) ?_; all_goals try simp only [go_sem,simprocAttr]) | (refine fun (hc : (_ : Bool) = _)=>?_; try simp only [hcS] at hc))
    all_goals try (first | (with_reducible assumption) | ((try simp only [Cat.F,Cat.T,Cat.I,Cat.C,Fun.O,Fun.A,Cat.Entry,Int.toNat_natCast] at *); omega))
    · (first | refine ret_auto ?_ | refine ret_auto' ?_); simp only [go_sem,simprocAttr,Tryz.f24]
end Go.Eng
