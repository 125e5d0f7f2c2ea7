/- The natural map to a right extension, by the reference. -/
import Derived.Test.YtjdjkmgjgghodaaGreatKdx
import Derived.Test.YtjdjkmgjgghodaaGreatB23q
set_option linter.unusedSimpArgs false
set_option linter.unusedVariables false
set_option maxRecDepth 100000
set_option maxHeartbeats 16000000
namespace Go.Eng
open Go Go.Proofs Go.Cats
attribute [local go_sem] exF_shape alF_shape xeN_zero xeR_zero xeP_zero one_nilSl5 List.getD_cons_zero List.getD_cons_succ List.set_cons_zero List.set_cons_succ goneL
theorem cal_l23Ends : Callable Tryz.prog 54:=⟨_,Tryz.func54,rfl,rfl⟩
theorem sp_l23Ends {k : Fun} {g : SF} {m : SM} {c : Int} (hk : FunB k) (hg : SFB g) (hm : SMB m) (h : (¬ (IsFun k ∧ IsSF g ∧ IsSM m) ∧ c = 1) ∨ (IsFun k ∧ IsSF g ∧ IsSM m ∧ ¬ (k.tgt = g.shape ∧ k.src = m.src.shape) ∧ c = 5) ∨ (IsFun k ∧ IsSF g ∧ IsSM m ∧ k.tgt = g.shape ∧ k.src = m.src.shape ∧ c = 0)) : Spec Tryz.prog 54 [funV k,sfV g,smV m] [] (iv c) []:=by
  refine spec_of_V (E:=TE) 0 Tryz.func54 rfl (by simp [Tryz.f54]) fun X hn hX=>?_
  have k1:=hk.src
  have k2:=hk.tgt
  have g1:=hg.shape
  have m2:=hm.src.shape
  rcases h with ⟨h6,rfl⟩ | ⟨h6,h7,h8,h9,rfl⟩ | ⟨h6,h7,h8,h9,h10,rfl⟩
  · repeat' (first | (with_reducible first | refine V_seq ?_ | refine V_skip ?_ | refine V_ret ?_) | ((with_reducible refine V_cond ?_); simp only [go_sem,simprocAttr]) | ((refine V_region (by rw [hn]; rfl) ?_); intro K hK) | ((first | with_reducible refine evOps_n ?_ | ((with_reducible apply evOps_g); rfl)); intro K hK; simp (contextual:=true) only [go_sem,simprocAttr]) | with_reducible refine evOps_nil ?_ | ((with_reducible refine hK _ ?_); clear hK K) | (with_reducible first | refine And.intro ?_ ?_ | refine nxt_n ?_ | refine nxt_r ?_ | refine inR_mk ?_ ?_) | ((with_reducible refine evCall_at 74 ?_); refine EvCall.rq (a:=(sp_l06Is (f:=k) ?_)) (b:=cal_l06Is) (c:=?_); all_goals try simp only [go_sem,simprocAttr]) | ((with_reducible refine evCall_at 82 ?_); refine EvCall.rq (a:=(sp_l19Is (f:=g) ?_)) (b:=cal_l19Is) (c:=?_); all_goals try simp only [go_sem,simprocAttr]) | ((with_reducible refine evCall_at 75 ?_); refine EvCall.rq (a:=(sp_l19IsMap (m:=m) ?_)) (b:=cal_l19IsMap) (c:=?_); all_goals try simp only [go_sem,simprocAttr]) | (refine fun (hc : (_ : Bool) = _)=>?_; try simp only [hcS] at hc))
    all_goals try (first | (with_reducible assumption) | ((try simp only [Cat.F,Cat.T,Cat.I,Cat.C,Fun.O,Fun.A,Cat.Entry,Int.toNat_natCast] at *); omega))
    all_goals try ((first | refine ret_auto ?_ | refine ret_auto' ?_); simp only [go_sem,simprocAttr,Tryz.f54])
    all_goals first | contradiction | exact absurd ⟨by assumption,by assumption,by assumption⟩ h6
  · repeat' (first | (with_reducible first | refine V_seq ?_ | refine V_skip ?_ | refine V_ret ?_) | ((with_reducible refine V_cond ?_); simp only [go_sem,simprocAttr]) | ((refine V_region (by rw [hn]; rfl) ?_); intro K hK) | ((first | with_reducible refine evOps_n ?_ | ((with_reducible apply evOps_g); rfl)); intro K hK; simp (contextual:=true) only [go_sem,simprocAttr]) | with_reducible refine evOps_nil ?_ | ((with_reducible refine hK _ ?_); clear hK K) | (with_reducible first | refine And.intro ?_ ?_ | refine nxt_n ?_ | refine nxt_r ?_ | refine inR_mk ?_ ?_) | ((with_reducible refine evCall_at 74 ?_); refine EvCall.rq (a:=(sp_l06Is (f:=k) ?_)) (b:=cal_l06Is) (c:=?_); all_goals try simp only [go_sem,simprocAttr]) | ((with_reducible refine evCall_at 82 ?_); refine EvCall.rq (a:=(sp_l19Is (f:=g) ?_)) (b:=cal_l19Is) (c:=?_); all_goals try simp only [go_sem,simprocAttr]) | ((with_reducible refine evCall_at 75 ?_); refine EvCall.rq (a:=(sp_l19IsMap (m:=m) ?_)) (b:=cal_l19IsMap) (c:=?_); all_goals try simp only [go_sem,simprocAttr]) | ((with_reducible refine evCall_at 76 ?_); refine EvCall.rq (a:=(sp_l02Same (a:=g.shape) (b:=k.tgt) ?_ ?_)) (b:=cal_l02Same) (c:=?_); all_goals try simp only [go_sem,simprocAttr]) | ((with_reducible refine evCall_at 76 ?_); refine EvCall.rq (a:=(sp_l02Same (a:=m.src.shape) (b:=k.src) ?_ ?_)) (b:=cal_l02Same) (c:=?_); all_goals try simp only [go_sem,simprocAttr]) | (refine fun (hc : (_ : Bool) = _)=>?_; try simp only [hcS] at hc))
    all_goals try (first | (with_reducible assumption) | ((try simp only [Cat.F,Cat.T,Cat.I,Cat.C,Fun.O,Fun.A,Cat.Entry,Int.toNat_natCast] at *); omega))
    all_goals try ((first | refine ret_auto ?_ | refine ret_auto' ?_); simp only [go_sem,simprocAttr,Tryz.f54])
    all_goals first | contradiction | exact absurd ⟨Eq.symm (by assumption),Eq.symm (by assumption)⟩ h9
  · repeat' (first | (with_reducible first | refine V_seq ?_ | refine V_skip ?_ | refine V_ret ?_) | ((with_reducible refine V_cond ?_); simp only [go_sem,simprocAttr]) | ((refine V_region (by rw [hn]; rfl) ?_); intro K hK) | ((first | with_reducible refine evOps_n ?_ | ((with_reducible apply evOps_g); rfl)); intro K hK; simp (contextual:=true) only [go_sem,simprocAttr]) | with_reducible refine evOps_nil ?_ | ((with_reducible refine hK _ ?_); clear hK K) | (with_reducible first | refine And.intro ?_ ?_ | refine nxt_n ?_ | refine nxt_r ?_ | refine inR_mk ?_ ?_) | ((with_reducible refine evCall_at 74 ?_); refine EvCall.rq (a:=(sp_l06Is (f:=k) ?_)) (b:=cal_l06Is) (c:=?_); all_goals try simp only [go_sem,simprocAttr]) | ((with_reducible refine evCall_at 82 ?_); refine EvCall.rq (a:=(sp_l19Is (f:=g) ?_)) (b:=cal_l19Is) (c:=?_); all_goals try simp only [go_sem,simprocAttr]) | ((with_reducible refine evCall_at 75 ?_); refine EvCall.rq (a:=(sp_l19IsMap (m:=m) ?_)) (b:=cal_l19IsMap) (c:=?_); all_goals try simp only [go_sem,simprocAttr]) | ((with_reducible refine evCall_at 76 ?_); refine EvCall.rq (a:=(sp_l02Same (a:=g.shape) (b:=k.tgt) ?_ ?_)) (b:=cal_l02Same) (c:=?_); all_goals try simp only [go_sem,simprocAttr]) | ((with_reducible refine evCall_at 76 ?_); refine EvCall.rq (a:=(sp_l02Same (a:=m.src.shape) (b:=k.src) ?_ ?_)) (b:=cal_l02Same) (c:=?_); all_goals try simp only [go_sem,simprocAttr]) | (refine fun (hc : (_ : Bool) = _)=>?_; try simp only [hcS] at hc))
    all_goals try (first | (with_reducible assumption) | ((try simp only [Cat.F,Cat.T,Cat.I,Cat.C,Fun.O,Fun.A,Cat.Entry,Int.toNat_natCast] at *); omega))
    all_goals try ((first | refine ret_auto ?_ | refine ret_auto' ?_); simp only [go_sem,simprocAttr,Tryz.f54])
    all_goals first | contradiction | exact absurd h9.symm (by assumption) | exact absurd h10.symm (by assumption)
theorem cal_spec_RightExtended : Callable Tryz.prog 23:=⟨_,Tryz.func23,rfl,rfl⟩
theorem sp_spec_RightExtended_bad {k : Fun} {g : SF} {m : SM} {c : Int} (hk : FunB k) (hg : SFB g) (hm : SMB m) (h : XCo k g m c) (h0 : c ≠ 0) : Spec Tryz.prog 23 [funV k,sfV g,smV m] [] (.tup [.agg [iv 0,.v (.slice none 0 0),.v (.slice none 0 0),.v (.slice none 0 0),.v (.slice none 0 0),.v (.slice none 0 0),.v (.slice none 0 0),iv 0,.v (.slice none 0 0),.v (.slice none 0 0),.v (.slice none 0 0),.v (.slice none 0 0),.v (.slice none 0 0),.v (.slice none 0 0),.v (.slice none 0 0)],iv c]) []:=by
  have m1:=hm.src
  rcases h with ⟨h6,rfl⟩ | ⟨h6,h7,h8,h9,rfl⟩ | ⟨h6,h7,h8,h9,h10,h11,rfl⟩ | ⟨h6,h7,h8,h9,h10,h11,rfl⟩
  · have sp_l23Ends_loc:=sp_l23Ends hk hg hm (.inl ⟨h6,rfl⟩)
    refine spec_of_V (E:=TE) 0 Tryz.func23 rfl (by simp [Tryz.f23]) fun X hn hX=>?_
    repeat' (first | (with_reducible first | refine V_seq ?_ | refine V_block ?_ | refine V_skip ?_ | refine V_ret ?_ | refine V_exit ?_) | ((with_reducible refine V_cond ?_); simp only [go_sem,simprocAttr]) | ((first | refine V_region (by rw [hn]; rfl) ?_ | refine V_drawn hmix (by rw [hn]; rfl) ?_); intro K hK) | ((first | with_reducible refine evOps_n ?_ | ((with_reducible apply evOps_g); rfl) | with_reducible refine evOpsD_n ?_ | ((with_reducible apply evOpsD_g); rfl)); intro K hK; simp (contextual:=true) only [go_sem,simprocAttr]) | with_reducible refine evOps_nil ?_ | ((with_reducible refine evOpsD_nil ?_ ?_); kernel_rfl) | ((with_reducible refine hK _ ?_); clear hK K) | (with_reducible first | refine And.intro ?_ ?_ | refine nxt_n ?_ | refine nxt_r ?_ | refine nxt_e ?_ | refine blk_n ?_ | refine blk_r ?_ | refine blk_same ?_ | refine blk_other (by decide) ?_ | refine noG_n ?_ | refine noG_r ?_ | refine noG_e ?_ | refine inR_mk ?_ ?_) | ((with_reducible refine evCall_at 54 ?_); refine EvCall.rq (a:=(sp_l23Ends_loc)) (b:=cal_l23Ends) (c:=?_); all_goals try simp only [go_sem,simprocAttr]) | (refine fun (hc : (_ : Bool) = _)=>?_; try simp only [hcS] at hc))
    all_goals try (first | (with_reducible assumption) | ((try simp only [Cat.F,Cat.T,Cat.I,Cat.C,Fun.O,Fun.A,Cat.Entry,Int.toNat_natCast] at *); omega))
    all_goals try ((first | refine ret_auto ?_ | refine ret_auto' ?_); simp only [go_sem,simprocAttr,Tryz.f23])
  · have sp_l23Ends_loc:=sp_l23Ends hk hg hm (.inr (.inl ⟨h6,h7,h8,h9,rfl⟩))
    refine spec_of_V (E:=TE) 0 Tryz.func23 rfl (by simp [Tryz.f23]) fun X hn hX=>?_
    repeat' (first | (with_reducible first | refine V_seq ?_ | refine V_block ?_ | refine V_skip ?_ | refine V_ret ?_ | refine V_exit ?_) | ((with_reducible refine V_cond ?_); simp only [go_sem,simprocAttr]) | ((first | refine V_region (by rw [hn]; rfl) ?_ | refine V_drawn hmix (by rw [hn]; rfl) ?_); intro K hK) | ((first | with_reducible refine evOps_n ?_ | ((with_reducible apply evOps_g); rfl) | with_reducible refine evOpsD_n ?_ | ((with_reducible apply evOpsD_g); rfl)); intro K hK; simp (contextual:=true) only [go_sem,simprocAttr]) | with_reducible refine evOps_nil ?_ | ((with_reducible refine evOpsD_nil ?_ ?_); kernel_rfl) | ((with_reducible refine hK _ ?_); clear hK K) | (with_reducible first | refine And.intro ?_ ?_ | refine nxt_n ?_ | refine nxt_r ?_ | refine nxt_e ?_ | refine blk_n ?_ | refine blk_r ?_ | refine blk_same ?_ | refine blk_other (by decide) ?_ | refine noG_n ?_ | refine noG_r ?_ | refine noG_e ?_ | refine inR_mk ?_ ?_) | ((with_reducible refine evCall_at 54 ?_); refine EvCall.rq (a:=(sp_l23Ends_loc)) (b:=cal_l23Ends) (c:=?_); all_goals try simp only [go_sem,simprocAttr]) | (refine fun (hc : (_ : Bool) = _)=>?_; try simp only [hcS] at hc))
    all_goals try (first | (with_reducible assumption) | ((try simp only [Cat.F,Cat.T,Cat.I,Cat.C,Fun.O,Fun.A,Cat.Entry,Int.toNat_natCast] at *); omega))
    all_goals try ((first | refine ret_auto ?_ | refine ret_auto' ?_); simp only [go_sem,simprocAttr,Tryz.f23])
  · have sp_l23Ends_loc:=sp_l23Ends hk hg hm (.inr (.inr ⟨h6,h7,h8,h9,h10,rfl⟩))
    obtain ⟨w1,w2⟩:=al_w h6 h7 h9
    have al:=alF_b hk hg w2
    refine spec_of_V (E:=TE) 0 Tryz.func23 rfl (by simp [Tryz.f23]) fun X hn hX=>?_
    repeat' (first | (with_reducible first | refine V_seq ?_ | refine V_block ?_ | refine V_skip ?_ | refine V_ret ?_ | refine V_exit ?_) | ((with_reducible refine V_cond ?_); simp only [go_sem,simprocAttr]) | ((first | refine V_region (by rw [hn]; rfl) ?_ | refine V_drawn hmix (by rw [hn]; rfl) ?_); intro K hK) | ((first | with_reducible refine evOps_n ?_ | ((with_reducible apply evOps_g); rfl) | with_reducible refine evOpsD_n ?_ | ((with_reducible apply evOpsD_g); rfl)); intro K hK; simp (contextual:=true) only [go_sem,simprocAttr]) | with_reducible refine evOps_nil ?_ | ((with_reducible refine evOpsD_nil ?_ ?_); kernel_rfl) | ((with_reducible refine hK _ ?_); clear hK K) | (with_reducible first | refine And.intro ?_ ?_ | refine nxt_n ?_ | refine nxt_r ?_ | refine nxt_e ?_ | refine blk_n ?_ | refine blk_r ?_ | refine blk_same ?_ | refine blk_other (by decide) ?_ | refine noG_n ?_ | refine noG_r ?_ | refine noG_e ?_ | refine inR_mk ?_ ?_) | ((with_reducible refine evCall_at 54 ?_); refine EvCall.rq (a:=(sp_l23Ends_loc)) (b:=cal_l23Ends) (c:=?_); all_goals try simp only [go_sem,simprocAttr]) | ((with_reducible refine evCall_at 30 ?_); refine EvCall.rq (a:=(sp_l23Along (k:=k) (g:=g) ?_ ?_ ?_ ?_)) (b:=cal_l23Along) (c:=?_); all_goals try simp only [go_sem,simprocAttr]) | ((with_reducible refine evCall_at 55 ?_); refine EvCall.rq (a:=(sp_l19Same (f:=m.src) (g:=alF k g) ?_ ?_)) (b:=cal_l19Same) (c:=?_); all_goals try simp only [go_sem,simprocAttr]) | (refine fun (hc : (_ : Bool) = _)=>?_; try simp only [hcS] at hc))
    all_goals try (first | (with_reducible assumption) | ((try simp only [Cat.F,Cat.T,Cat.I,Cat.C,Fun.O,Fun.A,Cat.Entry,Int.toNat_natCast] at *); omega))
    all_goals try ((first | refine ret_auto ?_ | refine ret_auto' ?_); simp only [go_sem,simprocAttr,Tryz.f23])
    all_goals first | contradiction | exact absurd (Eq.symm (by assumption)) h11
  · exact absurd rfl h0
theorem sp_spec_RightExtended_far {k : Fun} {g : SF} {m : SM} {y0 : Nat} (hk : FunB k) (hg : SFB g) (hm : SMB m) (ik : IsFun k) (ig : IsSF g) (jm : IsSM m) (hs : k.tgt = g.shape) (he : alF k g = m.src) (hb : ExBad k m.tgt y0) : Spec Tryz.prog 23 [funV k,sfV g,smV m] [] (.tup [.agg [iv 0,.v (.slice none 0 0),.v (.slice none 0 0),.v (.slice none 0 0),.v (.slice none 0 0),.v (.slice none 0 0),.v (.slice none 0 0),iv 0,.v (.slice none 0 0),.v (.slice none 0 0),.v (.slice none 0 0),.v (.slice none 0 0),.v (.slice none 0 0),.v (.slice none 0 0),.v (.slice none 0 0)],iv 3]) []:=by
  have m1:=hm.src
  have he2 : m.tgt.shape = k.src:=by rw [← jm.same,← he]; rfl
  have sp_l23Ends_loc:=sp_l23Ends hk hg hm (.inr (.inr ⟨ik,ig,jm,hs,by rw [← he]; rfl,rfl⟩))
  have sp_l23Right_loc:=sp_l23Right_no hk ik jm.tgt he2 hb
  obtain ⟨w1,w2⟩:=al_w ik ig hs
  have al:=alF_b hk hg w2
  refine spec_of_V (E:=TE) 0 Tryz.func23 rfl (by simp [Tryz.f23]) fun X hn hX=>?_
  repeat' (first | (with_reducible first | refine V_seq ?_ | refine V_block ?_ | refine V_skip ?_ | refine V_ret ?_ | refine V_exit ?_) | ((with_reducible refine V_cond ?_); simp only [go_sem,simprocAttr]) | ((first | refine V_region (by rw [hn]; rfl) ?_ | refine V_drawn hmix (by rw [hn]; rfl) ?_); intro K hK) | ((first | with_reducible refine evOps_n ?_ | ((with_reducible apply evOps_g); rfl) | with_reducible refine evOpsD_n ?_ | ((with_reducible apply evOpsD_g); rfl)); intro K hK; simp (contextual:=true) only [go_sem,simprocAttr]) | with_reducible refine evOps_nil ?_ | ((with_reducible refine evOpsD_nil ?_ ?_); kernel_rfl) | ((with_reducible refine hK _ ?_); clear hK K) | (with_reducible first | refine And.intro ?_ ?_ | refine nxt_n ?_ | refine nxt_r ?_ | refine nxt_e ?_ | refine blk_n ?_ | refine blk_r ?_ | refine blk_same ?_ | refine blk_other (by decide) ?_ | refine noG_n ?_ | refine noG_r ?_ | refine noG_e ?_ | refine inR_mk ?_ ?_) | ((with_reducible refine evCall_at 54 ?_); refine EvCall.rq (a:=(sp_l23Ends_loc)) (b:=cal_l23Ends) (c:=?_); all_goals try simp only [go_sem,simprocAttr]) | ((with_reducible refine evCall_at 30 ?_); refine EvCall.rq (a:=(sp_l23Along (k:=k) (g:=g) ?_ ?_ ?_ ?_)) (b:=cal_l23Along) (c:=?_); all_goals try simp only [go_sem,simprocAttr]) | ((with_reducible refine evCall_at 55 ?_); refine EvCall.rq (a:=(sp_l19Same (f:=m.src) (g:=alF k g) ?_ ?_)) (b:=cal_l19Same) (c:=?_); all_goals try simp only [go_sem,simprocAttr]) | ((with_reducible refine evCall_at 50 ?_); refine EvCall.rq (a:=(sp_l23Right_loc)) (b:=cal_l23Right) (c:=?_); all_goals try simp only [go_sem,simprocAttr]) | (refine fun (hc : (_ : Bool) = _)=>?_; try simp only [hcS] at hc))
  all_goals try (first | (with_reducible assumption) | ((try simp only [Cat.F,Cat.T,Cat.I,Cat.C,Fun.O,Fun.A,Cat.Entry,Int.toNat_natCast] at *); omega))
  all_goals try ((first | refine ret_auto ?_ | refine ret_auto' ?_); simp only [go_sem,simprocAttr,Tryz.f23])
  all_goals first | contradiction | exact absurd he.symm (by assumption) | omega
theorem sp_spec_RightExtended_yes {k : Fun} {g : SF} {m : SM} (hk : FunB k) (hg : SFB g) (hm : SMB m) (ik : IsFun k) (ig : IsSF g) (jm : IsSM m) (hs : k.tgt = g.shape) (he : alF k g = m.src) (hg2 : ∀ y : Nat,(y : Int) < k.tgt.ob → (exT k y).length ≤ 64 ∧ (exL k m.tgt y).length ≤ 16) : Spec Tryz.prog 23 [funV k,sfV g,smV m] [] (.tup [.agg [iv g.shape.ob,.sl 0,.sl 1,.sl 2,.sl 3,.sl 4,.sl 5,iv k.tgt.ob,.sl 6,.sl 7,.sl 8,.sl 9,.sl 10,.sl 11,.sl 12],iv 0])
    [(0,⟨1,.arr (ints g.shape.fr)⟩),(1,⟨1,.arr (ints g.shape.to)⟩),(2,⟨1,.arr (ints g.shape.id)⟩),(3,⟨1,.arr (intss g.shape.co)⟩),(4,⟨1,.arr (ints g.sizes)⟩),(5,⟨1,.arr (intss g.acts)⟩),(6,⟨1,.arr (ints k.tgt.fr)⟩),(7,⟨1,.arr (ints k.tgt.to)⟩),(8,⟨1,.arr (ints k.tgt.id)⟩),(9,⟨1,.arr (intss k.tgt.co)⟩),(10,⟨1,.arr (ints (exF k m.tgt).sizes)⟩),(11,⟨1,.arr (intss (exF k m.tgt).acts)⟩),(12,⟨1,.arr (intss (xeP k g m k.tgt.ob.toNat))⟩)]:=by
  have m1:=hm.src
  have he2 : m.tgt.shape = k.src:=by rw [← jm.same,← he]; rfl
  have jt:=jm.tgt
  have sp_l23Ends_loc:=sp_l23Ends hk hg hm (.inr (.inr ⟨ik,ig,jm,hs,by rw [← he]; rfl,rfl⟩))
  have hr2:=sp_l23Right_yes hk ik jt he2 hg2
  obtain ⟨w1,w2⟩:=al_w ik ig hs
  have al:=alF_b hk hg w2
  obtain ⟨A,hA⟩ : ∃ A,exTs k k.tgt.ob.toNat = A:=⟨_,rfl⟩
  obtain ⟨C,hC⟩ : ∃ C,exLs k m.tgt k.tgt.ob.toNat = C:=⟨_,rfl⟩
  have hAt : ∀ i : Nat,(i : Int) < k.tgt.ob → A.getD i [] = exT k i:=fun i hi=>by rw [← hA]; exact exTs_at (by omega)
  have hCt : ∀ i : Nat,(i : Int) < k.tgt.ob → C.getD i [] = exL k m.tgt i:=fun i hi=>by rw [← hC]; exact exLs_at (by omega)
  have hAl : A.length = k.tgt.ob.toNat:=by rw [← hA]; exact exTs_len
  have hCl : C.length = k.tgt.ob.toNat:=by rw [← hC]; exact exLs_len
  rw [hA,hC] at hr2
  have sp_l23Right_loc:=hr2
  have ob0:=ik.tgt.ob0
  have ob8:=ik.tgt.ob8
  have zl:=ig.szl
  have zw:=ig.szw
  rw [← hs] at zl
  have hxb2:=exF_b ik hk hg2
  have hcl:=xeP_len (k:=k) (g:=g) (m:=m) (n:=k.tgt.ob.toNat)
  have hcr : ∀ i,i < (xeP k g m k.tgt.ob.toNat).length → ((xeP k g m k.tgt.ob.toNat).getD i []).length ≤ 1048576:=fun i hi=>by
    rw [hcl] at hi
    have:=(zw i (by omega)).2
    rw [xeP_at hi,xeR_len]; omega
  have lbl : ∀ (y : Int) (i : Nat),(exT k y).length ≤ 64 → i < (exL k m.tgt y).length → ((exL k m.tgt y).getD i []).length ≤ 1048576:=fun y i h hi=>by have:=exL_len (memL_getD (l:=exL k m.tgt y) hi); omega
  refine spec_of_V (E:=TE) 0 Tryz.func23 rfl (by simp [Tryz.f23]) fun X hn hX=>?_
  repeat' (first | (with_reducible first | refine V_seq ?_ | refine V_block ?_ | refine V_skip ?_ | refine V_ret ?_ | refine V_exit ?_) | ((with_reducible refine V_cond ?_); simp only [go_sem,simprocAttr]) | ((first | refine V_region (by rw [hn]; rfl) ?_ | refine V_drawn hmix (by rw [hn]; rfl) ?_); intro K hK) | ((first | with_reducible refine evOps_n ?_ | ((with_reducible apply evOps_g); rfl) | with_reducible refine evOpsD_n ?_ | ((with_reducible apply evOpsD_g); rfl)); intro K hK; simp (contextual:=true) only [go_sem,simprocAttr]) | with_reducible refine evOps_nil ?_ | ((with_reducible refine evOpsD_nil ?_ ?_); kernel_rfl) | ((with_reducible refine hK _ ?_); clear hK K) | (with_reducible first | refine And.intro ?_ ?_ | refine nxt_n ?_ | refine nxt_r ?_ | refine nxt_e ?_ | refine blk_n ?_ | refine blk_r ?_ | refine blk_same ?_ | refine blk_other (by decide) ?_ | refine noG_n ?_ | refine noG_r ?_ | refine noG_e ?_ | refine inR_mk ?_ ?_) | ((with_reducible refine evCall_at 54 ?_); refine EvCall.rq (a:=(sp_l23Ends_loc)) (b:=cal_l23Ends) (c:=?_); all_goals try simp only [go_sem,simprocAttr]) | ((with_reducible refine evCall_at 30 ?_); refine EvCall.rq (a:=(sp_l23Along (k:=k) (g:=g) ?_ ?_ ?_ ?_)) (b:=cal_l23Along) (c:=?_); all_goals try simp only [go_sem,simprocAttr]) | ((with_reducible refine evCall_at 55 ?_); refine EvCall.rq (a:=(sp_l19Same (f:=m.src) (g:=alF k g) ?_ ?_)) (b:=cal_l19Same) (c:=?_); all_goals try simp only [go_sem,simprocAttr]) | ((with_reducible refine evCall_at 50 ?_); refine EvCall.rq (a:=(sp_l23Right_loc)) (b:=cal_l23Right) (c:=?_); all_goals try simp only [go_sem,simprocAttr]) | (refine fun (hc : (_ : Bool) = _)=>?_; try simp only [hcS] at hc))
  all_goals try (first | (with_reducible assumption) | ((try simp only [Cat.F,Cat.T,Cat.I,Cat.C,Fun.O,Fun.A,Cat.Entry,Int.toNat_natCast] at *); omega))
  all_goals first | contradiction | exact absurd he.symm (by assumption) | skip
  refine V_loopK (G:={y : Nat // y ≤ k.tgt.ob.toNat ∧ (True)}) (fun ⟨y,_⟩=>[(11,iv y),(10,.sl 19),(3,.ptr 0 0),(4,.ptr 1 0),(5,.ptr 2 0),(6,.ptr 3 0),(9,.ptr 18 0),(29,.agg [iv k.src.ob,.sl 4,.sl 5,.sl 6,.sl 7,.sl 8,.sl 9])]) [7] (fun ⟨y,_⟩=>[(19,⟨1,.arr (intss (xeP k g m y))⟩)]) [19] (fun zz=>k.tgt.ob.toNat - zz.1) ⟨0,Nat.zero_le _,by first | trivial | simp⟩ ?_ ?_
  · exact Imp.auto hX (by simp [go_sem,simprocAttr])
  rintro ⟨y,hiy,hwy⟩
  simp only [go_sem,simprocAttr]
  rcases Nat.lt_or_ge y k.tgt.ob.toNat with hlt | hge
  · have ra:=hAt y (by omega)
    have rc:=hCt y (by omega)
    obtain ⟨g3,g4⟩:=hg2 y (by omega)
    have s1:=xeP_succ (k:=k) (g:=g) (m:=m) (n:=y)
    have s2:=xeP_len (k:=k) (g:=g) (m:=m) (n:=y)
    have lb2:=fun i=>lbl y i g3
    have z:=zw y (by omega)
    obtain ⟨q,hq⟩ : ∃ q : Nat,g.sizes.getD y 0 = q:=⟨_,(Int.toNat_of_nonneg z.1).symm⟩
    rw [hq] at z s1
    simp only [Int.toNat_natCast] at s1
    repeat' (first | (with_reducible first | refine V_seq ?_ | refine V_block ?_ | refine V_skip ?_ | refine V_ret ?_ | refine V_exit ?_) | ((with_reducible refine V_cond ?_); simp only [go_sem,simprocAttr]) | ((first | refine V_region (by rw [hn]; rfl) ?_ | refine V_drawn hmix (by rw [hn]; rfl) ?_); intro K hK) | ((first | with_reducible refine evOps_n ?_ | ((with_reducible apply evOps_g); rfl) | with_reducible refine evOpsD_n ?_ | ((with_reducible apply evOpsD_g); rfl)); intro K hK; simp (contextual:=true) only [go_sem,simprocAttr]) | with_reducible refine evOps_nil ?_ | ((with_reducible refine evOpsD_nil ?_ ?_); kernel_rfl) | ((with_reducible refine hK _ ?_); clear hK K) | (with_reducible first | refine And.intro ?_ ?_ | refine nxt_n ?_ | refine nxt_r ?_ | refine nxt_e ?_ | refine blk_n ?_ | refine blk_r ?_ | refine blk_same ?_ | refine blk_other (by decide) ?_ | refine noG_n ?_ | refine noG_r ?_ | refine noG_e ?_ | refine inR_mk ?_ ?_) | (refine fun (hc : (_ : Bool) = _)=>?_; try simp only [hcS] at hc))
    all_goals try (first | (with_reducible assumption) | ((try simp only [Cat.F,Cat.T,Cat.I,Cat.C,Fun.O,Fun.A,Cat.Entry,Int.toNat_natCast] at *); omega))
    refine V_loopK (G:={e : Nat // e ≤ q ∧ (True)}) (fun ⟨e,_⟩=>[(13,iv e),(12,.sl 20),(10,.sl 19),(3,.ptr 0 0),(4,.ptr 1 0),(5,.ptr 2 0),(6,.ptr 3 0),(9,.ptr 18 0),(29,.agg [iv k.src.ob,.sl 4,.sl 5,.sl 6,.sl 7,.sl 8,.sl 9])]) [7,11] (fun ⟨e,_⟩=>[(20,⟨1,.arr (ints (xeR k g m y e))⟩)]) [20] (fun zz=>q - zz.1) ⟨0,Nat.zero_le _,by first | trivial | simp⟩ ?_ ?_
    · exact Imp.auto hX (by simp [go_sem,simprocAttr])
    rintro ⟨e,hie,hwe⟩
    simp only [go_sem,simprocAttr]
    rcases Nat.lt_or_ge e q with hlt2 | hge2
    · have he3 : (e : Int) < g.sizes.getD ((y : Int)).toNat 0:=by rw [Int.toNat_natCast,hq]; omega
      have s3:=xeR_succ (k:=k) (g:=g) (m:=m) (y:=(y : Int)) (n:=e)
      have s4:=xeR_len (k:=k) (g:=g) (m:=m) (y:=(y : Int)) (n:=e)
      have mm:=xe_mem ik ig jm hs.symm he.symm (y:=(y : Int)) (e:=e) (by omega) (by omega) he3
      have ml:=xeN_len (k:=k) (g:=g) (m:=m) (y:=(y : Int)) (e:=e) (Nat.le_refl (exT k y).length)
      repeat' (first | (rw [hq]) | (with_reducible first | refine V_seq ?_ | refine V_block ?_ | refine V_skip ?_ | refine V_ret ?_ | refine V_exit ?_) | ((with_reducible refine V_cond ?_); simp only [go_sem,simprocAttr]) | ((first | refine V_region (by rw [hn]; rfl) ?_ | refine V_drawn hmix (by rw [hn]; rfl) ?_); intro K hK) | ((first | with_reducible refine evOps_n ?_ | ((with_reducible apply evOps_g); rfl) | with_reducible refine evOpsD_n ?_ | ((with_reducible apply evOpsD_g); rfl)); intro K hK; simp (contextual:=true) only [go_sem,simprocAttr]) | with_reducible refine evOps_nil ?_ | ((with_reducible refine evOpsD_nil ?_ ?_); kernel_rfl) | ((with_reducible refine hK _ ?_); clear hK K) | (with_reducible first | refine And.intro ?_ ?_ | refine nxt_n ?_ | refine nxt_r ?_ | refine nxt_e ?_ | refine blk_n ?_ | refine blk_r ?_ | refine blk_same ?_ | refine blk_other (by decide) ?_ | refine noG_n ?_ | refine noG_r ?_ | refine noG_e ?_ | refine inR_mk ?_ ?_) | (refine fun (hc : (_ : Bool) = _)=>?_; try simp only [hcS] at hc))
      all_goals try (first | (with_reducible assumption) | ((try simp only [Cat.F,Cat.T,Cat.I,Cat.C,Fun.O,Fun.A,Cat.Entry,Int.toNat_natCast] at *); omega))
      refine V_loopK (G:={j : Nat // j ≤ (exT k y).length ∧ (True)}) (fun ⟨j,_⟩=>[(15,iv j),(14,.sl 21),(12,.sl 20),(10,.sl 19),(3,.ptr 0 0),(4,.ptr 1 0),(5,.ptr 2 0),(6,.ptr 3 0),(9,.ptr 18 0),(29,.agg [iv k.src.ob,.sl 4,.sl 5,.sl 6,.sl 7,.sl 8,.sl 9])]) [7,11,13] (fun ⟨j,_⟩=>[(21,⟨1,.arr (ints (xeN k g m y e j))⟩)]) [21] (fun zz=>(exT k y).length - zz.1) ⟨0,Nat.zero_le _,by first | trivial | simp⟩ ?_ ?_
      · exact Imp.auto hX (by simp [go_sem,simprocAttr])
      rintro ⟨j,hij,hwj⟩
      simp only [go_sem,simprocAttr]
      rcases Nat.lt_or_ge j (exT k y).length with hlt3 | hge3
      · obtain ⟨x,h,v,e1,e2,q1,q2,q3,e3,q4,q5,q6,q7,q8,q9⟩:=xe_val ik ig jm hs.symm he.symm (y:=(y : Int)) (e:=e) (by omega) (by omega) he3 hlt3
        have s5:=xeN_succ (k:=k) (g:=g) (m:=m) (y:=(y : Int)) (e:=e) hlt3
        have s6:=xeN_len (k:=k) (g:=g) (m:=m) (y:=(y : Int)) (e:=e) (Nat.le_of_lt hlt3)
        have ok:=(seat_x ik hlt3).len
        rw [e1,e2] at s5
        simp only [Int.toNat_natCast] at s5
        rw [e3] at s5
        simp only [Int.toNat_natCast] at s5
        repeat' (first | (rw [ra]) | (rw [e1]) | (rw [e2]) | (rw [e3]) | (with_reducible first | refine V_seq ?_ | refine V_block ?_ | refine V_skip ?_ | refine V_ret ?_ | refine V_exit ?_) | ((with_reducible refine V_cond ?_); simp only [go_sem,simprocAttr]) | ((first | refine V_region (by rw [hn]; rfl) ?_ | refine V_drawn hmix (by rw [hn]; rfl) ?_); intro K hK) | ((first | with_reducible refine evOps_n ?_ | ((with_reducible apply evOps_g); rfl) | with_reducible refine evOpsD_n ?_ | ((with_reducible apply evOpsD_g); rfl)); intro K hK; simp (contextual:=true) only [go_sem,simprocAttr]) | with_reducible refine evOps_nil ?_ | ((with_reducible refine evOpsD_nil ?_ ?_); kernel_rfl) | ((with_reducible refine hK _ ?_); clear hK K) | (with_reducible first | refine And.intro ?_ ?_ | refine nxt_n ?_ | refine nxt_r ?_ | refine nxt_e ?_ | refine blk_n ?_ | refine blk_r ?_ | refine blk_same ?_ | refine blk_other (by decide) ?_ | refine noG_n ?_ | refine noG_r ?_ | refine noG_e ?_ | refine inR_mk ?_ ?_) | (refine fun (hc : (_ : Bool) = _)=>?_; try simp only [hcS] at hc))
        all_goals try (first | (with_reducible assumption) | ((try simp only [Cat.F,Cat.T,Cat.I,Cat.C,Fun.O,Fun.A,Cat.Entry,Int.toNat_natCast] at *); omega))
        · refine ⟨⟨j + 1,by omega,(by trivial)⟩,by simp only; omega,Imp.auto hX (by simp only [go_sem,simprocAttr,s5])⟩
      · have e1 : j = (exT k y).length:=by omega
        subst e1
        repeat' (first | (rw [ra]) | (rw [rc]) | (with_reducible first | refine V_seq ?_ | refine V_block ?_ | refine V_skip ?_ | refine V_ret ?_ | refine V_exit ?_) | ((with_reducible refine V_cond ?_); simp only [go_sem,simprocAttr]) | ((first | refine V_region (by rw [hn]; rfl) ?_ | refine V_drawn hmix (by rw [hn]; rfl) ?_); intro K hK) | ((first | with_reducible refine evOps_n ?_ | ((with_reducible apply evOps_g); rfl) | with_reducible refine evOpsD_n ?_ | ((with_reducible apply evOpsD_g); rfl)); intro K hK; simp (contextual:=true) only [go_sem,simprocAttr]) | with_reducible refine evOps_nil ?_ | ((with_reducible refine evOpsD_nil ?_ ?_); kernel_rfl) | ((with_reducible refine hK _ ?_); clear hK K) | (with_reducible first | refine And.intro ?_ ?_ | refine nxt_n ?_ | refine nxt_r ?_ | refine nxt_e ?_ | refine blk_n ?_ | refine blk_r ?_ | refine blk_same ?_ | refine blk_other (by decide) ?_ | refine noG_n ?_ | refine noG_r ?_ | refine noG_e ?_ | refine inR_mk ?_ ?_) | ((with_reducible refine evCall_at 51 ?_); refine EvCall.rq (a:=(sp_l09Find (l:=exL k m.tgt y) (r:=xeN k g m y e (exT k y).length) ?_ ?_ ?_)) (b:=cal_l09Find) (c:=?_); all_goals try simp only [go_sem,simprocAttr]) | (refine fun (hc : (_ : Bool) = _)=>?_; try simp only [hcS] at hc))
        all_goals try (first | (with_reducible assumption) | ((try simp only [Cat.F,Cat.T,Cat.I,Cat.C,Fun.O,Fun.A,Cat.Entry,Int.toNat_natCast] at *); omega))
        · refine ⟨⟨e + 1,by omega,(by trivial)⟩,by simp only; omega,Imp.auto hX (by simp only [go_sem,simprocAttr,s3])⟩
    · have e1 : e = q:=by omega
      subst e1
      repeat' (first | (rw [hq]) | (with_reducible first | refine V_seq ?_ | refine V_block ?_ | refine V_skip ?_ | refine V_ret ?_ | refine V_exit ?_) | ((with_reducible refine V_cond ?_); simp only [go_sem,simprocAttr]) | ((first | refine V_region (by rw [hn]; rfl) ?_ | refine V_drawn hmix (by rw [hn]; rfl) ?_); intro K hK) | ((first | with_reducible refine evOps_n ?_ | ((with_reducible apply evOps_g); rfl) | with_reducible refine evOpsD_n ?_ | ((with_reducible apply evOpsD_g); rfl)); intro K hK; simp (contextual:=true) only [go_sem,simprocAttr]) | with_reducible refine evOps_nil ?_ | ((with_reducible refine evOpsD_nil ?_ ?_); kernel_rfl) | ((with_reducible refine hK _ ?_); clear hK K) | (with_reducible first | refine And.intro ?_ ?_ | refine nxt_n ?_ | refine nxt_r ?_ | refine nxt_e ?_ | refine blk_n ?_ | refine blk_r ?_ | refine blk_same ?_ | refine blk_other (by decide) ?_ | refine noG_n ?_ | refine noG_r ?_ | refine noG_e ?_ | refine inR_mk ?_ ?_) | (refine fun (hc : (_ : Bool) = _)=>?_; try simp only [hcS] at hc))
      all_goals try (first | (with_reducible assumption) | ((try simp only [Cat.F,Cat.T,Cat.I,Cat.C,Fun.O,Fun.A,Cat.Entry,Int.toNat_natCast] at *); omega))
      · refine ⟨⟨y + 1,by omega,(by trivial)⟩,by simp only; omega,Imp.auto hX (by simp only [go_sem,simprocAttr,s1])⟩
  · have e1 : y = k.tgt.ob.toNat:=by omega
    subst e1
    repeat' (first | (with_reducible first | refine V_seq ?_ | refine V_block ?_ | refine V_skip ?_ | refine V_ret ?_ | refine V_exit ?_) | ((with_reducible refine V_cond ?_); simp only [go_sem,simprocAttr]) | ((first | refine V_region (by rw [hn]; rfl) ?_ | refine V_drawn hmix (by rw [hn]; rfl) ?_); intro K hK) | ((first | with_reducible refine evOps_n ?_ | ((with_reducible apply evOps_g); rfl) | with_reducible refine evOpsD_n ?_ | ((with_reducible apply evOpsD_g); rfl)); intro K hK; simp (contextual:=true) only [go_sem,simprocAttr]) | with_reducible refine evOps_nil ?_ | ((with_reducible refine evOpsD_nil ?_ ?_); kernel_rfl) | ((with_reducible refine hK _ ?_); clear hK K) | (with_reducible first | refine And.intro ?_ ?_ | refine nxt_n ?_ | refine nxt_r ?_ | refine nxt_e ?_ | refine blk_n ?_ | refine blk_r ?_ | refine blk_same ?_ | refine blk_other (by decide) ?_ | refine noG_n ?_ | refine noG_r ?_ | refine noG_e ?_ | refine inR_mk ?_ ?_) | ((with_reducible refine evCall_at 29 ?_); refine EvCall.rq (a:=(sp_l19Make (f:=g) (g:=exF k m.tgt) (p:=xeP k g m k.tgt.ob.toNat) ?_ ?_ ?_ ?_)) (b:=cal_l19Make) (c:=?_); all_goals try simp only [go_sem,simprocAttr]) | (refine fun (hc : (_ : Bool) = _)=>?_; try simp only [hcS] at hc))
    all_goals try (first | (with_reducible assumption) | ((try simp only [Cat.F,Cat.T,Cat.I,Cat.C,Fun.O,Fun.A,Cat.Entry,Int.toNat_natCast] at *); omega))
    · (first | refine ret_auto ?_ | refine ret_auto' ?_); simp only [go_sem,simprocAttr,Tryz.f23]
end Go.Eng
