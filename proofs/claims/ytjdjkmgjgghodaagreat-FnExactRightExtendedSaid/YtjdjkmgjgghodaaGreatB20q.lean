/- Counits of right extensions by the program; by the reference. -/
import Derived.Test.YtjdjkmgjgghodaaGreatKdx
import Derived.Test.YtjdjkmgjgghodaaGreatB18q
import Derived.Test.YtjdjkmgjgghodaaGreatB19q
set_option linter.unusedSimpArgs false
set_option linter.unusedVariables false
set_option maxRecDepth 100000
set_option maxHeartbeats 16000000
namespace Go.Eng
open Go Go.Proofs Go.Cats
theorem exF_shape {k : Fun} {f : SF} : (exF k f).shape = k.tgt:=rfl
theorem alF_shape {k : Fun} {g : SF} : (alF k g).shape = k.src:=rfl
attribute [local go_sem] exF_shape alF_shape alSz_zero alAc_zero cuR_zero one_nilSl5 List.getD_cons_zero List.getD_cons_succ List.set_cons_zero List.set_cons_succ goneL
theorem alF_b {k : Fun} {g : SF} (hk : FunB k) (hg : SFB g) (ha : Within k.ars g.acts.length) : SFB (alF k g):=by
  refine ⟨hk.src,?_,?_,fun a ha1=>?_⟩
  · show (alSz k g k.obs.length).length ≤ _
    have:=hk.obs
    rw [alSz_len (Nat.le_refl _)]; omega
  · show (alAc k g k.ars.length).length ≤ _
    have:=hk.ars
    rw [alAc_len (Nat.le_refl _)]; omega
  · have ha' : a < k.ars.length:=by have h : a < (alAc k g k.ars.length).length:=ha1; rwa [alAc_len (Nat.le_refl _)] at h
    have:=ha a ha'
    rw [alAc_at ha']
    exact hg.row _ (by omega)
theorem cal_l23Along : Callable Tryz.prog 30:=⟨_,Tryz.func30,rfl,rfl⟩
theorem sp_l23Along {k : Fun} {g : SF} (hkb : FunB k) (hgb : SFB g) (ho : Within k.obs g.sizes.length) (ha : Within k.ars g.acts.length) : Spec Tryz.prog 30 [funV k,sfV g] [] (.agg [iv k.src.ob,.sl 0,.sl 1,.sl 2,.sl 3,.sl 4,.sl 5]) [(0,⟨1,.arr (ints k.src.fr)⟩),(1,⟨1,.arr (ints k.src.to)⟩),(2,⟨1,.arr (ints k.src.id)⟩),(3,⟨1,.arr (intss k.src.co)⟩),(4,⟨1,.arr (ints (alF k g).sizes)⟩),(5,⟨1,.arr (intss (alF k g).acts)⟩)]:=by
  refine spec_of_V (E:=TE) 0 Tryz.func30 rfl (by simp [Tryz.f30]) fun X hn hX=>?_
  obtain ⟨b1,b2,b3,b4⟩:=hkb
  obtain ⟨c1,c2,c3,c4⟩:=hgb
  have hZ : (alF k g).sizes = alSz k g k.obs.length:=rfl
  have hC : (alF k g).acts = alAc k g k.ars.length:=rfl
  rw [hZ,hC]
  repeat' (first | (with_reducible first | refine V_seq ?_ | refine V_block ?_ | refine V_skip ?_ | refine V_ret ?_ | refine V_exit ?_) | ((with_reducible refine V_cond ?_); simp only [go_sem,simprocAttr]) | ((first | refine V_region (by rw [hn]; rfl) ?_ | refine V_drawn hmix (by rw [hn]; rfl) ?_); intro K hK) | ((first | with_reducible refine evOps_n ?_ | ((with_reducible apply evOps_g); rfl) | with_reducible refine evOpsD_n ?_ | ((with_reducible apply evOpsD_g); rfl)); intro K hK; simp (contextual:=true) only [go_sem,simprocAttr]) | with_reducible refine evOps_nil ?_ | ((with_reducible refine evOpsD_nil ?_ ?_); kernel_rfl) | ((with_reducible refine hK _ ?_); clear hK K) | (with_reducible first | refine And.intro ?_ ?_ | refine nxt_n ?_ | refine nxt_r ?_ | refine nxt_e ?_ | refine blk_n ?_ | refine blk_r ?_ | refine blk_same ?_ | refine blk_other (by decide) ?_ | refine noG_n ?_ | refine noG_r ?_ | refine noG_e ?_ | refine inR_mk ?_ ?_) | ((with_reducible refine evCall_at 60 ?_); refine EvCall.rq (a:=(sp_l02Own (c:=k.src) ?_)) (b:=cal_l02Own) (c:=?_); all_goals try simp only [go_sem,simprocAttr]) | (refine fun (hc : (_ : Bool) = _)=>?_; try simp only [hcS] at hc))
  all_goals try (first | (with_reducible assumption) | ((try simp only [Cat.F,Cat.T,Cat.I,Cat.C,Fun.O,Fun.A,Cat.Entry,Int.toNat_natCast] at *); omega))
  refine V_loopK (G:={x : Nat // x ≤ k.obs.length ∧ (True)}) (fun ⟨x,_⟩=>[(6,iv x),(2,.ptr 0 0),(3,.ptr 1 0),(4,.ptr 2 0),(5,.ptr 9 0)]) [] (fun ⟨x,_⟩=>[(9,⟨1,.box [iv k.src.ob,.sl 3,.sl 4,.sl 5,.sl 6,.sl 7,.sl 8]⟩),(7,⟨1,.arr (ints (alSz k g x))⟩)]) [7,9] (fun zz=>k.obs.length - zz.1) ⟨0,Nat.zero_le _,by first | trivial | simp⟩ ?_ ?_
  · exact Imp.auto hX (by simp [go_sem,simprocAttr])
  rintro ⟨x,hix,hwx⟩
  simp only [go_sem,simprocAttr]
  rcases Nat.lt_or_ge x k.obs.length with hlt | hge
  · have h1:=ho x hlt
    have h3:=alSz_succ (k:=k) (g:=g) (n:=x)
    have h4:=alSz_len (k:=k) (g:=g) (n:=x)
    repeat' (first | (with_reducible first | refine V_seq ?_ | refine V_block ?_ | refine V_skip ?_ | refine V_ret ?_ | refine V_exit ?_) | ((with_reducible refine V_cond ?_); simp only [go_sem,simprocAttr]) | ((first | refine V_region (by rw [hn]; rfl) ?_ | refine V_drawn hmix (by rw [hn]; rfl) ?_); intro K hK) | ((first | with_reducible refine evOps_n ?_ | ((with_reducible apply evOps_g); rfl) | with_reducible refine evOpsD_n ?_ | ((with_reducible apply evOpsD_g); rfl)); intro K hK; simp (contextual:=true) only [go_sem,simprocAttr]) | with_reducible refine evOps_nil ?_ | ((with_reducible refine evOpsD_nil ?_ ?_); kernel_rfl) | ((with_reducible refine hK _ ?_); clear hK K) | (with_reducible first | refine And.intro ?_ ?_ | refine nxt_n ?_ | refine nxt_r ?_ | refine nxt_e ?_ | refine blk_n ?_ | refine blk_r ?_ | refine blk_same ?_ | refine blk_other (by decide) ?_ | refine noG_n ?_ | refine noG_r ?_ | refine noG_e ?_ | refine inR_mk ?_ ?_) | (refine fun (hc : (_ : Bool) = _)=>?_; try simp only [hcS] at hc))
    all_goals try (first | (with_reducible assumption) | ((try simp only [Cat.F,Cat.T,Cat.I,Cat.C,Fun.O,Fun.A,Cat.Entry,Int.toNat_natCast] at *); omega))
    · refine ⟨⟨x + 1,by omega,(by trivial)⟩,by simp only; omega,Imp.auto hX (by simp only [go_sem,simprocAttr,h3 (show x < k.obs.length by omega)])⟩
  · have e1 : x = k.obs.length:=by omega
    subst e1
    repeat' (first | (with_reducible first | refine V_seq ?_ | refine V_block ?_ | refine V_skip ?_ | refine V_ret ?_ | refine V_exit ?_) | ((with_reducible refine V_cond ?_); simp only [go_sem,simprocAttr]) | ((first | refine V_region (by rw [hn]; rfl) ?_ | refine V_drawn hmix (by rw [hn]; rfl) ?_); intro K hK) | ((first | with_reducible refine evOps_n ?_ | ((with_reducible apply evOps_g); rfl) | with_reducible refine evOpsD_n ?_ | ((with_reducible apply evOpsD_g); rfl)); intro K hK; simp (contextual:=true) only [go_sem,simprocAttr]) | with_reducible refine evOps_nil ?_ | ((with_reducible refine evOpsD_nil ?_ ?_); kernel_rfl) | ((with_reducible refine hK _ ?_); clear hK K) | (with_reducible first | refine And.intro ?_ ?_ | refine nxt_n ?_ | refine nxt_r ?_ | refine nxt_e ?_ | refine blk_n ?_ | refine blk_r ?_ | refine blk_same ?_ | refine blk_other (by decide) ?_ | refine noG_n ?_ | refine noG_r ?_ | refine noG_e ?_ | refine inR_mk ?_ ?_) | (refine fun (hc : (_ : Bool) = _)=>?_; try simp only [hcS] at hc))
    all_goals try (first | (with_reducible assumption) | ((try simp only [Cat.F,Cat.T,Cat.I,Cat.C,Fun.O,Fun.A,Cat.Entry,Int.toNat_natCast] at *); omega))
    refine V_loopK (G:={b : Nat // b ≤ k.ars.length ∧ (True)}) (fun ⟨b,_⟩=>[(7,iv b),(2,.ptr 0 0),(3,.ptr 1 0),(4,.ptr 2 0),(5,.ptr 9 0)]) [] (fun ⟨b,_⟩=>[(9,⟨1,.box [iv k.src.ob,.sl 3,.sl 4,.sl 5,.sl 6,.sl 7,.sl 8]⟩),(8,⟨1,.arr (intss (alAc k g b))⟩)]) [8,9] (fun zz=>k.ars.length - zz.1) ⟨0,Nat.zero_le _,by first | trivial | simp⟩ ?_ ?_
    · exact Imp.auto hX (by simp [go_sem,simprocAttr])
    rintro ⟨b,hib,hwb⟩
    simp only [go_sem,simprocAttr]
    have h1:=ha b
    have h2:=c4 (k.ars.getD b 0).toNat
    have h3:=alAc_succ (k:=k) (g:=g) (n:=b)
    have h4:=alAc_len (k:=k) (g:=g) (n:=b)
    repeat' (first | (with_reducible first | refine V_seq ?_ | refine V_block ?_ | refine V_skip ?_ | refine V_ret ?_ | refine V_exit ?_) | ((with_reducible refine V_cond ?_); simp only [go_sem,simprocAttr]) | ((first | refine V_region (by rw [hn]; rfl) ?_ | refine V_drawn hmix (by rw [hn]; rfl) ?_); intro K hK) | ((first | with_reducible refine evOps_n ?_ | ((with_reducible apply evOps_g); rfl) | with_reducible refine evOpsD_n ?_ | ((with_reducible apply evOpsD_g); rfl)); intro K hK; simp (contextual:=true) only [go_sem,simprocAttr]) | with_reducible refine evOps_nil ?_ | ((with_reducible refine evOpsD_nil ?_ ?_); kernel_rfl) | ((with_reducible refine hK _ ?_); clear hK K) | (with_reducible first | refine And.intro ?_ ?_ | refine nxt_n ?_ | refine nxt_r ?_ | refine nxt_e ?_ | refine blk_n ?_ | refine blk_r ?_ | refine blk_same ?_ | refine blk_other (by decide) ?_ | refine noG_n ?_ | refine noG_r ?_ | refine noG_e ?_ | refine inR_mk ?_ ?_) | ((with_reducible refine evCall_at 61 ?_); refine EvCall.rq (a:=(sp_l01Own ?_)) (b:=cal_l01Own) (c:=?_); all_goals try simp only [go_sem,simprocAttr]) | (refine fun (hc : (_ : Bool) = _)=>?_; try simp only [hcS] at hc))
    all_goals try (first | (with_reducible assumption) | ((try simp only [Cat.F,Cat.T,Cat.I,Cat.C,Fun.O,Fun.A,Cat.Entry,Int.toNat_natCast] at *); omega))
    · refine ⟨⟨b + 1,by omega,(by trivial)⟩,by simp only; omega,Imp.auto hX (by simp only [go_sem,simprocAttr,h3 (show b < k.ars.length by omega)])⟩
    · (first | refine ret_auto ?_ | refine ret_auto' ?_); simp only [go_sem,simprocAttr,Tryz.f30]
      rw [show b = k.ars.length by omega]
end Go.Eng
