/- Right extensions by the reference: beyond the limits; RightExtension. -/
import Derived.Test.YtjdjkmgjgghodaaGreatKdx
import Derived.Test.YtjdjkmgjgghodaaGreatB17q
set_option linter.unusedSimpArgs false
set_option linter.unusedVariables false
set_option maxRecDepth 100000
set_option maxHeartbeats 16000000
namespace Go.Eng
open Go Go.Proofs Go.Cats
attribute [local go_sem] exTs_zero exLs_zero exSz_zero exAc_zero exRow_zero one_nilSl5 List.getD_cons_zero List.getD_cons_succ List.set_cons_zero List.set_cons_succ
theorem sp_l23Right_no {k : Fun} {f : SF} {y0 : Nat} (hkb : FunB k) (hk : IsFun k) (hf : IsSF f) (he : f.shape = k.src) (hb : ExBad k f y0) : Spec Tryz.prog 50 [funV k,sfV f] [] (.agg [iv k.tgt.ob,.sl 0,.sl 1,.sl 2,.sl 3,.sl 4,.sl 5,.sl 6,.sl 7,.v (.bool false)])
    [(0,⟨1,.arr (ints k.tgt.fr)⟩),(1,⟨1,.arr (ints k.tgt.to)⟩),(2,⟨1,.arr (ints k.tgt.id)⟩),(3,⟨1,.arr (intss k.tgt.co)⟩),(4,⟨1,.arr (ints (exSz k f y0))⟩),(5,⟨1,.arr (intss [])⟩),(6,⟨1,.arr (intsss (exTs k y0))⟩),(7,⟨1,.arr (intsss (exLs k f y0))⟩)]:=by
  refine spec_of_V (E:=TE) 0 Tryz.func50 rfl (by simp [Tryz.f50]) fun X hn hX=>?_
  have hlt0:=hb.lt
  have hg:=hb.ok
  have ob0:=hk.tgt.ob0
  have ob8:=hk.tgt.ob8
  have m40:=hk.tgt.m40
  have tol:=hk.tgt.tol
  have col:=hk.tgt.col
  have coe:=hk.tgt.coe
  have frw:=hk.tgt.frw
  have tow:=hk.tgt.tow
  have ktb:=hkb.tgt
  repeat' (first | (with_reducible first | refine V_seq ?_ | refine V_block ?_ | refine V_skip ?_ | refine V_ret ?_ | refine V_exit ?_) | ((with_reducible refine V_cond ?_); simp only [go_sem,simprocAttr]) | ((first | refine V_region (by rw [hn]; rfl) ?_ | refine V_drawn hmix (by rw [hn]; rfl) ?_); intro K hK) | ((first | with_reducible refine evOps_n ?_ | ((with_reducible apply evOps_g); rfl) | with_reducible refine evOpsD_n ?_ | ((with_reducible apply evOpsD_g); rfl)); intro K hK; simp (contextual:=true) only [go_sem,simprocAttr]) | with_reducible refine evOps_nil ?_ | ((with_reducible refine evOpsD_nil ?_ ?_); kernel_rfl) | ((with_reducible refine hK _ ?_); clear hK K) | (with_reducible first | refine And.intro ?_ ?_ | refine nxt_n ?_ | refine nxt_r ?_ | refine nxt_e ?_ | refine blk_n ?_ | refine blk_r ?_ | refine blk_same ?_ | refine blk_other (by decide) ?_ | refine noG_n ?_ | refine noG_r ?_ | refine noG_e ?_ | refine inR_mk ?_ ?_) | ((with_reducible refine evCall_at 60 ?_); refine EvCall.rq (a:=(sp_l02Own (c:=k.tgt) ?_)) (b:=cal_l02Own) (c:=?_); all_goals try simp only [go_sem,simprocAttr]) | (refine fun (hc : (_ : Bool) = _)=>?_; try simp only [hcS] at hc))
  all_goals try (first | (with_reducible assumption) | ((try simp only [Cat.F,Cat.T,Cat.I,Cat.C,Fun.O,Fun.A,Cat.Entry,Int.toNat_natCast] at *); omega))
  refine V_imp (Imp.adoptBsss 10 7 _ _ rfl rfl rfl (by rw [hX]; rfl)) ?_
  refine V_imp (Imp.adoptBsss 10 8 _ _ rfl rfl rfl (by rw [hX]; rfl)) ?_
  simp only [List.set_cons_zero,List.set_cons_succ]
  refine V_loopK (G:={y : Nat // y ≤ y0 ∧ (True)}) (fun ⟨y,_⟩=>[(7,iv y),(6,.ptr 10 0)]) [2,3,4,5] (fun ⟨y,_⟩=>[(10,⟨1,.box [iv k.tgt.ob,.sl 4,.sl 5,.sl 6,.sl 7,.sl 8,.sl 9,.sl 11,.sl 12,.v (.bool true)]⟩),(8,⟨1,.arr (ints (exSz k f y))⟩),(11,⟨1,.arr (intsss (exTs k y))⟩),(12,⟨1,.arr (intsss (exLs k f y))⟩)]) [8,10,11,12] (fun zz=>y0 - zz.1) ⟨0,Nat.zero_le _,by first | trivial | simp⟩ ?_ ?_
  · exact Imp.auto hX (by simp [go_sem,simprocAttr])
  rintro ⟨y,hiy,hwy⟩
  simp only [go_sem,simprocAttr]
  rcases Nat.lt_or_ge y y0 with hlt | hge
  · obtain ⟨g1,g2⟩:=hg y (by omega)
    have sp_l23Seats_loc : Spec Tryz.prog 77 [funV k,iv y] [] (.sl 0) [(0,⟨1,.arr (intss (exT k y))⟩)]:=sp_l23Seats hk
    have hli:=sp_l23Lists (y:=(y : Int)) hk hf he g1
    rw [List.take_of_length_le (by show (exL k f y).length ≤ 17; omega)] at hli
    have sp_l23Lists_loc : Spec Tryz.prog 78 [funV k,sfV f,iv y] [] (.sl 0) [(0,⟨1,.arr (intss (exL k f y))⟩)]:=hli
    have s1:=exSz_len (k:=k) (f:=f) (n:=y)
    have s2:=exTs_len (k:=k) (n:=y)
    have s2':=exLs_len (k:=k) (f:=f) (n:=y)
    have s3:=exSz_succ (k:=k) (f:=f) (n:=y)
    have s4:=exTs_succ (k:=k) (n:=y)
    have s5:=exLs_succ (k:=k) (f:=f) (n:=y)
    repeat' (first | (refine V_slName (c:=.region 14 _ _) 8 14 (intss (exL k f y)) rfl rfl (Nat.le_refl 1) ?_; intro x hx1; have hx2:=rawO_ones hx1; simp only [go_sem,simprocAttr]) | (refine V_at 15 (Imp.absorb 8 19 14 _ (.sl 1 (.sl 1 (.v (.int .i64 0)) []) []) ((exLs k f y).map intss) [] (intss (exL k f y)) rfl rfl (Nat.le_refl 1) rfl (by decide)) ?_; simp only [go_sem,simprocAttr,show Dt.sl 1 (.sl 1 (.v (.int .i64 0)) []) [] = intss [] from rfl,rawA_snoc]) | (with_reducible first | refine V_seq ?_ | refine V_block ?_ | refine V_skip ?_ | refine V_ret ?_ | refine V_exit ?_) | ((with_reducible refine V_cond ?_); simp only [go_sem,simprocAttr]) | ((first | refine V_region (by rw [hn]; rfl) ?_ | refine V_drawn hmix (by rw [hn]; rfl) ?_); intro K hK) | ((first | with_reducible refine evOps_n ?_ | ((with_reducible apply evOps_g); rfl) | with_reducible refine evOpsD_n ?_ | ((with_reducible apply evOpsD_g); rfl)); intro K hK; simp (contextual:=true) only [go_sem,simprocAttr]) | with_reducible refine evOps_nil ?_ | ((with_reducible refine evOpsD_nil ?_ ?_); kernel_rfl) | ((with_reducible refine hK _ ?_); clear hK K) | (with_reducible first | refine And.intro ?_ ?_ | refine nxt_n ?_ | refine nxt_r ?_ | refine nxt_e ?_ | refine blk_n ?_ | refine blk_r ?_ | refine blk_same ?_ | refine blk_other (by decide) ?_ | refine noG_n ?_ | refine noG_r ?_ | refine noG_e ?_ | refine inR_mk ?_ ?_) | ((with_reducible refine evCall_at 77 ?_); refine EvCall.rq (a:=(sp_l23Seats_loc)) (b:=cal_l23Seats) (c:=?_); all_goals try simp only [go_sem,simprocAttr]) | ((with_reducible refine evCall_at 78 ?_); refine EvCall.rq (a:=(sp_l23Lists_loc)) (b:=cal_l23Lists) (c:=?_); all_goals try simp only [go_sem,simprocAttr]) | (refine fun (hc : (_ : Bool) = _)=>?_; try simp only [hcS] at hc))
    all_goals try (first | (with_reducible assumption) | ((try simp only [Cat.F,Cat.T,Cat.I,Cat.C,Fun.O,Fun.A,Cat.Entry,Int.toNat_natCast] at *); omega))
    · refine ⟨⟨y + 1,by omega,(by trivial)⟩,by simp only; omega,Imp.auto hX (by simp only [go_sem,simprocAttr,s3,s4,s5])⟩
  · have e1 : y = y0:=by omega
    subst e1
    have sp_l23Seats_loc : Spec Tryz.prog 77 [funV k,iv y] [] (.sl 0) [(0,⟨1,.arr (intss (exT k y))⟩)]:=sp_l23Seats hk
    rcases hb.bad with hS | ⟨hS,hD⟩
    · repeat' (first | (with_reducible first | refine V_seq ?_ | refine V_block ?_ | refine V_skip ?_ | refine V_ret ?_ | refine V_exit ?_) | ((with_reducible refine V_cond ?_); simp only [go_sem,simprocAttr]) | ((first | refine V_region (by rw [hn]; rfl) ?_ | refine V_drawn hmix (by rw [hn]; rfl) ?_); intro K hK) | ((first | with_reducible refine evOps_n ?_ | ((with_reducible apply evOps_g); rfl) | with_reducible refine evOpsD_n ?_ | ((with_reducible apply evOpsD_g); rfl)); intro K hK; simp (contextual:=true) only [go_sem,simprocAttr]) | with_reducible refine evOps_nil ?_ | ((with_reducible refine evOpsD_nil ?_ ?_); kernel_rfl) | ((with_reducible refine hK _ ?_); clear hK K) | (with_reducible first | refine And.intro ?_ ?_ | refine nxt_n ?_ | refine nxt_r ?_ | refine nxt_e ?_ | refine blk_n ?_ | refine blk_r ?_ | refine blk_same ?_ | refine blk_other (by decide) ?_ | refine noG_n ?_ | refine noG_r ?_ | refine noG_e ?_ | refine inR_mk ?_ ?_) | ((with_reducible refine evCall_at 77 ?_); refine EvCall.rq (a:=(sp_l23Seats_loc)) (b:=cal_l23Seats) (c:=?_); all_goals try simp only [go_sem,simprocAttr]) | (refine fun (hc : (_ : Bool) = _)=>?_; try simp only [hcS] at hc))
      all_goals try (first | (with_reducible assumption) | ((try simp only [Cat.F,Cat.T,Cat.I,Cat.C,Fun.O,Fun.A,Cat.Entry,Int.toNat_natCast] at *); omega))
      all_goals try ((first | refine ret_auto ?_ | refine ret_auto' ?_); simp only [go_sem,simprocAttr,Tryz.f50])
      all_goals first | contradiction | omega
    · have hli:=sp_l23Lists (y:=(y : Int)) hk hf he hS
      obtain ⟨M,hM⟩ : ∃ M,(genL f (rOb k y) (rJ k (rSeats k y k.obs.length))).take 17 = M:=⟨_,rfl⟩
      have hML : M.length = 17:=by
        rw [← hM,List.length_take]
        have : 16 < (genL f (rOb k y) (rJ k (rSeats k y k.obs.length))).length:=hD
        omega
      rw [hM] at hli
      have sp_l23Lists_loc : Spec Tryz.prog 78 [funV k,sfV f,iv y] [] (.sl 0) [(0,⟨1,.arr (intss M)⟩)]:=hli
      repeat' (first | (with_reducible first | refine V_seq ?_ | refine V_block ?_ | refine V_skip ?_ | refine V_ret ?_ | refine V_exit ?_) | ((with_reducible refine V_cond ?_); simp only [go_sem,simprocAttr]) | ((first | refine V_region (by rw [hn]; rfl) ?_ | refine V_drawn hmix (by rw [hn]; rfl) ?_); intro K hK) | ((first | with_reducible refine evOps_n ?_ | ((with_reducible apply evOps_g); rfl) | with_reducible refine evOpsD_n ?_ | ((with_reducible apply evOpsD_g); rfl)); intro K hK; simp (contextual:=true) only [go_sem,simprocAttr]) | with_reducible refine evOps_nil ?_ | ((with_reducible refine evOpsD_nil ?_ ?_); kernel_rfl) | ((with_reducible refine hK _ ?_); clear hK K) | (with_reducible first | refine And.intro ?_ ?_ | refine nxt_n ?_ | refine nxt_r ?_ | refine nxt_e ?_ | refine blk_n ?_ | refine blk_r ?_ | refine blk_same ?_ | refine blk_other (by decide) ?_ | refine noG_n ?_ | refine noG_r ?_ | refine noG_e ?_ | refine inR_mk ?_ ?_) | ((with_reducible refine evCall_at 77 ?_); refine EvCall.rq (a:=(sp_l23Seats_loc)) (b:=cal_l23Seats) (c:=?_); all_goals try simp only [go_sem,simprocAttr]) | ((with_reducible refine evCall_at 78 ?_); refine EvCall.rq (a:=(sp_l23Lists_loc)) (b:=cal_l23Lists) (c:=?_); all_goals try simp only [go_sem,simprocAttr]) | (refine fun (hc : (_ : Bool) = _)=>?_; try simp only [hcS] at hc))
      all_goals try (first | (with_reducible assumption) | ((try simp only [Cat.F,Cat.T,Cat.I,Cat.C,Fun.O,Fun.A,Cat.Entry,Int.toNat_natCast] at *); omega))
      all_goals try ((first | refine ret_auto ?_ | refine ret_auto' ?_); simp only [go_sem,simprocAttr,Tryz.f50])
      all_goals first | contradiction | omega
theorem exF_b {k : Fun} {f : SF} (hk : IsFun k) (hkb : FunB k) (hg : ∀ y : Nat,(y : Int) < k.tgt.ob → (exT k y).length ≤ 64 ∧ (exL k f y).length ≤ 16) : SFB (exF k f):=by
  refine ⟨hkb.tgt,?_,?_,fun a ha=>?_⟩
  · show (exSz k f k.tgt.ob.toNat).length ≤ _
    have:=hk.tgt.ob8
    rw [exSz_len]; omega
  · show (exAc k f k.tgt.fr.length).length ≤ _
    have:=hk.tgt.m40
    rw [exAc_len]; omega
  · have ha' : a < k.tgt.fr.length:=by have h : a < (exAc k f k.tgt.fr.length).length:=ha; rwa [exAc_len] at h
    have e : (exF k f).acts.getD a [] = exRow k f a (exL k f (k.tgt.fr.getD a 0)).length:=by
      show (exAc k f k.tgt.fr.length).getD a [] = _
      unfold exAc
      rw [List.getD_eq_getElem?_getD,List.getElem?_map,List.getElem?_range ha']; rfl
    have f1:=hk.tgt.frw a ha'
    obtain ⟨y1,hy1⟩ : ∃ y1 : Nat,k.tgt.fr.getD a 0 = y1:=⟨_,(Int.toNat_of_nonneg f1.1).symm⟩
    have:=(hg y1 (by omega)).2
    have h2:=exRow_len (k:=k) (f:=f) (b:=a) (n:=(exL k f (k.tgt.fr.getD a 0)).length)
    rw [e]
    rw [hy1] at h2 ⊢
    omega
end Go.Eng
