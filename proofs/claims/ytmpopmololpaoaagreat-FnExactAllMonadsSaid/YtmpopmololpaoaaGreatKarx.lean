/- Several texts in one: U01, U02. -/
import Derived.Test.YtmpopmololpaoaaGreatC18q
import Derived.Test.YtmpopmololpaoaaGreatKaqx
set_option linter.unusedSimpArgs false
set_option linter.unusedVariables false
set_option maxRecDepth 100000
set_option maxHeartbeats 16000000
section
namespace Go.Eng
open Go Go.Proofs Go.Cats
attribute [local go_sem] List.set_cons_zero List.set_cons_succ
theorem cal_markMonadS : Callable Tryz.prog 47:=⟨_,Tryz.func47,rfl,rfl⟩
theorem sp_markMonadS {F : List Mon} {k : Int} (hk : 0 ≤ k) (hl : k + mkMn F ≤ 9223372036854775807) (hb : ∀ f ∈ F,FunB f.on ∧ f.unit.length ≤ 1048576 ∧ f.join.length ≤ 1048576) (hF : F.length ≤ 1048576) : Spec Tryz.prog 47 [.sl 0,iv k] [(0,⟨1,.arr (monsD F)⟩)] (iv (k + mkMn F)) [(0,⟨1,.arr (monsD (mkMs k F))⟩)]:=by
  refine spec_of_V (E:=TE) 1 Tryz.func47 rfl (by simp [Tryz.f47]) fun X hn hX=>?_
  repeat' (first|(with_reducible first|refine V_seq ?_|refine V_block ?_|refine V_skip ?_|refine V_ret ?_|refine V_exit ?_)|((with_reducible refine V_cond ?_);simp only [go_sem,simprocAttr])|((refine V_region (by rw [hn];rfl) ?_);intro K hK)|((first|with_reducible refine evOps_n ?_|((with_reducible apply evOps_g);rfl));intro K hK;simp (contextual:=true) only [go_sem,simprocAttr])|with_reducible refine evOps_nil ?_|((with_reducible refine hK _ ?_);clear hK K)|(with_reducible first|refine And.intro ?_ ?_|refine nxt_n ?_|refine nxt_r ?_|refine nxt_e ?_|refine blk_n ?_|refine blk_r ?_|refine blk_same ?_|refine blk_other (by decide) ?_|refine noG_n ?_|refine noG_r ?_|refine noG_e ?_|refine inR_mk ?_ ?_)|(refine fun (hc : (_ : Bool) = _)=>?_;try simp only [hcS] at hc))
  all_goals try exact om_
  refine V_loopK (G:={i : Nat // i ≤ F.length ∧ (True)}) (fun ⟨i,_⟩=>[(1,iv (k + mkMn (F.take i))),(5,iv i)]) [0,4] (fun ⟨i,_⟩=>[(0,⟨1,.arr (monsD (mkMs k (F.take i) ++ F.drop i))⟩)]) [0] (fun zz=>F.length - zz.1) ⟨0,Nat.zero_le _,by simp [mkMs,mkMn]⟩ ?_ ?_
  · exact Imp.au hX
  rintro ⟨i,hii,hwi⟩
  simp only [go_sem,simprocAttr]
  rcases Nat.lt_or_ge i F.length with hlt | hge
  · have e1:=mkMs_take k hlt
    have e2:=mkMn_take hlt
    have e3:=mkMn_le F (i + 1)
    have hfb:=hb (F.getD i default) (getD_mem hlt)
    have hdr : F.drop i = F.getD i default :: F.drop (i + 1):=by
      rw [List.drop_eq_getElem_cons hlt,List.getD_eq_getElem?_getD,List.getElem?_eq_getElem hlt];rfl
    have hA : (mkMs k (F.take i)).length = i:=by rw [mkMs_len,List.length_take];omega
    have hB : i + 1 + (F.drop (i + 1)).length = F.length:=by rw [List.length_drop];omega
    rw [hdr]
    rw [e2] at e3
    have e4 : mkMs k (F.take (i + 1)) ++ F.drop (i + 1) = mkMs k (F.take i) ++ mkM1 (k + mkMn (F.take i)) (F.getD i default) :: F.drop (i + 1):=by rw [e1,List.append_assoc];rfl
    generalize F.getD i default = f at *
    generalize mkMs k (F.take i) = A at *
    obtain ⟨B,hBe⟩ : ∃ B,F.drop (i + 1) = B:=⟨_,rfl⟩
    rw [hBe] at hB hdr e4 ⊢
    generalize mkMn (F.take i) = n at *
    subst hA
    obtain ⟨⟨⟨so,sf,st,si,sc⟩,⟨to_,tf,tt,ti,tc⟩,q,r⟩,u,v⟩:=f
    rw [← midM_mon]
    simp only [monC]
    obtain ⟨⟨⟨b1,b2,b3,b4,b5,b6,b7⟩,⟨g1,g2,g3,g4,g5,g6,g7⟩,b8,b9⟩,b10,b11⟩:=hfb
    simp only [Mon.mkn',Go.Cats.Fun.mkn,Go.Cats.Cat.mkn] at *
    repeat' (first|(refine V_at 7 (Imp.mimClose 0 1 1 _ _ _ rfl rfl (by decide) (Nat.le_of_ble_eq_true rfl) rfl) ?_;simp only [go_sem,simprocAttr])|(refine V_at 6 (Imp.mimOpen 0 1 _ _ rfl (Nat.succ_le_succ (Nat.zero_le _)) (Nat.le_of_ble_eq_true rfl) rfl rfl rfl rfl) ?_;simp only [go_sem,simprocAttr])|(refine V_at 8 (Imp.mimClose 0 2 2 _ _ _ rfl rfl (by decide) (Nat.le_of_ble_eq_true rfl) rfl) ?_;simp only [go_sem,simprocAttr])|(refine V_at 7 (Imp.mimOpen 0 2 _ _ rfl (Nat.succ_le_succ (Nat.zero_le _)) (Nat.le_of_ble_eq_true rfl) rfl rfl rfl rfl) ?_;simp only [go_sem,simprocAttr])|(refine V_at 9 (Imp.mimClose 0 3 3 _ _ _ rfl rfl (by decide) (Nat.le_of_ble_eq_true rfl) rfl) ?_;simp only [go_sem,simprocAttr])|(refine V_at 8 (Imp.mimOpen 0 3 _ _ rfl (Nat.succ_le_succ (Nat.zero_le _)) (Nat.le_of_ble_eq_true rfl) rfl rfl rfl rfl) ?_;simp only [go_sem,simprocAttr])|(refine V_at 10 (Imp.mimClose 0 4 4 _ _ _ rfl rfl (by decide) (Nat.le_of_ble_eq_true rfl) rfl) ?_;simp only [go_sem,simprocAttr])|(refine V_at 9 (Imp.mimOpen 0 4 _ _ rfl (Nat.succ_le_succ (Nat.zero_le _)) (Nat.le_of_ble_eq_true rfl) rfl rfl rfl rfl) ?_;simp only [go_sem,simprocAttr])|(refine V_at 13 (Imp.mimClose 0 5 6 _ _ _ rfl rfl (by decide) (Nat.le_of_ble_eq_true rfl) rfl) ?_;simp only [go_sem,simprocAttr])|(refine V_at 12 (Imp.mimOpen 0 6 _ _ rfl (Nat.succ_le_succ (Nat.zero_le _)) (Nat.le_of_ble_eq_true rfl) rfl rfl rfl rfl) ?_;simp only [go_sem,simprocAttr])|(refine V_at 14 (Imp.mimClose 0 6 7 _ _ _ rfl rfl (by decide) (Nat.le_of_ble_eq_true rfl) rfl) ?_;simp only [go_sem,simprocAttr])|(refine V_at 13 (Imp.mimOpen 0 7 _ _ rfl (Nat.succ_le_succ (Nat.zero_le _)) (Nat.le_of_ble_eq_true rfl) rfl rfl rfl rfl) ?_;simp only [go_sem,simprocAttr])|(refine V_at 15 (Imp.mimClose 0 7 8 _ _ _ rfl rfl (by decide) (Nat.le_of_ble_eq_true rfl) rfl) ?_;simp only [go_sem,simprocAttr])|(refine V_at 14 (Imp.mimOpen 0 8 _ _ rfl (Nat.succ_le_succ (Nat.zero_le _)) (Nat.le_of_ble_eq_true rfl) rfl rfl rfl rfl) ?_;simp only [go_sem,simprocAttr])|(refine V_at 16 (Imp.mimClose 0 8 9 _ _ _ rfl rfl (by decide) (Nat.le_of_ble_eq_true rfl) rfl) ?_;simp only [go_sem,simprocAttr])|(refine V_at 15 (Imp.mimOpen 0 9 _ _ rfl (Nat.succ_le_succ (Nat.zero_le _)) (Nat.le_of_ble_eq_true rfl) rfl rfl rfl rfl) ?_;simp only [go_sem,simprocAttr])|(refine V_at 17 (Imp.mimClose 0 9 10 _ _ _ rfl rfl (by decide) (Nat.le_of_ble_eq_true rfl) rfl) ?_;simp only [go_sem,simprocAttr])|(refine V_at 16 (Imp.mimOpen 0 10 _ _ rfl (Nat.succ_le_succ (Nat.zero_le _)) (Nat.le_of_ble_eq_true rfl) rfl rfl rfl rfl) ?_;simp only [go_sem,simprocAttr])|(refine V_at 18 (Imp.mimClose 0 10 11 _ _ _ rfl rfl (by decide) (Nat.le_of_ble_eq_true rfl) rfl) ?_;simp only [go_sem,simprocAttr])|(refine V_at 17 (Imp.mimOpen 0 11 _ _ rfl (Nat.succ_le_succ (Nat.zero_le _)) (Nat.le_of_ble_eq_true rfl) rfl rfl rfl rfl) ?_;simp only [go_sem,simprocAttr])|(refine V_at 19 (Imp.mimClose 0 11 12 _ _ _ rfl rfl (by decide) (Nat.le_of_ble_eq_true rfl) rfl) ?_;simp only [go_sem,simprocAttr])|(refine V_at 18 (Imp.mimOpen 0 12 _ _ rfl (Nat.succ_le_succ (Nat.zero_le _)) (Nat.le_of_ble_eq_true rfl) rfl rfl rfl rfl) ?_;simp only [go_sem,simprocAttr])|(refine V_at 3 (Imp.mimClose 0 12 13 _ _ _ rfl rfl (by decide) (Nat.le_of_ble_eq_true rfl) rfl) ?_;simp only [go_sem,simprocAttr])|(refine V_at 19 (Imp.mimOpen 0 13 _ _ rfl (Nat.succ_le_succ (Nat.zero_le _)) (Nat.le_of_ble_eq_true rfl) rfl rfl rfl rfl) ?_;simp only [go_sem,simprocAttr])|(with_reducible first|refine V_seq ?_|refine V_block ?_|refine V_skip ?_|refine V_ret ?_|refine V_exit ?_)|((with_reducible refine V_cond ?_);simp only [go_sem,simprocAttr])|((refine V_region (by rw [hn];rfl) ?_);intro K hK)|((first|with_reducible refine evOps_n ?_|((with_reducible apply evOps_g);rfl));intro K hK;simp (contextual:=true) only [go_sem,simprocAttr])|with_reducible refine evOps_nil ?_|((with_reducible refine hK _ ?_);clear hK K)|(with_reducible first|refine And.intro ?_ ?_|refine nxt_n ?_|refine nxt_r ?_|refine nxt_e ?_|refine blk_n ?_|refine blk_r ?_|refine blk_same ?_|refine blk_other (by decide) ?_|refine noG_n ?_|refine noG_r ?_|refine noG_e ?_|refine inR_mk ?_ ?_)|((with_reducible refine evCall_at 58 ?_);refine EvCall.mu (by first|(simp only [go_sem,simprocAttr];rfl)|rfl) (by first|(simp only [go_sem,simprocAttr];rfl)|rfl) (by first|(simp only [go_sem,simprocAttr];rfl)|rfl) (sp_markInt64S ?_ ?_ ?_) cal_markInt64S (by first|(simp only [go_sem,simprocAttr];rfl)|rfl) (by first|(simp only [go_sem,simprocAttr];rfl)|rfl) (by simp [go_sem]) (by simp [go_sem]) ?_;all_goals try simp only [go_sem,simprocAttr])|((with_reducible refine evCall_at 21 ?_);refine EvCall.mu (by first|(simp only [go_sem,simprocAttr];rfl)|rfl) (by first|(simp only [go_sem,simprocAttr];rfl)|rfl) (by first|(simp only [go_sem,simprocAttr];rfl)|rfl) (sp_markInt64SS ?_ ?_ ?_) cal_markInt64SS (by first|(simp only [go_sem,simprocAttr];rfl)|rfl) (by first|(simp only [go_sem,simprocAttr];rfl)|rfl) (by simp [go_sem]) (by simp [go_sem]) ?_;all_goals try simp only [go_sem,simprocAttr])|(refine fun (hc : (_ : Bool) = _)=>?_;try simp only [hcS] at hc))
    all_goals try exact om_
    have em:=midM_mon A (mkM1 (k + n) ⟨⟨⟨so,sf,st,si,sc⟩,⟨to_,tf,tt,ti,tc⟩,q,r⟩,u,v⟩) B
    rw [← e4] at em
    simp only [monC,mkM1,mkF1] at em
    have ec : k + (mkMn (F.take (A.length + 1)) : Int) = k + n + 1 + sf.length + st.length + si.length + sumLen sc + 1 + tf.length + tt.length + ti.length + sumLen tc + q.length + r.length + u.length + v.length:=by omega
    refine ⟨⟨A.length + 1,by omega,(by (trivial))⟩,by simp only;omega,Imp.auto hX (by simp only [go_sem,simprocAttr,em,ec,hBe])⟩
  · have ei : i = F.length:=by omega
    have hml:=mkMs_len k F
    subst ei
    rw [List.take_length,List.drop_length,List.append_nil]
    repeat' (first|(with_reducible first|refine V_seq ?_|refine V_block ?_|refine V_skip ?_|refine V_ret ?_|refine V_exit ?_)|((with_reducible refine V_cond ?_);simp only [go_sem,simprocAttr])|((refine V_region (by rw [hn];rfl) ?_);intro K hK)|((first|with_reducible refine evOps_n ?_|((with_reducible apply evOps_g);rfl));intro K hK;simp (contextual:=true) only [go_sem,simprocAttr])|with_reducible refine evOps_nil ?_|((with_reducible refine hK _ ?_);clear hK K)|(with_reducible first|refine And.intro ?_ ?_|refine nxt_n ?_|refine nxt_r ?_|refine nxt_e ?_|refine blk_n ?_|refine blk_r ?_|refine blk_same ?_|refine blk_other (by decide) ?_|refine noG_n ?_|refine noG_r ?_|refine noG_e ?_|refine inR_mk ?_ ?_)|(refine fun (hc : (_ : Bool) = _)=>?_;try simp only [hcS] at hc))
    all_goals try exact om_
    (first|refine ret_auto ?_|refine ret_auto' ?_);simp only [go_sem,simprocAttr,Tryz.f47]
end Go.Eng
end
section
namespace Go.Eng
open Go Go.Proofs Go.Cats
attribute [local go_sem] List.set_cons_zero List.set_cons_succ
theorem cal_eqMonad : Callable Tryz.prog 103:=⟨_,Tryz.func103,rfl,rfl⟩
theorem sp_eqMonad {m : Mon} (hb : FunB m.on) (h1 : m.unit.length ≤ 1048576) (h2 : m.join.length ≤ 1048576) : Spec Tryz.prog 103 [.agg [iv m.on.src.ob,.bor [] (ints m.on.src.fr),.bor [] (ints m.on.src.to),.bor [] (ints m.on.src.id),.bor [] (intss m.on.src.co),iv m.on.tgt.ob,.bor [] (ints m.on.tgt.fr),.bor [] (ints m.on.tgt.to),.bor [] (ints m.on.tgt.id),.bor [] (intss m.on.tgt.co),.bor [] (ints m.on.obs),.bor [] (ints m.on.ars),.bor [] (ints m.unit),.bor [] (ints m.join)],.agg [iv m.on.src.ob,.bor [] (ints m.on.src.fr),.bor [] (ints m.on.src.to),.bor [] (ints m.on.src.id),.bor [] (intss m.on.src.co),iv m.on.tgt.ob,.bor [] (ints m.on.tgt.fr),.bor [] (ints m.on.tgt.to),.bor [] (ints m.on.tgt.id),.bor [] (intss m.on.tgt.co),.bor [] (ints m.on.obs),.bor [] (ints m.on.ars),.bor [] (ints m.unit),.bor [] (ints m.join)]] [] (bv true) []:=by
  refine spec_of_V (E:=TE) 0 Tryz.func103 rfl (by simp [Tryz.f103]) fun X hn hX=>?_
  repeat' (first|(with_reducible first|refine V_seq ?_|refine V_skip ?_|refine V_ret ?_)|((with_reducible refine V_cond ?_);simp only [go_sem,simprocAttr])|((refine V_region (by rw [hn];rfl) ?_);intro K hK)|((first|with_reducible refine evOps_n ?_|((with_reducible apply evOps_g);rfl));intro K hK;simp (contextual:=true) only [go_sem,simprocAttr])|with_reducible refine evOps_nil ?_|((with_reducible refine hK _ ?_);clear hK K)|(with_reducible first|refine And.intro ?_ ?_|refine nxt_n ?_|refine nxt_r ?_|refine inR_mk ?_ ?_)|((with_reducible refine evCall_at 27 ?_);refine EvCall.rq (a:=(sp_eqFunctor (f:=m.on) (g:=m.on) ?_ ?_)) (b:=cal_eqFunctor) (c:=?_);all_goals try simp only [go_sem,simprocAttr])|((with_reducible refine evCall_at 57 ?_);refine EvCall.rq (a:=(sp_eqInt64S (a:=m.unit) (b:=m.unit) ?_ ?_)) (b:=cal_eqInt64S) (c:=?_);all_goals try simp only [go_sem,simprocAttr])|((with_reducible refine evCall_at 57 ?_);refine EvCall.rq (a:=(sp_eqInt64S (a:=m.join) (b:=m.join) ?_ ?_)) (b:=cal_eqInt64S) (c:=?_);all_goals try simp only [go_sem,simprocAttr])|(refine fun (hc : (_ : Bool) = _)=>?_;try simp only [hcS] at hc))
  all_goals try exact om_
  (first|refine ret_auto ?_|refine ret_auto' ?_);simp only [go_sem,simprocAttr,Tryz.f103]
theorem cal_eqMonadS : Callable Tryz.prog 46:=⟨_,Tryz.func46,rfl,rfl⟩
theorem sp_eqMonadS {F : List Mon} (hb : ∀ f ∈ F,FunB f.on ∧ f.unit.length ≤ 1048576 ∧ f.join.length ≤ 1048576) (hF : F.length ≤ 1048576) : Spec Tryz.prog 46 [.bor [] (monsD F),.bor [] (monsD F)] [] (bv true) []:=by
  refine spec_of_V (E:=TE) 0 Tryz.func46 rfl (by simp [Tryz.f46]) fun X hn hX=>?_
  repeat' (first|(with_reducible first|refine V_seq ?_|refine V_block ?_|refine V_skip ?_|refine V_ret ?_|refine V_exit ?_)|((with_reducible refine V_cond ?_);simp only [go_sem,simprocAttr])|((first|refine V_region (by rw [hn];rfl) ?_|refine V_drawn hmix (by rw [hn];rfl) ?_);intro K hK)|((first|with_reducible refine evOps_n ?_|((with_reducible apply evOps_g);rfl)|with_reducible refine evOpsD_n ?_|((with_reducible apply evOpsD_g);rfl));intro K hK;simp (contextual:=true) only [go_sem,simprocAttr])|with_reducible refine evOps_nil ?_|((with_reducible refine evOpsD_nil ?_ ?_);kernel_rfl)|((with_reducible refine hK _ ?_);clear hK K)|(with_reducible first|refine And.intro ?_ ?_|refine nxt_n ?_|refine nxt_r ?_|refine nxt_e ?_|refine blk_n ?_|refine blk_r ?_|refine blk_same ?_|refine blk_other (by decide) ?_|refine noG_n ?_|refine noG_r ?_|refine noG_e ?_|refine inR_mk ?_ ?_)|(refine fun (hc : (_ : Bool) = _)=>?_;try simp only [hcS] at hc))
  all_goals try exact om_
  refine V_loopK (G:={i : Nat // i ≤ F.length ∧ (True)}) (fun ⟨i,_⟩=>[(5,iv i)]) [0,1] (fun ⟨i,_⟩=>[]) [] (fun zz=>F.length - zz.1) ⟨0,Nat.zero_le _,by first|trivial|simp⟩ ?_ ?_
  · exact Imp.au hX
  rintro ⟨i,hii,hwi⟩
  simp only [go_sem,simprocAttr]
  rcases Nat.lt_or_ge i F.length with hlt | hge
  · obtain ⟨hf1,hf2,hf3⟩:=hb (F.getD i default) (getD_mem hlt)
    have hp:=mons_part F i hlt
    repeat' (first|(rw [hp];simp only [monC])|(with_reducible first|refine V_seq ?_|refine V_block ?_|refine V_skip ?_|refine V_ret ?_|refine V_exit ?_)|((with_reducible refine V_cond ?_);simp only [go_sem,simprocAttr])|((first|refine V_region (by rw [hn];rfl) ?_|refine V_drawn hmix (by rw [hn];rfl) ?_);intro K hK)|((first|with_reducible refine evOps_n ?_|((with_reducible apply evOps_g);rfl)|with_reducible refine evOpsD_n ?_|((with_reducible apply evOpsD_g);rfl));intro K hK;simp (contextual:=true) only [go_sem,simprocAttr])|with_reducible refine evOps_nil ?_|((with_reducible refine evOpsD_nil ?_ ?_);kernel_rfl)|((with_reducible refine hK _ ?_);clear hK K)|(with_reducible first|refine And.intro ?_ ?_|refine nxt_n ?_|refine nxt_r ?_|refine nxt_e ?_|refine blk_n ?_|refine blk_r ?_|refine blk_same ?_|refine blk_other (by decide) ?_|refine noG_n ?_|refine noG_r ?_|refine noG_e ?_|refine inR_mk ?_ ?_)|((with_reducible refine evCall_at 103 ?_);refine EvCall.rq (a:=(sp_eqMonad (m:=F.getD i default) ?_ ?_ ?_)) (b:=cal_eqMonad) (c:=?_);all_goals try simp only [go_sem,simprocAttr])|(refine fun (hc : (_ : Bool) = _)=>?_;try simp only [hcS] at hc))
    all_goals try exact om_
    · refine ⟨⟨i + 1,by omega,(by trivial)⟩,by simp only;omega,Imp.ao hX⟩
  · repeat' (first|(with_reducible first|refine V_seq ?_|refine V_block ?_|refine V_skip ?_|refine V_ret ?_|refine V_exit ?_)|((with_reducible refine V_cond ?_);simp only [go_sem,simprocAttr])|((first|refine V_region (by rw [hn];rfl) ?_|refine V_drawn hmix (by rw [hn];rfl) ?_);intro K hK)|((first|with_reducible refine evOps_n ?_|((with_reducible apply evOps_g);rfl)|with_reducible refine evOpsD_n ?_|((with_reducible apply evOpsD_g);rfl));intro K hK;simp (contextual:=true) only [go_sem,simprocAttr])|with_reducible refine evOps_nil ?_|((with_reducible refine evOpsD_nil ?_ ?_);kernel_rfl)|((with_reducible refine hK _ ?_);clear hK K)|(with_reducible first|refine And.intro ?_ ?_|refine nxt_n ?_|refine nxt_r ?_|refine nxt_e ?_|refine blk_n ?_|refine blk_r ?_|refine blk_same ?_|refine blk_other (by decide) ?_|refine noG_n ?_|refine noG_r ?_|refine noG_e ?_|refine inR_mk ?_ ?_)|(refine fun (hc : (_ : Bool) = _)=>?_;try simp only [hcS] at hc))
    all_goals try exact om_
    (first|refine ret_auto ?_|refine ret_auto' ?_);simp only [go_sem,simprocAttr,Tryz.f46]
theorem cal_heldMonadS : Callable Tryz.prog 48:=⟨_,Tryz.func48,rfl,rfl⟩
theorem sp_heldMonadS_at {F D : List Mon} {k : Int} (h : D = mkMs k F) (hk : 0 ≤ k) (hl : k + mkMn F ≤ 9223372036854775807) (hb : ∀ f ∈ F,FunB f.on ∧ f.unit.length ≤ 1048576 ∧ f.join.length ≤ 1048576) (hF : F.length ≤ 1048576) : Spec Tryz.prog 48 [.bor [] (monsD D),iv k] [] (iv (k + mkMn F)) []:=by
  refine spec_of_V (E:=TE) 0 Tryz.func48 rfl (by simp [Tryz.f48]) fun X hn hX=>?_
  subst h
  have hml:=mkMs_len k F
  repeat' (first|(with_reducible first|refine V_seq ?_|refine V_block ?_|refine V_skip ?_|refine V_ret ?_|refine V_exit ?_)|((with_reducible refine V_cond ?_);simp only [go_sem,simprocAttr])|((refine V_region (by rw [hn];rfl) ?_);intro K hK)|((first|with_reducible refine evOps_n ?_|((with_reducible apply evOps_g);rfl));intro K hK;simp (contextual:=true) only [go_sem,simprocAttr])|with_reducible refine evOps_nil ?_|((with_reducible refine hK _ ?_);clear hK K)|(with_reducible first|refine And.intro ?_ ?_|refine nxt_n ?_|refine nxt_r ?_|refine nxt_e ?_|refine blk_n ?_|refine blk_r ?_|refine blk_same ?_|refine blk_other (by decide) ?_|refine noG_n ?_|refine noG_r ?_|refine noG_e ?_|refine inR_mk ?_ ?_)|(refine fun (hc : (_ : Bool) = _)=>?_;try simp only [hcS] at hc))
  all_goals try exact om_
  refine V_loopK (G:={i : Nat // i ≤ F.length ∧ (True)}) (fun ⟨i,_⟩=>[(1,iv (k + mkMn (F.take i))),(5,iv i)]) [0] (fun ⟨i,_⟩=>[]) [] (fun zz=>F.length - zz.1) ⟨0,Nat.zero_le _,by simp [mkMn]⟩ ?_ ?_
  · exact Imp.au hX
  rintro ⟨i,hii,hwi⟩
  simp only [go_sem,simprocAttr]
  rcases Nat.lt_or_ge i F.length with hlt | hge
  · have e2:=mkMn_take hlt
    have e3:=mkMn_le F (i + 1)
    have hfb:=hb (F.getD i default) (getD_mem hlt)
    have hp:=mons_part (mkMs k F) i (by omega)
    have hg : (mkMs k F).getD i default = mkM1 (k + mkMn (F.take i)) (F.getD i default):=by
      exact mkMs_getD k hlt
    rw [hg] at hp
    rw [e2] at e3
    generalize F.getD i default = f at *
    generalize mkMn (F.take i) = n at *
    obtain ⟨⟨⟨so,sf,st,si,sc⟩,⟨to_,tf,tt,ti,tc⟩,q,r⟩,u,v⟩:=f
    obtain ⟨⟨⟨b1,b2,b3,b4,b5,b6,b7⟩,⟨g1,g2,g3,g4,g5,g6,g7⟩,b8,b9⟩,b10,b11⟩:=hfb
    simp only [Mon.mkn',Go.Cats.Fun.mkn,Go.Cats.Cat.mkn] at *
    simp only [monC,mkM1,mkF1] at hp
    repeat' (first|(rw [hp])|(with_reducible first|refine V_seq ?_|refine V_block ?_|refine V_skip ?_|refine V_ret ?_|refine V_exit ?_)|((with_reducible refine V_cond ?_);simp only [go_sem,simprocAttr])|((refine V_region (by rw [hn];rfl) ?_);intro K hK)|((first|with_reducible refine evOps_n ?_|((with_reducible apply evOps_g);rfl));intro K hK;simp (contextual:=true) only [go_sem,simprocAttr])|with_reducible refine evOps_nil ?_|((with_reducible refine hK _ ?_);clear hK K)|(with_reducible first|refine And.intro ?_ ?_|refine nxt_n ?_|refine nxt_r ?_|refine nxt_e ?_|refine blk_n ?_|refine blk_r ?_|refine blk_same ?_|refine blk_other (by decide) ?_|refine noG_n ?_|refine noG_r ?_|refine noG_e ?_|refine inR_mk ?_ ?_)|((with_reducible refine evCall_at 59 ?_);refine EvCall.rq (a:=(sp_heldInt64S_at (by first|omega|assumption|rfl) (by first|omega|assumption|rfl) (by first|omega|assumption|rfl))) (b:=cal_heldInt64S) (c:=?_);all_goals try simp only [go_sem,simprocAttr])|((with_reducible refine evCall_at 24 ?_);refine EvCall.rq (a:=(sp_heldInt64SS_at (by first|omega|assumption|rfl) (by first|omega|assumption|rfl) (by first|omega|assumption|rfl) (by first|omega|assumption|rfl))) (b:=cal_heldInt64SS) (c:=?_);all_goals try simp only [go_sem,simprocAttr])|(refine fun (hc : (_ : Bool) = _)=>?_;try simp only [hcS] at hc))
    all_goals try exact om_
    have ec : k + (mkMn (F.take (i + 1)) : Int) = k + n + 1 + sf.length + st.length + si.length + sumLen sc + 1 + tf.length + tt.length + ti.length + sumLen tc + q.length + r.length + u.length + v.length:=by omega
    · refine ⟨⟨i + 1,by omega,(by trivial)⟩,by simp only;omega,Imp.auto hX (by simp only [go_sem,simprocAttr,ec])⟩
  · have ei : i = F.length:=by omega
    subst ei
    repeat' (first|(with_reducible first|refine V_seq ?_|refine V_block ?_|refine V_skip ?_|refine V_ret ?_|refine V_exit ?_)|((with_reducible refine V_cond ?_);simp only [go_sem,simprocAttr])|((refine V_region (by rw [hn];rfl) ?_);intro K hK)|((first|with_reducible refine evOps_n ?_|((with_reducible apply evOps_g);rfl));intro K hK;simp (contextual:=true) only [go_sem,simprocAttr])|with_reducible refine evOps_nil ?_|((with_reducible refine hK _ ?_);clear hK K)|(with_reducible first|refine And.intro ?_ ?_|refine nxt_n ?_|refine nxt_r ?_|refine nxt_e ?_|refine blk_n ?_|refine blk_r ?_|refine blk_same ?_|refine blk_other (by decide) ?_|refine noG_n ?_|refine noG_r ?_|refine noG_e ?_|refine inR_mk ?_ ?_)|(refine fun (hc : (_ : Bool) = _)=>?_;try simp only [hcS] at hc))
    all_goals try exact om_
    (first|refine ret_auto ?_|refine ret_auto' ?_);simp only [go_sem,simprocAttr,Tryz.f48]
    simp only [List.take_length]
end Go.Eng
end
