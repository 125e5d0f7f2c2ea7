/- The body of the law FnExactAllMonads: what both sides return, and the call. -/
import Derived.Test.YtmpopmololpaoaaGreatU08q
import Derived.Test.YtmpopmololpaoaaGreatKarx
set_option linter.unusedSimpArgs false
set_option linter.unusedVariables false
set_option maxRecDepth 100000
set_option maxHeartbeats 16000000
namespace Go.Eng
open Go Go.Proofs Go.Cats
theorem cal_spec_AllMonads : Callable Tryz.prog 44:=⟨_,Tryz.func44,rfl,rfl⟩
theorem sp_spec_AllMonads_bad {c : Cat} (bc : CatB c) (h : ¬ IsCat c) : Spec Tryz.prog 44 [catV c] [] (.tup [.v (.slice none 0 0),iv 1]) []:=by
  have v1:=sp_l02Is_v bc (dec_f h)
  refine spec_of_V (E:=TE) 0 Tryz.func44 rfl (by simp [Tryz.f44]) fun X hn hX=>?_
  repeat' (first|(with_reducible first|refine V_seq ?_|refine V_skip ?_|refine V_ret ?_)|((with_reducible refine V_cond ?_);simp only [go_sem,simprocAttr])|((refine V_region (by rw [hn];rfl) ?_);intro K hK)|((first|with_reducible refine evOps_n ?_|((with_reducible apply evOps_g);rfl));intro K hK;simp (contextual:=true) only [go_sem,simprocAttr])|with_reducible refine evOps_nil ?_|((with_reducible refine hK _ ?_);clear hK K)|(with_reducible first|refine And.intro ?_ ?_|refine nxt_n ?_|refine nxt_r ?_|refine inR_mk ?_ ?_)|((with_reducible refine evCall_at 51 ?_);refine EvCall.mk (v1) cal_l02Is [] [] (by simp [go_sem] <;> (repeat' (first|rfl|constructor))) (by simp [go_sem] <;> (repeat' (first|rfl|constructor))) ?_;all_goals try simp only [go_sem,simprocAttr])|(refine fun (hc : (_ : Bool) = _)=>?_;try simp only [hcS] at hc))
  all_goals try exact om_
  all_goals ((first|refine ret_auto ?_|refine ret_auto' ?_);simp only [go_sem,simprocAttr,Tryz.f44])
theorem sp_spec_AllMonads_o {c : Cat} {r : Sv} {L1 : List (Nat × Rs)} (bc : CatB c) (sc : IsCat c) (ho : MaO c r L1) : Spec Tryz.prog 44 [catV c] [] r L1:=by
  have v1:=sp_l02Is_v bc (dec_t sc)
  by_cases h6 : c.fr.length ≤ 6
  · have hall:=sp_l16All_o bc sc h6 ho
    rcases ho with ⟨_,rfl,rfl⟩|⟨_,rfl,rfl⟩
    · refine spec_of_V (E:=TE) 0 Tryz.func44 rfl (by simp [Tryz.f44]) fun X hn hX=>?_
      repeat' (first|(exfalso;omega)|(with_reducible first|refine V_seq ?_|refine V_skip ?_|refine V_ret ?_)|((with_reducible refine V_cond ?_);simp only [go_sem,simprocAttr])|((refine V_region (by rw [hn];rfl) ?_);intro K hK)|((first|with_reducible refine evOps_n ?_|((with_reducible apply evOps_g);rfl));intro K hK;simp (contextual:=true) only [go_sem,simprocAttr])|with_reducible refine evOps_nil ?_|((with_reducible refine hK _ ?_);clear hK K)|(with_reducible first|refine And.intro ?_ ?_|refine nxt_n ?_|refine nxt_r ?_|refine inR_mk ?_ ?_)|((with_reducible refine evCall_at 51 ?_);refine EvCall.mk (v1) cal_l02Is [] [] (by simp [go_sem] <;> (repeat' (first|rfl|constructor))) (by simp [go_sem] <;> (repeat' (first|rfl|constructor))) ?_;all_goals try simp only [go_sem,simprocAttr])|((with_reducible refine evCall_at 101 ?_);refine EvCall.mk (hall) cal_l16All [(0,1)] [] (by simp [go_sem] <;> (repeat' (first|rfl|constructor))) (by simp [go_sem] <;> (repeat' (first|rfl|constructor))) ?_;all_goals try simp only [go_sem,simprocAttr])|(refine fun (hc : (_ : Bool) = _)=>?_;try simp only [hcS] at hc))
      all_goals try exact om_
      all_goals ((first|refine ret_auto ?_|refine ret_auto' ?_);simp only [go_sem,simprocAttr,Tryz.f44])
    · refine spec_of_V (E:=TE) 0 Tryz.func44 rfl (by simp [Tryz.f44]) fun X hn hX=>?_
      repeat' (first|(exfalso;omega)|(with_reducible first|refine V_seq ?_|refine V_skip ?_|refine V_ret ?_)|((with_reducible refine V_cond ?_);simp only [go_sem,simprocAttr])|((refine V_region (by rw [hn];rfl) ?_);intro K hK)|((first|with_reducible refine evOps_n ?_|((with_reducible apply evOps_g);rfl));intro K hK;simp (contextual:=true) only [go_sem,simprocAttr])|with_reducible refine evOps_nil ?_|((with_reducible refine hK _ ?_);clear hK K)|(with_reducible first|refine And.intro ?_ ?_|refine nxt_n ?_|refine nxt_r ?_|refine inR_mk ?_ ?_)|((with_reducible refine evCall_at 51 ?_);refine EvCall.mk (v1) cal_l02Is [] [] (by simp [go_sem] <;> (repeat' (first|rfl|constructor))) (by simp [go_sem] <;> (repeat' (first|rfl|constructor))) ?_;all_goals try simp only [go_sem,simprocAttr])|((with_reducible refine evCall_at 101 ?_);refine EvCall.mk (hall) cal_l16All [] [] (by simp [go_sem] <;> (repeat' (first|rfl|constructor))) (by simp [go_sem] <;> (repeat' (first|rfl|constructor))) ?_;all_goals try simp only [go_sem,simprocAttr])|(refine fun (hc : (_ : Bool) = _)=>?_;try simp only [hcS] at hc))
      all_goals try exact om_
      all_goals ((first|refine ret_auto ?_|refine ret_auto' ?_);simp only [go_sem,simprocAttr,Tryz.f44])
  · rcases ho with ⟨ho,_,_⟩|⟨_,rfl,rfl⟩
    · exact absurd ho.1 h6
    · refine spec_of_V (E:=TE) 0 Tryz.func44 rfl (by simp [Tryz.f44]) fun X hn hX=>?_
      repeat' (first|(exfalso;omega)|(with_reducible first|refine V_seq ?_|refine V_skip ?_|refine V_ret ?_)|((with_reducible refine V_cond ?_);simp only [go_sem,simprocAttr])|((refine V_region (by rw [hn];rfl) ?_);intro K hK)|((first|with_reducible refine evOps_n ?_|((with_reducible apply evOps_g);rfl));intro K hK;simp (contextual:=true) only [go_sem,simprocAttr])|with_reducible refine evOps_nil ?_|((with_reducible refine hK _ ?_);clear hK K)|(with_reducible first|refine And.intro ?_ ?_|refine nxt_n ?_|refine nxt_r ?_|refine inR_mk ?_ ?_)|((with_reducible refine evCall_at 51 ?_);refine EvCall.mk (v1) cal_l02Is [] [] (by simp [go_sem] <;> (repeat' (first|rfl|constructor))) (by simp [go_sem] <;> (repeat' (first|rfl|constructor))) ?_;all_goals try simp only [go_sem,simprocAttr])|(refine fun (hc : (_ : Bool) = _)=>?_;try simp only [hcS] at hc))
      all_goals try exact om_
      all_goals ((first|refine ret_auto ?_|refine ret_auto' ?_);simp only [go_sem,simprocAttr,Tryz.f44])
theorem sp_AllMonads_at {c : Cat} {F : List Mon} {code : Int} (bc : CatB c) (h : MoOut c F code) : Spec Tryz.prog 45 [catV c] [] (.tup [.sl 0,iv code]) [(0,⟨1,.arr (monsD F)⟩)]:=by
  rcases h with ⟨h,rfl,rfl⟩|⟨sc,⟨h,rfl,rfl⟩|⟨h,rfl,rfl⟩⟩
  · exact adoptMn (sp_AllMonads_bad bc h)
  · exact adoptMn (sp_AllMonads_o bc sc (.inr ⟨h,rfl,rfl⟩))
  · exact sp_AllMonads_o bc sc (.inl ⟨h,rfl,rfl⟩)
theorem sp_spec_AllMonads_at {c : Cat} {F : List Mon} {code : Int} (bc : CatB c) (h : MoOut c F code) : Spec Tryz.prog 44 [catV c] [] (.tup [.sl 0,iv code]) [(0,⟨1,.arr (monsD F)⟩)]:=by
  rcases h with ⟨h,rfl,rfl⟩|⟨sc,⟨h,rfl,rfl⟩|⟨h,rfl,rfl⟩⟩
  · exact adoptMn (sp_spec_AllMonads_bad bc h)
  · exact adoptMn (sp_spec_AllMonads_o bc sc (.inr ⟨h,rfl,rfl⟩))
  · exact sp_spec_AllMonads_o bc sc (.inl ⟨h,rfl,rfl⟩)
theorem MoOut.b {c : Cat} {F : List Mon} {code : Int} (bc : CatB c) (h : MoOut c F code) : F.length ≤ 200 ∧ ∀ g ∈ F,FunB g.on ∧ g.unit.length ≤ 1048576 ∧ g.join.length ≤ 1048576:=by
  rcases h with ⟨_,rfl,_⟩|⟨sc,⟨_,rfl,_⟩|⟨h,rfl,_⟩⟩
  · exact ⟨Nat.zero_le _,fun g hg=>absurd hg List.not_mem_nil⟩
  · exact ⟨Nat.zero_le _,fun g hg=>absurd hg List.not_mem_nil⟩
  refine ⟨h.2.2.2,fun g hg=>?_⟩
  obtain ⟨i,hi,hg⟩:=mem_coll.1 hg
  have hE:=end_of sc hi
  have c8:=sc.toShape.ob8
  unfold moF moU at hg
  rcases List.mem_append.1 hg with hg | hg
  · obtain ⟨a,ha,hg⟩:=mem_coll.1 hg
    obtain ⟨j,hj,rfl⟩:=List.mem_map.1 hg
    have hj:=List.mem_of_mem_take (List.mem_filter.1 hj).1
    have h1:=(hE.unit (getD_mem (d:=[]) ha)).1
    have h2:=(hE.join hj).1
    exact ⟨end_b hE bc,by show ((unitsL c ((fcL c c).getD i default)).getD a []).length ≤ 1048576;omega,by show j.length ≤ 1048576;omega⟩
  · rw [moJ_zero] at hg
    exact absurd hg List.not_mem_nil
theorem mkMn_bound : ∀ {F : List Mon},(∀ f ∈ F,FunB f.on ∧ f.unit.length ≤ 1048576 ∧ f.join.length ≤ 1048576) → mkMn F ≤ F.length * 2199033741314
  | [],_=>Nat.le_refl _
  | f :: F,h=>by
    have h1:=(h f (List.mem_cons_self ..)).1.mkn
    have h3:=(h f (List.mem_cons_self ..)).2
    have h2:=mkMn_bound fun g hg=>h g (List.mem_cons_of_mem _ hg)
    simp only [mkMn,List.length_cons,Mon.mkn']
    omega
theorem sp_FnExactAllMonads {a0 : Cat} (tc : CatT a0) : Spec Tryz.prog 11 [catV a0] [] (bv true) []:=by
  refine spec_of_V (E:=TE) 0 Tryz.func11 rfl (by simp [Tryz.f11]) fun X hn hX=>?_
  have lc:=tc.len
  by_cases hz : (catSz a0 : Int) ≤ 1048576
  · have hb:=tc.b1 (by omega)
    obtain ⟨F,code,ho⟩:=MoOut.ex a0
    obtain ⟨hFl,hF⟩:=MoOut.b hb ho
    have hFn:=mkMn_bound hF
    have k1:=hb.mkn
    repeat' (first|(with_reducible first|refine V_seq ?_|refine V_skip ?_|refine V_ret ?_)|((with_reducible refine V_cond ?_);simp only [go_sem,simprocAttr])|((first|refine V_region (by rw [hn];rfl) ?_|refine V_drawn hmix (by rw [hn];rfl) ?_);intro K hK)|((first|with_reducible refine evOps_n ?_|((with_reducible apply evOps_g);rfl)|with_reducible refine evOpsD_n ?_|((with_reducible apply evOpsD_g);rfl));intro K hK;simp (contextual:=true) only [go_sem,simprocAttr])|with_reducible refine evOps_nil ?_|((with_reducible refine evOpsD_nil ?_ ?_);kernel_rfl)|((with_reducible refine hK _ ?_);clear hK K)|(with_reducible first|refine And.intro ?_ ?_|refine nxt_n ?_|refine nxt_r ?_|refine inR_mk ?_ ?_)|((with_reducible refine evCall_at 12 ?_);refine EvCall.rq (a:=(sp_szCategory_ok (c:=a0) (by first|omega|assumption|rfl) (by first|omega|assumption|rfl))) (b:=cal_szCategory) (c:=?_);all_goals try simp only [go_sem,simprocAttr])|((with_reducible refine evCall_at 14 ?_);refine EvCall.rq (a:=(sp_toCategory (c:=a0) ?_)) (b:=cal_toCategory) (c:=?_);all_goals try simp only [go_sem,simprocAttr])|((with_reducible refine evCall_at 44 ?_);refine EvCall.rq (a:=(sp_spec_AllMonads_at (c:=a0) (F:=F) (code:=code) (by first|omega|assumption|rfl) (by first|omega|assumption|rfl))) (b:=cal_spec_AllMonads) (c:=?_);all_goals try simp only [go_sem,simprocAttr])|((with_reducible refine evCall_at 45 ?_);refine EvCall.rq (a:=(sp_AllMonads_at (c:=a0) (F:=F) (code:=code) (by first|omega|assumption|rfl) (by first|omega|assumption|rfl))) (b:=cal_AllMonads) (c:=?_);all_goals try simp only [go_sem,simprocAttr])|((with_reducible refine evCall_at 46 ?_);refine EvCall.rq (a:=(sp_eqMonadS (F:=F) ?_ ?_)) (b:=cal_eqMonadS) (c:=?_);all_goals try simp only [go_sem,simprocAttr])|((with_reducible refine evCall_at 16 ?_);refine EvCall.rq (a:=(sp_eqCategory (a:=a0) (b:=a0) ?_ ?_)) (b:=cal_eqCategory) (c:=?_);all_goals try simp only [go_sem,simprocAttr])|((with_reducible refine evCall_at 19 ?_);refine EvCall.mu (by first|(simp only [go_sem,simprocAttr];rfl)|rfl) (by first|(simp only [go_sem,simprocAttr];rfl)|rfl) (by first|(simp only [go_sem,simprocAttr];rfl)|rfl) (sp_markCategory (c:=a0) ?_ ?_ ?_) cal_markCategory (by first|(simp only [go_sem,simprocAttr];rfl)|rfl) (by first|(simp only [go_sem,simprocAttr];rfl)|rfl) (by simp [go_sem]) (by simp [go_sem]) ?_;all_goals try simp only [go_sem,simprocAttr])|((with_reducible refine evCall_at 47 ?_);refine EvCall.mu (by first|(simp only [go_sem,simprocAttr];rfl)|rfl) (by first|(simp only [go_sem,simprocAttr];rfl)|rfl) (by first|(simp only [go_sem,simprocAttr];rfl)|rfl) (sp_markMonadS (F:=F) ?_ ?_ ?_ ?_) cal_markMonadS (by first|(simp only [go_sem,simprocAttr];rfl)|rfl) (by first|(simp only [go_sem,simprocAttr];rfl)|rfl) (by simp [go_sem]) (by simp [go_sem]) ?_;all_goals try simp only [go_sem,simprocAttr])|((with_reducible refine evCall_at 48 ?_);refine EvCall.rq (a:=(sp_heldMonadS_at (D:=mkMs 1 F) (F:=F) (k:=1) (by first|omega|assumption|rfl) (by first|omega|assumption|rfl) (by first|omega|assumption|rfl) (by first|omega|assumption|rfl) (by first|omega|assumption|rfl))) (b:=cal_heldMonadS) (c:=?_);all_goals try simp only [go_sem,simprocAttr])|(refine fun (hc : (_ : Bool) = _)=>?_;try simp only [hcS] at hc))
    all_goals try exact om_
    (first|refine ret_auto ?_|refine ret_auto' ?_);simp only [go_sem,simprocAttr,Tryz.f11]
  · repeat' (first|(with_reducible first|refine V_seq ?_|refine V_skip ?_|refine V_ret ?_)|((with_reducible refine V_cond ?_);simp only [go_sem,simprocAttr])|((first|refine V_region (by rw [hn];rfl) ?_|refine V_drawn hmix (by rw [hn];rfl) ?_);intro K hK)|((first|with_reducible refine evOps_n ?_|((with_reducible apply evOps_g);rfl)|with_reducible refine evOpsD_n ?_|((with_reducible apply evOpsD_g);rfl));intro K hK;simp (contextual:=true) only [go_sem,simprocAttr])|with_reducible refine evOps_nil ?_|((with_reducible refine evOpsD_nil ?_ ?_);kernel_rfl)|((with_reducible refine hK _ ?_);clear hK K)|(with_reducible first|refine And.intro ?_ ?_|refine nxt_n ?_|refine nxt_r ?_|refine inR_mk ?_ ?_)|((with_reducible refine evCall_at 12 ?_);refine EvCall.rq (a:=(sp_szCategory_no (c:=a0) (by first|omega|assumption|rfl) (by first|omega|assumption|rfl) (by first|omega|assumption|rfl) (by first|omega|assumption|rfl))) (b:=cal_szCategory) (c:=?_);all_goals try simp only [go_sem,simprocAttr])|(refine fun (hc : (_ : Bool) = _)=>?_;try simp only [hcS] at hc))
    all_goals try exact om_
    (first|refine ret_auto ?_|refine ret_auto' ?_);simp only [go_sem,simprocAttr,Tryz.f11]
end Go.Eng
