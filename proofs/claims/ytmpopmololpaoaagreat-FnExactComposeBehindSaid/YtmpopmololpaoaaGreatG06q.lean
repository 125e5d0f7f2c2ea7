/- The law's own functions: lists of lists of numbers, categories. -/
import Derived.Test.YtmpopmololpaoaaGreatKdx
import Derived.Test.YtmpopmololpaoaaGreatG05q
set_option linter.unusedSimpArgs false
set_option linter.unusedVariables false
set_option maxRecDepth 100000
set_option maxHeartbeats 8000000
namespace Go.Eng
open Go Go.Proofs Go.Cats
theorem cal_eqInt64SS : Callable Tryz.prog 18:=⟨_,Tryz.func18,rfl,rfl⟩
theorem sp_eqInt64SS {a b : List (List Int)} (ha : a.length ≤ 1048576) (hb : b.length ≤ 1048576) (ra : ∀ i,i < a.length → (a.getD i []).length ≤ 1048576) (rb : ∀ i,i < b.length → (b.getD i []).length ≤ 1048576) : Spec Tryz.prog 18 [.bor [] (intss a),.bor [] (intss b)] [] (bv (dec (a = b))) []:=by
  refine spec_of_V (E:=TE) 0 Tryz.func18 rfl (by simp [Tryz.f18]) fun X hn hX=>?_
  repeat' (first|(with_reducible first|refine V_seq ?_|refine V_block ?_|refine V_skip ?_|refine V_ret ?_|refine V_exit ?_)|((with_reducible refine V_cond ?_);simp only [go_sem,simprocAttr])|((first|refine V_region (by rw [hn];rfl) ?_|refine V_drawn hmix (by rw [hn];rfl) ?_);intro K hK)|((first|with_reducible refine evOps_n ?_|((with_reducible apply evOps_g);rfl)|with_reducible refine evOpsD_n ?_|((with_reducible apply evOpsD_g);rfl));intro K hK;simp (contextual:=true) only [go_sem,simprocAttr])|with_reducible refine evOps_nil ?_|((with_reducible refine evOpsD_nil ?_ ?_);kernel_rfl)|((with_reducible refine hK _ ?_);clear hK K)|(with_reducible first|refine And.intro ?_ ?_|refine nxt_n ?_|refine nxt_r ?_|refine nxt_e ?_|refine blk_n ?_|refine blk_r ?_|refine blk_same ?_|refine blk_other (by decide) ?_|refine noG_n ?_|refine noG_r ?_|refine noG_e ?_|refine inR_mk ?_ ?_)|(refine fun (hc : (_ : Bool) = _)=>?_;try simp only [hcS] at hc))
  all_goals try (first|(with_reducible assumption)|((try simp only [Cat.F,Cat.T,Cat.I,Cat.C,Fun.O,Fun.A,Cat.Entry,Int.toNat_natCast] at *);omega))
  · (first|refine ret_auto ?_|refine ret_auto' ?_);simp only [go_sem,simprocAttr,Tryz.f18]
    exact bv_f (fun e=>by subst e;omega)
  refine V_loopK (G:={i : Nat // i ≤ a.length ∧ (a.take i = b.take i)}) (fun ⟨i,_⟩=>[(5,iv i)]) [0,1] (fun ⟨i,_⟩=>[]) [] (fun zz=>a.length - zz.1) ⟨0,Nat.zero_le _,by simp⟩ ?_ ?_
  · exact Imp.auto hX (by simp [go_sem,simprocAttr])
  rintro ⟨i,hii,hwi⟩
  simp only [go_sem,simprocAttr]
  have h1:=ra i
  have h2:=rb i
  repeat' (first|(with_reducible first|refine V_seq ?_|refine V_block ?_|refine V_skip ?_|refine V_ret ?_|refine V_exit ?_)|((with_reducible refine V_cond ?_);simp only [go_sem,simprocAttr])|((first|refine V_region (by rw [hn];rfl) ?_|refine V_drawn hmix (by rw [hn];rfl) ?_);intro K hK)|((first|with_reducible refine evOps_n ?_|((with_reducible apply evOps_g);rfl)|with_reducible refine evOpsD_n ?_|((with_reducible apply evOpsD_g);rfl));intro K hK;simp (contextual:=true) only [go_sem,simprocAttr])|with_reducible refine evOps_nil ?_|((with_reducible refine evOpsD_nil ?_ ?_);kernel_rfl)|((with_reducible refine hK _ ?_);clear hK K)|(with_reducible first|refine And.intro ?_ ?_|refine nxt_n ?_|refine nxt_r ?_|refine nxt_e ?_|refine blk_n ?_|refine blk_r ?_|refine blk_same ?_|refine blk_other (by decide) ?_|refine noG_n ?_|refine noG_r ?_|refine noG_e ?_|refine inR_mk ?_ ?_)|((with_reducible refine evCall_at 57 ?_);refine EvCall.rq (a:=(sp_eqInt64S ?_ ?_)) (b:=cal_eqInt64S) (c:=?_);all_goals try simp only [go_sem,simprocAttr])|(refine fun (hc : (_ : Bool) = _)=>?_;try simp only [hcS] at hc))
  all_goals try (first|(with_reducible assumption)|((try simp only [Cat.F,Cat.T,Cat.I,Cat.C,Fun.O,Fun.A,Cat.Entry,Int.toNat_natCast] at *);omega))
  · (first|refine ret_auto ?_|refine ret_auto' ?_);simp only [go_sem,simprocAttr,Tryz.f18]
    exact bv_f (fun e=>by subst e;exact hc rfl)
  · refine ⟨⟨i + 1,by omega,(by exact take_snoc hwi (by omega) (by omega) hc)⟩,by simp only;omega,Imp.auto hX (by simp only [go_sem,simprocAttr])⟩
  · (first|refine ret_auto ?_|refine ret_auto' ?_);simp only [go_sem,simprocAttr,Tryz.f18]
    exact bv_t (take_end hwi (by omega) (by omega))
theorem intsN_step (l : List (List Int)) (i : Nat) (h : i < l.length) : (intsN (l.take i) (l.length - i)).put i (ints (l.getD i [])) = intsN (l.take (i + 1)) (l.length - (i + 1)):=by
  have e : (l.take i).length = i:=by simp;omega
  have:=intsN_put (l.take i) (l.length - (i + 1)) (l.getD i [])
  rw [e] at this
  rw [take_getD (d:=[]) h,← this,show l.length - (i + 1) + 1 = l.length - i by omega]
theorem cal_toInt64SS : Callable Tryz.prog 54:=⟨_,Tryz.func54,rfl,rfl⟩
theorem sp_toInt64SS {l : List (List Int)} (hl : l.length ≤ 1048576) (hr : ∀ i,i < l.length → (l.getD i []).length ≤ 1048576) : Spec Tryz.prog 54 [.bor [] (intss l)] [] (.sl 0) [(0,⟨1,.arr (intss l)⟩)]:=by
  refine spec_of_V (E:=TE) 0 Tryz.func54 rfl (by simp [Tryz.f54]) fun X hn hX=>?_
  repeat' (first|(with_reducible first|refine V_seq ?_|refine V_block ?_|refine V_skip ?_|refine V_ret ?_|refine V_exit ?_)|((with_reducible refine V_cond ?_);simp only [go_sem,simprocAttr])|((refine V_region (by rw [hn];rfl) ?_);intro K hK)|((first|with_reducible refine evOps_n ?_|((with_reducible apply evOps_g);rfl));intro K hK;simp (contextual:=true) only [go_sem,simprocAttr])|with_reducible refine evOps_nil ?_|((with_reducible refine hK _ ?_);clear hK K)|(with_reducible first|refine And.intro ?_ ?_|refine nxt_n ?_|refine nxt_r ?_|refine nxt_e ?_|refine blk_n ?_|refine blk_r ?_|refine blk_same ?_|refine blk_other (by decide) ?_|refine noG_n ?_|refine noG_r ?_|refine noG_e ?_|refine inR_mk ?_ ?_)|(refine fun (hc : (_ : Bool) = _)=>?_;try simp only [hcS] at hc))
  all_goals try (first|(with_reducible assumption)|((try simp only [Cat.F,Cat.T,Cat.I,Cat.C,Fun.O,Fun.A,Cat.Entry,Int.toNat_natCast] at *);omega))
  refine V_loopK (G:={i : Nat // i ≤ l.length ∧ (True)}) (fun ⟨i,_⟩=>[(4,iv i),(3,.sl 0)]) [0,2] (fun ⟨i,_⟩=>[(0,⟨1,.arr (intsN (l.take i) (l.length - i))⟩)]) [0] (fun zz=>l.length - zz.1) ⟨0,Nat.zero_le _,by first|trivial|simp⟩ ?_ ?_
  · exact Imp.auto hX (by simp [go_sem,simprocAttr])
  rintro ⟨i,hii,hwi⟩
  simp only [go_sem,simprocAttr]
  have h1:=hr i
  have h2 : (l.take i).length = i:=by simp;omega
  repeat' (first|(with_reducible first|refine V_seq ?_|refine V_block ?_|refine V_skip ?_|refine V_ret ?_|refine V_exit ?_)|((with_reducible refine V_cond ?_);simp only [go_sem,simprocAttr])|((refine V_region (by rw [hn];rfl) ?_);intro K hK)|((first|with_reducible refine evOps_n ?_|((with_reducible apply evOps_g);rfl));intro K hK;simp (contextual:=true) only [go_sem,simprocAttr])|with_reducible refine evOps_nil ?_|((with_reducible refine hK _ ?_);clear hK K)|(with_reducible first|refine And.intro ?_ ?_|refine nxt_n ?_|refine nxt_r ?_|refine nxt_e ?_|refine blk_n ?_|refine blk_r ?_|refine blk_same ?_|refine blk_other (by decide) ?_|refine noG_n ?_|refine noG_r ?_|refine noG_e ?_|refine inR_mk ?_ ?_)|((with_reducible refine evCall_at 53 ?_);refine EvCall.rq (a:=(sp_toInt64S ?_)) (b:=cal_toInt64S) (c:=?_);all_goals try simp only [go_sem,simprocAttr])|(refine fun (hc : (_ : Bool) = _)=>?_;try simp only [hcS] at hc))
  all_goals try (first|(with_reducible assumption)|((try simp only [Cat.F,Cat.T,Cat.I,Cat.C,Fun.O,Fun.A,Cat.Entry,Int.toNat_natCast] at *);omega))
  · refine ⟨⟨i + 1,by omega,(by trivial)⟩,by simp only;omega,Imp.auto hX (by simp only [go_sem,simprocAttr,intsN_step l i (show i < l.length by omega)])⟩
  · (first|refine ret_auto ?_|refine ret_auto' ?_);simp only [go_sem,simprocAttr,Tryz.f54]
    rw [show i = l.length by omega,List.take_length,Nat.sub_self,intsN_zero]
theorem cal_toCategory : Callable Tryz.prog 14:=⟨_,Tryz.func14,rfl,rfl⟩
theorem sp_toCategory {c : Cat} (hb : CatB c) : Spec Tryz.prog 14 [catV c] [] (.agg [iv c.ob,.sl 0,.sl 1,.sl 2,.sl 3]) [(0,⟨1,.arr (ints c.fr)⟩),(1,⟨1,.arr (ints c.to)⟩),(2,⟨1,.arr (ints c.id)⟩),(3,⟨1,.arr (intss c.co)⟩)]:=by
  refine spec_of_V (E:=TE) 0 Tryz.func14 rfl (by simp [Tryz.f14]) fun X hn hX=>?_
  obtain ⟨b1,b2,b3,b4,b5,b6,b7⟩:=hb
  repeat' (first|(with_reducible first|refine V_seq ?_|refine V_skip ?_|refine V_ret ?_)|((with_reducible refine V_cond ?_);simp only [go_sem,simprocAttr])|((refine V_region (by rw [hn];rfl) ?_);intro K hK)|((first|with_reducible refine evOps_n ?_|((with_reducible apply evOps_g);rfl));intro K hK;simp (contextual:=true) only [go_sem,simprocAttr])|with_reducible refine evOps_nil ?_|((with_reducible refine hK _ ?_);clear hK K)|(with_reducible first|refine And.intro ?_ ?_|refine nxt_n ?_|refine nxt_r ?_|refine inR_mk ?_ ?_)|((with_reducible refine evCall_at 53 ?_);refine EvCall.rq (a:=(sp_toInt64S ?_)) (b:=cal_toInt64S) (c:=?_);all_goals try simp only [go_sem,simprocAttr])|((with_reducible refine evCall_at 54 ?_);refine EvCall.rq (a:=(sp_toInt64SS ?_ ?_)) (b:=cal_toInt64SS) (c:=?_);all_goals try simp only [go_sem,simprocAttr])|(refine fun (hc : (_ : Bool) = _)=>?_;try simp only [hcS] at hc))
  all_goals try (first|(with_reducible assumption)|((try simp only [Cat.F,Cat.T,Cat.I,Cat.C,Fun.O,Fun.A,Cat.Entry,Int.toNat_natCast] at *);omega))
  (first|refine ret_auto ?_|refine ret_auto' ?_);simp only [go_sem,simprocAttr,Tryz.f14]
theorem cal_eqCategory : Callable Tryz.prog 16:=⟨_,Tryz.func16,rfl,rfl⟩
theorem sp_eqCategory {a b : Cat} (ha : CatB a) (hb : CatB b) : Spec Tryz.prog 16 [catV a,catV b] [] (bv (dec (a = b))) []:=by
  refine spec_of_V (E:=TE) 0 Tryz.func16 rfl (by simp [Tryz.f16]) fun X hn hX=>?_
  obtain ⟨a1,a2,a3,a4,a5,a6,a7⟩:=ha
  obtain ⟨b1,b2,b3,b4,b5,b6,b7⟩:=hb
  repeat' (first|(with_reducible first|refine V_seq ?_|refine V_skip ?_|refine V_ret ?_)|((with_reducible refine V_cond ?_);simp only [go_sem,simprocAttr])|((refine V_region (by rw [hn];rfl) ?_);intro K hK)|((first|with_reducible refine evOps_n ?_|((with_reducible apply evOps_g);rfl));intro K hK;simp (contextual:=true) only [go_sem,simprocAttr])|with_reducible refine evOps_nil ?_|((with_reducible refine hK _ ?_);clear hK K)|(with_reducible first|refine And.intro ?_ ?_|refine nxt_n ?_|refine nxt_r ?_|refine inR_mk ?_ ?_)|((with_reducible refine evCall_at 57 ?_);refine EvCall.rq (a:=(sp_eqInt64S ?_ ?_)) (b:=cal_eqInt64S) (c:=?_);all_goals try simp only [go_sem,simprocAttr])|((with_reducible refine evCall_at 18 ?_);refine EvCall.rq (a:=(sp_eqInt64SS ?_ ?_ ?_ ?_)) (b:=cal_eqInt64SS) (c:=?_);all_goals try simp only [go_sem,simprocAttr])|(refine fun (hc : (_ : Bool) = _)=>?_;try simp only [hcS] at hc))
  all_goals try (first|(with_reducible assumption)|((try simp only [Cat.F,Cat.T,Cat.I,Cat.C,Fun.O,Fun.A,Cat.Entry,Int.toNat_natCast] at *);omega))
  all_goals try ((first|refine ret_auto ?_|refine ret_auto' ?_);simp only [go_sem,simprocAttr,Tryz.f16];exact bv_f (fun s=>by subst s;contradiction))
  (first|refine ret_auto ?_|refine ret_auto' ?_);simp only [go_sem,simprocAttr,Tryz.f16]
  exact bv_t (Cat.eq (by assumption) (by assumption) (by assumption) (by assumption) (by assumption))
end Go.Eng
