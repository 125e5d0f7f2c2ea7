/- Functors: what is small enough to be moved. -/
import Derived.Test.YtmpopmololpaoaaGreatR09q
set_option linter.unusedSimpArgs false
set_option linter.unusedVariables false
set_option maxRecDepth 100000
set_option maxHeartbeats 16000000
namespace Go.Eng
open Go Go.Proofs Go.Cats
theorem perm_len {α : Type} {A B : List α} (h1 : A.Nodup) (h2 : B.Nodup) (h : ∀ x,x ∈ A ↔ x ∈ B) : A.length = B.length:=((List.perm_ext_iff_of_nodup h1 h2).2 h).length_eq
theorem len_split (p : Nat → Bool) : ∀ l : List Nat,l.length = (l.filter p).length + (l.filter fun x=>!p x).length
  | []=>rfl
  | a :: l=>by
    have:=len_split p l
    cases h : p a
    · rw [List.filter_cons_of_neg (by rw [h];decide),List.filter_cons_of_pos (by rw [h];rfl),List.length_cons,List.length_cons];omega
    · rw [List.filter_cons_of_pos h,List.filter_cons_of_neg (by rw [h];decide),List.length_cons,List.length_cons];omega
theorem movL_len {c : Cat} (sc : Shape c) : ((movL c c.fr.length).length : Int) = c.fr.length - c.ob:=by
  have c0:=sc.ob0
  have cil:=sc.idl
  have e1 : ((List.range c.fr.length).filter fun f=>decide (c.id.getD (c.fr.getD f 0).toNat 0 = f)).length = ((List.range c.id.length).map fun x=>(c.id.getD x 0).toNat).length:=by
    refine perm_len (List.nodup_range.filter _) ?_ fun f=>?_
    · refine List.Pairwise.map _ (R:=fun a b=>a < c.id.length ∧ b < c.id.length ∧ a ≠ b) ?_ ?_
      · rintro a b ⟨ha,hb,hn⟩ e
        have h1:=id_ok sc ha
        have h2:=id_ok sc hb
        rw [e] at h1
        have:=h1.2.2.1
        have:=h2.2.2.1
        omega
      · exact (List.nodup_range (n:=c.id.length)).imp_of_mem fun ha hb hn=>⟨List.mem_range.1 ha,List.mem_range.1 hb,hn⟩
    · rw [List.mem_filter,List.mem_range,List.mem_map,decide_eq_true_iff]
      constructor
      · rintro ⟨hf,he⟩
        have f1:=sc.frw f hf
        exact ⟨(c.fr.getD f 0).toNat,List.mem_range.2 (by omega),by omega⟩
      · rintro ⟨x,hx,rfl⟩
        have h1:=id_ok sc (List.mem_range.1 hx)
        exact ⟨h1.1,by rw [h1.2.2.1,Int.toNat_natCast];omega⟩
  rw [List.length_map,List.length_range] at e1
  have e2:=len_split (fun f=>decide (c.id.getD (c.fr.getD f 0).toNat 0 = f)) (List.range c.fr.length)
  rw [List.length_range] at e2
  unfold movL
  rw [List.length_map]
  omega
def MovP (c d : Cat) : Prop:=(c.fr.length : Int) - c.ob ≤ 8 ∧ d.fr.length ≤ 16
theorem cal_l06Small : Callable Tryz.prog 106:=⟨_,Tryz.func106,rfl,rfl⟩
theorem sp_l06Small {c d : Cat} (sc : Shape c) (sd : Shape d) : Spec Tryz.prog 106 [catV c,catV d] [] (bv (dec (MovP c d))) []:=by
  refine spec_of_V (E:=TE) 0 Tryz.func106 rfl (by simp [Tryz.f106]) fun X hn hX=>?_
  have m40:=sc.m40
  have n40:=sd.m40
  have hl:=movL_len sc
  have hmo:=sp_l06Moving sc
  generalize movL c c.fr.length = L at hl hmo
  by_cases h1 : (L.length : Int) ≤ 8
  · by_cases h2 : (d.fr.length : Int) ≤ 16
    · rw [show dec (MovP c d) = true from dec_t ⟨by omega,by omega⟩]
      repeat' (first|(with_reducible first|refine V_seq ?_|refine V_skip ?_|refine V_ret ?_)|((with_reducible refine V_cond ?_);simp only [go_sem,simprocAttr])|((refine V_region (by rw [hn];rfl) ?_);intro K hK)|((first|with_reducible refine evOps_n ?_|((with_reducible apply evOps_g);rfl));intro K hK;simp (contextual:=true) only [go_sem,simprocAttr])|with_reducible refine evOps_nil ?_|((with_reducible refine hK _ ?_);clear hK K)|(with_reducible first|refine And.intro ?_ ?_|refine nxt_n ?_|refine nxt_r ?_|refine inR_mk ?_ ?_)|((with_reducible refine evCall_at 148 ?_);refine EvCall.mk (hmo) cal_l06Moving [(0,2)] [] (by simp [go_sem] <;> (repeat' (first|rfl|constructor))) (by simp [go_sem] <;> (repeat' (first|rfl|constructor))) ?_;all_goals try simp only [go_sem,simprocAttr])|(refine fun (hc : (_ : Bool) = _)=>?_;try simp only [hcS] at hc))
      all_goals try exact om_
      · (first|refine ret_auto ?_|refine ret_auto' ?_);simp only [go_sem,simprocAttr,Tryz.f106]
        exact congrArg (fun b=>Sv.v (Value.bool b)) (decide_eq_true h2)
    · rw [show dec (MovP c d) = false from dec_f fun h=>by have:=h.2;omega]
      repeat' (first|(with_reducible first|refine V_seq ?_|refine V_skip ?_|refine V_ret ?_)|((with_reducible refine V_cond ?_);simp only [go_sem,simprocAttr])|((refine V_region (by rw [hn];rfl) ?_);intro K hK)|((first|with_reducible refine evOps_n ?_|((with_reducible apply evOps_g);rfl));intro K hK;simp (contextual:=true) only [go_sem,simprocAttr])|with_reducible refine evOps_nil ?_|((with_reducible refine hK _ ?_);clear hK K)|(with_reducible first|refine And.intro ?_ ?_|refine nxt_n ?_|refine nxt_r ?_|refine inR_mk ?_ ?_)|((with_reducible refine evCall_at 148 ?_);refine EvCall.mk (hmo) cal_l06Moving [(0,2)] [] (by simp [go_sem] <;> (repeat' (first|rfl|constructor))) (by simp [go_sem] <;> (repeat' (first|rfl|constructor))) ?_;all_goals try simp only [go_sem,simprocAttr])|(refine fun (hc : (_ : Bool) = _)=>?_;try simp only [hcS] at hc))
      all_goals try exact om_
      · (first|refine ret_auto ?_|refine ret_auto' ?_);simp only [go_sem,simprocAttr,Tryz.f106]
        exact congrArg (fun b=>Sv.v (Value.bool b)) (decide_eq_false h2)
  · rw [show dec (MovP c d) = false from dec_f fun h=>by have:=h.1;omega]
    repeat' (first|(with_reducible first|refine V_seq ?_|refine V_skip ?_|refine V_ret ?_)|((with_reducible refine V_cond ?_);simp only [go_sem,simprocAttr])|((refine V_region (by rw [hn];rfl) ?_);intro K hK)|((first|with_reducible refine evOps_n ?_|((with_reducible apply evOps_g);rfl));intro K hK;simp (contextual:=true) only [go_sem,simprocAttr])|with_reducible refine evOps_nil ?_|((with_reducible refine hK _ ?_);clear hK K)|(with_reducible first|refine And.intro ?_ ?_|refine nxt_n ?_|refine nxt_r ?_|refine inR_mk ?_ ?_)|((with_reducible refine evCall_at 148 ?_);refine EvCall.mk (hmo) cal_l06Moving [(0,2)] [] (by simp [go_sem] <;> (repeat' (first|rfl|constructor))) (by simp [go_sem] <;> (repeat' (first|rfl|constructor))) ?_;all_goals try simp only [go_sem,simprocAttr])|(refine fun (hc : (_ : Bool) = _)=>?_;try simp only [hcS] at hc))
    all_goals try exact om_
    · (first|refine ret_auto ?_|refine ret_auto' ?_);simp only [go_sem,simprocAttr,Tryz.f106]
theorem cal_movable : Callable Tryz.prog 111:=⟨_,Tryz.func111,rfl,rfl⟩
theorem sp_movable {c d : Cat} (bc : CatB c) (bd : CatB d) (sc : Shape c) (sd : Shape d) : Spec Tryz.prog 111 [.bptr [] (catD c),.bptr [] (catD d)] [] (bv (dec (MovP c d))) []:=by
  refine spec_of_V (E:=TE) 0 Tryz.func111 rfl (by simp [Tryz.f111]) fun X hn hX=>?_
  have m40:=sc.m40
  have n40:=sd.m40
  have c0:=sc.ob0
  have c8:=sc.ob8
  have d0:=sd.ob0
  by_cases h1 : (c.fr.length : Int) - c.ob ≤ 8
  · by_cases h2 : (d.fr.length : Int) ≤ 16
    · rw [show dec (MovP c d) = true from dec_t ⟨by omega,by omega⟩]
      repeat' (first|(with_reducible first|refine V_seq ?_|refine V_skip ?_|refine V_ret ?_)|((with_reducible refine V_cond ?_);simp only [go_sem,simprocAttr])|((first|refine V_region (by rw [hn];rfl) ?_|refine V_drawn hmix (by rw [hn];rfl) ?_);intro K hK)|((first|with_reducible refine evOps_n ?_|((with_reducible apply evOps_g);rfl)|with_reducible refine evOpsD_n ?_|((with_reducible apply evOpsD_g);rfl));intro K hK;simp (contextual:=true) only [go_sem,simprocAttr])|with_reducible refine evOps_nil ?_|((with_reducible refine evOpsD_nil ?_ ?_);kernel_rfl)|((with_reducible refine hK _ ?_);clear hK K)|(with_reducible first|refine And.intro ?_ ?_|refine nxt_n ?_|refine nxt_r ?_|refine inR_mk ?_ ?_)|((with_reducible refine evCall_at 69 ?_);refine EvCall.rq (a:=(sp_Category_arrows)) (b:=cal_Category_arrows) (c:=?_);all_goals try simp only [go_sem,simprocAttr])|(refine fun (hc : (_ : Bool) = _)=>?_;try simp only [hcS] at hc))
      all_goals try exact om_
      · (first|refine ret_auto ?_|refine ret_auto' ?_);simp only [go_sem,simprocAttr,Tryz.f111]
        exact congrArg (fun b=>Sv.v (Value.bool b)) (decide_eq_true h2)
    · rw [show dec (MovP c d) = false from dec_f fun h=>by have:=h.2;omega]
      repeat' (first|(with_reducible first|refine V_seq ?_|refine V_skip ?_|refine V_ret ?_)|((with_reducible refine V_cond ?_);simp only [go_sem,simprocAttr])|((first|refine V_region (by rw [hn];rfl) ?_|refine V_drawn hmix (by rw [hn];rfl) ?_);intro K hK)|((first|with_reducible refine evOps_n ?_|((with_reducible apply evOps_g);rfl)|with_reducible refine evOpsD_n ?_|((with_reducible apply evOpsD_g);rfl));intro K hK;simp (contextual:=true) only [go_sem,simprocAttr])|with_reducible refine evOps_nil ?_|((with_reducible refine evOpsD_nil ?_ ?_);kernel_rfl)|((with_reducible refine hK _ ?_);clear hK K)|(with_reducible first|refine And.intro ?_ ?_|refine nxt_n ?_|refine nxt_r ?_|refine inR_mk ?_ ?_)|((with_reducible refine evCall_at 69 ?_);refine EvCall.rq (a:=(sp_Category_arrows)) (b:=cal_Category_arrows) (c:=?_);all_goals try simp only [go_sem,simprocAttr])|(refine fun (hc : (_ : Bool) = _)=>?_;try simp only [hcS] at hc))
      all_goals try exact om_
      · (first|refine ret_auto ?_|refine ret_auto' ?_);simp only [go_sem,simprocAttr,Tryz.f111]
        exact congrArg (fun b=>Sv.v (Value.bool b)) (decide_eq_false h2)
  · rw [show dec (MovP c d) = false from dec_f fun h=>by have:=h.1;omega]
    repeat' (first|(with_reducible first|refine V_seq ?_|refine V_skip ?_|refine V_ret ?_)|((with_reducible refine V_cond ?_);simp only [go_sem,simprocAttr])|((first|refine V_region (by rw [hn];rfl) ?_|refine V_drawn hmix (by rw [hn];rfl) ?_);intro K hK)|((first|with_reducible refine evOps_n ?_|((with_reducible apply evOps_g);rfl)|with_reducible refine evOpsD_n ?_|((with_reducible apply evOpsD_g);rfl));intro K hK;simp (contextual:=true) only [go_sem,simprocAttr])|with_reducible refine evOps_nil ?_|((with_reducible refine evOpsD_nil ?_ ?_);kernel_rfl)|((with_reducible refine hK _ ?_);clear hK K)|(with_reducible first|refine And.intro ?_ ?_|refine nxt_n ?_|refine nxt_r ?_|refine inR_mk ?_ ?_)|((with_reducible refine evCall_at 69 ?_);refine EvCall.rq (a:=(sp_Category_arrows)) (b:=cal_Category_arrows) (c:=?_);all_goals try simp only [go_sem,simprocAttr])|(refine fun (hc : (_ : Bool) = _)=>?_;try simp only [hcS] at hc))
    all_goals try exact om_
    · (first|refine ret_auto ?_|refine ret_auto' ?_);simp only [go_sem,simprocAttr,Tryz.f111]
end Go.Eng
