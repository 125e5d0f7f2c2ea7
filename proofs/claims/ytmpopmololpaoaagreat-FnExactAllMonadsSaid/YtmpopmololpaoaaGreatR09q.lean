/- Functors, by the reference: all of them; what is small enough. -/
import Derived.Test.YtmpopmololpaoaaGreatR08q
set_option linter.unusedSimpArgs false
set_option linter.unusedVariables false
set_option maxRecDepth 100000
set_option maxHeartbeats 16000000
namespace Go.Eng
open Go Go.Proofs Go.Cats
noncomputable def funL (c d : Cat) : List Fun:=(funX c d false c.ob.toNat []).take 201
theorem cal_l06All : Callable Tryz.prog 107:=⟨_,Tryz.func107,rfl,rfl⟩
theorem sp_l06All {c d : Cat} (sc : IsCat c) (sd : IsCat d) (bc : CatB c) (bd : CatB d) : Spec Tryz.prog 107 [catV c,catV d] [] (.sl 0) [(0,⟨1,.arr (funsD (funL c d))⟩)]:=by
  refine spec_of_V (E:=TE) 0 Tryz.func107 rfl (by simp [Tryz.f107]) fun X hn hX=>?_
  have c0:=sc.toShape.ob0
  have hse:=sp_l06Search_n sc sd bc bd c.ob.toNat [] [] (by simp;omega) (fun i hi=>absurd hi (Nat.not_lt_zero i)) (by decide)
  rw [List.nil_append,show (funX c d false c.ob.toNat []).take 201 = funL c d from rfl] at hse
  repeat' (first|(with_reducible first|refine V_seq ?_|refine V_skip ?_|refine V_ret ?_)|((with_reducible refine V_cond ?_);simp only [go_sem,simprocAttr])|((refine V_region (by rw [hn];rfl) ?_);intro K hK)|((first|with_reducible refine evOps_n ?_|((with_reducible apply evOps_g);rfl));intro K hK;simp (contextual:=true) only [go_sem,simprocAttr])|with_reducible refine evOps_nil ?_|((with_reducible refine hK _ ?_);clear hK K)|(with_reducible first|refine And.intro ?_ ?_|refine nxt_n ?_|refine nxt_r ?_|refine inR_mk ?_ ?_)|((with_reducible refine evCall_at 149 ?_);refine EvCall.mk (hse) cal_l06Search [(0,3),(1,4)] [2] (by simp [go_sem] <;> (repeat' (first|rfl|constructor))) (by simp [go_sem] <;> (repeat' (first|rfl|constructor))) ?_;all_goals try simp only [go_sem,simprocAttr])|(refine fun (hc : (_ : Bool) = _)=>?_;try simp only [hcS] at hc))
  all_goals try exact om_
  · (first|refine ret_auto ?_|refine ret_auto' ?_);simp only [go_sem,simprocAttr,Tryz.f107]
def movL (c : Cat) (f : Nat) : List Int:=((List.range f).filter fun f=>!decide (c.id.getD (c.fr.getD f 0).toNat 0 = f)).map fun f : Nat=>(f : Int)
theorem movL_zero (c : Cat) : movL c 0 = []:=rfl
theorem movL_unit {c : Cat} {f : Nat} (h : c.id.getD (c.fr.getD f 0).toNat 0 = f) : movL c (f + 1) = movL c f:=by
  unfold movL
  rw [List.range_succ,List.filter_append,List.filter_cons_of_neg (by rw [decide_eq_true h];decide),List.filter_nil,List.append_nil]
theorem movL_move {c : Cat} {f : Nat} (h : ¬ c.id.getD (c.fr.getD f 0).toNat 0 = f) : movL c (f + 1) = movL c f ++ [(f : Int)]:=by
  unfold movL
  rw [List.range_succ,List.filter_append,List.filter_cons_of_pos (by rw [decide_eq_false h];decide),List.filter_nil,List.map_append]
  rfl
theorem movL_le (c : Cat) (f : Nat) : (movL c f).length ≤ f:=by
  unfold movL
  rw [List.length_map]
  exact Nat.le_trans (List.length_filter_le _ _) (by rw [List.length_range];exact Nat.le_refl _)
attribute [local go_sem] movL_zero
theorem cal_l02Unit : Callable Tryz.prog 168:=⟨_,Tryz.func168,rfl,rfl⟩
theorem sp_l02Unit {c : Cat} {f : Nat} (hs : Shape c) (hf : f < c.fr.length) : Spec Tryz.prog 168 [catV c,iv f] [] (bv (decide (c.id.getD (c.fr.getD f 0).toNat 0 = f))) []:=by
  refine spec_of_V (E:=TE) 0 Tryz.func168 rfl (by simp [Tryz.f168]) fun X hn hX=>?_
  have f1:=hs.frw f hf
  have f2:=hs.idl
  repeat' (first|(with_reducible first|refine V_seq ?_|refine V_skip ?_|refine V_ret ?_)|((with_reducible refine V_cond ?_);simp only [go_sem,simprocAttr])|((first|refine V_region (by rw [hn];rfl) ?_|refine V_drawn hmix (by rw [hn];rfl) ?_);intro K hK)|((first|with_reducible refine evOps_n ?_|((with_reducible apply evOps_g);rfl)|with_reducible refine evOpsD_n ?_|((with_reducible apply evOpsD_g);rfl));intro K hK;simp (contextual:=true) only [go_sem,simprocAttr])|with_reducible refine evOps_nil ?_|((with_reducible refine evOpsD_nil ?_ ?_);kernel_rfl)|((with_reducible refine hK _ ?_);clear hK K)|(with_reducible first|refine And.intro ?_ ?_|refine nxt_n ?_|refine nxt_r ?_|refine inR_mk ?_ ?_)|(refine fun (hc : (_ : Bool) = _)=>?_;try simp only [hcS] at hc))
  all_goals try exact om_
  · (first|refine ret_auto ?_|refine ret_auto' ?_);simp only [go_sem,simprocAttr,Tryz.f168]
theorem cal_l06Moving : Callable Tryz.prog 148:=⟨_,Tryz.func148,rfl,rfl⟩
theorem sp_l06Moving {c : Cat} (sc : Shape c) : Spec Tryz.prog 148 [catV c] [] (.sl 0) [(0,⟨1,.arr (ints (movL c c.fr.length))⟩)]:=by
  refine spec_of_V (E:=TE) 0 Tryz.func148 rfl (by simp [Tryz.f148]) fun X hn hX=>?_
  have m40:=sc.m40
  repeat' (first|(with_reducible first|refine V_seq ?_|refine V_block ?_|refine V_skip ?_|refine V_ret ?_|refine V_exit ?_)|((with_reducible refine V_cond ?_);simp only [go_sem,simprocAttr])|((refine V_region (by rw [hn];rfl) ?_);intro K hK)|((first|with_reducible refine evOps_n ?_|((with_reducible apply evOps_g);rfl));intro K hK;simp (contextual:=true) only [go_sem,simprocAttr])|with_reducible refine evOps_nil ?_|((with_reducible refine hK _ ?_);clear hK K)|(with_reducible first|refine And.intro ?_ ?_|refine nxt_n ?_|refine nxt_r ?_|refine nxt_e ?_|refine blk_n ?_|refine blk_r ?_|refine blk_same ?_|refine blk_other (by decide) ?_|refine noG_n ?_|refine noG_r ?_|refine noG_e ?_|refine inR_mk ?_ ?_)|(refine fun (hc : (_ : Bool) = _)=>?_;try simp only [hcS] at hc))
  all_goals try exact om_
  refine V_loopK (G:={f : Nat // f ≤ c.fr.length ∧ (True)}) (fun ⟨f,_⟩=>[(4,iv f),(3,.sl 1)]) [1,2] (fun ⟨f,_⟩=>[(1,⟨1,.arr (ints (movL c f))⟩)]) [1] (fun zz=>c.fr.length - zz.1) ⟨0,Nat.zero_le _,by first|trivial|simp⟩ ?_ ?_
  · exact Imp.au hX
  rintro ⟨f,hif,hwf⟩
  simp only [go_sem,simprocAttr]
  have ml:=movL_le c f
  rcases Nat.lt_or_ge f c.fr.length with hlt | hge
  · have hu:=sp_l02Unit sc hlt
    by_cases h : c.id.getD (c.fr.getD f 0).toNat 0 = f
    · have e1:=movL_unit h
      rw [decide_eq_true h] at hu
      repeat' (first|(with_reducible first|refine V_seq ?_|refine V_block ?_|refine V_skip ?_|refine V_ret ?_|refine V_exit ?_)|((with_reducible refine V_cond ?_);simp only [go_sem,simprocAttr])|((refine V_region (by rw [hn];rfl) ?_);intro K hK)|((first|with_reducible refine evOps_n ?_|((with_reducible apply evOps_g);rfl));intro K hK;simp (contextual:=true) only [go_sem,simprocAttr])|with_reducible refine evOps_nil ?_|((with_reducible refine hK _ ?_);clear hK K)|(with_reducible first|refine And.intro ?_ ?_|refine nxt_n ?_|refine nxt_r ?_|refine nxt_e ?_|refine blk_n ?_|refine blk_r ?_|refine blk_same ?_|refine blk_other (by decide) ?_|refine noG_n ?_|refine noG_r ?_|refine noG_e ?_|refine inR_mk ?_ ?_)|((with_reducible refine evCall_at 168 ?_);refine EvCall.mk (hu) cal_l02Unit [] [] (by simp [go_sem] <;> (repeat' (first|rfl|constructor))) (by simp [go_sem] <;> (repeat' (first|rfl|constructor))) ?_;all_goals try simp only [go_sem,simprocAttr])|(refine fun (hc : (_ : Bool) = _)=>?_;try simp only [hcS] at hc))
      all_goals try exact om_
      · refine ⟨⟨f + 1,by omega,(by trivial)⟩,by simp only;omega,Imp.auto hX (by simp only [go_sem,simprocAttr,e1])⟩
    · have e1:=movL_move h
      rw [decide_eq_false h] at hu
      repeat' (first|(with_reducible first|refine V_seq ?_|refine V_block ?_|refine V_skip ?_|refine V_ret ?_|refine V_exit ?_)|((with_reducible refine V_cond ?_);simp only [go_sem,simprocAttr])|((refine V_region (by rw [hn];rfl) ?_);intro K hK)|((first|with_reducible refine evOps_n ?_|((with_reducible apply evOps_g);rfl));intro K hK;simp (contextual:=true) only [go_sem,simprocAttr])|with_reducible refine evOps_nil ?_|((with_reducible refine hK _ ?_);clear hK K)|(with_reducible first|refine And.intro ?_ ?_|refine nxt_n ?_|refine nxt_r ?_|refine nxt_e ?_|refine blk_n ?_|refine blk_r ?_|refine blk_same ?_|refine blk_other (by decide) ?_|refine noG_n ?_|refine noG_r ?_|refine noG_e ?_|refine inR_mk ?_ ?_)|((with_reducible refine evCall_at 168 ?_);refine EvCall.mk (hu) cal_l02Unit [] [] (by simp [go_sem] <;> (repeat' (first|rfl|constructor))) (by simp [go_sem] <;> (repeat' (first|rfl|constructor))) ?_;all_goals try simp only [go_sem,simprocAttr])|(refine fun (hc : (_ : Bool) = _)=>?_;try simp only [hcS] at hc))
      all_goals try exact om_
      · refine ⟨⟨f + 1,by omega,(by trivial)⟩,by simp only;omega,Imp.auto hX (by simp only [go_sem,simprocAttr,e1])⟩
  · have ef : f = c.fr.length:=by omega
    subst ef
    repeat' (first|(with_reducible first|refine V_seq ?_|refine V_block ?_|refine V_skip ?_|refine V_ret ?_|refine V_exit ?_)|((with_reducible refine V_cond ?_);simp only [go_sem,simprocAttr])|((refine V_region (by rw [hn];rfl) ?_);intro K hK)|((first|with_reducible refine evOps_n ?_|((with_reducible apply evOps_g);rfl));intro K hK;simp (contextual:=true) only [go_sem,simprocAttr])|with_reducible refine evOps_nil ?_|((with_reducible refine hK _ ?_);clear hK K)|(with_reducible first|refine And.intro ?_ ?_|refine nxt_n ?_|refine nxt_r ?_|refine nxt_e ?_|refine blk_n ?_|refine blk_r ?_|refine blk_same ?_|refine blk_other (by decide) ?_|refine noG_n ?_|refine noG_r ?_|refine noG_e ?_|refine inR_mk ?_ ?_)|(refine fun (hc : (_ : Bool) = _)=>?_;try simp only [hcS] at hc))
    all_goals try exact om_
    · (first|refine ret_auto ?_|refine ret_auto' ?_);simp only [go_sem,simprocAttr,Tryz.f148]
end Go.Eng
