/- Several texts in one: Q25, Q26. -/
import Derived.Test.YtgbjgeignbjjnaaGreatKnx
import Derived.Test.YtgbjgeignbjjnaaGreatEngMnq
set_option linter.unusedSimpArgs false
set_option linter.unusedVariables false
set_option maxRecDepth 100000
set_option maxHeartbeats 16000000
section
namespace Go.Eng
open Go Go.Proofs Go.Cats
attribute [local go_sem] List.set_cons_zero List.set_cons_succ clsI_zero
theorem mapN : MapN Tryz.prog 130 2 2:=⟨Tryz.underlying130,Tryz.underlying2,Tryz.underlying2,fun w=>by
  have h1 : (Tryz.prog.info? 2).bind (·.zero) = some (.int .i64 0):=by
    show (Tryz.prog.types[2]?).bind (·.zero) = _
    rw [Tryz.type2];rfl
  cases h2 : Tryz.prog.info? 2 with
  | none=>rw [h2] at h1;cases h1
  | some i =>
    rw [h2] at h1
    have h3 : i.zero = some (.int .i64 0):=h1
    simp [zeroValue,typeInfo,h2,h3]⟩
theorem rep_set {A : List Int} {n i : Nat} {v : Int} (hA : A.length = i) (h : i < n) : (A ++ List.replicate (n - i) 0).set i v = (A ++ [v]) ++ List.replicate (n - (i + 1)) 0:=by
  rw [List.set_append_right _ _ (by omega),hA,Nat.sub_self,show n - i = (n - (i + 1)) + 1 by omega,List.replicate_succ,List.set_cons_zero,List.append_assoc]
  rfl
theorem cal_normal : Callable Tryz.prog 105:=⟨_,Tryz.func105,rfl,rfl⟩
theorem sp_normal {l : List Int} (hl : l.length ≤ 1048576) (hr : ∀ i,i < l.length → inR (l.getD i 0)) : Spec Tryz.prog 105 [.bor [] (ints l)] [] (.sl 0) [(0,⟨1,.arr (ints (clsI l l.length).1)⟩)]:=by
  refine spec_of_V (E:=TE) 0 Tryz.func105 rfl (by simp [Tryz.f105]) fun X hn hX=>?_
  repeat' (first|(with_reducible first|refine V_seq ?_|refine V_block ?_|refine V_skip ?_|refine V_ret ?_|refine V_exit ?_)|((with_reducible refine V_cond ?_);simp only [go_sem,simprocAttr])|((refine V_region (by rw [hn];rfl) ?_);intro K hK)|((first|with_reducible refine evOps_n ?_|((with_reducible apply evOps_g);rfl));intro K hK;simp (contextual:=true) only [go_sem,simprocAttr])|with_reducible refine evOps_nil ?_|((with_reducible refine hK _ ?_);clear hK K)|(with_reducible first|refine And.intro ?_ ?_|refine nxt_n ?_|refine nxt_r ?_|refine nxt_e ?_|refine blk_n ?_|refine blk_r ?_|refine blk_same ?_|refine blk_other (by decide) ?_|refine noG_n ?_|refine noG_r ?_|refine noG_e ?_|refine inR_mk ?_ ?_)|(refine hook_makeN (k:=2) (e:=2) (by simp only [go_sem,simprocAttr]) ?_;simp only [go_sem,simprocAttr])|(refine fun (hc : (_ : Bool) = _)=>?_;try simp only [hcS] at hc))
  all_goals try exact om_
  refine V_loopK (G:={i : Nat // i ≤ l.length ∧ (True)}) (fun ⟨i,_⟩=>[(15,iv i),(3,.sl 0),(4,.sl 1)]) [2,13,14] (fun ⟨i,_⟩=>[(0,⟨1,.arr (numD TE.P 2 2 (clsI l i).2)⟩),(1,⟨1,.arr (ints ((clsI l i).1 ++ List.replicate (l.length - i) 0))⟩)]) [0,1] (fun zz=>l.length - zz.1) ⟨0,Nat.zero_le _,by first|trivial|simp⟩ ?_ ?_
  · exact Imp.au hX
  rintro ⟨i,hii,hwi⟩
  simp only [go_sem,simprocAttr]
  obtain ⟨f1,f2,_⟩:=clsI_facts l i
  have fl : ((clsI l i).1 ++ List.replicate (l.length - i) 0).length = l.length:=by rw [List.length_append,List.length_replicate];omega
  rcases Nat.lt_or_ge i l.length with hlt | hge
  · have hri:=hr i hlt
    have hml : (clsI l i).2.length < maxLen:=by unfold maxLen;omega
    by_cases q : idxOf (clsI l i).2 (l.getD i 0) < 0
    · have e1:=clsI_new q
      have hd1 : decide (0 ≤ idxOf (clsI l i).2 (l.getD i 0)) = false:=decide_eq_false (by omega)
      have hs:=rep_set (v:=((clsI l i).2.length : Int)) f1 hlt
      repeat' (first|((refine V_regionX (id:=8) (by rw [hn];rfl) ?_);intro K hK)|(refine evOpsX_h ?_;intro K hK;refine hook_lenN (k:=2) (e:=2) (i:=0) (cv:=1) (S:=(clsI l i).2) mapN (by simp only [go_sem,simprocAttr]) rfl ?_;simp only [go_sem,simprocAttr])|((with_reducible refine evOpsX_n ?_);intro K hK;simp (contextual:=true) only [go_sem,simprocAttr])|(with_reducible refine evOpsX_nil ?_)|(with_reducible first|refine V_seq ?_|refine V_block ?_|refine V_skip ?_|refine V_ret ?_|refine V_exit ?_)|((with_reducible refine V_cond ?_);simp only [go_sem,simprocAttr])|((refine V_region (by rw [hn];rfl) ?_);intro K hK)|((first|with_reducible refine evOps_n ?_|((with_reducible apply evOps_g);rfl));intro K hK;simp (contextual:=true) only [go_sem,simprocAttr])|with_reducible refine evOps_nil ?_|((with_reducible refine hK _ ?_);clear hK K)|(with_reducible first|refine And.intro ?_ ?_|refine nxt_n ?_|refine nxt_r ?_|refine nxt_e ?_|refine blk_n ?_|refine blk_r ?_|refine blk_same ?_|refine blk_other (by decide) ?_|refine noG_n ?_|refine noG_r ?_|refine noG_e ?_|refine inR_mk ?_ ?_)|(refine hook_lookN (i:=0) (cv:=1) (S:=(clsI l i).2) (v:=l.getD i 0) mapN (by simp only [go_sem,simprocAttr]) rfl (by simp only [go_sem,simprocAttr]) hri ?_;rw [hd1];simp only [go_sem,simprocAttr])|(refine hook_putN (i:=0) (cv:=1) (S:=(clsI l i).2) (y:=l.getD i 0) mapN rfl (by simp only [go_sem,simprocAttr]) rfl (by simp only [go_sem,simprocAttr]) hri (by simp only [go_sem,simprocAttr]) hml q ?_;simp only [go_sem,simprocAttr])|(refine fun (hc : (_ : Bool) = _)=>?_;try simp only [hcS] at hc))
      all_goals try exact om_
      · refine ⟨⟨i + 1,by omega,(by trivial)⟩,by simp only;omega,Imp.auto hX (by simp only [go_sem,simprocAttr,e1,hs])⟩
    · have e1:=clsI_old q
      have q0 : 0 ≤ idxOf (clsI l i).2 (l.getD i 0):=by omega
      have hd1 : decide (0 ≤ idxOf (clsI l i).2 (l.getD i 0)) = true:=decide_eq_true q0
      have hs:=rep_set (v:=idxOf (clsI l i).2 (l.getD i 0)) f1 hlt
      repeat' (first|(with_reducible first|refine V_seq ?_|refine V_block ?_|refine V_skip ?_|refine V_ret ?_|refine V_exit ?_)|((with_reducible refine V_cond ?_);simp only [go_sem,simprocAttr])|((refine V_region (by rw [hn];rfl) ?_);intro K hK)|((first|with_reducible refine evOps_n ?_|((with_reducible apply evOps_g);rfl));intro K hK;simp (contextual:=true) only [go_sem,simprocAttr])|with_reducible refine evOps_nil ?_|((with_reducible refine hK _ ?_);clear hK K)|(with_reducible first|refine And.intro ?_ ?_|refine nxt_n ?_|refine nxt_r ?_|refine nxt_e ?_|refine blk_n ?_|refine blk_r ?_|refine blk_same ?_|refine blk_other (by decide) ?_|refine noG_n ?_|refine noG_r ?_|refine noG_e ?_|refine inR_mk ?_ ?_)|(refine hook_lookN (i:=0) (cv:=1) (S:=(clsI l i).2) (v:=l.getD i 0) mapN (by simp only [go_sem,simprocAttr]) rfl (by simp only [go_sem,simprocAttr]) hri ?_;rw [hd1,if_pos q0];simp only [go_sem,simprocAttr])|(refine fun (hc : (_ : Bool) = _)=>?_;try simp only [hcS] at hc))
      all_goals try exact om_
      · refine ⟨⟨i + 1,by omega,(by trivial)⟩,by simp only;omega,Imp.auto hX (by simp only [go_sem,simprocAttr,e1,hs])⟩
  · have ei : i = l.length:=by omega
    subst ei
    rw [Nat.sub_self,List.replicate_zero,List.append_nil]
    repeat' (first|(with_reducible first|refine V_seq ?_|refine V_block ?_|refine V_skip ?_|refine V_ret ?_|refine V_exit ?_)|((with_reducible refine V_cond ?_);simp only [go_sem,simprocAttr])|((refine V_region (by rw [hn];rfl) ?_);intro K hK)|((first|with_reducible refine evOps_n ?_|((with_reducible apply evOps_g);rfl));intro K hK;simp (contextual:=true) only [go_sem,simprocAttr])|with_reducible refine evOps_nil ?_|((with_reducible refine hK _ ?_);clear hK K)|(with_reducible first|refine And.intro ?_ ?_|refine nxt_n ?_|refine nxt_r ?_|refine nxt_e ?_|refine blk_n ?_|refine blk_r ?_|refine blk_same ?_|refine blk_other (by decide) ?_|refine noG_n ?_|refine noG_r ?_|refine noG_e ?_|refine inR_mk ?_ ?_)|(refine fun (hc : (_ : Bool) = _)=>?_;try simp only [hcS] at hc))
    all_goals try exact om_
    · (first|refine ret_auto ?_|refine ret_auto' ?_);simp only [go_sem,simprocAttr,Tryz.f105]
end Go.Eng
end
section
namespace Go.Eng
open Go Go.Proofs Go.Cats
attribute [local go_sem] List.set_cons_zero List.set_cons_succ
def rtL (J : List Int) (n : Nat) : List Int:=(List.range n).map fun x=>(rt J x : Int)
@[go_sem] theorem rtL_zero (J : List Int) : rtL J 0 = []:=rfl
theorem rtL_len (J : List Int) (n : Nat) : (rtL J n).length = n:=by simp [rtL]
theorem rtL_succ (J : List Int) (n : Nat) : rtL J (n + 1) = rtL J n ++ [(rt J n : Int)]:=by simp [rtL,List.range_succ]
theorem rtL_at {J : List Int} {n i : Nat} (h : i < n) : (rtL J n).getD i 0 = rt J i:=by
  unfold rtL
  rw [List.getD_eq_getElem?_getD,List.getElem?_map,List.getElem?_range h];rfl
@[go_sem] theorem lbN_zero (J : List Int) : lbN J 0 = J:=rfl
theorem cal_joiner_partition : Callable Tryz.prog 95:=⟨_,Tryz.func95,rfl,rfl⟩
theorem sp_joiner_partition {J : List Int} (hu : UF J) (hl : J.length ≤ 1048576) : Spec Tryz.prog 95 [.sl 0] [(0,⟨1,.arr (ints J)⟩)] (.sl 1) [(0,⟨1,.arr (ints (lbN J J.length))⟩),(1,⟨1,.arr (ints (clsI (rtL J J.length) J.length).1)⟩)]:=by
  refine spec_of_V (E:=TE) 1 Tryz.func95 rfl (by simp [Tryz.f95]) fun X hn hX=>?_
  repeat' (first|(with_reducible first|refine V_seq ?_|refine V_block ?_|refine V_skip ?_|refine V_ret ?_|refine V_exit ?_)|((with_reducible refine V_cond ?_);simp only [go_sem,simprocAttr])|((refine V_region (by rw [hn];rfl) ?_);intro K hK)|((first|with_reducible refine evOps_n ?_|((with_reducible apply evOps_g);rfl));intro K hK;simp (contextual:=true) only [go_sem,simprocAttr])|with_reducible refine evOps_nil ?_|((with_reducible refine hK _ ?_);clear hK K)|(with_reducible first|refine And.intro ?_ ?_|refine nxt_n ?_|refine nxt_r ?_|refine nxt_e ?_|refine blk_n ?_|refine blk_r ?_|refine blk_same ?_|refine blk_other (by decide) ?_|refine noG_n ?_|refine noG_r ?_|refine noG_e ?_|refine inR_mk ?_ ?_)|(refine fun (hc : (_ : Bool) = _)=>?_;try simp only [hcS] at hc))
  all_goals try exact om_
  refine V_loopK (G:={i : Nat // i ≤ J.length ∧ (True)}) (fun ⟨i,_⟩=>[(10,iv i),(3,.sl 1)]) [0,2,9] (fun ⟨i,_⟩=>[(0,⟨1,.arr (ints (lbN J i))⟩),(1,⟨1,.arr (ints (rtL J i ++ List.replicate (J.length - i) 0))⟩)]) [0,1] (fun zz=>J.length - zz.1) ⟨0,Nat.zero_le _,by first|trivial|simp⟩ ?_ ?_
  · exact Imp.au hX
  rintro ⟨i,hii,hwi⟩
  simp only [go_sem,simprocAttr]
  obtain ⟨u1,u2,u3⟩:=lbN_ok hu i (by omega)
  have rl:=rtL_len J i
  have fl : (rtL J i ++ List.replicate (J.length - i) 0).length = J.length:=by rw [List.length_append,List.length_replicate];omega
  rcases Nat.lt_or_ge i J.length with hlt | hge
  · have hroot:=sp_joiner_root (J:=lbN J i) (x:=i) u1 (by omega) (by omega)
    rw [u3 hlt] at hroot
    have e1:=rtL_succ J i
    have e2 : lbN J (i + 1) = hv (lbN J i) i:=rfl
    have hs:=rep_set (v:=(rt J i : Int)) rl hlt
    repeat' (first|(with_reducible first|refine V_seq ?_|refine V_block ?_|refine V_skip ?_|refine V_ret ?_|refine V_exit ?_)|((with_reducible refine V_cond ?_);simp only [go_sem,simprocAttr])|((refine V_region (by rw [hn];rfl) ?_);intro K hK)|((first|with_reducible refine evOps_n ?_|((with_reducible apply evOps_g);rfl));intro K hK;simp (contextual:=true) only [go_sem,simprocAttr])|with_reducible refine evOps_nil ?_|((with_reducible refine hK _ ?_);clear hK K)|(with_reducible first|refine And.intro ?_ ?_|refine nxt_n ?_|refine nxt_r ?_|refine nxt_e ?_|refine blk_n ?_|refine blk_r ?_|refine blk_same ?_|refine blk_other (by decide) ?_|refine noG_n ?_|refine noG_r ?_|refine noG_e ?_|refine inR_mk ?_ ?_)|((with_reducible refine evCall_at 104 ?_);refine EvCall.mk (hroot) cal_joiner_root [(0,0)] [] (by simp [go_sem] <;> (repeat' (first|rfl|constructor))) (by simp [go_sem] <;> (repeat' (first|rfl|constructor))) ?_;all_goals try simp only [go_sem,simprocAttr])|(refine fun (hc : (_ : Bool) = _)=>?_;try simp only [hcS] at hc))
    all_goals try exact om_
    · refine ⟨⟨i + 1,by omega,(by trivial)⟩,by simp only;omega,Imp.auto hX (by simp only [go_sem,simprocAttr,e1,e2,hs])⟩
  · have ei : i = J.length:=by omega
    subst ei
    rw [Nat.sub_self,List.replicate_zero,List.append_nil]
    have hnr : ∀ i,i < (rtL J J.length).length → inR ((rtL J J.length).getD i 0):=fun i hi=>by
      rw [rl] at hi
      rw [rtL_at hi]
      have:=rt_le hu hi
      unfold inR;omega
    have hnm:=sp_normal (l:=rtL J J.length) (by omega) hnr
    rw [rl] at hnm
    repeat' (first|(with_reducible first|refine V_seq ?_|refine V_block ?_|refine V_skip ?_|refine V_ret ?_|refine V_exit ?_)|((with_reducible refine V_cond ?_);simp only [go_sem,simprocAttr])|((refine V_region (by rw [hn];rfl) ?_);intro K hK)|((first|with_reducible refine evOps_n ?_|((with_reducible apply evOps_g);rfl));intro K hK;simp (contextual:=true) only [go_sem,simprocAttr])|with_reducible refine evOps_nil ?_|((with_reducible refine hK _ ?_);clear hK K)|(with_reducible first|refine And.intro ?_ ?_|refine nxt_n ?_|refine nxt_r ?_|refine nxt_e ?_|refine blk_n ?_|refine blk_r ?_|refine blk_same ?_|refine blk_other (by decide) ?_|refine noG_n ?_|refine noG_r ?_|refine noG_e ?_|refine inR_mk ?_ ?_)|((with_reducible refine evCall_at 105 ?_);refine EvCall.mk (hnm) cal_normal [(0,2)] [1] (by simp [go_sem] <;> (repeat' (first|rfl|constructor))) (by simp [go_sem] <;> (repeat' (first|rfl|constructor))) ?_;all_goals try simp only [go_sem,simprocAttr])|(refine fun (hc : (_ : Bool) = _)=>?_;try simp only [hcS] at hc))
    all_goals try exact om_
    · (first|refine ret_auto ?_|refine ret_auto' ?_);simp only [go_sem,simprocAttr,Tryz.f95]
theorem cal_joinerOf : Callable Tryz.prog 92:=⟨_,Tryz.func92,rfl,rfl⟩
theorem sp_joinerOf {n : Nat} (h : n ≤ 1048576) : Spec Tryz.prog 92 [iv n] [] (.sl 0) [(0,⟨1,.arr (ints (nums n))⟩)]:=by
  refine spec_of_V (E:=TE) 0 Tryz.func92 rfl (by simp [Tryz.f92]) fun X hn hX=>?_
  repeat' (first|(with_reducible first|refine V_seq ?_|refine V_skip ?_|refine V_ret ?_)|((with_reducible refine V_cond ?_);simp only [go_sem,simprocAttr])|((refine V_region (by rw [hn];rfl) ?_);intro K hK)|((first|with_reducible refine evOps_n ?_|((with_reducible apply evOps_g);rfl));intro K hK;simp (contextual:=true) only [go_sem,simprocAttr])|with_reducible refine evOps_nil ?_|((with_reducible refine hK _ ?_);clear hK K)|(with_reducible first|refine And.intro ?_ ?_|refine nxt_n ?_|refine nxt_r ?_|refine inR_mk ?_ ?_)|((with_reducible refine evCall_at 103 ?_);refine EvCall.rq (a:=(sp_numbers ?_)) (b:=cal_numbers) (c:=?_);all_goals try simp only [go_sem,simprocAttr])|(refine fun (hc : (_ : Bool) = _)=>?_;try simp only [hcS] at hc))
  all_goals try exact om_
  · (first|refine ret_auto ?_|refine ret_auto' ?_);simp only [go_sem,simprocAttr,Tryz.f92]
end Go.Eng
end
