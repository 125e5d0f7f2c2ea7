/- The subcategory of some arrows by the reference; the skeleton by both. -/
import Derived.Test.YtgbjgeignbjjnaaGreatQ32q
set_option linter.unusedSimpArgs false
set_option linter.unusedVariables false
set_option maxRecDepth 100000
set_option maxHeartbeats 16000000
namespace Go.Eng
open Go Go.Proofs Go.Cats
attribute [local go_sem] List.set_cons_zero List.set_cons_succ obS_zero mp_zero
theorem cal_l02Part : Callable Tryz.prog 41:=⟨_,Tryz.func41,rfl,rfl⟩
theorem sp_l02Part {c : Cat} {A : List Int} (s : IsCat c) (hA : SubA c A) : Spec Tryz.prog 41 [catV c,.bor [] (ints A)] [] (.agg [iv (subC c A).ob,.sl 0,.sl 1,.sl 2,.sl 3]) [(0,⟨1,.arr (ints (subC c A).fr)⟩),(1,⟨1,.arr (ints (subC c A).to)⟩),(2,⟨1,.arr (ints (subC c A).id)⟩),(3,⟨1,.arr (intss (subC c A).co)⟩)]:=by
  refine spec_of_V (E:=TE) 0 Tryz.func41 rfl (by simp [Tryz.f41]) fun X hn hX=>?_
  have o0:=s.toShape.ob0
  have o8:=s.toShape.ob8
  have m40:=s.toShape.m40
  have tol:=s.toShape.tol
  have idl:=s.toShape.idl
  have col:=s.toShape.col
  have al:=hA.len
  have hrow:=fun (g : Int) (h0 : 0 ≤ g) (h1 : g < c.fr.length)=>row_len s.toShape h0 h1
  have hON : (obS c A c.ob.toNat).length ≤ c.ob.toNat:=selP_len _ _
  repeat' (first|(with_reducible first|refine V_seq ?_|refine V_block ?_|refine V_skip ?_|refine V_ret ?_|refine V_exit ?_)|((with_reducible refine V_cond ?_);simp only [go_sem,simprocAttr])|((first|refine V_region (by rw [hn];rfl) ?_|refine V_drawn hmix (by rw [hn];rfl) ?_);intro K hK)|((first|with_reducible refine evOps_n ?_|((with_reducible apply evOps_g);rfl)|with_reducible refine evOpsD_n ?_|((with_reducible apply evOpsD_g);rfl));intro K hK;simp (contextual:=true) only [go_sem,simprocAttr])|with_reducible refine evOps_nil ?_|((with_reducible refine evOpsD_nil ?_ ?_);kernel_rfl)|((with_reducible refine hK _ ?_);clear hK K)|(with_reducible first|refine And.intro ?_ ?_|refine nxt_n ?_|refine nxt_r ?_|refine nxt_e ?_|refine blk_n ?_|refine blk_r ?_|refine blk_same ?_|refine blk_other (by decide) ?_|refine noG_n ?_|refine noG_r ?_|refine noG_e ?_|refine inR_mk ?_ ?_)|(refine fun (hc : (_ : Bool) = _)=>?_;try simp only [hcS] at hc))
  all_goals try exact om_
  refine V_loopK (G:={x : Nat // x ≤ c.ob.toNat ∧ (True)}) (fun ⟨x,_⟩=>[(6,iv x),(5,.sl 2)]) [1,2,4] (fun ⟨x,_⟩=>[(2,⟨1,.arr (ints (obS c A x))⟩)]) [2] (fun zz=>c.ob.toNat - zz.1) ⟨0,Nat.zero_le _,by first|trivial|simp⟩ ?_ ?_
  · exact Imp.au hX
  rintro ⟨x,hix,hwx⟩
  simp only [go_sem,simprocAttr]
  have hol : (obS c A x).length ≤ x:=selP_len _ x
  rcases Nat.lt_or_ge x c.ob.toNat with hlt | hge
  · repeat' (first|(with_reducible first|refine V_seq ?_|refine V_block ?_|refine V_skip ?_|refine V_ret ?_|refine V_exit ?_)|((with_reducible refine V_cond ?_);simp only [go_sem,simprocAttr])|((first|refine V_region (by rw [hn];rfl) ?_|refine V_drawn hmix (by rw [hn];rfl) ?_);intro K hK)|((first|with_reducible refine evOps_n ?_|((with_reducible apply evOps_g);rfl)|with_reducible refine evOpsD_n ?_|((with_reducible apply evOpsD_g);rfl));intro K hK;simp (contextual:=true) only [go_sem,simprocAttr])|with_reducible refine evOps_nil ?_|((with_reducible refine evOpsD_nil ?_ ?_);kernel_rfl)|((with_reducible refine hK _ ?_);clear hK K)|(with_reducible first|refine And.intro ?_ ?_|refine nxt_n ?_|refine nxt_r ?_|refine nxt_e ?_|refine blk_n ?_|refine blk_r ?_|refine blk_same ?_|refine blk_other (by decide) ?_|refine noG_n ?_|refine noG_r ?_|refine noG_e ?_|refine inR_mk ?_ ?_)|((with_reducible refine evCall_at 54 ?_);refine EvCall.rq (a:=(sp_l01Has ?_)) (b:=cal_l01Has) (c:=?_);all_goals try simp only [go_sem,simprocAttr])|(refine fun (hc : (_ : Bool) = _)=>?_;try simp only [hcS] at hc))
    all_goals try exact om_
    · have e2 : obS c A (x + 1) = obS c A x ++ [(x : Int)]:=selP_yes ((by assumption))
      refine ⟨⟨x + 1,by omega,(by trivial)⟩,by simp only;omega,Imp.auto hX (by simp only [go_sem,simprocAttr,e2])⟩
    · have e2 : obS c A (x + 1) = obS c A x:=selP_no (by assumption)
      refine ⟨⟨x + 1,by omega,(by trivial)⟩,by simp only;omega,Imp.auto hX (by simp only [go_sem,simprocAttr,e2])⟩
  · have ex : x = c.ob.toNat:=by omega
    subst ex
    repeat' (first|(with_reducible first|refine V_seq ?_|refine V_block ?_|refine V_skip ?_|refine V_ret ?_|refine V_exit ?_)|((with_reducible refine V_cond ?_);simp only [go_sem,simprocAttr])|((first|refine V_region (by rw [hn];rfl) ?_|refine V_drawn hmix (by rw [hn];rfl) ?_);intro K hK)|((first|with_reducible refine evOps_n ?_|((with_reducible apply evOps_g);rfl)|with_reducible refine evOpsD_n ?_|((with_reducible apply evOpsD_g);rfl));intro K hK;simp (contextual:=true) only [go_sem,simprocAttr])|with_reducible refine evOps_nil ?_|((with_reducible refine evOpsD_nil ?_ ?_);kernel_rfl)|((with_reducible refine hK _ ?_);clear hK K)|(with_reducible first|refine And.intro ?_ ?_|refine nxt_n ?_|refine nxt_r ?_|refine nxt_e ?_|refine blk_n ?_|refine blk_r ?_|refine blk_same ?_|refine blk_other (by decide) ?_|refine noG_n ?_|refine noG_r ?_|refine noG_e ?_|refine inR_mk ?_ ?_)|(refine fun (hc : (_ : Bool) = _)=>?_;try simp only [hcS] at hc))
    all_goals try exact om_
    refine V_loopK (G:={i : Nat // i ≤ (obS c A c.ob.toNat).length ∧ (True)}) (fun ⟨i,_⟩=>[(8,iv i)]) [1,2,4,5,7] (fun ⟨i,_⟩=>[(5,⟨1,.arr (ints (((obS c A c.ob.toNat).take i).map fun x=>idxOf A (c.I x)))⟩)]) [5] (fun zz=>(obS c A c.ob.toNat).length - zz.1) ⟨0,Nat.zero_le _,by first|trivial|simp⟩ ?_ ?_
    · exact Imp.au hX
    rintro ⟨i,hii,hwi⟩
    simp only [go_sem,simprocAttr]
    have hi1 : (((obS c A c.ob.toNat).take i).map fun x=>idxOf A (c.I x)).length ≤ i:=by rw [List.length_map,List.length_take];omega
    rcases Nat.lt_or_ge i (obS c A c.ob.toNat).length with hlt2 | hge2
    · have hm:=(mem_obS s.toShape).1 (getD_mem (d:=(0 : Int)) hlt2)
      have e1:=mp_succ (h:=fun x=>idxOf A (c.I x)) hlt2
      repeat' (first|(with_reducible first|refine V_seq ?_|refine V_block ?_|refine V_skip ?_|refine V_ret ?_|refine V_exit ?_)|((with_reducible refine V_cond ?_);simp only [go_sem,simprocAttr])|((first|refine V_region (by rw [hn];rfl) ?_|refine V_drawn hmix (by rw [hn];rfl) ?_);intro K hK)|((first|with_reducible refine evOps_n ?_|((with_reducible apply evOps_g);rfl)|with_reducible refine evOpsD_n ?_|((with_reducible apply evOpsD_g);rfl));intro K hK;simp (contextual:=true) only [go_sem,simprocAttr])|with_reducible refine evOps_nil ?_|((with_reducible refine evOpsD_nil ?_ ?_);kernel_rfl)|((with_reducible refine hK _ ?_);clear hK K)|(with_reducible first|refine And.intro ?_ ?_|refine nxt_n ?_|refine nxt_r ?_|refine nxt_e ?_|refine blk_n ?_|refine blk_r ?_|refine blk_same ?_|refine blk_other (by decide) ?_|refine noG_n ?_|refine noG_r ?_|refine noG_e ?_|refine inR_mk ?_ ?_)|((with_reducible refine evCall_at 55 ?_);refine EvCall.rq (a:=(sp_l01Index ?_)) (b:=cal_l01Index) (c:=?_);all_goals try simp only [go_sem,simprocAttr])|(refine fun (hc : (_ : Bool) = _)=>?_;try simp only [hcS] at hc))
      all_goals try exact om_
      · refine ⟨⟨i + 1,by omega,(by trivial)⟩,by simp only;omega,Imp.auto hX (by simp only [go_sem,simprocAttr,e1])⟩
    · have ei : i = (obS c A c.ob.toNat).length:=by omega
      subst ei
      have e1 : (((obS c A c.ob.toNat).take (obS c A c.ob.toNat).length).map fun x=>idxOf A (c.I x)) = (subC c A).id:=by rw [List.take_length];rfl
      rw [e1]
      repeat' (first|(with_reducible first|refine V_seq ?_|refine V_block ?_|refine V_skip ?_|refine V_ret ?_|refine V_exit ?_)|((with_reducible refine V_cond ?_);simp only [go_sem,simprocAttr])|((first|refine V_region (by rw [hn];rfl) ?_|refine V_drawn hmix (by rw [hn];rfl) ?_);intro K hK)|((first|with_reducible refine evOps_n ?_|((with_reducible apply evOps_g);rfl)|with_reducible refine evOpsD_n ?_|((with_reducible apply evOpsD_g);rfl));intro K hK;simp (contextual:=true) only [go_sem,simprocAttr])|with_reducible refine evOps_nil ?_|((with_reducible refine evOpsD_nil ?_ ?_);kernel_rfl)|((with_reducible refine hK _ ?_);clear hK K)|(with_reducible first|refine And.intro ?_ ?_|refine nxt_n ?_|refine nxt_r ?_|refine nxt_e ?_|refine blk_n ?_|refine blk_r ?_|refine blk_same ?_|refine blk_other (by decide) ?_|refine noG_n ?_|refine noG_r ?_|refine noG_e ?_|refine inR_mk ?_ ?_)|(refine fun (hc : (_ : Bool) = _)=>?_;try simp only [hcS] at hc))
      all_goals try exact om_
      refine V_loopK (G:={k : Nat // k ≤ A.length ∧ (True)}) (fun ⟨k,_⟩=>[(9,iv k)]) [1,2,4,5,7] (fun ⟨k,_⟩=>[(3,⟨1,.arr (ints ((A.take k).map fun f=>idxOf (obS c A c.ob.toNat) (c.F f)))⟩),(4,⟨1,.arr (ints ((A.take k).map fun f=>idxOf (obS c A c.ob.toNat) (c.T f)))⟩),(6,⟨1,.arr (intss ((A.take k).map fun f=>A.map fun g=>idxOf A (c.C f g)))⟩)]) [3,4,6] (fun zz=>A.length - zz.1) ⟨0,Nat.zero_le _,by first|trivial|simp⟩ ?_ ?_
      · exact Imp.au hX
      rintro ⟨k,hik,hwk⟩
      simp only [go_sem,simprocAttr]
      have hk1 : ((A.take k).map fun f=>idxOf (obS c A c.ob.toNat) (c.F f)).length ≤ k:=by rw [List.length_map,List.length_take];omega
      have hk2 : ((A.take k).map fun f=>idxOf (obS c A c.ob.toNat) (c.T f)).length ≤ k:=by rw [List.length_map,List.length_take];omega
      have hk3 : ((A.take k).map fun f=>A.map fun g=>idxOf A (c.C f g)).length ≤ k:=by rw [List.length_map,List.length_take];omega
      rcases Nat.lt_or_ge k A.length with hlt3 | hge3
      · have hf:=getD_mem (d:=(0 : Int)) hlt3
        have hfr:=hA.rng _ hf
        have hF:=s.toShape.objF hfr.1 hfr.2
        have hT:=s.toShape.objT hfr.1 hfr.2
        have e1:=mp_succ (h:=fun f=>idxOf (obS c A c.ob.toNat) (c.F f)) hlt3
        have e2:=mp_succ (h:=fun f=>idxOf (obS c A c.ob.toNat) (c.T f)) hlt3
        have e3:=mp_succ (h:=fun f=>A.map fun g=>idxOf A (c.C f g)) hlt3
        have hrf:=hrow _ hfr.1 hfr.2
        repeat' (first|(with_reducible first|refine V_seq ?_|refine V_block ?_|refine V_skip ?_|refine V_ret ?_|refine V_exit ?_)|((with_reducible refine V_cond ?_);simp only [go_sem,simprocAttr])|((first|refine V_region (by rw [hn];rfl) ?_|refine V_drawn hmix (by rw [hn];rfl) ?_);intro K hK)|((first|with_reducible refine evOps_n ?_|((with_reducible apply evOps_g);rfl)|with_reducible refine evOpsD_n ?_|((with_reducible apply evOpsD_g);rfl));intro K hK;simp (contextual:=true) only [go_sem,simprocAttr])|with_reducible refine evOps_nil ?_|((with_reducible refine evOpsD_nil ?_ ?_);kernel_rfl)|((with_reducible refine hK _ ?_);clear hK K)|(with_reducible first|refine And.intro ?_ ?_|refine nxt_n ?_|refine nxt_r ?_|refine nxt_e ?_|refine blk_n ?_|refine blk_r ?_|refine blk_same ?_|refine blk_other (by decide) ?_|refine noG_n ?_|refine noG_r ?_|refine noG_e ?_|refine inR_mk ?_ ?_)|((with_reducible refine evCall_at 55 ?_);refine EvCall.rq (a:=(sp_l01Index ?_)) (b:=cal_l01Index) (c:=?_);all_goals try simp only [go_sem,simprocAttr])|(refine fun (hc : (_ : Bool) = _)=>?_;try simp only [hcS] at hc))
        all_goals try exact om_
        refine V_loopK (G:={j : Nat // j ≤ A.length ∧ (True)}) (fun ⟨j,_⟩=>[(11,iv j),(10,.sl 12),(76,.sl 8),(91,.sl 10)]) [1,2,4,5,7,9] (fun ⟨j,_⟩=>[(7,⟨1,.box [iv (obS c A c.ob.toNat).length,.sl 9,.sl 11,.sl 5,.sl 6]⟩),(8,⟨1,.arr (ints [idxOf (obS c A c.ob.toNat) (c.fr.getD (A.getD k 0).toNat 0)])⟩),(9,⟨1,.arr (ints ((A.take k).map (fun f=>idxOf (obS c A c.ob.toNat) (c.F f)) ++ [idxOf (obS c A c.ob.toNat) (c.fr.getD (A.getD k 0).toNat 0)]))⟩),(10,⟨1,.arr (ints [idxOf (obS c A c.ob.toNat) (c.to.getD (A.getD k 0).toNat 0)])⟩),(11,⟨1,.arr (ints ((A.take k).map (fun f=>idxOf (obS c A c.ob.toNat) (c.T f)) ++ [idxOf (obS c A c.ob.toNat) (c.to.getD (A.getD k 0).toNat 0)]))⟩),(12,⟨1,.arr (ints ((A.take j).map fun g=>idxOf A (c.C (A.getD k 0) g)))⟩)]) [7,8,9,10,11,12] (fun zz=>A.length - zz.1) ⟨0,Nat.zero_le _,by first|trivial|simp⟩ ?_ ?_
        · exact Imp.au hX
        rintro ⟨j,hij,hwj⟩
        simp only [go_sem,simprocAttr]
        have hj1 : ((A.take j).map fun g=>idxOf A (c.C (A.getD k 0) g)).length ≤ j:=by rw [List.length_map,List.length_take];omega
        rcases Nat.lt_or_ge j A.length with hlt4 | hge4
        · have hg:=getD_mem (d:=(0 : Int)) hlt4
          have hgr:=hA.rng _ hg
          have e4:=mp_succ (h:=fun g=>idxOf A (c.C (A.getD k 0) g)) hlt4
          repeat' (first|(with_reducible first|refine V_seq ?_|refine V_block ?_|refine V_skip ?_|refine V_ret ?_|refine V_exit ?_)|((with_reducible refine V_cond ?_);simp only [go_sem,simprocAttr])|((first|refine V_region (by rw [hn];rfl) ?_|refine V_drawn hmix (by rw [hn];rfl) ?_);intro K hK)|((first|with_reducible refine evOps_n ?_|((with_reducible apply evOps_g);rfl)|with_reducible refine evOpsD_n ?_|((with_reducible apply evOpsD_g);rfl));intro K hK;simp (contextual:=true) only [go_sem,simprocAttr])|with_reducible refine evOps_nil ?_|((with_reducible refine evOpsD_nil ?_ ?_);kernel_rfl)|((with_reducible refine hK _ ?_);clear hK K)|(with_reducible first|refine And.intro ?_ ?_|refine nxt_n ?_|refine nxt_r ?_|refine nxt_e ?_|refine blk_n ?_|refine blk_r ?_|refine blk_same ?_|refine blk_other (by decide) ?_|refine noG_n ?_|refine noG_r ?_|refine noG_e ?_|refine inR_mk ?_ ?_)|((with_reducible refine evCall_at 55 ?_);refine EvCall.rq (a:=(sp_l01Index ?_)) (b:=cal_l01Index) (c:=?_);all_goals try simp only [go_sem,simprocAttr])|(refine fun (hc : (_ : Bool) = _)=>?_;try simp only [hcS] at hc))
          all_goals try exact om_
          · refine ⟨⟨j + 1,by omega,(by (trivial))⟩,by simp only;omega,Imp.auto hX (by simp only [go_sem,simprocAttr,e4])⟩
        · have ej : j = A.length:=by omega
          subst ej
          have e5 : ((A.take A.length).map fun g=>idxOf A (c.C (A.getD k 0) g)) = A.map fun g=>idxOf A (c.C (A.getD k 0) g):=by rw [List.take_length]
          repeat' (first|(with_reducible first|refine V_seq ?_|refine V_block ?_|refine V_skip ?_|refine V_ret ?_|refine V_exit ?_)|((with_reducible refine V_cond ?_);simp only [go_sem,simprocAttr])|((first|refine V_region (by rw [hn];rfl) ?_|refine V_drawn hmix (by rw [hn];rfl) ?_);intro K hK)|((first|with_reducible refine evOps_n ?_|((with_reducible apply evOps_g);rfl)|with_reducible refine evOpsD_n ?_|((with_reducible apply evOpsD_g);rfl));intro K hK;simp (contextual:=true) only [go_sem,simprocAttr])|with_reducible refine evOps_nil ?_|((with_reducible refine evOpsD_nil ?_ ?_);kernel_rfl)|((with_reducible refine hK _ ?_);clear hK K)|(with_reducible first|refine And.intro ?_ ?_|refine nxt_n ?_|refine nxt_r ?_|refine nxt_e ?_|refine blk_n ?_|refine blk_r ?_|refine blk_same ?_|refine blk_other (by decide) ?_|refine noG_n ?_|refine noG_r ?_|refine noG_e ?_|refine inR_mk ?_ ?_)|(refine fun (hc : (_ : Bool) = _)=>?_;try simp only [hcS] at hc))
          all_goals try exact om_
          · refine ⟨⟨k + 1,by omega,(by (trivial))⟩,by simp only;omega,Imp.auto hX (by simp only [go_sem,simprocAttr,e1,e2,e3,e5])⟩
      · have ek : k = A.length:=by omega
        subst ek
        have e6 : ((A.take A.length).map fun f=>idxOf (obS c A c.ob.toNat) (c.F f)) = (subC c A).fr:=by rw [List.take_length];rfl
        have e7 : ((A.take A.length).map fun f=>idxOf (obS c A c.ob.toNat) (c.T f)) = (subC c A).to:=by rw [List.take_length];rfl
        have e8 : ((A.take A.length).map fun f=>A.map fun g=>idxOf A (c.C f g)) = (subC c A).co:=by rw [List.take_length];rfl
        rw [e6,e7,e8]
        repeat' (first|(with_reducible first|refine V_seq ?_|refine V_block ?_|refine V_skip ?_|refine V_ret ?_|refine V_exit ?_)|((with_reducible refine V_cond ?_);simp only [go_sem,simprocAttr])|((first|refine V_region (by rw [hn];rfl) ?_|refine V_drawn hmix (by rw [hn];rfl) ?_);intro K hK)|((first|with_reducible refine evOps_n ?_|((with_reducible apply evOps_g);rfl)|with_reducible refine evOpsD_n ?_|((with_reducible apply evOpsD_g);rfl));intro K hK;simp (contextual:=true) only [go_sem,simprocAttr])|with_reducible refine evOps_nil ?_|((with_reducible refine evOpsD_nil ?_ ?_);kernel_rfl)|((with_reducible refine hK _ ?_);clear hK K)|(with_reducible first|refine And.intro ?_ ?_|refine nxt_n ?_|refine nxt_r ?_|refine nxt_e ?_|refine blk_n ?_|refine blk_r ?_|refine blk_same ?_|refine blk_other (by decide) ?_|refine noG_n ?_|refine noG_r ?_|refine noG_e ?_|refine inR_mk ?_ ?_)|(refine fun (hc : (_ : Bool) = _)=>?_;try simp only [hcS] at hc))
        all_goals try exact om_
        · (first|refine ret_auto ?_|refine ret_auto' ?_);simp only [go_sem,simprocAttr,Tryz.f41]
          rfl
theorem cal_l11Part : Callable Tryz.prog 28:=⟨_,Tryz.func28,rfl,rfl⟩
theorem sp_l11Part {c : Cat} (s : IsCat c) : Spec Tryz.prog 28 [catV c] [] (.agg [iv (skC c).ob,.sl 0,.sl 1,.sl 2,.sl 3]) [(0,⟨1,.arr (ints (skC c).fr)⟩),(1,⟨1,.arr (ints (skC c).to)⟩),(2,⟨1,.arr (ints (skC c).id)⟩),(3,⟨1,.arr (intss (skC c).co)⟩)]:=by
  refine spec_of_V (E:=TE) 0 Tryz.func28 rfl (by simp [Tryz.f28]) fun X hn hX=>?_
  have o0:=s.toShape.ob0
  have o8:=s.toShape.ob8
  have m40:=s.toShape.m40
  have tol:=s.toShape.tol
  have hsl : (skO c c.ob.toNat).length ≤ c.ob.toNat:=selP_len _ _
  have hsk:=sp_l11Skeleton s
  have hfu:=sp_l02Full (c:=c) (O:=skO c c.ob.toNat) (by omega) (by omega) tol
  have hpa:=sp_l02Part (c:=c) (A:=skA c) s (full_sub s _)
  repeat' (first|(with_reducible first|refine V_seq ?_|refine V_skip ?_|refine V_ret ?_)|((with_reducible refine V_cond ?_);simp only [go_sem,simprocAttr])|((first|refine V_region (by rw [hn];rfl) ?_|refine V_drawn hmix (by rw [hn];rfl) ?_);intro K hK)|((first|with_reducible refine evOps_n ?_|((with_reducible apply evOps_g);rfl)|with_reducible refine evOpsD_n ?_|((with_reducible apply evOpsD_g);rfl));intro K hK;simp (contextual:=true) only [go_sem,simprocAttr])|with_reducible refine evOps_nil ?_|((with_reducible refine evOpsD_nil ?_ ?_);kernel_rfl)|((with_reducible refine hK _ ?_);clear hK K)|(with_reducible first|refine And.intro ?_ ?_|refine nxt_n ?_|refine nxt_r ?_|refine inR_mk ?_ ?_)|((with_reducible refine evCall_at 43 ?_);refine EvCall.mk (hsk) cal_l11Skeleton [(0,2)] [] (by simp [go_sem] <;> (repeat' (first|rfl|constructor))) (by simp [go_sem] <;> (repeat' (first|rfl|constructor))) ?_;all_goals try simp only [go_sem,simprocAttr])|((with_reducible refine evCall_at 42 ?_);refine EvCall.mk (hfu) cal_l02Full [(0,3)] [2] (by simp [go_sem] <;> (repeat' (first|rfl|constructor))) (by simp [go_sem] <;> (repeat' (first|rfl|constructor))) ?_;all_goals try simp only [go_sem,simprocAttr])|((with_reducible refine evCall_at 41 ?_);refine EvCall.mk (hpa) cal_l02Part [(0,4),(1,5),(2,6),(3,7)] [3] (by simp [go_sem] <;> (repeat' (first|rfl|constructor))) (by simp [go_sem] <;> (repeat' (first|rfl|constructor))) ?_;all_goals try simp only [go_sem,simprocAttr])|(refine fun (hc : (_ : Bool) = _)=>?_;try simp only [hcS] at hc))
  all_goals try exact om_
  · (first|refine ret_auto ?_|refine ret_auto' ?_);simp only [go_sem,simprocAttr,Tryz.f28]
    first|rfl|exact ⟨⟨rfl,rfl,rfl,rfl⟩,rfl⟩
theorem cal_Category_skeletonArrows : Callable Tryz.prog 66:=⟨_,Tryz.func66,rfl,rfl⟩
theorem sp_Category_skeletonArrows {c : Cat} (s : IsCat c) : Spec Tryz.prog 66 [.bptr [] (catD c)] [] (.sl 0) [(0,⟨1,.arr (ints (skA c))⟩)]:=by
  refine spec_of_V (E:=TE) 0 Tryz.func66 rfl (by simp [Tryz.f66]) fun X hn hX=>?_
  have o0:=s.toShape.ob0
  have o8:=s.toShape.ob8
  have m40:=s.toShape.m40
  have tol:=s.toShape.tol
  have hsl : (skO c c.ob.toNat).length ≤ c.ob.toNat:=selP_len _ _
  have hcl:=sp_Category_isoClasses s
  have hle : Spec Tryz.prog 79 [.bor [] (ints (isoC c))] [] (.sl 0) [(0,⟨1,.arr (ints (skO c c.ob.toNat))⟩)]:=sp_partition_leaders (n:=c.ob.toNat) (by omega)
  have hbe:=sp_Category_between (c:=c) (O:=skO c c.ob.toNat) (by omega) (by omega) tol
  repeat' (first|(with_reducible first|refine V_seq ?_|refine V_skip ?_|refine V_ret ?_)|((with_reducible refine V_cond ?_);simp only [go_sem,simprocAttr])|((refine V_region (by rw [hn];rfl) ?_);intro K hK)|((first|with_reducible refine evOps_n ?_|((with_reducible apply evOps_g);rfl));intro K hK;simp (contextual:=true) only [go_sem,simprocAttr])|with_reducible refine evOps_nil ?_|((with_reducible refine hK _ ?_);clear hK K)|(with_reducible first|refine And.intro ?_ ?_|refine nxt_n ?_|refine nxt_r ?_|refine inR_mk ?_ ?_)|((with_reducible refine evCall_at 78 ?_);refine EvCall.mk (hcl) cal_Category_isoClasses [(0,0)] [] (by simp [go_sem] <;> (repeat' (first|rfl|constructor))) (by simp [go_sem] <;> (repeat' (first|rfl|constructor))) ?_;all_goals try simp only [go_sem,simprocAttr])|((with_reducible refine evCall_at 79 ?_);refine EvCall.mk (hle) cal_partition_leaders [(0,1)] [0] (by simp [go_sem] <;> (repeat' (first|rfl|constructor))) (by simp [go_sem] <;> (repeat' (first|rfl|constructor))) ?_;all_goals try simp only [go_sem,simprocAttr])|((with_reducible refine evCall_at 77 ?_);refine EvCall.mk (hbe) cal_Category_between [(0,2)] [1] (by simp [go_sem] <;> (repeat' (first|rfl|constructor))) (by simp [go_sem] <;> (repeat' (first|rfl|constructor))) ?_;all_goals try simp only [go_sem,simprocAttr])|(refine fun (hc : (_ : Bool) = _)=>?_;try simp only [hcS] at hc))
  all_goals try exact om_
  · (first|refine ret_auto ?_|refine ret_auto' ?_);simp only [go_sem,simprocAttr,Tryz.f66]
    first|rfl|exact ⟨⟨rfl,rfl,rfl,rfl⟩,rfl⟩
theorem cal_Category_skeleton : Callable Tryz.prog 50:=⟨_,Tryz.func50,rfl,rfl⟩
theorem sp_Category_skeleton {c : Cat} (s : IsCat c) : Spec Tryz.prog 50 [.bptr [] (catD c)] [] (.agg [iv (skC c).ob,.sl 0,.sl 1,.sl 2,.sl 3]) [(0,⟨1,.arr (ints (skC c).fr)⟩),(1,⟨1,.arr (ints (skC c).to)⟩),(2,⟨1,.arr (ints (skC c).id)⟩),(3,⟨1,.arr (intss (skC c).co)⟩)]:=by
  refine spec_of_V (E:=TE) 0 Tryz.func50 rfl (by simp [Tryz.f50]) fun X hn hX=>?_
  have hsa:=sp_Category_skeletonArrows s
  have hsu:=sp_Category_sub (c:=c) (A:=skA c) s (full_sub s _)
  repeat' (first|(with_reducible first|refine V_seq ?_|refine V_skip ?_|refine V_ret ?_)|((with_reducible refine V_cond ?_);simp only [go_sem,simprocAttr])|((refine V_region (by rw [hn];rfl) ?_);intro K hK)|((first|with_reducible refine evOps_n ?_|((with_reducible apply evOps_g);rfl));intro K hK;simp (contextual:=true) only [go_sem,simprocAttr])|with_reducible refine evOps_nil ?_|((with_reducible refine hK _ ?_);clear hK K)|(with_reducible first|refine And.intro ?_ ?_|refine nxt_n ?_|refine nxt_r ?_|refine inR_mk ?_ ?_)|((with_reducible refine evCall_at 66 ?_);refine EvCall.mk (hsa) cal_Category_skeletonArrows [(0,1)] [] (by simp [go_sem] <;> (repeat' (first|rfl|constructor))) (by simp [go_sem] <;> (repeat' (first|rfl|constructor))) ?_;all_goals try simp only [go_sem,simprocAttr])|((with_reducible refine evCall_at 65 ?_);refine EvCall.mk (hsu) cal_Category_sub [(0,2),(1,3),(2,4),(3,5),(4,6)] [1] (by simp [go_sem] <;> (repeat' (first|rfl|constructor))) (by simp [go_sem] <;> (repeat' (first|rfl|constructor))) ?_;all_goals try simp only [go_sem,simprocAttr])|(refine fun (hc : (_ : Bool) = _)=>?_;try simp only [hcS] at hc))
  all_goals try exact om_
  · (first|refine ret_auto ?_|refine ret_auto' ?_);simp only [go_sem,simprocAttr,Tryz.f50]
    first|rfl|exact ⟨⟨rfl,rfl,rfl,rfl⟩,rfl⟩
end Go.Eng
