/- Subcategories: the arrows between some objects, marks, the subcategory of some arrows, by the program. -/
import Derived.Test.YtgbjgeignbjjnaaGreatQ31q
set_option linter.unusedSimpArgs false
set_option linter.unusedVariables false
set_option maxRecDepth 100000
set_option maxHeartbeats 16000000
namespace Go.Eng
open Go Go.Proofs Go.Cats
theorem fullI_zero (c : Cat) (O : List Int) : fullI c O 0 = []:=rfl
theorem obS_zero (c : Cat) (A : List Int) : obS c A 0 = []:=rfl
theorem numA_zero (A : List Int) (m : Nat) : numA A m 0 = List.replicate m 0:=rfl
theorem mkA_zero (A : List Int) (m : Nat) : mkA A m 0 = List.replicate m false:=rfl
theorem plA_zero (c : Cat) (A : List Int) : plA c A 0 = List.replicate c.ob.toNat 0:=rfl
theorem mp_succ {α : Type} {A : List Int} {h : Int → α} {i : Nat} (hi : i < A.length) : (A.take (i + 1)).map h = (A.take i).map h ++ [h (A.getD i 0)]:=by
  rw [List.take_succ_eq_append_getElem hi,List.map_append,List.getD_eq_getElem?_getD,List.getElem?_eq_getElem hi];rfl
theorem mp_zero {α : Type} (A : List Int) (h : Int → α) : (A.take 0).map h = []:=rfl
attribute [local go_sem] List.set_cons_zero List.set_cons_succ fullI_zero obS_zero numA_zero mkA_zero plA_zero mp_zero selP_zero
theorem cal_Category_between : Callable Tryz.prog 77:=⟨_,Tryz.func77,rfl,rfl⟩
theorem sp_Category_between {c : Cat} {O : List Int} (hO : O.length ≤ 1048576) (hl : c.fr.length ≤ 1048576) (ht : c.to.length = c.fr.length) : Spec Tryz.prog 77 [.bptr [] (catD c),.bor [] (ints O)] [] (.sl 0) [(0,⟨1,.arr (ints (fullS c O))⟩)]:=by
  refine spec_of_V (E:=TE) 0 Tryz.func77 rfl (by simp [Tryz.f77]) fun X hn hX=>?_
  repeat' (first|(with_reducible first|refine V_seq ?_|refine V_block ?_|refine V_skip ?_|refine V_ret ?_|refine V_exit ?_)|((with_reducible refine V_cond ?_);simp only [go_sem,simprocAttr])|((refine V_region (by rw [hn];rfl) ?_);intro K hK)|((first|with_reducible refine evOps_n ?_|((with_reducible apply evOps_g);rfl));intro K hK;simp (contextual:=true) only [go_sem,simprocAttr])|with_reducible refine evOps_nil ?_|((with_reducible refine hK _ ?_);clear hK K)|(with_reducible first|refine And.intro ?_ ?_|refine nxt_n ?_|refine nxt_r ?_|refine nxt_e ?_|refine blk_n ?_|refine blk_r ?_|refine blk_same ?_|refine blk_other (by decide) ?_|refine noG_n ?_|refine noG_r ?_|refine noG_e ?_|refine inR_mk ?_ ?_)|(refine fun (hc : (_ : Bool) = _)=>?_;try simp only [hcS] at hc))
  all_goals try exact om_
  refine V_loopK (G:={i : Nat // i ≤ c.fr.length ∧ (True)}) (fun ⟨i,_⟩=>[(13,iv i),(5,.sl 0)]) [0,1,4,12] (fun ⟨i,_⟩=>[(0,⟨1,.arr (ints (fullI c O i))⟩)]) [0] (fun zz=>c.fr.length - zz.1) ⟨0,Nat.zero_le _,by first|trivial|simp⟩ ?_ ?_
  · exact Imp.au hX
  rintro ⟨i,hii,hwi⟩
  simp only [go_sem,simprocAttr]
  have hsl : (fullI c O i).length ≤ i:=selP_len _ i
  rcases Nat.lt_or_ge i c.fr.length with hlt | hge
  · repeat' (first|(with_reducible first|refine V_seq ?_|refine V_block ?_|refine V_skip ?_|refine V_ret ?_|refine V_exit ?_)|((with_reducible refine V_cond ?_);simp only [go_sem,simprocAttr])|((refine V_region (by rw [hn];rfl) ?_);intro K hK)|((first|with_reducible refine evOps_n ?_|((with_reducible apply evOps_g);rfl));intro K hK;simp (contextual:=true) only [go_sem,simprocAttr])|with_reducible refine evOps_nil ?_|((with_reducible refine hK _ ?_);clear hK K)|(with_reducible first|refine And.intro ?_ ?_|refine nxt_n ?_|refine nxt_r ?_|refine nxt_e ?_|refine blk_n ?_|refine blk_r ?_|refine blk_same ?_|refine blk_other (by decide) ?_|refine noG_n ?_|refine noG_r ?_|refine noG_e ?_|refine inR_mk ?_ ?_)|((with_reducible refine evCall_at 91 ?_);refine EvCall.rq (a:=(sp_has ?_)) (b:=cal_has) (c:=?_);all_goals try simp only [go_sem,simprocAttr])|(refine fun (hc : (_ : Bool) = _)=>?_;try simp only [hcS] at hc))
    all_goals try exact om_
    · have e1 : fullI c O (i + 1) = fullI c O i ++ [(i : Int)]:=selP_yes ⟨(by assumption),(by assumption)⟩
      refine ⟨⟨i + 1,by omega,(by trivial)⟩,by simp only;omega,Imp.auto hX (by simp only [go_sem,simprocAttr,e1])⟩
    all_goals
      have e1 : fullI c O (i + 1) = fullI c O i:=selP_no fun q=>by first|(exact absurd q.1 (by assumption))|(exact absurd q.2 (by assumption))
      refine ⟨⟨i + 1,by omega,(by trivial)⟩,by simp only;omega,Imp.auto hX (by simp only [go_sem,simprocAttr,e1])⟩
  · have ei : i = c.fr.length:=by omega
    subst ei
    repeat' (first|(with_reducible first|refine V_seq ?_|refine V_block ?_|refine V_skip ?_|refine V_ret ?_|refine V_exit ?_)|((with_reducible refine V_cond ?_);simp only [go_sem,simprocAttr])|((refine V_region (by rw [hn];rfl) ?_);intro K hK)|((first|with_reducible refine evOps_n ?_|((with_reducible apply evOps_g);rfl));intro K hK;simp (contextual:=true) only [go_sem,simprocAttr])|with_reducible refine evOps_nil ?_|((with_reducible refine hK _ ?_);clear hK K)|(with_reducible first|refine And.intro ?_ ?_|refine nxt_n ?_|refine nxt_r ?_|refine nxt_e ?_|refine blk_n ?_|refine blk_r ?_|refine blk_same ?_|refine blk_other (by decide) ?_|refine noG_n ?_|refine noG_r ?_|refine noG_e ?_|refine inR_mk ?_ ?_)|(refine fun (hc : (_ : Bool) = _)=>?_;try simp only [hcS] at hc))
    all_goals try exact om_
    · (first|refine ret_auto ?_|refine ret_auto' ?_);simp only [go_sem,simprocAttr,Tryz.f77]
      rfl
theorem cal_l02Full : Callable Tryz.prog 42:=⟨_,Tryz.func42,rfl,rfl⟩
theorem sp_l02Full {c : Cat} {O : List Int} (hO : O.length ≤ 1048576) (hl : c.fr.length ≤ 1048576) (ht : c.to.length = c.fr.length) : Spec Tryz.prog 42 [catV c,.bor [] (ints O)] [] (.sl 0) [(0,⟨1,.arr (ints (fullS c O))⟩)]:=by
  refine spec_of_V (E:=TE) 0 Tryz.func42 rfl (by simp [Tryz.f42]) fun X hn hX=>?_
  repeat' (first|(with_reducible first|refine V_seq ?_|refine V_block ?_|refine V_skip ?_|refine V_ret ?_|refine V_exit ?_)|((with_reducible refine V_cond ?_);simp only [go_sem,simprocAttr])|((refine V_region (by rw [hn];rfl) ?_);intro K hK)|((first|with_reducible refine evOps_n ?_|((with_reducible apply evOps_g);rfl));intro K hK;simp (contextual:=true) only [go_sem,simprocAttr])|with_reducible refine evOps_nil ?_|((with_reducible refine hK _ ?_);clear hK K)|(with_reducible first|refine And.intro ?_ ?_|refine nxt_n ?_|refine nxt_r ?_|refine nxt_e ?_|refine blk_n ?_|refine blk_r ?_|refine blk_same ?_|refine blk_other (by decide) ?_|refine noG_n ?_|refine noG_r ?_|refine noG_e ?_|refine inR_mk ?_ ?_)|(refine fun (hc : (_ : Bool) = _)=>?_;try simp only [hcS] at hc))
  all_goals try exact om_
  refine V_loopK (G:={i : Nat // i ≤ c.fr.length ∧ (True)}) (fun ⟨i,_⟩=>[(6,iv i),(5,.sl 1)]) [1,2,4] (fun ⟨i,_⟩=>[(1,⟨1,.arr (ints (fullI c O i))⟩)]) [1] (fun zz=>c.fr.length - zz.1) ⟨0,Nat.zero_le _,by first|trivial|simp⟩ ?_ ?_
  · exact Imp.au hX
  rintro ⟨i,hii,hwi⟩
  simp only [go_sem,simprocAttr]
  have hsl : (fullI c O i).length ≤ i:=selP_len _ i
  rcases Nat.lt_or_ge i c.fr.length with hlt | hge
  · repeat' (first|(with_reducible first|refine V_seq ?_|refine V_block ?_|refine V_skip ?_|refine V_ret ?_|refine V_exit ?_)|((with_reducible refine V_cond ?_);simp only [go_sem,simprocAttr])|((refine V_region (by rw [hn];rfl) ?_);intro K hK)|((first|with_reducible refine evOps_n ?_|((with_reducible apply evOps_g);rfl));intro K hK;simp (contextual:=true) only [go_sem,simprocAttr])|with_reducible refine evOps_nil ?_|((with_reducible refine hK _ ?_);clear hK K)|(with_reducible first|refine And.intro ?_ ?_|refine nxt_n ?_|refine nxt_r ?_|refine nxt_e ?_|refine blk_n ?_|refine blk_r ?_|refine blk_same ?_|refine blk_other (by decide) ?_|refine noG_n ?_|refine noG_r ?_|refine noG_e ?_|refine inR_mk ?_ ?_)|((with_reducible refine evCall_at 54 ?_);refine EvCall.rq (a:=(sp_l01Has ?_)) (b:=cal_l01Has) (c:=?_);all_goals try simp only [go_sem,simprocAttr])|(refine fun (hc : (_ : Bool) = _)=>?_;try simp only [hcS] at hc))
    all_goals try exact om_
    · have e1 : fullI c O (i + 1) = fullI c O i ++ [(i : Int)]:=selP_yes ⟨(by assumption),(by assumption)⟩
      refine ⟨⟨i + 1,by omega,(by trivial)⟩,by simp only;omega,Imp.auto hX (by simp only [go_sem,simprocAttr,e1])⟩
    all_goals
      have e1 : fullI c O (i + 1) = fullI c O i:=selP_no fun q=>by first|(exact absurd q.1 (by assumption))|(exact absurd q.2 (by assumption))
      refine ⟨⟨i + 1,by omega,(by trivial)⟩,by simp only;omega,Imp.auto hX (by simp only [go_sem,simprocAttr,e1])⟩
  · have ei : i = c.fr.length:=by omega
    subst ei
    repeat' (first|(with_reducible first|refine V_seq ?_|refine V_block ?_|refine V_skip ?_|refine V_ret ?_|refine V_exit ?_)|((with_reducible refine V_cond ?_);simp only [go_sem,simprocAttr])|((refine V_region (by rw [hn];rfl) ?_);intro K hK)|((first|with_reducible refine evOps_n ?_|((with_reducible apply evOps_g);rfl));intro K hK;simp (contextual:=true) only [go_sem,simprocAttr])|with_reducible refine evOps_nil ?_|((with_reducible refine hK _ ?_);clear hK K)|(with_reducible first|refine And.intro ?_ ?_|refine nxt_n ?_|refine nxt_r ?_|refine nxt_e ?_|refine blk_n ?_|refine blk_r ?_|refine blk_same ?_|refine blk_other (by decide) ?_|refine noG_n ?_|refine noG_r ?_|refine noG_e ?_|refine inR_mk ?_ ?_)|(refine fun (hc : (_ : Bool) = _)=>?_;try simp only [hcS] at hc))
    all_goals try exact om_
    · (first|refine ret_auto ?_|refine ret_auto' ?_);simp only [go_sem,simprocAttr,Tryz.f42]
      rfl
theorem cal_Category_marks : Callable Tryz.prog 76:=⟨_,Tryz.func76,rfl,rfl⟩
theorem sp_Category_marks {c : Cat} {A : List Int} (hr : ∀ f ∈ A,0 ≤ f ∧ f < c.fr.length) (hA : A.length ≤ 1048576) (hl : c.fr.length ≤ 1048576) : Spec Tryz.prog 76 [.bptr [] (catD c),.bor [] (ints A)] [] (.sl 0) [(0,⟨1,.arr (bols (mkA A c.fr.length A.length))⟩)]:=by
  refine spec_of_V (E:=TE) 0 Tryz.func76 rfl (by simp [Tryz.f76]) fun X hn hX=>?_
  repeat' (first|(with_reducible first|refine V_seq ?_|refine V_block ?_|refine V_skip ?_|refine V_ret ?_|refine V_exit ?_)|((with_reducible refine V_cond ?_);simp only [go_sem,simprocAttr])|((refine V_region (by rw [hn];rfl) ?_);intro K hK)|((first|with_reducible refine evOps_n ?_|((with_reducible apply evOps_g);rfl));intro K hK;simp (contextual:=true) only [go_sem,simprocAttr])|with_reducible refine evOps_nil ?_|((with_reducible refine hK _ ?_);clear hK K)|(with_reducible first|refine And.intro ?_ ?_|refine nxt_n ?_|refine nxt_r ?_|refine nxt_e ?_|refine blk_n ?_|refine blk_r ?_|refine blk_same ?_|refine blk_other (by decide) ?_|refine noG_n ?_|refine noG_r ?_|refine noG_e ?_|refine inR_mk ?_ ?_)|((with_reducible refine evCall_at 48 ?_);refine EvCall.rq (a:=(sp_Category_arrows)) (b:=cal_Category_arrows) (c:=?_);all_goals try simp only [go_sem,simprocAttr])|(refine fun (hc : (_ : Bool) = _)=>?_;try simp only [hcS] at hc))
  all_goals try exact om_
  refine V_loopK (G:={i : Nat // i ≤ A.length ∧ (True)}) (fun ⟨i,_⟩=>[(13,iv i),(5,.sl 0)]) [4,11,12] (fun ⟨i,_⟩=>[(0,⟨1,.arr (bols (mkA A c.fr.length i))⟩)]) [0] (fun zz=>A.length - zz.1) ⟨0,Nat.zero_le _,by first|trivial|simp⟩ ?_ ?_
  · exact Imp.au hX
  rintro ⟨i,hii,hwi⟩
  simp only [go_sem,simprocAttr]
  have hml:=mkA_len A c.fr.length i
  rcases Nat.lt_or_ge i A.length with hlt | hge
  · have h1:=hr _ (getD_mem (d:=0) hlt)
    have e1 : mkA A c.fr.length (i + 1) = (mkA A c.fr.length i).set (A.getD i 0).toNat true:=rfl
    repeat' (first|(with_reducible first|refine V_seq ?_|refine V_block ?_|refine V_skip ?_|refine V_ret ?_|refine V_exit ?_)|((with_reducible refine V_cond ?_);simp only [go_sem,simprocAttr])|((refine V_region (by rw [hn];rfl) ?_);intro K hK)|((first|with_reducible refine evOps_n ?_|((with_reducible apply evOps_g);rfl));intro K hK;simp (contextual:=true) only [go_sem,simprocAttr])|with_reducible refine evOps_nil ?_|((with_reducible refine hK _ ?_);clear hK K)|(with_reducible first|refine And.intro ?_ ?_|refine nxt_n ?_|refine nxt_r ?_|refine nxt_e ?_|refine blk_n ?_|refine blk_r ?_|refine blk_same ?_|refine blk_other (by decide) ?_|refine noG_n ?_|refine noG_r ?_|refine noG_e ?_|refine inR_mk ?_ ?_)|(refine fun (hc : (_ : Bool) = _)=>?_;try simp only [hcS] at hc))
    all_goals try exact om_
    · refine ⟨⟨i + 1,by omega,(by trivial)⟩,by simp only;omega,Imp.auto hX (by simp only [go_sem,simprocAttr,e1])⟩
  · have ei : i = A.length:=by omega
    subst ei
    repeat' (first|(with_reducible first|refine V_seq ?_|refine V_block ?_|refine V_skip ?_|refine V_ret ?_|refine V_exit ?_)|((with_reducible refine V_cond ?_);simp only [go_sem,simprocAttr])|((refine V_region (by rw [hn];rfl) ?_);intro K hK)|((first|with_reducible refine evOps_n ?_|((with_reducible apply evOps_g);rfl));intro K hK;simp (contextual:=true) only [go_sem,simprocAttr])|with_reducible refine evOps_nil ?_|((with_reducible refine hK _ ?_);clear hK K)|(with_reducible first|refine And.intro ?_ ?_|refine nxt_n ?_|refine nxt_r ?_|refine nxt_e ?_|refine blk_n ?_|refine blk_r ?_|refine blk_same ?_|refine blk_other (by decide) ?_|refine noG_n ?_|refine noG_r ?_|refine noG_e ?_|refine inR_mk ?_ ?_)|(refine fun (hc : (_ : Bool) = _)=>?_;try simp only [hcS] at hc))
    all_goals try exact om_
    · (first|refine ret_auto ?_|refine ret_auto' ?_);simp only [go_sem,simprocAttr,Tryz.f76]
theorem cal_Category_sub : Callable Tryz.prog 65:=⟨_,Tryz.func65,rfl,rfl⟩
theorem sp_Category_sub {c : Cat} {A : List Int} (s : IsCat c) (hA : SubA c A) : Spec Tryz.prog 65 [.bptr [] (catD c),.bor [] (ints A)] [] (.tup [.agg [iv (subC c A).ob,.sl 0,.sl 1,.sl 2,.sl 3],.sl 4]) [(0,⟨1,.arr (ints (subC c A).fr)⟩),(1,⟨1,.arr (ints (subC c A).to)⟩),(2,⟨1,.arr (ints (subC c A).id)⟩),(3,⟨1,.arr (intss (subC c A).co)⟩),(4,⟨1,.arr (ints (obS c A c.ob.toNat))⟩)]:=by
  refine spec_of_V (E:=TE) 0 Tryz.func65 rfl (by simp [Tryz.f65]) fun X hn hX=>?_
  have o0:=s.toShape.ob0
  have o8:=s.toShape.ob8
  have m40:=s.toShape.m40
  have tol:=s.toShape.tol
  have idl:=s.toShape.idl
  have col:=s.toShape.col
  have al:=hA.len
  have hrow:=fun (g : Int) (h0 : 0 ≤ g) (h1 : g < c.fr.length)=>row_len s.toShape h0 h1
  have hmk:=sp_Category_marks (c:=c) (A:=A) hA.rng (by omega) (by omega)
  have hON : (obS c A c.ob.toNat).length ≤ c.ob.toNat:=selP_len _ _
  repeat' (first|(refine V_at 11 (Imp.adoptI 5 1 _ _ rfl rfl rfl (by rw [hX];rfl)) ?_;refine V_at 11 (Imp.adoptI 5 2 _ _ rfl rfl rfl (by rw [hX];rfl)) ?_;refine V_at 11 (Imp.adoptI 5 3 _ _ rfl rfl rfl (by rw [hX];rfl)) ?_;refine V_at 11 (Imp.adoptBs 5 4 _ _ rfl rfl rfl (by rw [hX];rfl)) ?_;simp only [List.set_cons_succ,List.set_cons_zero])|(with_reducible first|refine V_seq ?_|refine V_block ?_|refine V_skip ?_|refine V_ret ?_|refine V_exit ?_)|((with_reducible refine V_cond ?_);simp only [go_sem,simprocAttr])|((first|refine V_region (by rw [hn];rfl) ?_|refine V_drawn hmix (by rw [hn];rfl) ?_);intro K hK)|((first|with_reducible refine evOps_n ?_|((with_reducible apply evOps_g);rfl)|with_reducible refine evOpsD_n ?_|((with_reducible apply evOpsD_g);rfl));intro K hK;simp (contextual:=true) only [go_sem,simprocAttr])|with_reducible refine evOps_nil ?_|((with_reducible refine evOpsD_nil ?_ ?_);kernel_rfl)|((with_reducible refine hK _ ?_);clear hK K)|(with_reducible first|refine And.intro ?_ ?_|refine nxt_n ?_|refine nxt_r ?_|refine nxt_e ?_|refine blk_n ?_|refine blk_r ?_|refine blk_same ?_|refine blk_other (by decide) ?_|refine noG_n ?_|refine noG_r ?_|refine noG_e ?_|refine inR_mk ?_ ?_)|((with_reducible refine evCall_at 48 ?_);refine EvCall.rq (a:=(sp_Category_arrows)) (b:=cal_Category_arrows) (c:=?_);all_goals try simp only [go_sem,simprocAttr])|((with_reducible refine evCall_at 76 ?_);refine EvCall.mk (hmk) cal_Category_marks [(0,2)] [] (by simp [go_sem] <;> (repeat' (first|rfl|constructor))) (by simp [go_sem] <;> (repeat' (first|rfl|constructor))) ?_;all_goals try simp only [go_sem,simprocAttr])|(refine fun (hc : (_ : Bool) = _)=>?_;try simp only [hcS] at hc))
  all_goals try exact om_
  refine V_loopK (G:={i : Nat // i ≤ A.length ∧ (True)}) (fun ⟨i,_⟩=>[(26,iv i),(6,.sl 1)]) [0,1,4,5,24,25] (fun ⟨i,_⟩=>[(1,⟨1,.arr (ints (numA A c.fr.length i))⟩)]) [1] (fun zz=>A.length - zz.1) ⟨0,Nat.zero_le _,by first|trivial|simp⟩ ?_ ?_
  · exact Imp.au hX
  rintro ⟨i,hii,hwi⟩
  simp only [go_sem,simprocAttr]
  have hnl:=numA_len A c.fr.length i
  rcases Nat.lt_or_ge i A.length with hlt | hge
  · have h1:=hA.rng _ (getD_mem (d:=0) hlt)
    have e1 : numA A c.fr.length (i + 1) = (numA A c.fr.length i).set (A.getD i 0).toNat i:=rfl
    repeat' (first|(with_reducible first|refine V_seq ?_|refine V_block ?_|refine V_skip ?_|refine V_ret ?_|refine V_exit ?_)|((with_reducible refine V_cond ?_);simp only [go_sem,simprocAttr])|((first|refine V_region (by rw [hn];rfl) ?_|refine V_drawn hmix (by rw [hn];rfl) ?_);intro K hK)|((first|with_reducible refine evOps_n ?_|((with_reducible apply evOps_g);rfl)|with_reducible refine evOpsD_n ?_|((with_reducible apply evOpsD_g);rfl));intro K hK;simp (contextual:=true) only [go_sem,simprocAttr])|with_reducible refine evOps_nil ?_|((with_reducible refine evOpsD_nil ?_ ?_);kernel_rfl)|((with_reducible refine hK _ ?_);clear hK K)|(with_reducible first|refine And.intro ?_ ?_|refine nxt_n ?_|refine nxt_r ?_|refine nxt_e ?_|refine blk_n ?_|refine blk_r ?_|refine blk_same ?_|refine blk_other (by decide) ?_|refine noG_n ?_|refine noG_r ?_|refine noG_e ?_|refine inR_mk ?_ ?_)|(refine fun (hc : (_ : Bool) = _)=>?_;try simp only [hcS] at hc))
    all_goals try exact om_
    · refine ⟨⟨i + 1,by omega,(by trivial)⟩,by simp only;omega,Imp.auto hX (by simp only [go_sem,simprocAttr,e1])⟩
  · have ei : i = A.length:=by omega
    subst ei
    repeat' (first|(refine V_at 11 (Imp.adoptI 5 1 _ _ rfl rfl rfl (by rw [hX];rfl)) ?_;refine V_at 11 (Imp.adoptI 5 2 _ _ rfl rfl rfl (by rw [hX];rfl)) ?_;refine V_at 11 (Imp.adoptI 5 3 _ _ rfl rfl rfl (by rw [hX];rfl)) ?_;refine V_at 11 (Imp.adoptBs 5 4 _ _ rfl rfl rfl (by rw [hX];rfl)) ?_;simp only [List.set_cons_succ,List.set_cons_zero])|(with_reducible first|refine V_seq ?_|refine V_block ?_|refine V_skip ?_|refine V_ret ?_|refine V_exit ?_)|((with_reducible refine V_cond ?_);simp only [go_sem,simprocAttr])|((first|refine V_region (by rw [hn];rfl) ?_|refine V_drawn hmix (by rw [hn];rfl) ?_);intro K hK)|((first|with_reducible refine evOps_n ?_|((with_reducible apply evOps_g);rfl)|with_reducible refine evOpsD_n ?_|((with_reducible apply evOpsD_g);rfl));intro K hK;simp (contextual:=true) only [go_sem,simprocAttr])|with_reducible refine evOps_nil ?_|((with_reducible refine evOpsD_nil ?_ ?_);kernel_rfl)|((with_reducible refine hK _ ?_);clear hK K)|(with_reducible first|refine And.intro ?_ ?_|refine nxt_n ?_|refine nxt_r ?_|refine nxt_e ?_|refine blk_n ?_|refine blk_r ?_|refine blk_same ?_|refine blk_other (by decide) ?_|refine noG_n ?_|refine noG_r ?_|refine noG_e ?_|refine inR_mk ?_ ?_)|((with_reducible refine evCall_at 48 ?_);refine EvCall.rq (a:=(sp_Category_arrows)) (b:=cal_Category_arrows) (c:=?_);all_goals try simp only [go_sem,simprocAttr])|((with_reducible refine evCall_at 76 ?_);refine EvCall.mk (hmk) cal_Category_marks [(0,2)] [] (by simp [go_sem] <;> (repeat' (first|rfl|constructor))) (by simp [go_sem] <;> (repeat' (first|rfl|constructor))) ?_;all_goals try simp only [go_sem,simprocAttr])|(refine fun (hc : (_ : Bool) = _)=>?_;try simp only [hcS] at hc))
    all_goals try exact om_
    refine V_loopK (G:={x : Nat // x ≤ c.ob.toNat ∧ (True)}) (fun ⟨x,_⟩=>[(51,iv x),(6,.sl 1),(9,.sl 2),(10,.sl 3),(11,.sl 4),(12,.ptr 5 0)]) [0,1,4,5,49,50] (fun ⟨x,_⟩=>[(1,⟨1,.arr (ints (numA A c.fr.length A.length))⟩),(2,⟨1,.arr (bols (mkA A c.fr.length A.length))⟩),(3,⟨1,.arr (ints (obS c A x))⟩),(4,⟨1,.arr (ints (plA c A x))⟩),(5,⟨1,.box [iv 0,.sl 6,.sl 7,.sl 8,.sl 9]⟩),(6,⟨1,.arr (ints [])⟩),(7,⟨1,.arr (ints [])⟩),(8,⟨1,.arr (ints ((obS c A x).map fun x=>idxOf A (c.I x)))⟩),(9,⟨1,.arr (intss [])⟩)]) [1,2,3,4,5,6,7,8,9] (fun zz=>c.ob.toNat - zz.1) ⟨0,Nat.zero_le _,by first|trivial|simp⟩ ?_ ?_
    · exact Imp.au hX
    rintro ⟨x,hix,hwx⟩
    simp only [go_sem,simprocAttr]
    have hol : (obS c A x).length ≤ x:=selP_len _ x
    have hpl:=plA_len (c:=c) (A:=A) x
    have hmp : ((obS c A x).map fun x=>idxOf A (c.I x)).length ≤ x:=by rw [List.length_map];exact hol
    have hml:=mkA_len A c.fr.length A.length
    rcases Nat.lt_or_ge x c.ob.toNat with hlt2 | hge2
    · have hid:=s.toShape.idw x (by omega)
      have hm:=mkA_mem hA hid.1 hid.2
      have hcI : c.I (x : Int) = c.id.getD x 0:=by simp [Cat.I]
      repeat' (first|(rw [hm])|(with_reducible first|refine V_seq ?_|refine V_block ?_|refine V_skip ?_|refine V_ret ?_|refine V_exit ?_)|((with_reducible refine V_cond ?_);simp only [go_sem,simprocAttr])|((first|refine V_region (by rw [hn];rfl) ?_|refine V_drawn hmix (by rw [hn];rfl) ?_);intro K hK)|((first|with_reducible refine evOps_n ?_|((with_reducible apply evOps_g);rfl)|with_reducible refine evOpsD_n ?_|((with_reducible apply evOpsD_g);rfl));intro K hK;simp (contextual:=true) only [go_sem,simprocAttr])|with_reducible refine evOps_nil ?_|((with_reducible refine evOpsD_nil ?_ ?_);kernel_rfl)|((with_reducible refine hK _ ?_);clear hK K)|(with_reducible first|refine And.intro ?_ ?_|refine nxt_n ?_|refine nxt_r ?_|refine nxt_e ?_|refine blk_n ?_|refine blk_r ?_|refine blk_same ?_|refine blk_other (by decide) ?_|refine noG_n ?_|refine noG_r ?_|refine noG_e ?_|refine inR_mk ?_ ?_)|(refine fun (hc : (_ : Bool) = _)=>?_;try simp only [hcS] at hc))
      all_goals try exact om_
      · have hmem : c.id.getD x 0 ∈ A:=(by assumption)
        have e1:=plA_yes (c:=c) (A:=A) (x:=x) hmem
        have e2 : obS c A (x + 1) = obS c A x ++ [(x : Int)]:=selP_yes hmem
        have e3:=numA_idx hA hmem
        have e4 : ((obS c A x ++ [(x : Int)]).map fun x=>idxOf A (c.I x)) = ((obS c A x).map fun x=>idxOf A (c.I x)) ++ [idxOf A (c.id.getD x 0)]:=by rw [List.map_append,List.map_singleton,hcI]
        refine ⟨⟨x + 1,by omega,(by (trivial))⟩,by simp only;omega,Imp.auto hX (by simp only [go_sem,simprocAttr,e1,e2,e3,e4])⟩
      · have hmem : ¬ c.id.getD x 0 ∈ A:=(by assumption)
        have e1:=plA_no (c:=c) (A:=A) (x:=x) hmem
        have e2 : obS c A (x + 1) = obS c A x:=selP_no hmem
        refine ⟨⟨x + 1,by omega,(by (trivial))⟩,by simp only;omega,Imp.auto hX (by simp only [go_sem,simprocAttr,e1,e2])⟩
    · have ex : x = c.ob.toNat:=by omega
      subst ex
      repeat' (first|(with_reducible first|refine V_seq ?_|refine V_block ?_|refine V_skip ?_|refine V_ret ?_|refine V_exit ?_)|((with_reducible refine V_cond ?_);simp only [go_sem,simprocAttr])|((first|refine V_region (by rw [hn];rfl) ?_|refine V_drawn hmix (by rw [hn];rfl) ?_);intro K hK)|((first|with_reducible refine evOps_n ?_|((with_reducible apply evOps_g);rfl)|with_reducible refine evOpsD_n ?_|((with_reducible apply evOpsD_g);rfl));intro K hK;simp (contextual:=true) only [go_sem,simprocAttr])|with_reducible refine evOps_nil ?_|((with_reducible refine evOpsD_nil ?_ ?_);kernel_rfl)|((with_reducible refine hK _ ?_);clear hK K)|(with_reducible first|refine And.intro ?_ ?_|refine nxt_n ?_|refine nxt_r ?_|refine nxt_e ?_|refine blk_n ?_|refine blk_r ?_|refine blk_same ?_|refine blk_other (by decide) ?_|refine noG_n ?_|refine noG_r ?_|refine noG_e ?_|refine inR_mk ?_ ?_)|(refine fun (hc : (_ : Bool) = _)=>?_;try simp only [hcS] at hc))
      all_goals try exact om_
      refine V_loopK (G:={k : Nat // k ≤ A.length ∧ (True)}) (fun ⟨k,_⟩=>[(84,iv k),(6,.sl 1),(9,.sl 2),(10,.sl 3),(11,.sl 4),(12,.ptr 5 0)]) [0,1,4,5,82,83] (fun ⟨k,_⟩=>[(1,⟨1,.arr (ints (numA A c.fr.length A.length))⟩),(2,⟨1,.arr (bols (mkA A c.fr.length A.length))⟩),(3,⟨1,.arr (ints (obS c A c.ob.toNat))⟩),(4,⟨1,.arr (ints (plA c A c.ob.toNat))⟩),(5,⟨1,.box [iv (obS c A c.ob.toNat).length,.sl 6,.sl 7,.sl 8,.sl 9]⟩),(6,⟨1,.arr (ints ((A.take k).map fun f=>idxOf (obS c A c.ob.toNat) (c.F f)))⟩),(7,⟨1,.arr (ints ((A.take k).map fun f=>idxOf (obS c A c.ob.toNat) (c.T f)))⟩),(8,⟨1,.arr (ints ((obS c A c.ob.toNat).map fun x=>idxOf A (c.I x)))⟩),(9,⟨1,.arr (intss ((A.take k).map fun f=>A.map fun g=>idxOf A (c.C f g)))⟩)]) [1,2,3,4,5,6,7,8,9] (fun zz=>A.length - zz.1) ⟨0,Nat.zero_le _,by first|trivial|simp⟩ ?_ ?_
      · exact Imp.au hX
      rintro ⟨k,hik,hwk⟩
      simp only [go_sem,simprocAttr]
      have hk1 : ((A.take k).map fun f=>idxOf (obS c A c.ob.toNat) (c.F f)).length ≤ k:=by rw [List.length_map,List.length_take];omega
      have hk2 : ((A.take k).map fun f=>idxOf (obS c A c.ob.toNat) (c.T f)).length ≤ k:=by rw [List.length_map,List.length_take];omega
      have hk3 : ((A.take k).map fun f=>A.map fun g=>idxOf A (c.C f g)).length ≤ k:=by rw [List.length_map,List.length_take];omega
      rcases Nat.lt_or_ge k A.length with hlt3 | hge3
      · have hf:=getD_mem (d:=(0 : Int)) hlt3
        have hfr:=hA.rng _ hf
        have hF:=s.toShape.objF hfr.1 hfr.2
        have hT:=s.toShape.objT hfr.1 hfr.2
        have pF:=plA_idx s.toShape hF.1 hF.2 (hA.idf _ hf)
        have pT:=plA_idx s.toShape hT.1 hT.2 (hA.idt _ hf)
        have pF' : (plA c A c.ob.toNat).getD (c.fr.getD (A.getD k 0).toNat 0).toNat 0 = idxOf (obS c A c.ob.toNat) (c.F (A.getD k 0)):=pF
        have pT' : (plA c A c.ob.toNat).getD (c.to.getD (A.getD k 0).toNat 0).toNat 0 = idxOf (obS c A c.ob.toNat) (c.T (A.getD k 0)):=pT
        have e1:=mp_succ (h:=fun f=>idxOf (obS c A c.ob.toNat) (c.F f)) hlt3
        have e2:=mp_succ (h:=fun f=>idxOf (obS c A c.ob.toNat) (c.T f)) hlt3
        have e3:=mp_succ (h:=fun f=>A.map fun g=>idxOf A (c.C f g)) hlt3
        have hrf:=hrow _ hfr.1 hfr.2
        repeat' (first|(with_reducible first|refine V_seq ?_|refine V_block ?_|refine V_skip ?_|refine V_ret ?_|refine V_exit ?_)|((with_reducible refine V_cond ?_);simp only [go_sem,simprocAttr])|((first|refine V_region (by rw [hn];rfl) ?_|refine V_drawn hmix (by rw [hn];rfl) ?_);intro K hK)|((first|with_reducible refine evOps_n ?_|((with_reducible apply evOps_g);rfl)|with_reducible refine evOpsD_n ?_|((with_reducible apply evOpsD_g);rfl));intro K hK;simp (contextual:=true) only [go_sem,simprocAttr])|with_reducible refine evOps_nil ?_|((with_reducible refine evOpsD_nil ?_ ?_);kernel_rfl)|((with_reducible refine hK _ ?_);clear hK K)|(with_reducible first|refine And.intro ?_ ?_|refine nxt_n ?_|refine nxt_r ?_|refine nxt_e ?_|refine blk_n ?_|refine blk_r ?_|refine blk_same ?_|refine blk_other (by decide) ?_|refine noG_n ?_|refine noG_r ?_|refine noG_e ?_|refine inR_mk ?_ ?_)|(refine fun (hc : (_ : Bool) = _)=>?_;try simp only [hcS] at hc))
        all_goals try exact om_
        refine V_loopK (G:={j : Nat // j ≤ A.length ∧ (True)}) (fun ⟨j,_⟩=>[(121,iv j),(6,.sl 1),(9,.sl 2),(10,.sl 3),(11,.sl 4),(12,.ptr 5 0),(17,.sl 14),(100,.sl 10),(115,.sl 12)]) [0,1,4,5,16,82,83,84,119,120] (fun ⟨j,_⟩=>[(1,⟨1,.arr (ints (numA A c.fr.length A.length))⟩),(2,⟨1,.arr (bols (mkA A c.fr.length A.length))⟩),(3,⟨1,.arr (ints (obS c A c.ob.toNat))⟩),(4,⟨1,.arr (ints (plA c A c.ob.toNat))⟩),(5,⟨1,.box [iv (obS c A c.ob.toNat).length,.sl 11,.sl 13,.sl 8,.sl 9]⟩),(10,⟨1,.arr (ints [(plA c A c.ob.toNat).getD (c.fr.getD (A.getD k 0).toNat 0).toNat 0])⟩),(11,⟨1,.arr (ints ((A.take k).map (fun f=>idxOf (obS c A c.ob.toNat) (c.F f)) ++ [(plA c A c.ob.toNat).getD (c.fr.getD (A.getD k 0).toNat 0).toNat 0]))⟩),(12,⟨1,.arr (ints [(plA c A c.ob.toNat).getD (c.to.getD (A.getD k 0).toNat 0).toNat 0])⟩),(13,⟨1,.arr (ints ((A.take k).map (fun f=>idxOf (obS c A c.ob.toNat) (c.T f)) ++ [(plA c A c.ob.toNat).getD (c.to.getD (A.getD k 0).toNat 0).toNat 0]))⟩),(8,⟨1,.arr (ints ((obS c A c.ob.toNat).map fun x=>idxOf A (c.I x)))⟩),(9,⟨1,.arr (intss ((A.take k).map fun f=>A.map fun g=>idxOf A (c.C f g)))⟩),(14,⟨1,.arr (ints ((A.take j).map fun g=>idxOf A (c.C (A.getD k 0) g)))⟩)]) [1,2,3,4,5,8,9,10,11,12,13,14] (fun zz=>A.length - zz.1) ⟨0,Nat.zero_le _,by first|trivial|simp⟩ ?_ ?_
        · exact Imp.au hX
        rintro ⟨j,hij,hwj⟩
        simp only [go_sem,simprocAttr]
        have hj1 : ((A.take j).map fun g=>idxOf A (c.C (A.getD k 0) g)).length ≤ j:=by rw [List.length_map,List.length_take];omega
        rcases Nat.lt_or_ge j A.length with hlt4 | hge4
        · have hg:=getD_mem (d:=(0 : Int)) hlt4
          have hgr:=hA.rng _ hg
          obtain ⟨c1,c2⟩:=num_comp s.toShape hA hf hg
          have e4:=mp_succ (h:=fun g=>idxOf A (c.C (A.getD k 0) g)) hlt4
          repeat' (first|(with_reducible first|refine V_seq ?_|refine V_block ?_|refine V_skip ?_|refine V_ret ?_|refine V_exit ?_)|((with_reducible refine V_cond ?_);simp only [go_sem,simprocAttr])|((first|refine V_region (by rw [hn];rfl) ?_|refine V_drawn hmix (by rw [hn];rfl) ?_);intro K hK)|((first|with_reducible refine evOps_n ?_|((with_reducible apply evOps_g);rfl)|with_reducible refine evOpsD_n ?_|((with_reducible apply evOpsD_g);rfl));intro K hK;simp (contextual:=true) only [go_sem,simprocAttr])|with_reducible refine evOps_nil ?_|((with_reducible refine evOpsD_nil ?_ ?_);kernel_rfl)|((with_reducible refine hK _ ?_);clear hK K)|(with_reducible first|refine And.intro ?_ ?_|refine nxt_n ?_|refine nxt_r ?_|refine nxt_e ?_|refine blk_n ?_|refine blk_r ?_|refine blk_same ?_|refine blk_other (by decide) ?_|refine noG_n ?_|refine noG_r ?_|refine noG_e ?_|refine inR_mk ?_ ?_)|((with_reducible refine evCall_at 33 ?_);refine EvCall.rq (a:=(sp_Category_then ?_ ?_ ?_ ?_)) (b:=cal_Category_then) (c:=?_);all_goals try simp only [go_sem,simprocAttr])|(refine fun (hc : (_ : Bool) = _)=>?_;try simp only [hcS] at hc))
          all_goals try exact om_
          · obtain ⟨c3,c4⟩:=c1 (by assumption)
            refine ⟨⟨j + 1,by omega,(by (trivial))⟩,by simp only;omega,Imp.auto hX (by simp only [go_sem,simprocAttr,e4,c3])⟩
          · have c3:=c2 (by omega)
            refine ⟨⟨j + 1,by omega,(by (trivial))⟩,by simp only;omega,Imp.auto hX (by simp only [go_sem,simprocAttr,e4,← c3])⟩
        · have ej : j = A.length:=by omega
          subst ej
          have e5 : ((A.take A.length).map fun g=>idxOf A (c.C (A.getD k 0) g)) = A.map fun g=>idxOf A (c.C (A.getD k 0) g):=by rw [List.take_length]
          repeat' (first|(with_reducible first|refine V_seq ?_|refine V_block ?_|refine V_skip ?_|refine V_ret ?_|refine V_exit ?_)|((with_reducible refine V_cond ?_);simp only [go_sem,simprocAttr])|((first|refine V_region (by rw [hn];rfl) ?_|refine V_drawn hmix (by rw [hn];rfl) ?_);intro K hK)|((first|with_reducible refine evOps_n ?_|((with_reducible apply evOps_g);rfl)|with_reducible refine evOpsD_n ?_|((with_reducible apply evOpsD_g);rfl));intro K hK;simp (contextual:=true) only [go_sem,simprocAttr])|with_reducible refine evOps_nil ?_|((with_reducible refine evOpsD_nil ?_ ?_);kernel_rfl)|((with_reducible refine hK _ ?_);clear hK K)|(with_reducible first|refine And.intro ?_ ?_|refine nxt_n ?_|refine nxt_r ?_|refine nxt_e ?_|refine blk_n ?_|refine blk_r ?_|refine blk_same ?_|refine blk_other (by decide) ?_|refine noG_n ?_|refine noG_r ?_|refine noG_e ?_|refine inR_mk ?_ ?_)|(refine fun (hc : (_ : Bool) = _)=>?_;try simp only [hcS] at hc))
          all_goals try exact om_
          · refine ⟨⟨k + 1,by omega,(by (trivial))⟩,by simp only;omega,Imp.auto hX (by simp only [go_sem,simprocAttr,e1,e2,e3,e5,pF',pT'])⟩
      · have ek : k = A.length:=by omega
        subst ek
        have e6 : ((A.take A.length).map fun f=>idxOf (obS c A c.ob.toNat) (c.F f)) = (subC c A).fr:=by rw [List.take_length];rfl
        have e7 : ((A.take A.length).map fun f=>idxOf (obS c A c.ob.toNat) (c.T f)) = (subC c A).to:=by rw [List.take_length];rfl
        have e8 : ((A.take A.length).map fun f=>A.map fun g=>idxOf A (c.C f g)) = (subC c A).co:=by rw [List.take_length];rfl
        have e9 : ((obS c A c.ob.toNat).map fun x=>idxOf A (c.I x)) = (subC c A).id:=rfl
        rw [e6,e7,e8,e9]
        repeat' (first|(with_reducible first|refine V_seq ?_|refine V_block ?_|refine V_skip ?_|refine V_ret ?_|refine V_exit ?_)|((with_reducible refine V_cond ?_);simp only [go_sem,simprocAttr])|((first|refine V_region (by rw [hn];rfl) ?_|refine V_drawn hmix (by rw [hn];rfl) ?_);intro K hK)|((first|with_reducible refine evOps_n ?_|((with_reducible apply evOps_g);rfl)|with_reducible refine evOpsD_n ?_|((with_reducible apply evOpsD_g);rfl));intro K hK;simp (contextual:=true) only [go_sem,simprocAttr])|with_reducible refine evOps_nil ?_|((with_reducible refine evOpsD_nil ?_ ?_);kernel_rfl)|((with_reducible refine hK _ ?_);clear hK K)|(with_reducible first|refine And.intro ?_ ?_|refine nxt_n ?_|refine nxt_r ?_|refine nxt_e ?_|refine blk_n ?_|refine blk_r ?_|refine blk_same ?_|refine blk_other (by decide) ?_|refine noG_n ?_|refine noG_r ?_|refine noG_e ?_|refine inR_mk ?_ ?_)|(refine fun (hc : (_ : Bool) = _)=>?_;try simp only [hcS] at hc))
        all_goals try exact om_
        · (first|refine ret_auto ?_|refine ret_auto' ?_);simp only [go_sem,simprocAttr,Tryz.f65]
          rfl
end Go.Eng
