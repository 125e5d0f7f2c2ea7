/- The reference's search of isomorphisms: object by object. -/
import Derived.Test.YtgbjgeignbjjnaaGreatQ07q
set_option linter.unusedSimpArgs false
set_option linter.unusedVariables false
set_option maxRecDepth 100000
set_option maxHeartbeats 16000000
namespace Go.Eng
open Go Go.Proofs Go.Cats
attribute [local go_sem] List.set_cons_zero List.set_cons_succ
theorem cal_l10Objects : Callable Tryz.prog 58:=⟨_,Tryz.func58,rfl,rfl⟩
theorem sp_l10Objects_0 {c d : Cat} {cc dd P : List Int} {m : Nat} {F : List Fun} (sc : IsCat c) (sd : IsCat d) (bc : CatB c) (bd : CatB d) (ho : c.ob = d.ob) (ha : c.fr.length = d.fr.length) (hk : Keep c d cc dd) (h1 : cc.length = c.fr.length) (h2 : dd.length = d.fr.length) (hP : XOK c d true P) (hm : m ≤ 4096) (hF : F.length < m) :
    Spec Tryz.prog 58 [.ptr 0 0,.sl 3] [(0,⟨1,.bx [iv c.ob,.bor [] (ints c.fr),.bor [] (ints c.to),.bor [] (ints c.id),.bor [] (intss c.co),iv d.ob,.bor [] (ints d.fr),.bor [] (ints d.to),.bor [] (ints d.id),.bor [] (intss d.co),.sl 1,.sl 2,iv m,.dead] 13 (funsD (F))⟩),(1,⟨1,.arr (ints cc)⟩),(2,⟨1,.arr (ints dd)⟩),(3,⟨1,.arr (ints (P))⟩)] (.tup []) [(0,⟨1,.bx [iv c.ob,.bor [] (ints c.fr),.bor [] (ints c.to),.bor [] (ints c.id),.bor [] (intss c.co),iv d.ob,.bor [] (ints d.fr),.bor [] (ints d.to),.bor [] (ints d.id),.bor [] (intss d.co),.sl 1,.sl 2,iv m,.dead] 13 (funsD ((F ++ funX c d true 0 P).take m))⟩),(1,⟨1,.arr (ints cc)⟩),(2,⟨1,.arr (ints dd)⟩),(3,⟨1,.arr (ints (P))⟩)]:=by
  have m40:=sc.toShape.m40
  have n40:=sd.toShape.m40
  have n8:=sc.toShape.ob8
  have tol:=sc.toShape.tol
  have nol:=sd.toShape.tol
  have hPl:=hP.len
  have cil:=sc.toShape.idl
  have dil:=sd.toShape.idl
  have hfx : funX c d true 0 P = (extW (WA c d true P) (sA c d) (startI c d P c.id.length)).map (mkF c d P):=by
    rw [funX,funA_start sc.toShape];rfl
  have hny:=start_ny sc sd hP
  have hrun:=sp_l10Arrows_n (cc:=cc) (dd:=dd) sc sd bc bd ho ha hk h1 h2 hP hm (uns (startI c d P c.id.length) + 1) F (startI c d P c.id.length) hny (Nat.lt_succ_self _) hF
  rw [hfx]
  refine spec_of_V (E:=TE) 4 Tryz.func58 rfl (by simp [Tryz.f58]) fun X hn hX=>?_
  repeat' (first|(refine V_at 0 (Imp.openB 0 13 _ _ rfl (Nat.le_refl 1) rfl rfl) ?_;simp only [go_sem,simprocAttr])|(with_reducible first|refine V_seq ?_|refine V_block ?_|refine V_skip ?_|refine V_ret ?_|refine V_exit ?_)|((with_reducible refine V_cond ?_);simp only [go_sem,simprocAttr])|((first|refine V_region (by rw [hn];rfl) ?_|refine V_drawn hmix (by rw [hn];rfl) ?_);intro K hK)|((first|with_reducible refine evOps_n ?_|((with_reducible apply evOps_g);rfl)|with_reducible refine evOpsD_n ?_|((with_reducible apply evOpsD_g);rfl));intro K hK;simp (contextual:=true) only [go_sem,simprocAttr])|with_reducible refine evOps_nil ?_|((with_reducible refine evOpsD_nil ?_ ?_);kernel_rfl)|((with_reducible refine hK _ ?_);clear hK K)|(with_reducible first|refine And.intro ?_ ?_|refine nxt_n ?_|refine nxt_r ?_|refine nxt_e ?_|refine blk_n ?_|refine blk_r ?_|refine blk_same ?_|refine blk_other (by decide) ?_|refine noG_n ?_|refine noG_r ?_|refine noG_e ?_|refine inR_mk ?_ ?_)|(refine fun (hc : (_ : Bool) = _)=>?_;try simp only [hcS] at hc))
  all_goals try exact om_
  refine V_loopK (G:={a : Nat // a ≤ c.fr.length ∧ (True)}) (fun ⟨a,_⟩=>[(6,iv a),(5,.sl 5)]) [0,1,4] (fun ⟨a,_⟩=>[(5,⟨1,.arr (ints (List.replicate a (-1)))⟩)]) [5] (fun zz=>c.fr.length - zz.1) ⟨0,Nat.zero_le _,by first|trivial|simp⟩ ?_ ?_
  · exact Imp.au hX
  rintro ⟨a,hia,hwa⟩
  simp only [go_sem,simprocAttr]
  rcases Nat.lt_or_ge a c.fr.length with hlt | hge
  · have e1 : List.replicate (a + 1) (-1 : Int) = List.replicate a (-1) ++ [-1]:=List.replicate_succ'
    repeat' (first|(with_reducible first|refine V_seq ?_|refine V_block ?_|refine V_skip ?_|refine V_ret ?_|refine V_exit ?_)|((with_reducible refine V_cond ?_);simp only [go_sem,simprocAttr])|((first|refine V_region (by rw [hn];rfl) ?_|refine V_drawn hmix (by rw [hn];rfl) ?_);intro K hK)|((first|with_reducible refine evOps_n ?_|((with_reducible apply evOps_g);rfl)|with_reducible refine evOpsD_n ?_|((with_reducible apply evOpsD_g);rfl));intro K hK;simp (contextual:=true) only [go_sem,simprocAttr])|with_reducible refine evOps_nil ?_|((with_reducible refine evOpsD_nil ?_ ?_);kernel_rfl)|((with_reducible refine hK _ ?_);clear hK K)|(with_reducible first|refine And.intro ?_ ?_|refine nxt_n ?_|refine nxt_r ?_|refine nxt_e ?_|refine blk_n ?_|refine blk_r ?_|refine blk_same ?_|refine blk_other (by decide) ?_|refine noG_n ?_|refine noG_r ?_|refine noG_e ?_|refine inR_mk ?_ ?_)|(refine fun (hc : (_ : Bool) = _)=>?_;try simp only [hcS] at hc))
    all_goals try exact om_
    · refine ⟨⟨a + 1,by omega,(by trivial)⟩,by simp only;omega,Imp.auto hX (by simp only [go_sem,simprocAttr,e1])⟩
  · have ea : List.replicate a (-1 : Int) = startI c d P 0:=by rw [show a = c.fr.length by omega];rfl
    rw [ea]
    repeat' (first|(with_reducible first|refine V_seq ?_|refine V_block ?_|refine V_skip ?_|refine V_ret ?_|refine V_exit ?_)|((with_reducible refine V_cond ?_);simp only [go_sem,simprocAttr])|((first|refine V_region (by rw [hn];rfl) ?_|refine V_drawn hmix (by rw [hn];rfl) ?_);intro K hK)|((first|with_reducible refine evOps_n ?_|((with_reducible apply evOps_g);rfl)|with_reducible refine evOpsD_n ?_|((with_reducible apply evOpsD_g);rfl));intro K hK;simp (contextual:=true) only [go_sem,simprocAttr])|with_reducible refine evOps_nil ?_|((with_reducible refine evOpsD_nil ?_ ?_);kernel_rfl)|((with_reducible refine hK _ ?_);clear hK K)|(with_reducible first|refine And.intro ?_ ?_|refine nxt_n ?_|refine nxt_r ?_|refine nxt_e ?_|refine blk_n ?_|refine blk_r ?_|refine blk_same ?_|refine blk_other (by decide) ?_|refine noG_n ?_|refine noG_r ?_|refine noG_e ?_|refine inR_mk ?_ ?_)|(refine fun (hc : (_ : Bool) = _)=>?_;try simp only [hcS] at hc))
    all_goals try exact om_
    refine V_loopK (G:={y : Nat // y ≤ P.length ∧ (True)}) (fun ⟨y,_⟩=>[(7,iv y)]) [0,1,4,5] (fun ⟨y,_⟩=>[(5,⟨1,.arr (ints (startI c d P y))⟩)]) [5] (fun zz=>P.length - zz.1) ⟨0,Nat.zero_le _,by first|trivial|simp⟩ ?_ ?_
    · exact Imp.au hX
    rintro ⟨y,hiy,hwy⟩
    simp only [go_sem,simprocAttr]
    have sl:=startI_len (c:=c) (d:=d) (X:=P) y
    rcases Nat.lt_or_ge y P.length with hly | hgy
    · have i1:=id_ok sc.toShape (x:=y) (by omega)
      have i2:=unit_ok sc.toShape sd.toShape hP (x:=y) (by omega)
      repeat' (first|(with_reducible first|refine V_seq ?_|refine V_block ?_|refine V_skip ?_|refine V_ret ?_|refine V_exit ?_)|((with_reducible refine V_cond ?_);simp only [go_sem,simprocAttr])|((first|refine V_region (by rw [hn];rfl) ?_|refine V_drawn hmix (by rw [hn];rfl) ?_);intro K hK)|((first|with_reducible refine evOps_n ?_|((with_reducible apply evOps_g);rfl)|with_reducible refine evOpsD_n ?_|((with_reducible apply evOpsD_g);rfl));intro K hK;simp (contextual:=true) only [go_sem,simprocAttr])|with_reducible refine evOps_nil ?_|((with_reducible refine evOpsD_nil ?_ ?_);kernel_rfl)|((with_reducible refine hK _ ?_);clear hK K)|(with_reducible first|refine And.intro ?_ ?_|refine nxt_n ?_|refine nxt_r ?_|refine nxt_e ?_|refine blk_n ?_|refine blk_r ?_|refine blk_same ?_|refine blk_other (by decide) ?_|refine noG_n ?_|refine noG_r ?_|refine noG_e ?_|refine inR_mk ?_ ?_)|(refine fun (hc : (_ : Bool) = _)=>?_;try simp only [hcS] at hc))
      all_goals try exact om_
      · refine ⟨⟨y + 1,by omega,(by trivial)⟩,by simp only;omega,Imp.auto hX (by simp only [go_sem,simprocAttr,show (startI c d P y).set (c.id.getD y 0).toNat (d.id.getD (P.getD y 0).toNat 0) = startI c d P (y + 1) from rfl])⟩
    · have ey : y = c.id.length:=by omega
      rw [ey]
      repeat' (first|(refine V_at 11 (Imp.closeB 0 4 13 _ _ rfl rfl rfl (by decide)) ?_;simp only [go_sem,simprocAttr])|(with_reducible first|refine V_seq ?_|refine V_block ?_|refine V_skip ?_|refine V_ret ?_|refine V_exit ?_)|((with_reducible refine V_cond ?_);simp only [go_sem,simprocAttr])|((first|refine V_region (by rw [hn];rfl) ?_|refine V_drawn hmix (by rw [hn];rfl) ?_);intro K hK)|((first|with_reducible refine evOps_n ?_|((with_reducible apply evOps_g);rfl)|with_reducible refine evOpsD_n ?_|((with_reducible apply evOpsD_g);rfl));intro K hK;simp (contextual:=true) only [go_sem,simprocAttr])|with_reducible refine evOps_nil ?_|((with_reducible refine evOpsD_nil ?_ ?_);kernel_rfl)|((with_reducible refine hK _ ?_);clear hK K)|(with_reducible first|refine And.intro ?_ ?_|refine nxt_n ?_|refine nxt_r ?_|refine nxt_e ?_|refine blk_n ?_|refine blk_r ?_|refine blk_same ?_|refine blk_other (by decide) ?_|refine noG_n ?_|refine noG_r ?_|refine noG_e ?_|refine inR_mk ?_ ?_)|((with_reducible refine evCall_at 73 ?_);refine EvCall.mk (hrun) cal_l10Arrows [(0,0),(1,1),(2,2),(3,3),(4,5)] [] (by simp [go_sem] <;> (repeat' (first|rfl|constructor))) (by simp [go_sem] <;> (repeat' (first|rfl|constructor))) ?_;all_goals try simp only [go_sem,simprocAttr])|(refine fun (hc : (_ : Bool) = _)=>?_;try simp only [hcS] at hc))
      all_goals try exact om_
      · (first|refine ret_auto ?_|refine ret_auto' ?_);simp only [go_sem,simprocAttr,Tryz.f58]
noncomputable def allS (c d : Cat) (N : List Int) (n x : Nat) : Bool:=dec (∀ j,j < x → SizeP c d N n j)
theorem allS_zero (c d : Cat) (N : List Int) (n : Nat) : allS c d N n 0 = true:=dec_t fun j hj=>by omega
theorem allS_t {c d : Cat} {N : List Int} {n x : Nat} (h : ∀ j,j < x → SizeP c d N n j) : allS c d N n x = true:=dec_t h
theorem allS_f {c d : Cat} {N : List Int} {n x : Nat} (h : ¬ ∀ j,j < x → SizeP c d N n j) : allS c d N n x = false:=dec_f h
attribute [local go_sem] allS_zero
theorem snoc_len {P : List Int} {y : Int} : (P ++ [y]).getD P.length 0 = y:=by
  rw [List.getD_eq_getElem?_getD,List.getElem?_append_right (Nat.le_refl _),Nat.sub_self];rfl
theorem sp_l10Objects_n {c d : Cat} {cc dd : List Int} {m : Nat} (sc : IsCat c) (sd : IsCat d) (bc : CatB c) (bd : CatB d) (ho : c.ob = d.ob) (ha : c.fr.length = d.fr.length) (hk : Keep c d cc dd) (h1 : cc.length = c.fr.length) (h2 : dd.length = d.fr.length) (hm : m ≤ 4096) : ∀ (r : Nat) (P : List Int) (F : List Fun),(P.length : Int) + r = c.ob → Within P d.ob → NdI P → F.length < m →
    Spec Tryz.prog 58 [.ptr 0 0,.sl 3] [(0,⟨1,.bx [iv c.ob,.bor [] (ints c.fr),.bor [] (ints c.to),.bor [] (ints c.id),.bor [] (intss c.co),iv d.ob,.bor [] (ints d.fr),.bor [] (ints d.to),.bor [] (ints d.id),.bor [] (intss d.co),.sl 1,.sl 2,iv m,.dead] 13 (funsD (F))⟩),(1,⟨1,.arr (ints cc)⟩),(2,⟨1,.arr (ints dd)⟩),(3,⟨1,.arr (ints (P))⟩)] (.tup []) [(0,⟨1,.bx [iv c.ob,.bor [] (ints c.fr),.bor [] (ints c.to),.bor [] (ints c.id),.bor [] (intss c.co),iv d.ob,.bor [] (ints d.fr),.bor [] (ints d.to),.bor [] (ints d.id),.bor [] (intss d.co),.sl 1,.sl 2,iv m,.dead] 13 (funsD ((F ++ funX c d true r P).take m))⟩),(1,⟨1,.arr (ints cc)⟩),(2,⟨1,.arr (ints dd)⟩),(3,⟨1,.arr (ints (P))⟩)]
  | 0,P,F,hr,hw,hnd,hF=>sp_l10Objects_0 sc sd bc bd ho ha hk h1 h2 ⟨by omega,hw,fun _=>hnd⟩ hm hF
  | r + 1,P,F,hr,hw,hnd,hF=>by
    have m40:=sc.toShape.m40
    have n40:=sd.toShape.m40
    have n8:=sc.toShape.ob8
    have q8:=sd.toShape.ob8
    have q0:=sd.toShape.ob0
    have tol:=sc.toShape.tol
    have nol:=sd.toShape.tol
    rw [funX_all]
    obtain ⟨fd,hfd⟩ : ∃ fd : Nat → List Fun,∀ y,fd y = (F ++ belowX c d true r P y).take m:=⟨_,fun _=>rfl⟩
    have fd0 : fd 0 = F:=by rw [hfd,belowX_zero,List.append_nil,List.take_of_length_le (by omega)]
    have fdl : ∀ k,(fd k).length ≤ m:=fun k=>by rw [hfd];simp only [List.length_take];omega
    have fdn : ∀ y,fd (y + 1) = (fd y ++ funX c d true r (P ++ [(y : Int)])).take m:=fun y=>by rw [hfd,hfd,belowX_succ,take_tk]
    have fdS : ∀ y,y ≤ d.ob.toNat → ¬ (fd y).length < m → fd y = (F ++ belowX c d true r P d.ob.toNat).take m:=fun y hy hk=>by
      have e1 : ∃ R,belowX c d true r P d.ob.toNat = belowX c d true r P y ++ R:=by
        rcases Nat.lt_or_ge y d.ob.toNat with q | q
        · obtain ⟨R,hR⟩:=belowX_split (c:=c) (d:=d) (b:=true) (r:=r) (X:=P) q
          rw [belowX_succ,List.append_assoc] at hR
          exact ⟨_,hR⟩
        · exact ⟨[],by rw [List.append_nil,show y = d.ob.toNat by omega]⟩
      obtain ⟨R,hR⟩:=e1
      rw [hR,← take_tk,← hfd,List.take_append_of_le_length (by omega),List.take_of_length_le (fdl y)]
    refine spec_of_V (E:=TE) 4 Tryz.func58 rfl (by simp [Tryz.f58]) fun X hn hX=>?_
    refine V_endQ ?_
    repeat' (first|(refine V_at 0 (Imp.openB 0 13 _ _ rfl (Nat.le_refl 1) rfl rfl) ?_;simp only [go_sem,simprocAttr])|(with_reducible first|refine V_seq ?_|refine V_block ?_|refine V_skip ?_|refine V_ret ?_|refine V_exit ?_)|((with_reducible refine V_cond ?_);simp only [go_sem,simprocAttr])|((first|refine V_region (by rw [hn];rfl) ?_|refine V_drawn hmix (by rw [hn];rfl) ?_);intro K hK)|((first|with_reducible refine evOps_n ?_|((with_reducible apply evOps_g);rfl)|with_reducible refine evOpsD_n ?_|((with_reducible apply evOpsD_g);rfl));intro K hK;simp (contextual:=true) only [go_sem,simprocAttr])|with_reducible refine evOps_nil ?_|((with_reducible refine evOpsD_nil ?_ ?_);kernel_rfl)|((with_reducible refine hK _ ?_);clear hK K)|(with_reducible first|refine And.intro ?_ ?_|refine nxt_n ?_|refine nxt_r ?_|refine nxt_e ?_|refine blk_n ?_|refine blk_r ?_|refine blk_same ?_|refine blk_other (by decide) ?_|refine noG_n ?_|refine noG_r ?_|refine noG_e ?_|refine inR_mk ?_ ?_)|(refine fun (hc : (_ : Bool) = _)=>?_;try simp only [hcS] at hc))
    all_goals try exact om_
    rw [← fd0]
    refine V_loopK (G:={y : Nat // y ≤ d.ob.toNat ∧ (True)}) (fun ⟨y,_⟩=>[(8,iv y)]) [0,1,4] (fun ⟨y,_⟩=>[(4,⟨1,.arr (funsD (fd y))⟩)]) [4] (fun zz=>d.ob.toNat - zz.1) ⟨0,Nat.zero_le _,by first|trivial|simp⟩ ?_ ?_
    · exact Imp.au hX
    rintro ⟨y,hiy,hwy⟩
    simp only [go_sem,simprocAttr]
    have l1:=fdl y
    rcases Nat.lt_or_ge y d.ob.toNat with hlt | hge
    · rcases Nat.lt_or_ge (fd y).length m with hl2 | hg2
      · have en:=fdn y
        have hPl2 : P.length ≤ 1048576:=by omega
        by_cases hm1 : (y : Int) ∈ P
        · have hm2 : dec ((y : Int) ∈ P) = true:=dec_t hm1
          rw [once_no hm1,List.append_nil,List.take_of_length_le l1] at en
          repeat' (first|(with_reducible first|refine V_seq ?_|refine V_block ?_|refine V_skip ?_|refine V_ret ?_|refine V_exit ?_)|((with_reducible refine V_cond ?_);simp only [go_sem,simprocAttr])|((first|refine V_region (by rw [hn];rfl) ?_|refine V_drawn hmix (by rw [hn];rfl) ?_);intro K hK)|((first|with_reducible refine evOps_n ?_|((with_reducible apply evOps_g);rfl)|with_reducible refine evOpsD_n ?_|((with_reducible apply evOpsD_g);rfl));intro K hK;simp (contextual:=true) only [go_sem,simprocAttr])|with_reducible refine evOps_nil ?_|((with_reducible refine evOpsD_nil ?_ ?_);kernel_rfl)|((with_reducible refine hK _ ?_);clear hK K)|(with_reducible first|refine And.intro ?_ ?_|refine nxt_n ?_|refine nxt_r ?_|refine nxt_e ?_|refine blk_n ?_|refine blk_r ?_|refine blk_same ?_|refine blk_other (by decide) ?_|refine noG_n ?_|refine noG_r ?_|refine noG_e ?_|refine inR_mk ?_ ?_)|((with_reducible refine evCall_at 54 ?_);refine EvCall.rq (a:=(sp_l01Has_k (v:=true) (by first|omega|assumption|rfl) (by first|omega|assumption|rfl))) (b:=cal_l01Has) (c:=?_);all_goals try simp only [go_sem,simprocAttr])|(refine fun (hc : (_ : Bool) = _)=>?_;try simp only [hcS] at hc))
          all_goals try exact om_
          · refine ⟨⟨y + 1,by omega,(by trivial)⟩,by simp only;omega,Imp.auto hX (by simp only [go_sem,simprocAttr,en])⟩
        · have hm2 : dec ((y : Int) ∈ P) = false:=dec_f hm1
          have hsn:=snoc_len (P:=P) (y:=(y : Int))
          repeat' (first|(refine V_at 17 (Imp.dropL 6 _ _ rfl (Nat.succ_le_succ (Nat.zero_le _))) ?_;simp only [go_sem,simprocAttr])|(with_reducible first|refine V_seq ?_|refine V_block ?_|refine V_skip ?_|refine V_ret ?_|refine V_exit ?_)|((with_reducible refine V_cond ?_);simp only [go_sem,simprocAttr])|((first|refine V_region (by rw [hn];rfl) ?_|refine V_drawn hmix (by rw [hn];rfl) ?_);intro K hK)|((first|with_reducible refine evOps_n ?_|((with_reducible apply evOps_g);rfl)|with_reducible refine evOpsD_n ?_|((with_reducible apply evOpsD_g);rfl));intro K hK;simp (contextual:=true) only [go_sem,simprocAttr])|with_reducible refine evOps_nil ?_|((with_reducible refine evOpsD_nil ?_ ?_);kernel_rfl)|((with_reducible refine hK _ ?_);clear hK K)|(with_reducible first|refine And.intro ?_ ?_|refine nxt_n ?_|refine nxt_r ?_|refine nxt_e ?_|refine blk_n ?_|refine blk_r ?_|refine blk_same ?_|refine blk_other (by decide) ?_|refine noG_n ?_|refine noG_r ?_|refine noG_e ?_|refine inR_mk ?_ ?_)|((with_reducible refine evCall_at 54 ?_);refine EvCall.rq (a:=(sp_l01Has_k (v:=false) (by first|omega|assumption|rfl) (by first|omega|assumption|rfl))) (b:=cal_l01Has) (c:=?_);all_goals try simp only [go_sem,simprocAttr])|((with_reducible refine evCall_at 74 ?_);refine EvCall.rq (a:=(sp_l01Own ?_)) (b:=cal_l01Own) (c:=?_);all_goals try simp only [go_sem,simprocAttr])|(refine fun (hc : (_ : Bool) = _)=>?_;try simp only [hcS] at hc))
          all_goals try exact om_
          refine V_loopK (G:={x : Nat // x ≤ (P.length + 1) ∧ (True)}) (fun ⟨x,_⟩=>[(11,iv x),(10,bv (allS c d (P ++ [(y : Int)]) P.length x)),(9,.sl 7)]) [0,1,4,8,74,75,76,77,78,79,80,81,82,83] (fun ⟨x,_⟩=>[(7,⟨1,.arr (ints (P ++ [(y : Int)]))⟩)]) [7] (fun zz=>(P.length + 1) - zz.1) ⟨0,Nat.zero_le _,by trivial⟩ ?_ ?_
          · exact Imp.au hX
          rintro ⟨x,hix,hwx⟩
          simp only [go_sem,simprocAttr]
          by_cases hall : ∀ j,j < x → SizeP c d (P ++ [(y : Int)]) P.length j
          · rw [allS_t hall]
            rcases Nat.lt_or_ge x (P.length + 1) with hltx | hgex
            · have hNl : (P ++ [(y : Int)]).length = P.length + 1:=by simp
              by_cases hs : SizeP c d (P ++ [(y : Int)]) P.length x
              · have e1:=allS_t (all_succ hall hs)
                obtain ⟨s1,s2⟩:=hs
                rw [hsn] at s1 s2
                have e2 : decide (((c.hom (P.length : Int) (x : Int)).length : Int) = ((d.hom (y : Int) ((P ++ [(y : Int)]).getD x 0)).length : Int)) = true:=decide_eq_true (by omega)
                repeat' (first|(refine V_at 20 (Imp.dropL 8 _ _ rfl (Nat.succ_le_succ (Nat.zero_le _))) ?_;simp only [go_sem,simprocAttr])|(refine V_at 20 (Imp.dropL 9 _ _ rfl (Nat.succ_le_succ (Nat.zero_le _))) ?_;simp only [go_sem,simprocAttr])|(refine V_at 20 (Imp.dropL 10 _ _ rfl (Nat.succ_le_succ (Nat.zero_le _))) ?_;simp only [go_sem,simprocAttr])|(refine V_at 20 (Imp.dropL 11 _ _ rfl (Nat.succ_le_succ (Nat.zero_le _))) ?_;simp only [go_sem,simprocAttr])|(with_reducible first|refine V_seq ?_|refine V_block ?_|refine V_skip ?_|refine V_ret ?_|refine V_exit ?_)|((with_reducible refine V_cond ?_);simp only [go_sem,simprocAttr])|((first|refine V_region (by rw [hn];rfl) ?_|refine V_drawn hmix (by rw [hn];rfl) ?_);intro K hK)|((first|with_reducible refine evOps_n ?_|((with_reducible apply evOps_g);rfl)|with_reducible refine evOpsD_n ?_|((with_reducible apply evOpsD_g);rfl));intro K hK;simp (contextual:=true) only [go_sem,simprocAttr])|with_reducible refine evOps_nil ?_|((with_reducible refine evOpsD_nil ?_ ?_);kernel_rfl)|((with_reducible refine hK _ ?_);clear hK K)|(with_reducible first|refine And.intro ?_ ?_|refine nxt_n ?_|refine nxt_r ?_|refine nxt_e ?_|refine blk_n ?_|refine blk_r ?_|refine blk_same ?_|refine blk_other (by decide) ?_|refine noG_n ?_|refine noG_r ?_|refine noG_e ?_|refine inR_mk ?_ ?_)|((with_reducible refine evCall_at 24 ?_);refine EvCall.rq (a:=(sp_l02Hom ?_ ?_)) (b:=cal_l02Hom) (c:=?_);all_goals try simp only [go_sem,simprocAttr])|(refine fun (hc : (_ : Bool) = _)=>?_;try simp only [hcS] at hc))
                all_goals try exact om_
                · refine ⟨⟨x + 1,by omega,(by trivial)⟩,by simp only;omega,Imp.auto hX (by simp only [go_sem,simprocAttr,e1,e2])⟩
              · have e1 : allS c d (P ++ [(y : Int)]) P.length (x + 1) = false:=allS_f (fun h=>hs (h x (by omega)))
                have hs2 : ¬ ((c.hom (x : Int) (P.length : Int)).length = (d.hom ((P ++ [(y : Int)]).getD x 0) (y : Int)).length ∧ (c.hom (P.length : Int) (x : Int)).length = (d.hom (y : Int) ((P ++ [(y : Int)]).getD x 0)).length):=fun h=>hs (by unfold SizeP;rw [hsn];exact h)
                repeat' (first|(refine V_at 20 (Imp.dropL 8 _ _ rfl (Nat.succ_le_succ (Nat.zero_le _))) ?_;simp only [go_sem,simprocAttr])|(refine V_at 20 (Imp.dropL 9 _ _ rfl (Nat.succ_le_succ (Nat.zero_le _))) ?_;simp only [go_sem,simprocAttr])|(refine V_at 20 (Imp.dropL 10 _ _ rfl (Nat.succ_le_succ (Nat.zero_le _))) ?_;simp only [go_sem,simprocAttr])|(refine V_at 20 (Imp.dropL 11 _ _ rfl (Nat.succ_le_succ (Nat.zero_le _))) ?_;simp only [go_sem,simprocAttr])|(with_reducible first|refine V_seq ?_|refine V_block ?_|refine V_skip ?_|refine V_ret ?_|refine V_exit ?_)|((with_reducible refine V_cond ?_);simp only [go_sem,simprocAttr])|((first|refine V_region (by rw [hn];rfl) ?_|refine V_drawn hmix (by rw [hn];rfl) ?_);intro K hK)|((first|with_reducible refine evOps_n ?_|((with_reducible apply evOps_g);rfl)|with_reducible refine evOpsD_n ?_|((with_reducible apply evOpsD_g);rfl));intro K hK;simp (contextual:=true) only [go_sem,simprocAttr])|with_reducible refine evOps_nil ?_|((with_reducible refine evOpsD_nil ?_ ?_);kernel_rfl)|((with_reducible refine hK _ ?_);clear hK K)|(with_reducible first|refine And.intro ?_ ?_|refine nxt_n ?_|refine nxt_r ?_|refine nxt_e ?_|refine blk_n ?_|refine blk_r ?_|refine blk_same ?_|refine blk_other (by decide) ?_|refine noG_n ?_|refine noG_r ?_|refine noG_e ?_|refine inR_mk ?_ ?_)|((with_reducible refine evCall_at 24 ?_);refine EvCall.rq (a:=(sp_l02Hom ?_ ?_)) (b:=cal_l02Hom) (c:=?_);all_goals try simp only [go_sem,simprocAttr])|(refine fun (hc : (_ : Bool) = _)=>?_;try simp only [hcS] at hc))
                all_goals try exact om_
                · have e2 : decide (((c.hom (P.length : Int) (x : Int)).length : Int) = ((d.hom (y : Int) ((P ++ [(y : Int)]).getD x 0)).length : Int)) = false:=decide_eq_false (by omega)
                  refine ⟨⟨x + 1,by omega,(by trivial)⟩,by simp only;omega,Imp.auto hX (by simp only [go_sem,simprocAttr,e1,e2])⟩
                · refine ⟨⟨x + 1,by omega,(by trivial)⟩,by simp only;omega,Imp.auto hX (by simp only [go_sem,simprocAttr,e1])⟩
            · have ex : x = P.length + 1:=by omega
              subst ex
              have hrec:=sp_l10Objects_n sc sd bc bd ho ha hk h1 h2 hm r (P ++ [(y : Int)]) (fd y) (by rw [List.length_append,List.length_singleton];omega) (within_snoc hw (by omega)) (ndI_snoc hnd hm1) hl2
              rw [← en] at hrec
              repeat' (first|(refine V_at 23 (Imp.closeB 0 4 13 _ _ rfl rfl rfl (by decide)) ?_;simp only [go_sem,simprocAttr])|(refine V_at 14 (Imp.trans (Imp.openB 0 13 _ _ rfl (Nat.succ_le_succ (Nat.zero_le _)) rfl rfl) (Imp.drop 7 (Nat.succ_le_succ (Nat.zero_le _)))) ?_;simp only [go_sem,simprocAttr])|(with_reducible first|refine V_seq ?_|refine V_block ?_|refine V_skip ?_|refine V_ret ?_|refine V_exit ?_)|((with_reducible refine V_cond ?_);simp only [go_sem,simprocAttr])|((first|refine V_region (by rw [hn];rfl) ?_|refine V_drawn hmix (by rw [hn];rfl) ?_);intro K hK)|((first|with_reducible refine evOps_n ?_|((with_reducible apply evOps_g);rfl)|with_reducible refine evOpsD_n ?_|((with_reducible apply evOpsD_g);rfl));intro K hK;simp (contextual:=true) only [go_sem,simprocAttr])|with_reducible refine evOps_nil ?_|((with_reducible refine evOpsD_nil ?_ ?_);kernel_rfl)|((with_reducible refine hK _ ?_);clear hK K)|(with_reducible first|refine And.intro ?_ ?_|refine nxt_n ?_|refine nxt_r ?_|refine nxt_e ?_|refine blk_n ?_|refine blk_r ?_|refine blk_same ?_|refine blk_other (by decide) ?_|refine noG_n ?_|refine noG_r ?_|refine noG_e ?_|refine inR_mk ?_ ?_)|((with_reducible refine evCall_at 58 ?_);refine EvCall.mk (hrec) cal_l10Objects [(0,0),(1,1),(2,2),(3,7)] [] (by simp [go_sem] <;> (repeat' (first|rfl|constructor))) (by simp [go_sem] <;> (repeat' (first|rfl|constructor))) ?_;all_goals try simp only [go_sem,simprocAttr])|(refine fun (hc : (_ : Bool) = _)=>?_;try simp only [hcS] at hc))
              all_goals try exact om_
              · refine ⟨⟨y + 1,by omega,(by (trivial))⟩,by simp only;omega,Imp.ao hX⟩
          · rw [size_no sc sd ho ha (by rw [List.length_append,List.length_singleton]) (by omega) (fun h=>hall (fun j hj=>h j (by omega))),List.append_nil,List.take_of_length_le l1] at en
            rw [allS_f hall]
            repeat' (first|(refine V_at 14 (Imp.dropL 7 _ _ rfl (Nat.succ_le_succ (Nat.zero_le _))) ?_;simp only [go_sem,simprocAttr])|(with_reducible first|refine V_seq ?_|refine V_block ?_|refine V_skip ?_|refine V_ret ?_|refine V_exit ?_)|((with_reducible refine V_cond ?_);simp only [go_sem,simprocAttr])|((first|refine V_region (by rw [hn];rfl) ?_|refine V_drawn hmix (by rw [hn];rfl) ?_);intro K hK)|((first|with_reducible refine evOps_n ?_|((with_reducible apply evOps_g);rfl)|with_reducible refine evOpsD_n ?_|((with_reducible apply evOpsD_g);rfl));intro K hK;simp (contextual:=true) only [go_sem,simprocAttr])|with_reducible refine evOps_nil ?_|((with_reducible refine evOpsD_nil ?_ ?_);kernel_rfl)|((with_reducible refine hK _ ?_);clear hK K)|(with_reducible first|refine And.intro ?_ ?_|refine nxt_n ?_|refine nxt_r ?_|refine nxt_e ?_|refine blk_n ?_|refine blk_r ?_|refine blk_same ?_|refine blk_other (by decide) ?_|refine noG_n ?_|refine noG_r ?_|refine noG_e ?_|refine inR_mk ?_ ?_)|(refine fun (hc : (_ : Bool) = _)=>?_;try simp only [hcS] at hc))
            all_goals try exact om_
            · refine ⟨⟨y + 1,by omega,(by (trivial))⟩,by simp only;omega,Imp.auto hX (by simp only [go_sem,simprocAttr,en])⟩
      · repeat' (first|(with_reducible first|refine V_seq ?_|refine V_block ?_|refine V_skip ?_|refine V_ret ?_|refine V_exit ?_)|((with_reducible refine V_cond ?_);simp only [go_sem,simprocAttr])|((first|refine V_region (by rw [hn];rfl) ?_|refine V_drawn hmix (by rw [hn];rfl) ?_);intro K hK)|((first|with_reducible refine evOps_n ?_|((with_reducible apply evOps_g);rfl)|with_reducible refine evOpsD_n ?_|((with_reducible apply evOpsD_g);rfl));intro K hK;simp (contextual:=true) only [go_sem,simprocAttr])|with_reducible refine evOps_nil ?_|((with_reducible refine evOpsD_nil ?_ ?_);kernel_rfl)|((with_reducible refine hK _ ?_);clear hK K)|(with_reducible first|refine And.intro ?_ ?_|refine nxt_n ?_|refine nxt_r ?_|refine nxt_e ?_|refine blk_n ?_|refine blk_r ?_|refine blk_same ?_|refine blk_other (by decide) ?_|refine noG_n ?_|refine noG_r ?_|refine noG_e ?_|refine inR_mk ?_ ?_)|(refine fun (hc : (_ : Bool) = _)=>?_;try simp only [hcS] at hc))
        all_goals try exact om_
        · refine endQ_mk (Imp.closeB 0 4 13 _ _ rfl rfl rfl (by decide)) ?_
          rw [fd0,← fdS y (by omega) (by omega)]
          (first|refine ret_auto ?_|refine ret_auto' ?_);simp only [go_sem,simprocAttr,Tryz.f58]
    · repeat' (first|(with_reducible first|refine V_seq ?_|refine V_block ?_|refine V_skip ?_|refine V_ret ?_|refine V_exit ?_)|((with_reducible refine V_cond ?_);simp only [go_sem,simprocAttr])|((first|refine V_region (by rw [hn];rfl) ?_|refine V_drawn hmix (by rw [hn];rfl) ?_);intro K hK)|((first|with_reducible refine evOps_n ?_|((with_reducible apply evOps_g);rfl)|with_reducible refine evOpsD_n ?_|((with_reducible apply evOpsD_g);rfl));intro K hK;simp (contextual:=true) only [go_sem,simprocAttr])|with_reducible refine evOps_nil ?_|((with_reducible refine evOpsD_nil ?_ ?_);kernel_rfl)|((with_reducible refine hK _ ?_);clear hK K)|(with_reducible first|refine And.intro ?_ ?_|refine nxt_n ?_|refine nxt_r ?_|refine nxt_e ?_|refine blk_n ?_|refine blk_r ?_|refine blk_same ?_|refine blk_other (by decide) ?_|refine noG_n ?_|refine noG_r ?_|refine noG_e ?_|refine inR_mk ?_ ?_)|(refine fun (hc : (_ : Bool) = _)=>?_;try simp only [hcS] at hc))
      all_goals try exact om_
      · refine endQ_mk (Imp.closeB 0 4 13 _ _ rfl rfl rfl (by decide)) ?_
        rw [fd0,hfd,show y = d.ob.toNat by omega]
        (first|refine ret_auto ?_|refine ret_auto' ?_);simp only [go_sem,simprocAttr,Tryz.f58]
end Go.Eng
