/- Functors, by the reference: the search. -/
import Derived.Test.YtmpopmololpaoaaGreatKaax
import Derived.Test.YtmpopmololpaoaaGreatR04q
set_option linter.unusedSimpArgs false
set_option linter.unusedVariables false
set_option maxRecDepth 100000
set_option maxHeartbeats 16000000
namespace Go.Eng
open Go Go.Proofs Go.Cats
attribute [local go_sem] List.set_cons_zero List.set_cons_succ belowH_nil repm_zero List.map_nil
theorem take_mk {α β : Type} {F : List β} {A : List α} {f : α → β} {n : Nat} : (F ++ (A.take n).map f).take n = (F ++ A.map f).take n:=by
  rw [List.map_take,List.take_append,List.take_append (l₂:=A.map f),List.take_take,Nat.min_eq_left (by omega)]
theorem fmap_mk {c d : Cat} {P : List Int} : funX c d false 0 P = (funA c d false P).map (mkF c d P):=rfl
theorem cal_l06Search : Callable Tryz.prog 149:=⟨_,Tryz.func149,rfl,rfl⟩
theorem sp_l06Search_no {c d : Cat} {r : Nat} {P : List Int} {F : List Fun} (sc : Shape c) (sd : Shape d) (hPl : P.length ≤ 1048576) (hF : F.length ≤ 200) (hR : ¬ Rooms c d P) :
    Spec Tryz.prog 149 [catV c,catV d,.bor [] (ints P),.sl 0] [(0,⟨1,.arr (funsD F)⟩)] (.sl 1) [(0,⟨1,.gone⟩),(1,⟨1,.arr (funsD ((F ++ funX c d false r P).take 201))⟩)]:=by
  have m40:=sc.m40
  have n40:=sd.m40
  have hro:=sp_l06Rooms (P:=P) sc sd hPl
  rw [dec_f hR] at hro
  have hno:=rooms_no (d:=d) (r:=r) sc hR
  rw [hno,List.append_nil,List.take_of_length_le (by omega)]
  refine spec_of_V (E:=TE) 1 Tryz.func149 rfl (by simp [Tryz.f149]) fun X hn hX=>?_
  repeat' (first|(refine V_at 0 (Imp.mv 3 0 1 (funsD F) rfl rfl (Nat.le_refl 1) rfl (by rw [hX];rfl)) ?_;simp only [go_sem,simprocAttr])|(with_reducible first|refine V_seq ?_|refine V_block ?_|refine V_skip ?_|refine V_ret ?_|refine V_exit ?_)|((with_reducible refine V_cond ?_);simp only [go_sem,simprocAttr])|((first|refine V_region (by rw [hn];rfl) ?_|refine V_drawn hmix (by rw [hn];rfl) ?_);intro K hK)|((first|with_reducible refine evOps_n ?_|((with_reducible apply evOps_g);rfl)|with_reducible refine evOpsD_n ?_|((with_reducible apply evOpsD_g);rfl));intro K hK;simp (contextual:=true) only [go_sem,simprocAttr])|with_reducible refine evOps_nil ?_|((with_reducible refine evOpsD_nil ?_ ?_);kernel_rfl)|((with_reducible refine hK _ ?_);clear hK K)|(with_reducible first|refine And.intro ?_ ?_|refine nxt_n ?_|refine nxt_r ?_|refine nxt_e ?_|refine blk_n ?_|refine blk_r ?_|refine blk_same ?_|refine blk_other (by decide) ?_|refine noG_n ?_|refine noG_r ?_|refine noG_e ?_|refine inR_mk ?_ ?_)|((with_reducible refine evCall_at 174 ?_);refine EvCall.mk (hro) cal_l06Rooms [] [] (by simp [go_sem] <;> (repeat' (first|rfl|constructor))) (by simp [go_sem] <;> (repeat' (first|rfl|constructor))) ?_;all_goals try simp only [go_sem,simprocAttr])|(refine fun (hc : (_ : Bool) = _)=>?_;try simp only [hcS] at hc))
  all_goals try exact om_
  · (first|refine ret_auto ?_|refine ret_auto' ?_);simp only [go_sem,simprocAttr,Tryz.f149]
theorem sp_l06Search_z {c d : Cat} {P : List Int} {F : List Fun} (sc : IsCat c) (sd : IsCat d) (bc : CatB c) (bd : CatB d) (hPl : (P.length : Int) = c.ob) (hw : Within P d.ob) (hF : F.length ≤ 200) (hR : Rooms c d P) :
    Spec Tryz.prog 149 [catV c,catV d,.bor [] (ints P),.sl 0] [(0,⟨1,.arr (funsD F)⟩)] (.sl 1) [(0,⟨1,.gone⟩),(1,⟨1,.arr (funsD ((F ++ funX c d false 0 P).take 201))⟩)]:=by
  have m40:=sc.toShape.m40
  have n40:=sd.toShape.m40
  have tol:=sc.toShape.tol
  have dol:=sd.toShape.tol
  have c0:=sc.toShape.ob0
  have c8:=sc.toShape.ob8
  have d0:=sd.toShape.ob0
  have d8:=sd.toShape.ob8
  have cil:=sc.toShape.idl
  have dil:=sd.toShape.idl
  have hro:=sp_l06Rooms (P:=P) sc.toShape sd.toShape (by omega)
  rw [dec_t hR] at hro
  have hP : XOK c d false P:=⟨by omega,hw,fun h=>by cases h⟩
  refine spec_of_V (E:=TE) 1 Tryz.func149 rfl (by simp [Tryz.f149]) fun X hn hX=>?_
  repeat' (first|(refine V_at 0 (Imp.mv 3 0 1 (funsD F) rfl rfl (Nat.le_refl 1) rfl (by rw [hX];rfl)) ?_;simp only [go_sem,simprocAttr])|(with_reducible first|refine V_seq ?_|refine V_block ?_|refine V_skip ?_|refine V_ret ?_|refine V_exit ?_)|((with_reducible refine V_cond ?_);simp only [go_sem,simprocAttr])|((first|refine V_region (by rw [hn];rfl) ?_|refine V_drawn hmix (by rw [hn];rfl) ?_);intro K hK)|((first|with_reducible refine evOps_n ?_|((with_reducible apply evOps_g);rfl)|with_reducible refine evOpsD_n ?_|((with_reducible apply evOpsD_g);rfl));intro K hK;simp (contextual:=true) only [go_sem,simprocAttr])|with_reducible refine evOps_nil ?_|((with_reducible refine evOpsD_nil ?_ ?_);kernel_rfl)|((with_reducible refine hK _ ?_);clear hK K)|(with_reducible first|refine And.intro ?_ ?_|refine nxt_n ?_|refine nxt_r ?_|refine nxt_e ?_|refine blk_n ?_|refine blk_r ?_|refine blk_same ?_|refine blk_other (by decide) ?_|refine noG_n ?_|refine noG_r ?_|refine noG_e ?_|refine inR_mk ?_ ?_)|((with_reducible refine evCall_at 174 ?_);refine EvCall.mk (hro) cal_l06Rooms [] [] (by simp [go_sem] <;> (repeat' (first|rfl|constructor))) (by simp [go_sem] <;> (repeat' (first|rfl|constructor))) ?_;all_goals try simp only [go_sem,simprocAttr])|(refine fun (hc : (_ : Bool) = _)=>?_;try simp only [hcS] at hc))
  all_goals try exact om_
  refine V_loopK (G:={a : Nat // a ≤ c.fr.length ∧ (True)}) (fun ⟨a,_⟩=>[(10,iv a),(9,.sl 4),(3,.sl 1)]) [2,4,5,8] (fun ⟨a,_⟩=>[(1,⟨1,.arr (funsD F)⟩),(4,⟨1,.arr (ints (List.replicate a (-1)))⟩)]) [1,4] (fun zz=>c.fr.length - zz.1) ⟨0,Nat.zero_le _,by first|trivial|simp⟩ ?_ ?_
  · exact Imp.au hX
  rintro ⟨a,hia,hwa⟩
  simp only [go_sem,simprocAttr]
  rcases Nat.lt_or_ge a c.fr.length with hlt | hge
  · have e1:=repm_succ a
    repeat' (first|(with_reducible first|refine V_seq ?_|refine V_block ?_|refine V_skip ?_|refine V_ret ?_|refine V_exit ?_)|((with_reducible refine V_cond ?_);simp only [go_sem,simprocAttr])|((first|refine V_region (by rw [hn];rfl) ?_|refine V_drawn hmix (by rw [hn];rfl) ?_);intro K hK)|((first|with_reducible refine evOps_n ?_|((with_reducible apply evOps_g);rfl)|with_reducible refine evOpsD_n ?_|((with_reducible apply evOpsD_g);rfl));intro K hK;simp (contextual:=true) only [go_sem,simprocAttr])|with_reducible refine evOps_nil ?_|((with_reducible refine evOpsD_nil ?_ ?_);kernel_rfl)|((with_reducible refine hK _ ?_);clear hK K)|(with_reducible first|refine And.intro ?_ ?_|refine nxt_n ?_|refine nxt_r ?_|refine nxt_e ?_|refine blk_n ?_|refine blk_r ?_|refine blk_same ?_|refine blk_other (by decide) ?_|refine noG_n ?_|refine noG_r ?_|refine noG_e ?_|refine inR_mk ?_ ?_)|(refine fun (hc : (_ : Bool) = _)=>?_;try simp only [hcS] at hc))
    all_goals try exact om_
    · refine ⟨⟨a + 1,by omega,(by trivial)⟩,by simp only;omega,Imp.auto hX (by simp only [go_sem,simprocAttr,e1])⟩
  · have ea : List.replicate a (-1 : Int) = startI c d P 0:=by rw [show a = c.fr.length by omega];rfl
    rw [ea]
    repeat' (first|(with_reducible first|refine V_seq ?_|refine V_block ?_|refine V_skip ?_|refine V_ret ?_|refine V_exit ?_)|((with_reducible refine V_cond ?_);simp only [go_sem,simprocAttr])|((first|refine V_region (by rw [hn];rfl) ?_|refine V_drawn hmix (by rw [hn];rfl) ?_);intro K hK)|((first|with_reducible refine evOps_n ?_|((with_reducible apply evOps_g);rfl)|with_reducible refine evOpsD_n ?_|((with_reducible apply evOpsD_g);rfl));intro K hK;simp (contextual:=true) only [go_sem,simprocAttr])|with_reducible refine evOps_nil ?_|((with_reducible refine evOpsD_nil ?_ ?_);kernel_rfl)|((with_reducible refine hK _ ?_);clear hK K)|(with_reducible first|refine And.intro ?_ ?_|refine nxt_n ?_|refine nxt_r ?_|refine nxt_e ?_|refine blk_n ?_|refine blk_r ?_|refine blk_same ?_|refine blk_other (by decide) ?_|refine noG_n ?_|refine noG_r ?_|refine noG_e ?_|refine inR_mk ?_ ?_)|(refine fun (hc : (_ : Bool) = _)=>?_;try simp only [hcS] at hc))
    all_goals try exact om_
    refine V_loopK (G:={y : Nat // y ≤ P.length ∧ (True)}) (fun ⟨y,_⟩=>[(11,iv y),(9,.sl 4),(3,.sl 1)]) [2,4,5,8] (fun ⟨y,_⟩=>[(1,⟨1,.arr (funsD F)⟩),(4,⟨1,.arr (ints (startI c d P y))⟩)]) [1,4] (fun zz=>P.length - zz.1) ⟨0,Nat.zero_le _,by first|trivial|simp⟩ ?_ ?_
    · exact Imp.au hX
    rintro ⟨y,hiy,hwy⟩
    simp only [go_sem,simprocAttr]
    have sl:=startI_len (c:=c) (d:=d) (X:=P) y
    rcases Nat.lt_or_ge y P.length with hly | hgy
    · have i1:=id_ok sc.toShape (x:=y) (by omega)
      have i2:=unit_ok sc.toShape sd.toShape hP (x:=y) (by omega)
      repeat' (first|(with_reducible first|refine V_seq ?_|refine V_block ?_|refine V_skip ?_|refine V_ret ?_|refine V_exit ?_)|((with_reducible refine V_cond ?_);simp only [go_sem,simprocAttr])|((first|refine V_region (by rw [hn];rfl) ?_|refine V_drawn hmix (by rw [hn];rfl) ?_);intro K hK)|((first|with_reducible refine evOps_n ?_|((with_reducible apply evOps_g);rfl)|with_reducible refine evOpsD_n ?_|((with_reducible apply evOpsD_g);rfl));intro K hK;simp (contextual:=true) only [go_sem,simprocAttr])|with_reducible refine evOps_nil ?_|((with_reducible refine evOpsD_nil ?_ ?_);kernel_rfl)|((with_reducible refine hK _ ?_);clear hK K)|(with_reducible first|refine And.intro ?_ ?_|refine nxt_n ?_|refine nxt_r ?_|refine nxt_e ?_|refine blk_n ?_|refine blk_r ?_|refine blk_same ?_|refine blk_other (by decide) ?_|refine noG_n ?_|refine noG_r ?_|refine noG_e ?_|refine inR_mk ?_ ?_)|(refine fun (hc : (_ : Bool) = _)=>?_;try simp only [hcS] at hc))
      all_goals try exact om_
      · refine ⟨⟨y + 1,by omega,(by trivial)⟩,by simp only;omega,Imp.auto hX (by simp only [go_sem,simprocAttr,show (startI c d P y).set (c.id.getD y 0).toNat (d.id.getD (P.getD y 0).toNat 0) = startI c d P (y + 1) from rfl])⟩
    · have ey : startI c d P y = startA c d P:=by rw [show y = c.id.length by omega];rfl
      rw [ey]
      have hnx:=start_nx (b:=false) sc sd hP (fun h=>by cases h)
      have hun:=uns_le (startA c d P)
      have hal:=sp_l06Arrows_n sc.toShape sd.toShape hP (uns (startA c d P) + 1) [] (startA c d P) 0 hnx (Nat.lt_succ_self _) (fun j hj=>absurd hj (Nat.not_lt_zero j)) (Nat.zero_le _) (by decide)
      rw [List.nil_append,← funA_start sc.toShape] at hal
      have hLl : ((funA c d false P).take 201).length ≤ 201:=by rw [List.length_take];omega
      have hfin : funX c d false 0 P = (funA c d false P).map (mkF c d P):=fmap_mk
      rw [hfin,← take_mk]
      obtain ⟨L,hL⟩ : ∃ L,(funA c d false P).take 201 = L:=⟨_,rfl⟩
      have hrow : ∀ k,k < L.length → (L.getD k []).length = c.fr.length:=fun k hk=>by
        have hm : L.getD k [] ∈ funA c d false P:=by rw [← hL] at hk ⊢;exact List.mem_of_mem_take (getD_mem hk)
        have:=(mem_lexP.1 (mem_extW.1 hm).1).1
        rw [this];exact List.length_replicate
      rw [hL] at hal hLl ⊢
      obtain ⟨fd,hfd⟩ : ∃ fd : Nat → List Fun,∀ k,fd k = (F ++ (L.take k).map (mkF c d P)).take 201:=⟨_,fun _=>rfl⟩
      have fd0 : fd 0 = F:=by rw [hfd,List.take_zero,List.map_nil,List.append_nil,List.take_of_length_le (by omega)]
      have fdl : ∀ k,(fd k).length ≤ 201:=fun k=>by rw [hfd];simp only [List.length_take];omega
      have fdE : ∀ k,L.length ≤ k → fd k = (F ++ L.map (mkF c d P)).take 201:=fun k hk=>by rw [hfd,List.take_of_length_le hk]
      have fdS : ∀ k,¬ (fd k).length ≤ 200 → fd k = (F ++ L.map (mkF c d P)).take 201:=fun k hk=>by
        rw [hfd] at hk ⊢
        have e2 : L.map (mkF c d P) = (L.take k).map (mkF c d P) ++ (L.drop k).map (mkF c d P):=by rw [← List.map_append,List.take_append_drop]
        rw [e2,← List.append_assoc,fullN (B:=(L.drop k).map (mkF c d P))]
        rw [List.length_take] at hk
        omega
      have fdn : ∀ k,k < L.length → (fd k).length ≤ 200 → fd (k + 1) = fd k ++ [mkF c d P (L.getD k [])]:=fun k hk h2=>by
        have e3 : fd (k + 1) = (fd k ++ [mkF c d P (L.getD k [])]).take 201:=by
          have e4 : L.take (k + 1) = L.take k ++ [L.getD k []]:=by
            rw [List.take_add_one,List.getElem?_eq_getElem hk,List.getD_eq_getElem?_getD,List.getElem?_eq_getElem hk]
            rfl
          rw [hfd,hfd,take_tk,e4,List.map_append]
          rfl
        rw [e3,List.take_of_length_le (by simp;omega)]
      have hPb : P.length ≤ 1048576:=by omega
      repeat' (first|(with_reducible first|refine V_seq ?_|refine V_block ?_|refine V_skip ?_|refine V_ret ?_|refine V_exit ?_)|((with_reducible refine V_cond ?_);simp only [go_sem,simprocAttr])|((first|refine V_region (by rw [hn];rfl) ?_|refine V_drawn hmix (by rw [hn];rfl) ?_);intro K hK)|((first|with_reducible refine evOps_n ?_|((with_reducible apply evOps_g);rfl)|with_reducible refine evOpsD_n ?_|((with_reducible apply evOpsD_g);rfl));intro K hK;simp (contextual:=true) only [go_sem,simprocAttr])|with_reducible refine evOps_nil ?_|((with_reducible refine evOpsD_nil ?_ ?_);kernel_rfl)|((with_reducible refine hK _ ?_);clear hK K)|(with_reducible first|refine And.intro ?_ ?_|refine nxt_n ?_|refine nxt_r ?_|refine nxt_e ?_|refine blk_n ?_|refine blk_r ?_|refine blk_same ?_|refine blk_other (by decide) ?_|refine noG_n ?_|refine noG_r ?_|refine noG_e ?_|refine inR_mk ?_ ?_)|((with_reducible refine evCall_at 175 ?_);refine EvCall.mk (hal) cal_l06Arrows [(0,5),(1,6)] [4] (by simp [go_sem] <;> (repeat' (first|rfl|constructor))) (by simp [go_sem] <;> (repeat' (first|rfl|constructor))) ?_;all_goals try simp only [go_sem,simprocAttr])|(refine fun (hc : (_ : Bool) = _)=>?_;try simp only [hcS] at hc))
      all_goals try exact om_
      refine V_loopK (G:={k : Nat // k ≤ L.length ∧ (True)}) (fun ⟨k,_⟩=>[(13,iv k),(12,.sl 6),(9,.sl 4),(3,.sl 1)]) [2,4,5,8] (fun ⟨k,_⟩=>[(4,⟨1,.arr (ints (startA c d P))⟩),(1,⟨1,.arr (funsD (fd k))⟩),(6,⟨1,.arr (intss L)⟩)]) [1,4,6] (fun zz=>L.length - zz.1) ⟨0,Nat.zero_le _,by first|trivial|simp⟩ ?_ ?_
      · exact Imp.auto hX (by simp [go_sem,simprocAttr,fd0])
      rintro ⟨k,hik,hwk⟩
      simp only [go_sem,simprocAttr]
      have l1:=fdl k
      rcases Nat.lt_or_ge k L.length with hlk | hgk
      · rcases Nat.lt_or_ge 200 (fd k).length with hg2 | hl2
        · repeat' (first|(with_reducible first|refine V_seq ?_|refine V_block ?_|refine V_skip ?_|refine V_ret ?_|refine V_exit ?_)|((with_reducible refine V_cond ?_);simp only [go_sem,simprocAttr])|((first|refine V_region (by rw [hn];rfl) ?_|refine V_drawn hmix (by rw [hn];rfl) ?_);intro K hK)|((first|with_reducible refine evOps_n ?_|((with_reducible apply evOps_g);rfl)|with_reducible refine evOpsD_n ?_|((with_reducible apply evOpsD_g);rfl));intro K hK;simp (contextual:=true) only [go_sem,simprocAttr])|with_reducible refine evOps_nil ?_|((with_reducible refine evOpsD_nil ?_ ?_);kernel_rfl)|((with_reducible refine hK _ ?_);clear hK K)|(with_reducible first|refine And.intro ?_ ?_|refine nxt_n ?_|refine nxt_r ?_|refine nxt_e ?_|refine blk_n ?_|refine blk_r ?_|refine blk_same ?_|refine blk_other (by decide) ?_|refine noG_n ?_|refine noG_r ?_|refine noG_e ?_|refine inR_mk ?_ ?_)|(refine fun (hc : (_ : Bool) = _)=>?_;try simp only [hcS] at hc))
          all_goals try exact om_
          · rw [← fdS k (by omega)]
            (first|refine ret_auto ?_|refine ret_auto' ?_);simp only [go_sem,simprocAttr,Tryz.f149]
        · have rl:=hrow k hlk
          have e1 : fd (k + 1) = fd k ++ [⟨⟨c.ob,c.fr,c.to,c.id,c.co⟩,⟨d.ob,d.fr,d.to,d.id,d.co⟩,P,L.getD k []⟩]:=fdn k hlk hl2
          repeat' (first|(with_reducible first|refine V_seq ?_|refine V_block ?_|refine V_skip ?_|refine V_ret ?_|refine V_exit ?_)|((with_reducible refine V_cond ?_);simp only [go_sem,simprocAttr])|((first|refine V_region (by rw [hn];rfl) ?_|refine V_drawn hmix (by rw [hn];rfl) ?_);intro K hK)|((first|with_reducible refine evOps_n ?_|((with_reducible apply evOps_g);rfl)|with_reducible refine evOpsD_n ?_|((with_reducible apply evOpsD_g);rfl));intro K hK;simp (contextual:=true) only [go_sem,simprocAttr])|with_reducible refine evOps_nil ?_|((with_reducible refine evOpsD_nil ?_ ?_);kernel_rfl)|((with_reducible refine hK _ ?_);clear hK K)|(with_reducible first|refine And.intro ?_ ?_|refine nxt_n ?_|refine nxt_r ?_|refine nxt_e ?_|refine blk_n ?_|refine blk_r ?_|refine blk_same ?_|refine blk_other (by decide) ?_|refine noG_n ?_|refine noG_r ?_|refine noG_e ?_|refine inR_mk ?_ ?_)|((with_reducible refine evCall_at 61 ?_);refine EvCall.rq (a:=(sp_l06Make (c:=c) (d:=d) (p:=P) (q:=(L.getD k [])) ?_ ?_ ?_ ?_)) (b:=cal_l06Make) (c:=?_);all_goals try simp only [go_sem,simprocAttr])|(refine fun (hc : (_ : Bool) = _)=>?_;try simp only [hcS] at hc))
          all_goals try exact om_
          · refine ⟨⟨k + 1,by omega,(by trivial)⟩,by simp only;omega,Imp.auto hX (by simp only [go_sem,simprocAttr,e1])⟩
      · repeat' (first|(with_reducible first|refine V_seq ?_|refine V_block ?_|refine V_skip ?_|refine V_ret ?_|refine V_exit ?_)|((with_reducible refine V_cond ?_);simp only [go_sem,simprocAttr])|((first|refine V_region (by rw [hn];rfl) ?_|refine V_drawn hmix (by rw [hn];rfl) ?_);intro K hK)|((first|with_reducible refine evOps_n ?_|((with_reducible apply evOps_g);rfl)|with_reducible refine evOpsD_n ?_|((with_reducible apply evOpsD_g);rfl));intro K hK;simp (contextual:=true) only [go_sem,simprocAttr])|with_reducible refine evOps_nil ?_|((with_reducible refine evOpsD_nil ?_ ?_);kernel_rfl)|((with_reducible refine hK _ ?_);clear hK K)|(with_reducible first|refine And.intro ?_ ?_|refine nxt_n ?_|refine nxt_r ?_|refine nxt_e ?_|refine blk_n ?_|refine blk_r ?_|refine blk_same ?_|refine blk_other (by decide) ?_|refine noG_n ?_|refine noG_r ?_|refine noG_e ?_|refine inR_mk ?_ ?_)|(refine fun (hc : (_ : Bool) = _)=>?_;try simp only [hcS] at hc))
        all_goals try exact om_
        · rw [← fdE k (by omega)]
          (first|refine ret_auto ?_|refine ret_auto' ?_);simp only [go_sem,simprocAttr,Tryz.f149]
theorem sp_l06Search_n {c d : Cat} (sc : IsCat c) (sd : IsCat d) (bc : CatB c) (bd : CatB d) : ∀ (r : Nat) (P : List Int) (F : List Fun),(P.length : Int) + r = c.ob → Within P d.ob → F.length ≤ 200 →
    Spec Tryz.prog 149 [catV c,catV d,.bor [] (ints P),.sl 0] [(0,⟨1,.arr (funsD F)⟩)] (.sl 1) [(0,⟨1,.gone⟩),(1,⟨1,.arr (funsD ((F ++ funX c d false r P).take 201))⟩)]
  | 0,P,F,hPl,hw,hF=>by
    have c8:=sc.toShape.ob8
    by_cases hR : Rooms c d P
    · exact sp_l06Search_z sc sd bc bd (by omega) hw hF hR
    · exact sp_l06Search_no sc.toShape sd.toShape (by omega) hF hR
  | r + 1,P,F,hPl,hw,hF=>by
    have m40:=sc.toShape.m40
    have n40:=sd.toShape.m40
    have tol:=sc.toShape.tol
    have dol:=sd.toShape.tol
    have c0:=sc.toShape.ob0
    have c8:=sc.toShape.ob8
    have d0:=sd.toShape.ob0
    have d8:=sd.toShape.ob8
    have cil:=sc.toShape.idl
    have dil:=sd.toShape.idl
    have hro:=sp_l06Rooms (P:=P) sc.toShape sd.toShape (by omega)
    by_cases hR : Rooms c d P
    · rw [dec_t hR] at hro
      rw [funX_all]
      obtain ⟨fd,hfd⟩ : ∃ fd : Nat → List Fun,∀ k,fd k = (F ++ belowX c d false r P k).take 201:=⟨_,fun _=>rfl⟩
      have fd0 : fd 0 = F:=by rw [hfd,belowX_zero,List.append_nil,List.take_of_length_le (by omega)]
      have fdl : ∀ k,(fd k).length ≤ 201:=fun k=>by rw [hfd];simp only [List.length_take];omega
      have fdE : fd d.ob.toNat = (F ++ belowX c d false r P d.ob.toNat).take 201:=hfd _
      have fdS : ∀ y,y ≤ d.ob.toNat → ¬ (fd y).length ≤ 200 → fd y = (F ++ belowX c d false r P d.ob.toNat).take 201:=fun y hy hk=>by
        have e1 : ∃ R,belowX c d false r P d.ob.toNat = belowX c d false r P y ++ R:=by
          rcases Nat.lt_or_ge y d.ob.toNat with q | q
          · obtain ⟨R,hR⟩:=belowX_split (c:=c) (d:=d) (b:=false) (r:=r) (X:=P) q
            rw [belowX_succ,List.append_assoc] at hR
            exact ⟨_,hR⟩
          · exact ⟨[],by rw [List.append_nil,show y = d.ob.toNat by omega]⟩
        obtain ⟨R,hR⟩:=e1
        rw [hR,← take_tk,← hfd,List.take_append_of_le_length (by omega),List.take_of_length_le (fdl y)]
      have fdn : ∀ y : Nat,(fd y ++ funX c d false r (P ++ [(y : Int)])).take 201 = fd (y + 1):=fun y=>by rw [hfd,hfd,belowX_succ,take_tk]
      refine spec_of_V (E:=TE) 1 Tryz.func149 rfl (by simp [Tryz.f149]) fun X hn hX=>?_
      repeat' (first|(refine V_at 0 (Imp.mv 3 0 1 (funsD F) rfl rfl (Nat.le_refl 1) rfl (by rw [hX];rfl)) ?_;simp only [go_sem,simprocAttr])|(with_reducible first|refine V_seq ?_|refine V_block ?_|refine V_skip ?_|refine V_ret ?_|refine V_exit ?_)|((with_reducible refine V_cond ?_);simp only [go_sem,simprocAttr])|((first|refine V_region (by rw [hn];rfl) ?_|refine V_drawn hmix (by rw [hn];rfl) ?_);intro K hK)|((first|with_reducible refine evOps_n ?_|((with_reducible apply evOps_g);rfl)|with_reducible refine evOpsD_n ?_|((with_reducible apply evOpsD_g);rfl));intro K hK;simp (contextual:=true) only [go_sem,simprocAttr])|with_reducible refine evOps_nil ?_|((with_reducible refine evOpsD_nil ?_ ?_);kernel_rfl)|((with_reducible refine hK _ ?_);clear hK K)|(with_reducible first|refine And.intro ?_ ?_|refine nxt_n ?_|refine nxt_r ?_|refine nxt_e ?_|refine blk_n ?_|refine blk_r ?_|refine blk_same ?_|refine blk_other (by decide) ?_|refine noG_n ?_|refine noG_r ?_|refine noG_e ?_|refine inR_mk ?_ ?_)|((with_reducible refine evCall_at 174 ?_);refine EvCall.mk (hro) cal_l06Rooms [] [] (by simp [go_sem] <;> (repeat' (first|rfl|constructor))) (by simp [go_sem] <;> (repeat' (first|rfl|constructor))) ?_;all_goals try simp only [go_sem,simprocAttr])|(refine fun (hc : (_ : Bool) = _)=>?_;try simp only [hcS] at hc))
      all_goals try exact om_
      refine V_loopK (G:={y : Nat // y ≤ d.ob.toNat ∧ (True)}) (fun ⟨y,_⟩=>[(14,iv y),(3,.sl 1)]) [2,4,5,8] (fun ⟨y,_⟩=>[(1,⟨1,.arr (funsD (fd y))⟩)]) [1] (fun zz=>d.ob.toNat - zz.1) ⟨0,Nat.zero_le _,by first|trivial|simp⟩ ?_ ?_
      · exact Imp.auto hX (by simp [go_sem,simprocAttr,fd0])
      rintro ⟨y,hiy,hwy⟩
      simp only [go_sem,simprocAttr]
      have l1:=fdl y
      rcases Nat.lt_or_ge y d.ob.toNat with hlt | hge
      · rcases Nat.lt_or_ge 200 (fd y).length with hg2 | hl2
        · repeat' (first|(with_reducible first|refine V_seq ?_|refine V_block ?_|refine V_skip ?_|refine V_ret ?_|refine V_exit ?_)|((with_reducible refine V_cond ?_);simp only [go_sem,simprocAttr])|((first|refine V_region (by rw [hn];rfl) ?_|refine V_drawn hmix (by rw [hn];rfl) ?_);intro K hK)|((first|with_reducible refine evOps_n ?_|((with_reducible apply evOps_g);rfl)|with_reducible refine evOpsD_n ?_|((with_reducible apply evOpsD_g);rfl));intro K hK;simp (contextual:=true) only [go_sem,simprocAttr])|with_reducible refine evOps_nil ?_|((with_reducible refine evOpsD_nil ?_ ?_);kernel_rfl)|((with_reducible refine hK _ ?_);clear hK K)|(with_reducible first|refine And.intro ?_ ?_|refine nxt_n ?_|refine nxt_r ?_|refine nxt_e ?_|refine blk_n ?_|refine blk_r ?_|refine blk_same ?_|refine blk_other (by decide) ?_|refine noG_n ?_|refine noG_r ?_|refine noG_e ?_|refine inR_mk ?_ ?_)|(refine fun (hc : (_ : Bool) = _)=>?_;try simp only [hcS] at hc))
          all_goals try exact om_
          · rw [← fdS y (by omega) (by omega)]
            (first|refine ret_auto ?_|refine ret_auto' ?_);simp only [go_sem,simprocAttr,Tryz.f149]
        · have hrec:=sp_l06Search_n sc sd bc bd r (P ++ [(y : Int)]) (fd y) (by rw [List.length_append,List.length_singleton];omega) (within_snoc hw (by omega)) hl2
          rw [fdn] at hrec
          repeat' (first|(with_reducible first|refine V_seq ?_|refine V_block ?_|refine V_skip ?_|refine V_ret ?_|refine V_exit ?_)|((with_reducible refine V_cond ?_);simp only [go_sem,simprocAttr])|((first|refine V_region (by rw [hn];rfl) ?_|refine V_drawn hmix (by rw [hn];rfl) ?_);intro K hK)|((first|with_reducible refine evOps_n ?_|((with_reducible apply evOps_g);rfl)|with_reducible refine evOpsD_n ?_|((with_reducible apply evOpsD_g);rfl));intro K hK;simp (contextual:=true) only [go_sem,simprocAttr])|with_reducible refine evOps_nil ?_|((with_reducible refine evOpsD_nil ?_ ?_);kernel_rfl)|((with_reducible refine hK _ ?_);clear hK K)|(with_reducible first|refine And.intro ?_ ?_|refine nxt_n ?_|refine nxt_r ?_|refine nxt_e ?_|refine blk_n ?_|refine blk_r ?_|refine blk_same ?_|refine blk_other (by decide) ?_|refine noG_n ?_|refine noG_r ?_|refine noG_e ?_|refine inR_mk ?_ ?_)|((with_reducible refine evCall_at 119 ?_);refine EvCall.rq (a:=(sp_l01Own ?_)) (b:=cal_l01Own) (c:=?_);all_goals try simp only [go_sem,simprocAttr])|((with_reducible refine evCall_at 149 ?_);refine EvCall.mk (hrec) cal_l06Search [(0,1),(1,7)] [6] (by simp [go_sem] <;> (repeat' (first|rfl|constructor))) (by simp [go_sem] <;> (repeat' (first|rfl|constructor))) ?_;all_goals try simp only [go_sem,simprocAttr])|(refine fun (hc : (_ : Bool) = _)=>?_;try simp only [hcS] at hc))
          all_goals try exact om_
          · refine ⟨⟨y + 1,by omega,(by trivial)⟩,by simp only;omega,Imp.ao hX⟩
      · have ey : y = d.ob.toNat:=by omega
        subst ey
        rw [← fdE]
        repeat' (first|(with_reducible first|refine V_seq ?_|refine V_block ?_|refine V_skip ?_|refine V_ret ?_|refine V_exit ?_)|((with_reducible refine V_cond ?_);simp only [go_sem,simprocAttr])|((first|refine V_region (by rw [hn];rfl) ?_|refine V_drawn hmix (by rw [hn];rfl) ?_);intro K hK)|((first|with_reducible refine evOps_n ?_|((with_reducible apply evOps_g);rfl)|with_reducible refine evOpsD_n ?_|((with_reducible apply evOpsD_g);rfl));intro K hK;simp (contextual:=true) only [go_sem,simprocAttr])|with_reducible refine evOps_nil ?_|((with_reducible refine evOpsD_nil ?_ ?_);kernel_rfl)|((with_reducible refine hK _ ?_);clear hK K)|(with_reducible first|refine And.intro ?_ ?_|refine nxt_n ?_|refine nxt_r ?_|refine nxt_e ?_|refine blk_n ?_|refine blk_r ?_|refine blk_same ?_|refine blk_other (by decide) ?_|refine noG_n ?_|refine noG_r ?_|refine noG_e ?_|refine inR_mk ?_ ?_)|(refine fun (hc : (_ : Bool) = _)=>?_;try simp only [hcS] at hc))
        all_goals try exact om_
        · (first|refine ret_auto ?_|refine ret_auto' ?_);simp only [go_sem,simprocAttr,Tryz.f149]
    · exact sp_l06Search_no sc.toShape sd.toShape (by omega) hF hR
end Go.Eng
