/- Transformations, by the reference: the search in depth, up to a number of results. -/
import Derived.Test.YtmpopmololpaoaaGreatR02q
set_option linter.unusedSimpArgs false
set_option linter.unusedVariables false
set_option maxRecDepth 100000
set_option maxHeartbeats 16000000
namespace Go.Eng
open Go Go.Proofs Go.Cats
theorem toNat_back5 (n i : Nat) : ((n : Int) - 1 - (i : Int)).toNat = n - 1 - i:=by omega
theorem pI_none' : pI none = -1:=rfl
theorem pI_some' (x : Nat) : pI (some x) = x:=rfl
theorem bkL_zero' (A : List Int) : bkL A 0 = none:=rfl
attribute [local go_sem] toNat_back5 pI_none' pI_some' bkL_zero' List.set_cons_succ List.set_cons_zero
theorem cal_l07Go : Callable Tryz.prog 177:=⟨_,Tryz.func177,rfl,rfl⟩
theorem sp_l07Go_n {f g : Fun} {m : Nat} (h : Par f g) (hm : m ≤ 4096) : ∀ (n : Nat) (F : List (List Int)) (A : List Int),A.length = f.src.ob.toNat → (∀ j : Nat,j < A.length → A.getD j 0 < f.tgt.fr.length) → uns A < n → F.length < m →
    Spec Tryz.prog 177 [.ptr 0 0,.sl 1] [(0,⟨1,.bx [iv f.src.ob,.bor [] (ints f.src.fr),.bor [] (ints f.src.to),.bor [] (ints f.src.id),.bor [] (intss f.src.co),iv f.tgt.ob,.bor [] (ints f.tgt.fr),.bor [] (ints f.tgt.to),.bor [] (ints f.tgt.id),.bor [] (intss f.tgt.co),.bor [] (ints f.obs),.bor [] (ints f.ars),iv g.src.ob,.bor [] (ints g.src.fr),.bor [] (ints g.src.to),.bor [] (ints g.src.id),.bor [] (intss g.src.co),iv g.tgt.ob,.bor [] (ints g.tgt.fr),.bor [] (ints g.tgt.to),.bor [] (ints g.tgt.id),.bor [] (intss g.tgt.co),.bor [] (ints g.obs),.bor [] (ints g.ars),bv false,iv m,.dead] 26 (intss (F))⟩),(1,⟨1,.arr (ints A)⟩)] (.tup []) [(0,⟨1,.bx [iv f.src.ob,.bor [] (ints f.src.fr),.bor [] (ints f.src.to),.bor [] (ints f.src.id),.bor [] (intss f.src.co),iv f.tgt.ob,.bor [] (ints f.tgt.fr),.bor [] (ints f.tgt.to),.bor [] (ints f.tgt.id),.bor [] (intss f.tgt.co),.bor [] (ints f.obs),.bor [] (ints f.ars),iv g.src.ob,.bor [] (ints g.src.fr),.bor [] (ints g.src.to),.bor [] (ints g.src.id),.bor [] (intss g.src.co),iv g.tgt.ob,.bor [] (ints g.tgt.fr),.bor [] (ints g.tgt.to),.bor [] (ints g.tgt.id),.bor [] (intss g.tgt.co),.bor [] (ints g.obs),.bor [] (ints g.ars),bv false,iv m,.dead] 26 (intss ((F ++ goC (nCh f g) n A).take m))⟩),(1,⟨1,.arr (ints A)⟩)]
  | 0,_,_,_,_,hk,_=>by omega
  | n + 1,F,A,hA,hr,hk,hF=>by
    have hw:=nCh_w (f:=f) (g:=g) h.src.toShape
    have o8:=h.src.toShape.ob8
    have m40:=h.tgt.toShape.m40
    have hch : ∀ x,x < f.src.ob.toNat → ∀ F' : List (List Int),Spec Tryz.prog 191 [.bptr [] (stD f g false m F'),.bor [] (ints A),iv x] [] (.sl 0) [(0,⟨1,.arr (ints (nCh f g A x))⟩)]:=fun x hx F'=>sp_l07Choices_n h hA hr hx
    have hSN : A.length = (sN f).length:=by rw [sN_len];exact hA
    refine spec_of_V (E:=TE) 2 Tryz.func177 rfl (by simp [Tryz.f177]) fun X hn hX=>?_
    refine V_endQ ?_
    cases hf : fqL A with
    | none =>
      repeat' (first|(refine V_at 0 (Imp.openB 0 26 _ _ rfl (Nat.le_refl 1) rfl rfl) ?_;simp only [go_sem,simprocAttr])|(with_reducible first|refine V_seq ?_|refine V_block ?_|refine V_skip ?_|refine V_ret ?_|refine V_exit ?_)|((with_reducible refine V_cond ?_);simp only [go_sem,simprocAttr])|((first|refine V_region (by rw [hn];rfl) ?_|refine V_drawn hmix (by rw [hn];rfl) ?_);intro K hK)|((first|with_reducible refine evOps_n ?_|((with_reducible apply evOps_g);rfl)|with_reducible refine evOpsD_n ?_|((with_reducible apply evOpsD_g);rfl));intro K hK;simp (contextual:=true) only [go_sem,simprocAttr])|with_reducible refine evOps_nil ?_|((with_reducible refine evOpsD_nil ?_ ?_);kernel_rfl)|((with_reducible refine hK _ ?_);clear hK K)|(with_reducible first|refine And.intro ?_ ?_|refine nxt_n ?_|refine nxt_r ?_|refine nxt_e ?_|refine blk_n ?_|refine blk_r ?_|refine blk_same ?_|refine blk_other (by decide) ?_|refine noG_n ?_|refine noG_r ?_|refine noG_e ?_|refine inR_mk ?_ ?_)|(refine fun (hc : (_ : Bool) = _)=>?_;try simp only [hcS] at hc))
      all_goals try exact om_
      refine V_loopK (G:={i : Nat // i ≤ A.length ∧ (True)}) (fun ⟨i,_⟩=>[(5,iv ((A.length : Int) - 1 - i)),(4,iv (pI (bkL A i)))]) [0,1] (fun ⟨i,_⟩=>[]) [] (fun zz=>A.length - zz.1) ⟨0,Nat.zero_le _,by first|trivial|simp⟩ ?_ ?_
      · exact Imp.au hX
      rintro ⟨i,hii,hwi⟩
      simp only [go_sem,simprocAttr]
      have r3:=fqL_none.1 hf (A.length - 1 - i)
      repeat' (first|(refine V_at 7 (Imp.refl _ _) ?_;rw [show bkL A i = none from by rw [show i = A.length by omega,bkL_all];exact hf])|(with_reducible first|refine V_seq ?_|refine V_block ?_|refine V_skip ?_|refine V_ret ?_|refine V_exit ?_)|((with_reducible refine V_cond ?_);simp only [go_sem,simprocAttr])|((first|refine V_region (by rw [hn];rfl) ?_|refine V_drawn hmix (by rw [hn];rfl) ?_);intro K hK)|((first|with_reducible refine evOps_n ?_|((with_reducible apply evOps_g);rfl)|with_reducible refine evOpsD_n ?_|((with_reducible apply evOpsD_g);rfl));intro K hK;simp (contextual:=true) only [go_sem,simprocAttr])|with_reducible refine evOps_nil ?_|((with_reducible refine evOpsD_nil ?_ ?_);kernel_rfl)|((with_reducible refine hK _ ?_);clear hK K)|(with_reducible first|refine And.intro ?_ ?_|refine nxt_n ?_|refine nxt_r ?_|refine nxt_e ?_|refine blk_n ?_|refine blk_r ?_|refine blk_same ?_|refine blk_other (by decide) ?_|refine noG_n ?_|refine noG_r ?_|refine noG_e ?_|refine inR_mk ?_ ?_)|((with_reducible refine evCall_at 119 ?_);refine EvCall.rq (a:=(sp_l01Own ?_)) (b:=cal_l01Own) (c:=?_);all_goals try simp only [go_sem,simprocAttr])|(refine fun (hc : (_ : Bool) = _)=>?_;try simp only [hcS] at hc))
      all_goals try exact om_
      · have e1:=bkL_miss (A:=A) (i:=i) (by assumption)
        have e2 : (A.length : Int) - 1 - ((i : Int) + 1) = A.length - 1 - (i : Int) - 1:=by omega
        refine ⟨⟨i + 1,by omega,(by trivial)⟩,by simp only;omega,Imp.auto hX (by simp only [go_sem,simprocAttr,e1,e2])⟩
      · refine endQ_mk (Imp.closeB 0 5 26 _ _ rfl rfl rfl (by decide)) ?_
        rw [goC_leaf hf,List.take_of_length_le (show (F ++ [A]).length ≤ m by simp;omega)]
        (first|refine ret_auto ?_|refine ret_auto' ?_);simp only [go_sem,simprocAttr,Tryz.f177]
    | some x =>
      obtain ⟨p1,p2,p3⟩:=fqL_some hf
      have hcut : ∀ k,k < A.length → A.getD k 0 = -1 → (nCh f g A k).length = 0 → (F ++ goC (nCh f g) (n + 1) A).take m = F:=fun k hk h1 h0=>by
        rw [goC_cut hw (n + 1) A hSN k hk h1 h0,List.append_nil,List.take_of_length_le (by omega)]
      have hdf : goC (nCh f g) (n + 1) A = belC (nCh f g) n x A (nCh f g A x):=goC_node hf
      have lc:=nCh_len f g A x
      have hcg : ∀ k,k < (nCh f g A x).length → 0 ≤ (nCh f g A x).getD k 0 ∧ (nCh f g A x).getD k 0 < f.tgt.fr.length:=fun k hk=>by
        have:=Cat.mem_hom.1 (mem_nCh.1 (getD_mem (d:=(0 : Int)) hk)).1
        exact ⟨this.1,this.2.1⟩
      have hcx:=hch x (by omega) F
      obtain ⟨C,hC⟩ : ∃ C,nCh f g A x = C:=⟨_,rfl⟩
      rw [hC] at lc hcg hdf hcx
      obtain ⟨fd,hfd⟩ : ∃ fd : Nat → List (List Int),∀ k,fd k = (F ++ belC (nCh f g) n x A (C.take k)).take m:=⟨_,fun _=>rfl⟩
      have fd0 : fd 0 = F:=by rw [hfd,belC_zero,List.append_nil,List.take_of_length_le (by omega)]
      have fdl : ∀ k,(fd k).length ≤ m:=fun k=>by rw [hfd];simp only [List.length_take];omega
      have fdE : ∀ k,C.length ≤ k → fd k = (F ++ goC (nCh f g) (n + 1) A).take m:=fun k hk=>by rw [hfd,hdf,List.take_of_length_le hk]
      have fdS : ∀ k,¬ (fd k).length < m → fd k = (F ++ goC (nCh f g) (n + 1) A).take m:=fun k hk=>by
        have e1 : belC (nCh f g) n x A C = belC (nCh f g) n x A (C.take k) ++ belC (nCh f g) n x A (C.drop k):=belC_split
        rw [hfd] at hk
        rw [hdf,e1,← List.append_assoc,fullQ _ _ hk,hfd]
      repeat' (first|(refine V_at 0 (Imp.openB 0 26 _ _ rfl (Nat.le_refl 1) rfl rfl) ?_;simp only [go_sem,simprocAttr])|(with_reducible first|refine V_seq ?_|refine V_block ?_|refine V_skip ?_|refine V_ret ?_|refine V_exit ?_)|((with_reducible refine V_cond ?_);simp only [go_sem,simprocAttr])|((first|refine V_region (by rw [hn];rfl) ?_|refine V_drawn hmix (by rw [hn];rfl) ?_);intro K hK)|((first|with_reducible refine evOps_n ?_|((with_reducible apply evOps_g);rfl)|with_reducible refine evOpsD_n ?_|((with_reducible apply evOpsD_g);rfl));intro K hK;simp (contextual:=true) only [go_sem,simprocAttr])|with_reducible refine evOps_nil ?_|((with_reducible refine evOpsD_nil ?_ ?_);kernel_rfl)|((with_reducible refine hK _ ?_);clear hK K)|(with_reducible first|refine And.intro ?_ ?_|refine nxt_n ?_|refine nxt_r ?_|refine nxt_e ?_|refine blk_n ?_|refine blk_r ?_|refine blk_same ?_|refine blk_other (by decide) ?_|refine noG_n ?_|refine noG_r ?_|refine noG_e ?_|refine inR_mk ?_ ?_)|(refine fun (hc : (_ : Bool) = _)=>?_;try simp only [hcS] at hc))
      all_goals try exact om_
      refine V_loopK (G:={i : Nat // i ≤ A.length ∧ (True)}) (fun ⟨i,_⟩=>[(5,iv ((A.length : Int) - 1 - i)),(4,iv (pI (bkL A i)))]) [0,1] (fun ⟨i,_⟩=>[]) [] (fun zz=>A.length - zz.1) ⟨0,Nat.zero_le _,by first|trivial|simp⟩ ?_ ?_
      · exact Imp.au hX
      rintro ⟨i,hii,hwi⟩
      simp only [go_sem,simprocAttr]
      rcases Nat.lt_or_ge i A.length with hlt | hge
      · have hci:=hch (A.length - 1 - i) (by omega) F
        have ei : (A.length : Int) - 1 - i = ((A.length - 1 - i : Nat) : Int):=by omega
        rw [← ei] at hci
        have e2 : (A.length : Int) - 1 - ((i : Int) + 1) = A.length - 1 - (i : Int) - 1:=by omega
        repeat' (first|(with_reducible first|refine V_seq ?_|refine V_block ?_|refine V_skip ?_|refine V_ret ?_|refine V_exit ?_)|((with_reducible refine V_cond ?_);simp only [go_sem,simprocAttr])|((first|refine V_region (by rw [hn];rfl) ?_|refine V_drawn hmix (by rw [hn];rfl) ?_);intro K hK)|((first|with_reducible refine evOps_n ?_|((with_reducible apply evOps_g);rfl)|with_reducible refine evOpsD_n ?_|((with_reducible apply evOpsD_g);rfl));intro K hK;simp (contextual:=true) only [go_sem,simprocAttr])|with_reducible refine evOps_nil ?_|((with_reducible refine evOpsD_nil ?_ ?_);kernel_rfl)|((with_reducible refine hK _ ?_);clear hK K)|(with_reducible first|refine And.intro ?_ ?_|refine nxt_n ?_|refine nxt_r ?_|refine nxt_e ?_|refine blk_n ?_|refine blk_r ?_|refine blk_same ?_|refine blk_other (by decide) ?_|refine noG_n ?_|refine noG_r ?_|refine noG_e ?_|refine inR_mk ?_ ?_)|((with_reducible refine (id ?_ : EvCall _ _ [_,_,iv ((A.length : Int) - 1 - i)] _ _));refine EvCall.mk (hci) cal_l07Choices [(0,3)] [0,2,1] (by simp [go_sem] <;> (repeat' (first|rfl|constructor))) (by simp [go_sem] <;> (repeat' (first|rfl|constructor))) ?_;all_goals try simp only [go_sem,simprocAttr])|(refine fun (hc : (_ : Bool) = _)=>?_;try simp only [hcS] at hc))
        all_goals try exact om_
        · refine endQ_mk (Imp.closeB 0 2 26 _ _ rfl rfl rfl (by decide)) ?_
          rw [hcut (A.length - 1 - i) (by omega) (by assumption) (by omega)]
          (first|refine ret_auto ?_|refine ret_auto' ?_);simp only [go_sem,simprocAttr,Tryz.f177]
        · have e1:=bkL_hit (A:=A) (i:=i) (by assumption)
          refine ⟨⟨i + 1,by omega,(by trivial)⟩,by simp only;omega,Imp.auto hX (by simp only [go_sem,simprocAttr,e1,e2,← ei])⟩
        · have e1:=bkL_miss (A:=A) (i:=i) (by assumption)
          refine ⟨⟨i + 1,by omega,(by trivial)⟩,by simp only;omega,Imp.auto hX (by simp only [go_sem,simprocAttr,e1,e2])⟩
      · repeat' (first|(refine V_at 7 (Imp.refl _ _) ?_;rw [show bkL A i = some x from by rw [show i = A.length by omega,bkL_all];exact hf];simp only [go_sem,simprocAttr])|(with_reducible first|refine V_seq ?_|refine V_block ?_|refine V_skip ?_|refine V_ret ?_|refine V_exit ?_)|((with_reducible refine V_cond ?_);simp only [go_sem,simprocAttr])|((first|refine V_region (by rw [hn];rfl) ?_|refine V_drawn hmix (by rw [hn];rfl) ?_);intro K hK)|((first|with_reducible refine evOps_n ?_|((with_reducible apply evOps_g);rfl)|with_reducible refine evOpsD_n ?_|((with_reducible apply evOpsD_g);rfl));intro K hK;simp (contextual:=true) only [go_sem,simprocAttr])|with_reducible refine evOps_nil ?_|((with_reducible refine evOpsD_nil ?_ ?_);kernel_rfl)|((with_reducible refine hK _ ?_);clear hK K)|(with_reducible first|refine And.intro ?_ ?_|refine nxt_n ?_|refine nxt_r ?_|refine nxt_e ?_|refine blk_n ?_|refine blk_r ?_|refine blk_same ?_|refine blk_other (by decide) ?_|refine noG_n ?_|refine noG_r ?_|refine noG_e ?_|refine inR_mk ?_ ?_)|((with_reducible refine (id ?_ : EvCall _ _ [_,_,iv (x : Int)] _ _));refine EvCall.mk (hcx) cal_l07Choices [(0,3)] [0,2,1] (by simp [go_sem] <;> (repeat' (first|rfl|constructor))) (by simp [go_sem] <;> (repeat' (first|rfl|constructor))) ?_;all_goals try simp only [go_sem,simprocAttr])|(refine fun (hc : (_ : Bool) = _)=>?_;try simp only [hcS] at hc))
        all_goals try exact om_
        refine V_loopK (G:={k : Nat // k ≤ C.length ∧ (True)}) (fun ⟨k,_⟩=>[(7,iv k),(6,.sl 3)]) [0,1,4] (fun ⟨k,_⟩=>[(2,⟨1,.arr (intss (fd k))⟩),(3,⟨1,.arr (ints C)⟩)]) [2,3] (fun zz=>C.length - zz.1) ⟨0,Nat.zero_le _,by first|trivial|simp⟩ ?_ ?_
        · exact Imp.auto hX (by simp [go_sem,simprocAttr,fd0])
        rintro ⟨k,hik,hwk⟩
        simp only [go_sem,simprocAttr]
        have l1:=fdl k
        rcases Nat.lt_or_ge k C.length with hlt2 | hge2
        · rcases Nat.lt_or_ge (fd k).length m with hl2 | hg2
          · obtain ⟨hu0,hu1⟩:=hcg k hlt2
            have hx : XtL A (A.set x (C.getD k 0)):=.setL p1 p2
            have hun:=hx.uns_lt p1 (by omega) (by rw [set_getD p1,if_pos rfl];omega)
            have fdn : (fd k ++ goC (nCh f g) n (A.set x (C.getD k 0))).take m = fd (k + 1):=by rw [hfd,hfd,belC_succ hlt2,takeQ]
            have hrec:=sp_l07Go_n h hm n (fd k) (A.set x (C.getD k 0)) (by simpa using hA) (fun j hj=>by
              rw [set_getD p1]
              split
              · exact hu1
              · exact hr j (by simpa using hj)) (by omega) hl2
            rw [fdn] at hrec
            repeat' (first|(refine V_at 15 (Imp.closeB 0 2 26 _ _ rfl rfl rfl (by decide)) ?_;simp only [go_sem,simprocAttr])|(refine V_at 12 (Imp.trans (Imp.openB 0 26 _ _ rfl (Nat.succ_le_succ (Nat.zero_le _)) rfl rfl) (Imp.drop 4 (Nat.succ_le_succ (Nat.zero_le _)))) ?_;simp only [go_sem,simprocAttr])|(with_reducible first|refine V_seq ?_|refine V_block ?_|refine V_skip ?_|refine V_ret ?_|refine V_exit ?_)|((with_reducible refine V_cond ?_);simp only [go_sem,simprocAttr])|((first|refine V_region (by rw [hn];rfl) ?_|refine V_drawn hmix (by rw [hn];rfl) ?_);intro K hK)|((first|with_reducible refine evOps_n ?_|((with_reducible apply evOps_g);rfl)|with_reducible refine evOpsD_n ?_|((with_reducible apply evOpsD_g);rfl));intro K hK;simp (contextual:=true) only [go_sem,simprocAttr])|with_reducible refine evOps_nil ?_|((with_reducible refine evOpsD_nil ?_ ?_);kernel_rfl)|((with_reducible refine hK _ ?_);clear hK K)|(with_reducible first|refine And.intro ?_ ?_|refine nxt_n ?_|refine nxt_r ?_|refine nxt_e ?_|refine blk_n ?_|refine blk_r ?_|refine blk_same ?_|refine blk_other (by decide) ?_|refine noG_n ?_|refine noG_r ?_|refine noG_e ?_|refine inR_mk ?_ ?_)|((with_reducible refine evCall_at 119 ?_);refine EvCall.rq (a:=(sp_l01Own ?_)) (b:=cal_l01Own) (c:=?_);all_goals try simp only [go_sem,simprocAttr])|((with_reducible refine evCall_at 177 ?_);refine EvCall.mk (hrec) cal_l07Go [(0,0),(1,4)] [] (by simp [go_sem] <;> (repeat' (first|rfl|constructor))) (by simp [go_sem] <;> (repeat' (first|rfl|constructor))) ?_;all_goals try simp only [go_sem,simprocAttr])|(refine fun (hc : (_ : Bool) = _)=>?_;try simp only [hcS] at hc))
            all_goals try exact om_
            · refine ⟨⟨k + 1,by omega,(by trivial)⟩,by simp only;omega,Imp.ao hX⟩
          · repeat' (first|(with_reducible first|refine V_seq ?_|refine V_block ?_|refine V_skip ?_|refine V_ret ?_|refine V_exit ?_)|((with_reducible refine V_cond ?_);simp only [go_sem,simprocAttr])|((first|refine V_region (by rw [hn];rfl) ?_|refine V_drawn hmix (by rw [hn];rfl) ?_);intro K hK)|((first|with_reducible refine evOps_n ?_|((with_reducible apply evOps_g);rfl)|with_reducible refine evOpsD_n ?_|((with_reducible apply evOpsD_g);rfl));intro K hK;simp (contextual:=true) only [go_sem,simprocAttr])|with_reducible refine evOps_nil ?_|((with_reducible refine evOpsD_nil ?_ ?_);kernel_rfl)|((with_reducible refine hK _ ?_);clear hK K)|(with_reducible first|refine And.intro ?_ ?_|refine nxt_n ?_|refine nxt_r ?_|refine nxt_e ?_|refine blk_n ?_|refine blk_r ?_|refine blk_same ?_|refine blk_other (by decide) ?_|refine noG_n ?_|refine noG_r ?_|refine noG_e ?_|refine inR_mk ?_ ?_)|(refine fun (hc : (_ : Bool) = _)=>?_;try simp only [hcS] at hc))
            all_goals try exact om_
            · refine endQ_mk (Imp.closeB 0 2 26 _ _ rfl rfl rfl (by decide)) ?_
              rw [← fdS k (by omega)]
              (first|refine ret_auto ?_|refine ret_auto' ?_);simp only [go_sem,simprocAttr,Tryz.f177]
        · repeat' (first|(with_reducible first|refine V_seq ?_|refine V_block ?_|refine V_skip ?_|refine V_ret ?_|refine V_exit ?_)|((with_reducible refine V_cond ?_);simp only [go_sem,simprocAttr])|((first|refine V_region (by rw [hn];rfl) ?_|refine V_drawn hmix (by rw [hn];rfl) ?_);intro K hK)|((first|with_reducible refine evOps_n ?_|((with_reducible apply evOps_g);rfl)|with_reducible refine evOpsD_n ?_|((with_reducible apply evOpsD_g);rfl));intro K hK;simp (contextual:=true) only [go_sem,simprocAttr])|with_reducible refine evOps_nil ?_|((with_reducible refine evOpsD_nil ?_ ?_);kernel_rfl)|((with_reducible refine hK _ ?_);clear hK K)|(with_reducible first|refine And.intro ?_ ?_|refine nxt_n ?_|refine nxt_r ?_|refine nxt_e ?_|refine blk_n ?_|refine blk_r ?_|refine blk_same ?_|refine blk_other (by decide) ?_|refine noG_n ?_|refine noG_r ?_|refine noG_e ?_|refine inR_mk ?_ ?_)|(refine fun (hc : (_ : Bool) = _)=>?_;try simp only [hcS] at hc))
          all_goals try exact om_
          · refine endQ_mk (Imp.closeB 0 2 26 _ _ rfl rfl rfl (by decide)) ?_
            rw [← fdE k (by omega)]
            (first|refine ret_auto ?_|refine ret_auto' ?_);simp only [go_sem,simprocAttr,Tryz.f177]
end Go.Eng
