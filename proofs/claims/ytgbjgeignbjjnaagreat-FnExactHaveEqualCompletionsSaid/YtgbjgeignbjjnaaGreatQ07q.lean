/- The reference's search of isomorphisms: arrow by arrow. -/
import Derived.Test.YtgbjgeignbjjnaaGreatQ06q
set_option linter.unusedSimpArgs false
set_option linter.unusedVariables false
set_option maxRecDepth 100000
set_option maxHeartbeats 16000000
namespace Go.Eng
open Go Go.Proofs Go.Cats
attribute [local go_sem] List.set_cons_zero List.set_cons_succ
theorem sp_l01Has_k {l : List Int} {n : Int} {v : Bool} (hl : l.length ≤ 1048576) (h : dec (n ∈ l) = v) : Spec Tryz.prog 54 [.bor [] (ints l),iv n] [] (bv v) []:=by
  subst h
  exact sp_l01Has hl
theorem sp_l10Fits_k {c d : Cat} {cc dd P A : List Int} {m : Int} {F : List Fun} {f : Nat} {v : Bool} (sc : Shape c) (sd : Shape d) (hA : VA c d P A) (hf : f < A.length) (h0 : 0 ≤ A.getD f 0) (h : dec (FitP c d A f) = v) : Spec Tryz.prog 86 [.bptr [] [.v (.int .i64 c.ob),ints c.fr,ints c.to,ints c.id,intss c.co,.v (.int .i64 d.ob),ints d.fr,ints d.to,ints d.id,intss d.co,ints cc,ints dd,.v (.int .i64 m),funsD F],.bor [] (ints A),iv f] [] (bv v) []:=by
  subst h
  exact sp_l10Fits sc sd hA hf h0
theorem cal_l10Arrows : Callable Tryz.prog 73:=⟨_,Tryz.func73,rfl,rfl⟩
theorem sp_l10Arrows_n {c d : Cat} {cc dd P : List Int} {m : Nat} (sc : IsCat c) (sd : IsCat d) (bc : CatB c) (bd : CatB d) (ho : c.ob = d.ob) (ha : c.fr.length = d.fr.length) (hk : Keep c d cc dd) (h1 : cc.length = c.fr.length) (h2 : dd.length = d.fr.length) (hP : XOK c d true P) (hm : m ≤ 4096) : ∀ (n : Nat) (F : List Fun) (A : List Int),NY c d P A → uns A < n → F.length < m →
    Spec Tryz.prog 73 [.ptr 0 0,.sl 3,.sl 4] [(0,⟨1,.bx [iv c.ob,.bor [] (ints c.fr),.bor [] (ints c.to),.bor [] (ints c.id),.bor [] (intss c.co),iv d.ob,.bor [] (ints d.fr),.bor [] (ints d.to),.bor [] (ints d.id),.bor [] (intss d.co),.sl 1,.sl 2,iv m,.dead] 13 (funsD (F))⟩),(1,⟨1,.arr (ints cc)⟩),(2,⟨1,.arr (ints dd)⟩),(3,⟨1,.arr (ints P)⟩),(4,⟨1,.arr (ints (A))⟩)] (.tup []) [(0,⟨1,.bx [iv c.ob,.bor [] (ints c.fr),.bor [] (ints c.to),.bor [] (ints c.id),.bor [] (intss c.co),iv d.ob,.bor [] (ints d.fr),.bor [] (ints d.to),.bor [] (ints d.id),.bor [] (intss d.co),.sl 1,.sl 2,iv m,.dead] 13 (funsD ((F ++ (extW (WA c d true P) (sA c d) A).map (mkF c d P)).take m))⟩),(1,⟨1,.arr (ints cc)⟩),(2,⟨1,.arr (ints dd)⟩),(3,⟨1,.arr (ints P)⟩),(4,⟨1,.arr (ints (A))⟩)]
  | 0,_,_,_,hu,_=>by omega
  | n + 1,F,A,hA,hu,hF=>by
    have hAl:=hA.va.len
    have m40:=sc.toShape.m40
    have n40:=sd.toShape.m40
    have n8:=sc.toShape.ob8
    have tol:=sc.toShape.tol
    have nol:=sd.toShape.tol
    have hPl:=hP.len
    refine spec_of_V (E:=TE) 5 Tryz.func73 rfl (by simp [Tryz.f73]) fun X hn hX=>?_
    refine V_endQ ?_
    rcases idx_first hA.va.rng with ⟨hk1,hfull⟩|⟨i,hk1,hi,hi1,hi2⟩
    · rw [hA.leaf sc.toShape hP hfull,List.map_cons,List.map_nil,List.take_of_length_le (show (F ++ [mkF c d P A]).length ≤ m by simp;omega)]
      repeat' (first|(refine V_at 0 (Imp.openB 0 13 _ _ rfl (Nat.le_refl 1) rfl rfl) ?_;simp only [go_sem,simprocAttr])|(with_reducible first|refine V_seq ?_|refine V_block ?_|refine V_skip ?_|refine V_ret ?_|refine V_exit ?_)|((with_reducible refine V_cond ?_);simp only [go_sem,simprocAttr])|((first|refine V_region (by rw [hn];rfl) ?_|refine V_drawn hmix (by rw [hn];rfl) ?_);intro K hK)|((first|with_reducible refine evOps_n ?_|((with_reducible apply evOps_g);rfl)|with_reducible refine evOpsD_n ?_|((with_reducible apply evOpsD_g);rfl));intro K hK;simp (contextual:=true) only [go_sem,simprocAttr])|with_reducible refine evOps_nil ?_|((with_reducible refine evOpsD_nil ?_ ?_);kernel_rfl)|((with_reducible refine hK _ ?_);clear hK K)|(with_reducible first|refine And.intro ?_ ?_|refine nxt_n ?_|refine nxt_r ?_|refine nxt_e ?_|refine blk_n ?_|refine blk_r ?_|refine blk_same ?_|refine blk_other (by decide) ?_|refine noG_n ?_|refine noG_r ?_|refine noG_e ?_|refine inR_mk ?_ ?_)|(refine fun (hc : (_ : Bool) = _)=>?_;try simp only [hcS] at hc))
      all_goals try exact om_
      refine V_loopK (G:={q : Nat // q ≤ A.length ∧ (True)}) (fun ⟨q,_⟩=>[(6,iv q)]) [0,1,2] (fun ⟨q,_⟩=>[]) [] (fun zz=>A.length - zz.1) ⟨0,Nat.zero_le _,by first|trivial|simp⟩ ?_ ?_
      · exact Imp.au hX
      rintro ⟨q,hiq,hwq⟩
      simp only [go_sem,simprocAttr]
      have hq:=hfull q
      repeat' (first|(with_reducible first|refine V_seq ?_|refine V_block ?_|refine V_skip ?_|refine V_ret ?_|refine V_exit ?_)|((with_reducible refine V_cond ?_);simp only [go_sem,simprocAttr])|((first|refine V_region (by rw [hn];rfl) ?_|refine V_drawn hmix (by rw [hn];rfl) ?_);intro K hK)|((first|with_reducible refine evOps_n ?_|((with_reducible apply evOps_g);rfl)|with_reducible refine evOpsD_n ?_|((with_reducible apply evOpsD_g);rfl));intro K hK;simp (contextual:=true) only [go_sem,simprocAttr])|with_reducible refine evOps_nil ?_|((with_reducible refine evOpsD_nil ?_ ?_);kernel_rfl)|((with_reducible refine hK _ ?_);clear hK K)|(with_reducible first|refine And.intro ?_ ?_|refine nxt_n ?_|refine nxt_r ?_|refine nxt_e ?_|refine blk_n ?_|refine blk_r ?_|refine blk_same ?_|refine blk_other (by decide) ?_|refine noG_n ?_|refine noG_r ?_|refine noG_e ?_|refine inR_mk ?_ ?_)|((with_reducible refine evCall_at 85 ?_);refine EvCall.rq (a:=(sp_l06Make (c:=c) (d:=d) (p:=P) (q:=A) ?_ ?_ ?_ ?_)) (b:=cal_l06Make) (c:=?_);all_goals try simp only [go_sem,simprocAttr])|(refine fun (hc : (_ : Bool) = _)=>?_;try simp only [hcS] at hc))
      all_goals try exact om_
      · refine ⟨⟨q + 1,by omega,(by trivial)⟩,by simp only;omega,Imp.ao hX⟩
      · refine endQ_mk (Imp.closeB 0 17 13 _ _ rfl rfl rfl (by decide)) ?_
        (first|refine ret_auto ?_|refine ret_auto' ?_);simp only [go_sem,simprocAttr,Tryz.f73]
        rfl
    · rw [branch_hom hA.va hi hi1 hi2]
      have f1:=sc.toShape.frw i (by omega)
      have f2:=sc.toShape.tow i (by omega)
      have hhom : ∀ v ∈ d.hom (P.getD (c.fr.getD i 0).toNat 0) (P.getD (c.to.getD i 0).toNat 0),0 ≤ v ∧ v < d.fr.length:=fun v hv=>by have:=Cat.mem_hom.1 hv;exact ⟨this.1,this.2.1⟩
      have hvs : ∀ v,v ∈ d.hom (P.getD (c.fr.getD i 0).toNat 0) (P.getD (c.to.getD i 0).toNat 0) → v ∉ A → FitP c d (A.set i v) i → NY c d P (A.set i v) ∧ uns (A.set i v) < uns A:=fun v hv hn hf=>hA.set sc.toShape sd.toShape hP hi hi1 hv hn hf
      have hva : ∀ v,v ∈ d.hom (P.getD (c.fr.getD i 0).toNat 0) (P.getD (c.to.getD i 0).toNat 0) → VA c d P (A.set i v):=fun v hv=>hom_try hA.va hi hv
      obtain ⟨L,hL⟩ : ∃ L,d.hom (P.getD (c.fr.getD i 0).toNat 0) (P.getD (c.to.getD i 0).toNat 0) = L:=⟨_,rfl⟩
      have hLl : L.length ≤ 40:=by rw [← hL];exact Nat.le_trans (Cat.hom_len _ _ _) n40
      rw [hL] at hhom hvs hva ⊢
      obtain ⟨fd,hfd⟩ : ∃ fd : Nat → List Fun,∀ k,fd k = (F ++ (belowH (WA c d true P) (sA c d) A i (L.take k)).map (mkF c d P)).take m:=⟨_,fun _=>rfl⟩
      have fd0 : fd 0 = F:=by rw [hfd,List.take_zero,belowH_nil,List.map_nil,List.append_nil,List.take_of_length_le (by omega)]
      have fdl : ∀ k,(fd k).length ≤ m:=fun k=>by rw [hfd];simp only [List.length_take];omega
      have fdE : ∀ k,L.length ≤ k → fd k = (F ++ (belowH (WA c d true P) (sA c d) A i L).map (mkF c d P)).take m:=fun k hk=>by rw [hfd,List.take_of_length_le hk]
      have fdn : ∀ k,k < L.length → fd (k + 1) = (fd k ++ (extW (WA c d true P) (sA c d) (A.set i (L.getD k 0))).map (mkF c d P)).take m:=fun k hk=>by
        rw [hfd,hfd,belowH_take hk,List.map_append,take_tk]
      have fdS : ∀ k,¬ (fd k).length < m → fd k = (F ++ (belowH (WA c d true P) (sA c d) A i L).map (mkF c d P)).take m:=fun k hk=>by
        have e1 : belowH (WA c d true P) (sA c d) A i L = belowH (WA c d true P) (sA c d) A i (L.take k) ++ belowH (WA c d true P) (sA c d) A i (L.drop k):=by
          unfold belowH
          rw [← List.flatMap_append,List.take_append_drop]
        rw [e1,List.map_append,← take_tk,← hfd,List.take_append_of_le_length (by omega),List.take_of_length_le (fdl k)]
      repeat' (first|(refine V_at 0 (Imp.openB 0 13 _ _ rfl (Nat.le_refl 1) rfl rfl) ?_;simp only [go_sem,simprocAttr])|(with_reducible first|refine V_seq ?_|refine V_block ?_|refine V_skip ?_|refine V_ret ?_|refine V_exit ?_)|((with_reducible refine V_cond ?_);simp only [go_sem,simprocAttr])|((first|refine V_region (by rw [hn];rfl) ?_|refine V_drawn hmix (by rw [hn];rfl) ?_);intro K hK)|((first|with_reducible refine evOps_n ?_|((with_reducible apply evOps_g);rfl)|with_reducible refine evOpsD_n ?_|((with_reducible apply evOpsD_g);rfl));intro K hK;simp (contextual:=true) only [go_sem,simprocAttr])|with_reducible refine evOps_nil ?_|((with_reducible refine evOpsD_nil ?_ ?_);kernel_rfl)|((with_reducible refine hK _ ?_);clear hK K)|(with_reducible first|refine And.intro ?_ ?_|refine nxt_n ?_|refine nxt_r ?_|refine nxt_e ?_|refine blk_n ?_|refine blk_r ?_|refine blk_same ?_|refine blk_other (by decide) ?_|refine noG_n ?_|refine noG_r ?_|refine noG_e ?_|refine inR_mk ?_ ?_)|(refine fun (hc : (_ : Bool) = _)=>?_;try simp only [hcS] at hc))
      all_goals try exact om_
      refine V_loopK (G:={q : Nat // q ≤ A.length ∧ (∀ j,j < q → 0 ≤ A.getD j 0)}) (fun ⟨q,_⟩=>[(6,iv q)]) [0,1,2] (fun ⟨q,_⟩=>[]) [] (fun zz=>A.length - zz.1) ⟨0,Nat.zero_le _,by omega⟩ ?_ ?_
      · exact Imp.au hX
      rintro ⟨q,hiq,hwq⟩
      simp only [go_sem,simprocAttr]
      have hqi : q ≤ i:=by
        refine Nat.le_of_not_lt fun h=>?_
        have:=hwq i h
        omega
      rcases Nat.lt_or_ge q i with hlt | hge
      · have hq:=hi2 q hlt
        repeat' (first|(with_reducible first|refine V_seq ?_|refine V_block ?_|refine V_skip ?_|refine V_ret ?_|refine V_exit ?_)|((with_reducible refine V_cond ?_);simp only [go_sem,simprocAttr])|((first|refine V_region (by rw [hn];rfl) ?_|refine V_drawn hmix (by rw [hn];rfl) ?_);intro K hK)|((first|with_reducible refine evOps_n ?_|((with_reducible apply evOps_g);rfl)|with_reducible refine evOpsD_n ?_|((with_reducible apply evOpsD_g);rfl));intro K hK;simp (contextual:=true) only [go_sem,simprocAttr])|with_reducible refine evOps_nil ?_|((with_reducible refine evOpsD_nil ?_ ?_);kernel_rfl)|((with_reducible refine hK _ ?_);clear hK K)|(with_reducible first|refine And.intro ?_ ?_|refine nxt_n ?_|refine nxt_r ?_|refine nxt_e ?_|refine blk_n ?_|refine blk_r ?_|refine blk_same ?_|refine blk_other (by decide) ?_|refine noG_n ?_|refine noG_r ?_|refine noG_e ?_|refine inR_mk ?_ ?_)|(refine fun (hc : (_ : Bool) = _)=>?_;try simp only [hcS] at hc))
        all_goals try exact om_
        · refine ⟨⟨q + 1,by omega,(by exact all_succ hwq hq)⟩,by simp only;omega,Imp.ao hX⟩
      · have eq : q = i:=by omega
        subst eq
        repeat' (first|(with_reducible first|refine V_seq ?_|refine V_block ?_|refine V_skip ?_|refine V_ret ?_|refine V_exit ?_)|((with_reducible refine V_cond ?_);simp only [go_sem,simprocAttr])|((first|refine V_region (by rw [hn];rfl) ?_|refine V_drawn hmix (by rw [hn];rfl) ?_);intro K hK)|((first|with_reducible refine evOps_n ?_|((with_reducible apply evOps_g);rfl)|with_reducible refine evOpsD_n ?_|((with_reducible apply evOpsD_g);rfl));intro K hK;simp (contextual:=true) only [go_sem,simprocAttr])|with_reducible refine evOps_nil ?_|((with_reducible refine evOpsD_nil ?_ ?_);kernel_rfl)|((with_reducible refine hK _ ?_);clear hK K)|(with_reducible first|refine And.intro ?_ ?_|refine nxt_n ?_|refine nxt_r ?_|refine nxt_e ?_|refine blk_n ?_|refine blk_r ?_|refine blk_same ?_|refine blk_other (by decide) ?_|refine noG_n ?_|refine noG_r ?_|refine noG_e ?_|refine inR_mk ?_ ?_)|((with_reducible refine evCall_at 24 ?_);refine EvCall.rq (a:=(sp_l02Hom (c:=d) ?_ ?_)) (b:=cal_l02Hom) (c:=?_);all_goals try simp only [go_sem,simprocAttr])|(refine fun (hc : (_ : Bool) = _)=>?_;try simp only [hcS] at hc))
        all_goals try exact om_
        rw [hL,← fd0]
        refine V_loopK (G:={k : Nat // k ≤ L.length ∧ (True)}) (fun ⟨k,_⟩=>[(8,iv k)]) [0,1,2,6,7] (fun ⟨k,_⟩=>[(5,⟨1,.arr (funsD (fd k))⟩)]) [5] (fun zz=>L.length - zz.1) ⟨0,Nat.zero_le _,by first|trivial|simp⟩ ?_ ?_
        · exact Imp.au hX
        rintro ⟨k,hik,hwk⟩
        simp only [go_sem,simprocAttr]
        have l1:=fdl k
        rcases Nat.lt_or_ge k L.length with hlt2 | hge2
        · rcases Nat.lt_or_ge (fd k).length m with hl2 | hg2
          · have hv : L.getD k 0 ∈ L:=getD_mem hlt2
            have v0:=hhom _ hv
            have en:=fdn k hlt2
            have hAl2 : A.length ≤ 1048576:=by omega
            by_cases hm1 : L.getD k 0 ∈ A
            · have hm2 : dec (L.getD k 0 ∈ A) = true:=dec_t hm1
              rw [has_no hA.va hi hi1 v0.1 hm1,List.map_nil,List.append_nil,List.take_of_length_le l1] at en
              repeat' (first|(with_reducible first|refine V_seq ?_|refine V_block ?_|refine V_skip ?_|refine V_ret ?_|refine V_exit ?_)|((with_reducible refine V_cond ?_);simp only [go_sem,simprocAttr])|((first|refine V_region (by rw [hn];rfl) ?_|refine V_drawn hmix (by rw [hn];rfl) ?_);intro K hK)|((first|with_reducible refine evOps_n ?_|((with_reducible apply evOps_g);rfl)|with_reducible refine evOpsD_n ?_|((with_reducible apply evOpsD_g);rfl));intro K hK;simp (contextual:=true) only [go_sem,simprocAttr])|with_reducible refine evOps_nil ?_|((with_reducible refine evOpsD_nil ?_ ?_);kernel_rfl)|((with_reducible refine hK _ ?_);clear hK K)|(with_reducible first|refine And.intro ?_ ?_|refine nxt_n ?_|refine nxt_r ?_|refine nxt_e ?_|refine blk_n ?_|refine blk_r ?_|refine blk_same ?_|refine blk_other (by decide) ?_|refine noG_n ?_|refine noG_r ?_|refine noG_e ?_|refine inR_mk ?_ ?_)|((with_reducible refine evCall_at 54 ?_);refine EvCall.rq (a:=(sp_l01Has_k (v:=true) (by first|omega|assumption|rfl) (by first|omega|assumption|rfl))) (b:=cal_l01Has) (c:=?_);all_goals try simp only [go_sem,simprocAttr])|(refine fun (hc : (_ : Bool) = _)=>?_;try simp only [hcS] at hc))
              all_goals try exact om_
              · refine ⟨⟨k + 1,by omega,(by trivial)⟩,by simp only;omega,Imp.auto hX (by simp only [go_sem,simprocAttr,en])⟩
            · have hm2 : dec (L.getD k 0 ∈ A) = false:=dec_f hm1
              by_cases hcl : cc.getD q 0 = dd.getD (L.getD k 0).toNat 0
              · have hfit0 : 0 ≤ (A.set q (L.getD k 0)).getD q 0:=by rw [set_getD hi,if_pos rfl];exact v0.1
                have hfl : q < (A.set q (L.getD k 0)).length:=by simpa using hi
                have hvv:=hva _ hv
                have sc':=sc.toShape
                have sd':=sd.toShape
                by_cases hft : FitP c d (A.set q (L.getD k 0)) q
                · have hm3 : dec (FitP c d (A.set q (L.getD k 0)) q) = true:=dec_t hft
                  obtain ⟨g1,g2⟩:=hvs _ hv hm1 hft
                  have hrec:=sp_l10Arrows_n sc sd bc bd ho ha hk h1 h2 hP hm n (fd k) (A.set q (L.getD k 0)) g1 (by omega) hl2
                  rw [← en] at hrec
                  repeat' (first|(refine V_at 13 (Imp.closeB 0 5 13 _ _ rfl rfl rfl (by decide)) ?_;simp only [go_sem,simprocAttr])|(refine V_at 8 (Imp.trans (Imp.openB 0 13 _ _ rfl (Nat.succ_le_succ (Nat.zero_le _)) rfl rfl) (Imp.drop 7 (Nat.succ_le_succ (Nat.zero_le _)))) ?_;simp only [go_sem,simprocAttr])|(with_reducible first|refine V_seq ?_|refine V_block ?_|refine V_skip ?_|refine V_ret ?_|refine V_exit ?_)|((with_reducible refine V_cond ?_);simp only [go_sem,simprocAttr])|((first|refine V_region (by rw [hn];rfl) ?_|refine V_drawn hmix (by rw [hn];rfl) ?_);intro K hK)|((first|with_reducible refine evOps_n ?_|((with_reducible apply evOps_g);rfl)|with_reducible refine evOpsD_n ?_|((with_reducible apply evOpsD_g);rfl));intro K hK;simp (contextual:=true) only [go_sem,simprocAttr])|with_reducible refine evOps_nil ?_|((with_reducible refine evOpsD_nil ?_ ?_);kernel_rfl)|((with_reducible refine hK _ ?_);clear hK K)|(with_reducible first|refine And.intro ?_ ?_|refine nxt_n ?_|refine nxt_r ?_|refine nxt_e ?_|refine blk_n ?_|refine blk_r ?_|refine blk_same ?_|refine blk_other (by decide) ?_|refine noG_n ?_|refine noG_r ?_|refine noG_e ?_|refine inR_mk ?_ ?_)|((with_reducible refine evCall_at 54 ?_);refine EvCall.rq (a:=(sp_l01Has_k (v:=false) (by first|omega|assumption|rfl) (by first|omega|assumption|rfl))) (b:=cal_l01Has) (c:=?_);all_goals try simp only [go_sem,simprocAttr])|((with_reducible refine evCall_at 74 ?_);refine EvCall.rq (a:=(sp_l01Own ?_)) (b:=cal_l01Own) (c:=?_);all_goals try simp only [go_sem,simprocAttr])|((with_reducible refine evCall_at 86 ?_);refine EvCall.rq (a:=(sp_l10Fits_k (v:=true) (by first|omega|assumption|rfl) (by first|omega|assumption|rfl) (by first|omega|assumption|rfl) (by first|omega|assumption|rfl) (by first|omega|assumption|rfl) (by first|omega|assumption|rfl))) (b:=cal_l10Fits) (c:=?_);all_goals try simp only [go_sem,simprocAttr])|((with_reducible refine evCall_at 73 ?_);refine EvCall.mk (hrec) cal_l10Arrows [(0,0),(1,1),(2,2),(3,3),(4,7)] [] (by simp [go_sem] <;> (repeat' (first|rfl|constructor))) (by simp [go_sem] <;> (repeat' (first|rfl|constructor))) ?_;all_goals try simp only [go_sem,simprocAttr])|(refine fun (hc : (_ : Bool) = _)=>?_;try simp only [hcS] at hc))
                  all_goals try exact om_
                  · refine ⟨⟨k + 1,by omega,(by trivial)⟩,by simp only;omega,Imp.ao hX⟩
                · have hm3 : dec (FitP c d (A.set q (L.getD k 0)) q) = false:=dec_f hft
                  rw [fit_no sc.toShape hA.va hi v0.1 hft,List.map_nil,List.append_nil,List.take_of_length_le l1] at en
                  repeat' (first|(refine V_at 8 (Imp.dropL 7 _ _ rfl (Nat.succ_le_succ (Nat.zero_le _))) ?_;simp only [go_sem,simprocAttr])|(with_reducible first|refine V_seq ?_|refine V_block ?_|refine V_skip ?_|refine V_ret ?_|refine V_exit ?_)|((with_reducible refine V_cond ?_);simp only [go_sem,simprocAttr])|((first|refine V_region (by rw [hn];rfl) ?_|refine V_drawn hmix (by rw [hn];rfl) ?_);intro K hK)|((first|with_reducible refine evOps_n ?_|((with_reducible apply evOps_g);rfl)|with_reducible refine evOpsD_n ?_|((with_reducible apply evOpsD_g);rfl));intro K hK;simp (contextual:=true) only [go_sem,simprocAttr])|with_reducible refine evOps_nil ?_|((with_reducible refine evOpsD_nil ?_ ?_);kernel_rfl)|((with_reducible refine hK _ ?_);clear hK K)|(with_reducible first|refine And.intro ?_ ?_|refine nxt_n ?_|refine nxt_r ?_|refine nxt_e ?_|refine blk_n ?_|refine blk_r ?_|refine blk_same ?_|refine blk_other (by decide) ?_|refine noG_n ?_|refine noG_r ?_|refine noG_e ?_|refine inR_mk ?_ ?_)|((with_reducible refine evCall_at 54 ?_);refine EvCall.rq (a:=(sp_l01Has_k (v:=false) (by first|omega|assumption|rfl) (by first|omega|assumption|rfl))) (b:=cal_l01Has) (c:=?_);all_goals try simp only [go_sem,simprocAttr])|((with_reducible refine evCall_at 74 ?_);refine EvCall.rq (a:=(sp_l01Own ?_)) (b:=cal_l01Own) (c:=?_);all_goals try simp only [go_sem,simprocAttr])|((with_reducible refine evCall_at 86 ?_);refine EvCall.rq (a:=(sp_l10Fits_k (v:=false) (by first|omega|assumption|rfl) (by first|omega|assumption|rfl) (by first|omega|assumption|rfl) (by first|omega|assumption|rfl) (by first|omega|assumption|rfl) (by first|omega|assumption|rfl))) (b:=cal_l10Fits) (c:=?_);all_goals try simp only [go_sem,simprocAttr])|(refine fun (hc : (_ : Bool) = _)=>?_;try simp only [hcS] at hc))
                  all_goals try exact om_
                  · refine ⟨⟨k + 1,by omega,(by trivial)⟩,by simp only;omega,Imp.auto hX (by simp only [go_sem,simprocAttr,en])⟩
              · rw [colour_no sc sd ho ha hk hA.va hi v0.1 hcl,List.map_nil,List.append_nil,List.take_of_length_le l1] at en
                repeat' (first|(with_reducible first|refine V_seq ?_|refine V_block ?_|refine V_skip ?_|refine V_ret ?_|refine V_exit ?_)|((with_reducible refine V_cond ?_);simp only [go_sem,simprocAttr])|((first|refine V_region (by rw [hn];rfl) ?_|refine V_drawn hmix (by rw [hn];rfl) ?_);intro K hK)|((first|with_reducible refine evOps_n ?_|((with_reducible apply evOps_g);rfl)|with_reducible refine evOpsD_n ?_|((with_reducible apply evOpsD_g);rfl));intro K hK;simp (contextual:=true) only [go_sem,simprocAttr])|with_reducible refine evOps_nil ?_|((with_reducible refine evOpsD_nil ?_ ?_);kernel_rfl)|((with_reducible refine hK _ ?_);clear hK K)|(with_reducible first|refine And.intro ?_ ?_|refine nxt_n ?_|refine nxt_r ?_|refine nxt_e ?_|refine blk_n ?_|refine blk_r ?_|refine blk_same ?_|refine blk_other (by decide) ?_|refine noG_n ?_|refine noG_r ?_|refine noG_e ?_|refine inR_mk ?_ ?_)|((with_reducible refine evCall_at 54 ?_);refine EvCall.rq (a:=(sp_l01Has_k (v:=false) (by first|omega|assumption|rfl) (by first|omega|assumption|rfl))) (b:=cal_l01Has) (c:=?_);all_goals try simp only [go_sem,simprocAttr])|(refine fun (hc : (_ : Bool) = _)=>?_;try simp only [hcS] at hc))
                all_goals try exact om_
                · refine ⟨⟨k + 1,by omega,(by trivial)⟩,by simp only;omega,Imp.auto hX (by simp only [go_sem,simprocAttr,en])⟩
          · repeat' (first|(with_reducible first|refine V_seq ?_|refine V_block ?_|refine V_skip ?_|refine V_ret ?_|refine V_exit ?_)|((with_reducible refine V_cond ?_);simp only [go_sem,simprocAttr])|((first|refine V_region (by rw [hn];rfl) ?_|refine V_drawn hmix (by rw [hn];rfl) ?_);intro K hK)|((first|with_reducible refine evOps_n ?_|((with_reducible apply evOps_g);rfl)|with_reducible refine evOpsD_n ?_|((with_reducible apply evOpsD_g);rfl));intro K hK;simp (contextual:=true) only [go_sem,simprocAttr])|with_reducible refine evOps_nil ?_|((with_reducible refine evOpsD_nil ?_ ?_);kernel_rfl)|((with_reducible refine hK _ ?_);clear hK K)|(with_reducible first|refine And.intro ?_ ?_|refine nxt_n ?_|refine nxt_r ?_|refine nxt_e ?_|refine blk_n ?_|refine blk_r ?_|refine blk_same ?_|refine blk_other (by decide) ?_|refine noG_n ?_|refine noG_r ?_|refine noG_e ?_|refine inR_mk ?_ ?_)|(refine fun (hc : (_ : Bool) = _)=>?_;try simp only [hcS] at hc))
            all_goals try exact om_
            · refine endQ_mk (Imp.closeB 0 5 13 _ _ rfl rfl rfl (by decide)) ?_
              rw [fd0,← fdS k (by omega)]
              (first|refine ret_auto ?_|refine ret_auto' ?_);simp only [go_sem,simprocAttr,Tryz.f73]
        · repeat' (first|(with_reducible first|refine V_seq ?_|refine V_block ?_|refine V_skip ?_|refine V_ret ?_|refine V_exit ?_)|((with_reducible refine V_cond ?_);simp only [go_sem,simprocAttr])|((first|refine V_region (by rw [hn];rfl) ?_|refine V_drawn hmix (by rw [hn];rfl) ?_);intro K hK)|((first|with_reducible refine evOps_n ?_|((with_reducible apply evOps_g);rfl)|with_reducible refine evOpsD_n ?_|((with_reducible apply evOpsD_g);rfl));intro K hK;simp (contextual:=true) only [go_sem,simprocAttr])|with_reducible refine evOps_nil ?_|((with_reducible refine evOpsD_nil ?_ ?_);kernel_rfl)|((with_reducible refine hK _ ?_);clear hK K)|(with_reducible first|refine And.intro ?_ ?_|refine nxt_n ?_|refine nxt_r ?_|refine nxt_e ?_|refine blk_n ?_|refine blk_r ?_|refine blk_same ?_|refine blk_other (by decide) ?_|refine noG_n ?_|refine noG_r ?_|refine noG_e ?_|refine inR_mk ?_ ?_)|(refine fun (hc : (_ : Bool) = _)=>?_;try simp only [hcS] at hc))
          all_goals try exact om_
          · refine endQ_mk (Imp.closeB 0 5 13 _ _ rfl rfl rfl (by decide)) ?_
            rw [fd0,← fdE k (by omega)]
            (first|refine ret_auto ?_|refine ret_auto' ?_);simp only [go_sem,simprocAttr,Tryz.f73]
end Go.Eng
