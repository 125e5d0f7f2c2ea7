/- Functor categories, by the reference. -/
import Derived.Test.YtmpopmololpaoaaGreatR14q
import Derived.Test.YtmpopmololpaoaaGreatR11q
set_option linter.unusedSimpArgs false
set_option linter.unusedVariables false
set_option maxRecDepth 100000
set_option maxHeartbeats 16000000
namespace Go.Eng
open Go Go.Proofs Go.Cats
noncomputable def rowF (d : Cat) (A : List (List Int)) (a b : Nat) : List Int:=(List.range b).map fun b=>if (A.getD a []).getD 1 0 = (A.getD b []).getD 0 0 then fnd A (fcC d (A.getD a []) (A.getD b [])) else -1
noncomputable def rowsF (d : Cat) (A : List (List Int)) (a : Nat) : List (List Int):=(List.range a).map fun a=>rowF d A a A.length
theorem rowF_zero (d A a) : rowF d A a 0 = []:=rfl
theorem rowsF_zero (d A) : rowsF d A 0 = []:=rfl
theorem rowF_len {d A a b} : (rowF d A a b).length = b:=by unfold rowF;rw [List.length_map,List.length_range]
theorem rowsF_len {d A a} : (rowsF d A a).length = a:=by unfold rowsF;rw [List.length_map,List.length_range]
theorem rowF_yes {d : Cat} {A : List (List Int)} {a b : Nat} (h : (A.getD a []).getD 1 0 = (A.getD b []).getD 0 0) : rowF d A a (b + 1) = rowF d A a b ++ [fnd A (fcC d (A.getD a []) (A.getD b []))]:=by
  unfold rowF;rw [List.range_succ,List.map_append,List.map_singleton,if_pos h]
theorem rowF_no {d : Cat} {A : List (List Int)} {a b : Nat} (h : ¬ (A.getD a []).getD 1 0 = (A.getD b []).getD 0 0) : rowF d A a (b + 1) = rowF d A a b ++ [-1]:=by
  unfold rowF;rw [List.range_succ,List.map_append,List.map_singleton,if_neg h]
theorem rowsF_succ {d : Cat} {A : List (List Int)} {a : Nat} : rowsF d A (a + 1) = rowsF d A a ++ [rowF d A a A.length]:=by
  unfold rowsF;rw [List.range_succ,List.map_append,List.map_singleton]
noncomputable def idF (A : List (List Int)) (L : List Fun) (i : Nat) : List Int:=(List.range i).map fun i=>fnd A (fcI L i)
theorem idF_zero (A L) : idF A L 0 = []:=rfl
theorem idF_len {A L i} : (idF A L i).length = i:=by unfold idF;rw [List.length_map,List.length_range]
theorem idF_succ {A : List (List Int)} {L : List Fun} {i : Nat} : idF A L (i + 1) = idF A L i ++ [fnd A (fcI L i)]:=by
  unfold idF;rw [List.range_succ,List.map_append,List.map_singleton]
theorem ckF_succ {A : List (List Int)} {h : List Int → Int} {a : Nat} (ha : a < A.length) : (A.take (a + 1)).map h = (A.take a).map h ++ [h (A.getD a [])]:=by
  rw [List.take_succ_eq_append_getElem ha,List.map_append,List.map_singleton,List.getD_eq_getElem?_getD,List.getElem?_eq_getElem ha];rfl
theorem ckF_zero {A : List (List Int)} {h : List Int → Int} : (A.take 0).map h = []:=rfl
def FcR (c d : Cat) (r : Sv) (L1 : List (Nat × Rs)) : Prop:=(FcY c d ∧ r = .tup [.agg [iv ((fcL c d).length : Int),.sl 0,.sl 1,.sl 2,.sl 3,.sl 4,.sl 5],iv 0] ∧ L1 = [(0,⟨1,.arr (ints (fcK d (fcL c d)).fr)⟩),(1,⟨1,.arr (ints (fcK d (fcL c d)).to)⟩),(2,⟨1,.arr (ints (fcK d (fcL c d)).id)⟩),(3,⟨1,.arr (intss (fcK d (fcL c d)).co)⟩),(4,⟨1,.arr (funsD (fcL c d))⟩),(5,⟨1,.arr (intss (fcA (fcL c d)))⟩)]) ∨ (¬ FcY c d ∧ r = .tup [.agg [iv 0,.v (.slice none 0 0),.v (.slice none 0 0),.v (.slice none 0 0),.v (.slice none 0 0),.v (.slice none 0 0),.v (.slice none 0 0)],iv 3] ∧ L1 = [])
attribute [local go_sem] List.set_cons_zero List.set_cons_succ rowF_zero rowsF_zero idF_zero fcP_zero ckF_zero
theorem cal_l08Make : Callable Tryz.prog 52:=⟨_,Tryz.func52,rfl,rfl⟩
theorem sp_l08Make_o {c d : Cat} {r : Sv} {L1 : List (Nat × Rs)} (sc : IsCat c) (sd : IsCat d) (bc : CatB c) (bd : CatB d) (ho : FcR c d r L1) : Spec Tryz.prog 52 [catV c,catV d] [] r L1:=by
  have hsm:=sp_l06Small sc.toShape sd.toShape
  have hall:=sp_l06All sc sd bc bd
  rw [show funL c d = (fcL c d).take 201 from rfl] at hall
  by_cases hM : MovP c d
  · rw [dec_t hM] at hsm
    by_cases hL : (fcL c d).length ≤ 8
    · rw [List.take_of_length_le (by omega)] at hall
      have hfl : FL c d (fcL c d):=FL.of_funX
      obtain ⟨L,hLd⟩ : ∃ L,fcL c d = L:=⟨_,rfl⟩
      rw [hLd] at hall hL hfl
      refine spec_of_V (E:=TE) 0 Tryz.func52 rfl (by simp [Tryz.f52]) fun X hn hX=>?_
      have hpart : ∀ i,i < L.length → (funsD L).part (i * 12) 12 = [.v (.int .i64 (L.getD i default).src.ob),ints (L.getD i default).src.fr,ints (L.getD i default).src.to,ints (L.getD i default).src.id,intss (L.getD i default).src.co,.v (.int .i64 (L.getD i default).tgt.ob),ints (L.getD i default).tgt.fr,ints (L.getD i default).tgt.to,ints (L.getD i default).tgt.id,intss (L.getD i default).tgt.co,ints (L.getD i default).obs,ints (L.getD i default).ars]:=fun i hi=>funs_part L i hi
      have c8:=sc.toShape.ob8
      repeat' (first|(refine V_at 6 (Imp.adoptBs 4 6 _ _ rfl rfl rfl (by rw [hX];rfl)) ?_;simp only [List.set_cons_succ,List.set_cons_zero])|(with_reducible first|refine V_seq ?_|refine V_block ?_|refine V_skip ?_|refine V_ret ?_|refine V_exit ?_)|((with_reducible refine V_cond ?_);simp only [go_sem,simprocAttr])|((first|refine V_region (by rw [hn];rfl) ?_|refine V_drawn hmix (by rw [hn];rfl) ?_);intro K hK)|((first|with_reducible refine evOps_n ?_|((with_reducible apply evOps_g);rfl)|with_reducible refine evOpsD_n ?_|((with_reducible apply evOpsD_g);rfl));intro K hK;simp (contextual:=true) only [go_sem,simprocAttr])|with_reducible refine evOps_nil ?_|((with_reducible refine evOpsD_nil ?_ ?_);kernel_rfl)|((with_reducible refine hK _ ?_);clear hK K)|(with_reducible first|refine And.intro ?_ ?_|refine nxt_n ?_|refine nxt_r ?_|refine nxt_e ?_|refine blk_n ?_|refine blk_r ?_|refine blk_same ?_|refine blk_other (by decide) ?_|refine noG_n ?_|refine noG_r ?_|refine noG_e ?_|refine inR_mk ?_ ?_)|((with_reducible refine evCall_at 106 ?_);refine EvCall.mk (hsm) cal_l06Small [] [] (by simp [go_sem] <;> (repeat' (first|rfl|constructor))) (by simp [go_sem] <;> (repeat' (first|rfl|constructor))) ?_;all_goals try simp only [go_sem,simprocAttr])|((with_reducible refine evCall_at 107 ?_);refine EvCall.mk (hall) cal_l06All [(0,3)] [] (by simp [go_sem] <;> (repeat' (first|rfl|constructor))) (by simp [go_sem] <;> (repeat' (first|rfl|constructor))) ?_;all_goals try simp only [go_sem,simprocAttr])|(refine fun (hc : (_ : Bool) = _)=>?_;try simp only [hcS] at hc))
      all_goals try exact om_
      refine V_loopK (G:={i : Nat // i ≤ L.length ∧ ((fcP L i 0).length ≤ 40)}) (fun ⟨i,_⟩=>[(7,iv i),(2,.ptr 0 0),(6,.ptr 4 0)]) [3,4] (fun ⟨i,_⟩=>[(3,⟨1,.arr (funsD L)⟩),(4,⟨1,.box [iv 0,.v (.slice none 0 0),.v (.slice none 0 0),.v (.slice none 0 0),.v (.slice none 0 0),.sl 3,.sl 5]⟩),(5,⟨1,.arr (intss (fcP L i 0))⟩)]) [3,4,5] (fun zz=>L.length - zz.1) ⟨0,Nat.zero_le _,(by rw [fcP_zero];exact Nat.zero_le _)⟩ ?_ ?_
      · exact Imp.au hX
      rintro ⟨i,hii,hwi⟩
      simp only [go_sem,simprocAttr]
      rcases Nat.lt_or_ge i L.length with hli | hgi
      · have hpi:=hpart i hli
        repeat' (first|(with_reducible first|refine V_seq ?_|refine V_block ?_|refine V_skip ?_|refine V_ret ?_|refine V_exit ?_)|((with_reducible refine V_cond ?_);simp only [go_sem,simprocAttr])|((first|refine V_region (by rw [hn];rfl) ?_|refine V_drawn hmix (by rw [hn];rfl) ?_);intro K hK)|((first|with_reducible refine evOps_n ?_|((with_reducible apply evOps_g);rfl)|with_reducible refine evOpsD_n ?_|((with_reducible apply evOpsD_g);rfl));intro K hK;simp (contextual:=true) only [go_sem,simprocAttr])|with_reducible refine evOps_nil ?_|((with_reducible refine evOpsD_nil ?_ ?_);kernel_rfl)|((with_reducible refine hK _ ?_);clear hK K)|(with_reducible first|refine And.intro ?_ ?_|refine nxt_n ?_|refine nxt_r ?_|refine nxt_e ?_|refine blk_n ?_|refine blk_r ?_|refine blk_same ?_|refine blk_other (by decide) ?_|refine noG_n ?_|refine noG_r ?_|refine noG_e ?_|refine inR_mk ?_ ?_)|(refine fun (hc : (_ : Bool) = _)=>?_;try simp only [hcS] at hc))
        all_goals try exact om_
        refine V_loopK (G:={j : Nat // j ≤ L.length ∧ ((fcP L i j).length ≤ 40)}) (fun ⟨j,_⟩=>[(8,iv j),(2,.ptr 0 0),(6,.ptr 4 0),(7,iv i)]) [3,4] (fun ⟨j,_⟩=>[(3,⟨1,.arr (funsD L)⟩),(4,⟨1,.box [iv 0,.v (.slice none 0 0),.v (.slice none 0 0),.v (.slice none 0 0),.v (.slice none 0 0),.sl 3,.sl 5]⟩),(5,⟨1,.arr (intss (fcP L i j))⟩)]) [3,4,5] (fun zz=>L.length - zz.1) ⟨0,Nat.zero_le _,by exact hwi⟩ ?_ ?_
        · exact Imp.au hX
        rintro ⟨j,hij,hwj⟩
        simp only [go_sem,simprocAttr]
        rcases Nat.lt_or_ge j L.length with hlj | hgj
        · have hpa:=hfl.par sc sd hli hlj
          have hpj:=hpart j hlj
          have hna:=sp_l07All (m:=41) hpa (by decide) (by decide)
          have hel:=fcE_len (L:=L) (i:=i) (j:=j)
          obtain ⟨N,hN⟩ : ∃ N,natA (L.getD i default) (L.getD j default) = N:=⟨_,rfl⟩
          rw [hN] at hna hel
          have hsu : fcP L i (j + 1) = fcP L i j ++ fcE L i j:=fcP_succ
          have hle:=fcP_le (L:=L) (i:=i) (j:=j + 1) hli (by omega)
          have hfe : fcE L i j = N.map fun t=>(i : Int) :: (j : Int) :: t:=by unfold fcE;rw [hN]
          obtain ⟨M,hM2⟩ : ∃ M,N.take 41 = M:=⟨_,rfl⟩
          have hMl : M.length = min 41 N.length:=by rw [← hM2,List.length_take]
          have hMr : ∀ k,k < M.length → (M.getD k []).length ≤ 8:=fun k hk=>by
            have hm : M.getD k [] ∈ N:=by rw [← hM2] at hk ⊢;exact List.mem_of_mem_take (getD_mem hk)
            rw [← hN] at hm
            have:=(mem_natA.1 hm).1
            rw [(hfl i hli).1] at this
            omega
          rw [hM2] at hna
          obtain ⟨P,hP⟩ : ∃ P : Nat → List (List Int),∀ k,P k = fcP L i j ++ (M.map fun t=>(i : Int) :: (j : Int) :: t).take k:=⟨_,fun _=>rfl⟩
          have hP0 : P 0 = fcP L i j:=by rw [hP,List.take_zero,List.append_nil]
          have hPs : ∀ k,k < M.length → P (k + 1) = P k ++ [(i : Int) :: (j : Int) :: M.getD k []]:=fun k hk=>by rw [hP,hP,map_step _ _ hk,List.append_assoc]
          have hPl : ∀ k,k ≤ M.length → (P k).length = (fcP L i j).length + k:=fun k hk=>by rw [hP,List.length_append,List.length_take,List.length_map];omega
          have hPn : N.length ≤ 41 → P M.length = fcP L i (j + 1):=fun h=>by
            have e : M = N:=by rw [← hM2,List.take_of_length_le h]
            rw [hP,List.take_of_length_le (by rw [List.length_map];exact Nat.le_refl _),hsu,hfe,e]
          rw [hsu,List.length_append,hel] at hle
          repeat' (first|(rw [hpi];simp only [go_sem,simprocAttr])|(rw [hpj];simp only [go_sem,simprocAttr])|(with_reducible first|refine V_seq ?_|refine V_block ?_|refine V_skip ?_|refine V_ret ?_|refine V_exit ?_)|((with_reducible refine V_cond ?_);simp only [go_sem,simprocAttr])|((first|refine V_region (by rw [hn];rfl) ?_|refine V_drawn hmix (by rw [hn];rfl) ?_);intro K hK)|((first|with_reducible refine evOps_n ?_|((with_reducible apply evOps_g);rfl)|with_reducible refine evOpsD_n ?_|((with_reducible apply evOpsD_g);rfl));intro K hK;simp (contextual:=true) only [go_sem,simprocAttr])|with_reducible refine evOps_nil ?_|((with_reducible refine evOpsD_nil ?_ ?_);kernel_rfl)|((with_reducible refine hK _ ?_);clear hK K)|(with_reducible first|refine And.intro ?_ ?_|refine nxt_n ?_|refine nxt_r ?_|refine nxt_e ?_|refine blk_n ?_|refine blk_r ?_|refine blk_same ?_|refine blk_other (by decide) ?_|refine noG_n ?_|refine noG_r ?_|refine noG_e ?_|refine inR_mk ?_ ?_)|((with_reducible refine evCall_at 108 ?_);refine EvCall.mk (hna) cal_l07All [(0,6)] [3] (by simp [go_sem] <;> (repeat' (first|rfl|constructor))) (by simp [go_sem] <;> (repeat' (first|rfl|constructor))) ?_;all_goals try simp only [go_sem,simprocAttr])|(refine fun (hc : (_ : Bool) = _)=>?_;try simp only [hcS] at hc))
          all_goals try exact om_
          refine V_loopK (G:={k : Nat // k ≤ M.length ∧ (True)}) (fun ⟨k,_⟩=>[(10,iv k),(2,.ptr 0 0),(6,.ptr 4 0),(7,iv i),(8,iv j),(9,.sl 6)]) [3,4,5] (fun ⟨k,_⟩=>[(3,⟨1,.arr (funsD L)⟩),(4,⟨1,.box [iv 0,.v (.slice none 0 0),.v (.slice none 0 0),.v (.slice none 0 0),.v (.slice none 0 0),.sl 3,.sl 5]⟩),(5,⟨1,.arr (intss (P k))⟩),(6,⟨1,.arr (intss M)⟩)]) [3,4,5,6] (fun zz=>M.length - zz.1) ⟨0,Nat.zero_le _,by first|trivial|simp⟩ ?_ ?_
          · exact Imp.auto hX (by simp [go_sem,simprocAttr,hP0])
          rintro ⟨k,hik,hwk⟩
          simp only [go_sem,simprocAttr]
          have hpl:=hPl k hik
          rcases Nat.lt_or_ge k M.length with hlk | hgk
          · have hsk:=hPs k hlk
            have hrk:=hMr k hlk
            repeat' (first|(with_reducible first|refine V_seq ?_|refine V_block ?_|refine V_skip ?_|refine V_ret ?_|refine V_exit ?_)|((with_reducible refine V_cond ?_);simp only [go_sem,simprocAttr])|((first|refine V_region (by rw [hn];rfl) ?_|refine V_drawn hmix (by rw [hn];rfl) ?_);intro K hK)|((first|with_reducible refine evOps_n ?_|((with_reducible apply evOps_g);rfl)|with_reducible refine evOpsD_n ?_|((with_reducible apply evOpsD_g);rfl));intro K hK;simp (contextual:=true) only [go_sem,simprocAttr])|with_reducible refine evOps_nil ?_|((with_reducible refine evOpsD_nil ?_ ?_);kernel_rfl)|((with_reducible refine hK _ ?_);clear hK K)|(with_reducible first|refine And.intro ?_ ?_|refine nxt_n ?_|refine nxt_r ?_|refine nxt_e ?_|refine blk_n ?_|refine blk_r ?_|refine blk_same ?_|refine blk_other (by decide) ?_|refine noG_n ?_|refine noG_r ?_|refine noG_e ?_|refine inR_mk ?_ ?_)|(refine fun (hc : (_ : Bool) = _)=>?_;try simp only [hcS] at hc))
            all_goals try exact om_
            · refine ⟨⟨k + 1,by omega,(by trivial)⟩,by simp only;omega,Imp.auto hX (by simp only [go_sem,simprocAttr,← hsk])⟩
          · have ek : k = M.length:=by omega
            subst ek
            repeat' (first|(with_reducible first|refine V_seq ?_|refine V_block ?_|refine V_skip ?_|refine V_ret ?_|refine V_exit ?_)|((with_reducible refine V_cond ?_);simp only [go_sem,simprocAttr])|((first|refine V_region (by rw [hn];rfl) ?_|refine V_drawn hmix (by rw [hn];rfl) ?_);intro K hK)|((first|with_reducible refine evOps_n ?_|((with_reducible apply evOps_g);rfl)|with_reducible refine evOpsD_n ?_|((with_reducible apply evOpsD_g);rfl));intro K hK;simp (contextual:=true) only [go_sem,simprocAttr])|with_reducible refine evOps_nil ?_|((with_reducible refine evOpsD_nil ?_ ?_);kernel_rfl)|((with_reducible refine hK _ ?_);clear hK K)|(with_reducible first|refine And.intro ?_ ?_|refine nxt_n ?_|refine nxt_r ?_|refine nxt_e ?_|refine blk_n ?_|refine blk_r ?_|refine blk_same ?_|refine blk_other (by decide) ?_|refine noG_n ?_|refine noG_r ?_|refine noG_e ?_|refine inR_mk ?_ ?_)|(refine fun (hc : (_ : Bool) = _)=>?_;try simp only [hcS] at hc))
            all_goals try exact om_
            · rcases ho with ⟨hy,_,_⟩|⟨_,rfl,rfl⟩
              · exact absurd hy.2.2 (by rw [hLd];omega)
              · (first|refine ret_auto ?_|refine ret_auto' ?_);simp only [go_sem,simprocAttr,Tryz.f52]
            · have hpn:=hPn (by omega)
              refine ⟨⟨j + 1,by omega,(by (rw [← hpn];omega))⟩,by simp only;omega,Imp.auto hX (by simp only [go_sem,simprocAttr,hpn])⟩
        · have ej : j = L.length:=by omega
          subst ej
          rw [fcP_next] at hwj ⊢
          repeat' (first|(with_reducible first|refine V_seq ?_|refine V_block ?_|refine V_skip ?_|refine V_ret ?_|refine V_exit ?_)|((with_reducible refine V_cond ?_);simp only [go_sem,simprocAttr])|((first|refine V_region (by rw [hn];rfl) ?_|refine V_drawn hmix (by rw [hn];rfl) ?_);intro K hK)|((first|with_reducible refine evOps_n ?_|((with_reducible apply evOps_g);rfl)|with_reducible refine evOpsD_n ?_|((with_reducible apply evOpsD_g);rfl));intro K hK;simp (contextual:=true) only [go_sem,simprocAttr])|with_reducible refine evOps_nil ?_|((with_reducible refine evOpsD_nil ?_ ?_);kernel_rfl)|((with_reducible refine hK _ ?_);clear hK K)|(with_reducible first|refine And.intro ?_ ?_|refine nxt_n ?_|refine nxt_r ?_|refine nxt_e ?_|refine blk_n ?_|refine blk_r ?_|refine blk_same ?_|refine blk_other (by decide) ?_|refine noG_n ?_|refine noG_r ?_|refine noG_e ?_|refine inR_mk ?_ ?_)|(refine fun (hc : (_ : Bool) = _)=>?_;try simp only [hcS] at hc))
          all_goals try exact om_
          · refine ⟨⟨i + 1,by omega,(by exact hwj)⟩,by simp only;omega,Imp.ao hX⟩
      · have ei : i = L.length:=by omega
        subst ei
        rw [show fcP L L.length 0 = fcA L from rfl] at hwi ⊢
        repeat' (first|(refine V_at 20 (Imp.adoptI 4 3 _ _ rfl rfl rfl (by rw [hX];rfl)) ?_;refine V_at 20 (Imp.adoptI 4 1 _ _ rfl rfl rfl (by rw [hX];rfl)) ?_;refine V_at 20 (Imp.adoptI 4 2 _ _ rfl rfl rfl (by rw [hX];rfl)) ?_;refine V_at 20 (Imp.adoptBs 4 4 _ _ rfl rfl rfl (by rw [hX];rfl)) ?_;simp only [List.set_cons_succ,List.set_cons_zero])|(with_reducible first|refine V_seq ?_|refine V_block ?_|refine V_skip ?_|refine V_ret ?_|refine V_exit ?_)|((with_reducible refine V_cond ?_);simp only [go_sem,simprocAttr])|((first|refine V_region (by rw [hn];rfl) ?_|refine V_drawn hmix (by rw [hn];rfl) ?_);intro K hK)|((first|with_reducible refine evOps_n ?_|((with_reducible apply evOps_g);rfl)|with_reducible refine evOpsD_n ?_|((with_reducible apply evOpsD_g);rfl));intro K hK;simp (contextual:=true) only [go_sem,simprocAttr])|with_reducible refine evOps_nil ?_|((with_reducible refine evOpsD_nil ?_ ?_);kernel_rfl)|((with_reducible refine hK _ ?_);clear hK K)|(with_reducible first|refine And.intro ?_ ?_|refine nxt_n ?_|refine nxt_r ?_|refine nxt_e ?_|refine blk_n ?_|refine blk_r ?_|refine blk_same ?_|refine blk_other (by decide) ?_|refine noG_n ?_|refine noG_r ?_|refine noG_e ?_|refine inR_mk ?_ ?_)|(refine fun (hc : (_ : Bool) = _)=>?_;try simp only [hcS] at hc))
        all_goals try exact om_
        have hk:=fc_key hfl hL sd.toShape
        have hrw : ∀ a,a < (fcA L).length → ((fcA L).getD a []).length ≤ 1048576:=fun a ha=>by have:=(hfl.arr (getD_mem (d:=[]) ha)).len;omega
        refine V_loopK (G:={x : Nat // x ≤ L.length ∧ (True)}) (fun ⟨x,_⟩=>[(11,iv x),(2,.ptr 0 0),(6,.ptr 4 0)]) [3,4,5] (fun ⟨x,_⟩=>[(3,⟨1,.arr (funsD L)⟩),(4,⟨1,.box [iv L.length,.sl 7,.sl 8,.sl 6,.sl 9,.sl 3,.sl 5]⟩),(5,⟨1,.arr (intss (fcA L))⟩),(6,⟨1,.arr (ints (idF (fcA L) L x))⟩),(7,⟨1,.arr (ints [])⟩),(8,⟨1,.arr (ints [])⟩),(9,⟨1,.arr (intss [])⟩)]) [3,4,5,6,7,8,9] (fun zz=>L.length - zz.1) ⟨0,Nat.zero_le _,by first|trivial|simp⟩ ?_ ?_
        · exact Imp.au hX
        rintro ⟨x,hix,hwx⟩
        simp only [go_sem,simprocAttr]
        have hil:=idF_len (A:=fcA L) (L:=L) (i:=x)
        rcases Nat.lt_or_ge x L.length with hlx | hgx
        · have hm:=fcI_mem hfl sc sd hlx
          have hlen:=(hfl.arr hm).len
          have hul : (unitL (L.getD x default)).length + 1 + 1 = c.ob.toNat + 2:=hlen
          obtain ⟨f1,f2,f3⟩:=hfl x hlx
          have hse:=sp_l07Self (f:=L.getD x default) (by rw [f1];exact sc.toShape) (by rw [f2];exact sd.toShape) f3
          have har:=sp_l08Arrow (ob:=(L.length : Int)) (i:=x) (j:=x) (fr:=[]) (to:=[]) (id:=idF (fcA L) L x) (p:=unitL (L.getD x default)) (co:=[]) (L:=fcA L) (F:=L) (by omega) hrw (by omega)
          have his : idF (fcA L) L (x + 1) = idF (fcA L) L x ++ [fnd (fcA L) ((x : Int) :: (x : Int) :: unitL (L.getD x default))]:=idF_succ
          have hpx:=hpart x hlx
          repeat' (first|(rw [hpx];simp only [go_sem,simprocAttr])|(with_reducible first|refine V_seq ?_|refine V_block ?_|refine V_skip ?_|refine V_ret ?_|refine V_exit ?_)|((with_reducible refine V_cond ?_);simp only [go_sem,simprocAttr])|((first|refine V_region (by rw [hn];rfl) ?_|refine V_drawn hmix (by rw [hn];rfl) ?_);intro K hK)|((first|with_reducible refine evOps_n ?_|((with_reducible apply evOps_g);rfl)|with_reducible refine evOpsD_n ?_|((with_reducible apply evOpsD_g);rfl));intro K hK;simp (contextual:=true) only [go_sem,simprocAttr])|with_reducible refine evOps_nil ?_|((with_reducible refine evOpsD_nil ?_ ?_);kernel_rfl)|((with_reducible refine hK _ ?_);clear hK K)|(with_reducible first|refine And.intro ?_ ?_|refine nxt_n ?_|refine nxt_r ?_|refine nxt_e ?_|refine blk_n ?_|refine blk_r ?_|refine blk_same ?_|refine blk_other (by decide) ?_|refine noG_n ?_|refine noG_r ?_|refine noG_e ?_|refine inR_mk ?_ ?_)|((with_reducible refine evCall_at 109 ?_);refine EvCall.mk (hse) cal_l07Self [(0,10)] [3] (by simp [go_sem] <;> (repeat' (first|rfl|constructor))) (by simp [go_sem] <;> (repeat' (first|rfl|constructor))) ?_;all_goals try simp only [go_sem,simprocAttr])|((with_reducible refine evCall_at 66 ?_);refine EvCall.mk (har) cal_l08Arrow [] [7,8,6,9,3,5,10] (by simp [go_sem] <;> (repeat' (first|rfl|constructor))) (by simp [go_sem] <;> (repeat' (first|rfl|constructor))) ?_;all_goals try simp only [go_sem,simprocAttr])|(refine fun (hc : (_ : Bool) = _)=>?_;try simp only [hcS] at hc))
          all_goals try exact om_
          · refine ⟨⟨x + 1,by omega,(by trivial)⟩,by simp only;omega,Imp.auto hX (by simp only [go_sem,simprocAttr,his])⟩
        · have ex : x = L.length:=by omega
          subst ex
          repeat' (first|(with_reducible first|refine V_seq ?_|refine V_block ?_|refine V_skip ?_|refine V_ret ?_|refine V_exit ?_)|((with_reducible refine V_cond ?_);simp only [go_sem,simprocAttr])|((first|refine V_region (by rw [hn];rfl) ?_|refine V_drawn hmix (by rw [hn];rfl) ?_);intro K hK)|((first|with_reducible refine evOps_n ?_|((with_reducible apply evOps_g);rfl)|with_reducible refine evOpsD_n ?_|((with_reducible apply evOpsD_g);rfl));intro K hK;simp (contextual:=true) only [go_sem,simprocAttr])|with_reducible refine evOps_nil ?_|((with_reducible refine evOpsD_nil ?_ ?_);kernel_rfl)|((with_reducible refine hK _ ?_);clear hK K)|(with_reducible first|refine And.intro ?_ ?_|refine nxt_n ?_|refine nxt_r ?_|refine nxt_e ?_|refine blk_n ?_|refine blk_r ?_|refine blk_same ?_|refine blk_other (by decide) ?_|refine noG_n ?_|refine noG_r ?_|refine noG_e ?_|refine inR_mk ?_ ?_)|(refine fun (hc : (_ : Bool) = _)=>?_;try simp only [hcS] at hc))
          all_goals try exact om_
          refine V_loopK (G:={a : Nat // a ≤ (fcA L).length ∧ (True)}) (fun ⟨a,_⟩=>[(12,iv a),(2,.ptr 0 0),(6,.ptr 4 0)]) [3,4,5] (fun ⟨a,_⟩=>[(3,⟨1,.arr (funsD L)⟩),(4,⟨1,.box [iv L.length,.sl 7,.sl 8,.sl 6,.sl 9,.sl 3,.sl 5]⟩),(5,⟨1,.arr (intss (fcA L))⟩),(6,⟨1,.arr (ints (idF (fcA L) L L.length))⟩),(7,⟨1,.arr (ints (((fcA L).take a).map fun r=>r.getD 0 0))⟩),(8,⟨1,.arr (ints (((fcA L).take a).map fun r=>r.getD 1 0))⟩),(9,⟨1,.arr (intss (rowsF d (fcA L) a))⟩)]) [3,4,5,6,7,8,9] (fun zz=>(fcA L).length - zz.1) ⟨0,Nat.zero_le _,by first|trivial|simp⟩ ?_ ?_
          · exact Imp.au hX
          rintro ⟨a,hia,hwa⟩
          simp only [go_sem,simprocAttr]
          have hk1 : (((fcA L).take a).map fun r=>r.getD 0 0).length ≤ a:=by rw [List.length_map,List.length_take];omega
          have hk2 : (((fcA L).take a).map fun r=>r.getD 1 0).length ≤ a:=by rw [List.length_map,List.length_take];omega
          have hk3:=rowsF_len (d:=d) (A:=fcA L) (a:=a)
          rcases Nat.lt_or_ge a (fcA L).length with hla | hga
          · have ma : (fcA L).getD a [] ∈ fcA L:=getD_mem hla
            have la:=(hfl.arr ma).len
            have e0:=ckF_succ (h:=fun r=>r.getD 0 0) hla
            have e1:=ckF_succ (h:=fun r=>r.getD 1 0) hla
            have e2:=rowsF_succ (d:=d) (A:=fcA L) (a:=a)
            repeat' (first|(with_reducible first|refine V_seq ?_|refine V_block ?_|refine V_skip ?_|refine V_ret ?_|refine V_exit ?_)|((with_reducible refine V_cond ?_);simp only [go_sem,simprocAttr])|((first|refine V_region (by rw [hn];rfl) ?_|refine V_drawn hmix (by rw [hn];rfl) ?_);intro K hK)|((first|with_reducible refine evOps_n ?_|((with_reducible apply evOps_g);rfl)|with_reducible refine evOpsD_n ?_|((with_reducible apply evOpsD_g);rfl));intro K hK;simp (contextual:=true) only [go_sem,simprocAttr])|with_reducible refine evOps_nil ?_|((with_reducible refine evOpsD_nil ?_ ?_);kernel_rfl)|((with_reducible refine hK _ ?_);clear hK K)|(with_reducible first|refine And.intro ?_ ?_|refine nxt_n ?_|refine nxt_r ?_|refine nxt_e ?_|refine blk_n ?_|refine blk_r ?_|refine blk_same ?_|refine blk_other (by decide) ?_|refine noG_n ?_|refine noG_r ?_|refine noG_e ?_|refine inR_mk ?_ ?_)|(refine fun (hc : (_ : Bool) = _)=>?_;try simp only [hcS] at hc))
            all_goals try exact om_
            refine V_loopK (G:={b : Nat // b ≤ (fcA L).length ∧ (True)}) (fun ⟨b,_⟩=>[(15,iv b),(2,.ptr 0 0),(6,.ptr 4 0),(12,iv a),(13,.bor [(5,1)] (ints ((fcA L).getD a []))),(14,.sl 14),(127,.sl 10),(137,.sl 12)]) [3,4,5] (fun ⟨b,_⟩=>[(3,⟨1,.arr (funsD L)⟩),(4,⟨1,.box [iv L.length,.sl 11,.sl 13,.sl 6,.sl 9,.sl 3,.sl 5]⟩),(5,⟨1,.arr (intss (fcA L))⟩),(6,⟨1,.arr (ints (idF (fcA L) L L.length))⟩),(10,⟨1,.arr (ints [((fcA L).getD a []).getD 0 0])⟩),(11,⟨1,.arr (ints (((fcA L).take a).map (fun r=>r.getD 0 0) ++ [((fcA L).getD a []).getD 0 0]))⟩),(12,⟨1,.arr (ints [((fcA L).getD a []).getD 1 0])⟩),(13,⟨1,.arr (ints (((fcA L).take a).map (fun r=>r.getD 1 0) ++ [((fcA L).getD a []).getD 1 0]))⟩),(9,⟨1,.arr (intss (rowsF d (fcA L) a))⟩),(14,⟨1,.arr (ints (rowF d (fcA L) a b))⟩)]) [3,4,5,6,9,10,11,12,13,14] (fun zz=>(fcA L).length - zz.1) ⟨0,Nat.zero_le _,by first|trivial|simp⟩ ?_ ?_
            · exact Imp.au hX
            rintro ⟨b,hib,hwb⟩
            simp only [go_sem,simprocAttr]
            have hk4:=rowF_len (d:=d) (A:=fcA L) (a:=a) (b:=b)
            rcases Nat.lt_or_ge b (fcA L).length with hlb | hgb
            · have mb : (fcA L).getD b [] ∈ fcA L:=getD_mem hlb
              have lb:=(hfl.arr mb).len
              have w1:=hfl.comp_d ma
              have w2:=hfl.comp_d mb
              have d1 : (((fcA L).getD a []).drop 2).length = ((fcA L).getD a []).length - 2:=List.length_drop
              have d2 : (((fcA L).getD b []).drop 2).length = ((fcA L).getD b []).length - 2:=List.length_drop
              have hth:=sp_l07Then sd.toShape w1 w2 (by omega) (by omega)
              have hcl:=cmpL_len (d:=d) (s:=((fcA L).getD a []).drop 2) (t:=((fcA L).getD b []).drop 2)
              have hye:=rowF_yes (d:=d) (A:=fcA L) (a:=a) (b:=b)
              have hno:=rowF_no (d:=d) (A:=fcA L) (a:=a) (b:=b)
              unfold fcC at hye
              have har:=sp_l08Arrow (ob:=(L.length : Int)) (i:=((fcA L).getD a []).getD 0 0) (j:=((fcA L).getD b []).getD 1 0) (fr:=((fcA L).take a).map (fun r=>r.getD 0 0) ++ [((fcA L).getD a []).getD 0 0]) (to:=((fcA L).take a).map (fun r=>r.getD 1 0) ++ [((fcA L).getD a []).getD 1 0]) (id:=idF (fcA L) L L.length) (p:=cmpL d (((fcA L).getD a []).drop 2) (((fcA L).getD b []).drop 2)) (co:=rowsF d (fcA L) a) (L:=fcA L) (F:=L) (by omega) hrw (by omega)
              repeat' (first|(with_reducible first|refine V_seq ?_|refine V_block ?_|refine V_skip ?_|refine V_ret ?_|refine V_exit ?_)|((with_reducible refine V_cond ?_);simp only [go_sem,simprocAttr])|((first|refine V_region (by rw [hn];rfl) ?_|refine V_drawn hmix (by rw [hn];rfl) ?_);intro K hK)|((first|with_reducible refine evOps_n ?_|((with_reducible apply evOps_g);rfl)|with_reducible refine evOpsD_n ?_|((with_reducible apply evOpsD_g);rfl));intro K hK;simp (contextual:=true) only [go_sem,simprocAttr])|with_reducible refine evOps_nil ?_|((with_reducible refine evOpsD_nil ?_ ?_);kernel_rfl)|((with_reducible refine hK _ ?_);clear hK K)|(with_reducible first|refine And.intro ?_ ?_|refine nxt_n ?_|refine nxt_r ?_|refine nxt_e ?_|refine blk_n ?_|refine blk_r ?_|refine blk_same ?_|refine blk_other (by decide) ?_|refine noG_n ?_|refine noG_r ?_|refine noG_e ?_|refine inR_mk ?_ ?_)|((with_reducible refine evCall_at 110 ?_);refine EvCall.mk (hth) cal_l07Then [(0,15)] [5] (by simp [go_sem] <;> (repeat' (first|rfl|constructor))) (by simp [go_sem] <;> (repeat' (first|rfl|constructor))) ?_;all_goals try simp only [go_sem,simprocAttr])|((with_reducible refine evCall_at 66 ?_);refine EvCall.mk (har) cal_l08Arrow [] [11,13,6,9,3,5,15] (by simp [go_sem] <;> (repeat' (first|rfl|constructor))) (by simp [go_sem] <;> (repeat' (first|rfl|constructor))) ?_;all_goals try simp only [go_sem,simprocAttr])|(refine hook_drop (n:=2) rfl rfl (by simp [go_sem,simprocAttr]) rfl (by omega) ?_;simp only [go_sem,simprocAttr])|(refine fun (hc : (_ : Bool) = _)=>?_;try simp only [hcS] at hc))
              all_goals try exact om_
              · have e7:=hye (by assumption)
                refine ⟨⟨b + 1,by omega,(by trivial)⟩,by simp only;omega,Imp.auto hX (by simp only [go_sem,simprocAttr,e7])⟩
              · have e7:=hno (by assumption)
                refine ⟨⟨b + 1,by omega,(by trivial)⟩,by simp only;omega,Imp.auto hX (by simp only [go_sem,simprocAttr,e7])⟩
            · have eb : b = (fcA L).length:=by omega
              subst eb
              repeat' (first|(with_reducible first|refine V_seq ?_|refine V_block ?_|refine V_skip ?_|refine V_ret ?_|refine V_exit ?_)|((with_reducible refine V_cond ?_);simp only [go_sem,simprocAttr])|((first|refine V_region (by rw [hn];rfl) ?_|refine V_drawn hmix (by rw [hn];rfl) ?_);intro K hK)|((first|with_reducible refine evOps_n ?_|((with_reducible apply evOps_g);rfl)|with_reducible refine evOpsD_n ?_|((with_reducible apply evOpsD_g);rfl));intro K hK;simp (contextual:=true) only [go_sem,simprocAttr])|with_reducible refine evOps_nil ?_|((with_reducible refine evOpsD_nil ?_ ?_);kernel_rfl)|((with_reducible refine hK _ ?_);clear hK K)|(with_reducible first|refine And.intro ?_ ?_|refine nxt_n ?_|refine nxt_r ?_|refine nxt_e ?_|refine blk_n ?_|refine blk_r ?_|refine blk_same ?_|refine blk_other (by decide) ?_|refine noG_n ?_|refine noG_r ?_|refine noG_e ?_|refine inR_mk ?_ ?_)|(refine fun (hc : (_ : Bool) = _)=>?_;try simp only [hcS] at hc))
              all_goals try exact om_
              · refine ⟨⟨a + 1,by omega,(by (trivial))⟩,by simp only;omega,Imp.auto hX (by simp only [go_sem,simprocAttr,e0,e1,e2])⟩
          · have ea : a = (fcA L).length:=by omega
            subst ea
            repeat' (first|(with_reducible first|refine V_seq ?_|refine V_block ?_|refine V_skip ?_|refine V_ret ?_|refine V_exit ?_)|((with_reducible refine V_cond ?_);simp only [go_sem,simprocAttr])|((first|refine V_region (by rw [hn];rfl) ?_|refine V_drawn hmix (by rw [hn];rfl) ?_);intro K hK)|((first|with_reducible refine evOps_n ?_|((with_reducible apply evOps_g);rfl)|with_reducible refine evOpsD_n ?_|((with_reducible apply evOpsD_g);rfl));intro K hK;simp (contextual:=true) only [go_sem,simprocAttr])|with_reducible refine evOps_nil ?_|((with_reducible refine evOpsD_nil ?_ ?_);kernel_rfl)|((with_reducible refine hK _ ?_);clear hK K)|(with_reducible first|refine And.intro ?_ ?_|refine nxt_n ?_|refine nxt_r ?_|refine nxt_e ?_|refine blk_n ?_|refine blk_r ?_|refine blk_same ?_|refine blk_other (by decide) ?_|refine noG_n ?_|refine noG_r ?_|refine noG_e ?_|refine inR_mk ?_ ?_)|(refine fun (hc : (_ : Bool) = _)=>?_;try simp only [hcS] at hc))
            all_goals try exact om_
            rcases ho with ⟨_,rfl,rfl⟩|⟨hn2,_,_⟩
            · (first|refine ret_auto ?_|refine ret_auto' ?_);simp only [go_sem,simprocAttr,Tryz.f52]
              rw [hLd];exact ⟨⟨rfl,rfl,rfl,rfl,rfl,rfl⟩,rfl⟩
            · exact absurd ⟨hM,by rw [hLd];exact hL,by rw [hLd];exact hwi⟩ hn2
    · have hl9 : 8 < ((fcL c d).take 201).length:=by rw [List.length_take];omega
      obtain ⟨L,hLd⟩ : ∃ L,(fcL c d).take 201 = L:=⟨_,rfl⟩
      rw [hLd] at hall hl9
      refine spec_of_V (E:=TE) 0 Tryz.func52 rfl (by simp [Tryz.f52]) fun X hn hX=>?_
      repeat' (first|(with_reducible first|refine V_seq ?_|refine V_block ?_|refine V_skip ?_|refine V_ret ?_|refine V_exit ?_)|((with_reducible refine V_cond ?_);simp only [go_sem,simprocAttr])|((first|refine V_region (by rw [hn];rfl) ?_|refine V_drawn hmix (by rw [hn];rfl) ?_);intro K hK)|((first|with_reducible refine evOps_n ?_|((with_reducible apply evOps_g);rfl)|with_reducible refine evOpsD_n ?_|((with_reducible apply evOpsD_g);rfl));intro K hK;simp (contextual:=true) only [go_sem,simprocAttr])|with_reducible refine evOps_nil ?_|((with_reducible refine evOpsD_nil ?_ ?_);kernel_rfl)|((with_reducible refine hK _ ?_);clear hK K)|(with_reducible first|refine And.intro ?_ ?_|refine nxt_n ?_|refine nxt_r ?_|refine nxt_e ?_|refine blk_n ?_|refine blk_r ?_|refine blk_same ?_|refine blk_other (by decide) ?_|refine noG_n ?_|refine noG_r ?_|refine noG_e ?_|refine inR_mk ?_ ?_)|((with_reducible refine evCall_at 106 ?_);refine EvCall.mk (hsm) cal_l06Small [] [] (by simp [go_sem] <;> (repeat' (first|rfl|constructor))) (by simp [go_sem] <;> (repeat' (first|rfl|constructor))) ?_;all_goals try simp only [go_sem,simprocAttr])|((with_reducible refine evCall_at 107 ?_);refine EvCall.mk (hall) cal_l06All [(0,3)] [] (by simp [go_sem] <;> (repeat' (first|rfl|constructor))) (by simp [go_sem] <;> (repeat' (first|rfl|constructor))) ?_;all_goals try simp only [go_sem,simprocAttr])|(refine fun (hc : (_ : Bool) = _)=>?_;try simp only [hcS] at hc))
      all_goals try exact om_
      · rcases ho with ⟨hy,_,_⟩|⟨_,rfl,rfl⟩
        · exact absurd hy.2.1 hL
        · (first|refine ret_auto ?_|refine ret_auto' ?_);simp only [go_sem,simprocAttr,Tryz.f52]
  · rw [dec_f hM] at hsm
    refine spec_of_V (E:=TE) 0 Tryz.func52 rfl (by simp [Tryz.f52]) fun X hn hX=>?_
    repeat' (first|(with_reducible first|refine V_seq ?_|refine V_block ?_|refine V_skip ?_|refine V_ret ?_|refine V_exit ?_)|((with_reducible refine V_cond ?_);simp only [go_sem,simprocAttr])|((first|refine V_region (by rw [hn];rfl) ?_|refine V_drawn hmix (by rw [hn];rfl) ?_);intro K hK)|((first|with_reducible refine evOps_n ?_|((with_reducible apply evOps_g);rfl)|with_reducible refine evOpsD_n ?_|((with_reducible apply evOpsD_g);rfl));intro K hK;simp (contextual:=true) only [go_sem,simprocAttr])|with_reducible refine evOps_nil ?_|((with_reducible refine evOpsD_nil ?_ ?_);kernel_rfl)|((with_reducible refine hK _ ?_);clear hK K)|(with_reducible first|refine And.intro ?_ ?_|refine nxt_n ?_|refine nxt_r ?_|refine nxt_e ?_|refine blk_n ?_|refine blk_r ?_|refine blk_same ?_|refine blk_other (by decide) ?_|refine noG_n ?_|refine noG_r ?_|refine noG_e ?_|refine inR_mk ?_ ?_)|((with_reducible refine evCall_at 106 ?_);refine EvCall.mk (hsm) cal_l06Small [] [] (by simp [go_sem] <;> (repeat' (first|rfl|constructor))) (by simp [go_sem] <;> (repeat' (first|rfl|constructor))) ?_;all_goals try simp only [go_sem,simprocAttr])|(refine fun (hc : (_ : Bool) = _)=>?_;try simp only [hcS] at hc))
    all_goals try exact om_
    · rcases ho with ⟨hy,_,_⟩|⟨_,rfl,rfl⟩
      · exact absurd hy.1 hM
      · (first|refine ret_auto ?_|refine ret_auto' ?_);simp only [go_sem,simprocAttr,Tryz.f52]
end Go.Eng
