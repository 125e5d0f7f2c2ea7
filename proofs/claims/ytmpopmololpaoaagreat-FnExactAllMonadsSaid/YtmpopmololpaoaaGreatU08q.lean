/- All monads, by the reference. -/
import Derived.Test.YtmpopmololpaoaaGreatKapx
set_option linter.unusedSimpArgs false
set_option linter.unusedVariables false
set_option maxRecDepth 100000
set_option maxHeartbeats 16000000
namespace Go.Eng
open Go Go.Proofs Go.Cats
attribute [local go_sem] List.set_cons_zero List.set_cons_succ moA_zero moU_zero List.append_nil
theorem moF_len {c : Cat} {f : Fun} (h : (unitsL c f).length ≤ 200 ∧ (joinsL f).length ≤ 200) : (moF c f).length ≤ 40200:=by
  have h1:=moU_len (c:=c) (f:=f) (U:=unitsL c f) (J:=joinsL f) (i:=(unitsL c f).length) (k:=0)
  have h2:=Nat.mul_le_mul h.1 h.2
  have h3:=h.2
  unfold moF
  omega
theorem moA_len {c : Cat} {L : List Fun} {i : Nat} (h : ∀ k,k < i → (unitsL c (L.getD k default)).length ≤ 200 ∧ (joinsL (L.getD k default)).length ≤ 200) : (moA c L i).length ≤ i * 40200:=coll_len fun k hk=>moF_len (h k hk)
theorem oks_succ {c : Cat} {L : List Fun} {i : Nat} (h : ∀ k,k < i → (unitsL c (L.getD k default)).length ≤ 200 ∧ (joinsL (L.getD k default)).length ≤ 200) (ho : (unitsL c (L.getD i default)).length ≤ 200 ∧ (joinsL (L.getD i default)).length ≤ 200) : ∀ k,k < i + 1 → (unitsL c (L.getD k default)).length ≤ 200 ∧ (joinsL (L.getD k default)).length ≤ 200:=fun k hk=>by
  by_cases e : k = i
  · subst e;exact ho
  · exact h k (by omega)
theorem cal_l16All : Callable Tryz.prog 101:=⟨_,Tryz.func101,rfl,rfl⟩
theorem sp_l16All_o {c : Cat} {r : Sv} {L1 : List (Nat × Rs)} (bc : CatB c) (sc : IsCat c) (h6 : c.fr.length ≤ 6) (ho : MaO c r L1) : Spec Tryz.prog 101 [catV c] [] r L1:=by
  have hall:=sp_l06All sc sc bc bc
  rw [show funL c c = (fcL c c).take 201 from rfl] at hall
  have c0:=sc.toShape.ob0
  have c8:=sc.toShape.ob8
  by_cases hL : (fcL c c).length ≤ 200
  · rw [List.take_of_length_le (by omega)] at hall
    have hend : ∀ i,i < (fcL c c).length → EndF c ((fcL c c).getD i default):=fun i hi=>end_of sc hi
    have hself:=sp_l06Self bc c0 (by omega)
    unfold MaO at ho
    obtain ⟨L,hLd⟩ : ∃ L,fcL c c = L:=⟨_,rfl⟩
    rw [hLd] at hall hL ho hend
    have hpart : ∀ i,i < L.length → (funsD L).part (i * 12) 12 = [.v (.int .i64 (L.getD i default).src.ob),ints (L.getD i default).src.fr,ints (L.getD i default).src.to,ints (L.getD i default).src.id,intss (L.getD i default).src.co,.v (.int .i64 (L.getD i default).tgt.ob),ints (L.getD i default).tgt.fr,ints (L.getD i default).tgt.to,ints (L.getD i default).tgt.id,intss (L.getD i default).tgt.co,ints (L.getD i default).obs,ints (L.getD i default).ars]:=fun i hi=>funs_part L i hi
    refine spec_of_V (E:=TE) 0 Tryz.func101 rfl (by simp [Tryz.f101]) fun X hn hX=>?_
    repeat' (first|(with_reducible first|refine V_seq ?_|refine V_block ?_|refine V_skip ?_|refine V_ret ?_|refine V_exit ?_)|((with_reducible refine V_cond ?_);simp only [go_sem,simprocAttr])|((first|refine V_region (by rw [hn];rfl) ?_|refine V_drawn hmix (by rw [hn];rfl) ?_);intro K hK)|((first|with_reducible refine evOps_n ?_|((with_reducible apply evOps_g);rfl)|with_reducible refine evOpsD_n ?_|((with_reducible apply evOpsD_g);rfl));intro K hK;simp (contextual:=true) only [go_sem,simprocAttr])|with_reducible refine evOps_nil ?_|((with_reducible refine evOpsD_nil ?_ ?_);kernel_rfl)|((with_reducible refine hK _ ?_);clear hK K)|(with_reducible first|refine And.intro ?_ ?_|refine nxt_n ?_|refine nxt_r ?_|refine nxt_e ?_|refine blk_n ?_|refine blk_r ?_|refine blk_same ?_|refine blk_other (by decide) ?_|refine noG_n ?_|refine noG_r ?_|refine noG_e ?_|refine inR_mk ?_ ?_)|((with_reducible refine evCall_at 107 ?_);refine EvCall.mk (hall) cal_l06All [(0,2)] [] (by simp [go_sem] <;> (repeat' (first|rfl|constructor))) (by simp [go_sem] <;> (repeat' (first|rfl|constructor))) ?_;all_goals try simp only [go_sem,simprocAttr])|(refine fun (hc : (_ : Bool) = _)=>?_;try simp only [hcS] at hc))
    all_goals try exact om_
    refine V_loopK (G:={i : Nat // i ≤ L.length ∧ (∀ k,k < i → (unitsL c (L.getD k default)).length ≤ 200 ∧ (joinsL (L.getD k default)).length ≤ 200)}) (fun ⟨i,_⟩=>[(6,iv i),(1,.ptr 0 0),(4,.sl 1),(5,.sl 2)]) [] (fun ⟨i,_⟩=>[(1,⟨1,.arr (monsD (moA c L i))⟩),(2,⟨1,.arr (funsD L)⟩)]) [1,2] (fun zz=>L.length - zz.1) ⟨0,Nat.zero_le _,by exact (fun k hk=>absurd hk (Nat.not_lt_zero k))⟩ ?_ ?_
    · exact Imp.au hX
    rintro ⟨i,hii,hwi⟩
    simp only [go_sem,simprocAttr]
    have hml:=moA_len hwi
    rcases Nat.lt_or_ge i L.length with hli | hgi
    · have hE:=hend i hli
      have hB:=end_b hE bc
      have es:=hE.es
      have hE2 : EndF (L.getD i default).src (L.getD i default):=by rw [es];exact hE
      have hpi:=hpart i hli
      have hu:=sp_l15Units hE.self
      have hj:=sp_l15Units hE.twice
      have htw:=sp_l16Twice (hE2.th hB)
      rw [show natA (selfF c) (L.getD i default) = unitsL c (L.getD i default) from rfl] at hu
      rw [show natA (thF (L.getD i default) (L.getD i default)) (L.getD i default) = joinsL (L.getD i default) from rfl] at hj
      have lu : ((unitsL c (L.getD i default)).take 201).length = min 201 (unitsL c (L.getD i default)).length:=List.length_take
      have lj : ((joinsL (L.getD i default)).take 201).length = min 201 (joinsL (L.getD i default)).length:=List.length_take
      by_cases ho1 : (unitsL c (L.getD i default)).length ≤ 200 ∧ (joinsL (L.getD i default)).length ≤ 200
      · obtain ⟨hu1,hj1⟩:=ho1
        rw [List.take_of_length_le (by omega)] at hu hj
        have e1:=moA_succ (c:=c) (L:=L) (i:=i)
        have hum : ∀ i',i' < (unitsL c (L.getD i default)).length → (unitsL c (L.getD i default)).getD i' [] ∈ unitsL c (L.getD i default):=fun i' hi=>getD_mem hi
        have hjm : ∀ i',i' < (joinsL (L.getD i default)).length → (joinsL (L.getD i default)).getD i' [] ∈ joinsL (L.getD i default):=fun i' hi=>getD_mem hi
        have hul : ∀ a,a < (unitsL c (L.getD i default)).length → ((unitsL c (L.getD i default)).getD a []).length = c.ob.toNat:=fun a ha=>(hE.unit (hum a ha)).1
        have hjl : ∀ a,a < (joinsL (L.getD i default)).length → ((joinsL (L.getD i default)).getD a []).length = c.ob.toNat:=fun a ha=>(hE.join (hjm a ha)).1
        repeat' (first|(rw [hpi];simp only [go_sem,simprocAttr])|(exfalso;omega)|(with_reducible first|refine V_seq ?_|refine V_block ?_|refine V_skip ?_|refine V_ret ?_|refine V_exit ?_)|((with_reducible refine V_cond ?_);simp only [go_sem,simprocAttr])|((first|refine V_region (by rw [hn];rfl) ?_|refine V_drawn hmix (by rw [hn];rfl) ?_);intro K hK)|((first|with_reducible refine evOps_n ?_|((with_reducible apply evOps_g);rfl)|with_reducible refine evOpsD_n ?_|((with_reducible apply evOpsD_g);rfl));intro K hK;simp (contextual:=true) only [go_sem,simprocAttr])|with_reducible refine evOps_nil ?_|((with_reducible refine evOpsD_nil ?_ ?_);kernel_rfl)|((with_reducible refine hK _ ?_);clear hK K)|(with_reducible first|refine And.intro ?_ ?_|refine nxt_n ?_|refine nxt_r ?_|refine nxt_e ?_|refine blk_n ?_|refine blk_r ?_|refine blk_same ?_|refine blk_other (by decide) ?_|refine noG_n ?_|refine noG_r ?_|refine noG_e ?_|refine inR_mk ?_ ?_)|((with_reducible refine evCall_at 139 ?_);refine EvCall.mk (hself) cal_l06Self [(0,4),(1,5),(2,6),(3,7),(4,8),(5,9),(6,10),(7,11),(8,12),(9,13)] [] (by simp [go_sem] <;> (repeat' (first|rfl|constructor))) (by simp [go_sem] <;> (repeat' (first|rfl|constructor))) ?_;all_goals try simp only [go_sem,simprocAttr])|((with_reducible refine (id ?_ : EvCall _ _ [.agg [_,.sl 4,_,_,_,_,_,_,_,_,_,_],_] _ _));refine EvCall.mk (hu) cal_l15Units [(0,14)] [4,5,6,7,8,9,10,11,12,13,2] (by simp [go_sem] <;> (repeat' (first|rfl|constructor))) (by simp [go_sem] <;> (repeat' (first|rfl|constructor))) ?_;all_goals try simp only [go_sem,simprocAttr])|((with_reducible refine evCall_at 140 ?_);refine EvCall.mk (htw) cal_l16Twice [(0,15),(1,16),(2,17),(3,18),(4,19),(5,20),(6,21),(7,22),(8,23),(9,24)] [2] (by simp [go_sem] <;> (repeat' (first|rfl|constructor))) (by simp [go_sem] <;> (repeat' (first|rfl|constructor))) ?_;all_goals try simp only [go_sem,simprocAttr])|((with_reducible refine (id ?_ : EvCall _ _ [.agg [_,.sl 15,_,_,_,_,_,_,_,_,_,_],_] _ _));refine EvCall.mk (hj) cal_l15Units [(0,25)] [15,16,17,18,19,20,21,22,23,24,2] (by simp [go_sem] <;> (repeat' (first|rfl|constructor))) (by simp [go_sem] <;> (repeat' (first|rfl|constructor))) ?_;all_goals try simp only [go_sem,simprocAttr])|(refine fun (hc : (_ : Bool) = _)=>?_;try simp only [hcS] at hc))
        all_goals try exact om_
        refine V_loopK (G:={a : Nat // a ≤ (unitsL c (L.getD i default)).length ∧ (True)}) (fun ⟨a,_⟩=>[(10,iv a),(1,.ptr 0 0),(4,.sl 1),(5,.sl 2),(6,iv i),(7,.ptr 3 0),(8,.sl 14),(9,.sl 25),(30,.agg [iv (selfF c).src.ob,.sl 4,.sl 5,.sl 6,.sl 7,iv (selfF c).tgt.ob,.sl 8,.sl 9,.sl 10,.sl 11,.sl 12,.sl 13]),(34,.agg [iv (thF (L.getD i default) (L.getD i default)).src.ob,.sl 15,.sl 16,.sl 17,.sl 18,iv (thF (L.getD i default) (L.getD i default)).tgt.ob,.sl 19,.sl 20,.sl 21,.sl 22,.sl 23,.sl 24])]) [2,3,41,42,43] (fun ⟨a,_⟩=>[(1,⟨1,.arr (monsD (moA c L i ++ moU c (L.getD i default) (unitsL c (L.getD i default)) (joinsL (L.getD i default)) a 0))⟩),(14,⟨1,.arr (intss (unitsL c (L.getD i default)))⟩),(25,⟨1,.arr (intss (joinsL (L.getD i default)))⟩)]) [1,14,25] (fun zz=>(unitsL c (L.getD i default)).length - zz.1) ⟨0,Nat.zero_le _,by trivial⟩ ?_ ?_
        · exact Imp.auto hX (by simp [go_sem,simprocAttr,List.append_nil])
        rintro ⟨a,hia,hwa⟩
        simp only [go_sem,simprocAttr]
        rcases Nat.lt_or_ge a (unitsL c (L.getD i default)).length with hla | hga
        · have ula:=hul a hla
          repeat' (first|(with_reducible first|refine V_seq ?_|refine V_block ?_|refine V_skip ?_|refine V_ret ?_|refine V_exit ?_)|((with_reducible refine V_cond ?_);simp only [go_sem,simprocAttr])|((first|refine V_region (by rw [hn];rfl) ?_|refine V_drawn hmix (by rw [hn];rfl) ?_);intro K hK)|((first|with_reducible refine evOps_n ?_|((with_reducible apply evOps_g);rfl)|with_reducible refine evOpsD_n ?_|((with_reducible apply evOpsD_g);rfl));intro K hK;simp (contextual:=true) only [go_sem,simprocAttr])|with_reducible refine evOps_nil ?_|((with_reducible refine evOpsD_nil ?_ ?_);kernel_rfl)|((with_reducible refine hK _ ?_);clear hK K)|(with_reducible first|refine And.intro ?_ ?_|refine nxt_n ?_|refine nxt_r ?_|refine nxt_e ?_|refine blk_n ?_|refine blk_r ?_|refine blk_same ?_|refine blk_other (by decide) ?_|refine noG_n ?_|refine noG_r ?_|refine noG_e ?_|refine inR_mk ?_ ?_)|(refine fun (hc : (_ : Bool) = _)=>?_;try simp only [hcS] at hc))
          all_goals try exact om_
          refine V_loopK (G:={b : Nat // b ≤ (joinsL (L.getD i default)).length ∧ (True)}) (fun ⟨b,_⟩=>[(11,iv b),(10,iv a),(1,.ptr 0 0),(4,.sl 1),(5,.sl 2),(6,iv i),(7,.ptr 3 0),(8,.sl 14),(9,.sl 25),(30,.agg [iv (selfF c).src.ob,.sl 4,.sl 5,.sl 6,.sl 7,iv (selfF c).tgt.ob,.sl 8,.sl 9,.sl 10,.sl 11,.sl 12,.sl 13]),(34,.agg [iv (thF (L.getD i default) (L.getD i default)).src.ob,.sl 15,.sl 16,.sl 17,.sl 18,iv (thF (L.getD i default) (L.getD i default)).tgt.ob,.sl 19,.sl 20,.sl 21,.sl 22,.sl 23,.sl 24])]) [2,3,41,42,43] (fun ⟨b,_⟩=>[(1,⟨1,.arr (monsD (moA c L i ++ moU c (L.getD i default) (unitsL c (L.getD i default)) (joinsL (L.getD i default)) a b))⟩),(14,⟨1,.arr (intss (unitsL c (L.getD i default)))⟩),(25,⟨1,.arr (intss (joinsL (L.getD i default)))⟩)]) [1,14,25] (fun zz=>(joinsL (L.getD i default)).length - zz.1) ⟨0,Nat.zero_le _,by first|trivial|simp⟩ ?_ ?_
          · exact Imp.au hX
          rintro ⟨b,hib,hwb⟩
          simp only [go_sem,simprocAttr]
          have hmb : (moU c (L.getD i default) (unitsL c (L.getD i default)) (joinsL (L.getD i default)) a b).length ≤ 40200:=by
            have h1:=moU_len (c:=c) (f:=(L.getD i default)) (U:=(unitsL c (L.getD i default))) (J:=(joinsL (L.getD i default))) (i:=a) (k:=b)
            have h2:=Nat.mul_le_mul (show a ≤ 200 by omega) hj1
            omega
          have hmt : (moA c L i ++ moU c (L.getD i default) (unitsL c (L.getD i default)) (joinsL (L.getD i default)) a b).length ≤ 8080200:=by
            have h2:=Nat.mul_le_mul (show i ≤ 200 by omega) (Nat.le_refl 40200)
            rw [List.length_append]
            omega
          rcases Nat.lt_or_ge b (joinsL (L.getD i default)).length with hlb | hgb
          · have jlb:=hjl b hlb
            have hlw:=sp_l16Laws hE2 (u:=(unitsL c (L.getD i default)).getD a []) (j:=(joinsL (L.getD i default)).getD b []) (by rw [es];exact hum a hla) (hjm b hlb)
            rw [es] at hlw
            by_cases hq : LawP c (L.getD i default) ((unitsL c (L.getD i default)).getD a []) ((joinsL (L.getD i default)).getD b [])
            · rw [dec_t hq] at hlw
              have hown:=sp_l15Own hB
              have e2:=moU_yes hlb hq
              have e3 : moA c L i ++ moU c (L.getD i default) (unitsL c (L.getD i default)) (joinsL (L.getD i default)) a (b + 1) = (moA c L i ++ moU c (L.getD i default) (unitsL c (L.getD i default)) (joinsL (L.getD i default)) a b) ++ [⟨(L.getD i default),(unitsL c (L.getD i default)).getD a [],(joinsL (L.getD i default)).getD b []⟩]:=by rw [e2,List.append_assoc]
              repeat' (first|(with_reducible first|refine V_seq ?_|refine V_block ?_|refine V_skip ?_|refine V_ret ?_|refine V_exit ?_)|((with_reducible refine V_cond ?_);simp only [go_sem,simprocAttr])|((first|refine V_region (by rw [hn];rfl) ?_|refine V_drawn hmix (by rw [hn];rfl) ?_);intro K hK)|((first|with_reducible refine evOps_n ?_|((with_reducible apply evOps_g);rfl)|with_reducible refine evOpsD_n ?_|((with_reducible apply evOpsD_g);rfl));intro K hK;simp (contextual:=true) only [go_sem,simprocAttr])|with_reducible refine evOps_nil ?_|((with_reducible refine evOpsD_nil ?_ ?_);kernel_rfl)|((with_reducible refine hK _ ?_);clear hK K)|(with_reducible first|refine And.intro ?_ ?_|refine nxt_n ?_|refine nxt_r ?_|refine nxt_e ?_|refine blk_n ?_|refine blk_r ?_|refine blk_same ?_|refine blk_other (by decide) ?_|refine noG_n ?_|refine noG_r ?_|refine noG_e ?_|refine inR_mk ?_ ?_)|((with_reducible refine evCall_at 141 ?_);refine EvCall.mk (hlw) cal_l16Laws [] [2,14,25] (by simp [go_sem] <;> (repeat' (first|rfl|constructor))) (by simp [go_sem] <;> (repeat' (first|rfl|constructor))) ?_;all_goals try simp only [go_sem,simprocAttr])|((with_reducible refine evCall_at 142 ?_);refine EvCall.mk (hown) cal_l15Own [(0,26),(1,27),(2,28),(3,29),(4,30),(5,31),(6,32),(7,33),(8,34),(9,35)] [2] (by simp [go_sem] <;> (repeat' (first|rfl|constructor))) (by simp [go_sem] <;> (repeat' (first|rfl|constructor))) ?_;all_goals try simp only [go_sem,simprocAttr])|((with_reducible refine evCall_at 119 ?_);refine EvCall.rq (a:=(sp_l01Own (l:=(unitsL c (L.getD i default)).getD a []) ?_)) (b:=cal_l01Own) (c:=?_);all_goals try simp only [go_sem,simprocAttr])|((with_reducible refine evCall_at 119 ?_);refine EvCall.rq (a:=(sp_l01Own (l:=(joinsL (L.getD i default)).getD b []) ?_)) (b:=cal_l01Own) (c:=?_);all_goals try simp only [go_sem,simprocAttr])|(refine fun (hc : (_ : Bool) = _)=>?_;try simp only [hcS] at hc))
              all_goals try exact om_
              · refine ⟨⟨b + 1,by omega,(by trivial)⟩,by simp only;omega,Imp.auto hX (by simp only [go_sem,simprocAttr,e3])⟩
            · rw [dec_f hq] at hlw
              have e2:=moU_no hlb hq
              repeat' (first|(with_reducible first|refine V_seq ?_|refine V_block ?_|refine V_skip ?_|refine V_ret ?_|refine V_exit ?_)|((with_reducible refine V_cond ?_);simp only [go_sem,simprocAttr])|((first|refine V_region (by rw [hn];rfl) ?_|refine V_drawn hmix (by rw [hn];rfl) ?_);intro K hK)|((first|with_reducible refine evOps_n ?_|((with_reducible apply evOps_g);rfl)|with_reducible refine evOpsD_n ?_|((with_reducible apply evOpsD_g);rfl));intro K hK;simp (contextual:=true) only [go_sem,simprocAttr])|with_reducible refine evOps_nil ?_|((with_reducible refine evOpsD_nil ?_ ?_);kernel_rfl)|((with_reducible refine hK _ ?_);clear hK K)|(with_reducible first|refine And.intro ?_ ?_|refine nxt_n ?_|refine nxt_r ?_|refine nxt_e ?_|refine blk_n ?_|refine blk_r ?_|refine blk_same ?_|refine blk_other (by decide) ?_|refine noG_n ?_|refine noG_r ?_|refine noG_e ?_|refine inR_mk ?_ ?_)|((with_reducible refine evCall_at 141 ?_);refine EvCall.mk (hlw) cal_l16Laws [] [2,14,25] (by simp [go_sem] <;> (repeat' (first|rfl|constructor))) (by simp [go_sem] <;> (repeat' (first|rfl|constructor))) ?_;all_goals try simp only [go_sem,simprocAttr])|(refine fun (hc : (_ : Bool) = _)=>?_;try simp only [hcS] at hc))
              all_goals try exact om_
              · refine ⟨⟨b + 1,by omega,(by trivial)⟩,by simp only;omega,Imp.auto hX (by simp only [go_sem,simprocAttr,e2])⟩
          · have eb : b = (joinsL (L.getD i default)).length:=by omega
            subst eb
            have e2:=moU_next (c:=c) (f:=(L.getD i default)) (U:=(unitsL c (L.getD i default))) (J:=(joinsL (L.getD i default))) (i:=a)
            repeat' (first|(with_reducible first|refine V_seq ?_|refine V_block ?_|refine V_skip ?_|refine V_ret ?_|refine V_exit ?_)|((with_reducible refine V_cond ?_);simp only [go_sem,simprocAttr])|((first|refine V_region (by rw [hn];rfl) ?_|refine V_drawn hmix (by rw [hn];rfl) ?_);intro K hK)|((first|with_reducible refine evOps_n ?_|((with_reducible apply evOps_g);rfl)|with_reducible refine evOpsD_n ?_|((with_reducible apply evOpsD_g);rfl));intro K hK;simp (contextual:=true) only [go_sem,simprocAttr])|with_reducible refine evOps_nil ?_|((with_reducible refine evOpsD_nil ?_ ?_);kernel_rfl)|((with_reducible refine hK _ ?_);clear hK K)|(with_reducible first|refine And.intro ?_ ?_|refine nxt_n ?_|refine nxt_r ?_|refine nxt_e ?_|refine blk_n ?_|refine blk_r ?_|refine blk_same ?_|refine blk_other (by decide) ?_|refine noG_n ?_|refine noG_r ?_|refine noG_e ?_|refine inR_mk ?_ ?_)|(refine fun (hc : (_ : Bool) = _)=>?_;try simp only [hcS] at hc))
            all_goals try exact om_
            · refine ⟨⟨a + 1,by omega,(by (trivial))⟩,by simp only;omega,Imp.auto hX (by simp only [go_sem,simprocAttr,e2])⟩
        · have ea : a = (unitsL c (L.getD i default)).length:=by omega
          subst ea
          have e4 : moA c L i ++ moU c (L.getD i default) (unitsL c (L.getD i default)) (joinsL (L.getD i default)) (unitsL c (L.getD i default)).length 0 = moA c L (i + 1):=by rw [e1];rfl
          repeat' (first|(with_reducible first|refine V_seq ?_|refine V_block ?_|refine V_skip ?_|refine V_ret ?_|refine V_exit ?_)|((with_reducible refine V_cond ?_);simp only [go_sem,simprocAttr])|((first|refine V_region (by rw [hn];rfl) ?_|refine V_drawn hmix (by rw [hn];rfl) ?_);intro K hK)|((first|with_reducible refine evOps_n ?_|((with_reducible apply evOps_g);rfl)|with_reducible refine evOpsD_n ?_|((with_reducible apply evOpsD_g);rfl));intro K hK;simp (contextual:=true) only [go_sem,simprocAttr])|with_reducible refine evOps_nil ?_|((with_reducible refine evOpsD_nil ?_ ?_);kernel_rfl)|((with_reducible refine hK _ ?_);clear hK K)|(with_reducible first|refine And.intro ?_ ?_|refine nxt_n ?_|refine nxt_r ?_|refine nxt_e ?_|refine blk_n ?_|refine blk_r ?_|refine blk_same ?_|refine blk_other (by decide) ?_|refine noG_n ?_|refine noG_r ?_|refine noG_e ?_|refine inR_mk ?_ ?_)|(refine fun (hc : (_ : Bool) = _)=>?_;try simp only [hcS] at hc))
          all_goals try exact om_
          · refine ⟨⟨i + 1,by omega,(by exact oks_succ hwi ⟨hu1,hj1⟩)⟩,by simp only;omega,Imp.auto hX (by simp only [go_sem,simprocAttr,e4])⟩
      · rcases ho with ⟨hy,_,_⟩|⟨_,rfl,rfl⟩
        · exact absurd (hy.2.2.1 i hli) ho1
        · repeat' (first|(rw [hpi];simp only [go_sem,simprocAttr])|(exfalso;omega)|(with_reducible first|refine V_seq ?_|refine V_block ?_|refine V_skip ?_|refine V_ret ?_|refine V_exit ?_)|((with_reducible refine V_cond ?_);simp only [go_sem,simprocAttr])|((first|refine V_region (by rw [hn];rfl) ?_|refine V_drawn hmix (by rw [hn];rfl) ?_);intro K hK)|((first|with_reducible refine evOps_n ?_|((with_reducible apply evOps_g);rfl)|with_reducible refine evOpsD_n ?_|((with_reducible apply evOpsD_g);rfl));intro K hK;simp (contextual:=true) only [go_sem,simprocAttr])|with_reducible refine evOps_nil ?_|((with_reducible refine evOpsD_nil ?_ ?_);kernel_rfl)|((with_reducible refine hK _ ?_);clear hK K)|(with_reducible first|refine And.intro ?_ ?_|refine nxt_n ?_|refine nxt_r ?_|refine nxt_e ?_|refine blk_n ?_|refine blk_r ?_|refine blk_same ?_|refine blk_other (by decide) ?_|refine noG_n ?_|refine noG_r ?_|refine noG_e ?_|refine inR_mk ?_ ?_)|((with_reducible refine evCall_at 139 ?_);refine EvCall.mk (hself) cal_l06Self [(0,4),(1,5),(2,6),(3,7),(4,8),(5,9),(6,10),(7,11),(8,12),(9,13)] [] (by simp [go_sem] <;> (repeat' (first|rfl|constructor))) (by simp [go_sem] <;> (repeat' (first|rfl|constructor))) ?_;all_goals try simp only [go_sem,simprocAttr])|((with_reducible refine (id ?_ : EvCall _ _ [.agg [_,.sl 4,_,_,_,_,_,_,_,_,_,_],_] _ _));refine EvCall.mk (hu) cal_l15Units [(0,14)] [4,5,6,7,8,9,10,11,12,13,2] (by simp [go_sem] <;> (repeat' (first|rfl|constructor))) (by simp [go_sem] <;> (repeat' (first|rfl|constructor))) ?_;all_goals try simp only [go_sem,simprocAttr])|((with_reducible refine evCall_at 140 ?_);refine EvCall.mk (htw) cal_l16Twice [(0,15),(1,16),(2,17),(3,18),(4,19),(5,20),(6,21),(7,22),(8,23),(9,24)] [2] (by simp [go_sem] <;> (repeat' (first|rfl|constructor))) (by simp [go_sem] <;> (repeat' (first|rfl|constructor))) ?_;all_goals try simp only [go_sem,simprocAttr])|((with_reducible refine (id ?_ : EvCall _ _ [.agg [_,.sl 15,_,_,_,_,_,_,_,_,_,_],_] _ _));refine EvCall.mk (hj) cal_l15Units [(0,25)] [15,16,17,18,19,20,21,22,23,24,2] (by simp [go_sem] <;> (repeat' (first|rfl|constructor))) (by simp [go_sem] <;> (repeat' (first|rfl|constructor))) ?_;all_goals try simp only [go_sem,simprocAttr])|(refine fun (hc : (_ : Bool) = _)=>?_;try simp only [hcS] at hc))
          all_goals try exact om_
          all_goals ((first|refine ret_auto ?_|refine ret_auto' ?_);simp only [go_sem,simprocAttr,Tryz.f101])
    · have ei : i = L.length:=by omega
      subst ei
      by_cases h200 : (moA c L L.length).length ≤ 200
      · rcases ho with ⟨_,rfl,rfl⟩|⟨hn2,_,_⟩
        · repeat' (first|(exfalso;omega)|(with_reducible first|refine V_seq ?_|refine V_block ?_|refine V_skip ?_|refine V_ret ?_|refine V_exit ?_)|((with_reducible refine V_cond ?_);simp only [go_sem,simprocAttr])|((first|refine V_region (by rw [hn];rfl) ?_|refine V_drawn hmix (by rw [hn];rfl) ?_);intro K hK)|((first|with_reducible refine evOps_n ?_|((with_reducible apply evOps_g);rfl)|with_reducible refine evOpsD_n ?_|((with_reducible apply evOpsD_g);rfl));intro K hK;simp (contextual:=true) only [go_sem,simprocAttr])|with_reducible refine evOps_nil ?_|((with_reducible refine evOpsD_nil ?_ ?_);kernel_rfl)|((with_reducible refine hK _ ?_);clear hK K)|(with_reducible first|refine And.intro ?_ ?_|refine nxt_n ?_|refine nxt_r ?_|refine nxt_e ?_|refine blk_n ?_|refine blk_r ?_|refine blk_same ?_|refine blk_other (by decide) ?_|refine noG_n ?_|refine noG_r ?_|refine noG_e ?_|refine inR_mk ?_ ?_)|(refine fun (hc : (_ : Bool) = _)=>?_;try simp only [hcS] at hc))
          all_goals try exact om_
          all_goals ((first|refine ret_auto ?_|refine ret_auto' ?_);simp only [go_sem,simprocAttr,Tryz.f101])
        · exact absurd ⟨h6,hL,hwi,h200⟩ hn2
      · rcases ho with ⟨hy,_,_⟩|⟨_,rfl,rfl⟩
        · exact absurd hy.2.2.2 h200
        · repeat' (first|(exfalso;omega)|(with_reducible first|refine V_seq ?_|refine V_block ?_|refine V_skip ?_|refine V_ret ?_|refine V_exit ?_)|((with_reducible refine V_cond ?_);simp only [go_sem,simprocAttr])|((first|refine V_region (by rw [hn];rfl) ?_|refine V_drawn hmix (by rw [hn];rfl) ?_);intro K hK)|((first|with_reducible refine evOps_n ?_|((with_reducible apply evOps_g);rfl)|with_reducible refine evOpsD_n ?_|((with_reducible apply evOpsD_g);rfl));intro K hK;simp (contextual:=true) only [go_sem,simprocAttr])|with_reducible refine evOps_nil ?_|((with_reducible refine evOpsD_nil ?_ ?_);kernel_rfl)|((with_reducible refine hK _ ?_);clear hK K)|(with_reducible first|refine And.intro ?_ ?_|refine nxt_n ?_|refine nxt_r ?_|refine nxt_e ?_|refine blk_n ?_|refine blk_r ?_|refine blk_same ?_|refine blk_other (by decide) ?_|refine noG_n ?_|refine noG_r ?_|refine noG_e ?_|refine inR_mk ?_ ?_)|(refine fun (hc : (_ : Bool) = _)=>?_;try simp only [hcS] at hc))
          all_goals try exact om_
          all_goals ((first|refine ret_auto ?_|refine ret_auto' ?_);simp only [go_sem,simprocAttr,Tryz.f101])
  · have lt : ((fcL c c).take 201).length = min 201 (fcL c c).length:=List.length_take
    rcases ho with ⟨ho,_,_⟩|⟨_,rfl,rfl⟩
    · exact absurd ho.2.1 hL
    · refine spec_of_V (E:=TE) 0 Tryz.func101 rfl (by simp [Tryz.f101]) fun X hn hX=>?_
      repeat' (first|(exfalso;omega)|(with_reducible first|refine V_seq ?_|refine V_block ?_|refine V_skip ?_|refine V_ret ?_|refine V_exit ?_)|((with_reducible refine V_cond ?_);simp only [go_sem,simprocAttr])|((first|refine V_region (by rw [hn];rfl) ?_|refine V_drawn hmix (by rw [hn];rfl) ?_);intro K hK)|((first|with_reducible refine evOps_n ?_|((with_reducible apply evOps_g);rfl)|with_reducible refine evOpsD_n ?_|((with_reducible apply evOpsD_g);rfl));intro K hK;simp (contextual:=true) only [go_sem,simprocAttr])|with_reducible refine evOps_nil ?_|((with_reducible refine evOpsD_nil ?_ ?_);kernel_rfl)|((with_reducible refine hK _ ?_);clear hK K)|(with_reducible first|refine And.intro ?_ ?_|refine nxt_n ?_|refine nxt_r ?_|refine nxt_e ?_|refine blk_n ?_|refine blk_r ?_|refine blk_same ?_|refine blk_other (by decide) ?_|refine noG_n ?_|refine noG_r ?_|refine noG_e ?_|refine inR_mk ?_ ?_)|((with_reducible refine evCall_at 107 ?_);refine EvCall.mk (hall) cal_l06All [(0,2)] [] (by simp [go_sem] <;> (repeat' (first|rfl|constructor))) (by simp [go_sem] <;> (repeat' (first|rfl|constructor))) ?_;all_goals try simp only [go_sem,simprocAttr])|(refine fun (hc : (_ : Bool) = _)=>?_;try simp only [hcS] at hc))
      all_goals try exact om_
      all_goals ((first|refine ret_auto ?_|refine ret_auto' ?_);simp only [go_sem,simprocAttr,Tryz.f101])
end Go.Eng
