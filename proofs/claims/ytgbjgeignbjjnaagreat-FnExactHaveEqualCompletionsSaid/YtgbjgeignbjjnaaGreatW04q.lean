/- Completions, by the reference. -/
import Derived.Test.YtgbjgeignbjjnaaGreatW03q
set_option linter.unusedSimpArgs false
set_option linter.unusedVariables false
set_option maxRecDepth 100000
set_option maxHeartbeats 16000000
namespace Go.Eng
open Go Go.Proofs Go.Cats
theorem tabR_zero (A : List (List Int)) (cp a) : tabR A cp a 0 = []:=rfl
theorem tabR_len {A : List (List Int)} {cp a b} : (tabR A cp a b).length = b:=by unfold tabR;rw [List.length_map,List.length_range]
theorem tabR_yes {A : List (List Int)} {cp : List Int → List Int → List Int} {a b : Nat} (h : (A.getD a []).getD 1 0 = (A.getD b []).getD 0 0) : tabR A cp a (b + 1) = tabR A cp a b ++ [fnd A (cp (A.getD a []) (A.getD b []))]:=by
  unfold tabR;rw [List.range_succ,List.map_append,List.map_singleton,if_pos h]
theorem tabR_no {A : List (List Int)} {cp : List Int → List Int → List Int} {a b : Nat} (h : ¬ (A.getD a []).getD 1 0 = (A.getD b []).getD 0 0) : tabR A cp a (b + 1) = tabR A cp a b ++ [-1]:=by
  unfold tabR;rw [List.range_succ,List.map_append,List.map_singleton,if_neg h]
def kR (c : Cat) (A : List (List Int)) (a : Nat) : List (List Int):=(List.range a).map fun a=>tabR A (koM c) a A.length
theorem kR_zero (c A) : kR c A 0 = []:=rfl
theorem kR_len {c A a} : (kR c A a).length = a:=by unfold kR;rw [List.length_map,List.length_range]
theorem kR_succ {c : Cat} {A : List (List Int)} {a : Nat} : kR c A (a + 1) = kR c A a ++ [tabR A (koM c) a A.length]:=by
  unfold kR;rw [List.range_succ,List.map_append,List.map_singleton]
def kJ (A : List (List Int)) (E : List Int) (i : Nat) : List Int:=(List.range i).map fun i=>fnd A (koU E i)
theorem kJ_zero (A E) : kJ A E 0 = []:=rfl
theorem kJ_len {A E i} : (kJ A E i).length = i:=by unfold kJ;rw [List.length_map,List.length_range]
theorem kJ_succ {A : List (List Int)} {E : List Int} {i : Nat} : kJ A E (i + 1) = kJ A E i ++ [fnd A [(i : Int),(i : Int),E.getD i 0]]:=by
  unfold kJ;rw [List.range_succ,List.map_append,List.map_singleton];rfl
instance {c : Cat} : Decidable (KoY c):=by unfold KoY;infer_instance
def _root_.Go.Cats.koK (c : Cat) : Cat:=⟨((koS c).length : Int),(koC c).fr,(koC c).to,(koC c).id,kR c (koT c) (if KoY c then (koT c).length else 0)⟩
theorem koK_yes {c : Cat} (h : KoY c) : koK c = koC c:=by unfold koK;rw [if_pos h];rfl
theorem koK_fr {c : Cat} : (koK c).fr.length = (koT c).length:=by show (List.map _ (koA c _)).length = _;rw [List.length_map];rfl
theorem kN_fr {c : Cat} : colN (koT c) 0 (koT c).length = (koC c).fr:=by
  unfold colN
  rw [List.take_length];rfl
theorem kN_to {c : Cat} : colN (koT c) 1 (koT c).length = (koC c).to:=by
  unfold colN
  rw [List.take_length];rfl
attribute [local go_sem] nilS_one List.set_cons_zero List.set_cons_succ koP_zero kJ_zero kR_zero tabR_zero
theorem cal_l11Complete : Callable Tryz.prog 12:=⟨_,Tryz.func12,rfl,rfl⟩
theorem sp_l11Complete {c : Cat} (sc : IsCat c) : Spec Tryz.prog 12 [catV c] [] (.tup [.agg [iv (koK c).ob,.sl 0,.sl 1,.sl 2,.sl 3],.sl 4]) [(0,⟨1,.arr (ints (koK c).fr)⟩),(1,⟨1,.arr (ints (koK c).to)⟩),(2,⟨1,.arr (ints (koK c).id)⟩),(3,⟨1,.arr (intss (koK c).co)⟩),(4,⟨1,.arr (intss (koT c))⟩)]:=by
  have sh:=sc.toShape
  have m40:=sh.m40
  have col:=sh.col
  have tol:=sh.tol
  have hid:=sp_l11Idempotents sh
  obtain ⟨E,hE⟩ : ∃ E,koS c = E:=⟨_,rfl⟩
  rw [show idemL c c.fr.length = E from hE] at hid
  have hEl : E.length ≤ c.fr.length:=by rw [← hE];exact koS_len
  have hEi : ∀ i,i < E.length → 0 ≤ E.getD i 0 ∧ E.getD i 0 < c.fr.length:=fun i hi=>by rw [← hE] at hi ⊢;exact koS_in hi
  have hEm : ∀ i,i < E.length → E.getD i 0 ∈ c.hom (c.fr.getD (E.getD i 0).toNat 0) (c.fr.getD (E.getD i 0).toNat 0):=fun i hi=>idem_hom sc (by rw [show idemL c c.fr.length = E from hE];exact getD_mem hi)
  refine spec_of_V (E:=TE) 0 Tryz.func12 rfl (by simp [Tryz.f12]) fun X hn hX=>?_
  repeat' (first|(with_reducible first|refine V_seq ?_|refine V_block ?_|refine V_skip ?_|refine V_ret ?_|refine V_exit ?_)|((with_reducible refine V_cond ?_);simp only [go_sem,simprocAttr])|((first|refine V_region (by rw [hn];rfl) ?_|refine V_drawn hmix (by rw [hn];rfl) ?_);intro K hK)|((first|with_reducible refine evOps_n ?_|((with_reducible apply evOps_g);rfl)|with_reducible refine evOpsD_n ?_|((with_reducible apply evOpsD_g);rfl));intro K hK;simp (contextual:=true) only [go_sem,simprocAttr])|with_reducible refine evOps_nil ?_|((with_reducible refine evOpsD_nil ?_ ?_);kernel_rfl)|((with_reducible refine hK _ ?_);clear hK K)|(with_reducible first|refine And.intro ?_ ?_|refine nxt_n ?_|refine nxt_r ?_|refine nxt_e ?_|refine blk_n ?_|refine blk_r ?_|refine blk_same ?_|refine blk_other (by decide) ?_|refine noG_n ?_|refine noG_r ?_|refine noG_e ?_|refine inR_mk ?_ ?_)|((with_reducible refine evCall_at 23 ?_);refine EvCall.mk (hid) cal_l11Idempotents [(0,2)] [] (by simp [go_sem] <;> (repeat' (first|rfl|constructor))) (by simp [go_sem] <;> (repeat' (first|rfl|constructor))) ?_;all_goals try simp only [go_sem,simprocAttr])|(refine fun (hc : (_ : Bool) = _)=>?_;try simp only [hcS] at hc))
  all_goals try exact om_
  refine V_loopK (G:={i : Nat // i ≤ E.length ∧ (True)}) (fun ⟨i,_⟩=>[(6,iv i),(5,.sl 3)]) [1,2,3,4] (fun ⟨i,_⟩=>[(3,⟨1,.arr (intss (koP c E i 0))⟩)]) [3] (fun zz=>E.length - zz.1) ⟨0,Nat.zero_le _,by first|trivial|simp⟩ ?_ ?_
  · exact Imp.auto hX (by simp [go_sem,simprocAttr,koP_zero])
  rintro ⟨i,hii,hwi⟩
  simp only [go_sem,simprocAttr]
  rcases Nat.lt_or_ge i E.length with hli | hgi
  · have ei:=hEi i hli
    repeat' (first|(with_reducible first|refine V_seq ?_|refine V_block ?_|refine V_skip ?_|refine V_ret ?_|refine V_exit ?_)|((with_reducible refine V_cond ?_);simp only [go_sem,simprocAttr])|((first|refine V_region (by rw [hn];rfl) ?_|refine V_drawn hmix (by rw [hn];rfl) ?_);intro K hK)|((first|with_reducible refine evOps_n ?_|((with_reducible apply evOps_g);rfl)|with_reducible refine evOpsD_n ?_|((with_reducible apply evOpsD_g);rfl));intro K hK;simp (contextual:=true) only [go_sem,simprocAttr])|with_reducible refine evOps_nil ?_|((with_reducible refine evOpsD_nil ?_ ?_);kernel_rfl)|((with_reducible refine hK _ ?_);clear hK K)|(with_reducible first|refine And.intro ?_ ?_|refine nxt_n ?_|refine nxt_r ?_|refine nxt_e ?_|refine blk_n ?_|refine blk_r ?_|refine blk_same ?_|refine blk_other (by decide) ?_|refine noG_n ?_|refine noG_r ?_|refine noG_e ?_|refine inR_mk ?_ ?_)|(refine fun (hc : (_ : Bool) = _)=>?_;try simp only [hcS] at hc))
    all_goals try exact om_
    refine V_loopK (G:={j : Nat // j ≤ E.length ∧ (True)}) (fun ⟨j,_⟩=>[(7,iv j),(5,.sl 3),(6,iv i)]) [1,2,3,4] (fun ⟨j,_⟩=>[(3,⟨1,.arr (intss (koP c E i j))⟩)]) [3] (fun zz=>E.length - zz.1) ⟨0,Nat.zero_le _,by first|trivial|simp⟩ ?_ ?_
    · exact Imp.au hX
    rintro ⟨j,hij,hwj⟩
    simp only [go_sem,simprocAttr]
    rcases Nat.lt_or_ge j E.length with hlj | hgj
    · have ej:=hEi j hlj
      have mi:=hEm i hli
      have mj:=hEm j hlj
      have hho:=sp_l02Hom (c:=c) (x:=c.fr.getD (E.getD i 0).toNat 0) (y:=c.fr.getD (E.getD j 0).toNat 0) (by omega) tol
      obtain ⟨H,hH⟩ : ∃ H,koH c E i j = H:=⟨_,rfl⟩
      rw [show c.hom (c.fr.getD (E.getD i 0).toNat 0) (c.fr.getD (E.getD j 0).toNat 0) = H from hH] at hho
      have hHl : H.length ≤ c.fr.length:=by rw [← hH];exact Cat.hom_len _ _ _
      obtain ⟨P,hP⟩ : ∃ P : Nat → List (List Int),∀ k,P k = koP c E i j ++ koF c E i j H k:=⟨_,fun _=>rfl⟩
      have hP0 : P 0 = koP c E i j:=by rw [hP,koF_zero,List.append_nil]
      have hPn : P H.length = koP c E i (j + 1):=by rw [hP,koP_succ,koE,hH]
      have hPl : ∀ k,k ≤ H.length → (P k).length ≤ 65640:=fun k hk=>by
        have h1:=koP_len (c:=c) (E:=E) (i:=i) (j:=j) (by omega) m40 (by omega) (by omega)
        have h2:=koF_len (c:=c) (E:=E) (i:=i) (j:=j) (C:=H) (k:=k)
        rw [hP,List.length_append];omega
      have hPs : ∀ k,k < H.length → P (k + 1) = P k ++ (if KoP c E i j (H.getD k 0) then [[(i : Int),(j : Int),H.getD k 0]] else []):=fun k hk=>by
        have:=koF_succ (c:=c) (E:=E) (i:=i) (j:=j) (k:=k) (by rw [hH];exact hk)
        rw [hH] at this
        rw [hP,hP,this,List.append_assoc]
      repeat' (first|(with_reducible first|refine V_seq ?_|refine V_block ?_|refine V_skip ?_|refine V_ret ?_|refine V_exit ?_)|((with_reducible refine V_cond ?_);simp only [go_sem,simprocAttr])|((first|refine V_region (by rw [hn];rfl) ?_|refine V_drawn hmix (by rw [hn];rfl) ?_);intro K hK)|((first|with_reducible refine evOps_n ?_|((with_reducible apply evOps_g);rfl)|with_reducible refine evOpsD_n ?_|((with_reducible apply evOpsD_g);rfl));intro K hK;simp (contextual:=true) only [go_sem,simprocAttr])|with_reducible refine evOps_nil ?_|((with_reducible refine evOpsD_nil ?_ ?_);kernel_rfl)|((with_reducible refine hK _ ?_);clear hK K)|(with_reducible first|refine And.intro ?_ ?_|refine nxt_n ?_|refine nxt_r ?_|refine nxt_e ?_|refine blk_n ?_|refine blk_r ?_|refine blk_same ?_|refine blk_other (by decide) ?_|refine noG_n ?_|refine noG_r ?_|refine noG_e ?_|refine inR_mk ?_ ?_)|((with_reducible refine evCall_at 24 ?_);refine EvCall.mk (hho) cal_l02Hom [(0,4)] [] (by simp [go_sem] <;> (repeat' (first|rfl|constructor))) (by simp [go_sem] <;> (repeat' (first|rfl|constructor))) ?_;all_goals try simp only [go_sem,simprocAttr])|(refine fun (hc : (_ : Bool) = _)=>?_;try simp only [hcS] at hc))
      all_goals try exact om_
      refine V_loopK (G:={k : Nat // k ≤ H.length ∧ (True)}) (fun ⟨k,_⟩=>[(9,iv k),(5,.sl 3),(6,iv i),(7,iv j),(8,.sl 4)]) [1,2,3,4] (fun ⟨k,_⟩=>[(3,⟨1,.arr (intss (P k))⟩)]) [3] (fun zz=>H.length - zz.1) ⟨0,Nat.zero_le _,by first|trivial|simp⟩ ?_ ?_
      · exact Imp.auto hX (by simp [go_sem,simprocAttr,hP0])
      rintro ⟨k,hik,hwk⟩
      simp only [go_sem,simprocAttr]
      rcases Nat.lt_or_ge k H.length with hlk | hgk
      · have hf : H.getD k 0 ∈ koH c E i j:=by rw [hH];exact getD_mem hlk
        have q1:=Cat.mem_hom.1 hf
        have h1:=hom_comp sc mi hf
        have q2:=Cat.mem_hom.1 h1
        have r1:=ko_rows sh (g:=E.getD i 0) ei.1 ei.2
        have r2:=ko_rows sh (g:=c.C (E.getD i 0) (H.getD k 0)) q2.1 q2.2.1
        have t1:=sp_l02Then (c:=c) (f:=E.getD i 0) (g:=H.getD k 0) ei.1 r1.1 q1.1 (by rw [r1.2];exact q1.2.1)
        have t2:=sp_l02Then (c:=c) (f:=c.C (E.getD i 0) (H.getD k 0)) (g:=E.getD j 0) q2.1 r2.1 ej.1 (by rw [r2.2];exact ej.2)
        have hpl:=hPl k hik
        have hps:=hPs k hlk
        repeat' (first|(with_reducible first|refine V_seq ?_|refine V_block ?_|refine V_skip ?_|refine V_ret ?_|refine V_exit ?_)|((with_reducible refine V_cond ?_);simp only [go_sem,simprocAttr])|((first|refine V_region (by rw [hn];rfl) ?_|refine V_drawn hmix (by rw [hn];rfl) ?_);intro K hK)|((first|with_reducible refine evOps_n ?_|((with_reducible apply evOps_g);rfl)|with_reducible refine evOpsD_n ?_|((with_reducible apply evOpsD_g);rfl));intro K hK;simp (contextual:=true) only [go_sem,simprocAttr])|with_reducible refine evOps_nil ?_|((with_reducible refine evOpsD_nil ?_ ?_);kernel_rfl)|((with_reducible refine hK _ ?_);clear hK K)|(with_reducible first|refine And.intro ?_ ?_|refine nxt_n ?_|refine nxt_r ?_|refine nxt_e ?_|refine blk_n ?_|refine blk_r ?_|refine blk_same ?_|refine blk_other (by decide) ?_|refine noG_n ?_|refine noG_r ?_|refine noG_e ?_|refine inR_mk ?_ ?_)|((with_reducible refine (id ?_ : EvCall _ _ [_,iv (E.getD i 0),_] _ _));refine EvCall.mk (t1) cal_l02Then [] [] (by simp [go_sem] <;> (repeat' (first|rfl|constructor))) (by simp [go_sem] <;> (repeat' (first|rfl|constructor))) ?_;all_goals try simp only [go_sem,simprocAttr])|((with_reducible refine (id ?_ : EvCall _ _ [_,iv (c.C _ _),_] _ _));refine EvCall.mk (t2) cal_l02Then [] [] (by simp [go_sem] <;> (repeat' (first|rfl|constructor))) (by simp [go_sem] <;> (repeat' (first|rfl|constructor))) ?_;all_goals try simp only [go_sem,simprocAttr])|(refine fun (hc : (_ : Bool) = _)=>?_;try simp only [hcS] at hc))
        all_goals try exact om_
        · rw [if_pos (by assumption)] at hps
          refine ⟨⟨k + 1,by omega,(by trivial)⟩,by simp only;omega,Imp.auto hX (by simp only [go_sem,simprocAttr,← hps])⟩
        · rw [if_neg (by assumption),List.append_nil] at hps
          refine ⟨⟨k + 1,by omega,(by trivial)⟩,by simp only;omega,Imp.auto hX (by simp only [go_sem,simprocAttr,← hps])⟩
      · have ek : k = H.length:=by omega
        subst ek
        rw [hPn]
        repeat' (first|(with_reducible first|refine V_seq ?_|refine V_block ?_|refine V_skip ?_|refine V_ret ?_|refine V_exit ?_)|((with_reducible refine V_cond ?_);simp only [go_sem,simprocAttr])|((first|refine V_region (by rw [hn];rfl) ?_|refine V_drawn hmix (by rw [hn];rfl) ?_);intro K hK)|((first|with_reducible refine evOps_n ?_|((with_reducible apply evOps_g);rfl)|with_reducible refine evOpsD_n ?_|((with_reducible apply evOpsD_g);rfl));intro K hK;simp (contextual:=true) only [go_sem,simprocAttr])|with_reducible refine evOps_nil ?_|((with_reducible refine evOpsD_nil ?_ ?_);kernel_rfl)|((with_reducible refine hK _ ?_);clear hK K)|(with_reducible first|refine And.intro ?_ ?_|refine nxt_n ?_|refine nxt_r ?_|refine nxt_e ?_|refine blk_n ?_|refine blk_r ?_|refine blk_same ?_|refine blk_other (by decide) ?_|refine noG_n ?_|refine noG_r ?_|refine noG_e ?_|refine inR_mk ?_ ?_)|(refine fun (hc : (_ : Bool) = _)=>?_;try simp only [hcS] at hc))
        all_goals try exact om_
        refine ⟨⟨j + 1,by omega,(by trivial)⟩,by simp only;omega,Imp.ao hX⟩
    · have ej : j = E.length:=by omega
      subst ej
      rw [koP_next]
      repeat' (first|(with_reducible first|refine V_seq ?_|refine V_block ?_|refine V_skip ?_|refine V_ret ?_|refine V_exit ?_)|((with_reducible refine V_cond ?_);simp only [go_sem,simprocAttr])|((first|refine V_region (by rw [hn];rfl) ?_|refine V_drawn hmix (by rw [hn];rfl) ?_);intro K hK)|((first|with_reducible refine evOps_n ?_|((with_reducible apply evOps_g);rfl)|with_reducible refine evOpsD_n ?_|((with_reducible apply evOpsD_g);rfl));intro K hK;simp (contextual:=true) only [go_sem,simprocAttr])|with_reducible refine evOps_nil ?_|((with_reducible refine evOpsD_nil ?_ ?_);kernel_rfl)|((with_reducible refine hK _ ?_);clear hK K)|(with_reducible first|refine And.intro ?_ ?_|refine nxt_n ?_|refine nxt_r ?_|refine nxt_e ?_|refine blk_n ?_|refine blk_r ?_|refine blk_same ?_|refine blk_other (by decide) ?_|refine noG_n ?_|refine noG_r ?_|refine noG_e ?_|refine inR_mk ?_ ?_)|(refine fun (hc : (_ : Bool) = _)=>?_;try simp only [hcS] at hc))
      all_goals try exact om_
      refine ⟨⟨i + 1,by omega,(by trivial)⟩,by simp only;omega,Imp.ao hX⟩
  · have ei : i = E.length:=by omega
    subst ei
    obtain ⟨A,hA⟩ : ∃ A,koT c = A:=⟨_,rfl⟩
    have hAE : koP c E E.length 0 = A:=by rw [← hA,← hE];rfl
    have hAl : A.length ≤ 65600:=by rw [← hAE];exact koP_len (by omega) m40 (by omega) (by omega)
    have hTri : TriA A c.fr.length:=by rw [← hA];exact ko_tri
    have l0 : Spec Tryz.prog 26 [.bor [] (intss A),.v (.int .i64 0)] [] (.sl 0) [(0,⟨1,.arr (ints (colN A 0 A.length))⟩)]:=sp_l09Column (l:=A) (k:=0) (by omega) (fun i hi=>by have:=(hTri i hi).1;omega)
    have l1 : Spec Tryz.prog 26 [.bor [] (intss A),.v (.int .i64 1)] [] (.sl 0) [(0,⟨1,.arr (ints (colN A 1 A.length))⟩)]:=sp_l09Column (l:=A) (k:=1) (by omega) (fun i hi=>by have:=(hTri i hi).1;omega)
    rw [hAE]
    repeat' (first|(with_reducible first|refine V_seq ?_|refine V_block ?_|refine V_skip ?_|refine V_ret ?_|refine V_exit ?_)|((with_reducible refine V_cond ?_);simp only [go_sem,simprocAttr])|((first|refine V_region (by rw [hn];rfl) ?_|refine V_drawn hmix (by rw [hn];rfl) ?_);intro K hK)|((first|with_reducible refine evOps_n ?_|((with_reducible apply evOps_g);rfl)|with_reducible refine evOpsD_n ?_|((with_reducible apply evOpsD_g);rfl));intro K hK;simp (contextual:=true) only [go_sem,simprocAttr])|with_reducible refine evOps_nil ?_|((with_reducible refine evOpsD_nil ?_ ?_);kernel_rfl)|((with_reducible refine hK _ ?_);clear hK K)|(with_reducible first|refine And.intro ?_ ?_|refine nxt_n ?_|refine nxt_r ?_|refine nxt_e ?_|refine blk_n ?_|refine blk_r ?_|refine blk_same ?_|refine blk_other (by decide) ?_|refine noG_n ?_|refine noG_r ?_|refine noG_e ?_|refine inR_mk ?_ ?_)|((with_reducible refine (id ?_ : EvCall _ _ [_,.v (.int _ 0)] _ _));refine EvCall.mk (l0) cal_l09Column [(0,4)] [3] (by simp [go_sem] <;> (repeat' (first|rfl|constructor))) (by simp [go_sem] <;> (repeat' (first|rfl|constructor))) ?_;all_goals try simp only [go_sem,simprocAttr])|((with_reducible refine (id ?_ : EvCall _ _ [_,.v (.int _ 1)] _ _));refine EvCall.mk (l1) cal_l09Column [(0,5)] [3] (by simp [go_sem] <;> (repeat' (first|rfl|constructor))) (by simp [go_sem] <;> (repeat' (first|rfl|constructor))) ?_;all_goals try simp only [go_sem,simprocAttr])|(refine fun (hc : (_ : Bool) = _)=>?_;try simp only [hcS] at hc))
    all_goals try exact om_
    have hR : ∀ i,i < A.length → (A.getD i []).length ≤ 1048576:=fun i hi=>by have:=(hTri i hi).1;omega
    refine V_loopK (G:={x : Nat // x ≤ E.length ∧ (True)}) (fun ⟨x,_⟩=>[(11,iv x)]) [1,2,3,4,5,10] (fun ⟨x,_⟩=>[(8,⟨1,.box [iv E.length,.sl 4,.sl 5,.sl 6,.sl 7]⟩),(6,⟨1,.arr (ints (kJ A E x))⟩),(7,⟨1,.arr (intss [])⟩)]) [6,7,8] (fun zz=>E.length - zz.1) ⟨0,Nat.zero_le _,by first|trivial|simp⟩ ?_ ?_
    · exact Imp.au hX
    rintro ⟨x,hix,hwx⟩
    simp only [go_sem,simprocAttr]
    have hjl:=kJ_len (A:=A) (E:=E) (i:=x)
    rcases Nat.lt_or_ge x E.length with hlx | hgx
    · have his:=kJ_succ (A:=A) (E:=E) (i:=x)
      have har:=sp_l09Find (l:=A) (r:=[(x : Int),(x : Int),E.getD x 0]) (by omega) (by simp) hR
      repeat' (first|(with_reducible first|refine V_seq ?_|refine V_block ?_|refine V_skip ?_|refine V_ret ?_|refine V_exit ?_)|((with_reducible refine V_cond ?_);simp only [go_sem,simprocAttr])|((first|refine V_region (by rw [hn];rfl) ?_|refine V_drawn hmix (by rw [hn];rfl) ?_);intro K hK)|((first|with_reducible refine evOps_n ?_|((with_reducible apply evOps_g);rfl)|with_reducible refine evOpsD_n ?_|((with_reducible apply evOpsD_g);rfl));intro K hK;simp (contextual:=true) only [go_sem,simprocAttr])|with_reducible refine evOps_nil ?_|((with_reducible refine evOpsD_nil ?_ ?_);kernel_rfl)|((with_reducible refine hK _ ?_);clear hK K)|(with_reducible first|refine And.intro ?_ ?_|refine nxt_n ?_|refine nxt_r ?_|refine nxt_e ?_|refine blk_n ?_|refine blk_r ?_|refine blk_same ?_|refine blk_other (by decide) ?_|refine noG_n ?_|refine noG_r ?_|refine noG_e ?_|refine inR_mk ?_ ?_)|((with_reducible refine evCall_at 27 ?_);refine EvCall.mk (har) cal_l09Find [] [3,9] (by simp [go_sem] <;> (repeat' (first|rfl|constructor))) (by simp [go_sem] <;> (repeat' (first|rfl|constructor))) ?_;all_goals try simp only [go_sem,simprocAttr])|(refine fun (hc : (_ : Bool) = _)=>?_;try simp only [hcS] at hc))
      all_goals try exact om_
      refine ⟨⟨x + 1,by omega,(by trivial)⟩,by simp only;omega,Imp.auto hX (by simp only [go_sem,simprocAttr,← his])⟩
    · have ex : x = E.length:=by omega
      subst ex
      have c0:=colN_len3 (A:=A) (i:=A.length) (j:=0) (Nat.le_refl _)
      repeat' (first|(with_reducible first|refine V_seq ?_|refine V_block ?_|refine V_skip ?_|refine V_ret ?_|refine V_exit ?_)|((with_reducible refine V_cond ?_);simp only [go_sem,simprocAttr])|((first|refine V_region (by rw [hn];rfl) ?_|refine V_drawn hmix (by rw [hn];rfl) ?_);intro K hK)|((first|with_reducible refine evOps_n ?_|((with_reducible apply evOps_g);rfl)|with_reducible refine evOpsD_n ?_|((with_reducible apply evOpsD_g);rfl));intro K hK;simp (contextual:=true) only [go_sem,simprocAttr])|with_reducible refine evOps_nil ?_|((with_reducible refine evOpsD_nil ?_ ?_);kernel_rfl)|((with_reducible refine hK _ ?_);clear hK K)|(with_reducible first|refine And.intro ?_ ?_|refine nxt_n ?_|refine nxt_r ?_|refine nxt_e ?_|refine blk_n ?_|refine blk_r ?_|refine blk_same ?_|refine blk_other (by decide) ?_|refine noG_n ?_|refine noG_r ?_|refine noG_e ?_|refine inR_mk ?_ ?_)|(refine fun (hc : (_ : Bool) = _)=>?_;try simp only [hcS] at hc))
      all_goals try exact om_
      by_cases hy : E.length ≤ 8 ∧ A.length ≤ 40
      · refine V_loopK (G:={a : Nat // a ≤ A.length ∧ (True)}) (fun ⟨a,_⟩=>[(12,iv a),(4,.sl 2)]) [1,2,3,5,10] (fun ⟨a,_⟩=>[(8,⟨1,.box [iv E.length,.sl 4,.sl 5,.sl 6,.sl 7]⟩),(6,⟨1,.arr (ints (kJ A E E.length))⟩),(7,⟨1,.arr (intss (kR c A a))⟩)]) [6,7,8] (fun zz=>A.length - zz.1) ⟨0,Nat.zero_le _,by first|trivial|simp⟩ ?_ ?_
        · exact Imp.au hX
        rintro ⟨a,hia,hwa⟩
        simp only [go_sem,simprocAttr]
        have hrl:=kR_len (c:=c) (A:=A) (a:=a)
        have hft:=sp_l02Fits (c:=⟨(E.length : Int),colN A 0 A.length,colN A 1 A.length,kJ A E E.length,kR c A a⟩) (by show (colN A 0 A.length).length ≤ _;omega)
        rw [dec_t (show (E.length : Int) ≤ 8 ∧ (colN A 0 A.length).length ≤ 40 by omega)] at hft
        rcases Nat.lt_or_ge a A.length with hla | hga
        · have ka:=hTri a hla
          repeat' (first|(with_reducible first|refine V_seq ?_|refine V_block ?_|refine V_skip ?_|refine V_ret ?_|refine V_exit ?_)|((with_reducible refine V_cond ?_);simp only [go_sem,simprocAttr])|((first|refine V_region (by rw [hn];rfl) ?_|refine V_drawn hmix (by rw [hn];rfl) ?_);intro K hK)|((first|with_reducible refine evOps_n ?_|((with_reducible apply evOps_g);rfl)|with_reducible refine evOpsD_n ?_|((with_reducible apply evOpsD_g);rfl));intro K hK;simp (contextual:=true) only [go_sem,simprocAttr])|with_reducible refine evOps_nil ?_|((with_reducible refine evOpsD_nil ?_ ?_);kernel_rfl)|((with_reducible refine hK _ ?_);clear hK K)|(with_reducible first|refine And.intro ?_ ?_|refine nxt_n ?_|refine nxt_r ?_|refine nxt_e ?_|refine blk_n ?_|refine blk_r ?_|refine blk_same ?_|refine blk_other (by decide) ?_|refine noG_n ?_|refine noG_r ?_|refine noG_e ?_|refine inR_mk ?_ ?_)|((with_reducible refine evCall_at 13 ?_);refine EvCall.mk (hft) cal_l02Fits [] [4,5,6,7] (by simp [go_sem] <;> (repeat' (first|rfl|constructor))) (by simp [go_sem] <;> (repeat' (first|rfl|constructor))) ?_;all_goals try simp only [go_sem,simprocAttr])|(refine fun (hc : (_ : Bool) = _)=>?_;try simp only [hcS] at hc))
          all_goals try exact om_
          refine V_loopK (G:={b : Nat // b ≤ A.length ∧ (True)}) (fun ⟨b,_⟩=>[(14,iv b),(4,.sl 2),(12,iv a),(13,.sl 9)]) [1,2,3,5,10,122,123] (fun ⟨b,_⟩=>[(8,⟨1,.box [iv E.length,.sl 4,.sl 5,.sl 6,.sl 7]⟩),(6,⟨1,.arr (ints (kJ A E E.length))⟩),(7,⟨1,.arr (intss (kR c A a))⟩),(9,⟨1,.arr (ints (tabR A (koM c) a b))⟩)]) [6,7,8,9] (fun zz=>A.length - zz.1) ⟨0,Nat.zero_le _,by first|trivial|simp⟩ ?_ ?_
          · exact Imp.au hX
          rintro ⟨b,hib,hwb⟩
          simp only [go_sem,simprocAttr]
          have tl:=tabR_len (A:=A) (cp:=koM c) (a:=a) (b:=b)
          rcases Nat.lt_or_ge b A.length with hlb | hgb
          · have kb:=hTri b hlb
            have r1:=ko_rows sh (g:=(A.getD a []).getD 2 0) ka.2.1 ka.2.2
            have t1:=sp_l02Then (c:=c) (f:=(A.getD a []).getD 2 0) (g:=(A.getD b []).getD 2 0) ka.2.1 r1.1 kb.2.1 (by rw [r1.2];exact kb.2.2)
            have har:=sp_l09Find (l:=A) (r:=[(A.getD a []).getD 0 0,(A.getD b []).getD 1 0,c.C ((A.getD a []).getD 2 0) ((A.getD b []).getD 2 0)]) (by omega) (by simp) hR
            repeat' (first|(with_reducible first|refine V_seq ?_|refine V_block ?_|refine V_skip ?_|refine V_ret ?_|refine V_exit ?_)|((with_reducible refine V_cond ?_);simp only [go_sem,simprocAttr])|((first|refine V_region (by rw [hn];rfl) ?_|refine V_drawn hmix (by rw [hn];rfl) ?_);intro K hK)|((first|with_reducible refine evOps_n ?_|((with_reducible apply evOps_g);rfl)|with_reducible refine evOpsD_n ?_|((with_reducible apply evOpsD_g);rfl));intro K hK;simp (contextual:=true) only [go_sem,simprocAttr])|with_reducible refine evOps_nil ?_|((with_reducible refine evOpsD_nil ?_ ?_);kernel_rfl)|((with_reducible refine hK _ ?_);clear hK K)|(with_reducible first|refine And.intro ?_ ?_|refine nxt_n ?_|refine nxt_r ?_|refine nxt_e ?_|refine blk_n ?_|refine blk_r ?_|refine blk_same ?_|refine blk_other (by decide) ?_|refine noG_n ?_|refine noG_r ?_|refine noG_e ?_|refine inR_mk ?_ ?_)|((with_reducible refine evCall_at 25 ?_);refine EvCall.mk (t1) cal_l02Then [] [] (by simp [go_sem] <;> (repeat' (first|rfl|constructor))) (by simp [go_sem] <;> (repeat' (first|rfl|constructor))) ?_;all_goals try simp only [go_sem,simprocAttr])|((with_reducible refine evCall_at 27 ?_);refine EvCall.mk (har) cal_l09Find [] [3,10] (by simp [go_sem] <;> (repeat' (first|rfl|constructor))) (by simp [go_sem] <;> (repeat' (first|rfl|constructor))) ?_;all_goals try simp only [go_sem,simprocAttr])|(refine fun (hc : (_ : Bool) = _)=>?_;try simp only [hcS] at hc))
            all_goals try exact om_
            · have e1:=tabR_yes (cp:=koM c) (by assumption : (A.getD a []).getD 1 0 = (A.getD b []).getD 0 0)
              rw [koM] at e1
              refine ⟨⟨b + 1,by omega,(by trivial)⟩,by simp only;omega,Imp.auto hX (by simp only [go_sem,simprocAttr,← e1])⟩
            · have e1:=tabR_no (cp:=koM c) (by assumption : ¬ (A.getD a []).getD 1 0 = (A.getD b []).getD 0 0)
              refine ⟨⟨b + 1,by omega,(by trivial)⟩,by simp only;omega,Imp.auto hX (by simp only [go_sem,simprocAttr,← e1])⟩
          · have eb : b = A.length:=by omega
            subst eb
            have e1:=kR_succ (c:=c) (A:=A) (a:=a)
            repeat' (first|(with_reducible first|refine V_seq ?_|refine V_block ?_|refine V_skip ?_|refine V_ret ?_|refine V_exit ?_)|((with_reducible refine V_cond ?_);simp only [go_sem,simprocAttr])|((first|refine V_region (by rw [hn];rfl) ?_|refine V_drawn hmix (by rw [hn];rfl) ?_);intro K hK)|((first|with_reducible refine evOps_n ?_|((with_reducible apply evOps_g);rfl)|with_reducible refine evOpsD_n ?_|((with_reducible apply evOpsD_g);rfl));intro K hK;simp (contextual:=true) only [go_sem,simprocAttr])|with_reducible refine evOps_nil ?_|((with_reducible refine evOpsD_nil ?_ ?_);kernel_rfl)|((with_reducible refine hK _ ?_);clear hK K)|(with_reducible first|refine And.intro ?_ ?_|refine nxt_n ?_|refine nxt_r ?_|refine nxt_e ?_|refine blk_n ?_|refine blk_r ?_|refine blk_same ?_|refine blk_other (by decide) ?_|refine noG_n ?_|refine noG_r ?_|refine noG_e ?_|refine inR_mk ?_ ?_)|(refine fun (hc : (_ : Bool) = _)=>?_;try simp only [hcS] at hc))
            all_goals try exact om_
            refine ⟨⟨a + 1,by omega,(by trivial)⟩,by simp only;omega,Imp.auto hX (by simp only [go_sem,simprocAttr,← e1])⟩
        · have ea : a = A.length:=by omega
          subst ea
          repeat' (first|(with_reducible first|refine V_seq ?_|refine V_block ?_|refine V_skip ?_|refine V_ret ?_|refine V_exit ?_)|((with_reducible refine V_cond ?_);simp only [go_sem,simprocAttr])|((first|refine V_region (by rw [hn];rfl) ?_|refine V_drawn hmix (by rw [hn];rfl) ?_);intro K hK)|((first|with_reducible refine evOps_n ?_|((with_reducible apply evOps_g);rfl)|with_reducible refine evOpsD_n ?_|((with_reducible apply evOpsD_g);rfl));intro K hK;simp (contextual:=true) only [go_sem,simprocAttr])|with_reducible refine evOps_nil ?_|((with_reducible refine evOpsD_nil ?_ ?_);kernel_rfl)|((with_reducible refine hK _ ?_);clear hK K)|(with_reducible first|refine And.intro ?_ ?_|refine nxt_n ?_|refine nxt_r ?_|refine nxt_e ?_|refine blk_n ?_|refine blk_r ?_|refine blk_same ?_|refine blk_other (by decide) ?_|refine noG_n ?_|refine noG_r ?_|refine noG_e ?_|refine inR_mk ?_ ?_)|((with_reducible refine evCall_at 13 ?_);refine EvCall.mk (hft) cal_l02Fits [] [4,5,6,7] (by simp [go_sem] <;> (repeat' (first|rfl|constructor))) (by simp [go_sem] <;> (repeat' (first|rfl|constructor))) ?_;all_goals try simp only [go_sem,simprocAttr])|(refine fun (hc : (_ : Bool) = _)=>?_;try simp only [hcS] at hc))
          all_goals try exact om_
          have hy2 : KoY c:=⟨by rw [hE];exact hy.1,by rw [hA];exact hy.2⟩
          have q0 : (koK c).co = kR c A A.length:=by unfold koK;rw [if_pos hy2,hA]
          have q1 : (koK c).fr = colN A 0 A.length:=by rw [← hA];exact kN_fr.symm
          have q2 : (koK c).to = colN A 1 A.length:=by rw [← hA];exact kN_to.symm
          have q3 : (koK c).id = kJ A E E.length:=by rw [← hA,← hE];rfl
          have q4 : (koK c).ob = E.length:=by rw [← hE];rfl
          rw [q0,q1,q2,q3,q4,hA]
          (first|refine ret_auto ?_|refine ret_auto' ?_);simp only [go_sem,simprocAttr,Tryz.f12]
      · have hft:=sp_l02Fits (c:=⟨(E.length : Int),colN A 0 A.length,colN A 1 A.length,kJ A E E.length,[]⟩) (by show (colN A 0 A.length).length ≤ _;omega)
        rw [dec_f (show ¬ ((E.length : Int) ≤ 8 ∧ (colN A 0 A.length).length ≤ 40) by omega)] at hft
        refine V_loopK (G:={a : Nat // a ≤ 0 ∧ (True)}) (fun ⟨a,_⟩=>[(12,iv a),(4,.sl 2)]) [1,2,3,5,10] (fun ⟨a,_⟩=>[(8,⟨1,.box [iv E.length,.sl 4,.sl 5,.sl 6,.sl 7]⟩),(6,⟨1,.arr (ints (kJ A E E.length))⟩),(7,⟨1,.arr (intss [])⟩)]) [6,7,8] (fun zz=>0 - zz.1) ⟨0,Nat.zero_le _,by first|trivial|simp⟩ ?_ ?_
        · exact Imp.au hX
        rintro ⟨a,hia,hwa⟩
        simp only [go_sem,simprocAttr]
        have ea : a = 0:=by omega
        subst ea
        have hy2 : ¬ KoY c:=fun h=>hy ⟨by rw [← hE];exact h.1,by rw [← hA];exact h.2⟩
        have q0 : (koK c).co = []:=by unfold koK;rw [if_neg hy2];rfl
        have q1 : (koK c).fr = colN A 0 A.length:=by rw [← hA];exact kN_fr.symm
        have q2 : (koK c).to = colN A 1 A.length:=by rw [← hA];exact kN_to.symm
        have q3 : (koK c).id = kJ A E E.length:=by rw [← hA,← hE];rfl
        have q4 : (koK c).ob = E.length:=by rw [← hE];rfl
        repeat' (first|(with_reducible first|refine V_seq ?_|refine V_block ?_|refine V_skip ?_|refine V_ret ?_|refine V_exit ?_)|((with_reducible refine V_cond ?_);simp only [go_sem,simprocAttr])|((first|refine V_region (by rw [hn];rfl) ?_|refine V_drawn hmix (by rw [hn];rfl) ?_);intro K hK)|((first|with_reducible refine evOps_n ?_|((with_reducible apply evOps_g);rfl)|with_reducible refine evOpsD_n ?_|((with_reducible apply evOpsD_g);rfl));intro K hK;simp (contextual:=true) only [go_sem,simprocAttr])|with_reducible refine evOps_nil ?_|((with_reducible refine evOpsD_nil ?_ ?_);kernel_rfl)|((with_reducible refine hK _ ?_);clear hK K)|(with_reducible first|refine And.intro ?_ ?_|refine nxt_n ?_|refine nxt_r ?_|refine nxt_e ?_|refine blk_n ?_|refine blk_r ?_|refine blk_same ?_|refine blk_other (by decide) ?_|refine noG_n ?_|refine noG_r ?_|refine noG_e ?_|refine inR_mk ?_ ?_)|((with_reducible refine evCall_at 13 ?_);refine EvCall.mk (hft) cal_l02Fits [] [4,5,6,7] (by simp [go_sem] <;> (repeat' (first|rfl|constructor))) (by simp [go_sem] <;> (repeat' (first|rfl|constructor))) ?_;all_goals try simp only [go_sem,simprocAttr])|(refine fun (hc : (_ : Bool) = _)=>?_;try simp only [hcS] at hc))
        all_goals try exact om_
        all_goals rw [q0,q1,q2,q3,q4,hA]
        all_goals ((first|refine ret_auto ?_|refine ret_auto' ?_);simp only [go_sem,simprocAttr,Tryz.f12])
end Go.Eng
