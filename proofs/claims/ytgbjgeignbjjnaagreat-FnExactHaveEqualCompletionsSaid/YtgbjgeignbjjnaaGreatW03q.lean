/- Completions, by the program. -/
import Derived.Test.YtgbjgeignbjjnaaGreatKatx
set_option linter.unusedSimpArgs false
set_option linter.unusedVariables false
set_option maxRecDepth 100000
set_option maxHeartbeats 16000000
namespace Go.Eng
open Go Go.Proofs Go.Cats
theorem Imp.adoptT {X : Cx} {tm : List (Nat × Sv)} {rs : List (Nat × Rs)} {nx : Nat} (i k cv : Nat) (cells : List Sv) (hi : rsL rs i = ⟨cv,.box cells⟩) (hk : cells[k]? = some (.v (.slice none 0 0))) (hf : rsL rs nx = ⟨0,.gone⟩) (hx : (X.rs0 nx).cv = 0) :
    Imp X ⟨tm,rs,nx⟩ ⟨tm,(i,⟨cv,.box (cells.set k (.sl nx))⟩) :: (nx,⟨1,.arr (triD [])⟩) :: rs,nx + 1⟩:=by
  have h:=Imp.adoptB (X:=X) (σ:=⟨tm,rs,nx⟩) i k 3 (.v (.int .i64 0)) cells (by decide) (by unfold Ss.get;rw [hi]) hk hf hx
  have e : ((⟨tm,rs,nx⟩ : Ss).get i).cv = cv:=by unfold Ss.get;rw [hi]
  rw [e] at h
  exact h
theorem nilS_one : (Value.slice none 0 0).oneCell' = true:=rfl
def koS (c : Cat) : List Int:=idemL c c.fr.length
def koT (c : Cat) : List (List Int):=koA c (koS c)
def KoY (c : Cat) : Prop:=(koS c).length ≤ 8 ∧ (koT c).length ≤ 40
section
variable {c : Cat} {E : List Int} {A : List (List Int)} {i j k : Nat}
theorem koE_len : (koE c E i j).length ≤ c.fr.length:=Nat.le_trans koF_len (Cat.hom_len _ _ _)
theorem koR_len : (koR c E i j).length ≤ j * c.fr.length:=coll_length_le fun _ _=>koE_len
theorem koP_len (hE : E.length ≤ 40) (hm : c.fr.length ≤ 40) (hi : i ≤ 40) (hj : j ≤ 40) : (koP c E i j).length ≤ 65600:=by
  unfold koP
  rw [List.length_append]
  have h1 : (koR c E i j).length ≤ 1600:=Nat.le_trans koR_len (Nat.mul_le_mul hj hm)
  have h2 : (coll i fun i=>koR c E i E.length).length ≤ 40 * 1600:=Nat.le_trans (coll_length_le fun _ _=>Nat.le_trans koR_len (Nat.mul_le_mul hE hm)) (Nat.mul_le_mul_right _ hi)
  omega
theorem koF_succ (hk : k < (koH c E i j).length) : koF c E i j (koH c E i j) (k + 1) = koF c E i j (koH c E i j) k ++ (if KoP c E i j ((koH c E i j).getD k 0) then [[(i : Int),(j : Int),(koH c E i j).getD k 0]] else []):=by
  by_cases h : KoP c E i j ((koH c E i j).getD k 0)
  · rw [if_pos h,koF_yes hk h]
  · rw [if_neg h,koF_no hk h,List.append_nil]
theorem colN_len3 (h : i ≤ A.length) : (colN A j i).length = i:=by unfold colN;rw [List.length_map,List.length_take];omega
theorem colN_at3 (h : i < A.length) : (colN A j A.length).getD i 0 = (A.getD i []).getD j 0:=by unfold colN;rw [List.take_length];exact rowsMap_at (f:=fun r=>r.getD j 0) h
def kI (A : List (List Int)) (E : List Int) (i : Nat) : List Int:=((List.range i).map fun i=>fnd A (koU E i)) ++ List.replicate (E.length - i) 0
theorem kI_zero : kI A E 0 = List.replicate E.length 0:=rfl
theorem kI_len (h : i ≤ E.length) : (kI A E i).length = E.length:=by unfold kI;rw [List.length_append,List.length_map,List.length_range,List.length_replicate];omega
theorem kI_set (h : i < E.length) : (kI A E i).set i (fnd A [(i : Int),(i : Int),E.getD i 0]) = kI A E (i + 1):=by
  have e : E.length - i = E.length - (i + 1) + 1:=by omega
  unfold kI
  rw [List.set_append_right _ _ (by rw [List.length_map,List.length_range];omega),List.length_map,List.length_range,Nat.sub_self,e,List.replicate_succ,List.set_cons_zero,List.range_succ,List.map_append,List.append_assoc];rfl
theorem kI_full : kI A E E.length = (List.range E.length).map fun i=>fnd A (koU E i):=by unfold kI;rw [Nat.sub_self,List.replicate_zero,List.append_nil]
theorem ko_fr : colN (koT c) 0 (koT c).length = (koC c).fr:=by unfold colN;rw [List.take_length];rfl
theorem ko_to : colN (koT c) 1 (koT c).length = (koC c).to:=by unfold colN;rw [List.take_length];rfl
theorem ko_id : kI (koT c) (koS c) (koS c).length = (koC c).id:=kI_full
theorem ko_co : tRows (colN (koT c) 0 (koT c).length) (colN (koT c) 1 (koT c).length) (fun a b=>fnd (koT c) (koM c ((koT c).getD a []) ((koT c).getD b []))) (koT c).length = (koC c).co:=by
  unfold tRows
  rw [colN_len3 (Nat.le_refl _)]
  show _ = (List.range (koT c).length).map fun a=>tabR (koT c) (koM c) a (koT c).length
  refine List.map_congr_left fun a ha=>List.map_congr_left fun b hb=>?_
  unfold tEnt
  rw [colN_at3 (List.mem_range.1 ha),colN_at3 (List.mem_range.1 hb)]
theorem ko_tri : TriA (koT c) c.fr.length:=fun a ha=>by
  obtain ⟨i,j,f,hi,hj,hf,_,e⟩:=mem_koA.1 (TabOK.mem (A:=koT c) ha)
  obtain ⟨f0,f1,_⟩:=Cat.mem_hom.1 hf
  rw [e]
  exact ⟨rfl,f0,f1⟩
theorem koS_in (h : i < (koS c).length) : 0 ≤ (koS c).getD i 0 ∧ (koS c).getD i 0 < c.fr.length:=by
  have:=mem_idemL.1 (getD_mem (d:=0) h)
  exact ⟨this.1,this.2.1⟩
theorem koS_len : (koS c).length ≤ c.fr.length:=idemL_len
end
def KoO (c : Cat) (r : Sv) (L1 : List (Nat × Rs)) : Prop:=(KoY c ∧ r = .tup [.ptr 0 0,.v (.bool true)] ∧ L1 = [(0,⟨1,.box [iv ((koS c).length : Int),.sl 1,.sl 2,.sl 3,.sl 4,.sl 5,.sl 6]⟩),(1,⟨1,.arr (ints (koC c).fr)⟩),(2,⟨1,.arr (ints (koC c).to)⟩),(3,⟨1,.arr (ints (koC c).id)⟩),(4,⟨1,.arr (intss (koC c).co)⟩),(5,⟨1,.arr (ints (koS c))⟩),(6,⟨1,.arr (triD (koT c))⟩)]) ∨ (¬ KoY c ∧ r = .tup [.v (.pointer none),.v (.bool false)] ∧ L1 = [])
attribute [local go_sem] triC nilS_one List.set_cons_zero List.set_cons_succ colN_zero kI_zero koP_zero
theorem cal_Category_completed : Callable Tryz.prog 18:=⟨_,Tryz.func18,rfl,rfl⟩
theorem sp_Category_completed_o {c : Cat} {r : Sv} {L1 : List (Nat × Rs)} (sc : IsCat c) (ho : KoO c r L1) : Spec Tryz.prog 18 [.bptr [] (catD c)] [] r L1:=by
  have sh:=sc.toShape
  have m40:=sh.m40
  have col:=sh.col
  have tol:=sh.tol
  have hid:=sp_Category_idempotents sh
  obtain ⟨E,hE⟩ : ∃ E,koS c = E:=⟨_,rfl⟩
  rw [show idemL c c.fr.length = E from hE] at hid
  have hEl : E.length ≤ c.fr.length:=by rw [← hE];exact koS_len
  have hEi : ∀ i,i < E.length → 0 ≤ E.getD i 0 ∧ E.getD i 0 < c.fr.length:=fun i hi=>by rw [← hE] at hi ⊢;exact koS_in hi
  have hEm : ∀ i,i < E.length → E.getD i 0 ∈ c.hom (c.fr.getD (E.getD i 0).toNat 0) (c.fr.getD (E.getD i 0).toNat 0):=fun i hi=>idem_hom sc (by rw [show idemL c c.fr.length = E from hE];exact getD_mem hi)
  refine spec_of_V (E:=TE) 0 Tryz.func18 rfl (by simp [Tryz.f18]) fun X hn hX=>?_
  repeat' (first|(refine V_at 4 (Imp.adoptT 2 6 _ _ rfl rfl rfl (by rw [hX];rfl)) ?_;simp only [List.set_cons_succ,List.set_cons_zero])|(with_reducible first|refine V_seq ?_|refine V_block ?_|refine V_skip ?_|refine V_ret ?_|refine V_exit ?_)|((with_reducible refine V_cond ?_);simp only [go_sem,simprocAttr])|((first|refine V_region (by rw [hn];rfl) ?_|refine V_drawn hmix (by rw [hn];rfl) ?_);intro K hK)|((first|with_reducible refine evOps_n ?_|((with_reducible apply evOps_g);rfl)|with_reducible refine evOpsD_n ?_|((with_reducible apply evOpsD_g);rfl));intro K hK;simp (contextual:=true) only [go_sem,simprocAttr])|with_reducible refine evOps_nil ?_|((with_reducible refine evOpsD_nil ?_ ?_);kernel_rfl)|((with_reducible refine hK _ ?_);clear hK K)|(with_reducible first|refine And.intro ?_ ?_|refine nxt_n ?_|refine nxt_r ?_|refine nxt_e ?_|refine blk_n ?_|refine blk_r ?_|refine blk_same ?_|refine blk_other (by decide) ?_|refine noG_n ?_|refine noG_r ?_|refine noG_e ?_|refine inR_mk ?_ ?_)|((with_reducible refine evCall_at 31 ?_);refine EvCall.mk (hid) cal_Category_idempotents [(0,1)] [] (by simp [go_sem] <;> (repeat' (first|rfl|constructor))) (by simp [go_sem] <;> (repeat' (first|rfl|constructor))) ?_;all_goals try simp only [go_sem,simprocAttr])|(refine fun (hc : (_ : Bool) = _)=>?_;try simp only [hcS] at hc))
  all_goals try exact om_
  · rcases ho with ⟨hy,_,_⟩|⟨_,rfl,rfl⟩
    · exact absurd hy.1 (by rw [hE];omega)
    · (first|refine ret_auto ?_|refine ret_auto' ?_);simp only [go_sem,simprocAttr,Tryz.f18]
  refine V_loopK (G:={i : Nat // i ≤ E.length ∧ (True)}) (fun ⟨i,_⟩=>[(30,iv i)]) [1,2,3,4,28,29] (fun ⟨i,_⟩=>[(2,⟨1,.box [iv 0,.v (.slice none 0 0),.v (.slice none 0 0),.v (.slice none 0 0),.v (.slice none 0 0),.sl 1,.sl 4]⟩),(4,⟨1,.arr (triD (koP c E i 0))⟩)]) [2,4] (fun zz=>E.length - zz.1) ⟨0,Nat.zero_le _,by first|trivial|simp⟩ ?_ ?_
  · exact Imp.auto hX (by simp [go_sem,simprocAttr,koP_zero])
  rintro ⟨i,hii,hwi⟩
  simp only [go_sem,simprocAttr]
  rcases Nat.lt_or_ge i E.length with hli | hgi
  · have ei:=hEi i hli
    repeat' (first|(with_reducible first|refine V_seq ?_|refine V_block ?_|refine V_skip ?_|refine V_ret ?_|refine V_exit ?_)|((with_reducible refine V_cond ?_);simp only [go_sem,simprocAttr])|((first|refine V_region (by rw [hn];rfl) ?_|refine V_drawn hmix (by rw [hn];rfl) ?_);intro K hK)|((first|with_reducible refine evOps_n ?_|((with_reducible apply evOps_g);rfl)|with_reducible refine evOpsD_n ?_|((with_reducible apply evOpsD_g);rfl));intro K hK;simp (contextual:=true) only [go_sem,simprocAttr])|with_reducible refine evOps_nil ?_|((with_reducible refine evOpsD_nil ?_ ?_);kernel_rfl)|((with_reducible refine hK _ ?_);clear hK K)|(with_reducible first|refine And.intro ?_ ?_|refine nxt_n ?_|refine nxt_r ?_|refine nxt_e ?_|refine blk_n ?_|refine blk_r ?_|refine blk_same ?_|refine blk_other (by decide) ?_|refine noG_n ?_|refine noG_r ?_|refine noG_e ?_|refine inR_mk ?_ ?_)|(refine fun (hc : (_ : Bool) = _)=>?_;try simp only [hcS] at hc))
    all_goals try exact om_
    refine V_loopK (G:={j : Nat // j ≤ E.length ∧ (True)}) (fun ⟨j,_⟩=>[(40,iv j),(5,iv i),(6,iv (E.getD i 0))]) [1,2,3,4,28,29,30,38,39] (fun ⟨j,_⟩=>[(2,⟨1,.box [iv 0,.v (.slice none 0 0),.v (.slice none 0 0),.v (.slice none 0 0),.v (.slice none 0 0),.sl 1,.sl 4]⟩),(4,⟨1,.arr (triD (koP c E i j))⟩)]) [2,4] (fun zz=>E.length - zz.1) ⟨0,Nat.zero_le _,by first|trivial|simp⟩ ?_ ?_
    · exact Imp.au hX
    rintro ⟨j,hij,hwj⟩
    simp only [go_sem,simprocAttr]
    rcases Nat.lt_or_ge j E.length with hlj | hgj
    · have ej:=hEi j hlj
      have mi:=hEm i hli
      have mj:=hEm j hlj
      have hho:=sp_Category_hom (c:=c) (x:=c.fr.getD (E.getD i 0).toNat 0) (y:=c.fr.getD (E.getD j 0).toNat 0) (by omega) tol
      obtain ⟨H,hH⟩ : ∃ H,koH c E i j = H:=⟨_,rfl⟩
      rw [show c.hom (c.fr.getD (E.getD i 0).toNat 0) (c.fr.getD (E.getD j 0).toNat 0) = H from hH] at hho
      have hHl : H.length ≤ c.fr.length:=by rw [← hH];exact Cat.hom_len _ _ _
      obtain ⟨P,hP⟩ : ∃ P : Nat → List (List Int),∀ k,P k = koP c E i j ++ koF c E i j H k:=⟨_,fun _=>rfl⟩
      have hP0 : P 0 = koP c E i j:=by rw [hP,koF_zero,List.append_nil]
      have hPn : P H.length = koP c E i (j + 1):=by rw [hP,koP_succ,koE,hH]
      have hPl : ∀ k,k ≤ H.length → (P k).length ≤ 65640:=fun k hk=>by
        have h1:=koP_len (c:=c) (E:=E) (i:=i) (j:=j) (by omega) m40 (by omega) (by omega)
        have h2:=koF_len (c:=c) (E:=E) (i:=i) (j:=j) (C:=H) (k:=k)
        rw [hP,List.length_append];omega
      have hPs : ∀ k,k < H.length → P (k + 1) = P k ++ (if KoP c E i j (H.getD k 0) then [[(i : Int),(j : Int),H.getD k 0]] else []):=fun k hk=>by
        have:=koF_succ (c:=c) (E:=E) (i:=i) (j:=j) (k:=k) (by rw [hH];exact hk)
        rw [hH] at this
        rw [hP,hP,this,List.append_assoc]
      repeat' (first|(with_reducible first|refine V_seq ?_|refine V_block ?_|refine V_skip ?_|refine V_ret ?_|refine V_exit ?_)|((with_reducible refine V_cond ?_);simp only [go_sem,simprocAttr])|((first|refine V_region (by rw [hn];rfl) ?_|refine V_drawn hmix (by rw [hn];rfl) ?_);intro K hK)|((first|with_reducible refine evOps_n ?_|((with_reducible apply evOps_g);rfl)|with_reducible refine evOpsD_n ?_|((with_reducible apply evOpsD_g);rfl));intro K hK;simp (contextual:=true) only [go_sem,simprocAttr])|with_reducible refine evOps_nil ?_|((with_reducible refine evOpsD_nil ?_ ?_);kernel_rfl)|((with_reducible refine hK _ ?_);clear hK K)|(with_reducible first|refine And.intro ?_ ?_|refine nxt_n ?_|refine nxt_r ?_|refine nxt_e ?_|refine blk_n ?_|refine blk_r ?_|refine blk_same ?_|refine blk_other (by decide) ?_|refine noG_n ?_|refine noG_r ?_|refine noG_e ?_|refine inR_mk ?_ ?_)|((with_reducible refine evCall_at 32 ?_);refine EvCall.mk (hho) cal_Category_hom [(0,5)] [] (by simp [go_sem] <;> (repeat' (first|rfl|constructor))) (by simp [go_sem] <;> (repeat' (first|rfl|constructor))) ?_;all_goals try simp only [go_sem,simprocAttr])|(refine fun (hc : (_ : Bool) = _)=>?_;try simp only [hcS] at hc))
      all_goals try exact om_
      refine V_loopK (G:={k : Nat // k ≤ H.length ∧ (True)}) (fun ⟨k,_⟩=>[(62,iv k),(5,iv i),(6,iv (E.getD i 0)),(7,iv j),(8,iv (E.getD j 0))]) [1,2,3,4,28,29,30,38,39,40,60,61] (fun ⟨k,_⟩=>[(2,⟨1,.box [iv 0,.v (.slice none 0 0),.v (.slice none 0 0),.v (.slice none 0 0),.v (.slice none 0 0),.sl 1,.sl 4]⟩),(4,⟨1,.arr (triD (P k))⟩)]) [2,4] (fun zz=>H.length - zz.1) ⟨0,Nat.zero_le _,by first|trivial|simp⟩ ?_ ?_
      · exact Imp.auto hX (by simp [go_sem,simprocAttr,hP0])
      rintro ⟨k,hik,hwk⟩
      simp only [go_sem,simprocAttr]
      rcases Nat.lt_or_ge k H.length with hlk | hgk
      · have hf : H.getD k 0 ∈ koH c E i j:=by rw [hH];exact getD_mem hlk
        have q1:=Cat.mem_hom.1 hf
        have h1:=hom_comp sc mi hf
        have q2:=Cat.mem_hom.1 h1
        have r1:=ko_rows sh (g:=E.getD i 0) ei.1 ei.2
        have r2:=ko_rows sh (g:=c.C (E.getD i 0) (H.getD k 0)) q2.1 q2.2.1
        have t1:=sp_Category_then (c:=c) (f:=E.getD i 0) (g:=H.getD k 0) ei.1 r1.1 q1.1 (by rw [r1.2];exact q1.2.1)
        have t2:=sp_Category_then (c:=c) (f:=c.C (E.getD i 0) (H.getD k 0)) (g:=E.getD j 0) q2.1 r2.1 ej.1 (by rw [r2.2];exact ej.2)
        have hpl:=hPl k hik
        have hps:=hPs k hlk
        repeat' (first|(with_reducible first|refine V_seq ?_|refine V_block ?_|refine V_skip ?_|refine V_ret ?_|refine V_exit ?_)|((with_reducible refine V_cond ?_);simp only [go_sem,simprocAttr])|((first|refine V_region (by rw [hn];rfl) ?_|refine V_drawn hmix (by rw [hn];rfl) ?_);intro K hK)|((first|with_reducible refine evOps_n ?_|((with_reducible apply evOps_g);rfl)|with_reducible refine evOpsD_n ?_|((with_reducible apply evOpsD_g);rfl));intro K hK;simp (contextual:=true) only [go_sem,simprocAttr])|with_reducible refine evOps_nil ?_|((with_reducible refine evOpsD_nil ?_ ?_);kernel_rfl)|((with_reducible refine hK _ ?_);clear hK K)|(with_reducible first|refine And.intro ?_ ?_|refine nxt_n ?_|refine nxt_r ?_|refine nxt_e ?_|refine blk_n ?_|refine blk_r ?_|refine blk_same ?_|refine blk_other (by decide) ?_|refine noG_n ?_|refine noG_r ?_|refine noG_e ?_|refine inR_mk ?_ ?_)|((with_reducible refine (id ?_ : EvCall _ _ [_,iv (E.getD i 0),_] _ _));refine EvCall.mk (t1) cal_Category_then [] [] (by simp [go_sem] <;> (repeat' (first|rfl|constructor))) (by simp [go_sem] <;> (repeat' (first|rfl|constructor))) ?_;all_goals try simp only [go_sem,simprocAttr])|((with_reducible refine (id ?_ : EvCall _ _ [_,iv (c.C _ _),_] _ _));refine EvCall.mk (t2) cal_Category_then [] [] (by simp [go_sem] <;> (repeat' (first|rfl|constructor))) (by simp [go_sem] <;> (repeat' (first|rfl|constructor))) ?_;all_goals try simp only [go_sem,simprocAttr])|(refine fun (hc : (_ : Bool) = _)=>?_;try simp only [hcS] at hc))
        all_goals try exact om_
        · rw [if_pos (by assumption)] at hps
          refine ⟨⟨k + 1,by omega,(by trivial)⟩,by simp only;omega,Imp.auto hX (by simp only [go_sem,simprocAttr,← hps])⟩
        · rw [if_neg (by assumption),List.append_nil] at hps
          refine ⟨⟨k + 1,by omega,(by trivial)⟩,by simp only;omega,Imp.auto hX (by simp only [go_sem,simprocAttr,← hps])⟩
      · have ek : k = H.length:=by omega
        subst ek
        rw [hPn]
        repeat' (first|(with_reducible first|refine V_seq ?_|refine V_block ?_|refine V_skip ?_|refine V_ret ?_|refine V_exit ?_)|((with_reducible refine V_cond ?_);simp only [go_sem,simprocAttr])|((first|refine V_region (by rw [hn];rfl) ?_|refine V_drawn hmix (by rw [hn];rfl) ?_);intro K hK)|((first|with_reducible refine evOps_n ?_|((with_reducible apply evOps_g);rfl)|with_reducible refine evOpsD_n ?_|((with_reducible apply evOpsD_g);rfl));intro K hK;simp (contextual:=true) only [go_sem,simprocAttr])|with_reducible refine evOps_nil ?_|((with_reducible refine evOpsD_nil ?_ ?_);kernel_rfl)|((with_reducible refine hK _ ?_);clear hK K)|(with_reducible first|refine And.intro ?_ ?_|refine nxt_n ?_|refine nxt_r ?_|refine nxt_e ?_|refine blk_n ?_|refine blk_r ?_|refine blk_same ?_|refine blk_other (by decide) ?_|refine noG_n ?_|refine noG_r ?_|refine noG_e ?_|refine inR_mk ?_ ?_)|(refine fun (hc : (_ : Bool) = _)=>?_;try simp only [hcS] at hc))
        all_goals try exact om_
        refine ⟨⟨j + 1,by omega,(by trivial)⟩,by simp only;omega,Imp.ao hX⟩
    · have ej : j = E.length:=by omega
      subst ej
      rw [koP_next]
      repeat' (first|(with_reducible first|refine V_seq ?_|refine V_block ?_|refine V_skip ?_|refine V_ret ?_|refine V_exit ?_)|((with_reducible refine V_cond ?_);simp only [go_sem,simprocAttr])|((first|refine V_region (by rw [hn];rfl) ?_|refine V_drawn hmix (by rw [hn];rfl) ?_);intro K hK)|((first|with_reducible refine evOps_n ?_|((with_reducible apply evOps_g);rfl)|with_reducible refine evOpsD_n ?_|((with_reducible apply evOpsD_g);rfl));intro K hK;simp (contextual:=true) only [go_sem,simprocAttr])|with_reducible refine evOps_nil ?_|((with_reducible refine evOpsD_nil ?_ ?_);kernel_rfl)|((with_reducible refine hK _ ?_);clear hK K)|(with_reducible first|refine And.intro ?_ ?_|refine nxt_n ?_|refine nxt_r ?_|refine nxt_e ?_|refine blk_n ?_|refine blk_r ?_|refine blk_same ?_|refine blk_other (by decide) ?_|refine noG_n ?_|refine noG_r ?_|refine noG_e ?_|refine inR_mk ?_ ?_)|(refine fun (hc : (_ : Bool) = _)=>?_;try simp only [hcS] at hc))
      all_goals try exact om_
      refine ⟨⟨i + 1,by omega,(by trivial)⟩,by simp only;omega,Imp.ao hX⟩
  · have ei : i = E.length:=by omega
    subst ei
    obtain ⟨A,hA⟩ : ∃ A,koT c = A:=⟨_,rfl⟩
    have hAE : koP c E E.length 0 = A:=by rw [← hA,← hE];rfl
    have hAl : A.length ≤ 65600:=by rw [← hAE];exact koP_len (by omega) m40 (by omega) (by omega)
    rw [hAE]
    repeat' (first|(refine V_at 21 (Imp.adoptI 2 1 _ _ rfl rfl rfl (by rw [hX];rfl)) ?_;refine V_at 21 (Imp.adoptI 2 2 _ _ rfl rfl rfl (by rw [hX];rfl)) ?_;simp only [List.set_cons_succ,List.set_cons_zero])|(with_reducible first|refine V_seq ?_|refine V_block ?_|refine V_skip ?_|refine V_ret ?_|refine V_exit ?_)|((with_reducible refine V_cond ?_);simp only [go_sem,simprocAttr])|((first|refine V_region (by rw [hn];rfl) ?_|refine V_drawn hmix (by rw [hn];rfl) ?_);intro K hK)|((first|with_reducible refine evOps_n ?_|((with_reducible apply evOps_g);rfl)|with_reducible refine evOpsD_n ?_|((with_reducible apply evOpsD_g);rfl));intro K hK;simp (contextual:=true) only [go_sem,simprocAttr])|with_reducible refine evOps_nil ?_|((with_reducible refine evOpsD_nil ?_ ?_);kernel_rfl)|((with_reducible refine hK _ ?_);clear hK K)|(with_reducible first|refine And.intro ?_ ?_|refine nxt_n ?_|refine nxt_r ?_|refine nxt_e ?_|refine blk_n ?_|refine blk_r ?_|refine blk_same ?_|refine blk_other (by decide) ?_|refine noG_n ?_|refine noG_r ?_|refine noG_e ?_|refine inR_mk ?_ ?_)|(refine fun (hc : (_ : Bool) = _)=>?_;try simp only [hcS] at hc))
    all_goals try exact om_
    · rcases ho with ⟨hy,_,_⟩|⟨_,rfl,rfl⟩
      · exact absurd hy.2 (by rw [hA];omega)
      · (first|refine ret_auto ?_|refine ret_auto' ?_);simp only [go_sem,simprocAttr,Tryz.f18]
    have hTri : TriA A c.fr.length:=by rw [← hA];exact ko_tri
    refine V_loopK (G:={a : Nat // a ≤ A.length ∧ (True)}) (fun ⟨a,_⟩=>[(117,iv a)]) [1,2,3,4,115,116] (fun ⟨a,_⟩=>[(2,⟨1,.box [iv E.length,.sl 6,.sl 7,.sl 5,.v (.slice none 0 0),.sl 1,.sl 4]⟩),(4,⟨1,.arr (triD A)⟩),(5,⟨1,.arr (ints (List.replicate E.length 0))⟩),(6,⟨1,.arr (ints (colN A 0 a))⟩),(7,⟨1,.arr (ints (colN A 1 a))⟩)]) [2,4,5,6,7] (fun zz=>A.length - zz.1) ⟨0,Nat.zero_le _,by first|trivial|simp⟩ ?_ ?_
    · exact Imp.au hX
    rintro ⟨a,hia,hwa⟩
    simp only [go_sem,simprocAttr]
    have c0:=colN_len3 (A:=A) (i:=a) (j:=0) hia
    have c1:=colN_len3 (A:=A) (i:=a) (j:=1) hia
    rcases Nat.lt_or_ge a A.length with hla | hga
    · have pa:=tri_part A a hla
      have e0:=colN_succ (k:=0) hla
      have e1:=colN_succ (k:=1) hla
      repeat' (first|(rw [pa];simp only [go_sem,simprocAttr])|(with_reducible first|refine V_seq ?_|refine V_block ?_|refine V_skip ?_|refine V_ret ?_|refine V_exit ?_)|((with_reducible refine V_cond ?_);simp only [go_sem,simprocAttr])|((first|refine V_region (by rw [hn];rfl) ?_|refine V_drawn hmix (by rw [hn];rfl) ?_);intro K hK)|((first|with_reducible refine evOps_n ?_|((with_reducible apply evOps_g);rfl)|with_reducible refine evOpsD_n ?_|((with_reducible apply evOpsD_g);rfl));intro K hK;simp (contextual:=true) only [go_sem,simprocAttr])|with_reducible refine evOps_nil ?_|((with_reducible refine evOpsD_nil ?_ ?_);kernel_rfl)|((with_reducible refine hK _ ?_);clear hK K)|(with_reducible first|refine And.intro ?_ ?_|refine nxt_n ?_|refine nxt_r ?_|refine nxt_e ?_|refine blk_n ?_|refine blk_r ?_|refine blk_same ?_|refine blk_other (by decide) ?_|refine noG_n ?_|refine noG_r ?_|refine noG_e ?_|refine inR_mk ?_ ?_)|(refine fun (hc : (_ : Bool) = _)=>?_;try simp only [hcS] at hc))
      all_goals try exact om_
      refine ⟨⟨a + 1,by omega,(by trivial)⟩,by simp only;omega,Imp.auto hX (by simp only [go_sem,simprocAttr,← e0,← e1])⟩
    · have ea : a = A.length:=by omega
      subst ea
      repeat' (first|(with_reducible first|refine V_seq ?_|refine V_block ?_|refine V_skip ?_|refine V_ret ?_|refine V_exit ?_)|((with_reducible refine V_cond ?_);simp only [go_sem,simprocAttr])|((first|refine V_region (by rw [hn];rfl) ?_|refine V_drawn hmix (by rw [hn];rfl) ?_);intro K hK)|((first|with_reducible refine evOps_n ?_|((with_reducible apply evOps_g);rfl)|with_reducible refine evOpsD_n ?_|((with_reducible apply evOpsD_g);rfl));intro K hK;simp (contextual:=true) only [go_sem,simprocAttr])|with_reducible refine evOps_nil ?_|((with_reducible refine evOpsD_nil ?_ ?_);kernel_rfl)|((with_reducible refine hK _ ?_);clear hK K)|(with_reducible first|refine And.intro ?_ ?_|refine nxt_n ?_|refine nxt_r ?_|refine nxt_e ?_|refine blk_n ?_|refine blk_r ?_|refine blk_same ?_|refine blk_other (by decide) ?_|refine noG_n ?_|refine noG_r ?_|refine noG_e ?_|refine inR_mk ?_ ?_)|(refine fun (hc : (_ : Bool) = _)=>?_;try simp only [hcS] at hc))
      all_goals try exact om_
      refine V_loopK (G:={x : Nat // x ≤ E.length ∧ (True)}) (fun ⟨x,_⟩=>[(153,iv x)]) [1,2,3,4,151,152] (fun ⟨x,_⟩=>[(2,⟨1,.box [iv E.length,.sl 6,.sl 7,.sl 5,.v (.slice none 0 0),.sl 1,.sl 4]⟩),(4,⟨1,.arr (triD A)⟩),(5,⟨1,.arr (ints (kI A E x))⟩),(6,⟨1,.arr (ints (colN A 0 A.length))⟩),(7,⟨1,.arr (ints (colN A 1 A.length))⟩)]) [2,4,5,6,7] (fun zz=>E.length - zz.1) ⟨0,Nat.zero_le _,by first|trivial|simp⟩ ?_ ?_
      · exact Imp.au hX
      rintro ⟨x,hix,hwx⟩
      simp only [go_sem,simprocAttr]
      have hil:=kI_len (A:=A) (E:=E) (i:=x) hix
      rcases Nat.lt_or_ge x E.length with hlx | hgx
      · have his:=kI_set (A:=A) hlx
        have har:=sp_completion_arrow (a0:=.v (.int .i64 E.length)) (a1:=ints (colN A 0 A.length)) (a2:=ints (colN A 1 A.length)) (a3:=ints (kI A E x)) (a4:=.v (.slice none 0 0)) (a5:=ints E) (A:=A) (i:=x) (j:=x) (f:=E.getD x 0) (by omega) (fun i hi=>(hTri i hi).1)
        repeat' (first|(with_reducible first|refine V_seq ?_|refine V_block ?_|refine V_skip ?_|refine V_ret ?_|refine V_exit ?_)|((with_reducible refine V_cond ?_);simp only [go_sem,simprocAttr])|((first|refine V_region (by rw [hn];rfl) ?_|refine V_drawn hmix (by rw [hn];rfl) ?_);intro K hK)|((first|with_reducible refine evOps_n ?_|((with_reducible apply evOps_g);rfl)|with_reducible refine evOpsD_n ?_|((with_reducible apply evOpsD_g);rfl));intro K hK;simp (contextual:=true) only [go_sem,simprocAttr])|with_reducible refine evOps_nil ?_|((with_reducible refine evOpsD_nil ?_ ?_);kernel_rfl)|((with_reducible refine hK _ ?_);clear hK K)|(with_reducible first|refine And.intro ?_ ?_|refine nxt_n ?_|refine nxt_r ?_|refine nxt_e ?_|refine blk_n ?_|refine blk_r ?_|refine blk_same ?_|refine blk_other (by decide) ?_|refine noG_n ?_|refine noG_r ?_|refine noG_e ?_|refine inR_mk ?_ ?_)|((with_reducible refine evCall_at 34 ?_);refine EvCall.mk (har) cal_completion_arrow [] [2,6,7,5,1,4] (by simp [go_sem] <;> (repeat' (first|rfl|constructor))) (by simp [go_sem] <;> (repeat' (first|rfl|constructor))) ?_;all_goals try simp only [go_sem,simprocAttr])|(refine fun (hc : (_ : Bool) = _)=>?_;try simp only [hcS] at hc))
        all_goals try exact om_
        refine ⟨⟨x + 1,by omega,(by trivial)⟩,by simp only;omega,Imp.auto hX (by simp only [go_sem,simprocAttr,his])⟩
      · have ex : x = E.length:=by omega
        subst ex
        have htb:=sp_Category_table_ko (ob:=(E.length : Int)) (fr:=colN A 0 A.length) (to:=colN A 1 A.length) (id:=kI A E E.length) (E:=E) (c:=c) (A:=A) (h:=fun a b=>fnd A (koM c (A.getD a []) (A.getD b []))) (fun a b ha hb _=>sp_Category_completed_1 sh (by omega) hTri (by omega) (by omega)) (by omega) (by omega) (by omega)
        rw [show tRows (colN A 0 A.length) (colN A 1 A.length) (fun a b=>fnd A (koM c (A.getD a []) (A.getD b []))) (colN A 0 A.length).length = (koC c).co from by rw [c0];rw [← hA];exact ko_co] at htb
        repeat' (first|(with_reducible first|refine V_seq ?_|refine V_block ?_|refine V_skip ?_|refine V_ret ?_|refine V_exit ?_)|((with_reducible refine V_cond ?_);simp only [go_sem,simprocAttr])|((first|refine V_region (by rw [hn];rfl) ?_|refine V_drawn hmix (by rw [hn];rfl) ?_);intro K hK)|((first|with_reducible refine evOps_n ?_|((with_reducible apply evOps_g);rfl)|with_reducible refine evOpsD_n ?_|((with_reducible apply evOpsD_g);rfl));intro K hK;simp (contextual:=true) only [go_sem,simprocAttr])|with_reducible refine evOps_nil ?_|((with_reducible refine evOpsD_nil ?_ ?_);kernel_rfl)|((with_reducible refine hK _ ?_);clear hK K)|(with_reducible first|refine And.intro ?_ ?_|refine nxt_n ?_|refine nxt_r ?_|refine nxt_e ?_|refine blk_n ?_|refine blk_r ?_|refine blk_same ?_|refine blk_other (by decide) ?_|refine noG_n ?_|refine noG_r ?_|refine noG_e ?_|refine inR_mk ?_ ?_)|((with_reducible refine evCall_at 35 ?_);refine EvCall.mk (htb) cal_Category_table [(0,2),(1,6),(2,7),(3,5),(4,1),(5,4),(6,3),(7,0),(8,8)] [] (by simp [go_sem] <;> (repeat' (first|rfl|constructor))) (by simp [go_sem] <;> (repeat' (first|rfl|constructor))) ?_;all_goals try simp only [go_sem,simprocAttr])|(refine fun (hc : (_ : Bool) = _)=>?_;try simp only [hcS] at hc))
        all_goals try exact om_
        rcases ho with ⟨_,rfl,rfl⟩|⟨hno,_,_⟩
        · have q1:=ko_fr (c:=c)
          have q2:=ko_to (c:=c)
          have q3:=ko_id (c:=c)
          rw [hA] at q1 q2 q3
          rw [hE] at q3
          (first|refine ret_auto ?_|refine ret_auto' ?_);simp only [go_sem,simprocAttr,Tryz.f18]
          rw [hE,hA,← q1,← q2,← q3];exact ⟨rfl,rfl,rfl,rfl,rfl,rfl⟩
        · exact absurd ⟨by rw [hE];omega,by rw [hA];omega⟩ hno
end Go.Eng
