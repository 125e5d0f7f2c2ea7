/- Functor categories, by the program. -/
import Derived.Test.YtmpopmololpaoaaGreatKwx
import Derived.Test.YtmpopmololpaoaaGreatR10q
import Derived.Test.YtmpopmololpaoaaGreatKamx
set_option linter.unusedSimpArgs false
set_option linter.unusedVariables false
set_option maxRecDepth 100000
set_option maxHeartbeats 16000000
namespace Go.Eng
open Go Go.Proofs Go.Cats
noncomputable def fcL (c d : Cat) : List Fun:=funX c d false c.ob.toNat []
def FcY (c d : Cat) : Prop:=MovP c d ∧ (fcL c d).length ≤ 8 ∧ (fcA (fcL c d)).length ≤ 40
def col0 (A : List (List Int)) : List Int:=A.map fun r=>r.getD 0 0
def col1 (A : List (List Int)) : List Int:=A.map fun r=>r.getD 1 0
theorem col0_len (A) : (col0 A).length = A.length:=by unfold col0;rw [List.length_map]
theorem col1_len (A) : (col1 A).length = A.length:=by unfold col1;rw [List.length_map]
theorem col0_snoc (A : List (List Int)) (i j : Int) (t : List Int) : col0 (A ++ [i :: j :: t]) = col0 A ++ [i]:=by unfold col0;rw [List.map_append];rfl
theorem col1_snoc (A : List (List Int)) (i j : Int) (t : List Int) : col1 (A ++ [i :: j :: t]) = col1 A ++ [j]:=by unfold col1;rw [List.map_append];rfl
theorem col0_nil : col0 [] = []:=rfl
theorem col1_nil : col1 [] = []:=rfl
noncomputable def idsL (A : List (List Int)) (L : List Fun) (i : Nat) : List Int:=((List.range i).map fun i=>fnd A (fcI L i)) ++ List.replicate (L.length - i) 0
theorem idsL_zero (A L) : idsL A L 0 = List.replicate L.length 0:=rfl
theorem idsL_len {A L} {i : Nat} (h : i ≤ L.length) : (idsL A L i).length = L.length:=by unfold idsL;rw [List.length_append,List.length_map,List.length_range,List.length_replicate];omega
theorem idsL_set {A L} {i : Nat} (h : i < L.length) : (idsL A L i).set i (fnd A (fcI L i)) = idsL A L (i + 1):=by
  have e : L.length - i = L.length - (i + 1) + 1:=by omega
  unfold idsL
  rw [List.set_append_right _ _ (by rw [List.length_map,List.length_range];omega),List.length_map,List.length_range,Nat.sub_self,e,List.replicate_succ,List.set_cons_zero,List.range_succ,List.map_append,List.append_assoc];rfl
theorem idsL_full (A : List (List Int)) (L : List Fun) : idsL A L L.length = (List.range L.length).map fun i=>fnd A (fcI L i):=by unfold idsL;rw [Nat.sub_self,List.replicate_zero,List.append_nil]
theorem fc_key {c d : Cat} {L : List Fun} (h : FL c d L) (hL : L.length ≤ 8) (sd : Shape d) : KeyOK (fcA L):=by
  refine ⟨fun r hr x hx=>?_,fcA_nodup⟩
  have ha:=h.arr hr
  have m:=sd.m40
  rw [ha.eta] at hx
  have i1:=ha.i1
  have j1:=ha.j1
  have i0:=ha.i0
  have j0:=ha.j0
  rcases List.mem_cons.1 hx with rfl | hx
  · omega
  · rcases List.mem_cons.1 hx with rfl | hx
    · omega
    · have:=(h.comp_d hr).mem hx
      omega
theorem map_step {α : Type} (f : List Int → α) (l : List (List Int)) {k : Nat} (hk : k < l.length) : (l.map f).take (k + 1) = (l.map f).take k ++ [f (l.getD k [])]:=by
  rw [List.take_succ_eq_append_getElem (by rw [List.length_map];exact hk),List.getElem_map,List.getD_eq_getElem?_getD,List.getElem?_eq_getElem hk];rfl
theorem fcE_step {L : List Fun} {i j k : Nat} (hk : k < (natA (L.getD i default) (L.getD j default)).length) : (fcE L i j).take (k + 1) = (fcE L i j).take k ++ [(i : Int) :: (j : Int) :: (natA (L.getD i default) (L.getD j default)).getD k []]:=map_step _ _ hk
theorem fc_fr (d : Cat) (L : List Fun) : col0 (fcA L) = (fcK d L).fr:=by unfold fcK fcN col0;rw [List.take_length]
theorem fc_to (d : Cat) (L : List Fun) : col1 (fcA L) = (fcK d L).to:=by unfold fcK fcN col1;rw [List.take_length]
theorem col0_at {A : List (List Int)} {a : Nat} (h : a < A.length) : (col0 A).getD a 0 = (A.getD a []).getD 0 0:=by
  unfold col0
  rw [List.getD_eq_getElem?_getD,List.getElem?_map,List.getElem?_eq_getElem h,List.getD_eq_getElem?_getD (l:=A),List.getElem?_eq_getElem h];rfl
theorem col1_at {A : List (List Int)} {a : Nat} (h : a < A.length) : (col1 A).getD a 0 = (A.getD a []).getD 1 0:=by
  unfold col1
  rw [List.getD_eq_getElem?_getD,List.getElem?_map,List.getElem?_eq_getElem h,List.getD_eq_getElem?_getD (l:=A),List.getElem?_eq_getElem h];rfl
theorem fc_co (d : Cat) (L : List Fun) : tRows (col0 (fcA L)) (col1 (fcA L)) (fun a b=>fnd (fcA L) (fcC d ((fcA L).getD a []) ((fcA L).getD b []))) (fcA L).length = (fcK d L).co:=by
  unfold tRows fcK fcN
  rw [col0_len]
  refine List.map_congr_left fun i hi=>List.map_congr_left fun j hj=>?_
  unfold tEnt
  rw [col1_at (List.mem_range.1 hi),col0_at (List.mem_range.1 hj)]
theorem fc_two {c d : Cat} {L : List Fun} (h : FL c d L) (sc : IsCat c) (sd : IsCat d) {a b : Nat} (ha : a < (fcA L).length) (hb : b < (fcA L).length) (hc : ((fcA L).getD a []).getD 1 0 = ((fcA L).getD b []).getD 0 0) : TwoA d (fcA L) a b:=by
  have ma : (fcA L).getD a [] ∈ fcA L:=getD_mem ha
  have mb : (fcA L).getD b [] ∈ fcA L:=getD_mem hb
  have la:=(h.arr ma).len
  have lb:=(h.arr mb).len
  have:=sc.toShape.ob8
  exact ⟨ha,hb,by omega,by omega,by omega,h.comp_d ma,h.comp_d mb,fcC_mem h sc sd ma mb hc⟩
theorem Imp.kill {X : Cx} {σ : Ss} (k : Nat) {j : Nat} (h : lk σ.tm k = .sl j) : Imp X σ ⟨(k,.dead) :: σ.tm,σ.rs,σ.nx⟩:=by
  rintro w1 U1 dfs a w ⟨hd,hn,c,hp,ht,hpin⟩
  refine ⟨hd,hn,c,hp,fun s=>?_,hpin⟩
  show Sv.ok w X.S c (rsL σ.rs) (lk ((k,_) :: σ.tm) s) _
  simp only [lk]
  split
  · simp [Sv.ok]
  · exact ht s
def FcO (c d : Cat) (r : Sv) (L1 : List (Nat × Rs)) : Prop:=(FcY c d ∧ r = .tup [.ptr 0 0,.v (.bool true)] ∧ L1 = [(0,⟨1,.box [iv ((fcL c d).length : Int),.sl 1,.sl 2,.sl 3,.sl 4,.sl 5,.sl 6,.sl 7]⟩),(1,⟨1,.arr (ints (fcK d (fcL c d)).fr)⟩),(2,⟨1,.arr (ints (fcK d (fcL c d)).to)⟩),(3,⟨1,.arr (ints (fcK d (fcL c d)).id)⟩),(4,⟨1,.arr (intss (fcK d (fcL c d)).co)⟩),(5,⟨1,.arr (funsD (fcL c d))⟩),(6,⟨1,.arr (intss (fcA (fcL c d)))⟩),(7,⟨1,.arr (mapD Tryz.prog 9 2 (fcA (fcL c d)).length (pm (fcA (fcL c d)) (fcA (fcL c d)).length))⟩)]) ∨ (¬ FcY c d ∧ r = .tup [.v (.pointer none),.v (.bool false)] ∧ L1 = [])
attribute [local go_sem] List.set_cons_zero List.set_cons_succ col0_nil col1_nil idsL_zero fcP_zero
theorem cal_functors : Callable Tryz.prog 56:=⟨_,Tryz.func56,rfl,rfl⟩
theorem sp_functors_o {c d : Cat} {r : Sv} {L1 : List (Nat × Rs)} (sc : IsCat c) (sd : IsCat d) (bc : CatB c) (bd : CatB d) (ho : FcO c d r L1) : Spec Tryz.prog 56 [.bptr [] (catD c),.bptr [] (catD d)] [] r L1:=by
  have hmo:=sp_movable bc bd sc.toShape sd.toShape
  have hall:=sp_allFunctors (b:=false) (M:=8) sc sd bc bd (by decide)
  rw [eat_L (M:=8) _ _ (Nat.zero_le _),List.nil_append,show funX c d false c.ob.toNat [] = fcL c d from rfl] at hall
  by_cases hM : MovP c d
  · rw [dec_t hM] at hmo
    by_cases hL : (fcL c d).length ≤ 8
    · rw [decide_eq_true hL,List.take_of_length_le (by omega)] at hall
      have hfl : FL c d (fcL c d):=FL.of_funX
      obtain ⟨L,hLd⟩ : ∃ L,fcL c d = L:=⟨_,rfl⟩
      rw [hLd] at hall hL hfl
      refine spec_of_V (E:=TE) 0 Tryz.func56 rfl (by simp [Tryz.f56]) fun X hn hX=>?_
      repeat' (first|(refine V_at 9 (Imp.adoptI 4 1 _ _ rfl rfl rfl (by rw [hX];rfl)) ?_;refine V_at 9 (Imp.adoptI 4 2 _ _ rfl rfl rfl (by rw [hX];rfl)) ?_;refine V_at 9 (Imp.adoptBs 4 6 _ _ rfl rfl rfl (by rw [hX];rfl)) ?_;simp only [List.set_cons_succ,List.set_cons_zero])|(with_reducible first|refine V_seq ?_|refine V_block ?_|refine V_skip ?_|refine V_ret ?_|refine V_exit ?_)|((with_reducible refine V_cond ?_);simp only [go_sem,simprocAttr])|((first|refine V_region (by rw [hn];rfl) ?_|refine V_drawn hmix (by rw [hn];rfl) ?_);intro K hK)|((first|with_reducible refine evOps_n ?_|((with_reducible apply evOps_g);rfl)|with_reducible refine evOpsD_n ?_|((with_reducible apply evOpsD_g);rfl));intro K hK;simp (contextual:=true) only [go_sem,simprocAttr])|with_reducible refine evOps_nil ?_|((with_reducible refine evOpsD_nil ?_ ?_);kernel_rfl)|((with_reducible refine hK _ ?_);clear hK K)|(with_reducible first|refine And.intro ?_ ?_|refine nxt_n ?_|refine nxt_r ?_|refine nxt_e ?_|refine blk_n ?_|refine blk_r ?_|refine blk_same ?_|refine blk_other (by decide) ?_|refine noG_n ?_|refine noG_r ?_|refine noG_e ?_|refine inR_mk ?_ ?_)|((with_reducible refine evCall_at 111 ?_);refine EvCall.mk (hmo) cal_movable [] [] (by simp [go_sem] <;> (repeat' (first|rfl|constructor))) (by simp [go_sem] <;> (repeat' (first|rfl|constructor))) ?_;all_goals try simp only [go_sem,simprocAttr])|((with_reducible refine evCall_at 112 ?_);refine EvCall.mk (hall) cal_allFunctors [(0,2)] [] (by simp [go_sem] <;> (repeat' (first|rfl|constructor))) (by simp [go_sem] <;> (repeat' (first|rfl|constructor))) ?_;all_goals try simp only [go_sem,simprocAttr])|(refine hook_makeMap (k:=9) (e:=2) (by simp only [go_sem,simprocAttr]) ?_;simp only [go_sem,simprocAttr])|(refine fun (hc : (_ : Bool) = _)=>?_;try simp only [hcS] at hc))
      all_goals try exact om_
      refine V_loopK (G:={i : Nat // i ≤ L.length ∧ ((fcP L i 0).length ≤ 40)}) (fun ⟨i,_⟩=>[(44,iv i),(6,.sl 2),(9,.ptr 5 0)]) [3,43] (fun ⟨i,_⟩=>[(2,⟨1,.arr (funsD L)⟩),(3,⟨1,.arr (mapD Tryz.prog 9 2 (fcP L i 0).length (pm (fcP L i 0) (fcP L i 0).length))⟩),(4,⟨1,.box [iv L.length,.sl 7,.sl 8,.sl 6,.v (.slice none 0 0),.sl 2,.sl 9,.sl 3]⟩),(5,⟨1,.box [.ptr 4 0]⟩),(6,⟨1,.arr (ints (List.replicate L.length 0))⟩),(7,⟨1,.arr (ints (col0 (fcP L i 0)))⟩),(8,⟨1,.arr (ints (col1 (fcP L i 0)))⟩),(9,⟨1,.arr (intss (fcP L i 0))⟩)]) [2,3,4,5,6,7,8,9] (fun zz=>L.length - zz.1) ⟨0,Nat.zero_le _,(by rw [fcP_zero];exact Nat.zero_le _)⟩ ?_ ?_
      · exact Imp.au hX
      rintro ⟨i,hii,hwi⟩
      simp only [go_sem,simprocAttr]
      rcases Nat.lt_or_ge i L.length with hli | hgi
      · repeat' (first|(with_reducible first|refine V_seq ?_|refine V_block ?_|refine V_skip ?_|refine V_ret ?_|refine V_exit ?_)|((with_reducible refine V_cond ?_);simp only [go_sem,simprocAttr])|((first|refine V_region (by rw [hn];rfl) ?_|refine V_drawn hmix (by rw [hn];rfl) ?_);intro K hK)|((first|with_reducible refine evOps_n ?_|((with_reducible apply evOps_g);rfl)|with_reducible refine evOpsD_n ?_|((with_reducible apply evOpsD_g);rfl));intro K hK;simp (contextual:=true) only [go_sem,simprocAttr])|with_reducible refine evOps_nil ?_|((with_reducible refine evOpsD_nil ?_ ?_);kernel_rfl)|((with_reducible refine hK _ ?_);clear hK K)|(with_reducible first|refine And.intro ?_ ?_|refine nxt_n ?_|refine nxt_r ?_|refine nxt_e ?_|refine blk_n ?_|refine blk_r ?_|refine blk_same ?_|refine blk_other (by decide) ?_|refine noG_n ?_|refine noG_r ?_|refine noG_e ?_|refine inR_mk ?_ ?_)|(refine fun (hc : (_ : Bool) = _)=>?_;try simp only [hcS] at hc))
        all_goals try exact om_
        refine V_loopK (G:={j : Nat // j ≤ L.length ∧ ((fcP L i j).length ≤ 40)}) (fun ⟨j,_⟩=>[(49,iv j),(6,.sl 2),(9,.ptr 5 0),(10,iv i)]) [3,43,44,48] (fun ⟨j,_⟩=>[(2,⟨1,.arr (funsD L)⟩),(3,⟨1,.arr (mapD Tryz.prog 9 2 (fcP L i j).length (pm (fcP L i j) (fcP L i j).length))⟩),(4,⟨1,.box [iv L.length,.sl 7,.sl 8,.sl 6,.v (.slice none 0 0),.sl 2,.sl 9,.sl 3]⟩),(5,⟨1,.box [.ptr 4 0]⟩),(6,⟨1,.arr (ints (List.replicate L.length 0))⟩),(7,⟨1,.arr (ints (col0 (fcP L i j)))⟩),(8,⟨1,.arr (ints (col1 (fcP L i j)))⟩),(9,⟨1,.arr (intss (fcP L i j))⟩)]) [2,3,4,5,6,7,8,9] (fun zz=>L.length - zz.1) ⟨0,Nat.zero_le _,by exact hwi⟩ ?_ ?_
        · exact Imp.au hX
        rintro ⟨j,hij,hwj⟩
        simp only [go_sem,simprocAttr]
        rcases Nat.lt_or_ge j L.length with hlj | hgj
        · have hpa:=hfl.par sc sd hli hlj
          have hpi:=funs_part L i hli
          have hpj:=funs_part L j hlj
          have hna:=sp_allNatural (M:=40) hpa (by decide)
          rw [eat_L (M:=40) _ _ (Nat.zero_le _),List.nil_append] at hna
          have hel:=fcE_len (L:=L) (i:=i) (j:=j)
          obtain ⟨N,hN⟩ : ∃ N,natA (L.getD i default) (L.getD j default) = N:=⟨_,rfl⟩
          rw [hN] at hna hel
          have hsu : fcP L i (j + 1) = fcP L i j ++ fcE L i j:=fcP_succ
          have hle:=fcP_le (L:=L) (i:=i) (j:=j + 1) hli (by omega)
          rw [hsu,List.length_append,hel] at hle
          dsimp only at hna
          by_cases h40 : N.length ≤ 40
          · rw [decide_eq_true h40,List.take_of_length_le (by omega)] at hna
            repeat' (first|(refine V_at 18 (Imp.trans (Imp.kill 68 rfl) (Imp.kill 70 rfl)) ?_)|(with_reducible first|refine V_seq ?_|refine V_block ?_|refine V_skip ?_|refine V_ret ?_|refine V_exit ?_)|((with_reducible refine V_cond ?_);simp only [go_sem,simprocAttr])|((first|refine V_region (by rw [hn];rfl) ?_|refine V_drawn hmix (by rw [hn];rfl) ?_);intro K hK)|((first|with_reducible refine evOps_n ?_|((with_reducible apply evOps_g);rfl)|with_reducible refine evOpsD_n ?_|((with_reducible apply evOpsD_g);rfl));intro K hK;simp (contextual:=true) only [go_sem,simprocAttr])|with_reducible refine evOps_nil ?_|((with_reducible refine evOpsD_nil ?_ ?_);kernel_rfl)|((with_reducible refine hK _ ?_);clear hK K)|(with_reducible first|refine And.intro ?_ ?_|refine nxt_n ?_|refine nxt_r ?_|refine nxt_e ?_|refine blk_n ?_|refine blk_r ?_|refine blk_same ?_|refine blk_other (by decide) ?_|refine noG_n ?_|refine noG_r ?_|refine noG_e ?_|refine inR_mk ?_ ?_)|((with_reducible refine evCall_at 113 ?_);refine EvCall.mk hna cal_allNatural [(0,10)] [2] (by simp [go_sem] <;> (repeat' (first|rfl|constructor))) (by simp only [List.append_nil,Sv.mtL,Sv.mt,Sv.viewP];exact ⟨⟨trivial,by simp,.inr ⟨12,_,_,rfl,hpi⟩⟩,⟨trivial,by simp,.inr ⟨12,_,_,rfl,hpj⟩⟩,rfl,trivial⟩) ?_;all_goals try simp only [go_sem,simprocAttr])|(refine fun (hc : (_ : Bool) = _)=>?_;try simp only [hcS] at hc))
            all_goals try exact om_
            · rcases ho with ⟨hy,_,_⟩|⟨_,rfl,rfl⟩
              · exact absurd hy.2.2 (by rw [hLd];omega)
              · (first|refine ret_auto ?_|refine ret_auto' ?_);simp only [go_sem,simprocAttr,Tryz.f56]
            obtain ⟨P,hP⟩ : ∃ P : Nat → List (List Int),∀ k,P k = fcP L i j ++ (fcE L i j).take k:=⟨_,fun _=>rfl⟩
            have hP0 : P 0 = fcP L i j:=by rw [hP,List.take_zero,List.append_nil]
            have hPn : P N.length = fcP L i (j + 1):=by rw [hP,hsu,List.take_of_length_le (by omega)]
            have hPs : ∀ k,k < N.length → P (k + 1) = P k ++ [(i : Int) :: (j : Int) :: N.getD k []]:=fun k hk=>by rw [hP,hP,fcE_step (by rw [hN];exact hk),hN,List.append_assoc]
            have hPl : ∀ k,k ≤ N.length → (P k).length ≤ 40:=fun k hk=>by rw [hP,List.length_append,List.length_take];omega
            have hPm : ∀ k,k < N.length → (i : Int) :: (j : Int) :: N.getD k [] ∈ fcA L:=fun k hk=>mem_fcA.2 ⟨i,j,_,hli,hlj,by rw [hN];exact getD_mem hk,rfl⟩
            refine V_loopK (G:={k : Nat // k ≤ N.length ∧ (True)}) (fun ⟨k,_⟩=>[(77,iv k),(75,.sl 10),(6,.sl 2),(9,.ptr 5 0),(10,iv i)]) [3,4,5,11,43,44,48,49,65,66,67,68,69,70,71,72,73,76] (fun ⟨k,_⟩=>[(10,⟨1,.arr (intss N)⟩),(2,⟨1,.arr (funsD L)⟩),(3,⟨1,.arr (mapD Tryz.prog 9 2 (P k).length (pm (P k) (P k).length))⟩),(4,⟨1,.box [iv L.length,.sl 7,.sl 8,.sl 6,.v (.slice none 0 0),.sl 2,.sl 9,.sl 3]⟩),(5,⟨1,.box [.ptr 4 0]⟩),(6,⟨1,.arr (ints (List.replicate L.length 0))⟩),(7,⟨1,.arr (ints (col0 (P k)))⟩),(8,⟨1,.arr (ints (col1 (P k)))⟩),(9,⟨1,.arr (intss (P k))⟩)]) [2,3,4,5,6,7,8,9,10] (fun zz=>N.length - zz.1) ⟨0,Nat.zero_le _,by first|trivial|simp⟩ ?_ ?_
            · exact Imp.auto hX (by simp [go_sem,simprocAttr,hP0])
            rintro ⟨k,hik,hwk⟩
            simp only [go_sem,simprocAttr]
            rcases Nat.lt_or_ge k N.length with hlk | hgk
            · have hm:=hPm k hlk
              have hlen:=(hfl.arr hm).len
              have hpl:=hPl k hik
              have c8:=sc.toShape.ob8
              have hsk:=hPs k hlk
              have l1 : (P (k + 1)).length = (P k).length + 1:=by rw [hsk];simp
              have had:=sp_functorCategory_add (n:=(L.length : Int)) (L:=L) (F:=col0 (P k)) (T:=col1 (P k)) (I:=List.replicate L.length 0) (t:=N.getD k []) (A:=P k) (i:=i) (j:=j) (by have : (N.getD k []).length + 1 + 1 = c.ob.toNat + 2:=hlen;omega) (fun x hx=>(fc_key hfl hL sd.toShape).b _ hm x hx) (by omega) (by rw [col0_len];omega) (by rw [col1_len];omega)
              rw [← col0_snoc (P k) i j (N.getD k []),← col1_snoc (P k) i j (N.getD k []),← hsk,← l1] at had
              repeat' (first|(with_reducible first|refine V_seq ?_|refine V_block ?_|refine V_skip ?_|refine V_ret ?_|refine V_exit ?_)|((with_reducible refine V_cond ?_);simp only [go_sem,simprocAttr])|((first|refine V_region (by rw [hn];rfl) ?_|refine V_drawn hmix (by rw [hn];rfl) ?_);intro K hK)|((first|with_reducible refine evOps_n ?_|((with_reducible apply evOps_g);rfl)|with_reducible refine evOpsD_n ?_|((with_reducible apply evOpsD_g);rfl));intro K hK;simp (contextual:=true) only [go_sem,simprocAttr])|with_reducible refine evOps_nil ?_|((with_reducible refine evOpsD_nil ?_ ?_);kernel_rfl)|((with_reducible refine hK _ ?_);clear hK K)|(with_reducible first|refine And.intro ?_ ?_|refine nxt_n ?_|refine nxt_r ?_|refine nxt_e ?_|refine blk_n ?_|refine blk_r ?_|refine blk_same ?_|refine blk_other (by decide) ?_|refine noG_n ?_|refine noG_r ?_|refine noG_e ?_|refine inR_mk ?_ ?_)|((with_reducible refine evCall_at 114 ?_);refine EvCall.mk (had) cal_functorCategory_add [(0,4),(1,7),(2,8),(3,6),(4,2),(5,9),(6,3),(7,11),(8,12),(9,13)] [10] (by simp [go_sem] <;> (repeat' (first|rfl|constructor))) (by simp [go_sem] <;> (repeat' (first|rfl|constructor))) ?_;all_goals try simp only [go_sem,simprocAttr])|(refine fun (hc : (_ : Bool) = _)=>?_;try simp only [hcS] at hc))
              all_goals try exact om_
              · refine ⟨⟨k + 1,by omega,(by trivial)⟩,by simp only;omega,Imp.ao hX⟩
            · have ek : k = N.length:=by omega
              subst ek
              rw [hPn]
              repeat' (first|(with_reducible first|refine V_seq ?_|refine V_block ?_|refine V_skip ?_|refine V_ret ?_|refine V_exit ?_)|((with_reducible refine V_cond ?_);simp only [go_sem,simprocAttr])|((first|refine V_region (by rw [hn];rfl) ?_|refine V_drawn hmix (by rw [hn];rfl) ?_);intro K hK)|((first|with_reducible refine evOps_n ?_|((with_reducible apply evOps_g);rfl)|with_reducible refine evOpsD_n ?_|((with_reducible apply evOpsD_g);rfl));intro K hK;simp (contextual:=true) only [go_sem,simprocAttr])|with_reducible refine evOps_nil ?_|((with_reducible refine evOpsD_nil ?_ ?_);kernel_rfl)|((with_reducible refine hK _ ?_);clear hK K)|(with_reducible first|refine And.intro ?_ ?_|refine nxt_n ?_|refine nxt_r ?_|refine nxt_e ?_|refine blk_n ?_|refine blk_r ?_|refine blk_same ?_|refine blk_other (by decide) ?_|refine noG_n ?_|refine noG_r ?_|refine noG_e ?_|refine inR_mk ?_ ?_)|(refine fun (hc : (_ : Bool) = _)=>?_;try simp only [hcS] at hc))
              all_goals try exact om_
              · refine ⟨⟨j + 1,by omega,(by (rw [← hPn];exact hPl _ (Nat.le_refl _)))⟩,by simp only;omega,Imp.ao hX⟩
          · rw [decide_eq_false h40] at hna
            repeat' (first|(with_reducible first|refine V_seq ?_|refine V_block ?_|refine V_skip ?_|refine V_ret ?_|refine V_exit ?_)|((with_reducible refine V_cond ?_);simp only [go_sem,simprocAttr])|((first|refine V_region (by rw [hn];rfl) ?_|refine V_drawn hmix (by rw [hn];rfl) ?_);intro K hK)|((first|with_reducible refine evOps_n ?_|((with_reducible apply evOps_g);rfl)|with_reducible refine evOpsD_n ?_|((with_reducible apply evOpsD_g);rfl));intro K hK;simp (contextual:=true) only [go_sem,simprocAttr])|with_reducible refine evOps_nil ?_|((with_reducible refine evOpsD_nil ?_ ?_);kernel_rfl)|((with_reducible refine hK _ ?_);clear hK K)|(with_reducible first|refine And.intro ?_ ?_|refine nxt_n ?_|refine nxt_r ?_|refine nxt_e ?_|refine blk_n ?_|refine blk_r ?_|refine blk_same ?_|refine blk_other (by decide) ?_|refine noG_n ?_|refine noG_r ?_|refine noG_e ?_|refine inR_mk ?_ ?_)|((with_reducible refine evCall_at 113 ?_);refine EvCall.mk hna cal_allNatural [(0,10)] [2] (by simp [go_sem] <;> (repeat' (first|rfl|constructor))) (by simp only [List.append_nil,Sv.mtL,Sv.mt,Sv.viewP];exact ⟨⟨trivial,by simp,.inr ⟨12,_,_,rfl,hpi⟩⟩,⟨trivial,by simp,.inr ⟨12,_,_,rfl,hpj⟩⟩,rfl,trivial⟩) ?_;all_goals try simp only [go_sem,simprocAttr])|(refine fun (hc : (_ : Bool) = _)=>?_;try simp only [hcS] at hc))
            all_goals try exact om_
            · rcases ho with ⟨hy,_,_⟩|⟨_,rfl,rfl⟩
              · exact absurd hy.2.2 (by rw [hLd];omega)
              · (first|refine ret_auto ?_|refine ret_auto' ?_);simp only [go_sem,simprocAttr,Tryz.f56]
        · have ej : j = L.length:=by omega
          subst ej
          rw [fcP_next] at hwj ⊢
          repeat' (first|(with_reducible first|refine V_seq ?_|refine V_block ?_|refine V_skip ?_|refine V_ret ?_|refine V_exit ?_)|((with_reducible refine V_cond ?_);simp only [go_sem,simprocAttr])|((first|refine V_region (by rw [hn];rfl) ?_|refine V_drawn hmix (by rw [hn];rfl) ?_);intro K hK)|((first|with_reducible refine evOps_n ?_|((with_reducible apply evOps_g);rfl)|with_reducible refine evOpsD_n ?_|((with_reducible apply evOpsD_g);rfl));intro K hK;simp (contextual:=true) only [go_sem,simprocAttr])|with_reducible refine evOps_nil ?_|((with_reducible refine evOpsD_nil ?_ ?_);kernel_rfl)|((with_reducible refine hK _ ?_);clear hK K)|(with_reducible first|refine And.intro ?_ ?_|refine nxt_n ?_|refine nxt_r ?_|refine nxt_e ?_|refine blk_n ?_|refine blk_r ?_|refine blk_same ?_|refine blk_other (by decide) ?_|refine noG_n ?_|refine noG_r ?_|refine noG_e ?_|refine inR_mk ?_ ?_)|(refine fun (hc : (_ : Bool) = _)=>?_;try simp only [hcS] at hc))
          all_goals try exact om_
          · refine ⟨⟨i + 1,by omega,(by exact hwj)⟩,by simp only;omega,Imp.ao hX⟩
      · have ei : i = L.length:=by omega
        subst ei
        rw [show fcP L L.length 0 = fcA L from rfl] at hwi ⊢
        repeat' (first|(with_reducible first|refine V_seq ?_|refine V_block ?_|refine V_skip ?_|refine V_ret ?_|refine V_exit ?_)|((with_reducible refine V_cond ?_);simp only [go_sem,simprocAttr])|((first|refine V_region (by rw [hn];rfl) ?_|refine V_drawn hmix (by rw [hn];rfl) ?_);intro K hK)|((first|with_reducible refine evOps_n ?_|((with_reducible apply evOps_g);rfl)|with_reducible refine evOpsD_n ?_|((with_reducible apply evOpsD_g);rfl));intro K hK;simp (contextual:=true) only [go_sem,simprocAttr])|with_reducible refine evOps_nil ?_|((with_reducible refine evOpsD_nil ?_ ?_);kernel_rfl)|((with_reducible refine hK _ ?_);clear hK K)|(with_reducible first|refine And.intro ?_ ?_|refine nxt_n ?_|refine nxt_r ?_|refine nxt_e ?_|refine blk_n ?_|refine blk_r ?_|refine blk_same ?_|refine blk_other (by decide) ?_|refine noG_n ?_|refine noG_r ?_|refine noG_e ?_|refine inR_mk ?_ ?_)|(refine fun (hc : (_ : Bool) = _)=>?_;try simp only [hcS] at hc))
        all_goals try exact om_
        have hk:=fc_key hfl hL sd.toShape
        have d8:=sd.toShape.ob8
        have dil:=sd.toShape.idl
        refine V_loopK (G:={x : Nat // x ≤ L.length ∧ (True)}) (fun ⟨x,_⟩=>[(91,iv x),(6,.sl 2),(9,.ptr 5 0)]) [3,4,5,90] (fun ⟨x,_⟩=>[(2,⟨1,.arr (funsD L)⟩),(3,⟨1,.arr (mapD Tryz.prog 9 2 (fcA L).length (pm (fcA L) (fcA L).length))⟩),(4,⟨1,.box [iv L.length,.sl 7,.sl 8,.sl 6,.v (.slice none 0 0),.sl 2,.sl 9,.sl 3]⟩),(5,⟨1,.box [.ptr 4 0]⟩),(6,⟨1,.arr (ints (idsL (fcA L) L x))⟩),(7,⟨1,.arr (ints (col0 (fcA L)))⟩),(8,⟨1,.arr (ints (col1 (fcA L)))⟩),(9,⟨1,.arr (intss (fcA L))⟩)]) [2,3,4,5,6,7,8,9] (fun zz=>L.length - zz.1) ⟨0,Nat.zero_le _,by first|trivial|simp⟩ ?_ ?_
        · exact Imp.au hX
        rintro ⟨x,hix,hwx⟩
        simp only [go_sem,simprocAttr]
        rcases Nat.lt_or_ge x L.length with hlx | hgx
        · have hm:=fcI_mem hfl sc sd hlx
          have hlen:=(hfl.arr hm).len
          have c8:=sc.toShape.ob8
          obtain ⟨f1,f2,f3⟩:=hfl x hlx
          have fol:=f3.obl
          rw [f1] at fol
          have fow:=f3.obw
          rw [f2] at fow
          have hth:=sp_then (f:=(L.getD x default).obs) (g:=d.id) (by omega) (by omega) (fun i hi=>by have:=fow i hi;omega)
          rw [show thn (L.getD x default).obs d.id = unitL (L.getD x default) from by rw [unitL_of f2];rfl] at hth
          have hul : (unitL (L.getD x default)).length + 1 + 1 = c.ob.toNat + 2:=hlen
          have har:=sp_functorCategory_arrow (a0:=.v (.int .i64 L.length)) (a1:=ints (col0 (fcA L))) (a2:=ints (col1 (fcA L))) (a3:=ints (idsL (fcA L) L x)) (a4:=.v (.slice none 0 0)) (a5:=funsD L) (a6:=intss (fcA L)) hk hm (by omega)
          have hil:=idsL_len (A:=fcA L) (L:=L) (i:=x) (by omega)
          have his : (idsL (fcA L) L x).set x (fnd (fcA L) ((x : Int) :: (x : Int) :: unitL (L.getD x default))) = idsL (fcA L) L (x + 1):=idsL_set hlx
          have hfo : (funsD L).at (x * 12 + 10) = ints (L.getD x default).obs:=funs_at L x 10 hlx (by decide)
          repeat' (first|(rw [hfo];simp only [go_sem,simprocAttr])|(with_reducible first|refine V_seq ?_|refine V_block ?_|refine V_skip ?_|refine V_ret ?_|refine V_exit ?_)|((with_reducible refine V_cond ?_);simp only [go_sem,simprocAttr])|((first|refine V_region (by rw [hn];rfl) ?_|refine V_drawn hmix (by rw [hn];rfl) ?_);intro K hK)|((first|with_reducible refine evOps_n ?_|((with_reducible apply evOps_g);rfl)|with_reducible refine evOpsD_n ?_|((with_reducible apply evOpsD_g);rfl));intro K hK;simp (contextual:=true) only [go_sem,simprocAttr])|with_reducible refine evOps_nil ?_|((with_reducible refine evOpsD_nil ?_ ?_);kernel_rfl)|((with_reducible refine hK _ ?_);clear hK K)|(with_reducible first|refine And.intro ?_ ?_|refine nxt_n ?_|refine nxt_r ?_|refine nxt_e ?_|refine blk_n ?_|refine blk_r ?_|refine blk_same ?_|refine blk_other (by decide) ?_|refine noG_n ?_|refine noG_r ?_|refine noG_e ?_|refine inR_mk ?_ ?_)|((with_reducible refine evCall_at 81 ?_);refine EvCall.mk (hth) cal_then [(0,10)] [2] (by simp [go_sem] <;> (repeat' (first|rfl|constructor))) (by simp [go_sem] <;> (repeat' (first|rfl|constructor))) ?_;all_goals try simp only [go_sem,simprocAttr])|((with_reducible refine evCall_at 70 ?_);refine EvCall.mk (har) cal_functorCategory_arrow [] [4,7,8,6,2,9,3,10] (by simp [go_sem] <;> (repeat' (first|rfl|constructor))) (by simp [go_sem] <;> (repeat' (first|rfl|constructor))) ?_;all_goals try simp only [go_sem,simprocAttr])|(refine fun (hc : (_ : Bool) = _)=>?_;try simp only [hcS] at hc))
          all_goals try exact om_
          · refine ⟨⟨x + 1,by omega,(by trivial)⟩,by simp only;omega,Imp.auto hX (by simp only [go_sem,simprocAttr,his])⟩
        · have ex : x = L.length:=by omega
          subst ex
          have c0l:=col0_len (fcA L)
          have c1l:=col1_len (fcA L)
          have htb:=sp_Category_table_fc (ob:=(L.length : Int)) (fr:=col0 (fcA L)) (to:=col1 (fcA L)) (id:=idsL (fcA L) L L.length) (d:=d) (L:=L) (A:=fcA L) (h:=fun a b=>fnd (fcA L) (fcC d ((fcA L).getD a []) ((fcA L).getD b []))) (fun a b ha hb hc=>sp_functors_1 sd.toShape hk (by omega) (fc_two hfl sc sd (by omega) (by omega) (by rw [col1_at (by omega),col0_at (by omega)] at hc;exact hc))) (by omega) (by omega) (by omega)
          rw [show tRows (col0 (fcA L)) (col1 (fcA L)) (fun a b=>fnd (fcA L) (fcC d ((fcA L).getD a []) ((fcA L).getD b []))) (col0 (fcA L)).length = (fcK d L).co from by rw [c0l];exact fc_co d L] at htb
          repeat' (first|(with_reducible first|refine V_seq ?_|refine V_block ?_|refine V_skip ?_|refine V_ret ?_|refine V_exit ?_)|((with_reducible refine V_cond ?_);simp only [go_sem,simprocAttr])|((first|refine V_region (by rw [hn];rfl) ?_|refine V_drawn hmix (by rw [hn];rfl) ?_);intro K hK)|((first|with_reducible refine evOps_n ?_|((with_reducible apply evOps_g);rfl)|with_reducible refine evOpsD_n ?_|((with_reducible apply evOpsD_g);rfl));intro K hK;simp (contextual:=true) only [go_sem,simprocAttr])|with_reducible refine evOps_nil ?_|((with_reducible refine evOpsD_nil ?_ ?_);kernel_rfl)|((with_reducible refine hK _ ?_);clear hK K)|(with_reducible first|refine And.intro ?_ ?_|refine nxt_n ?_|refine nxt_r ?_|refine nxt_e ?_|refine blk_n ?_|refine blk_r ?_|refine blk_same ?_|refine blk_other (by decide) ?_|refine noG_n ?_|refine noG_r ?_|refine noG_e ?_|refine inR_mk ?_ ?_)|((with_reducible refine evCall_at 115 ?_);refine EvCall.mk (htb) cal_Category_table [(0,4),(1,7),(2,8),(3,6),(4,2),(5,9),(6,3),(7,5),(8,0),(9,10)] [] (by simp [go_sem] <;> (repeat' (first|rfl|constructor))) (by simp [go_sem] <;> (repeat' (first|rfl|constructor))) ?_;all_goals try simp only [go_sem,simprocAttr])|(refine fun (hc : (_ : Bool) = _)=>?_;try simp only [hcS] at hc))
          all_goals try exact om_
          rcases ho with ⟨_,rfl,rfl⟩|⟨hno,_,_⟩
          · have q1:=fc_fr d L
            have q2:=fc_to d L
            have q3 : idsL (fcA L) L L.length = (fcK d L).id:=idsL_full _ _
            (first|refine ret_auto ?_|refine ret_auto' ?_);simp only [go_sem,simprocAttr,Tryz.f56]
            rw [hLd,q1,q2,q3];exact ⟨rfl,rfl,rfl,rfl,rfl,rfl,rfl,rfl⟩
          · exact absurd ⟨hM,by rw [hLd];exact hL,by rw [hLd];exact hwi⟩ hno
    · rw [decide_eq_false hL] at hall
      refine spec_of_V (E:=TE) 0 Tryz.func56 rfl (by simp [Tryz.f56]) fun X hn hX=>?_
      repeat' (first|(with_reducible first|refine V_seq ?_|refine V_block ?_|refine V_skip ?_|refine V_ret ?_|refine V_exit ?_)|((with_reducible refine V_cond ?_);simp only [go_sem,simprocAttr])|((first|refine V_region (by rw [hn];rfl) ?_|refine V_drawn hmix (by rw [hn];rfl) ?_);intro K hK)|((first|with_reducible refine evOps_n ?_|((with_reducible apply evOps_g);rfl)|with_reducible refine evOpsD_n ?_|((with_reducible apply evOpsD_g);rfl));intro K hK;simp (contextual:=true) only [go_sem,simprocAttr])|with_reducible refine evOps_nil ?_|((with_reducible refine evOpsD_nil ?_ ?_);kernel_rfl)|((with_reducible refine hK _ ?_);clear hK K)|(with_reducible first|refine And.intro ?_ ?_|refine nxt_n ?_|refine nxt_r ?_|refine nxt_e ?_|refine blk_n ?_|refine blk_r ?_|refine blk_same ?_|refine blk_other (by decide) ?_|refine noG_n ?_|refine noG_r ?_|refine noG_e ?_|refine inR_mk ?_ ?_)|((with_reducible refine evCall_at 111 ?_);refine EvCall.mk (hmo) cal_movable [] [] (by simp [go_sem] <;> (repeat' (first|rfl|constructor))) (by simp [go_sem] <;> (repeat' (first|rfl|constructor))) ?_;all_goals try simp only [go_sem,simprocAttr])|((with_reducible refine evCall_at 112 ?_);refine EvCall.mk (hall) cal_allFunctors [(0,2)] [] (by simp [go_sem] <;> (repeat' (first|rfl|constructor))) (by simp [go_sem] <;> (repeat' (first|rfl|constructor))) ?_;all_goals try simp only [go_sem,simprocAttr])|(refine fun (hc : (_ : Bool) = _)=>?_;try simp only [hcS] at hc))
      all_goals try exact om_
      · rcases ho with ⟨hy,_,_⟩|⟨_,rfl,rfl⟩
        · exact absurd hy.2.1 hL
        · (first|refine ret_auto ?_|refine ret_auto' ?_);simp only [go_sem,simprocAttr,Tryz.f56]
  · rw [dec_f hM] at hmo
    refine spec_of_V (E:=TE) 0 Tryz.func56 rfl (by simp [Tryz.f56]) fun X hn hX=>?_
    repeat' (first|(with_reducible first|refine V_seq ?_|refine V_block ?_|refine V_skip ?_|refine V_ret ?_|refine V_exit ?_)|((with_reducible refine V_cond ?_);simp only [go_sem,simprocAttr])|((first|refine V_region (by rw [hn];rfl) ?_|refine V_drawn hmix (by rw [hn];rfl) ?_);intro K hK)|((first|with_reducible refine evOps_n ?_|((with_reducible apply evOps_g);rfl)|with_reducible refine evOpsD_n ?_|((with_reducible apply evOpsD_g);rfl));intro K hK;simp (contextual:=true) only [go_sem,simprocAttr])|with_reducible refine evOps_nil ?_|((with_reducible refine evOpsD_nil ?_ ?_);kernel_rfl)|((with_reducible refine hK _ ?_);clear hK K)|(with_reducible first|refine And.intro ?_ ?_|refine nxt_n ?_|refine nxt_r ?_|refine nxt_e ?_|refine blk_n ?_|refine blk_r ?_|refine blk_same ?_|refine blk_other (by decide) ?_|refine noG_n ?_|refine noG_r ?_|refine noG_e ?_|refine inR_mk ?_ ?_)|((with_reducible refine evCall_at 111 ?_);refine EvCall.mk (hmo) cal_movable [] [] (by simp [go_sem] <;> (repeat' (first|rfl|constructor))) (by simp [go_sem] <;> (repeat' (first|rfl|constructor))) ?_;all_goals try simp only [go_sem,simprocAttr])|(refine fun (hc : (_ : Bool) = _)=>?_;try simp only [hcS] at hc))
    all_goals try exact om_
    · rcases ho with ⟨hy,_,_⟩|⟨_,rfl,rfl⟩
      · exact absurd hy.1 hM
      · (first|refine ret_auto ?_|refine ret_auto' ?_);simp only [go_sem,simprocAttr,Tryz.f56]
end Go.Eng
