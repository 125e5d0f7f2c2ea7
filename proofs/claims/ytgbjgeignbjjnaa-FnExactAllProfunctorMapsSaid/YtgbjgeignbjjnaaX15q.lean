/- The law's own functions: profunctors are marked; lists of four levels are compared, marked, held. -/
import Derived.Test.YtgbjgeignbjjnaaX14q
set_option linter.unusedSimpArgs false
set_option linter.unusedVariables false
set_option maxRecDepth 100000
set_option maxHeartbeats 16000000
namespace Go.Eng
open Go Go.Proofs Go.Cats
attribute [local go_sem] sumL3_nil marksSS_nil
theorem sp_markInt64SSS_g {l : List (List (List Int))} {k : Int} (hk : 0 ≤ k) (hl : k + sumL3 l ≤ 9223372036854775807) (h : LLB l) : Spec Try.prog 35 [.sl 0, iv k] [(0, ⟨1, .arr (intsss l)⟩)] (iv (k + sumL3 l)) [(0, ⟨1, .arr (intsss (marksSS k l))⟩)] := by
  refine spec_of_V (E := TE) 1 Try.func35 rfl (by simp [Try.f35]) fun X hn hX => ?_
  have h1 := h.l1
  repeat' (first | (with_reducible first | refine V_seq ?_ | refine V_block ?_ | refine V_skip ?_ | refine V_ret ?_ | refine V_exit ?_) | ((with_reducible refine V_cond ?_); simp only [go_sem, simprocAttr]) | ((refine V_region (by rw [hn]; rfl) ?_); intro K hK) | ((first | with_reducible refine evOps_n ?_ | ((with_reducible apply evOps_g); rfl)); intro K hK; simp (contextual := true) only [go_sem, simprocAttr]) | with_reducible refine evOps_nil ?_ | ((with_reducible refine hK _ ?_); clear hK K) | (with_reducible first | refine And.intro ?_ ?_ | refine nxt_n ?_ | refine nxt_r ?_ | refine nxt_e ?_ | refine blk_n ?_ | refine blk_r ?_ | refine blk_same ?_ | refine blk_other (by decide) ?_ | refine noG_n ?_ | refine noG_r ?_ | refine noG_e ?_ | refine inR_mk ?_ ?_) | (refine fun (hc : (_ : Bool) = _) => ?_; try simp only [hcS] at hc))
  all_goals try exact om_
  refine V_loopK (G := {i : Nat // i ≤ l.length ∧ (True)}) (fun ⟨i, _⟩ => [(1, iv (k + sumL3 (l.take i))), (5, iv i)]) [0, 4] (fun ⟨i, _⟩ => [(0, ⟨1, .arr (intsss (marksSS k (l.take i) ++ l.drop i))⟩)]) [0] (fun zz => l.length - zz.1) ⟨0, Nat.zero_le _, by simp⟩ ?_ ?_
  · exact Imp.au hX
  rintro ⟨i, hii, hwi⟩
  simp only [go_sem, simprocAttr]
  have t1 := sum3_le l i
  have t0 := sum3_le l (i + 1)
  rcases Nat.lt_or_ge i l.length with hlt | hge
  · have e1 := marksSS_getD l k i hlt
    have e2 := sumL3_take l i hlt
    have e4 := marksSS_step l k i hlt
    have t3 := h.l2 i hlt
    repeat' (first | refine V_at 4 (Imp.open_ 0 i _ [] (.inr ⟨rfl, rfl⟩) (by simp [go_sem, simprocAttr]) (by simp [go_sem, simprocAttr]; omega) rfl (by simp only [go_sem, simprocAttr]) rfl) ?_ | refine V_at 3 (Imp.closeA 0 1 _ _ _ rfl rfl (by decide) (by simp [go_sem, simprocAttr]; omega)) ?_ | (with_reducible first | refine V_seq ?_ | refine V_block ?_ | refine V_skip ?_ | refine V_ret ?_ | refine V_exit ?_) | ((with_reducible refine V_cond ?_); simp only [go_sem, simprocAttr]) | ((refine V_region (by rw [hn]; rfl) ?_); intro K hK) | ((first | with_reducible refine evOps_n ?_ | ((with_reducible apply evOps_g); rfl)); intro K hK; simp (contextual := true) only [go_sem, simprocAttr]) | with_reducible refine evOps_nil ?_ | ((with_reducible refine hK _ ?_); clear hK K) | (with_reducible first | refine And.intro ?_ ?_ | refine nxt_n ?_ | refine nxt_r ?_ | refine nxt_e ?_ | refine blk_n ?_ | refine blk_r ?_ | refine blk_same ?_ | refine blk_other (by decide) ?_ | refine noG_n ?_ | refine noG_r ?_ | refine noG_e ?_ | refine inR_mk ?_ ?_) | ((with_reducible refine evCall_at 34 ?_); refine EvCall.mu (by first | (simp only [go_sem, simprocAttr]; rfl) | rfl) (by first | (simp only [go_sem, simprocAttr]; rfl) | rfl) (by first | (simp only [go_sem, simprocAttr]; rfl) | rfl) (sp_markInt64SS ?_ ?_ ?_) cal_markInt64SS (by first | (simp only [go_sem, simprocAttr]; rfl) | rfl) (by first | (simp only [go_sem, simprocAttr]; rfl) | rfl) (by simp [go_sem]) (by simp [go_sem]) ?_; all_goals try simp only [go_sem, simprocAttr]) | (refine fun (hc : (_ : Bool) = _) => ?_; try simp only [hcS] at hc))
    all_goals try exact om_
    all_goals try (rw [e1]; omega)
    · refine ⟨⟨i + 1, by omega, (by trivial)⟩, by simp only; omega, Imp.auto hX (by simp only [go_sem, simprocAttr, e1, e4, e2, Int.natCast_add, Int.add_assoc])⟩
  · repeat' (first | (with_reducible first | refine V_seq ?_ | refine V_block ?_ | refine V_skip ?_ | refine V_ret ?_ | refine V_exit ?_) | ((with_reducible refine V_cond ?_); simp only [go_sem, simprocAttr]) | ((refine V_region (by rw [hn]; rfl) ?_); intro K hK) | ((first | with_reducible refine evOps_n ?_ | ((with_reducible apply evOps_g); rfl)); intro K hK; simp (contextual := true) only [go_sem, simprocAttr]) | with_reducible refine evOps_nil ?_ | ((with_reducible refine hK _ ?_); clear hK K) | (with_reducible first | refine And.intro ?_ ?_ | refine nxt_n ?_ | refine nxt_r ?_ | refine nxt_e ?_ | refine blk_n ?_ | refine blk_r ?_ | refine blk_same ?_ | refine blk_other (by decide) ?_ | refine noG_n ?_ | refine noG_r ?_ | refine noG_e ?_ | refine inR_mk ?_ ?_) | (refine fun (hc : (_ : Bool) = _) => ?_; try simp only [hcS] at hc))
    all_goals try exact om_
    · have e : i = l.length := by omega
      subst e
      (first | refine ret_auto ?_ | refine ret_auto' ?_); simp only [go_sem, simprocAttr, Try.f35]
      simp
def _root_.Go.Cats.Prof.mk_ (k : Int) (p : Prof) : Prof := ⟨p.src.mk_ k, p.tgt.mk_ (k + p.src.mkn), marksS (k + p.src.mkn + p.tgt.mkn) p.sz, marksSS (k + p.src.mkn + p.tgt.mkn + sumLen p.sz) p.bef, marksSS (k + p.src.mkn + p.tgt.mkn + sumLen p.sz + sumL3 p.bef) p.beh⟩
def _root_.Go.Cats.Prof.mkn (p : Prof) : Nat := p.src.mkn + p.tgt.mkn + sumLen p.sz + sumL3 p.bef + sumL3 p.beh
theorem PrB.mkn {p : Prof} (h : PrB p) : p.mkn ≤ 2305852000000000000 := by
  have h0 := h.src.mkn
  have h1 := h.tgt.mkn
  have h2 := sumLen_le_of h.sz h.szr
  have h3 := LLB.tot h.bef
  have h4 := LLB.tot h.beh
  unfold Go.Cats.Prof.mkn; omega
theorem cal_markProfunctor : Callable Try.prog 10 := ⟨_, Try.func10, rfl, rfl⟩
theorem sp_markProfunctor {p : Prof} {k : Int} (hk : 0 ≤ k) (hl : k + p.mkn ≤ 9223372036854775807) (hb : PrB p) : Spec Try.prog 10 [.agg [iv p.src.ob, .sl 0, .sl 1, .sl 2, .sl 3, iv p.tgt.ob, .sl 4, .sl 5, .sl 6, .sl 7, .sl 8, .sl 9, .sl 10], iv k] [(0, ⟨1, .arr (ints p.src.fr)⟩), (1, ⟨1, .arr (ints p.src.to)⟩), (2, ⟨1, .arr (ints p.src.id)⟩), (3, ⟨1, .arr (intss p.src.co)⟩), (4, ⟨1, .arr (ints p.tgt.fr)⟩), (5, ⟨1, .arr (ints p.tgt.to)⟩), (6, ⟨1, .arr (ints p.tgt.id)⟩), (7, ⟨1, .arr (intss p.tgt.co)⟩), (8, ⟨1, .arr (intss p.sz)⟩), (9, ⟨1, .arr (intsss p.bef)⟩), (10, ⟨1, .arr (intsss p.beh)⟩)] (iv (k + p.mkn)) [(0, ⟨1, .arr (ints (p.mk_ k).src.fr)⟩), (1, ⟨1, .arr (ints (p.mk_ k).src.to)⟩), (2, ⟨1, .arr (ints (p.mk_ k).src.id)⟩), (3, ⟨1, .arr (intss (p.mk_ k).src.co)⟩), (4, ⟨1, .arr (ints (p.mk_ k).tgt.fr)⟩), (5, ⟨1, .arr (ints (p.mk_ k).tgt.to)⟩), (6, ⟨1, .arr (ints (p.mk_ k).tgt.id)⟩), (7, ⟨1, .arr (intss (p.mk_ k).tgt.co)⟩), (8, ⟨1, .arr (intss (p.mk_ k).sz)⟩), (9, ⟨1, .arr (intsss (p.mk_ k).bef)⟩), (10, ⟨1, .arr (intsss (p.mk_ k).beh)⟩)] := by
  refine spec_of_V (E := TE) 11 Try.func10 rfl (by simp [Try.f10]) fun X hn hX => ?_
  unfold Go.Cats.Prof.mkn at hl
  obtain ⟨b1, b2, b3, b4, b5, b6⟩ := hb
  have h9 := sp_markInt64SSS_g (l := p.bef) (k := k + p.src.mkn + p.tgt.mkn + sumLen p.sz) (by omega) (by omega) b5
  have h10 := sp_markInt64SSS_g (l := p.beh) (k := k + p.src.mkn + p.tgt.mkn + sumLen p.sz + sumL3 p.bef) (by omega) (by omega) b6
  repeat' (first | (with_reducible first | refine V_seq ?_ | refine V_skip ?_ | refine V_ret ?_) | ((with_reducible refine V_cond ?_); simp only [go_sem, simprocAttr]) | ((refine V_region (by rw [hn]; rfl) ?_); intro K hK) | ((first | with_reducible refine evOps_n ?_ | ((with_reducible apply evOps_g); rfl)); intro K hK; simp (contextual := true) only [go_sem, simprocAttr]) | with_reducible refine evOps_nil ?_ | ((with_reducible refine hK _ ?_); clear hK K) | (with_reducible first | refine And.intro ?_ ?_ | refine nxt_n ?_ | refine nxt_r ?_ | refine inR_mk ?_ ?_) | ((with_reducible refine evCall_at 33 ?_); refine EvCall.mu (by first | (simp only [go_sem, simprocAttr]; rfl) | rfl) (by first | (simp only [go_sem, simprocAttr]; rfl) | rfl) (by first | (simp only [go_sem, simprocAttr]; rfl) | rfl) (sp_markCategory ?_ ?_ ?_) cal_markCategory (by first | (simp only [go_sem, simprocAttr]; rfl) | rfl) (by first | (simp only [go_sem, simprocAttr]; rfl) | rfl) (by simp [go_sem]) (by simp [go_sem]) ?_; all_goals try simp only [go_sem, simprocAttr]) | ((with_reducible refine evCall_at 34 ?_); refine EvCall.mu (by first | (simp only [go_sem, simprocAttr]; rfl) | rfl) (by first | (simp only [go_sem, simprocAttr]; rfl) | rfl) (by first | (simp only [go_sem, simprocAttr]; rfl) | rfl) (sp_markInt64SS ?_ ?_ ?_) cal_markInt64SS (by first | (simp only [go_sem, simprocAttr]; rfl) | rfl) (by first | (simp only [go_sem, simprocAttr]; rfl) | rfl) (by simp [go_sem]) (by simp [go_sem]) ?_; all_goals try simp only [go_sem, simprocAttr]) | ((with_reducible refine (id ?_ : EvCall _ _ [.sl 9,_] _ _)); refine EvCall.mk (h9) cal_markInt64SSS [(0,9)] [] (by simp [go_sem] <;> (repeat' (first | rfl | constructor))) (by simp [go_sem] <;> (repeat' (first | rfl | constructor))) ?_; all_goals try simp only [go_sem, simprocAttr]) | ((with_reducible refine (id ?_ : EvCall _ _ [.sl 10,_] _ _)); refine EvCall.mk (h10) cal_markInt64SSS [(0,10)] [] (by simp [go_sem] <;> (repeat' (first | rfl | constructor))) (by simp [go_sem] <;> (repeat' (first | rfl | constructor))) ?_; all_goals try simp only [go_sem, simprocAttr]) | (refine fun (hc : (_ : Bool) = _) => ?_; try simp only [hcS] at hc))
  all_goals try exact om_
  (first | refine ret_auto ?_ | refine ret_auto' ?_); simp only [go_sem, simprocAttr, Try.f10]
  exact ⟨⟨rfl, rfl, rfl, rfl, rfl, rfl, rfl, rfl, rfl, rfl, rfl⟩, iv_eq (by unfold Go.Cats.Prof.mkn; omega)⟩
/-! ### Lists of four levels -/
structure L4 (l : List (List (List (List Int)))) : Prop where
  one : l.length ≤ 200
  two : ∀ i, i < l.length → L3 (l.getD i [])
  sum : ∀ i, i < l.length → sumL3 (l.getD i []) ≤ 4096
def sumL4 (l : List (List (List (List Int)))) : Nat := (l.map sumL3).sum
theorem sumL4_nil : sumL4 [] = 0 := rfl
theorem sumL4_take (l : List (List (List (List Int)))) (i : Nat) (h : i < l.length) : sumL4 (l.take (i + 1)) = sumL4 (l.take i) + sumL3 (l.getD i []) := by
  unfold sumL4
  rw [List.take_add_one, List.map_append, List.sum_append, List.getElem?_eq_getElem h, List.getD_eq_getElem?_getD, List.getElem?_eq_getElem h]
  simp
theorem L4.tot {l : List (List (List (List Int)))} (h : L4 l) : ∀ i, i ≤ l.length → sumL4 (l.take i) ≤ i * 4096
  | 0, _ => by simp [sumL4]
  | i + 1, hi => by
    rw [sumL4_take l i (by omega)]
    have h1 := h.tot i (by omega)
    have h2 := h.sum i (by omega)
    omega
def marksT (k : Int) : List (List (List (List Int))) → List (List (List (List Int)))
  | [] => []
  | l :: r => marksSS k l :: marksT (k + sumL3 l) r
theorem marksT_nil (k : Int) : marksT k [] = [] := rfl
attribute [local go_sem] sumL4_nil marksT_nil
@[go_sem] theorem marksT_length : ∀ (k : Int) (l : List (List (List (List Int)))), (marksT k l).length = l.length
  | _, [] => rfl
  | k, l :: r => by simp [marksT, marksT_length _ r]
theorem marksT_append : ∀ (k : Int) (l m : List (List (List (List Int)))), marksT k (l ++ m) = marksT k l ++ marksT (k + sumL4 l) m
  | k, [], m => by simp [marksT, sumL4]
  | k, l :: r, m => by
    simp only [List.cons_append, marksT, marksT_append _ r m, sumL4, List.map_cons, List.sum_cons]
    rw [show k + (sumL3 l : Int) + ((r.map sumL3).sum : Nat) = k + ((sumL3 l + (r.map sumL3).sum : Nat) : Int) from by omega]
theorem marksT_step (l : List (List (List (List Int)))) (k : Int) (i : Nat) (h : i < l.length) : (marksT k (l.take i) ++ l.drop i).set i (marksSS (k + sumL4 (l.take i)) (l.getD i [])) = marksT k (l.take (i + 1)) ++ l.drop (i + 1) := by
  have e1 : (marksT k (l.take i)).length = i := by rw [marksT_length]; simp; omega
  have e2 : l.getD i [] = l[i] := by rw [List.getD_eq_getElem?_getD, List.getElem?_eq_getElem h]; rfl
  rw [List.set_append_right _ _ (by omega), e1, Nat.sub_self, List.drop_eq_getElem_cons h, List.set_cons_zero, List.take_succ_eq_append_getElem h, marksT_append, e2, List.append_assoc]
  rfl
theorem marksT_getD (l : List (List (List (List Int)))) (k : Int) (i : Nat) (h : i < l.length) : (marksT k (l.take i) ++ l.drop i).getD i [] = l.getD i [] := by
  have e1 : (marksT k (l.take i)).length = i := by rw [marksT_length]; simp; omega
  simp [List.getD_eq_getElem?_getD, List.getElem?_append_right, e1]
theorem marksT_at : ∀ (l : List (List (List (List Int)))) (k : Int) (i : Nat), i < l.length → (marksT k l).getD i [] = marksSS (k + sumL4 (l.take i)) (l.getD i [])
  | [], _, _, h => by simp at h
  | a :: l, k, 0, _ => by simp [marksT, sumL4]
  | a :: l, k, i + 1, h => by
    have := marksT_at l (k + sumL3 a) i (by simpa using h)
    simp only [marksT, List.getD_cons_succ, List.take_succ_cons, this, sumL4, List.map_cons, List.sum_cons]
    rw [show k + (sumL3 a : Int) + (((l.take i).map sumL3).sum : Nat) = k + ((sumL3 a + ((l.take i).map sumL3).sum : Nat) : Int) from by omega]
@[go_sem] theorem intssss_put (l : List (List (List (List Int)))) (k : Nat) (x : List (List (List Int))) : (intssss l).put k (intsss x) = intssss (l.set k x) := by simp [intssss, Dt.put, Dt.cells, Dt.sz, Dt.df, List.map_set]
theorem cal_eqInt64SSSS : Callable Try.prog 8 := ⟨_, Try.func8, rfl, rfl⟩
theorem sp_eqInt64SSSS {a b : List (List (List (List Int)))} (ha : L4 a) (hb : L4 b) : Spec Try.prog 8 [.bor [] (intssss a), .bor [] (intssss b)] [] (bv (dec (a = b))) [] := by
  refine spec_of_V (E := TE) 0 Try.func8 rfl (by simp [Try.f8]) fun X hn hX => ?_
  have a1 := ha.one
  have b1 := hb.one
  repeat' (first | (with_reducible first | refine V_seq ?_ | refine V_block ?_ | refine V_skip ?_ | refine V_ret ?_ | refine V_exit ?_) | ((with_reducible refine V_cond ?_); simp only [go_sem, simprocAttr]) | ((first | refine V_region (by rw [hn]; rfl) ?_ | refine V_drawn hmix (by rw [hn]; rfl) ?_); intro K hK) | ((first | with_reducible refine evOps_n ?_ | ((with_reducible apply evOps_g); rfl) | with_reducible refine evOpsD_n ?_ | ((with_reducible apply evOpsD_g); rfl)); intro K hK; simp (contextual := true) only [go_sem, simprocAttr]) | with_reducible refine evOps_nil ?_ | ((with_reducible refine evOpsD_nil ?_ ?_); kernel_rfl) | ((with_reducible refine hK _ ?_); clear hK K) | (with_reducible first | refine And.intro ?_ ?_ | refine nxt_n ?_ | refine nxt_r ?_ | refine nxt_e ?_ | refine blk_n ?_ | refine blk_r ?_ | refine blk_same ?_ | refine blk_other (by decide) ?_ | refine noG_n ?_ | refine noG_r ?_ | refine noG_e ?_ | refine inR_mk ?_ ?_) | (refine fun (hc : (_ : Bool) = _) => ?_; try simp only [hcS] at hc))
  all_goals try exact om_
  · (first | refine ret_auto ?_ | refine ret_auto' ?_); simp only [go_sem, simprocAttr, Try.f8]
    exact bv_f (fun e => by subst e; omega)
  refine V_loopK (G := {i : Nat // i ≤ a.length ∧ (a.take i = b.take i)}) (fun ⟨i, _⟩ => [(5, iv i)]) [0, 1] (fun ⟨i, _⟩ => []) [] (fun zz => a.length - zz.1) ⟨0, Nat.zero_le _, by simp⟩ ?_ ?_
  · exact Imp.au hX
  rintro ⟨i, hii, hwi⟩
  simp only [go_sem, simprocAttr]
  rcases Nat.lt_or_ge i a.length with hlt | hge
  · have a2 := ha.two i hlt
    have b2 := hb.two i (by omega)
    repeat' (first | (with_reducible first | refine V_seq ?_ | refine V_block ?_ | refine V_skip ?_ | refine V_ret ?_ | refine V_exit ?_) | ((with_reducible refine V_cond ?_); simp only [go_sem, simprocAttr]) | ((first | refine V_region (by rw [hn]; rfl) ?_ | refine V_drawn hmix (by rw [hn]; rfl) ?_); intro K hK) | ((first | with_reducible refine evOps_n ?_ | ((with_reducible apply evOps_g); rfl) | with_reducible refine evOpsD_n ?_ | ((with_reducible apply evOpsD_g); rfl)); intro K hK; simp (contextual := true) only [go_sem, simprocAttr]) | with_reducible refine evOps_nil ?_ | ((with_reducible refine evOpsD_nil ?_ ?_); kernel_rfl) | ((with_reducible refine hK _ ?_); clear hK K) | (with_reducible first | refine And.intro ?_ ?_ | refine nxt_n ?_ | refine nxt_r ?_ | refine nxt_e ?_ | refine blk_n ?_ | refine blk_r ?_ | refine blk_same ?_ | refine blk_other (by decide) ?_ | refine noG_n ?_ | refine noG_r ?_ | refine noG_e ?_ | refine inR_mk ?_ ?_) | ((with_reducible refine evCall_at 30 ?_); refine EvCall.rq (a := (sp_eqInt64SSS ?_ ?_)) (b := cal_eqInt64SSS) (c := ?_); all_goals try simp only [go_sem, simprocAttr]) | (refine fun (hc : (_ : Bool) = _) => ?_; try simp only [hcS] at hc))
    all_goals try exact om_
    · (first | refine ret_auto ?_ | refine ret_auto' ?_); simp only [go_sem, simprocAttr, Try.f8]
      exact bv_f (fun e => by subst e; exact hc rfl)
    · refine ⟨⟨i + 1, by omega, (by exact take_snoc hwi (by omega) (by omega) hc)⟩, by simp only; omega, Imp.ao hX⟩
  · repeat' (first | (with_reducible first | refine V_seq ?_ | refine V_block ?_ | refine V_skip ?_ | refine V_ret ?_ | refine V_exit ?_) | ((with_reducible refine V_cond ?_); simp only [go_sem, simprocAttr]) | ((first | refine V_region (by rw [hn]; rfl) ?_ | refine V_drawn hmix (by rw [hn]; rfl) ?_); intro K hK) | ((first | with_reducible refine evOps_n ?_ | ((with_reducible apply evOps_g); rfl) | with_reducible refine evOpsD_n ?_ | ((with_reducible apply evOpsD_g); rfl)); intro K hK; simp (contextual := true) only [go_sem, simprocAttr]) | with_reducible refine evOps_nil ?_ | ((with_reducible refine evOpsD_nil ?_ ?_); kernel_rfl) | ((with_reducible refine hK _ ?_); clear hK K) | (with_reducible first | refine And.intro ?_ ?_ | refine nxt_n ?_ | refine nxt_r ?_ | refine nxt_e ?_ | refine blk_n ?_ | refine blk_r ?_ | refine blk_same ?_ | refine blk_other (by decide) ?_ | refine noG_n ?_ | refine noG_r ?_ | refine noG_e ?_ | refine inR_mk ?_ ?_) | (refine fun (hc : (_ : Bool) = _) => ?_; try simp only [hcS] at hc))
    all_goals try exact om_
    · (first | refine ret_auto ?_ | refine ret_auto' ?_); simp only [go_sem, simprocAttr, Try.f8]
      exact bv_t (take_end hwi (by omega) (by omega))
theorem cal_markInt64SSSS : Callable Try.prog 11 := ⟨_, Try.func11, rfl, rfl⟩
theorem sp_markInt64SSSS {l : List (List (List (List Int)))} {k : Int} (hk : 0 ≤ k) (hk2 : k ≤ 1024) (h : L4 l) : Spec Try.prog 11 [.sl 0, iv k] [(0, ⟨1, .arr (intssss l)⟩)] (iv (k + sumL4 l)) [(0, ⟨1, .arr (intssss (marksT k l))⟩)] := by
  refine spec_of_V (E := TE) 1 Try.func11 rfl (by simp [Try.f11]) fun X hn hX => ?_
  have h1 := h.one
  repeat' (first | (with_reducible first | refine V_seq ?_ | refine V_block ?_ | refine V_skip ?_ | refine V_ret ?_ | refine V_exit ?_) | ((with_reducible refine V_cond ?_); simp only [go_sem, simprocAttr]) | ((refine V_region (by rw [hn]; rfl) ?_); intro K hK) | ((first | with_reducible refine evOps_n ?_ | ((with_reducible apply evOps_g); rfl)); intro K hK; simp (contextual := true) only [go_sem, simprocAttr]) | with_reducible refine evOps_nil ?_ | ((with_reducible refine hK _ ?_); clear hK K) | (with_reducible first | refine And.intro ?_ ?_ | refine nxt_n ?_ | refine nxt_r ?_ | refine nxt_e ?_ | refine blk_n ?_ | refine blk_r ?_ | refine blk_same ?_ | refine blk_other (by decide) ?_ | refine noG_n ?_ | refine noG_r ?_ | refine noG_e ?_ | refine inR_mk ?_ ?_) | (refine fun (hc : (_ : Bool) = _) => ?_; try simp only [hcS] at hc))
  all_goals try exact om_
  refine V_loopK (G := {i : Nat // i ≤ l.length ∧ (True)}) (fun ⟨i, _⟩ => [(1, iv (k + sumL4 (l.take i))), (5, iv i)]) [0, 4] (fun ⟨i, _⟩ => [(0, ⟨1, .arr (intssss (marksT k (l.take i) ++ l.drop i))⟩)]) [0] (fun zz => l.length - zz.1) ⟨0, Nat.zero_le _, by simp⟩ ?_ ?_
  · exact Imp.au hX
  rintro ⟨i, hii, hwi⟩
  simp only [go_sem, simprocAttr]
  have t1 := h.tot i (by omega)
  rcases Nat.lt_or_ge i l.length with hlt | hge
  · have e1 := marksT_getD l k i hlt
    have e2 := sumL4_take l i hlt
    have e4 := marksT_step l k i hlt
    have t2 := h.sum i hlt
    have t3 := h.two i hlt
    repeat' (first | refine V_at 4 (Imp.open_ 0 i _ [] (.inr ⟨rfl, rfl⟩) (by simp [go_sem, simprocAttr]) (by simp [go_sem, simprocAttr]; omega) rfl (by simp only [go_sem, simprocAttr]) rfl) ?_ | refine V_at 3 (Imp.closeA 0 1 _ _ _ rfl rfl (by decide) (by simp [go_sem, simprocAttr]; omega)) ?_ | (with_reducible first | refine V_seq ?_ | refine V_block ?_ | refine V_skip ?_ | refine V_ret ?_ | refine V_exit ?_) | ((with_reducible refine V_cond ?_); simp only [go_sem, simprocAttr]) | ((refine V_region (by rw [hn]; rfl) ?_); intro K hK) | ((first | with_reducible refine evOps_n ?_ | ((with_reducible apply evOps_g); rfl)); intro K hK; simp (contextual := true) only [go_sem, simprocAttr]) | with_reducible refine evOps_nil ?_ | ((with_reducible refine hK _ ?_); clear hK K) | (with_reducible first | refine And.intro ?_ ?_ | refine nxt_n ?_ | refine nxt_r ?_ | refine nxt_e ?_ | refine blk_n ?_ | refine blk_r ?_ | refine blk_same ?_ | refine blk_other (by decide) ?_ | refine noG_n ?_ | refine noG_r ?_ | refine noG_e ?_ | refine inR_mk ?_ ?_) | ((with_reducible refine evCall_at 35 ?_); refine EvCall.mu (by first | (simp only [go_sem, simprocAttr]; rfl) | rfl) (by first | (simp only [go_sem, simprocAttr]; rfl) | rfl) (by first | (simp only [go_sem, simprocAttr]; rfl) | rfl) (sp_markInt64SSS ?_ ?_ ?_) cal_markInt64SSS (by first | (simp only [go_sem, simprocAttr]; rfl) | rfl) (by first | (simp only [go_sem, simprocAttr]; rfl) | rfl) (by simp [go_sem]) (by simp [go_sem]) ?_; all_goals try simp only [go_sem, simprocAttr]) | (refine fun (hc : (_ : Bool) = _) => ?_; try simp only [hcS] at hc))
    all_goals try exact om_
    all_goals try (rw [e1]; first | omega | assumption)
    · refine ⟨⟨i + 1, by omega, (by trivial)⟩, by simp only; omega, Imp.auto hX (by simp only [go_sem, simprocAttr, e1, e4, e2, Int.natCast_add, Int.add_assoc])⟩
  · repeat' (first | (with_reducible first | refine V_seq ?_ | refine V_block ?_ | refine V_skip ?_ | refine V_ret ?_ | refine V_exit ?_) | ((with_reducible refine V_cond ?_); simp only [go_sem, simprocAttr]) | ((refine V_region (by rw [hn]; rfl) ?_); intro K hK) | ((first | with_reducible refine evOps_n ?_ | ((with_reducible apply evOps_g); rfl)); intro K hK; simp (contextual := true) only [go_sem, simprocAttr]) | with_reducible refine evOps_nil ?_ | ((with_reducible refine hK _ ?_); clear hK K) | (with_reducible first | refine And.intro ?_ ?_ | refine nxt_n ?_ | refine nxt_r ?_ | refine nxt_e ?_ | refine blk_n ?_ | refine blk_r ?_ | refine blk_same ?_ | refine blk_other (by decide) ?_ | refine noG_n ?_ | refine noG_r ?_ | refine noG_e ?_ | refine inR_mk ?_ ?_) | (refine fun (hc : (_ : Bool) = _) => ?_; try simp only [hcS] at hc))
    all_goals try exact om_
    · have e : i = l.length := by omega
      subst e
      (first | refine ret_auto ?_ | refine ret_auto' ?_); simp only [go_sem, simprocAttr, Try.f11]
      simp
theorem cal_heldInt64SSSS : Callable Try.prog 12 := ⟨_, Try.func12, rfl, rfl⟩
theorem sp_heldInt64SSSS_at {m l : List (List (List (List Int)))} {k : Int} (e : m = marksT k l) (hk : 0 ≤ k) (hk2 : k ≤ 1024) (h : L4 l) : Spec Try.prog 12 [.bor [] (intssss m), iv k] [] (iv (k + sumL4 l)) [] := by
  subst e
  have h1 := h.one
  refine spec_of_V (E := TE) 0 Try.func12 rfl (by simp [Try.f12]) fun X hn hX => ?_
  repeat' (first | (with_reducible first | refine V_seq ?_ | refine V_block ?_ | refine V_skip ?_ | refine V_ret ?_ | refine V_exit ?_) | ((with_reducible refine V_cond ?_); simp only [go_sem, simprocAttr]) | ((refine V_region (by rw [hn]; rfl) ?_); intro K hK) | ((first | with_reducible refine evOps_n ?_ | ((with_reducible apply evOps_g); rfl)); intro K hK; simp (contextual := true) only [go_sem, simprocAttr]) | with_reducible refine evOps_nil ?_ | ((with_reducible refine hK _ ?_); clear hK K) | (with_reducible first | refine And.intro ?_ ?_ | refine nxt_n ?_ | refine nxt_r ?_ | refine nxt_e ?_ | refine blk_n ?_ | refine blk_r ?_ | refine blk_same ?_ | refine blk_other (by decide) ?_ | refine noG_n ?_ | refine noG_r ?_ | refine noG_e ?_ | refine inR_mk ?_ ?_) | (refine fun (hc : (_ : Bool) = _) => ?_; try simp only [hcS] at hc))
  all_goals try exact om_
  refine V_loopK (G := {i : Nat // i ≤ l.length ∧ (True)}) (fun ⟨i, _⟩ => [(1, iv (k + sumL4 (l.take i))), (5, iv i)]) [0] (fun ⟨i, _⟩ => []) [] (fun zz => l.length - zz.1) ⟨0, Nat.zero_le _, by simp⟩ ?_ ?_
  · exact Imp.au hX
  rintro ⟨i, hii, hwi⟩
  simp only [go_sem, simprocAttr]
  have t1 := h.tot i (by omega)
  rcases Nat.lt_or_ge i l.length with hlt | hge
  · have e1 := marksT_at l k i hlt
    have e2 := sumL4_take l i hlt
    have t2 := h.sum i hlt
    have t3 := h.two i hlt
    repeat' (first | (with_reducible first | refine V_seq ?_ | refine V_block ?_ | refine V_skip ?_ | refine V_ret ?_ | refine V_exit ?_) | ((with_reducible refine V_cond ?_); simp only [go_sem, simprocAttr]) | ((refine V_region (by rw [hn]; rfl) ?_); intro K hK) | ((first | with_reducible refine evOps_n ?_ | ((with_reducible apply evOps_g); rfl)); intro K hK; simp (contextual := true) only [go_sem, simprocAttr]) | with_reducible refine evOps_nil ?_ | ((with_reducible refine hK _ ?_); clear hK K) | (with_reducible first | refine And.intro ?_ ?_ | refine nxt_n ?_ | refine nxt_r ?_ | refine nxt_e ?_ | refine blk_n ?_ | refine blk_r ?_ | refine blk_same ?_ | refine blk_other (by decide) ?_ | refine noG_n ?_ | refine noG_r ?_ | refine noG_e ?_ | refine inR_mk ?_ ?_) | ((with_reducible refine evCall_at 36 ?_); refine EvCall.rq (a := (sp_heldInt64SSS_at (by first | omega | assumption | rfl) (by first | omega | assumption | rfl) (by first | omega | assumption | rfl) (by first | omega | assumption | rfl))) (b := cal_heldInt64SSS) (c := ?_); all_goals try simp only [go_sem, simprocAttr]) | (refine fun (hc : (_ : Bool) = _) => ?_; try simp only [hcS] at hc))
    all_goals try exact om_
    refine ⟨⟨i + 1, by omega, (by trivial)⟩, by simp only; omega, Imp.auto hX (by simp only [go_sem, simprocAttr, e2, Int.natCast_add, Int.add_assoc])⟩
  · have e : i = l.length := by omega
    subst e
    repeat' (first | (with_reducible first | refine V_seq ?_ | refine V_block ?_ | refine V_skip ?_ | refine V_ret ?_ | refine V_exit ?_) | ((with_reducible refine V_cond ?_); simp only [go_sem, simprocAttr]) | ((refine V_region (by rw [hn]; rfl) ?_); intro K hK) | ((first | with_reducible refine evOps_n ?_ | ((with_reducible apply evOps_g); rfl)); intro K hK; simp (contextual := true) only [go_sem, simprocAttr]) | with_reducible refine evOps_nil ?_ | ((with_reducible refine hK _ ?_); clear hK K) | (with_reducible first | refine And.intro ?_ ?_ | refine nxt_n ?_ | refine nxt_r ?_ | refine nxt_e ?_ | refine blk_n ?_ | refine blk_r ?_ | refine blk_same ?_ | refine blk_other (by decide) ?_ | refine noG_n ?_ | refine noG_r ?_ | refine noG_e ?_ | refine inR_mk ?_ ?_) | (refine fun (hc : (_ : Bool) = _) => ?_; try simp only [hcS] at hc))
    all_goals try exact om_
    (first | refine ret_auto ?_ | refine ret_auto' ?_); simp only [go_sem, simprocAttr, Try.f12]
    rw [List.take_length]
end Go.Eng
