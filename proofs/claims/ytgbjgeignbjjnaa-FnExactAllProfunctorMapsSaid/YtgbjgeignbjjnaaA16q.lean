/- The law's own functions: set functors are marked; lists of lists of lists of numbers are compared, marked and held. -/
import Derived.Test.YtgbjgeignbjjnaaKox
set_option linter.unusedSimpArgs false
set_option linter.unusedVariables false
set_option maxRecDepth 100000
set_option maxHeartbeats 8000000
namespace Go.Eng
open Go Go.Proofs Go.Cats
def _root_.Go.Cats.SF.mk_ (k : Int) (f : SF) : SF := ⟨f.shape.mk_ k, marks (k + f.shape.mkn) f.sizes.length, marksS (k + f.shape.mkn + f.sizes.length) f.acts⟩
def _root_.Go.Cats.SF.mkn (f : SF) : Nat := f.shape.mkn + f.sizes.length + sumLen f.acts
/-! ### Lists of lists of lists -/
structure L3 (l : List (List (List Int))) : Prop where
  one : l.length ≤ 4096
  two : ∀ i, i < l.length → (l.getD i []).length ≤ 1048576
  three : ∀ i, i < l.length → ∀ j, j < (l.getD i []).length → ((l.getD i []).getD j []).length ≤ 1048576
theorem L3.sum {l : List (List (List Int))} (h : L3 l) {i : Nat} (hi : i < l.length) : sumLen (l.getD i []) ≤ 1099511627776 := sumLen_le_of (h.two i hi) (h.three i hi)
def sumL3 (l : List (List (List Int))) : Nat := (l.map sumLen).sum
theorem sumL3_nil : sumL3 [] = 0 := rfl
theorem sumL3_take (l : List (List (List Int))) (i : Nat) (h : i < l.length) : sumL3 (l.take (i + 1)) = sumL3 (l.take i) + sumLen (l.getD i []) := by
  unfold sumL3
  rw [List.take_add_one, List.map_append, List.sum_append, List.getElem?_eq_getElem h, List.getD_eq_getElem?_getD, List.getElem?_eq_getElem h]
  simp
theorem L3.tot {l : List (List (List Int))} (h : L3 l) : ∀ i, i ≤ l.length → sumL3 (l.take i) ≤ i * 1099511627776
  | 0, _ => by simp [sumL3]
  | i + 1, hi => by
    rw [sumL3_take l i (by omega)]
    have h1 := h.tot i (by omega)
    have h2 := h.sum (i := i) (by omega)
    omega
def marksSS (k : Int) : List (List (List Int)) → List (List (List Int))
  | [] => []
  | l :: r => marksS k l :: marksSS (k + sumLen l) r
theorem marksSS_nil (k : Int) : marksSS k [] = [] := rfl
attribute [local go_sem] sumL3_nil marksSS_nil
@[go_sem] theorem marksSS_length : ∀ (k : Int) (l : List (List (List Int))), (marksSS k l).length = l.length
  | _, [] => rfl
  | k, l :: r => by simp [marksSS, marksSS_length _ r]
theorem marksSS_append : ∀ (k : Int) (l m : List (List (List Int))), marksSS k (l ++ m) = marksSS k l ++ marksSS (k + sumL3 l) m
  | k, [], m => by simp [marksSS, sumL3]
  | k, l :: r, m => by
    simp only [List.cons_append, marksSS, marksSS_append _ r m, sumL3, List.map_cons, List.sum_cons]
    rw [show k + (sumLen l : Int) + ((r.map sumLen).sum : Nat) = k + ((sumLen l + (r.map sumLen).sum : Nat) : Int) from by omega]
theorem marksSS_step (l : List (List (List Int))) (k : Int) (i : Nat) (h : i < l.length) : (marksSS k (l.take i) ++ l.drop i).set i (marksS (k + sumL3 (l.take i)) (l.getD i [])) = marksSS k (l.take (i + 1)) ++ l.drop (i + 1) := by
  have e1 : (marksSS k (l.take i)).length = i := by rw [marksSS_length]; simp; omega
  have e2 : l.getD i [] = l[i] := by rw [List.getD_eq_getElem?_getD, List.getElem?_eq_getElem h]; rfl
  rw [List.set_append_right _ _ (by omega), e1, Nat.sub_self, List.drop_eq_getElem_cons h, List.set_cons_zero, List.take_succ_eq_append_getElem h, marksSS_append, e2, List.append_assoc]
  rfl
theorem marksSS_getD (l : List (List (List Int))) (k : Int) (i : Nat) (h : i < l.length) : (marksSS k (l.take i) ++ l.drop i).getD i [] = l.getD i [] := by
  have e1 : (marksSS k (l.take i)).length = i := by rw [marksSS_length]; simp; omega
  simp [List.getD_eq_getElem?_getD, List.getElem?_append_right, e1]
theorem marksSS_at : ∀ (l : List (List (List Int))) (k : Int) (i : Nat), i < l.length → (marksSS k l).getD i [] = marksS (k + sumL3 (l.take i)) (l.getD i [])
  | [], _, _, h => by simp at h
  | a :: l, k, 0, _ => by simp [marksSS, sumL3]
  | a :: l, k, i + 1, h => by
    have := marksSS_at l (k + sumLen a) i (by simpa using h)
    simp only [marksSS, List.getD_cons_succ, List.take_succ_cons, this, sumL3, List.map_cons, List.sum_cons]
    rw [show k + (sumLen a : Int) + (((l.take i).map sumLen).sum : Nat) = k + ((sumLen a + ((l.take i).map sumLen).sum : Nat) : Int) from by omega]
theorem cal_eqInt64SSS : Callable Try.prog 30 := ⟨_, Try.func30, rfl, rfl⟩
theorem sp_eqInt64SSS {a b : List (List (List Int))} (ha : L3 a) (hb : L3 b) : Spec Try.prog 30 [.bor [] (intsss a), .bor [] (intsss b)] [] (bv (dec (a = b))) [] := by
  refine spec_of_V (E := TE) 0 Try.func30 rfl (by simp [Try.f30]) fun X hn hX => ?_
  have a1 := ha.one
  have b1 := hb.one
  repeat' (first | (with_reducible first | refine V_seq ?_ | refine V_block ?_ | refine V_skip ?_ | refine V_ret ?_ | refine V_exit ?_) | ((with_reducible refine V_cond ?_); simp only [go_sem, simprocAttr]) | ((first | refine V_region (by rw [hn]; rfl) ?_ | refine V_drawn hmix (by rw [hn]; rfl) ?_); intro K hK) | ((first | with_reducible refine evOps_n ?_ | ((with_reducible apply evOps_g); rfl) | with_reducible refine evOpsD_n ?_ | ((with_reducible apply evOpsD_g); rfl)); intro K hK; simp (contextual := true) only [go_sem, simprocAttr]) | with_reducible refine evOps_nil ?_ | ((with_reducible refine evOpsD_nil ?_ ?_); kernel_rfl) | ((with_reducible refine hK _ ?_); clear hK K) | (with_reducible first | refine And.intro ?_ ?_ | refine nxt_n ?_ | refine nxt_r ?_ | refine nxt_e ?_ | refine blk_n ?_ | refine blk_r ?_ | refine blk_same ?_ | refine blk_other (by decide) ?_ | refine noG_n ?_ | refine noG_r ?_ | refine noG_e ?_ | refine inR_mk ?_ ?_) | (refine fun (hc : (_ : Bool) = _) => ?_; try simp only [hcS] at hc))
  all_goals try exact om_
  · (first | refine ret_auto ?_ | refine ret_auto' ?_); simp only [go_sem, simprocAttr, Try.f30]
    exact bv_f (fun e => by subst e; omega)
  refine V_loopK (G := {i : Nat // i ≤ a.length ∧ (a.take i = b.take i)}) (fun ⟨i, _⟩ => [(5, iv i)]) [0, 1] (fun ⟨i, _⟩ => []) [] (fun zz => a.length - zz.1) ⟨0, Nat.zero_le _, by simp⟩ ?_ ?_
  · exact Imp.au hX
  rintro ⟨i, hii, hwi⟩
  simp only [go_sem, simprocAttr]
  rcases Nat.lt_or_ge i a.length with hlt | hge
  · have a2 := ha.two i hlt
    have a3 := ha.three i hlt
    have b2 := hb.two i (by omega)
    have b3 := hb.three i (by omega)
    repeat' (first | (with_reducible first | refine V_seq ?_ | refine V_block ?_ | refine V_skip ?_ | refine V_ret ?_ | refine V_exit ?_) | ((with_reducible refine V_cond ?_); simp only [go_sem, simprocAttr]) | ((first | refine V_region (by rw [hn]; rfl) ?_ | refine V_drawn hmix (by rw [hn]; rfl) ?_); intro K hK) | ((first | with_reducible refine evOps_n ?_ | ((with_reducible apply evOps_g); rfl) | with_reducible refine evOpsD_n ?_ | ((with_reducible apply evOpsD_g); rfl)); intro K hK; simp (contextual := true) only [go_sem, simprocAttr]) | with_reducible refine evOps_nil ?_ | ((with_reducible refine evOpsD_nil ?_ ?_); kernel_rfl) | ((with_reducible refine hK _ ?_); clear hK K) | (with_reducible first | refine And.intro ?_ ?_ | refine nxt_n ?_ | refine nxt_r ?_ | refine nxt_e ?_ | refine blk_n ?_ | refine blk_r ?_ | refine blk_same ?_ | refine blk_other (by decide) ?_ | refine noG_n ?_ | refine noG_r ?_ | refine noG_e ?_ | refine inR_mk ?_ ?_) | ((with_reducible refine evCall_at 32 ?_); refine EvCall.rq (a := (sp_eqInt64SS ?_ ?_ ?_ ?_)) (b := cal_eqInt64SS) (c := ?_); all_goals try simp only [go_sem, simprocAttr]) | (refine fun (hc : (_ : Bool) = _) => ?_; try simp only [hcS] at hc))
    all_goals try exact om_
    · (first | refine ret_auto ?_ | refine ret_auto' ?_); simp only [go_sem, simprocAttr, Try.f30]
      exact bv_f (fun e => by subst e; exact hc rfl)
    · refine ⟨⟨i + 1, by omega, (by exact take_snoc hwi (by omega) (by omega) hc)⟩, by simp only; omega, Imp.ao hX⟩
  · repeat' (first | (with_reducible first | refine V_seq ?_ | refine V_block ?_ | refine V_skip ?_ | refine V_ret ?_ | refine V_exit ?_) | ((with_reducible refine V_cond ?_); simp only [go_sem, simprocAttr]) | ((first | refine V_region (by rw [hn]; rfl) ?_ | refine V_drawn hmix (by rw [hn]; rfl) ?_); intro K hK) | ((first | with_reducible refine evOps_n ?_ | ((with_reducible apply evOps_g); rfl) | with_reducible refine evOpsD_n ?_ | ((with_reducible apply evOpsD_g); rfl)); intro K hK; simp (contextual := true) only [go_sem, simprocAttr]) | with_reducible refine evOps_nil ?_ | ((with_reducible refine evOpsD_nil ?_ ?_); kernel_rfl) | ((with_reducible refine hK _ ?_); clear hK K) | (with_reducible first | refine And.intro ?_ ?_ | refine nxt_n ?_ | refine nxt_r ?_ | refine nxt_e ?_ | refine blk_n ?_ | refine blk_r ?_ | refine blk_same ?_ | refine blk_other (by decide) ?_ | refine noG_n ?_ | refine noG_r ?_ | refine noG_e ?_ | refine inR_mk ?_ ?_) | (refine fun (hc : (_ : Bool) = _) => ?_; try simp only [hcS] at hc))
    all_goals try exact om_
    · (first | refine ret_auto ?_ | refine ret_auto' ?_); simp only [go_sem, simprocAttr, Try.f30]
      exact bv_t (take_end hwi (by omega) (by omega))
theorem cal_markInt64SSS : Callable Try.prog 35 := ⟨_, Try.func35, rfl, rfl⟩
theorem sp_markInt64SSS {l : List (List (List Int))} {k : Int} (hk : 0 ≤ k) (hk2 : k ≤ 1048576) (h : L3 l) : Spec Try.prog 35 [.sl 0, iv k] [(0, ⟨1, .arr (intsss l)⟩)] (iv (k + sumL3 l)) [(0, ⟨1, .arr (intsss (marksSS k l))⟩)] := by
  refine spec_of_V (E := TE) 1 Try.func35 rfl (by simp [Try.f35]) fun X hn hX => ?_
  have h1 := h.one
  repeat' (first | (with_reducible first | refine V_seq ?_ | refine V_block ?_ | refine V_skip ?_ | refine V_ret ?_ | refine V_exit ?_) | ((with_reducible refine V_cond ?_); simp only [go_sem, simprocAttr]) | ((refine V_region (by rw [hn]; rfl) ?_); intro K hK) | ((first | with_reducible refine evOps_n ?_ | ((with_reducible apply evOps_g); rfl)); intro K hK; simp (contextual := true) only [go_sem, simprocAttr]) | with_reducible refine evOps_nil ?_ | ((with_reducible refine hK _ ?_); clear hK K) | (with_reducible first | refine And.intro ?_ ?_ | refine nxt_n ?_ | refine nxt_r ?_ | refine nxt_e ?_ | refine blk_n ?_ | refine blk_r ?_ | refine blk_same ?_ | refine blk_other (by decide) ?_ | refine noG_n ?_ | refine noG_r ?_ | refine noG_e ?_ | refine inR_mk ?_ ?_) | (refine fun (hc : (_ : Bool) = _) => ?_; try simp only [hcS] at hc))
  all_goals try exact om_
  refine V_loopK (G := {i : Nat // i ≤ l.length ∧ (True)}) (fun ⟨i, _⟩ => [(1, iv (k + sumL3 (l.take i))), (5, iv i)]) [0, 4] (fun ⟨i, _⟩ => [(0, ⟨1, .arr (intsss (marksSS k (l.take i) ++ l.drop i))⟩)]) [0] (fun zz => l.length - zz.1) ⟨0, Nat.zero_le _, by simp⟩ ?_ ?_
  · exact Imp.au hX
  rintro ⟨i, hii, hwi⟩
  simp only [go_sem, simprocAttr]
  have t1 := h.tot i (by omega)
  rcases Nat.lt_or_ge i l.length with hlt | hge
  · have e1 := marksSS_getD l k i hlt
    have e2 := sumL3_take l i hlt
    have e4 := marksSS_step l k i hlt
    have t2 := h.sum hlt
    have t3 := h.two i hlt
    repeat' (first | refine V_at 4 (Imp.open_ 0 i _ [] (.inr ⟨rfl, rfl⟩) (by simp [go_sem, simprocAttr]) (by simp [go_sem, simprocAttr]; omega) rfl (by simp only [go_sem, simprocAttr]) rfl) ?_ | refine V_at 3 (Imp.closeA 0 1 _ _ _ rfl rfl (by decide) (by simp [go_sem, simprocAttr]; omega)) ?_ | (with_reducible first | refine V_seq ?_ | refine V_block ?_ | refine V_skip ?_ | refine V_ret ?_ | refine V_exit ?_) | ((with_reducible refine V_cond ?_); simp only [go_sem, simprocAttr]) | ((refine V_region (by rw [hn]; rfl) ?_); intro K hK) | ((first | with_reducible refine evOps_n ?_ | ((with_reducible apply evOps_g); rfl)); intro K hK; simp (contextual := true) only [go_sem, simprocAttr]) | with_reducible refine evOps_nil ?_ | ((with_reducible refine hK _ ?_); clear hK K) | (with_reducible first | refine And.intro ?_ ?_ | refine nxt_n ?_ | refine nxt_r ?_ | refine nxt_e ?_ | refine blk_n ?_ | refine blk_r ?_ | refine blk_same ?_ | refine blk_other (by decide) ?_ | refine noG_n ?_ | refine noG_r ?_ | refine noG_e ?_ | refine inR_mk ?_ ?_) | ((with_reducible refine evCall_at 34 ?_); refine EvCall.mu (by first | (simp only [go_sem, simprocAttr]; rfl) | rfl) (by first | (simp only [go_sem, simprocAttr]; rfl) | rfl) (by first | (simp only [go_sem, simprocAttr]; rfl) | rfl) (sp_markInt64SS ?_ ?_ ?_) cal_markInt64SS (by first | (simp only [go_sem, simprocAttr]; rfl) | rfl) (by first | (simp only [go_sem, simprocAttr]; rfl) | rfl) (by simp [go_sem]) (by simp [go_sem]) ?_; all_goals try simp only [go_sem, simprocAttr]) | (refine fun (hc : (_ : Bool) = _) => ?_; try simp only [hcS] at hc))
    all_goals try exact om_
    all_goals try (rw [e1]; omega)
    · refine ⟨⟨i + 1, by omega, (by trivial)⟩, by simp only; omega, Imp.auto hX (by simp only [go_sem, simprocAttr, e1, e4, e2, Int.natCast_add, Int.add_assoc])⟩
  · repeat' (first | (with_reducible first | refine V_seq ?_ | refine V_block ?_ | refine V_skip ?_ | refine V_ret ?_ | refine V_exit ?_) | ((with_reducible refine V_cond ?_); simp only [go_sem, simprocAttr]) | ((refine V_region (by rw [hn]; rfl) ?_); intro K hK) | ((first | with_reducible refine evOps_n ?_ | ((with_reducible apply evOps_g); rfl)); intro K hK; simp (contextual := true) only [go_sem, simprocAttr]) | with_reducible refine evOps_nil ?_ | ((with_reducible refine hK _ ?_); clear hK K) | (with_reducible first | refine And.intro ?_ ?_ | refine nxt_n ?_ | refine nxt_r ?_ | refine nxt_e ?_ | refine blk_n ?_ | refine blk_r ?_ | refine blk_same ?_ | refine blk_other (by decide) ?_ | refine noG_n ?_ | refine noG_r ?_ | refine noG_e ?_ | refine inR_mk ?_ ?_) | (refine fun (hc : (_ : Bool) = _) => ?_; try simp only [hcS] at hc))
    all_goals try exact om_
    · have e : i = l.length := by omega
      subst e
      (first | refine ret_auto ?_ | refine ret_auto' ?_); simp only [go_sem, simprocAttr, Try.f35]
      simp
theorem cal_heldInt64SSS : Callable Try.prog 36 := ⟨_, Try.func36, rfl, rfl⟩
theorem sp_heldInt64SSS_at {m l : List (List (List Int))} {k : Int} (e : m = marksSS k l) (hk : 0 ≤ k) (hk2 : k ≤ 1048576) (h : L3 l) : Spec Try.prog 36 [.bor [] (intsss m), iv k] [] (iv (k + sumL3 l)) [] := by
  subst e
  have h1 := h.one
  refine spec_of_V (E := TE) 0 Try.func36 rfl (by simp [Try.f36]) fun X hn hX => ?_
  repeat' (first | (with_reducible first | refine V_seq ?_ | refine V_block ?_ | refine V_skip ?_ | refine V_ret ?_ | refine V_exit ?_) | ((with_reducible refine V_cond ?_); simp only [go_sem, simprocAttr]) | ((refine V_region (by rw [hn]; rfl) ?_); intro K hK) | ((first | with_reducible refine evOps_n ?_ | ((with_reducible apply evOps_g); rfl)); intro K hK; simp (contextual := true) only [go_sem, simprocAttr]) | with_reducible refine evOps_nil ?_ | ((with_reducible refine hK _ ?_); clear hK K) | (with_reducible first | refine And.intro ?_ ?_ | refine nxt_n ?_ | refine nxt_r ?_ | refine nxt_e ?_ | refine blk_n ?_ | refine blk_r ?_ | refine blk_same ?_ | refine blk_other (by decide) ?_ | refine noG_n ?_ | refine noG_r ?_ | refine noG_e ?_ | refine inR_mk ?_ ?_) | (refine fun (hc : (_ : Bool) = _) => ?_; try simp only [hcS] at hc))
  all_goals try exact om_
  refine V_loopK (G := {i : Nat // i ≤ l.length ∧ (True)}) (fun ⟨i, _⟩ => [(1, iv (k + sumL3 (l.take i))), (5, iv i)]) [0] (fun ⟨i, _⟩ => []) [] (fun zz => l.length - zz.1) ⟨0, Nat.zero_le _, by simp⟩ ?_ ?_
  · exact Imp.au hX
  rintro ⟨i, hii, hwi⟩
  simp only [go_sem, simprocAttr]
  have t1 := h.tot i (by omega)
  rcases Nat.lt_or_ge i l.length with hlt | hge
  · have e1 := marksSS_at l k i hlt
    have e2 := sumL3_take l i hlt
    have t2 := h.sum hlt
    have t3 := h.two i hlt
    repeat' (first | (with_reducible first | refine V_seq ?_ | refine V_block ?_ | refine V_skip ?_ | refine V_ret ?_ | refine V_exit ?_) | ((with_reducible refine V_cond ?_); simp only [go_sem, simprocAttr]) | ((refine V_region (by rw [hn]; rfl) ?_); intro K hK) | ((first | with_reducible refine evOps_n ?_ | ((with_reducible apply evOps_g); rfl)); intro K hK; simp (contextual := true) only [go_sem, simprocAttr]) | with_reducible refine evOps_nil ?_ | ((with_reducible refine hK _ ?_); clear hK K) | (with_reducible first | refine And.intro ?_ ?_ | refine nxt_n ?_ | refine nxt_r ?_ | refine nxt_e ?_ | refine blk_n ?_ | refine blk_r ?_ | refine blk_same ?_ | refine blk_other (by decide) ?_ | refine noG_n ?_ | refine noG_r ?_ | refine noG_e ?_ | refine inR_mk ?_ ?_) | ((with_reducible refine evCall_at 52 ?_); refine EvCall.rq (a := (sp_heldInt64SS_at (by first | omega | assumption | rfl) (by first | omega | assumption | rfl) (by first | omega | assumption | rfl) (by first | omega | assumption | rfl))) (b := cal_heldInt64SS) (c := ?_); all_goals try simp only [go_sem, simprocAttr]) | (refine fun (hc : (_ : Bool) = _) => ?_; try simp only [hcS] at hc))
    all_goals try exact om_
    refine ⟨⟨i + 1, by omega, (by trivial)⟩, by simp only; omega, Imp.auto hX (by simp only [go_sem, simprocAttr, e2, Int.natCast_add, Int.add_assoc])⟩
  · have e : i = l.length := by omega
    subst e
    repeat' (first | (with_reducible first | refine V_seq ?_ | refine V_block ?_ | refine V_skip ?_ | refine V_ret ?_ | refine V_exit ?_) | ((with_reducible refine V_cond ?_); simp only [go_sem, simprocAttr]) | ((refine V_region (by rw [hn]; rfl) ?_); intro K hK) | ((first | with_reducible refine evOps_n ?_ | ((with_reducible apply evOps_g); rfl)); intro K hK; simp (contextual := true) only [go_sem, simprocAttr]) | with_reducible refine evOps_nil ?_ | ((with_reducible refine hK _ ?_); clear hK K) | (with_reducible first | refine And.intro ?_ ?_ | refine nxt_n ?_ | refine nxt_r ?_ | refine nxt_e ?_ | refine blk_n ?_ | refine blk_r ?_ | refine blk_same ?_ | refine blk_other (by decide) ?_ | refine noG_n ?_ | refine noG_r ?_ | refine noG_e ?_ | refine inR_mk ?_ ?_) | (refine fun (hc : (_ : Bool) = _) => ?_; try simp only [hcS] at hc))
    all_goals try exact om_
    (first | refine ret_auto ?_ | refine ret_auto' ?_); simp only [go_sem, simprocAttr, Try.f36]
    rw [List.take_length]
end Go.Eng
