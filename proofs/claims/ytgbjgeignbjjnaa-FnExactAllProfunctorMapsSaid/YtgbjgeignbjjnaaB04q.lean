/- Lists of numbers by the reference: an index, a count, a repetition, the top, classes, classes joined. -/
import Derived.Test.YtgbjgeignbjjnaaKjx
set_option linter.unusedSimpArgs false
set_option linter.unusedVariables false
set_option maxRecDepth 100000
set_option maxHeartbeats 16000000
namespace Go.Eng
open Go Go.Proofs Go.Cats
theorem hook_max {E : Env} {d : Option Nat} {σ : Ss} {K : Ss → Prop} {t u : TypeId} {x y : Operand} {k : IntKind} {a b : Int} (hx : σ.opd x = .v (.int k a)) (hy : σ.opd y = .v (.int k b)) (hK : K (σ.ap d (.v (.int k (if b > a then b else a))) [] σ.nx)) :
    EvHook E d (.call { callee := .builtin .max, args := #[x, y], argTypes := #[t, u] }) σ K := by
  refine ⟨[], _, [], _, fun X o _ hd ho hdn tm rs h1 h2 => ?_, hK, fun i hi => by simp at hi⟩
  refine step_val (E := E) (by rw [hd]; exact hdn) _ fun ac w c hp h => ?_
  have hx1 := h x
  have hy1 := h y
  rw [h1 x (by rw [ho]; simp [Op.operands, Call.operands]), show opd (lk σ.tm) x = σ.opd x from rfl, hx] at hx1
  rw [h1 y (by rw [ho]; simp [Op.operands, Call.operands]), show opd (lk σ.tm) y = σ.opd y from rfl, hy] at hy1
  simp only [Sv.ok] at hx1 hy1
  simp [execOp, ho, resolve, invoke, builtin, hx1, hy1, Builtin.max_, Builtin.max2]
theorem cal_l01Index : Callable Try.prog 85 := ⟨_, Try.func85, rfl, rfl⟩
theorem sp_l01Index {l : List Int} {n : Int} (hl : l.length ≤ 1048576) : Spec Try.prog 85 [.bor [] (ints l), iv n] [] (iv (idxOf l n)) [] := by
  refine spec_of_V (E := TE) 0 Try.func85 rfl (by simp [Try.f85]) fun X hn hX => ?_
  repeat' (first | (with_reducible first | refine V_seq ?_ | refine V_block ?_ | refine V_skip ?_ | refine V_ret ?_ | refine V_exit ?_) | ((with_reducible refine V_cond ?_); simp only [go_sem, simprocAttr]) | ((refine V_region (by rw [hn]; rfl) ?_); intro K hK) | ((first | with_reducible refine evOps_n ?_ | ((with_reducible apply evOps_g); rfl)); intro K hK; simp (contextual := true) only [go_sem, simprocAttr]) | with_reducible refine evOps_nil ?_ | ((with_reducible refine hK _ ?_); clear hK K) | (with_reducible first | refine And.intro ?_ ?_ | refine nxt_n ?_ | refine nxt_r ?_ | refine nxt_e ?_ | refine blk_n ?_ | refine blk_r ?_ | refine blk_same ?_ | refine blk_other (by decide) ?_ | refine noG_n ?_ | refine noG_r ?_ | refine noG_e ?_ | refine inR_mk ?_ ?_) | (refine fun (hc : (_ : Bool) = _) => ?_; try simp only [hcS] at hc))
  refine V_loopK (G := {i : Nat // i ≤ l.length ∧ (scan i (idxO l n) = none)}) (fun ⟨i, _⟩ => [(5, iv i)]) [0, 1] (fun ⟨i, _⟩ => []) [] (fun zz => l.length - zz.1) ⟨0, Nat.zero_le _, by rfl⟩ ?_ ?_
  · exact Imp.au hX
  rintro ⟨i, hii, hwi⟩
  simp only [go_sem, simprocAttr]
  repeat' (first | (with_reducible first | refine V_seq ?_ | refine V_block ?_ | refine V_skip ?_ | refine V_ret ?_ | refine V_exit ?_) | ((with_reducible refine V_cond ?_); simp only [go_sem, simprocAttr]) | ((refine V_region (by rw [hn]; rfl) ?_); intro K hK) | ((first | with_reducible refine evOps_n ?_ | ((with_reducible apply evOps_g); rfl)); intro K hK; simp (contextual := true) only [go_sem, simprocAttr]) | with_reducible refine evOps_nil ?_ | ((with_reducible refine hK _ ?_); clear hK K) | (with_reducible first | refine And.intro ?_ ?_ | refine nxt_n ?_ | refine nxt_r ?_ | refine nxt_e ?_ | refine blk_n ?_ | refine blk_r ?_ | refine blk_same ?_ | refine blk_other (by decide) ?_ | refine noG_n ?_ | refine noG_r ?_ | refine noG_e ?_ | refine inR_mk ?_ ?_) | (refine fun (hc : (_ : Bool) = _) => ?_; try simp only [hcS] at hc))
  all_goals try exact om_
  · (first | refine ret_auto ?_ | refine ret_auto' ?_); simp only [go_sem, simprocAttr, Try.f85]
    rw [idxOf_hit hwi (by omega) hc]
  · refine ⟨⟨i + 1, by omega, (by exact scan_next hwi (idxO_f hc))⟩, by simp only; omega, Imp.ao hX⟩
  · (first | refine ret_auto ?_ | refine ret_auto' ?_); simp only [go_sem, simprocAttr, Try.f85]
    rw [idxOf_none (scan_end hwi hii (by omega))]
attribute [local go_sem] nums_zero
theorem cal_l23Count : Callable Try.prog 41 := ⟨_, Try.func41, rfl, rfl⟩
theorem sp_l23Count {n : Nat} (h1 : n ≤ 1048576) : Spec Try.prog 41 [iv n] [] (.sl 0) [(0, ⟨1, .arr (ints (nums n))⟩)] := by
  refine spec_of_V (E := TE) 0 Try.func41 rfl (by simp [Try.f41]) fun X hn hX => ?_
  repeat' (first | (with_reducible first | refine V_seq ?_ | refine V_block ?_ | refine V_skip ?_ | refine V_ret ?_ | refine V_exit ?_) | ((with_reducible refine V_cond ?_); simp only [go_sem, simprocAttr]) | ((refine V_region (by rw [hn]; rfl) ?_); intro K hK) | ((first | with_reducible refine evOps_n ?_ | ((with_reducible apply evOps_g); rfl)); intro K hK; simp (contextual := true) only [go_sem, simprocAttr]) | with_reducible refine evOps_nil ?_ | ((with_reducible refine hK _ ?_); clear hK K) | (with_reducible first | refine And.intro ?_ ?_ | refine nxt_n ?_ | refine nxt_r ?_ | refine nxt_e ?_ | refine blk_n ?_ | refine blk_r ?_ | refine blk_same ?_ | refine blk_other (by decide) ?_ | refine noG_n ?_ | refine noG_r ?_ | refine noG_e ?_ | refine inR_mk ?_ ?_) | (refine fun (hc : (_ : Bool) = _) => ?_; try simp only [hcS] at hc))
  all_goals try exact om_
  refine V_loopK (G := {i : Nat // i ≤ n ∧ (True)}) (fun ⟨i, _⟩ => [(4, iv i), (3, .sl 0)]) [0, 2] (fun ⟨i, _⟩ => [(0, ⟨1, .arr (ints (nums i))⟩)]) [0] (fun zz => n - zz.1) ⟨0, Nat.zero_le _, by first | trivial | simp⟩ ?_ ?_
  · exact Imp.au hX
  rintro ⟨i, hii, hwi⟩
  simp only [go_sem, simprocAttr]
  have := nums_len i
  repeat' (first | (with_reducible first | refine V_seq ?_ | refine V_block ?_ | refine V_skip ?_ | refine V_ret ?_ | refine V_exit ?_) | ((with_reducible refine V_cond ?_); simp only [go_sem, simprocAttr]) | ((refine V_region (by rw [hn]; rfl) ?_); intro K hK) | ((first | with_reducible refine evOps_n ?_ | ((with_reducible apply evOps_g); rfl)); intro K hK; simp (contextual := true) only [go_sem, simprocAttr]) | with_reducible refine evOps_nil ?_ | ((with_reducible refine hK _ ?_); clear hK K) | (with_reducible first | refine And.intro ?_ ?_ | refine nxt_n ?_ | refine nxt_r ?_ | refine nxt_e ?_ | refine blk_n ?_ | refine blk_r ?_ | refine blk_same ?_ | refine blk_other (by decide) ?_ | refine noG_n ?_ | refine noG_r ?_ | refine noG_e ?_ | refine inR_mk ?_ ?_) | (refine fun (hc : (_ : Bool) = _) => ?_; try simp only [hcS] at hc))
  all_goals try exact om_
  · refine ⟨⟨i + 1, by omega, (by trivial)⟩, by simp only; omega, Imp.auto hX (by simp only [go_sem, simprocAttr, nums_succ])⟩
  · (first | refine ret_auto ?_ | refine ret_auto' ?_); simp only [go_sem, simprocAttr, Try.f41]
    rw [show i = n by omega]
theorem rep_succ (x : Int) (n : Nat) : List.replicate (n + 1) x = List.replicate n x ++ [x] := by rw [List.replicate_succ']
theorem cal_l22Repeat : Callable Try.prog 40 := ⟨_, Try.func40, rfl, rfl⟩
theorem sp_l22Repeat {x : Int} {n : Nat} (h1 : n ≤ 1048576) : Spec Try.prog 40 [iv x, iv n] [] (.sl 0) [(0, ⟨1, .arr (ints (List.replicate n x))⟩)] := by
  refine spec_of_V (E := TE) 0 Try.func40 rfl (by simp [Try.f40]) fun X hn hX => ?_
  repeat' (first | (with_reducible first | refine V_seq ?_ | refine V_block ?_ | refine V_skip ?_ | refine V_ret ?_ | refine V_exit ?_) | ((with_reducible refine V_cond ?_); simp only [go_sem, simprocAttr]) | ((refine V_region (by rw [hn]; rfl) ?_); intro K hK) | ((first | with_reducible refine evOps_n ?_ | ((with_reducible apply evOps_g); rfl)); intro K hK; simp (contextual := true) only [go_sem, simprocAttr]) | with_reducible refine evOps_nil ?_ | ((with_reducible refine hK _ ?_); clear hK K) | (with_reducible first | refine And.intro ?_ ?_ | refine nxt_n ?_ | refine nxt_r ?_ | refine nxt_e ?_ | refine blk_n ?_ | refine blk_r ?_ | refine blk_same ?_ | refine blk_other (by decide) ?_ | refine noG_n ?_ | refine noG_r ?_ | refine noG_e ?_ | refine inR_mk ?_ ?_) | (refine fun (hc : (_ : Bool) = _) => ?_; try simp only [hcS] at hc))
  all_goals try exact om_
  refine V_loopK (G := {i : Nat // i ≤ n ∧ (True)}) (fun ⟨i, _⟩ => [(6, iv i), (5, .sl 0)]) [0, 1, 4] (fun ⟨i, _⟩ => [(0, ⟨1, .arr (ints (List.replicate i x))⟩)]) [0] (fun zz => n - zz.1) ⟨0, Nat.zero_le _, by first | trivial | simp⟩ ?_ ?_
  · exact Imp.au hX
  rintro ⟨i, hii, hwi⟩
  simp only [go_sem, simprocAttr]
  repeat' (first | (with_reducible first | refine V_seq ?_ | refine V_block ?_ | refine V_skip ?_ | refine V_ret ?_ | refine V_exit ?_) | ((with_reducible refine V_cond ?_); simp only [go_sem, simprocAttr]) | ((refine V_region (by rw [hn]; rfl) ?_); intro K hK) | ((first | with_reducible refine evOps_n ?_ | ((with_reducible apply evOps_g); rfl)); intro K hK; simp (contextual := true) only [go_sem, simprocAttr]) | with_reducible refine evOps_nil ?_ | ((with_reducible refine hK _ ?_); clear hK K) | (with_reducible first | refine And.intro ?_ ?_ | refine nxt_n ?_ | refine nxt_r ?_ | refine nxt_e ?_ | refine blk_n ?_ | refine blk_r ?_ | refine blk_same ?_ | refine blk_other (by decide) ?_ | refine noG_n ?_ | refine noG_r ?_ | refine noG_e ?_ | refine inR_mk ?_ ?_) | (refine fun (hc : (_ : Bool) = _) => ?_; try simp only [hcS] at hc))
  all_goals try exact om_
  · refine ⟨⟨i + 1, by omega, (by trivial)⟩, by simp only; omega, Imp.auto hX (by simp only [go_sem, simprocAttr, rep_succ])⟩
  · (first | refine ret_auto ?_ | refine ret_auto' ?_); simp only [go_sem, simprocAttr, Try.f40]
    rw [show i = n by omega]
def _root_.Go.Cats.topI (l : List Int) : Nat → Int
  | 0 => 0
  | i + 1 => if l.getD i 0 + 1 > topI l i then l.getD i 0 + 1 else topI l i
theorem topI_bound {l : List Int} {B : Int} (h0 : 0 ≤ B) (h : ∀ i, i < l.length → l.getD i 0 < B) : ∀ i, i ≤ l.length → 0 ≤ topI l i ∧ topI l i ≤ B
  | 0, _ => ⟨Int.le_refl _, h0⟩
  | i + 1, hi => by
    have := topI_bound h0 h i (by omega)
    have := h i (by omega)
    unfold topI
    split <;> omega
theorem topI_zero (l : List Int) : topI l 0 = 0 := rfl
theorem topI_succ (l : List Int) (i : Nat) : topI l (i + 1) = if l.getD i 0 + 1 > topI l i then l.getD i 0 + 1 else topI l i := rfl
attribute [local go_sem] topI_zero
theorem cal_l22Top : Callable Try.prog 60 := ⟨_, Try.func60, rfl, rfl⟩
theorem sp_l22Top {l : List Int} (hl : l.length ≤ 1048576) (hb : ∀ i, i < l.length → 0 ≤ l.getD i 0 ∧ l.getD i 0 < 1048576) : Spec Try.prog 60 [.bor [] (ints l)] [] (iv (topI l l.length)) [] := by
  refine spec_of_V (E := TE) 0 Try.func60 rfl (by simp [Try.f60]) fun X hn hX => ?_
  repeat' (first | (with_reducible first | refine V_seq ?_ | refine V_block ?_ | refine V_skip ?_ | refine V_ret ?_ | refine V_exit ?_) | ((with_reducible refine V_cond ?_); simp only [go_sem, simprocAttr]) | ((refine V_region (by rw [hn]; rfl) ?_); intro K hK) | ((first | with_reducible refine evOps_n ?_ | ((with_reducible apply evOps_g); rfl)); intro K hK; simp (contextual := true) only [go_sem, simprocAttr]) | with_reducible refine evOps_nil ?_ | ((with_reducible refine hK _ ?_); clear hK K) | (with_reducible first | refine And.intro ?_ ?_ | refine nxt_n ?_ | refine nxt_r ?_ | refine nxt_e ?_ | refine blk_n ?_ | refine blk_r ?_ | refine blk_same ?_ | refine blk_other (by decide) ?_ | refine noG_n ?_ | refine noG_r ?_ | refine noG_e ?_ | refine inR_mk ?_ ?_) | (refine fun (hc : (_ : Bool) = _) => ?_; try simp only [hcS] at hc))
  refine V_loopK (G := {i : Nat // i ≤ l.length ∧ (True)}) (fun ⟨i, _⟩ => [(4, iv i), (3, iv (topI l i))]) [0, 2] (fun ⟨i, _⟩ => []) [] (fun zz => l.length - zz.1) ⟨0, Nat.zero_le _, by first | trivial | simp⟩ ?_ ?_
  · exact Imp.au hX
  rintro ⟨i, hii, hwi⟩
  simp only [go_sem, simprocAttr]
  have b1 := topI_bound (l := l) (B := 1048576) (by omega) (fun i hi => (hb i hi).2) i
  have b2 := hb i
  repeat' (first | (refine hook_max (by simp only [go_sem, simprocAttr]; rfl) (by simp only [go_sem, simprocAttr]; rfl) ?_; simp only [go_sem, simprocAttr]) | (with_reducible first | refine V_seq ?_ | refine V_block ?_ | refine V_skip ?_ | refine V_ret ?_ | refine V_exit ?_) | ((with_reducible refine V_cond ?_); simp only [go_sem, simprocAttr]) | ((refine V_region (by rw [hn]; rfl) ?_); intro K hK) | ((first | with_reducible refine evOps_n ?_ | ((with_reducible apply evOps_g); rfl)); intro K hK; simp (contextual := true) only [go_sem, simprocAttr]) | with_reducible refine evOps_nil ?_ | ((with_reducible refine hK _ ?_); clear hK K) | (with_reducible first | refine And.intro ?_ ?_ | refine nxt_n ?_ | refine nxt_r ?_ | refine nxt_e ?_ | refine blk_n ?_ | refine blk_r ?_ | refine blk_same ?_ | refine blk_other (by decide) ?_ | refine noG_n ?_ | refine noG_r ?_ | refine noG_e ?_ | refine inR_mk ?_ ?_) | (refine fun (hc : (_ : Bool) = _) => ?_; try simp only [hcS] at hc))
  all_goals try exact om_
  · refine ⟨⟨i + 1, by omega, (by trivial)⟩, by simp only; omega, Imp.auto hX (by simp only [go_sem, simprocAttr, topI_succ])⟩
  · (first | refine ret_auto ?_ | refine ret_auto' ?_); simp only [go_sem, simprocAttr, Try.f60]
    rw [show i = l.length by omega]
def _root_.Go.Cats.clsI (l : List Int) : Nat → List Int × List Int
  | 0 => ([], [])
  | i + 1 => if idxOf (clsI l i).2 (l.getD i 0) < 0 then ((clsI l i).1 ++ [((clsI l i).2.length : Int)], (clsI l i).2 ++ [l.getD i 0]) else ((clsI l i).1 ++ [idxOf (clsI l i).2 (l.getD i 0)], (clsI l i).2)
theorem clsI_facts (l : List Int) : ∀ i, (clsI l i).1.length = i ∧ (clsI l i).2.length ≤ i ∧ ∀ j, j < i → 0 ≤ (clsI l i).1.getD j 0 ∧ (clsI l i).1.getD j 0 < i
  | 0 => ⟨rfl, Nat.le_refl _, fun j hj => by omega⟩
  | i + 1 => by
    obtain ⟨h1, h2, h3⟩ := clsI_facts l i
    have key : ∀ v : Int, 0 ≤ v ∧ v < i + 1 → ∀ j, j < i + 1 → 0 ≤ ((clsI l i).1 ++ [v]).getD j 0 ∧ ((clsI l i).1 ++ [v]).getD j 0 < i + 1 := fun v hv j hj => by
      by_cases hji : j < i
      · have := h3 j hji
        rw [List.getD_eq_getElem?_getD, List.getElem?_append_left (by omega), ← List.getD_eq_getElem?_getD]
        omega
      · rw [show j = i by omega, List.getD_eq_getElem?_getD, List.getElem?_append_right (by omega), h1, Nat.sub_self]
        exact hv
    unfold clsI
    split
    · refine ⟨by simp [h1], by simp; omega, fun j hj => ?_⟩
      have := key ((clsI l i).2.length : Int) ⟨by omega, by omega⟩ j hj
      simpa using this
    · rename_i hc
      have := idxOf_of (l := (clsI l i).2) (n := l.getD i 0) (by omega)
      refine ⟨by simp [h1], by simp; omega, fun j hj => ?_⟩
      have := key (idxOf (clsI l i).2 (l.getD i 0)) ⟨this.1, by omega⟩ j hj
      simpa using this
theorem clsI_new {l : List Int} {i : Nat} (h : idxOf (clsI l i).2 (l.getD i 0) < 0) : clsI l (i + 1) = ((clsI l i).1 ++ [((clsI l i).2.length : Int)], (clsI l i).2 ++ [l.getD i 0]) := by rw [clsI, if_pos h]
theorem clsI_old {l : List Int} {i : Nat} (h : ¬ idxOf (clsI l i).2 (l.getD i 0) < 0) : clsI l (i + 1) = ((clsI l i).1 ++ [idxOf (clsI l i).2 (l.getD i 0)], (clsI l i).2) := by rw [clsI, if_neg h]
theorem clsI_zero (l : List Int) : clsI l 0 = ([], []) := rfl
attribute [local go_sem] clsI_zero
theorem cal_l01Classes : Callable Try.prog 75 := ⟨_, Try.func75, rfl, rfl⟩
theorem sp_l01Classes {l : List Int} (hl : l.length ≤ 1048576) : Spec Try.prog 75 [.bor [] (ints l)] [] (.sl 0) [(0, ⟨1, .arr (ints (clsI l l.length).1)⟩)] := by
  refine spec_of_V (E := TE) 0 Try.func75 rfl (by simp [Try.f75]) fun X hn hX => ?_
  repeat' (first | (with_reducible first | refine V_seq ?_ | refine V_block ?_ | refine V_skip ?_ | refine V_ret ?_ | refine V_exit ?_) | ((with_reducible refine V_cond ?_); simp only [go_sem, simprocAttr]) | ((refine V_region (by rw [hn]; rfl) ?_); intro K hK) | ((first | with_reducible refine evOps_n ?_ | ((with_reducible apply evOps_g); rfl)); intro K hK; simp (contextual := true) only [go_sem, simprocAttr]) | with_reducible refine evOps_nil ?_ | ((with_reducible refine hK _ ?_); clear hK K) | (with_reducible first | refine And.intro ?_ ?_ | refine nxt_n ?_ | refine nxt_r ?_ | refine nxt_e ?_ | refine blk_n ?_ | refine blk_r ?_ | refine blk_same ?_ | refine blk_other (by decide) ?_ | refine noG_n ?_ | refine noG_r ?_ | refine noG_e ?_ | refine inR_mk ?_ ?_) | (refine fun (hc : (_ : Bool) = _) => ?_; try simp only [hcS] at hc))
  all_goals try exact om_
  refine V_loopK (G := {i : Nat // i ≤ l.length ∧ (True)}) (fun ⟨i, _⟩ => [(5, iv i), (3, .sl 0), (4, .sl 1)]) [0, 2] (fun ⟨i, _⟩ => [(0, ⟨1, .arr (ints (clsI l i).1)⟩), (1, ⟨1, .arr (ints (clsI l i).2)⟩)]) [0, 1] (fun zz => l.length - zz.1) ⟨0, Nat.zero_le _, by first | trivial | simp⟩ ?_ ?_
  · exact Imp.au hX
  rintro ⟨i, hii, hwi⟩
  simp only [go_sem, simprocAttr]
  obtain ⟨f1, f2, _⟩ := clsI_facts l i
  repeat' (first | (with_reducible first | refine V_seq ?_ | refine V_block ?_ | refine V_skip ?_ | refine V_ret ?_ | refine V_exit ?_) | ((with_reducible refine V_cond ?_); simp only [go_sem, simprocAttr]) | ((refine V_region (by rw [hn]; rfl) ?_); intro K hK) | ((first | with_reducible refine evOps_n ?_ | ((with_reducible apply evOps_g); rfl)); intro K hK; simp (contextual := true) only [go_sem, simprocAttr]) | with_reducible refine evOps_nil ?_ | ((with_reducible refine hK _ ?_); clear hK K) | (with_reducible first | refine And.intro ?_ ?_ | refine nxt_n ?_ | refine nxt_r ?_ | refine nxt_e ?_ | refine blk_n ?_ | refine blk_r ?_ | refine blk_same ?_ | refine blk_other (by decide) ?_ | refine noG_n ?_ | refine noG_r ?_ | refine noG_e ?_ | refine inR_mk ?_ ?_) | ((with_reducible refine evCall_at 85 ?_); refine EvCall.rq (a := (sp_l01Index ?_)) (b := cal_l01Index) (c := ?_); all_goals try simp only [go_sem, simprocAttr]) | (refine fun (hc : (_ : Bool) = _) => ?_; try simp only [hcS] at hc))
  all_goals try exact om_
  · refine ⟨⟨i + 1, by omega, (by trivial)⟩, by simp only; omega, Imp.auto hX (by simp only [go_sem, simprocAttr, clsI_new hc])⟩
  · refine ⟨⟨i + 1, by omega, (by trivial)⟩, by simp only; omega, Imp.auto hX (by simp only [go_sem, simprocAttr, clsI_old (Int.not_lt.2 hc)])⟩
  · (first | refine ret_auto ?_ | refine ret_auto' ?_); simp only [go_sem, simprocAttr, Try.f75]
    rw [show i = l.length by omega]
def _root_.Go.Cats.joI (L : List Int) (a b : Int) (i : Nat) : List Int := (L.take i).map (fun v => if v = b then a else v) ++ L.drop i
theorem joI_zero (L : List Int) (a b : Int) : joI L a b 0 = L := by simp [joI]
theorem joI_len (L : List Int) (a b : Int) (i : Nat) : (joI L a b i).length = L.length := by simp [joI]; omega
theorem joI_at (L : List Int) (a b : Int) (i : Nat) : (joI L a b i).getD i 0 = L.getD i 0 := by
  unfold joI
  by_cases h : i < L.length
  · rw [List.getD_eq_getElem?_getD, List.getElem?_append_right (by simp; omega)]
    simp [List.getD_eq_getElem?_getD]
    congr 2
    omega
  · rw [List.getD_eq_getElem?_getD, List.getElem?_eq_none (by simp; omega), List.getD_eq_getElem?_getD, List.getElem?_eq_none (by omega)]
theorem joI_succ {L : List Int} {a b : Int} {i : Nat} (h : i < L.length) : joI L a b (i + 1) = (L.take i).map (fun v => if v = b then a else v) ++ (if L.getD i 0 = b then a else L.getD i 0) :: L.drop (i + 1) := by
  unfold joI
  rw [List.take_add_one, List.getElem?_eq_getElem h, Option.toList_some, List.map_append, List.getD_eq_getElem?_getD, List.getElem?_eq_getElem h]
  simp
theorem joI_hit {L : List Int} {a b : Int} {i : Nat} (h : i < L.length) (hb : b = (joI L a b i).getD i 0) : joI L a b (i + 1) = (joI L a b i).set i a := by
  rw [joI_at] at hb
  rw [joI_succ h, if_pos hb.symm]
  unfold joI
  rw [List.set_append_right _ _ (by simp; omega)]
  simp only [List.length_map, List.length_take]
  rw [show i - min i L.length = 0 by omega, List.drop_eq_getElem_cons h]
  rfl
theorem joI_miss {L : List Int} {a b : Int} {i : Nat} (h : i < L.length) (hb : ¬ b = (joI L a b i).getD i 0) : joI L a b (i + 1) = joI L a b i := by
  rw [joI_at] at hb
  rw [joI_succ h, if_neg (fun q => hb q.symm)]
  unfold joI
  rw [List.drop_eq_getElem_cons h, List.getD_eq_getElem?_getD, List.getElem?_eq_getElem h]
  rfl
theorem joI_same (L : List Int) (a : Int) (i : Nat) : joI L a a i = L := by
  unfold joI
  rw [show (L.take i).map (fun v => if v = a then a else v) = L.take i from ?_, List.take_append_drop]
  conv => rhs; rw [← List.map_id (L.take i)]
  refine List.map_congr_left fun v _ => ?_
  split
  · rename_i h; exact h.symm
  · rfl
def _root_.Go.Cats.joK (n : Nat) (ps : List (List Int)) : Nat → List Int
  | 0 => nums n
  | k + 1 => joI (joK n ps k) ((joK n ps k).getD ((ps.getD k []).getD 0 0).toNat 0) ((joK n ps k).getD ((ps.getD k []).getD 1 0).toNat 0) n
theorem joK_len (n : Nat) (ps : List (List Int)) : ∀ k, (joK n ps k).length = n
  | 0 => nums_len n
  | k + 1 => by rw [joK, joI_len, joK_len]
theorem joK_zero (n : Nat) (ps : List (List Int)) : joK n ps 0 = nums n := rfl
theorem joK_succ (n : Nat) (ps : List (List Int)) (k : Nat) : joK n ps (k + 1) = joI (joK n ps k) ((joK n ps k).getD ((ps.getD k []).getD 0 0).toNat 0) ((joK n ps k).getD ((ps.getD k []).getD 1 0).toNat 0) n := rfl
attribute [local go_sem] joI_zero joI_len joK_len joK_zero
theorem cal_l01Join : Callable Try.prog 59 := ⟨_, Try.func59, rfl, rfl⟩
theorem sp_l01Join {n : Nat} {ps : List (List Int)} (hn0 : n ≤ 1048576) (hl : ps.length ≤ 1048576) (hp : ∀ k, k < ps.length → (ps.getD k []).length = 2 ∧ (0 ≤ (ps.getD k []).getD 0 0 ∧ (ps.getD k []).getD 0 0 < n) ∧ 0 ≤ (ps.getD k []).getD 1 0 ∧ (ps.getD k []).getD 1 0 < n) : Spec Try.prog 59 [iv n, .bor [] (intss ps)] [] (.sl 0) [(0, ⟨1, .arr (ints (clsI (joK n ps ps.length) n).1)⟩)] := by
  refine spec_of_V (E := TE) 0 Try.func59 rfl (by simp [Try.f59]) fun X hn hX => ?_
  repeat' (first | (with_reducible first | refine V_seq ?_ | refine V_block ?_ | refine V_skip ?_ | refine V_ret ?_ | refine V_exit ?_) | ((with_reducible refine V_cond ?_); simp only [go_sem, simprocAttr]) | ((first | refine V_region (by rw [hn]; rfl) ?_ | refine V_drawn hmix (by rw [hn]; rfl) ?_); intro K hK) | ((first | with_reducible refine evOps_n ?_ | ((with_reducible apply evOps_g); rfl) | with_reducible refine evOpsD_n ?_ | ((with_reducible apply evOpsD_g); rfl)); intro K hK; simp (contextual := true) only [go_sem, simprocAttr]) | with_reducible refine evOps_nil ?_ | ((with_reducible refine evOpsD_nil ?_ ?_); kernel_rfl) | ((with_reducible refine hK _ ?_); clear hK K) | (with_reducible first | refine And.intro ?_ ?_ | refine nxt_n ?_ | refine nxt_r ?_ | refine nxt_e ?_ | refine blk_n ?_ | refine blk_r ?_ | refine blk_same ?_ | refine blk_other (by decide) ?_ | refine noG_n ?_ | refine noG_r ?_ | refine noG_e ?_ | refine inR_mk ?_ ?_) | (refine fun (hc : (_ : Bool) = _) => ?_; try simp only [hcS] at hc))
  all_goals try exact om_
  refine V_loopK (G := {i : Nat // i ≤ n ∧ (True)}) (fun ⟨i, _⟩ => [(6, iv i), (5, .sl 0)]) [0, 1, 4] (fun ⟨i, _⟩ => [(0, ⟨1, .arr (ints (nums i))⟩)]) [0] (fun zz => n - zz.1) ⟨0, Nat.zero_le _, by first | trivial | simp⟩ ?_ ?_
  · exact Imp.au hX
  rintro ⟨i, hii, hwi⟩
  simp only [go_sem, simprocAttr]
  have := nums_len i
  repeat' (first | (with_reducible first | refine V_seq ?_ | refine V_block ?_ | refine V_skip ?_ | refine V_ret ?_ | refine V_exit ?_) | ((with_reducible refine V_cond ?_); simp only [go_sem, simprocAttr]) | ((first | refine V_region (by rw [hn]; rfl) ?_ | refine V_drawn hmix (by rw [hn]; rfl) ?_); intro K hK) | ((first | with_reducible refine evOps_n ?_ | ((with_reducible apply evOps_g); rfl) | with_reducible refine evOpsD_n ?_ | ((with_reducible apply evOpsD_g); rfl)); intro K hK; simp (contextual := true) only [go_sem, simprocAttr]) | with_reducible refine evOps_nil ?_ | ((with_reducible refine evOpsD_nil ?_ ?_); kernel_rfl) | ((with_reducible refine hK _ ?_); clear hK K) | (with_reducible first | refine And.intro ?_ ?_ | refine nxt_n ?_ | refine nxt_r ?_ | refine nxt_e ?_ | refine blk_n ?_ | refine blk_r ?_ | refine blk_same ?_ | refine blk_other (by decide) ?_ | refine noG_n ?_ | refine noG_r ?_ | refine noG_e ?_ | refine inR_mk ?_ ?_) | (refine fun (hc : (_ : Bool) = _) => ?_; try simp only [hcS] at hc))
  all_goals try exact om_
  · refine ⟨⟨i + 1, by omega, (by trivial)⟩, by simp only; omega, Imp.auto hX (by simp only [go_sem, simprocAttr, nums_succ])⟩
  · obtain rfl : i = n := by omega
    refine V_loopK (G := {k : Nat // k ≤ ps.length ∧ (True)}) (fun ⟨k, _⟩ => [(7, iv k), (5, .sl 0)]) [1, 4] (fun ⟨k, _⟩ => [(0, ⟨1, .arr (ints (joK i ps k))⟩)]) [0] (fun zz => ps.length - zz.1) ⟨0, Nat.zero_le _, by first | trivial | simp⟩ ?_ ?_
    · exact Imp.au hX
    rintro ⟨k, hik, hwk⟩
    simp only [go_sem, simprocAttr]
    have g1 := hp k
    have g2 := joK_len i ps k
    repeat' (first | (with_reducible first | refine V_seq ?_ | refine V_block ?_ | refine V_skip ?_ | refine V_ret ?_ | refine V_exit ?_) | ((with_reducible refine V_cond ?_); simp only [go_sem, simprocAttr]) | ((first | refine V_region (by rw [hn]; rfl) ?_ | refine V_drawn hmix (by rw [hn]; rfl) ?_); intro K hK) | ((first | with_reducible refine evOps_n ?_ | ((with_reducible apply evOps_g); rfl) | with_reducible refine evOpsD_n ?_ | ((with_reducible apply evOpsD_g); rfl)); intro K hK; simp (contextual := true) only [go_sem, simprocAttr]) | with_reducible refine evOps_nil ?_ | ((with_reducible refine evOpsD_nil ?_ ?_); kernel_rfl) | ((with_reducible refine hK _ ?_); clear hK K) | (with_reducible first | refine And.intro ?_ ?_ | refine nxt_n ?_ | refine nxt_r ?_ | refine nxt_e ?_ | refine blk_n ?_ | refine blk_r ?_ | refine blk_same ?_ | refine blk_other (by decide) ?_ | refine noG_n ?_ | refine noG_r ?_ | refine noG_e ?_ | refine inR_mk ?_ ?_) | (refine fun (hc : (_ : Bool) = _) => ?_; try simp only [hcS] at hc))
    all_goals try exact om_
    · refine V_loopK (G := {j : Nat // j ≤ i ∧ (True)}) (fun ⟨j, _⟩ => [(10, iv j), (5, .sl 0)]) [1, 4, 7, 8, 9] (fun ⟨j, _⟩ => [(0, ⟨1, .arr (ints (joI (joK i ps k) ((joK i ps k).getD ((ps.getD k []).getD 0 0).toNat 0) ((joK i ps k).getD ((ps.getD k []).getD 1 0).toNat 0) j))⟩)]) [0] (fun zz => i - zz.1) ⟨0, Nat.zero_le _, by first | trivial | simp⟩ ?_ ?_
      · exact Imp.au hX
      rintro ⟨j, hij, hwj⟩
      simp only [go_sem, simprocAttr]
      repeat' (first | (with_reducible first | refine V_seq ?_ | refine V_block ?_ | refine V_skip ?_ | refine V_ret ?_ | refine V_exit ?_) | ((with_reducible refine V_cond ?_); simp only [go_sem, simprocAttr]) | ((first | refine V_region (by rw [hn]; rfl) ?_ | refine V_drawn hmix (by rw [hn]; rfl) ?_); intro K hK) | ((first | with_reducible refine evOps_n ?_ | ((with_reducible apply evOps_g); rfl) | with_reducible refine evOpsD_n ?_ | ((with_reducible apply evOpsD_g); rfl)); intro K hK; simp (contextual := true) only [go_sem, simprocAttr]) | with_reducible refine evOps_nil ?_ | ((with_reducible refine evOpsD_nil ?_ ?_); kernel_rfl) | ((with_reducible refine hK _ ?_); clear hK K) | (with_reducible first | refine And.intro ?_ ?_ | refine nxt_n ?_ | refine nxt_r ?_ | refine nxt_e ?_ | refine blk_n ?_ | refine blk_r ?_ | refine blk_same ?_ | refine blk_other (by decide) ?_ | refine noG_n ?_ | refine noG_r ?_ | refine noG_e ?_ | refine inR_mk ?_ ?_) | (refine fun (hc : (_ : Bool) = _) => ?_; try simp only [hcS] at hc))
      all_goals try exact om_
      · refine ⟨⟨j + 1, by omega, (by trivial)⟩, by simp only; omega, Imp.auto hX (by simp only [go_sem, simprocAttr, joI_hit (by rw [joK_len]; omega) hc.symm])⟩
      · refine ⟨⟨j + 1, by omega, (by trivial)⟩, by simp only; omega, Imp.auto hX (by simp only [go_sem, simprocAttr, joI_miss (by rw [joK_len]; omega) fun q => hc q.symm])⟩
      · have e1 := joI_same (joK i ps k) ((joK i ps k).getD ((ps.getD k []).getD 0 0).toNat 0)
        refine ⟨⟨k + 1, by omega, (by trivial)⟩, by simp only; omega, Imp.auto hX (by simp only [go_sem, simprocAttr, joK_succ, ← hc, e1])⟩
      · have e1 : j = i := by omega
        refine ⟨⟨k + 1, by omega, (by trivial)⟩, by simp only; omega, Imp.auto hX (by simp only [go_sem, simprocAttr, joK_succ, e1])⟩
    · have g3 := joK_len i ps ps.length
      repeat' (first | (with_reducible first | refine V_seq ?_ | refine V_block ?_ | refine V_skip ?_ | refine V_ret ?_ | refine V_exit ?_) | ((with_reducible refine V_cond ?_); simp only [go_sem, simprocAttr]) | ((first | refine V_region (by rw [hn]; rfl) ?_ | refine V_drawn hmix (by rw [hn]; rfl) ?_); intro K hK) | ((first | with_reducible refine evOps_n ?_ | ((with_reducible apply evOps_g); rfl) | with_reducible refine evOpsD_n ?_ | ((with_reducible apply evOpsD_g); rfl)); intro K hK; simp (contextual := true) only [go_sem, simprocAttr]) | with_reducible refine evOps_nil ?_ | ((with_reducible refine evOpsD_nil ?_ ?_); kernel_rfl) | ((with_reducible refine hK _ ?_); clear hK K) | (with_reducible first | refine And.intro ?_ ?_ | refine nxt_n ?_ | refine nxt_r ?_ | refine nxt_e ?_ | refine blk_n ?_ | refine blk_r ?_ | refine blk_same ?_ | refine blk_other (by decide) ?_ | refine noG_n ?_ | refine noG_r ?_ | refine noG_e ?_ | refine inR_mk ?_ ?_) | ((with_reducible refine evCall_at 75 ?_); refine EvCall.rq (a := (sp_l01Classes ?_)) (b := cal_l01Classes) (c := ?_); all_goals try simp only [go_sem, simprocAttr]) | (refine fun (hc : (_ : Bool) = _) => ?_; try simp only [hcS] at hc))
      all_goals try exact om_
      · (first | refine ret_auto ?_ | refine ret_auto' ?_); simp only [go_sem, simprocAttr, Try.f59]
        rw [show k = ps.length by omega]
end Go.Eng
