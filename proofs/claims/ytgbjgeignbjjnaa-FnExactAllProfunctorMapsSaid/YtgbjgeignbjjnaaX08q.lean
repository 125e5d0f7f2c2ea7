/- Maps between profunctors: the place of an element, by the reference. -/
import Derived.Test.YtgbjgeignbjjnaaX07q
set_option linter.unusedSimpArgs false
set_option linter.unusedVariables false
set_option maxRecDepth 100000
set_option maxHeartbeats 16000000
namespace Go.Eng
open Go Go.Proofs Go.Cats
def _root_.Go.Cats.Prof.oA (p : Prof) (x y i j : Nat) : Int := if i < x then p.off i j else if i = x then p.off x (min j y) else p.off x y
section
variable {p : Prof} {x y i j : Nat}
theorem oA_zero : p.oA x y 0 0 = 0 := by
  unfold Prof.oA
  split
  · rfl
  · rename_i h
    rw [if_pos (by omega), show x = 0 by omega, Nat.zero_min]; rfl
theorem oA_lt (h : i < x) : p.oA x y i (j + 1) = p.oA x y i j + (p.sz.getD i []).getD j 0 := by
  unfold Prof.oA
  rw [if_pos h, if_pos h, off_y]
theorem oA_eq (h : i = x) (hj : j < y) : p.oA x y i (j + 1) = p.oA x y i j + (p.sz.getD i []).getD j 0 := by
  unfold Prof.oA
  subst h
  rw [if_neg (Nat.lt_irrefl i), if_neg (Nat.lt_irrefl i), if_pos rfl, if_pos rfl, Nat.min_eq_left (show j + 1 ≤ y from hj), Nat.min_eq_left (show j ≤ y by omega), off_y]
theorem oA_no (h : ¬ i < x) (h2 : ¬ (i = x ∧ j < y)) : p.oA x y i (j + 1) = p.oA x y i j := by
  unfold Prof.oA
  rw [if_neg h, if_neg h]
  split
  · rw [Nat.min_eq_right (show y ≤ j + 1 by omega), Nat.min_eq_right (show y ≤ j by omega)]
  · rfl
theorem oA_next (hy : y ≤ p.tgt.ob.toNat) : p.oA x y (i + 1) 0 = p.oA x y i p.tgt.ob.toNat := by
  unfold Prof.oA
  by_cases h : i + 1 < x
  · rw [if_pos h, if_pos (by omega), off_x]
  · rw [if_neg h]
    by_cases h2 : i + 1 = x
    · subst h2
      rw [if_pos rfl, if_pos (by omega), Nat.zero_min, off_x]
    · rw [if_neg h2, if_neg (by omega)]
      by_cases h3 : i = x
      · rw [if_pos h3, Nat.min_eq_right hy]
      · rw [if_neg h3]
theorem oA_end (hx : x ≤ p.src.ob.toNat) (h : x = p.src.ob.toNat → y = 0) : p.oA x y p.src.ob.toNat 0 = p.off x y := by
  unfold Prof.oA
  rw [if_neg (by omega)]
  split
  · rename_i e
    rw [h e.symm, Nat.zero_min]
  · rfl
theorem oA_bd (s : PrShape p) (hi : i < p.src.ob.toNat) (hj : j ≤ p.tgt.ob.toNat) (hx : x ≤ p.src.ob.toNat) (hy : y ≤ p.tgt.ob.toNat) : 0 ≤ p.oA x y i j ∧ p.oA x y i j ≤ 4608 := by
  unfold Prof.oA
  split
  · exact off_bd s hi hj
  · rename_i h
    split
    · rename_i e
      exact off_bd s (by omega) (by omega)
    · exact off_bd s (by omega) hy
end
theorem cal_l32Offset : Callable Try.prog 17 := ⟨_, Try.func17, rfl, rfl⟩
theorem sp_l32Offset {p : Prof} (s : PrShape p) {x y : Nat} (hx : x ≤ p.src.ob.toNat) (hy : y ≤ p.tgt.ob.toNat) (h : x = p.src.ob.toNat → y = 0) : Spec Try.prog 17 [profV p, iv x, iv y] [] (iv (p.off x y)) [] := by
  have o1 := s.src.toShape.ob0
  have o2 := s.tgt.toShape.ob0
  have o3 := s.src.toShape.ob8
  have o4 := s.tgt.toShape.ob8
  have z1 := s.szl
  obtain ⟨w1, w2, _⟩ := s.w
  refine spec_of_V (E := TE) 0 Try.func17 rfl (by simp [Try.f17]) fun X hn hX => ?_
  repeat' (first | (with_reducible first | refine V_seq ?_ | refine V_block ?_ | refine V_skip ?_ | refine V_ret ?_ | refine V_exit ?_) | ((with_reducible refine V_cond ?_); simp only [go_sem, simprocAttr]) | ((refine V_region (by rw [hn]; rfl) ?_); intro K hK) | ((first | with_reducible refine evOps_n ?_ | ((with_reducible apply evOps_g); rfl)); intro K hK; simp (contextual := true) only [go_sem, simprocAttr]) | with_reducible refine evOps_nil ?_ | ((with_reducible refine hK _ ?_); clear hK K) | (with_reducible first | refine And.intro ?_ ?_ | refine nxt_n ?_ | refine nxt_r ?_ | refine nxt_e ?_ | refine blk_n ?_ | refine blk_r ?_ | refine blk_same ?_ | refine blk_other (by decide) ?_ | refine noG_n ?_ | refine noG_r ?_ | refine noG_e ?_ | refine inR_mk ?_ ?_) | (refine fun (hc : (_ : Bool) = _) => ?_; try simp only [hcS] at hc))
  all_goals try exact om_
  refine V_loopK (G := {i : Nat // i ≤ p.src.ob.toNat ∧ (True)}) (fun ⟨i, _⟩ => [(8, iv i), (7, iv (p.oA x y i 0))]) [1, 2, 3, 6] (fun ⟨i, _⟩ => []) [] (fun zz => p.src.ob.toNat - zz.1) ⟨0, Nat.zero_le _, by first | trivial | simp⟩ ?_ ?_
  · exact Imp.auto hX (by simp [go_sem, simprocAttr, oA_zero])
  rintro ⟨i, hii, hwi⟩
  simp only [go_sem, simprocAttr]
  rcases Nat.lt_or_ge i p.src.ob.toNat with hli | hgi
  · have g1 := w1 i hli
    repeat' (first | (with_reducible first | refine V_seq ?_ | refine V_block ?_ | refine V_skip ?_ | refine V_ret ?_ | refine V_exit ?_) | ((with_reducible refine V_cond ?_); simp only [go_sem, simprocAttr]) | ((refine V_region (by rw [hn]; rfl) ?_); intro K hK) | ((first | with_reducible refine evOps_n ?_ | ((with_reducible apply evOps_g); rfl)); intro K hK; simp (contextual := true) only [go_sem, simprocAttr]) | with_reducible refine evOps_nil ?_ | ((with_reducible refine hK _ ?_); clear hK K) | (with_reducible first | refine And.intro ?_ ?_ | refine nxt_n ?_ | refine nxt_r ?_ | refine nxt_e ?_ | refine blk_n ?_ | refine blk_r ?_ | refine blk_same ?_ | refine blk_other (by decide) ?_ | refine noG_n ?_ | refine noG_r ?_ | refine noG_e ?_ | refine inR_mk ?_ ?_) | (refine fun (hc : (_ : Bool) = _) => ?_; try simp only [hcS] at hc))
    all_goals try exact om_
    refine V_loopK (G := {j : Nat // j ≤ p.tgt.ob.toNat ∧ (True)}) (fun ⟨j, _⟩ => [(9, iv j), (7, iv (p.oA x y i j)), (8, iv i)]) [1, 2, 3, 6] (fun ⟨j, _⟩ => []) [] (fun zz => p.tgt.ob.toNat - zz.1) ⟨0, Nat.zero_le _, by first | trivial | simp⟩ ?_ ?_
    · exact Imp.au hX
    rintro ⟨j, hij, hwj⟩
    simp only [go_sem, simprocAttr]
    rcases Nat.lt_or_ge j p.tgt.ob.toNat with hlj | hgj
    · have b1 := oA_bd (x := x) (y := y) s hli (show j ≤ p.tgt.ob.toNat by omega) hx hy
      have b2 : 0 ≤ (p.sz.getD i []).getD j 0 ∧ (p.sz.getD i []).getD j 0 < 65 := w2 i j hli hlj
      repeat' (first | (with_reducible first | refine V_seq ?_ | refine V_block ?_ | refine V_skip ?_ | refine V_ret ?_ | refine V_exit ?_) | ((with_reducible refine V_cond ?_); simp only [go_sem, simprocAttr]) | ((refine V_region (by rw [hn]; rfl) ?_); intro K hK) | ((first | with_reducible refine evOps_n ?_ | ((with_reducible apply evOps_g); rfl)); intro K hK; simp (contextual := true) only [go_sem, simprocAttr]) | with_reducible refine evOps_nil ?_ | ((with_reducible refine hK _ ?_); clear hK K) | (with_reducible first | refine And.intro ?_ ?_ | refine nxt_n ?_ | refine nxt_r ?_ | refine nxt_e ?_ | refine blk_n ?_ | refine blk_r ?_ | refine blk_same ?_ | refine blk_other (by decide) ?_ | refine noG_n ?_ | refine noG_r ?_ | refine noG_e ?_ | refine inR_mk ?_ ?_) | (refine fun (hc : (_ : Bool) = _) => ?_; try simp only [hcS] at hc))
      all_goals try exact om_
      · refine ⟨⟨j + 1, by omega, (by trivial)⟩, by simp only; omega, Imp.auto hX (by simp only [go_sem, simprocAttr, ← oA_eq (p := p) (x := x) (y := y) (i := i) (j := j) (by omega) (by omega)])⟩
      · refine ⟨⟨j + 1, by omega, (by trivial)⟩, by simp only; omega, Imp.auto hX (by simp only [go_sem, simprocAttr, oA_no (p := p) (x := x) (y := y) (i := i) (j := j) (by omega) (by omega)])⟩
      · refine ⟨⟨j + 1, by omega, (by trivial)⟩, by simp only; omega, Imp.auto hX (by simp only [go_sem, simprocAttr, oA_no (p := p) (x := x) (y := y) (i := i) (j := j) (by omega) (by omega)])⟩
      · refine ⟨⟨j + 1, by omega, (by trivial)⟩, by simp only; omega, Imp.auto hX (by simp only [go_sem, simprocAttr, ← oA_lt (p := p) (x := x) (y := y) (i := i) (j := j) (by omega)])⟩
    · have ej : j = p.tgt.ob.toNat := by omega
      subst ej
      have e1 := oA_next (p := p) (x := x) (i := i) hy
      repeat' (first | (with_reducible first | refine V_seq ?_ | refine V_block ?_ | refine V_skip ?_ | refine V_ret ?_ | refine V_exit ?_) | ((with_reducible refine V_cond ?_); simp only [go_sem, simprocAttr]) | ((refine V_region (by rw [hn]; rfl) ?_); intro K hK) | ((first | with_reducible refine evOps_n ?_ | ((with_reducible apply evOps_g); rfl)); intro K hK; simp (contextual := true) only [go_sem, simprocAttr]) | with_reducible refine evOps_nil ?_ | ((with_reducible refine hK _ ?_); clear hK K) | (with_reducible first | refine And.intro ?_ ?_ | refine nxt_n ?_ | refine nxt_r ?_ | refine nxt_e ?_ | refine blk_n ?_ | refine blk_r ?_ | refine blk_same ?_ | refine blk_other (by decide) ?_ | refine noG_n ?_ | refine noG_r ?_ | refine noG_e ?_ | refine inR_mk ?_ ?_) | (refine fun (hc : (_ : Bool) = _) => ?_; try simp only [hcS] at hc))
      all_goals try exact om_
      refine ⟨⟨i + 1, by omega, (by trivial)⟩, by simp only; omega, Imp.auto hX (by simp only [go_sem, simprocAttr, ← e1])⟩
  · have ei : i = p.src.ob.toNat := by omega
    subst ei
    rw [oA_end hx h]
    repeat' (first | (with_reducible first | refine V_seq ?_ | refine V_block ?_ | refine V_skip ?_ | refine V_ret ?_ | refine V_exit ?_) | ((with_reducible refine V_cond ?_); simp only [go_sem, simprocAttr]) | ((refine V_region (by rw [hn]; rfl) ?_); intro K hK) | ((first | with_reducible refine evOps_n ?_ | ((with_reducible apply evOps_g); rfl)); intro K hK; simp (contextual := true) only [go_sem, simprocAttr]) | with_reducible refine evOps_nil ?_ | ((with_reducible refine hK _ ?_); clear hK K) | (with_reducible first | refine And.intro ?_ ?_ | refine nxt_n ?_ | refine nxt_r ?_ | refine nxt_e ?_ | refine blk_n ?_ | refine blk_r ?_ | refine blk_same ?_ | refine blk_other (by decide) ?_ | refine noG_n ?_ | refine noG_r ?_ | refine noG_e ?_ | refine inR_mk ?_ ?_) | (refine fun (hc : (_ : Bool) = _) => ?_; try simp only [hcS] at hc))
    all_goals try exact om_
    all_goals ((first | refine ret_auto ?_ | refine ret_auto' ?_); simp only [go_sem, simprocAttr, Try.f17])
end Go.Eng
