/- The law's own functions on profunctors: the door, sizes, copies, comparisons, marks. -/
import Derived.Test.YtgbjgeignbjjnaaX01q
import Derived.Test.YtgbjgeignbjjnaaEngI4q
import Derived.Test.YtgbjgeignbjjnaaA16q
set_option linter.unusedSimpArgs false
set_option linter.unusedVariables false
set_option maxRecDepth 100000
set_option maxHeartbeats 16000000
namespace Go.Eng
open Go Go.Proofs Go.Cats Go.ChangeShapes
/-! ### Lists of lists of lists: the door, sizes -/
structure LLT (l : List (List (List Int))) : Prop where
  l1 : (l.length : Int) ≤ 9223372036854775807
  l2 : ∀ a, a < l.length → ((l.getD a []).length : Int) ≤ 9223372036854775807
  l3 : ∀ a, a < l.length → ∀ y, y < (l.getD a []).length → (((l.getD a []).getD y []).length : Int) ≤ 9223372036854775807
section
variable {H : Type} {enc : TypeId × Value → H} {w : World} {held : Bool} {P : Program}
theorem rd_intsss {t e e2 e3 : TypeId} (ht : P.underlying t = some (.slice e)) (he : P.underlying e = some (.slice e2)) (hc : P.cellsOf e = 1) (he2 : P.underlying e2 = some (.slice e3)) (hc2 : P.cellsOf e2 = 1) (he3 : P.underlying e3 = some (.int .i64)) (hc3 : P.cellsOf e3 = 1) {fuel : Nat} {cs : List Value} {x : DataW H × List MemPlace}
    (h : DataW.trod enc P w 0 (fun _ => true) held fuel t cs = some x) :
    ∃ u l, cs = [u] ∧ u.oneCell' = true ∧ RdV w (Old w) (intsss l) u ∧ LLT l := by
  rcases DataW.trod_slice ht h with ⟨rfl, _⟩ | ⟨a, len, cap, elems, rest, n, _, rfl, _, _, h1, h2, h3, h4, _, _⟩
  · exact ⟨_, [], rfl, rfl, by simp [intsss, RdV], by simp, by simp, by simp⟩
  have key : ∀ i, i < len → ∃ (u : Value) (l : List (List Int)), w.cell? (a.add i) = some u ∧ RdV w (Old w) (intss l) u ∧ (l.length : Int) ≤ 9223372036854775807 ∧ ∀ j, j < l.length → ((l.getD j []).length : Int) ≤ 9223372036854775807 := fun i hi => by
    have h5 := h4 i hi
    rw [hc, Nat.mul_one] at h5
    have h6 : elems[i]? = some elems[i] := by simp
    rw [h6] at h5
    simp only [Option.bind_eq_some_iff] at h5
    obtain ⟨vs, g1, g2⟩ := h5
    obtain ⟨u, l, rfl, _, q2, q3, q4, _⟩ := rd_intss he he2 hc2 he3 hc3 g2
    exact ⟨u, l, cell_of_cells?_one g1, q2, q3, q4⟩
  obtain ⟨us, ls, e1, e2, e3⟩ := pick2 (a0 := undef) (b0 := []) len key
  have hcap : cap ≤ 9223372036854775807 := by have := h2; unfold maxLen at this; exact this
  refine ⟨_, ls, rfl, rfl, ?_, by omega, fun i hi => (e3 i (by omega)).2.2.1, fun i hi => (e3 i (by omega)).2.2.2⟩
  · simp only [intsss, RdV]
    refine ⟨by decide, .inr ⟨a.block, a.off, a.spot, len, cap, us, ?_, by simp; omega, h1, h2, fun hne => ?_, ?_, fun k y hk => ?_⟩⟩
    · obtain ⟨b, o, s⟩ := a; rfl
    · have h0 : 0 < len := by
        cases ls with
        | nil => simp at hne
        | cons => simp at e2; omega
      have h6 := (e3 0 h0).1
      exact ⟨by have := World.cell?_spot h6; simpa [Addr.add] using this, by have := cell_old h6; simpa [Addr.add] using this⟩
    · refine RdL.of_get _ _ (by simp; omega) fun i d v hd hv => ?_
      have hi : i < len := by have := (List.getElem?_eq_some_iff.1 hv).1; omega
      have h7 := (e3 i hi).2.1
      have f1 : ls[i]? = some (ls.getD i []) := by simp [List.getD_eq_getElem?_getD, show i < ls.length by omega]
      have f2 : us.getD i undef = v := by rw [List.getD_eq_getElem?_getD, hv]; rfl
      rw [List.getElem?_map, f1] at hd
      simp only [Option.map_some, Option.some.injEq] at hd
      rw [← hd, ← f2]; exact h7
    · have hkl : k < len := by have := (List.getElem?_eq_some_iff.1 hk).1; omega
      have h6 := (e3 k hkl).1
      have h7 := (e3 0 (by omega)).1
      have hs : a.spot = none := by have := World.cell?_spot h7; simpa [Addr.add] using this
      have f2 : us.getD k undef = y := by rw [List.getD_eq_getElem?_getD, hk]; rfl
      rw [← f2]
      exact cell_plain hs h6
end
def sz3 (l : List (List (List Int))) : Nat := (l.map fun r => r.length + sumLen r).sum
theorem sz3_nil : sz3 [] = 0 := rfl
theorem sz3_take (l : List (List (List Int))) (i : Nat) (h : i < l.length) : sz3 (l.take (i + 1)) = sz3 (l.take i) + ((l.getD i []).length + sumLen (l.getD i [])) := by
  unfold sz3
  rw [List.take_add_one, List.map_append, List.sum_append, List.getElem?_eq_getElem h, List.getD_eq_getElem?_getD, List.getElem?_eq_getElem h]
  simp
theorem sz3_le (l : List (List (List Int))) (i : Nat) : sz3 (l.take i) ≤ sz3 l := by
  unfold sz3
  conv => rhs; rw [← List.take_append_drop i l]
  rw [List.map_append, List.sum_append]
  omega
theorem sz3_get (l : List (List (List Int))) (i : Nat) (h : i < l.length) : (l.getD i []).length + sumLen (l.getD i []) ≤ sz3 l := by
  have h2 := sz3_take l i h
  have h4 := sz3_le l (i + 1)
  omega
theorem sum3_le (l : List (List (List Int))) (i : Nat) : sumL3 (l.take i) ≤ sumL3 l := by
  unfold sumL3
  conv => rhs; rw [← List.take_append_drop i l]
  rw [List.map_append, List.sum_append]
  omega
theorem LLB.tot {l : List (List (List Int))} (h : LLB l) : sumL3 l ≤ 1152921504606846976 := by
  have key : ∀ i, i ≤ l.length → sumL3 (l.take i) ≤ i * 1099511627776 := fun i => by
    induction i with
    | zero => intro _; simp [sumL3]
    | succ i ih =>
      intro hi
      rw [sumL3_take l i (by omega)]
      have h1 := ih (by omega)
      have h2 : sumLen (l.getD i []) ≤ 1048576 * 1048576 := sumLen_le_of (h.l2 i (by omega)) (h.l3 i (by omega))
      omega
  have h1 := key l.length (Nat.le_refl _)
  rw [List.take_length] at h1
  have h2 := h.l1
  omega
theorem LLT.b {l : List (List (List Int))} (k : l.length + sz3 l ≤ 1048576) : LLB l :=
  ⟨by omega, fun a ha => by have := sz3_get l a ha; omega, fun a ha y hy => by have := sz3_get l a ha; have := sumLen_get (l.getD a []) y hy; omega⟩
attribute [local go_sem] sz3_nil sumL3_nil marksSS_nil
theorem cal_szInt64SSS : Callable Try.prog 15 := ⟨_, Try.func15, rfl, rfl⟩
theorem sp_szInt64SSS {l : List (List (List Int))} {k : Int} (h : LLT l) (hk : 0 ≤ k) (hk' : k ≤ 9223372036854775807) : Spec Try.prog 15 [.bor [] (intsss l), iv k] [] (iv (if k - (l.length + sz3 l) < 0 then -1 else k - (l.length + sz3 l))) [] := by
  refine spec_of_V (E := TE) 0 Try.func15 rfl (by simp [Try.f15]) fun X hn hX => ?_
  have hl := h.l1
  repeat' (first | (with_reducible first | refine V_seq ?_ | refine V_block ?_ | refine V_skip ?_ | refine V_ret ?_ | refine V_exit ?_) | ((with_reducible refine V_cond ?_); simp only [go_sem, simprocAttr]) | ((refine V_region (by rw [hn]; rfl) ?_); intro K hK) | ((first | with_reducible refine evOps_n ?_ | ((with_reducible apply evOps_g); rfl)); intro K hK; simp (contextual := true) only [go_sem, simprocAttr]) | with_reducible refine evOps_nil ?_ | ((with_reducible refine hK _ ?_); clear hK K) | (with_reducible first | refine And.intro ?_ ?_ | refine nxt_n ?_ | refine nxt_r ?_ | refine nxt_e ?_ | refine blk_n ?_ | refine blk_r ?_ | refine blk_same ?_ | refine blk_other (by decide) ?_ | refine noG_n ?_ | refine noG_r ?_ | refine noG_e ?_ | refine inR_mk ?_ ?_) | (refine fun (hc : (_ : Bool) = _) => ?_; try simp only [hcS] at hc))
  all_goals try exact om_
  · (first | refine ret_auto ?_ | refine ret_auto' ?_); simp only [go_sem, simprocAttr, Try.f15]
    exact if_k (by omega)
  refine V_loopK (G := {i : Nat // i ≤ l.length ∧ (0 ≤ k - l.length - sz3 (l.take i))}) (fun ⟨i, _⟩ => [(1, iv (k - l.length - sz3 (l.take i))), (5, iv i)]) [0] (fun ⟨i, _⟩ => []) [] (fun zz => l.length - zz.1) ⟨0, Nat.zero_le _, (by simp [sz3]; omega)⟩ ?_ ?_
  · exact Imp.au hX
  rintro ⟨i, hii, hwi⟩
  simp only [go_sem, simprocAttr]
  rcases Nat.lt_or_ge i l.length with hli | hgi
  · have h1 := h.l2 i hli
    have h0 := h.l3 i hli
    have h2 := sz3_take l i hli
    have h3 := sz3_le l i
    have h4 := sz3_le l (i + 1)
    repeat' (first | (with_reducible first | refine V_seq ?_ | refine V_block ?_ | refine V_skip ?_ | refine V_ret ?_ | refine V_exit ?_) | ((with_reducible refine V_cond ?_); simp only [go_sem, simprocAttr]) | ((refine V_region (by rw [hn]; rfl) ?_); intro K hK) | ((first | with_reducible refine evOps_n ?_ | ((with_reducible apply evOps_g); rfl)); intro K hK; simp (contextual := true) only [go_sem, simprocAttr]) | with_reducible refine evOps_nil ?_ | ((with_reducible refine hK _ ?_); clear hK K) | (with_reducible first | refine And.intro ?_ ?_ | refine nxt_n ?_ | refine nxt_r ?_ | refine nxt_e ?_ | refine blk_n ?_ | refine blk_r ?_ | refine blk_same ?_ | refine blk_other (by decide) ?_ | refine noG_n ?_ | refine noG_r ?_ | refine noG_e ?_ | refine inR_mk ?_ ?_) | ((with_reducible refine evCall_at 14 ?_); refine EvCall.rq (a := (sp_szInt64SS ?_ ?_ ?_ ?_)) (b := cal_szInt64SS) (c := ?_); all_goals try simp only [go_sem, simprocAttr]) | (refine fun (hc : (_ : Bool) = _) => ?_; try simp only [hcS] at hc))
    all_goals try exact om_
    · (first | refine ret_auto ?_ | refine ret_auto' ?_); simp only [go_sem, simprocAttr, Try.f15]
      exact if_k (by split at hc <;> omega)
    · have h5 : ¬ k - ↑l.length - ↑(sz3 (List.take i l)) - (↑(l.getD i []).length + ↑(sumLen (l.getD i []))) < 0 := by split at hc <;> omega
      rw [if_neg h5] at hc
      simp only [if_neg h5]
      refine ⟨⟨i + 1, by omega, by omega⟩, by simp only; omega, Imp.auto hX (by simp only [go_sem, simprocAttr, show k - (l.length : Int) - (sz3 (l.take i) : Int) - (((l.getD i []).length : Int) + (sumLen (l.getD i []) : Int)) = k - (l.length : Int) - (sz3 (l.take (i + 1)) : Int) by omega])⟩
  · have h7 : i = l.length := by omega
    subst h7
    repeat' (first | (with_reducible first | refine V_seq ?_ | refine V_block ?_ | refine V_skip ?_ | refine V_ret ?_ | refine V_exit ?_) | ((with_reducible refine V_cond ?_); simp only [go_sem, simprocAttr]) | ((refine V_region (by rw [hn]; rfl) ?_); intro K hK) | ((first | with_reducible refine evOps_n ?_ | ((with_reducible apply evOps_g); rfl)); intro K hK; simp (contextual := true) only [go_sem, simprocAttr]) | with_reducible refine evOps_nil ?_ | ((with_reducible refine hK _ ?_); clear hK K) | (with_reducible first | refine And.intro ?_ ?_ | refine nxt_n ?_ | refine nxt_r ?_ | refine nxt_e ?_ | refine blk_n ?_ | refine blk_r ?_ | refine blk_same ?_ | refine blk_other (by decide) ?_ | refine noG_n ?_ | refine noG_r ?_ | refine noG_e ?_ | refine inR_mk ?_ ?_) | (refine fun (hc : (_ : Bool) = _) => ?_; try simp only [hcS] at hc))
    all_goals try exact om_
    rw [List.take_length] at hwi
    (first | refine ret_auto ?_ | refine ret_auto' ?_); simp only [go_sem, simprocAttr, Try.f15]
    rw [List.take_length, Int.sub_sub]; exact if_n (by omega)
theorem sp_szInt64SSS_ok {l : List (List (List Int))} {k : Int} (h : ((l.length + sz3 l : Nat) : Int) ≤ k) (hk : k ≤ 9223372036854775807) : Spec Try.prog 15 [.bor [] (intsss l), iv k] [] (iv (k - (l.length + sz3 l : Nat))) [] := by
  have := sp_szInt64SSS (l := l) (k := k) ⟨by omega, fun i hi => by have := sz3_get l i hi; omega, fun i hi y hy => by have := sz3_get l i hi; have := sumLen_get (l.getD i []) y hy; omega⟩ (by omega) hk
  rwa [if_neg (by omega)] at this
theorem sp_szInt64SSS_no {l : List (List (List Int))} {k : Int} (h : k < ((l.length + sz3 l : Nat) : Int)) (h0 : 0 ≤ k) (hl : LLT l) (hk : k ≤ 9223372036854775807) : Spec Try.prog 15 [.bor [] (intsss l), iv k] [] (iv (-1)) [] := by
  have := sp_szInt64SSS (l := l) (k := k) hl h0 hk
  rwa [if_pos (by omega)] at this
end Go.Eng
