/- Several texts in one: G05, G06. -/
import Derived.Test.YtnegknkhccfmfaaDoorKgx
set_option linter.unusedSimpArgs false
set_option linter.unusedVariables false
set_option maxRecDepth 100000
set_option maxHeartbeats 8000000
section
namespace Go.Eng
open Go Go.Proofs Go.Cats
theorem iv_eq {a b : Int} (h : a = b) : iv a = iv b := by rw [h]
theorem if_k {p : Prop} [Decidable p] {a b : Int} (h : p) : iv a = iv (if p then a else b) := by rw [if_pos h]
theorem if_n {p : Prop} [Decidable p] {a b : Int} (h : ¬ p) : iv b = iv (if p then a else b) := by rw [if_neg h]
@[go_sem] theorem marks_zero (k : Int) : marks k 0 = [] := rfl
@[go_sem] theorem marksS_nil (k : Int) : marksS k [] = [] := rfl
theorem sumLen_nil : sumLen [] = 0 := rfl
attribute [go_sem] sumLen_nil Int.add_zero Int.sub_zero Int.natCast_zero Int.ofNat_zero List.take_zero List.drop_zero
theorem cal_szInt64S : Callable Tryd.prog 13 := ⟨_, Tryd.func13, rfl, rfl⟩
theorem sp_szInt64S {l : List Int} {k : Int} (hl : (l.length : Int) ≤ 9223372036854775807) (hk : 0 ≤ k) (hk' : k ≤ 9223372036854775807) : Spec Tryd.prog 13 [.bor [] (ints l), iv k] [] (iv (if k - l.length < 0 then -1 else k - l.length)) [] := by
  refine spec_of_V (E := TE) 0 Tryd.func13 rfl (by simp [Tryd.f13]) fun X hn hX => ?_
  repeat' (first | (with_reducible first | refine V_seq ?_ | refine V_skip ?_ | refine V_ret ?_) | ((with_reducible refine V_cond ?_); simp only [go_sem, simprocAttr]) | ((refine V_region (by rw [hn]; rfl) ?_); intro K hK) | ((first | with_reducible refine evOps_n ?_ | ((with_reducible apply evOps_g); rfl)); intro K hK; simp (contextual := true) only [go_sem, simprocAttr]) | with_reducible refine evOps_nil ?_ | ((with_reducible refine hK _ ?_); clear hK K) | (with_reducible first | refine And.intro ?_ ?_ | refine nxt_n ?_ | refine nxt_r ?_ | refine inR_mk ?_ ?_) | (refine fun (hc : (_ : Bool) = _) => ?_; try simp only [hcS] at hc))
  all_goals try exact om_
  · (first | refine ret_auto ?_ | refine ret_auto' ?_); simp only [go_sem, simprocAttr, Tryd.f13]
    exact if_k hc
  · (first | refine ret_auto ?_ | refine ret_auto' ?_); simp only [go_sem, simprocAttr, Tryd.f13]
    exact if_n (by omega)
theorem cal_eqInt64S : Callable Tryd.prog 28 := ⟨_, Tryd.func28, rfl, rfl⟩
theorem sp_eqInt64S {a b : List Int} (ha : a.length ≤ 1048576) (hb : b.length ≤ 1048576) : Spec Tryd.prog 28 [.bor [] (ints a), .bor [] (ints b)] [] (bv (dec (a = b))) [] := by
  refine spec_of_V (E := TE) 0 Tryd.func28 rfl (by simp [Tryd.f28]) fun X hn hX => ?_
  repeat' (first | (with_reducible first | refine V_seq ?_ | refine V_block ?_ | refine V_skip ?_ | refine V_ret ?_ | refine V_exit ?_) | ((with_reducible refine V_cond ?_); simp only [go_sem, simprocAttr]) | ((first | refine V_region (by rw [hn]; rfl) ?_ | refine V_drawn hmix (by rw [hn]; rfl) ?_); intro K hK) | ((first | with_reducible refine evOps_n ?_ | ((with_reducible apply evOps_g); rfl) | with_reducible refine evOpsD_n ?_ | ((with_reducible apply evOpsD_g); rfl)); intro K hK; simp (contextual := true) only [go_sem, simprocAttr]) | with_reducible refine evOps_nil ?_ | ((with_reducible refine evOpsD_nil ?_ ?_); kernel_rfl) | ((with_reducible refine hK _ ?_); clear hK K) | (with_reducible first | refine And.intro ?_ ?_ | refine nxt_n ?_ | refine nxt_r ?_ | refine nxt_e ?_ | refine blk_n ?_ | refine blk_r ?_ | refine blk_same ?_ | refine blk_other (by decide) ?_ | refine noG_n ?_ | refine noG_r ?_ | refine noG_e ?_ | refine inR_mk ?_ ?_) | (refine fun (hc : (_ : Bool) = _) => ?_; try simp only [hcS] at hc))
  all_goals try exact om_
  · (first | refine ret_auto ?_ | refine ret_auto' ?_); simp only [go_sem, simprocAttr, Tryd.f28]
    exact bv_f (fun e => by subst e; omega)
  refine V_loopK (G := {i : Nat // i ≤ a.length ∧ (a.take i = b.take i)}) (fun ⟨i, _⟩ => [(5, iv i)]) [0, 1] (fun ⟨i, _⟩ => []) [] (fun zz => a.length - zz.1) ⟨0, Nat.zero_le _, by simp⟩ ?_ ?_
  · exact Imp.au hX
  rintro ⟨i, hii, hwi⟩
  simp only [go_sem, simprocAttr]
  repeat' (first | (with_reducible first | refine V_seq ?_ | refine V_block ?_ | refine V_skip ?_ | refine V_ret ?_ | refine V_exit ?_) | ((with_reducible refine V_cond ?_); simp only [go_sem, simprocAttr]) | ((first | refine V_region (by rw [hn]; rfl) ?_ | refine V_drawn hmix (by rw [hn]; rfl) ?_); intro K hK) | ((first | with_reducible refine evOps_n ?_ | ((with_reducible apply evOps_g); rfl) | with_reducible refine evOpsD_n ?_ | ((with_reducible apply evOpsD_g); rfl)); intro K hK; simp (contextual := true) only [go_sem, simprocAttr]) | with_reducible refine evOps_nil ?_ | ((with_reducible refine evOpsD_nil ?_ ?_); kernel_rfl) | ((with_reducible refine hK _ ?_); clear hK K) | (with_reducible first | refine And.intro ?_ ?_ | refine nxt_n ?_ | refine nxt_r ?_ | refine nxt_e ?_ | refine blk_n ?_ | refine blk_r ?_ | refine blk_same ?_ | refine blk_other (by decide) ?_ | refine noG_n ?_ | refine noG_r ?_ | refine noG_e ?_ | refine inR_mk ?_ ?_) | (refine fun (hc : (_ : Bool) = _) => ?_; try simp only [hcS] at hc))
  all_goals try exact om_
  · (first | refine ret_auto ?_ | refine ret_auto' ?_); simp only [go_sem, simprocAttr, Tryd.f28]
    exact bv_f (fun e => by subst e; exact hc rfl)
  · refine ⟨⟨i + 1, by omega, (by exact take_snoc hwi (by omega) (by omega) hc)⟩, by simp only; omega, Imp.ao hX⟩
  · (first | refine ret_auto ?_ | refine ret_auto' ?_); simp only [go_sem, simprocAttr, Tryd.f28]
    exact bv_t (take_end hwi (by omega) (by omega))
theorem cal_toInt64S : Callable Tryd.prog 21 := ⟨_, Tryd.func21, rfl, rfl⟩
theorem sp_toInt64S {l : List Int} (hl : l.length ≤ 1048576) : Spec Tryd.prog 21 [.bor [] (ints l)] [] (.sl 0) [(0, ⟨1, .arr (ints l)⟩)] := by
  refine spec_of_V (E := TE) 0 Tryd.func21 rfl (by simp [Tryd.f21]) fun X hn hX => ?_
  repeat' (first | (with_reducible first | refine V_seq ?_ | refine V_block ?_ | refine V_skip ?_ | refine V_ret ?_ | refine V_exit ?_) | ((with_reducible refine V_cond ?_); simp only [go_sem, simprocAttr]) | ((refine V_region (by rw [hn]; rfl) ?_); intro K hK) | ((first | with_reducible refine evOps_n ?_ | ((with_reducible apply evOps_g); rfl)); intro K hK; simp (contextual := true) only [go_sem, simprocAttr]) | with_reducible refine evOps_nil ?_ | ((with_reducible refine hK _ ?_); clear hK K) | (with_reducible first | refine And.intro ?_ ?_ | refine nxt_n ?_ | refine nxt_r ?_ | refine nxt_e ?_ | refine blk_n ?_ | refine blk_r ?_ | refine blk_same ?_ | refine blk_other (by decide) ?_ | refine noG_n ?_ | refine noG_r ?_ | refine noG_e ?_ | refine inR_mk ?_ ?_) | (refine fun (hc : (_ : Bool) = _) => ?_; try simp only [hcS] at hc))
  all_goals try exact om_
  refine V_loopK (G := {i : Nat // i ≤ l.length ∧ (True)}) (fun ⟨i, _⟩ => [(4, iv i), (3, .sl 0)]) [0, 2] (fun ⟨i, _⟩ => [(0, ⟨1, .arr (ints (l.take i ++ List.replicate (l.length - i) 0))⟩)]) [0] (fun zz => l.length - zz.1) ⟨0, Nat.zero_le _, by first | trivial | simp⟩ ?_ ?_
  · exact Imp.au hX
  rintro ⟨i, hii, hwi⟩
  simp only [go_sem, simprocAttr]
  repeat' (first | (with_reducible first | refine V_seq ?_ | refine V_block ?_ | refine V_skip ?_ | refine V_ret ?_ | refine V_exit ?_) | ((with_reducible refine V_cond ?_); simp only [go_sem, simprocAttr]) | ((refine V_region (by rw [hn]; rfl) ?_); intro K hK) | ((first | with_reducible refine evOps_n ?_ | ((with_reducible apply evOps_g); rfl)); intro K hK; simp (contextual := true) only [go_sem, simprocAttr]) | with_reducible refine evOps_nil ?_ | ((with_reducible refine hK _ ?_); clear hK K) | (with_reducible first | refine And.intro ?_ ?_ | refine nxt_n ?_ | refine nxt_r ?_ | refine nxt_e ?_ | refine blk_n ?_ | refine blk_r ?_ | refine blk_same ?_ | refine blk_other (by decide) ?_ | refine noG_n ?_ | refine noG_r ?_ | refine noG_e ?_ | refine inR_mk ?_ ?_) | (refine fun (hc : (_ : Bool) = _) => ?_; try simp only [hcS] at hc))
  all_goals try exact om_
  · refine ⟨⟨i + 1, by omega, (by trivial)⟩, by simp only; omega, Imp.auto hX (by simp only [go_sem, simprocAttr, fill_step l i (show i < l.length by omega)])⟩
  · (first | refine ret_auto ?_ | refine ret_auto' ?_); simp only [go_sem, simprocAttr, Tryd.f21]
    rw [show i = l.length by omega]; simp
theorem cal_markInt64S : Callable Tryd.prog 30 := ⟨_, Tryd.func30, rfl, rfl⟩
theorem sp_markInt64S {l : List Int} {k : Int} (hk : -9223372036854775808 ≤ k) (hl : k + l.length ≤ 9223372036854775807) (hl2 : l.length ≤ 9223372036854775807) : Spec Tryd.prog 30 [.sl 0, iv k] [(0, ⟨1, .arr (ints l)⟩)] (iv (k + l.length)) [(0, ⟨1, .arr (ints (marks k l.length))⟩)] := by
  refine spec_of_V (E := TE) 1 Tryd.func30 rfl (by simp [Tryd.f30]) fun X hn hX => ?_
  repeat' (first | (with_reducible first | refine V_seq ?_ | refine V_block ?_ | refine V_skip ?_ | refine V_ret ?_ | refine V_exit ?_) | ((with_reducible refine V_cond ?_); simp only [go_sem, simprocAttr]) | ((refine V_region (by rw [hn]; rfl) ?_); intro K hK) | ((first | with_reducible refine evOps_n ?_ | ((with_reducible apply evOps_g); rfl)); intro K hK; simp (contextual := true) only [go_sem, simprocAttr]) | with_reducible refine evOps_nil ?_ | ((with_reducible refine hK _ ?_); clear hK K) | (with_reducible first | refine And.intro ?_ ?_ | refine nxt_n ?_ | refine nxt_r ?_ | refine nxt_e ?_ | refine blk_n ?_ | refine blk_r ?_ | refine blk_same ?_ | refine blk_other (by decide) ?_ | refine noG_n ?_ | refine noG_r ?_ | refine noG_e ?_ | refine inR_mk ?_ ?_) | (refine fun (hc : (_ : Bool) = _) => ?_; try simp only [hcS] at hc))
  all_goals try exact om_
  refine V_loopK (G := {i : Nat // i ≤ l.length ∧ (True)}) (fun ⟨i, _⟩ => [(1, iv (k + i)), (5, iv i)]) [0, 4] (fun ⟨i, _⟩ => [(0, ⟨1, .arr (ints (marks k i ++ l.drop i))⟩)]) [0] (fun zz => l.length - zz.1) ⟨0, Nat.zero_le _, by first | trivial | simp⟩ ?_ ?_
  · exact Imp.au hX
  rintro ⟨i, hii, hwi⟩
  simp only [go_sem, simprocAttr]
  repeat' (first | (with_reducible first | refine V_seq ?_ | refine V_block ?_ | refine V_skip ?_ | refine V_ret ?_ | refine V_exit ?_) | ((with_reducible refine V_cond ?_); simp only [go_sem, simprocAttr]) | ((refine V_region (by rw [hn]; rfl) ?_); intro K hK) | ((first | with_reducible refine evOps_n ?_ | ((with_reducible apply evOps_g); rfl)); intro K hK; simp (contextual := true) only [go_sem, simprocAttr]) | with_reducible refine evOps_nil ?_ | ((with_reducible refine hK _ ?_); clear hK K) | (with_reducible first | refine And.intro ?_ ?_ | refine nxt_n ?_ | refine nxt_r ?_ | refine nxt_e ?_ | refine blk_n ?_ | refine blk_r ?_ | refine blk_same ?_ | refine blk_other (by decide) ?_ | refine noG_n ?_ | refine noG_r ?_ | refine noG_e ?_ | refine inR_mk ?_ ?_) | (refine fun (hc : (_ : Bool) = _) => ?_; try simp only [hcS] at hc))
  all_goals try exact om_
  · refine ⟨⟨i + 1, by omega, (by trivial)⟩, by simp only; omega, Imp.auto hX (by simp only [go_sem, simprocAttr, mark_step l k i (show i < l.length by omega), Int.add_assoc])⟩
  · (first | refine ret_auto ?_ | refine ret_auto' ?_); simp only [go_sem, simprocAttr, Tryd.f30]
    rw [show i = l.length by omega]; simp
theorem cal_heldInt64S : Callable Tryd.prog 33 := ⟨_, Tryd.func33, rfl, rfl⟩
theorem sp_heldInt64S {l : List Int} {k : Int} (hk : 0 ≤ k) (hl : k + l.length ≤ 9223372036854775807) : Spec Tryd.prog 33 [.bor [] (ints l), iv k] [] (iv (if l = marks k l.length then k + l.length else -1)) [] := by
  refine spec_of_V (E := TE) 0 Tryd.func33 rfl (by simp [Tryd.f33]) fun X hn hX => ?_
  repeat' (first | (with_reducible first | refine V_seq ?_ | refine V_block ?_ | refine V_skip ?_ | refine V_ret ?_ | refine V_exit ?_) | ((with_reducible refine V_cond ?_); simp only [go_sem, simprocAttr]) | ((refine V_region (by rw [hn]; rfl) ?_); intro K hK) | ((first | with_reducible refine evOps_n ?_ | ((with_reducible apply evOps_g); rfl)); intro K hK; simp (contextual := true) only [go_sem, simprocAttr]) | with_reducible refine evOps_nil ?_ | ((with_reducible refine hK _ ?_); clear hK K) | (with_reducible first | refine And.intro ?_ ?_ | refine nxt_n ?_ | refine nxt_r ?_ | refine nxt_e ?_ | refine blk_n ?_ | refine blk_r ?_ | refine blk_same ?_ | refine blk_other (by decide) ?_ | refine noG_n ?_ | refine noG_r ?_ | refine noG_e ?_ | refine inR_mk ?_ ?_) | (refine fun (hc : (_ : Bool) = _) => ?_; try simp only [hcS] at hc))
  all_goals try exact om_
  refine V_loopK (G := {i : Nat // i ≤ l.length ∧ (l.take i = marks k i)}) (fun ⟨i, _⟩ => [(1, iv (k + i)), (5, iv i)]) [0] (fun ⟨i, _⟩ => []) [] (fun zz => l.length - zz.1) ⟨0, Nat.zero_le _, by simp [marks]⟩ ?_ ?_
  · exact Imp.au hX
  rintro ⟨i, hii, hwi⟩
  simp only [go_sem, simprocAttr]
  repeat' (first | (with_reducible first | refine V_seq ?_ | refine V_block ?_ | refine V_skip ?_ | refine V_ret ?_ | refine V_exit ?_) | ((with_reducible refine V_cond ?_); simp only [go_sem, simprocAttr]) | ((refine V_region (by rw [hn]; rfl) ?_); intro K hK) | ((first | with_reducible refine evOps_n ?_ | ((with_reducible apply evOps_g); rfl)); intro K hK; simp (contextual := true) only [go_sem, simprocAttr]) | with_reducible refine evOps_nil ?_ | ((with_reducible refine hK _ ?_); clear hK K) | (with_reducible first | refine And.intro ?_ ?_ | refine nxt_n ?_ | refine nxt_r ?_ | refine nxt_e ?_ | refine blk_n ?_ | refine blk_r ?_ | refine blk_same ?_ | refine blk_other (by decide) ?_ | refine noG_n ?_ | refine noG_r ?_ | refine noG_e ?_ | refine inR_mk ?_ ?_) | (refine fun (hc : (_ : Bool) = _) => ?_; try simp only [hcS] at hc))
  all_goals try exact om_
  · (first | refine ret_auto ?_ | refine ret_auto' ?_); simp only [go_sem, simprocAttr, Tryd.f33]
    exact if_n (fun e => hc (by rw [e]; exact marks_getD k _ i (by omega)))
  · refine ⟨⟨i + 1, by omega, (by (rw [take_getD (d := 0) (by omega), hwi, marks_succ, ← hc]))⟩, by simp only; omega, Imp.auto hX (by simp only [go_sem, simprocAttr, Int.add_assoc])⟩
  · (first | refine ret_auto ?_ | refine ret_auto' ?_); simp only [go_sem, simprocAttr, Tryd.f33]
    have e : i = l.length := by omega
    subst e
    rw [List.take_length] at hwi
    exact if_k hwi
theorem cal_szInt64SS : Callable Tryd.prog 14 := ⟨_, Tryd.func14, rfl, rfl⟩
theorem sp_szInt64SS {l : List (List Int)} {k : Int} (hl : (l.length : Int) ≤ 9223372036854775807) (hr : ∀ i, i < l.length → ((l.getD i []).length : Int) ≤ 9223372036854775807) (hk : 0 ≤ k) (hk' : k ≤ 9223372036854775807) : Spec Tryd.prog 14 [.bor [] (intss l), iv k] [] (iv (if k - (l.length + sumLen l) < 0 then -1 else k - (l.length + sumLen l))) [] := by
  refine spec_of_V (E := TE) 0 Tryd.func14 rfl (by simp [Tryd.f14]) fun X hn hX => ?_
  repeat' (first | (with_reducible first | refine V_seq ?_ | refine V_block ?_ | refine V_skip ?_ | refine V_ret ?_ | refine V_exit ?_) | ((with_reducible refine V_cond ?_); simp only [go_sem, simprocAttr]) | ((refine V_region (by rw [hn]; rfl) ?_); intro K hK) | ((first | with_reducible refine evOps_n ?_ | ((with_reducible apply evOps_g); rfl)); intro K hK; simp (contextual := true) only [go_sem, simprocAttr]) | with_reducible refine evOps_nil ?_ | ((with_reducible refine hK _ ?_); clear hK K) | (with_reducible first | refine And.intro ?_ ?_ | refine nxt_n ?_ | refine nxt_r ?_ | refine nxt_e ?_ | refine blk_n ?_ | refine blk_r ?_ | refine blk_same ?_ | refine blk_other (by decide) ?_ | refine noG_n ?_ | refine noG_r ?_ | refine noG_e ?_ | refine inR_mk ?_ ?_) | (refine fun (hc : (_ : Bool) = _) => ?_; try simp only [hcS] at hc))
  all_goals try exact om_
  · (first | refine ret_auto ?_ | refine ret_auto' ?_); simp only [go_sem, simprocAttr, Tryd.f14]
    exact if_k (by omega)
  refine V_loopK (G := {i : Nat // i ≤ l.length ∧ (0 ≤ k - l.length - sumLen (l.take i))}) (fun ⟨i, _⟩ => [(1, iv (k - l.length - sumLen (l.take i))), (5, iv i)]) [0] (fun ⟨i, _⟩ => []) [] (fun zz => l.length - zz.1) ⟨0, Nat.zero_le _, (by simp [sumLen]; omega)⟩ ?_ ?_
  · exact Imp.au hX
  rintro ⟨i, hii, hwi⟩
  simp only [go_sem, simprocAttr]
  have h1 := hr i
  have h2 := sumLen_take l i
  have h3 := sumLen_le l i
  have h4 := sumLen_le l (i + 1)
  repeat' (first | (with_reducible first | refine V_seq ?_ | refine V_block ?_ | refine V_skip ?_ | refine V_ret ?_ | refine V_exit ?_) | ((with_reducible refine V_cond ?_); simp only [go_sem, simprocAttr]) | ((refine V_region (by rw [hn]; rfl) ?_); intro K hK) | ((first | with_reducible refine evOps_n ?_ | ((with_reducible apply evOps_g); rfl)); intro K hK; simp (contextual := true) only [go_sem, simprocAttr]) | with_reducible refine evOps_nil ?_ | ((with_reducible refine hK _ ?_); clear hK K) | (with_reducible first | refine And.intro ?_ ?_ | refine nxt_n ?_ | refine nxt_r ?_ | refine nxt_e ?_ | refine blk_n ?_ | refine blk_r ?_ | refine blk_same ?_ | refine blk_other (by decide) ?_ | refine noG_n ?_ | refine noG_r ?_ | refine noG_e ?_ | refine inR_mk ?_ ?_) | ((with_reducible refine evCall_at 13 ?_); refine EvCall.rq (a := (sp_szInt64S ?_ ?_ ?_)) (b := cal_szInt64S) (c := ?_); all_goals try simp only [go_sem, simprocAttr]) | (refine fun (hc : (_ : Bool) = _) => ?_; try simp only [hcS] at hc))
  all_goals try exact om_
  · (first | refine ret_auto ?_ | refine ret_auto' ?_); simp only [go_sem, simprocAttr, Tryd.f14]
    exact if_k (by split at hc <;> omega)
  · have h5 : ¬ k - ↑l.length - ↑(sumLen (List.take i l)) - ↑(l.getD i []).length < 0 := by split at hc <;> omega
    have h6 := h2 (by omega)
    rw [if_neg h5] at hc
    simp only [if_neg h5]
    refine ⟨⟨i + 1, by omega, by omega⟩, by simp only; omega, Imp.auto hX (by simp only [go_sem, simprocAttr, show k - (l.length : Int) - (sumLen (l.take i) : Int) - ((l.getD i []).length : Int) = k - (l.length : Int) - (sumLen (l.take (i + 1)) : Int) by omega])⟩
  · have h7 : i = l.length := by omega
    subst h7
    rw [List.take_length] at hwi
    (first | refine ret_auto ?_ | refine ret_auto' ?_); simp only [go_sem, simprocAttr, Tryd.f14]
    rw [List.take_length, Int.sub_sub]; exact if_n (by omega)
theorem sp_szInt64S_ok {l : List Int} {k : Int} (h : (l.length : Int) ≤ k) (hk : k ≤ 9223372036854775807) : Spec Tryd.prog 13 [.bor [] (ints l), iv k] [] (iv (k - l.length)) [] := by
  have := sp_szInt64S (l := l) (k := k) (by omega) (by omega) hk
  rwa [if_neg (by omega)] at this
theorem sp_szInt64S_no {l : List Int} {k : Int} (h : k < l.length) (h0 : 0 ≤ k) (hl : (l.length : Int) ≤ 9223372036854775807) : Spec Tryd.prog 13 [.bor [] (ints l), iv k] [] (iv (-1)) [] := by
  have := sp_szInt64S (l := l) (k := k) hl h0 (by omega)
  rwa [if_pos (by omega)] at this
theorem sumLen_get (l : List (List Int)) (i : Nat) (h : i < l.length) : (l.getD i []).length ≤ sumLen l := by
  have h2 := sumLen_take l i h
  have h4 := sumLen_le l (i + 1)
  omega
theorem sp_szInt64SS_ok {l : List (List Int)} {k : Int} (h : ((l.length + sumLen l : Nat) : Int) ≤ k) (hk : k ≤ 9223372036854775807) : Spec Tryd.prog 14 [.bor [] (intss l), iv k] [] (iv (k - (l.length + sumLen l : Nat))) [] := by
  have := sp_szInt64SS (l := l) (k := k) (by omega) (fun i hi => by have := sumLen_get l i hi; omega) (by omega) hk
  rwa [if_neg (by omega)] at this
theorem sp_szInt64SS_no {l : List (List Int)} {k : Int} (h : k < ((l.length + sumLen l : Nat) : Int)) (h0 : 0 ≤ k) (hl : (l.length : Int) ≤ 9223372036854775807) (hk : k ≤ 9223372036854775807) (hr : ∀ i, i < l.length → ((l.getD i []).length : Int) ≤ 9223372036854775807) : Spec Tryd.prog 14 [.bor [] (intss l), iv k] [] (iv (-1)) [] := by
  have := sp_szInt64SS (l := l) (k := k) hl hr h0 hk
  rwa [if_pos (by omega)] at this
structure CatL (c : Cat) : Prop where
  fr : (c.fr.length : Int) ≤ 9223372036854775807
  to : (c.to.length : Int) ≤ 9223372036854775807
  id : (c.id.length : Int) ≤ 9223372036854775807
  co : (c.co.length : Int) ≤ 9223372036854775807
  row : ∀ f, f < c.co.length → ((c.co.getD f []).length : Int) ≤ 9223372036854775807
def catSz (c : Cat) : Nat := c.fr.length + c.to.length + c.id.length + (c.co.length + sumLen c.co)
theorem cal_szCategory : Callable Tryd.prog 4 := ⟨_, Tryd.func4, rfl, rfl⟩
theorem sp_szCategory_ok {c : Cat} {k : Int} (h : (catSz c : Int) ≤ k) (hk : k ≤ 9223372036854775807) : Spec Tryd.prog 4 [catV c, iv k] [] (iv (k - catSz c)) [] := by
  unfold catSz at h ⊢
  refine spec_of_V (E := TE) 0 Tryd.func4 rfl (by simp [Tryd.f4]) fun X hn hX => ?_
  repeat' (first | (with_reducible first | refine V_seq ?_ | refine V_skip ?_ | refine V_ret ?_) | ((with_reducible refine V_cond ?_); simp only [go_sem, simprocAttr]) | ((refine V_region (by rw [hn]; rfl) ?_); intro K hK) | ((first | with_reducible refine evOps_n ?_ | ((with_reducible apply evOps_g); rfl)); intro K hK; simp (contextual := true) only [go_sem, simprocAttr]) | with_reducible refine evOps_nil ?_ | ((with_reducible refine hK _ ?_); clear hK K) | (with_reducible first | refine And.intro ?_ ?_ | refine nxt_n ?_ | refine nxt_r ?_ | refine inR_mk ?_ ?_) | ((with_reducible refine evCall_at 13 ?_); refine EvCall.rq (a := (sp_szInt64S_ok (by first | omega | assumption | rfl) (by first | omega | assumption | rfl))) (b := cal_szInt64S) (c := ?_); all_goals try simp only [go_sem, simprocAttr]) | ((with_reducible refine evCall_at 14 ?_); refine EvCall.rq (a := (sp_szInt64SS_ok (by first | omega | assumption | rfl) (by first | omega | assumption | rfl))) (b := cal_szInt64SS) (c := ?_); all_goals try simp only [go_sem, simprocAttr]) | (refine fun (hc : (_ : Bool) = _) => ?_; try simp only [hcS] at hc))
  all_goals try exact om_
  (first | refine ret_auto ?_ | refine ret_auto' ?_); simp only [go_sem, simprocAttr, Tryd.f4]
  exact iv_eq (by omega)
theorem sp_szCategory_no {c : Cat} {k : Int} (h : k < (catSz c : Int)) (h0 : 0 ≤ k) (hk : k ≤ 9223372036854775807) (hc : CatL c) : Spec Tryd.prog 4 [catV c, iv k] [] (iv (-1)) [] := by
  unfold catSz at h
  obtain ⟨l1, l2, l3, l4, l5⟩ := hc
  refine spec_of_V (E := TE) 0 Tryd.func4 rfl (by simp [Tryd.f4]) fun X hn hX => ?_
  by_cases h1 : (c.fr.length : Int) ≤ k
  · by_cases h2 : (c.fr.length + c.to.length : Int) ≤ k
    · by_cases h3 : (c.fr.length + c.to.length + c.id.length : Int) ≤ k
      all_goals (repeat' (first | (with_reducible first | refine V_seq ?_ | refine V_skip ?_ | refine V_ret ?_) | ((with_reducible refine V_cond ?_); simp only [go_sem, simprocAttr]) | ((refine V_region (by rw [hn]; rfl) ?_); intro K hK) | ((first | with_reducible refine evOps_n ?_ | ((with_reducible apply evOps_g); rfl)); intro K hK; simp (contextual := true) only [go_sem, simprocAttr]) | with_reducible refine evOps_nil ?_ | ((with_reducible refine hK _ ?_); clear hK K) | (with_reducible first | refine And.intro ?_ ?_ | refine nxt_n ?_ | refine nxt_r ?_ | refine inR_mk ?_ ?_) | ((with_reducible refine evCall_at 13 ?_); refine EvCall.rq (a := (sp_szInt64S_ok (by first | omega | assumption | rfl) (by first | omega | assumption | rfl))) (b := cal_szInt64S) (c := ?_); all_goals try simp only [go_sem, simprocAttr]) | ((with_reducible refine evCall_at 13 ?_); refine EvCall.rq (a := (sp_szInt64S_no (by first | omega | assumption | rfl) (by first | omega | assumption | rfl) (by first | omega | assumption | rfl))) (b := cal_szInt64S) (c := ?_); all_goals try simp only [go_sem, simprocAttr]) | ((with_reducible refine evCall_at 14 ?_); refine EvCall.rq (a := (sp_szInt64SS_ok (by first | omega | assumption | rfl) (by first | omega | assumption | rfl))) (b := cal_szInt64SS) (c := ?_); all_goals try simp only [go_sem, simprocAttr]) | ((with_reducible refine evCall_at 14 ?_); refine EvCall.rq (a := (sp_szInt64SS_no (by first | omega | assumption | rfl) (by first | omega | assumption | rfl) (by first | omega | assumption | rfl) (by first | omega | assumption | rfl) (by first | omega | assumption | rfl))) (b := cal_szInt64SS) (c := ?_); all_goals try simp only [go_sem, simprocAttr]) | (refine fun (hc : (_ : Bool) = _) => ?_; try simp only [hcS] at hc)))
      all_goals try exact om_
      all_goals ((first | refine ret_auto ?_ | refine ret_auto' ?_); simp only [go_sem, simprocAttr, Tryd.f4])
    · repeat' (first | (with_reducible first | refine V_seq ?_ | refine V_skip ?_ | refine V_ret ?_) | ((with_reducible refine V_cond ?_); simp only [go_sem, simprocAttr]) | ((refine V_region (by rw [hn]; rfl) ?_); intro K hK) | ((first | with_reducible refine evOps_n ?_ | ((with_reducible apply evOps_g); rfl)); intro K hK; simp (contextual := true) only [go_sem, simprocAttr]) | with_reducible refine evOps_nil ?_ | ((with_reducible refine hK _ ?_); clear hK K) | (with_reducible first | refine And.intro ?_ ?_ | refine nxt_n ?_ | refine nxt_r ?_ | refine inR_mk ?_ ?_) | ((with_reducible refine evCall_at 13 ?_); refine EvCall.rq (a := (sp_szInt64S_ok (by first | omega | assumption | rfl) (by first | omega | assumption | rfl))) (b := cal_szInt64S) (c := ?_); all_goals try simp only [go_sem, simprocAttr]) | ((with_reducible refine evCall_at 13 ?_); refine EvCall.rq (a := (sp_szInt64S_no (by first | omega | assumption | rfl) (by first | omega | assumption | rfl) (by first | omega | assumption | rfl))) (b := cal_szInt64S) (c := ?_); all_goals try simp only [go_sem, simprocAttr]) | (refine fun (hc : (_ : Bool) = _) => ?_; try simp only [hcS] at hc))
      all_goals try exact om_
      all_goals ((first | refine ret_auto ?_ | refine ret_auto' ?_); simp only [go_sem, simprocAttr, Tryd.f4])
  · repeat' (first | (with_reducible first | refine V_seq ?_ | refine V_skip ?_ | refine V_ret ?_) | ((with_reducible refine V_cond ?_); simp only [go_sem, simprocAttr]) | ((refine V_region (by rw [hn]; rfl) ?_); intro K hK) | ((first | with_reducible refine evOps_n ?_ | ((with_reducible apply evOps_g); rfl)); intro K hK; simp (contextual := true) only [go_sem, simprocAttr]) | with_reducible refine evOps_nil ?_ | ((with_reducible refine hK _ ?_); clear hK K) | (with_reducible first | refine And.intro ?_ ?_ | refine nxt_n ?_ | refine nxt_r ?_ | refine inR_mk ?_ ?_) | ((with_reducible refine evCall_at 13 ?_); refine EvCall.rq (a := (sp_szInt64S_no (by first | omega | assumption | rfl) (by first | omega | assumption | rfl) (by first | omega | assumption | rfl))) (b := cal_szInt64S) (c := ?_); all_goals try simp only [go_sem, simprocAttr]) | (refine fun (hc : (_ : Bool) = _) => ?_; try simp only [hcS] at hc))
    all_goals try exact om_
    all_goals ((first | refine ret_auto ?_ | refine ret_auto' ?_); simp only [go_sem, simprocAttr, Tryd.f4])
end Go.Eng
end
section
namespace Go.Eng
open Go Go.Proofs Go.Cats
theorem cal_eqInt64SS : Callable Tryd.prog 29 := ⟨_, Tryd.func29, rfl, rfl⟩
theorem sp_eqInt64SS {a b : List (List Int)} (ha : a.length ≤ 1048576) (hb : b.length ≤ 1048576) (ra : ∀ i, i < a.length → (a.getD i []).length ≤ 1048576) (rb : ∀ i, i < b.length → (b.getD i []).length ≤ 1048576) : Spec Tryd.prog 29 [.bor [] (intss a), .bor [] (intss b)] [] (bv (dec (a = b))) [] := by
  refine spec_of_V (E := TE) 0 Tryd.func29 rfl (by simp [Tryd.f29]) fun X hn hX => ?_
  repeat' (first | (with_reducible first | refine V_seq ?_ | refine V_block ?_ | refine V_skip ?_ | refine V_ret ?_ | refine V_exit ?_) | ((with_reducible refine V_cond ?_); simp only [go_sem, simprocAttr]) | ((first | refine V_region (by rw [hn]; rfl) ?_ | refine V_drawn hmix (by rw [hn]; rfl) ?_); intro K hK) | ((first | with_reducible refine evOps_n ?_ | ((with_reducible apply evOps_g); rfl) | with_reducible refine evOpsD_n ?_ | ((with_reducible apply evOpsD_g); rfl)); intro K hK; simp (contextual := true) only [go_sem, simprocAttr]) | with_reducible refine evOps_nil ?_ | ((with_reducible refine evOpsD_nil ?_ ?_); kernel_rfl) | ((with_reducible refine hK _ ?_); clear hK K) | (with_reducible first | refine And.intro ?_ ?_ | refine nxt_n ?_ | refine nxt_r ?_ | refine nxt_e ?_ | refine blk_n ?_ | refine blk_r ?_ | refine blk_same ?_ | refine blk_other (by decide) ?_ | refine noG_n ?_ | refine noG_r ?_ | refine noG_e ?_ | refine inR_mk ?_ ?_) | (refine fun (hc : (_ : Bool) = _) => ?_; try simp only [hcS] at hc))
  all_goals try exact om_
  · (first | refine ret_auto ?_ | refine ret_auto' ?_); simp only [go_sem, simprocAttr, Tryd.f29]
    exact bv_f (fun e => by subst e; omega)
  refine V_loopK (G := {i : Nat // i ≤ a.length ∧ (a.take i = b.take i)}) (fun ⟨i, _⟩ => [(5, iv i)]) [0, 1] (fun ⟨i, _⟩ => []) [] (fun zz => a.length - zz.1) ⟨0, Nat.zero_le _, by simp⟩ ?_ ?_
  · exact Imp.au hX
  rintro ⟨i, hii, hwi⟩
  simp only [go_sem, simprocAttr]
  have h1 := ra i
  have h2 := rb i
  repeat' (first | (with_reducible first | refine V_seq ?_ | refine V_block ?_ | refine V_skip ?_ | refine V_ret ?_ | refine V_exit ?_) | ((with_reducible refine V_cond ?_); simp only [go_sem, simprocAttr]) | ((first | refine V_region (by rw [hn]; rfl) ?_ | refine V_drawn hmix (by rw [hn]; rfl) ?_); intro K hK) | ((first | with_reducible refine evOps_n ?_ | ((with_reducible apply evOps_g); rfl) | with_reducible refine evOpsD_n ?_ | ((with_reducible apply evOpsD_g); rfl)); intro K hK; simp (contextual := true) only [go_sem, simprocAttr]) | with_reducible refine evOps_nil ?_ | ((with_reducible refine evOpsD_nil ?_ ?_); kernel_rfl) | ((with_reducible refine hK _ ?_); clear hK K) | (with_reducible first | refine And.intro ?_ ?_ | refine nxt_n ?_ | refine nxt_r ?_ | refine nxt_e ?_ | refine blk_n ?_ | refine blk_r ?_ | refine blk_same ?_ | refine blk_other (by decide) ?_ | refine noG_n ?_ | refine noG_r ?_ | refine noG_e ?_ | refine inR_mk ?_ ?_) | ((with_reducible refine evCall_at 28 ?_); refine EvCall.rq (a := (sp_eqInt64S ?_ ?_)) (b := cal_eqInt64S) (c := ?_); all_goals try simp only [go_sem, simprocAttr]) | (refine fun (hc : (_ : Bool) = _) => ?_; try simp only [hcS] at hc))
  all_goals try exact om_
  · (first | refine ret_auto ?_ | refine ret_auto' ?_); simp only [go_sem, simprocAttr, Tryd.f29]
    exact bv_f (fun e => by subst e; exact hc rfl)
  · refine ⟨⟨i + 1, by omega, (by exact take_snoc hwi (by omega) (by omega) hc)⟩, by simp only; omega, Imp.ao hX⟩
  · (first | refine ret_auto ?_ | refine ret_auto' ?_); simp only [go_sem, simprocAttr, Tryd.f29]
    exact bv_t (take_end hwi (by omega) (by omega))
theorem intsN_step (l : List (List Int)) (i : Nat) (h : i < l.length) : (intsN (l.take i) (l.length - i)).put i (ints (l.getD i [])) = intsN (l.take (i + 1)) (l.length - (i + 1)) := by
  have e : (l.take i).length = i := by simp; omega
  have := intsN_put (l.take i) (l.length - (i + 1)) (l.getD i [])
  rw [e] at this
  rw [take_getD (d := []) h, ← this, show l.length - (i + 1) + 1 = l.length - i by omega]
theorem cal_toInt64SS : Callable Tryd.prog 22 := ⟨_, Tryd.func22, rfl, rfl⟩
theorem sp_toInt64SS {l : List (List Int)} (hl : l.length ≤ 1048576) (hr : ∀ i, i < l.length → (l.getD i []).length ≤ 1048576) : Spec Tryd.prog 22 [.bor [] (intss l)] [] (.sl 0) [(0, ⟨1, .arr (intss l)⟩)] := by
  refine spec_of_V (E := TE) 0 Tryd.func22 rfl (by simp [Tryd.f22]) fun X hn hX => ?_
  repeat' (first | (with_reducible first | refine V_seq ?_ | refine V_block ?_ | refine V_skip ?_ | refine V_ret ?_ | refine V_exit ?_) | ((with_reducible refine V_cond ?_); simp only [go_sem, simprocAttr]) | ((refine V_region (by rw [hn]; rfl) ?_); intro K hK) | ((first | with_reducible refine evOps_n ?_ | ((with_reducible apply evOps_g); rfl)); intro K hK; simp (contextual := true) only [go_sem, simprocAttr]) | with_reducible refine evOps_nil ?_ | ((with_reducible refine hK _ ?_); clear hK K) | (with_reducible first | refine And.intro ?_ ?_ | refine nxt_n ?_ | refine nxt_r ?_ | refine nxt_e ?_ | refine blk_n ?_ | refine blk_r ?_ | refine blk_same ?_ | refine blk_other (by decide) ?_ | refine noG_n ?_ | refine noG_r ?_ | refine noG_e ?_ | refine inR_mk ?_ ?_) | (refine fun (hc : (_ : Bool) = _) => ?_; try simp only [hcS] at hc))
  all_goals try exact om_
  refine V_loopK (G := {i : Nat // i ≤ l.length ∧ (True)}) (fun ⟨i, _⟩ => [(4, iv i), (3, .sl 0)]) [0, 2] (fun ⟨i, _⟩ => [(0, ⟨1, .arr (intsN (l.take i) (l.length - i))⟩)]) [0] (fun zz => l.length - zz.1) ⟨0, Nat.zero_le _, by first | trivial | simp⟩ ?_ ?_
  · exact Imp.au hX
  rintro ⟨i, hii, hwi⟩
  simp only [go_sem, simprocAttr]
  have h1 := hr i
  have h2 : (l.take i).length = i := by simp; omega
  repeat' (first | (with_reducible first | refine V_seq ?_ | refine V_block ?_ | refine V_skip ?_ | refine V_ret ?_ | refine V_exit ?_) | ((with_reducible refine V_cond ?_); simp only [go_sem, simprocAttr]) | ((refine V_region (by rw [hn]; rfl) ?_); intro K hK) | ((first | with_reducible refine evOps_n ?_ | ((with_reducible apply evOps_g); rfl)); intro K hK; simp (contextual := true) only [go_sem, simprocAttr]) | with_reducible refine evOps_nil ?_ | ((with_reducible refine hK _ ?_); clear hK K) | (with_reducible first | refine And.intro ?_ ?_ | refine nxt_n ?_ | refine nxt_r ?_ | refine nxt_e ?_ | refine blk_n ?_ | refine blk_r ?_ | refine blk_same ?_ | refine blk_other (by decide) ?_ | refine noG_n ?_ | refine noG_r ?_ | refine noG_e ?_ | refine inR_mk ?_ ?_) | ((with_reducible refine evCall_at 21 ?_); refine EvCall.rq (a := (sp_toInt64S ?_)) (b := cal_toInt64S) (c := ?_); all_goals try simp only [go_sem, simprocAttr]) | (refine fun (hc : (_ : Bool) = _) => ?_; try simp only [hcS] at hc))
  all_goals try exact om_
  · refine ⟨⟨i + 1, by omega, (by trivial)⟩, by simp only; omega, Imp.auto hX (by simp only [go_sem, simprocAttr, intsN_step l i (show i < l.length by omega)])⟩
  · (first | refine ret_auto ?_ | refine ret_auto' ?_); simp only [go_sem, simprocAttr, Tryd.f22]
    rw [show i = l.length by omega, List.take_length, Nat.sub_self, intsN_zero]
theorem cal_toCategory : Callable Tryd.prog 6 := ⟨_, Tryd.func6, rfl, rfl⟩
theorem sp_toCategory {c : Cat} (hb : CatB c) : Spec Tryd.prog 6 [catV c] [] (.agg [iv c.ob, .sl 0, .sl 1, .sl 2, .sl 3]) [(0, ⟨1, .arr (ints c.fr)⟩), (1, ⟨1, .arr (ints c.to)⟩), (2, ⟨1, .arr (ints c.id)⟩), (3, ⟨1, .arr (intss c.co)⟩)] := by
  refine spec_of_V (E := TE) 0 Tryd.func6 rfl (by simp [Tryd.f6]) fun X hn hX => ?_
  obtain ⟨b1, b2, b3, b4, b5, b6, b7⟩ := hb
  repeat' (first | (with_reducible first | refine V_seq ?_ | refine V_skip ?_ | refine V_ret ?_) | ((with_reducible refine V_cond ?_); simp only [go_sem, simprocAttr]) | ((refine V_region (by rw [hn]; rfl) ?_); intro K hK) | ((first | with_reducible refine evOps_n ?_ | ((with_reducible apply evOps_g); rfl)); intro K hK; simp (contextual := true) only [go_sem, simprocAttr]) | with_reducible refine evOps_nil ?_ | ((with_reducible refine hK _ ?_); clear hK K) | (with_reducible first | refine And.intro ?_ ?_ | refine nxt_n ?_ | refine nxt_r ?_ | refine inR_mk ?_ ?_) | ((with_reducible refine evCall_at 21 ?_); refine EvCall.rq (a := (sp_toInt64S ?_)) (b := cal_toInt64S) (c := ?_); all_goals try simp only [go_sem, simprocAttr]) | ((with_reducible refine evCall_at 22 ?_); refine EvCall.rq (a := (sp_toInt64SS ?_ ?_)) (b := cal_toInt64SS) (c := ?_); all_goals try simp only [go_sem, simprocAttr]) | (refine fun (hc : (_ : Bool) = _) => ?_; try simp only [hcS] at hc))
  all_goals try exact om_
  (first | refine ret_auto ?_ | refine ret_auto' ?_); simp only [go_sem, simprocAttr, Tryd.f6]
theorem cal_eqCategory : Callable Tryd.prog 9 := ⟨_, Tryd.func9, rfl, rfl⟩
theorem sp_eqCategory {a b : Cat} (ha : CatB a) (hb : CatB b) : Spec Tryd.prog 9 [catV a, catV b] [] (bv (dec (a = b))) [] := by
  refine spec_of_V (E := TE) 0 Tryd.func9 rfl (by simp [Tryd.f9]) fun X hn hX => ?_
  obtain ⟨a1, a2, a3, a4, a5, a6, a7⟩ := ha
  obtain ⟨b1, b2, b3, b4, b5, b6, b7⟩ := hb
  repeat' (first | (with_reducible first | refine V_seq ?_ | refine V_skip ?_ | refine V_ret ?_) | ((with_reducible refine V_cond ?_); simp only [go_sem, simprocAttr]) | ((refine V_region (by rw [hn]; rfl) ?_); intro K hK) | ((first | with_reducible refine evOps_n ?_ | ((with_reducible apply evOps_g); rfl)); intro K hK; simp (contextual := true) only [go_sem, simprocAttr]) | with_reducible refine evOps_nil ?_ | ((with_reducible refine hK _ ?_); clear hK K) | (with_reducible first | refine And.intro ?_ ?_ | refine nxt_n ?_ | refine nxt_r ?_ | refine inR_mk ?_ ?_) | ((with_reducible refine evCall_at 28 ?_); refine EvCall.rq (a := (sp_eqInt64S ?_ ?_)) (b := cal_eqInt64S) (c := ?_); all_goals try simp only [go_sem, simprocAttr]) | ((with_reducible refine evCall_at 29 ?_); refine EvCall.rq (a := (sp_eqInt64SS ?_ ?_ ?_ ?_)) (b := cal_eqInt64SS) (c := ?_); all_goals try simp only [go_sem, simprocAttr]) | (refine fun (hc : (_ : Bool) = _) => ?_; try simp only [hcS] at hc))
  all_goals try exact om_
  all_goals try ((first | refine ret_auto ?_ | refine ret_auto' ?_); simp only [go_sem, simprocAttr, Tryd.f9]; exact bv_f (fun s => by subst s; contradiction))
  (first | refine ret_auto ?_ | refine ret_auto' ?_); simp only [go_sem, simprocAttr, Tryd.f9]
  exact bv_t (Cat.eq (by assumption) (by assumption) (by assumption) (by assumption) (by assumption))
end Go.Eng
end
