/- Texts, by the reference: lists of numbers read and written, the text of a functor. -/
import Derived.Test.YtnegknkhccfmfaaDoorY04q
import Derived.Test.YtnegknkhccfmfaaDoorKix
set_option linter.unusedSimpArgs false
set_option linter.unusedVariables false
set_option maxRecDepth 100000
set_option maxHeartbeats 16000000
namespace Go.Eng
open Go Go.Proofs Go.Cats
attribute [local go_sem] List.size_toArray numsI_zero
theorem cal_l04Numbers : Callable Tryd.prog 17 := ⟨_, Tryd.func17, rfl, rfl⟩
def NmOk (s : Bts) (m : Nat) : Prop := (wordsT s).length ≤ m ∧ ∀ w ∈ wordsT s, RefOk w
theorem split_spec {s : Bts} (hl : s.length ≤ 1048576) (hs : ¬ s = [45]) : Spec Tryd.prog 36 [.v (bst s), .v (.int .u8 32)] [] (.sl 0) [(0, ⟨1, .arr (strsD (wordsT s))⟩)] := by
  have h := sp_l01Split (c := 32) hl
  rw [show wordsT s = spl 32 s from by unfold wordsT; rw [if_neg hs]]
  exact h
theorem sp_l04Numbers_dash {s : Bts} {m : Nat} (hs : s = [45]) : Spec Tryd.prog 17 [.v (bst s), iv m] [] (.tup [.sl 0, bv true]) [(0, ⟨1, .arr (ints (numsT s))⟩)] := by
  have hnt : numsT s = [] := by unfold numsT wordsT; rw [if_pos hs]; rfl
  rw [hnt]
  refine spec_of_V (E := TE) 0 Tryd.func17 rfl (by simp [Tryd.f17]) fun X hn hX => ?_
  repeat' (first | (with_reducible first | refine V_seq ?_ | refine V_block ?_ | refine V_skip ?_ | refine V_ret ?_ | refine V_exit ?_) | ((with_reducible refine V_cond ?_); simp only [go_sem, simprocAttr]) | ((refine V_region (by rw [hn]; rfl) ?_); intro K hK) | ((first | with_reducible refine evOps_n ?_ | ((with_reducible apply evOps_g); rfl)); intro K hK; simp (contextual := true) only [go_sem, simprocAttr]) | with_reducible refine evOps_nil ?_ | ((with_reducible refine hK _ ?_); clear hK K) | (with_reducible first | refine And.intro ?_ ?_ | refine nxt_n ?_ | refine nxt_r ?_ | refine nxt_e ?_ | refine blk_n ?_ | refine blk_r ?_ | refine blk_same ?_ | refine blk_other (by decide) ?_ | refine noG_n ?_ | refine noG_r ?_ | refine noG_e ?_ | refine inR_mk ?_ ?_) | (refine hook_seq (a := s) (b := [45]) Tryd.underlying9 (by first | rfl | simp only [go_sem, simprocAttr]) rfl ?_; simp only [go_sem, simprocAttr]) | (refine fun (hc : (_ : Bool) = _) => ?_; try simp only [hcS] at hc))
  all_goals try exact om_
  all_goals try contradiction
  all_goals ((first | refine ret_auto ?_ | refine ret_auto' ?_); simp only [go_sem, simprocAttr, Tryd.f17])
theorem sp_l04Numbers_yes {s : Bts} {m : Nat} (hl : s.length ≤ 1048576) (hs : ¬ s = [45]) (ho : NmOk s m) : Spec Tryd.prog 17 [.v (bst s), iv m] [] (.tup [.sl 0, bv true]) [(0, ⟨1, .arr (ints (numsT s))⟩)] := by
  have hso := split_spec hl hs
  obtain ⟨wl, wb⟩ := words_ok hl
  obtain ⟨ho1, ho2⟩ := ho
  refine spec_of_V (E := TE) 0 Tryd.func17 rfl (by simp [Tryd.f17]) fun X hn hX => ?_
  repeat' (first | (with_reducible first | refine V_seq ?_ | refine V_block ?_ | refine V_skip ?_ | refine V_ret ?_ | refine V_exit ?_) | ((with_reducible refine V_cond ?_); simp only [go_sem, simprocAttr]) | ((refine V_region (by rw [hn]; rfl) ?_); intro K hK) | ((first | with_reducible refine evOps_n ?_ | ((with_reducible apply evOps_g); rfl)); intro K hK; simp (contextual := true) only [go_sem, simprocAttr]) | with_reducible refine evOps_nil ?_ | ((with_reducible refine hK _ ?_); clear hK K) | (with_reducible first | refine And.intro ?_ ?_ | refine nxt_n ?_ | refine nxt_r ?_ | refine nxt_e ?_ | refine blk_n ?_ | refine blk_r ?_ | refine blk_same ?_ | refine blk_other (by decide) ?_ | refine noG_n ?_ | refine noG_r ?_ | refine noG_e ?_ | refine inR_mk ?_ ?_) | ((with_reducible refine evCall_at 36 ?_); refine EvCall.mk (hso) cal_l01Split [(0,0)] [] (by simp [go_sem] <;> (repeat' (first | rfl | constructor))) (by simp [go_sem] <;> (repeat' (first | rfl | constructor))) ?_; all_goals try simp only [go_sem, simprocAttr]) | (refine hook_seq (a := s) (b := [45]) Tryd.underlying9 (by first | rfl | simp only [go_sem, simprocAttr]) rfl ?_; simp only [go_sem, simprocAttr]) | (refine fun (hc : (_ : Bool) = _) => ?_; try simp only [hcS] at hc))
  all_goals try exact om_
  all_goals try contradiction
  all_goals try (exfalso; omega)
  refine V_loopK (G := {i : Nat // i ≤ (wordsT s).length ∧ (True)}) (fun ⟨i, _⟩ => [(8, iv i), (6, .sl 0), (7, .sl 1)]) [] (fun ⟨i, _⟩ => [(0, ⟨1, .arr (strsD (wordsT s))⟩), (1, ⟨1, .arr (ints (numsI s i))⟩)]) [0, 1] (fun zz => (wordsT s).length - zz.1) ⟨0, Nat.zero_le _, by first | trivial | simp⟩ ?_ ?_
  · exact Imp.au hX
  rintro ⟨i, hii, hwi⟩
  simp only [go_sem, simprocAttr]
  have nl := numsI_len hii
  rcases Nat.lt_or_ge i (wordsT s).length with hlt | hge
  · have hmem : (wordsT s).getD i [] ∈ wordsT s := by rw [List.getD_eq_getElem?_getD, List.getElem?_eq_getElem hlt]; exact List.getElem_mem hlt
    have hv := sp_l01Value (wb i hlt) (.inl ⟨ho2 _ hmem, rfl⟩)
    have hnx := numsI_succ hlt
    repeat' (first | (with_reducible first | refine V_seq ?_ | refine V_block ?_ | refine V_skip ?_ | refine V_ret ?_ | refine V_exit ?_) | ((with_reducible refine V_cond ?_); simp only [go_sem, simprocAttr]) | ((refine V_region (by rw [hn]; rfl) ?_); intro K hK) | ((first | with_reducible refine evOps_n ?_ | ((with_reducible apply evOps_g); rfl)); intro K hK; simp (contextual := true) only [go_sem, simprocAttr]) | with_reducible refine evOps_nil ?_ | ((with_reducible refine hK _ ?_); clear hK K) | (with_reducible first | refine And.intro ?_ ?_ | refine nxt_n ?_ | refine nxt_r ?_ | refine nxt_e ?_ | refine blk_n ?_ | refine blk_r ?_ | refine blk_same ?_ | refine blk_other (by decide) ?_ | refine noG_n ?_ | refine noG_r ?_ | refine noG_e ?_ | refine inR_mk ?_ ?_) | ((with_reducible refine evCall_at 37 ?_); refine EvCall.mk (hv) cal_l01Value [] [] (by simp [go_sem] <;> (repeat' (first | rfl | constructor))) (by simp [go_sem] <;> (repeat' (first | rfl | constructor))) ?_; all_goals try simp only [go_sem, simprocAttr]) | (refine fun (hc : (_ : Bool) = _) => ?_; try simp only [hcS] at hc))
    all_goals try exact om_
    all_goals try (exfalso; omega)
    refine ⟨⟨i + 1, by omega, (by trivial)⟩, by simp only; omega, Imp.auto hX (by simp only [go_sem, simprocAttr, hnx])⟩
  · obtain rfl : i = (wordsT s).length := by omega
    rw [numsI_end]
    repeat' (first | (with_reducible first | refine V_seq ?_ | refine V_block ?_ | refine V_skip ?_ | refine V_ret ?_ | refine V_exit ?_) | ((with_reducible refine V_cond ?_); simp only [go_sem, simprocAttr]) | ((refine V_region (by rw [hn]; rfl) ?_); intro K hK) | ((first | with_reducible refine evOps_n ?_ | ((with_reducible apply evOps_g); rfl)); intro K hK; simp (contextual := true) only [go_sem, simprocAttr]) | with_reducible refine evOps_nil ?_ | ((with_reducible refine hK _ ?_); clear hK K) | (with_reducible first | refine And.intro ?_ ?_ | refine nxt_n ?_ | refine nxt_r ?_ | refine nxt_e ?_ | refine blk_n ?_ | refine blk_r ?_ | refine blk_same ?_ | refine blk_other (by decide) ?_ | refine noG_n ?_ | refine noG_r ?_ | refine noG_e ?_ | refine inR_mk ?_ ?_) | (refine fun (hc : (_ : Bool) = _) => ?_; try simp only [hcS] at hc))
    all_goals try exact om_
    all_goals try (exfalso; omega)
    (first | refine ret_auto ?_ | refine ret_auto' ?_); simp only [go_sem, simprocAttr, Tryd.f17]
theorem sp_l04Numbers_no {s : Bts} {m : Nat} (hl : s.length ≤ 1048576) (hs : ¬ s = [45]) (ho : ¬ NmOk s m) : Spec Tryd.prog 17 [.v (bst s), iv m] [] (.tup [.v (.slice none 0 0), bv false]) [] := by
  have hso := split_spec hl hs
  obtain ⟨wl, wb⟩ := words_ok hl
  refine spec_of_V (E := TE) 0 Tryd.func17 rfl (by simp [Tryd.f17]) fun X hn hX => ?_
  by_cases hm : (wordsT s).length ≤ m
  · repeat' (first | (with_reducible first | refine V_seq ?_ | refine V_block ?_ | refine V_skip ?_ | refine V_ret ?_ | refine V_exit ?_) | ((with_reducible refine V_cond ?_); simp only [go_sem, simprocAttr]) | ((refine V_region (by rw [hn]; rfl) ?_); intro K hK) | ((first | with_reducible refine evOps_n ?_ | ((with_reducible apply evOps_g); rfl)); intro K hK; simp (contextual := true) only [go_sem, simprocAttr]) | with_reducible refine evOps_nil ?_ | ((with_reducible refine hK _ ?_); clear hK K) | (with_reducible first | refine And.intro ?_ ?_ | refine nxt_n ?_ | refine nxt_r ?_ | refine nxt_e ?_ | refine blk_n ?_ | refine blk_r ?_ | refine blk_same ?_ | refine blk_other (by decide) ?_ | refine noG_n ?_ | refine noG_r ?_ | refine noG_e ?_ | refine inR_mk ?_ ?_) | ((with_reducible refine evCall_at 36 ?_); refine EvCall.mk (hso) cal_l01Split [(0,0)] [] (by simp [go_sem] <;> (repeat' (first | rfl | constructor))) (by simp [go_sem] <;> (repeat' (first | rfl | constructor))) ?_; all_goals try simp only [go_sem, simprocAttr]) | (refine hook_seq (a := s) (b := [45]) Tryd.underlying9 (by first | rfl | simp only [go_sem, simprocAttr]) rfl ?_; simp only [go_sem, simprocAttr]) | (refine fun (hc : (_ : Bool) = _) => ?_; try simp only [hcS] at hc))
    all_goals try exact om_
    all_goals try contradiction
    all_goals try (exfalso; omega)
    refine V_loopK (G := {i : Nat // i ≤ (wordsT s).length ∧ (∀ k, k < i → RefOk ((wordsT s).getD k []))}) (fun ⟨i, _⟩ => [(8, iv i), (6, .sl 0), (7, .sl 1)]) [] (fun ⟨i, _⟩ => [(0, ⟨1, .arr (strsD (wordsT s))⟩), (1, ⟨1, .arr (ints (numsI s i))⟩)]) [0, 1] (fun zz => (wordsT s).length - zz.1) ⟨0, Nat.zero_le _, by exact (fun k hk => absurd hk (Nat.not_lt_zero k))⟩ ?_ ?_
    · exact Imp.au hX
    rintro ⟨i, hii, hwi⟩
    simp only [go_sem, simprocAttr]
    have nl := numsI_len hii
    rcases Nat.lt_or_ge i (wordsT s).length with hlt | hge
    · by_cases hd : RefOk ((wordsT s).getD i [])
      · have hv := sp_l01Value (wb i hlt) (.inl ⟨hd, rfl⟩)
        have hnx := numsI_succ hlt
        repeat' (first | (with_reducible first | refine V_seq ?_ | refine V_block ?_ | refine V_skip ?_ | refine V_ret ?_ | refine V_exit ?_) | ((with_reducible refine V_cond ?_); simp only [go_sem, simprocAttr]) | ((refine V_region (by rw [hn]; rfl) ?_); intro K hK) | ((first | with_reducible refine evOps_n ?_ | ((with_reducible apply evOps_g); rfl)); intro K hK; simp (contextual := true) only [go_sem, simprocAttr]) | with_reducible refine evOps_nil ?_ | ((with_reducible refine hK _ ?_); clear hK K) | (with_reducible first | refine And.intro ?_ ?_ | refine nxt_n ?_ | refine nxt_r ?_ | refine nxt_e ?_ | refine blk_n ?_ | refine blk_r ?_ | refine blk_same ?_ | refine blk_other (by decide) ?_ | refine noG_n ?_ | refine noG_r ?_ | refine noG_e ?_ | refine inR_mk ?_ ?_) | ((with_reducible refine evCall_at 37 ?_); refine EvCall.mk (hv) cal_l01Value [] [] (by simp [go_sem] <;> (repeat' (first | rfl | constructor))) (by simp [go_sem] <;> (repeat' (first | rfl | constructor))) ?_; all_goals try simp only [go_sem, simprocAttr]) | (refine fun (hc : (_ : Bool) = _) => ?_; try simp only [hcS] at hc))
        all_goals try exact om_
        all_goals try (exfalso; omega)
        refine ⟨⟨i + 1, by omega, (by exact (fun k hk => by rcases Nat.lt_or_ge k i with h | h; exact hwi k h; rw [show k = i by omega]; exact hd))⟩, by simp only; omega, Imp.auto hX (by simp only [go_sem, simprocAttr, hnx])⟩
      · have hv := sp_l01Value (wb i hlt) (.inr ⟨hd, rfl⟩)
        repeat' (first | (with_reducible first | refine V_seq ?_ | refine V_block ?_ | refine V_skip ?_ | refine V_ret ?_ | refine V_exit ?_) | ((with_reducible refine V_cond ?_); simp only [go_sem, simprocAttr]) | ((refine V_region (by rw [hn]; rfl) ?_); intro K hK) | ((first | with_reducible refine evOps_n ?_ | ((with_reducible apply evOps_g); rfl)); intro K hK; simp (contextual := true) only [go_sem, simprocAttr]) | with_reducible refine evOps_nil ?_ | ((with_reducible refine hK _ ?_); clear hK K) | (with_reducible first | refine And.intro ?_ ?_ | refine nxt_n ?_ | refine nxt_r ?_ | refine nxt_e ?_ | refine blk_n ?_ | refine blk_r ?_ | refine blk_same ?_ | refine blk_other (by decide) ?_ | refine noG_n ?_ | refine noG_r ?_ | refine noG_e ?_ | refine inR_mk ?_ ?_) | ((with_reducible refine evCall_at 37 ?_); refine EvCall.mk (hv) cal_l01Value [] [] (by simp [go_sem] <;> (repeat' (first | rfl | constructor))) (by simp [go_sem] <;> (repeat' (first | rfl | constructor))) ?_; all_goals try simp only [go_sem, simprocAttr]) | (refine fun (hc : (_ : Bool) = _) => ?_; try simp only [hcS] at hc))
        all_goals try exact om_
        all_goals try (exfalso; omega)
        all_goals ((first | refine ret_auto ?_ | refine ret_auto' ?_); simp only [go_sem, simprocAttr, Tryd.f17])
    · exfalso
      refine ho ⟨hm, fun w hw => ?_⟩
      obtain ⟨k, hk, e⟩ := List.getElem_of_mem hw
      have := hwi k (by omega)
      rw [List.getD_eq_getElem?_getD, List.getElem?_eq_getElem hk] at this
      rw [← e]; exact this
  · repeat' (first | (with_reducible first | refine V_seq ?_ | refine V_block ?_ | refine V_skip ?_ | refine V_ret ?_ | refine V_exit ?_) | ((with_reducible refine V_cond ?_); simp only [go_sem, simprocAttr]) | ((refine V_region (by rw [hn]; rfl) ?_); intro K hK) | ((first | with_reducible refine evOps_n ?_ | ((with_reducible apply evOps_g); rfl)); intro K hK; simp (contextual := true) only [go_sem, simprocAttr]) | with_reducible refine evOps_nil ?_ | ((with_reducible refine hK _ ?_); clear hK K) | (with_reducible first | refine And.intro ?_ ?_ | refine nxt_n ?_ | refine nxt_r ?_ | refine nxt_e ?_ | refine blk_n ?_ | refine blk_r ?_ | refine blk_same ?_ | refine blk_other (by decide) ?_ | refine noG_n ?_ | refine noG_r ?_ | refine noG_e ?_ | refine inR_mk ?_ ?_) | ((with_reducible refine evCall_at 36 ?_); refine EvCall.mk (hso) cal_l01Split [(0,0)] [] (by simp [go_sem] <;> (repeat' (first | rfl | constructor))) (by simp [go_sem] <;> (repeat' (first | rfl | constructor))) ?_; all_goals try simp only [go_sem, simprocAttr]) | (refine hook_seq (a := s) (b := [45]) Tryd.underlying9 (by first | rfl | simp only [go_sem, simprocAttr]) rfl ?_; simp only [go_sem, simprocAttr]) | (refine fun (hc : (_ : Bool) = _) => ?_; try simp only [hcS] at hc))
    all_goals try exact om_
    all_goals try contradiction
    all_goals try (exfalso; omega)
    all_goals ((first | refine ret_auto ?_ | refine ret_auto' ?_); simp only [go_sem, simprocAttr, Tryd.f17])
theorem strOf_one {b : Nat} (h : b < 256) : (.string (strOfNums [(b : Int)]) : Value) = bst [UInt8.ofNat b] := by
  simp [strOfNums]
theorem cal_l01Dec : Callable Tryd.prog 53 := ⟨_, Tryd.func53, rfl, rfl⟩
theorem decB_le : ∀ (n : Nat), (decB n).length ≤ n + 1 := fun n => by
  induction n using Nat.strongRecOn with
  | _ n ih =>
    by_cases h : n < 10
    · rw [decB_lt h]; simp
    · rw [decB_ge h, List.length_append]
      have := ih (n / 10) (by omega)
      simp; omega
theorem sp_l01Dec : ∀ (k n : Nat), n < 10 ^ k → k ≤ 19 → Spec Tryd.prog 53 [iv n] [] (.v (bst (decB n))) []
  | 0, n, h, _ => by
    obtain rfl : n = 0 := by omega
    refine spec_of_V (E := TE) 0 Tryd.func53 rfl (by simp [Tryd.f53]) fun X hn hX => ?_
    repeat' (first | (refine hook_u8 ty_u8.1 ty_u8.2 (by simp only [go_sem, simprocAttr]; rfl) ?_ ?_ ?_; all_goals try simp only [go_sem, simprocAttr]) | (refine hook_str Tryd.underlying83 Tryd.underlying5 Tryd.underlying9 (by simp only [go_sem, simprocAttr]; rfl) (by simp only [go_sem, simprocAttr]; rfl) ?_; all_goals try simp only [go_sem, simprocAttr]) | (with_reducible first | refine V_seq ?_ | refine V_skip ?_ | refine V_ret ?_) | ((with_reducible refine V_cond ?_); simp only [go_sem, simprocAttr]) | ((first | refine V_region (by rw [hn]; rfl) ?_ | refine V_drawn hmix (by rw [hn]; rfl) ?_); intro K hK) | ((first | with_reducible refine evOps_n ?_ | ((with_reducible apply evOps_g); rfl) | with_reducible refine evOpsD_n ?_ | ((with_reducible apply evOpsD_g); rfl)); intro K hK; simp (contextual := true) only [go_sem, simprocAttr]) | with_reducible refine evOps_nil ?_ | ((with_reducible refine evOpsD_nil ?_ ?_); kernel_rfl) | ((with_reducible refine hK _ ?_); clear hK K) | (with_reducible first | refine And.intro ?_ ?_ | refine nxt_n ?_ | refine nxt_r ?_ | refine inR_mk ?_ ?_) | (refine fun (hc : (_ : Bool) = _) => ?_; try simp only [hcS] at hc))
    all_goals try exact om_
    (first | refine ret_auto ?_ | refine ret_auto' ?_); simp only [go_sem, simprocAttr, Tryd.f53]
    rw [decB_lt (by decide)]; rfl
  | k + 1, n, h, hk => by
    have h1 : 10 ^ (k + 1) ≤ 10 ^ 19 := Nat.pow_le_pow_right (by decide) hk
    have hp : 10 ^ (k + 1) = 10 * 10 ^ k := by rw [Nat.pow_succ, Nat.mul_comm]
    have ih := sp_l01Dec k (n / 10) (by omega) (by omega)
    refine spec_of_V (E := TE) 0 Tryd.func53 rfl (by simp [Tryd.f53]) fun X hn hX => ?_
    by_cases hh : n < 10
    · have e1 : (.string (strOfNums [48 + (n : Int)]) : Value) = bst (decB n) := by
        rw [show (48 : Int) + (n : Int) = ((48 + n : Nat) : Int) by omega, strOf_one (by omega), decB_lt hh]
      repeat' (first | (refine hook_u8 ty_u8.1 ty_u8.2 (by simp only [go_sem, simprocAttr]; rfl) ?_ ?_ ?_; all_goals try simp only [go_sem, simprocAttr]) | (refine hook_str Tryd.underlying83 Tryd.underlying5 Tryd.underlying9 (by simp only [go_sem, simprocAttr]; rfl) (by simp only [go_sem, simprocAttr]; rfl) ?_; all_goals try simp only [go_sem, simprocAttr]) | (with_reducible first | refine V_seq ?_ | refine V_skip ?_ | refine V_ret ?_) | ((with_reducible refine V_cond ?_); simp only [go_sem, simprocAttr]) | ((first | refine V_region (by rw [hn]; rfl) ?_ | refine V_drawn hmix (by rw [hn]; rfl) ?_); intro K hK) | ((first | with_reducible refine evOps_n ?_ | ((with_reducible apply evOps_g); rfl) | with_reducible refine evOpsD_n ?_ | ((with_reducible apply evOpsD_g); rfl)); intro K hK; simp (contextual := true) only [go_sem, simprocAttr]) | with_reducible refine evOps_nil ?_ | ((with_reducible refine evOpsD_nil ?_ ?_); kernel_rfl) | ((with_reducible refine hK _ ?_); clear hK K) | (with_reducible first | refine And.intro ?_ ?_ | refine nxt_n ?_ | refine nxt_r ?_ | refine inR_mk ?_ ?_) | (refine fun (hc : (_ : Bool) = _) => ?_; try simp only [hcS] at hc))
      all_goals try exact om_
      (first | refine ret_auto ?_ | refine ret_auto' ?_); simp only [go_sem, simprocAttr, Tryd.f53]
      exact congrArg Sv.v e1
    · have ht : (n : Int).tmod 10 = ((n % 10 : Nat) : Int) := rfl
      have hd : (n : Int).tdiv 10 = ((n / 10 : Nat) : Int) := rfl
      have hl2 : (decB (n / 10)).length + [UInt8.ofNat (48 + n % 10)].length ≤ 9223372036854775807 := by
        have := decB_le (n / 10)
        simp only [List.length_cons, List.length_nil]
        omega
      have e1 : (.string (strOfNums [48 + (n : Int).tmod 10]) : Value) = bst [UInt8.ofNat (48 + n % 10)] := by
        rw [show (48 : Int) + (n : Int).tmod 10 = ((48 + n % 10 : Nat) : Int) by rw [ht]; omega, strOf_one (by omega)]
      have e2 : decB n = decB (n / 10) ++ [UInt8.ofNat (48 + n % 10)] := decB_ge hh
      repeat' (first | (refine hook_sadd (a := decB (n / 10)) (b := [UInt8.ofNat (48 + n % 10)]) (by first | rfl | simp only [go_sem, simprocAttr]) (by simp only [go_sem, simprocAttr]; exact congrArg Sv.v e1) hl2 ?_; simp only [go_sem, simprocAttr]) | (refine hook_u8 ty_u8.1 ty_u8.2 (by simp only [go_sem, simprocAttr]; rfl) ?_ ?_ ?_; all_goals try simp only [go_sem, simprocAttr]) | (refine hook_str Tryd.underlying83 Tryd.underlying5 Tryd.underlying9 (by simp only [go_sem, simprocAttr]; rfl) (by simp only [go_sem, simprocAttr]; rfl) ?_; all_goals try simp only [go_sem, simprocAttr]) | (with_reducible first | refine V_seq ?_ | refine V_skip ?_ | refine V_ret ?_) | ((with_reducible refine V_cond ?_); simp only [go_sem, simprocAttr]) | ((first | refine V_region (by rw [hn]; rfl) ?_ | refine V_drawn hmix (by rw [hn]; rfl) ?_); intro K hK) | ((first | with_reducible refine evOps_n ?_ | ((with_reducible apply evOps_g); rfl) | with_reducible refine evOpsD_n ?_ | ((with_reducible apply evOpsD_g); rfl)); intro K hK; simp (contextual := true) only [go_sem, simprocAttr]) | with_reducible refine evOps_nil ?_ | ((with_reducible refine evOpsD_nil ?_ ?_); kernel_rfl) | ((with_reducible refine hK _ ?_); clear hK K) | (with_reducible first | refine And.intro ?_ ?_ | refine nxt_n ?_ | refine nxt_r ?_ | refine inR_mk ?_ ?_) | ((with_reducible refine evCall_at 53 ?_); refine EvCall.mk (ih) cal_l01Dec [] [] (by simp [go_sem] <;> (repeat' (first | rfl | constructor))) (by simp [go_sem] <;> (repeat' (first | rfl | constructor))) ?_; all_goals try simp only [go_sem, simprocAttr]) | (refine fun (hc : (_ : Bool) = _) => ?_; try simp only [hcS] at hc))
      all_goals try exact om_
      (first | refine ret_auto ?_ | refine ret_auto' ?_); simp only [go_sem, simprocAttr, Tryd.f53]
      rw [e2]
theorem lcat_succ {L : List Int} {i : Nat} (h : i < L.length) : lcat (L.take (i + 1)) = (lcat (L.take i) ++ [32]) ++ decB (L.getD i 0).toNat := by
  unfold lcat
  rw [List.take_succ_eq_append_getElem h, List.flatMap_append, getD_get h]
  simp
theorem decB_lt_len : ∀ (k n : Nat), n < 10 ^ k → 0 < k → (decB n).length ≤ k
  | 0, _, _, h => absurd h (Nat.lt_irrefl 0)
  | k + 1, n, h, _ => by
    by_cases hh : n < 10
    · rw [decB_lt hh]; simp
    · rw [decB_ge hh, List.length_append]
      have hp : 10 ^ (k + 1) = 10 * 10 ^ k := by rw [Nat.pow_succ, Nat.mul_comm]
      have hk : 0 < k := by
        rcases Nat.eq_zero_or_pos k with h0 | h0
        · subst h0; omega
        · exact h0
      have := decB_lt_len k (n / 10) (by omega) hk
      simp; omega
theorem lcat_len {L : List Int} (hb : ∀ i, i < L.length → 0 ≤ L.getD i 0 ∧ L.getD i 0 < 1000000000) : ∀ i, i ≤ L.length → (lcat (L.take i)).length ≤ 10 * i
  | 0, _ => by simp [lcat]
  | i + 1, hi => by
    have h1 := lcat_len hb i (by omega)
    have h2 := decB_lt_len 9 (L.getD i 0).toNat (by have := hb i (by omega); omega) (by decide)
    rw [lcat_succ (by omega), List.length_append, List.length_append, List.length_singleton]
    omega
theorem lcat_none : lcat [] = [] := rfl
attribute [local go_sem] lcat_none
theorem cal_l04List : Callable Tryd.prog 41 := ⟨_, Tryd.func41, rfl, rfl⟩
theorem sp_l04List {L : List Int} (hl : L.length ≤ 1048577) (hb : ∀ i, i < L.length → 0 ≤ L.getD i 0 ∧ L.getD i 0 < 1000000000) : Spec Tryd.prog 41 [.bor [] (ints L)] [] (.v (bst (decsT L))) [] := by
  refine spec_of_V (E := TE) 0 Tryd.func41 rfl (by simp [Tryd.f41]) fun X hn hX => ?_
  repeat' (first | (with_reducible first | refine V_seq ?_ | refine V_block ?_ | refine V_skip ?_ | refine V_ret ?_ | refine V_exit ?_) | ((with_reducible refine V_cond ?_); simp only [go_sem, simprocAttr]) | ((refine V_region (by rw [hn]; rfl) ?_); intro K hK) | ((first | with_reducible refine evOps_n ?_ | ((with_reducible apply evOps_g); rfl)); intro K hK; simp (contextual := true) only [go_sem, simprocAttr]) | with_reducible refine evOps_nil ?_ | ((with_reducible refine hK _ ?_); clear hK K) | (with_reducible first | refine And.intro ?_ ?_ | refine nxt_n ?_ | refine nxt_r ?_ | refine nxt_e ?_ | refine blk_n ?_ | refine blk_r ?_ | refine blk_same ?_ | refine blk_other (by decide) ?_ | refine noG_n ?_ | refine noG_r ?_ | refine noG_e ?_ | refine inR_mk ?_ ?_) | (refine fun (hc : (_ : Bool) = _) => ?_; try simp only [hcS] at hc))
  all_goals try exact om_
  refine V_loopK (G := {i : Nat // i ≤ L.length ∧ (True)}) (fun ⟨i, _⟩ => [(4, iv i), (3, .v (bst (lcat (L.take i))))]) [0, 2] (fun ⟨i, _⟩ => []) [] (fun zz => L.length - zz.1) ⟨0, Nat.zero_le _, by first | trivial | simp⟩ ?_ ?_
  · exact Imp.au hX
  rintro ⟨i, hii, hwi⟩
  simp only [go_sem, simprocAttr]
  have h1 := lcat_len hb i hii
  rcases Nat.lt_or_ge i L.length with hlt | hge
  · have hbi := hb i hlt
    have h2 := decB_lt_len 9 (L.getD i 0).toNat (by omega) (by decide)
    have hd := sp_l01Dec 19 (L.getD i 0).toNat (by omega) (by decide)
    have hiv : ((L.getD i 0).toNat : Int) = L.getD i 0 := Int.toNat_of_nonneg hbi.1
    rw [hiv] at hd
    have hnx := lcat_succ hlt
    repeat' (first | (with_reducible first | refine V_seq ?_ | refine V_block ?_ | refine V_skip ?_ | refine V_ret ?_ | refine V_exit ?_) | ((with_reducible refine V_cond ?_); simp only [go_sem, simprocAttr]) | ((refine V_region (by rw [hn]; rfl) ?_); intro K hK) | ((first | with_reducible refine evOps_n ?_ | ((with_reducible apply evOps_g); rfl)); intro K hK; simp (contextual := true) only [go_sem, simprocAttr]) | with_reducible refine evOps_nil ?_ | ((with_reducible refine hK _ ?_); clear hK K) | (with_reducible first | refine And.intro ?_ ?_ | refine nxt_n ?_ | refine nxt_r ?_ | refine nxt_e ?_ | refine blk_n ?_ | refine blk_r ?_ | refine blk_same ?_ | refine blk_other (by decide) ?_ | refine noG_n ?_ | refine noG_r ?_ | refine noG_e ?_ | refine inR_mk ?_ ?_) | ((with_reducible refine evCall_at 53 ?_); refine EvCall.mk (hd) cal_l01Dec [] [] (by simp [go_sem] <;> (repeat' (first | rfl | constructor))) (by simp [go_sem] <;> (repeat' (first | rfl | constructor))) ?_; all_goals try simp only [go_sem, simprocAttr]) | (refine hook_sadd (x := .tmp 11) (a := lcat (L.take i)) (b := [32]) (by first | rfl | simp only [go_sem, simprocAttr]) (by first | rfl | simp only [go_sem, simprocAttr]) (by simp only [List.length_append, List.length_cons, List.length_nil]; omega) ?_; simp only [go_sem, simprocAttr]) | (refine hook_sadd (x := .tmp 12) (a := lcat (L.take i) ++ [32]) (b := decB (L.getD i 0).toNat) (by first | rfl | simp only [go_sem, simprocAttr]) (by first | rfl | simp only [go_sem, simprocAttr]) (by simp only [List.length_append, List.length_cons, List.length_nil]; omega) ?_; simp only [go_sem, simprocAttr]) | (refine fun (hc : (_ : Bool) = _) => ?_; try simp only [hcS] at hc))
    all_goals try exact om_
    all_goals try (exfalso; omega)
    refine ⟨⟨i + 1, by omega, (by trivial)⟩, by simp only; omega, Imp.auto hX (by simp only [go_sem, simprocAttr, hnx])⟩
  · obtain rfl : i = L.length := by omega
    rw [List.take_length] at h1 ⊢
    have e1 : decsT L = if lcat L = [] then [45] else (lcat L).drop 1 := rfl
    have e2 : lcat L ≠ [] → 0 < (lcat L).length := List.length_pos_iff.2
    repeat' (first | (with_reducible first | refine V_seq ?_ | refine V_block ?_ | refine V_skip ?_ | refine V_ret ?_ | refine V_exit ?_) | ((with_reducible refine V_cond ?_); simp only [go_sem, simprocAttr]) | ((refine V_region (by rw [hn]; rfl) ?_); intro K hK) | ((first | with_reducible refine evOps_n ?_ | ((with_reducible apply evOps_g); rfl)); intro K hK; simp (contextual := true) only [go_sem, simprocAttr]) | with_reducible refine evOps_nil ?_ | ((with_reducible refine hK _ ?_); clear hK K) | (with_reducible first | refine And.intro ?_ ?_ | refine nxt_n ?_ | refine nxt_r ?_ | refine nxt_e ?_ | refine blk_n ?_ | refine blk_r ?_ | refine blk_same ?_ | refine blk_other (by decide) ?_ | refine noG_n ?_ | refine noG_r ?_ | refine noG_e ?_ | refine inR_mk ?_ ?_) | (refine hook_seq (a := lcat L) (b := []) Tryd.underlying9 (by first | rfl | simp only [go_sem, simprocAttr]) rfl ?_; simp only [go_sem, simprocAttr]) | (refine hook_sdrop (l := 1) Tryd.underlying9 (by first | rfl | simp only [go_sem, simprocAttr]) (by first | rfl | simp only [go_sem, simprocAttr]) (by omega) (by have := e2 (by assumption); omega) ?_; simp only [go_sem, simprocAttr, Int.toNat_natCast]) | (refine fun (hc : (_ : Bool) = _) => ?_; try simp only [hcS] at hc))
    all_goals try exact om_
    all_goals try (exfalso; omega)
    · (first | refine ret_auto ?_ | refine ret_auto' ?_); simp only [go_sem, simprocAttr, Tryd.f41]
      rw [e1, if_pos (by assumption)]
    · (first | refine ret_auto ?_ | refine ret_auto' ?_); simp only [go_sem, simprocAttr, Tryd.f41]
      rw [e1, if_neg (by assumption)]
def funT (f : Fun) : Bts := decsT f.obs ++ bar ++ decsT f.ars
theorem decsT_len {L : List Int} (hb : ∀ i, i < L.length → 0 ≤ L.getD i 0 ∧ L.getD i 0 < 1000000000) : (decsT L).length ≤ 10 * L.length + 1 := by
  have h1 := lcat_len hb L.length (Nat.le_refl _)
  rw [List.take_length] at h1
  unfold decsT
  split
  · simp
  · rw [List.length_drop]; omega
theorem cal_l04Functor : Callable Tryd.prog 20 := ⟨_, Tryd.func20, rfl, rfl⟩
theorem sp_l04Functor {f : Fun} (h1 : f.obs.length ≤ 1048577) (b1 : ∀ i, i < f.obs.length → 0 ≤ f.obs.getD i 0 ∧ f.obs.getD i 0 < 1000000000) (h2 : f.ars.length ≤ 1048577) (b2 : ∀ i, i < f.ars.length → 0 ≤ f.ars.getD i 0 ∧ f.ars.getD i 0 < 1000000000) : Spec Tryd.prog 20 [funV f] [] (.v (bst (funT f))) [] := by
  refine spec_of_V (E := TE) 0 Tryd.func20 rfl (by simp [Tryd.f20]) fun X hn hX => ?_
  have s1 := sp_l04List h1 b1
  have s2 := sp_l04List h2 b2
  have l1 := decsT_len b1
  have l2 := decsT_len b2
  repeat' (first | (with_reducible first | refine V_seq ?_ | refine V_skip ?_ | refine V_ret ?_) | ((with_reducible refine V_cond ?_); simp only [go_sem, simprocAttr]) | ((first | refine V_region (by rw [hn]; rfl) ?_ | refine V_drawn hmix (by rw [hn]; rfl) ?_); intro K hK) | ((first | with_reducible refine evOps_n ?_ | ((with_reducible apply evOps_g); rfl) | with_reducible refine evOpsD_n ?_ | ((with_reducible apply evOpsD_g); rfl)); intro K hK; simp (contextual := true) only [go_sem, simprocAttr]) | with_reducible refine evOps_nil ?_ | ((with_reducible refine evOpsD_nil ?_ ?_); kernel_rfl) | ((with_reducible refine hK _ ?_); clear hK K) | (with_reducible first | refine And.intro ?_ ?_ | refine nxt_n ?_ | refine nxt_r ?_ | refine inR_mk ?_ ?_) | ((with_reducible refine evCall_at 41 ?_); refine EvCall.rq (a := (sp_l04List (L:=f.obs) ?_ ?_)) (b := cal_l04List) (c := ?_); all_goals try simp only [go_sem, simprocAttr]) | ((with_reducible refine evCall_at 41 ?_); refine EvCall.rq (a := (sp_l04List (L:=f.ars) ?_ ?_)) (b := cal_l04List) (c := ?_); all_goals try simp only [go_sem, simprocAttr]) | (refine hook_sadd (x := .tmp 5) (a := decsT f.obs) (b := bar) (by first | rfl | simp only [go_sem, simprocAttr]) (by first | rfl | simp only [go_sem, simprocAttr]) (by simp only [bar, List.length_append, List.length_cons, List.length_nil]; omega) ?_; simp only [go_sem, simprocAttr]) | (refine hook_sadd (x := .tmp 6) (a := decsT f.obs ++ bar) (b := decsT f.ars) (by first | rfl | simp only [go_sem, simprocAttr]) (by first | rfl | simp only [go_sem, simprocAttr]) (by simp only [bar, List.length_append, List.length_cons, List.length_nil]; omega) ?_; simp only [go_sem, simprocAttr]) | (refine fun (hc : (_ : Bool) = _) => ?_; try simp only [hcS] at hc))
  all_goals try exact om_
  (first | refine ret_auto ?_ | refine ret_auto' ?_); simp only [go_sem, simprocAttr, Tryd.f20]
  rfl
end Go.Eng
