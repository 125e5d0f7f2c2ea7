/- Texts, by the reference: parts, values, lists of numbers. -/
import Derived.Test.YtnegknkhccfmfaaDoorY03q
set_option linter.unusedSimpArgs false
set_option linter.unusedVariables false
set_option maxRecDepth 100000
set_option maxHeartbeats 16000000
namespace Go.Eng
open Go Go.Proofs Go.Cats
attribute [local go_sem] List.size_toArray stI_zero ptI_zero
theorem cal_l04Parts : Callable Tryd.prog 16 := ⟨_, Tryd.func16, rfl, rfl⟩
theorem sp_l04Parts {s : Bts} (hl : s.length ≤ 1048576) : Spec Tryd.prog 16 [.v (bst s)] [] (.sl 0) [(0, ⟨1, .arr (strsD (parts s))⟩)] := by
  refine spec_of_V (E := TE) 0 Tryd.func16 rfl (by simp [Tryd.f16]) fun X hn hX => ?_
  repeat' (first | (with_reducible first | refine V_seq ?_ | refine V_block ?_ | refine V_skip ?_ | refine V_ret ?_ | refine V_exit ?_) | ((with_reducible refine V_cond ?_); simp only [go_sem, simprocAttr]) | ((refine V_region (by rw [hn]; rfl) ?_); intro K hK) | ((first | with_reducible refine evOps_n ?_ | ((with_reducible apply evOps_g); rfl)); intro K hK; simp (contextual := true) only [go_sem, simprocAttr]) | with_reducible refine evOps_nil ?_ | ((with_reducible refine hK _ ?_); clear hK K) | (with_reducible first | refine And.intro ?_ ?_ | refine nxt_n ?_ | refine nxt_r ?_ | refine nxt_e ?_ | refine blk_n ?_ | refine blk_r ?_ | refine blk_same ?_ | refine blk_other (by decide) ?_ | refine noG_n ?_ | refine noG_r ?_ | refine noG_e ?_ | refine inR_mk ?_ ?_) | (refine fun (hc : (_ : Bool) = _) => ?_; try simp only [hcS] at hc))
  all_goals try exact om_
  refine V_loopK (G := {i : Nat // i ≤ (s.length - 2) ∧ (True)}) (fun ⟨i, _⟩ => [(5, iv i), (3, .sl 0), (4, iv (ptI s i).2)]) [0, 2] (fun ⟨i, _⟩ => [(0, ⟨1, .arr (strsD (ptI s i).1)⟩)]) [0] (fun zz => (s.length - 2) - zz.1) ⟨0, Nat.zero_le _, by first | trivial | simp⟩ ?_ ?_
  · exact Imp.au hX
  rintro ⟨i, hii, hwi⟩
  simp only [go_sem, simprocAttr]
  have h1 := ptI_le (s := s) i
  have h2 := ptI_len (s := s) i
  rcases Nat.lt_or_ge i (s.length - 2) with hlt | hge
  · have ea : ((i : Int) + 3).toNat - i = 3 := by omega
    by_cases hb : (s.drop i).take 3 = bar ∧ (ptI s i).2 ≤ i
    · have e1 := ptI_yes hb.1 hb.2
      have hb0 : (s.drop i).take (((i : Int) + 3).toNat - i) = bar := by rw [ea]; exact hb.1
      repeat' (first | (with_reducible first | refine V_seq ?_ | refine V_block ?_ | refine V_skip ?_ | refine V_ret ?_ | refine V_exit ?_) | ((with_reducible refine V_cond ?_); simp only [go_sem, simprocAttr]) | ((refine V_region (by rw [hn]; rfl) ?_); intro K hK) | ((first | with_reducible refine evOps_n ?_ | ((with_reducible apply evOps_g); rfl)); intro K hK; simp (contextual := true) only [go_sem, simprocAttr]) | with_reducible refine evOps_nil ?_ | ((with_reducible refine hK _ ?_); clear hK K) | (with_reducible first | refine And.intro ?_ ?_ | refine nxt_n ?_ | refine nxt_r ?_ | refine nxt_e ?_ | refine blk_n ?_ | refine blk_r ?_ | refine blk_same ?_ | refine blk_other (by decide) ?_ | refine noG_n ?_ | refine noG_r ?_ | refine noG_e ?_ | refine inR_mk ?_ ?_) | (refine hook_ssub (y := .tmp 15) (z := .tmp 17) (l := (i : Int)) (m := (i : Int) + 3) Tryd.underlying9 (by first | rfl | simp only [go_sem, simprocAttr]) (by first | rfl | simp only [go_sem, simprocAttr]) (by first | rfl | simp only [go_sem, simprocAttr]) (by omega) (by omega) (by omega) ?_; simp only [go_sem, simprocAttr, Int.toNat_natCast]) | (refine hook_seq (a := (s.drop i).take (((i : Int) + 3).toNat - i)) (b := [32, 124, 32]) Tryd.underlying9 (by first | rfl | simp only [go_sem, simprocAttr]) rfl ?_; simp only [go_sem, simprocAttr]) | (refine hook_ssub (y := .tmp 27) (z := .tmp 28) (l := ((ptI s i).2 : Int)) (m := (i : Int)) Tryd.underlying9 (by first | rfl | simp only [go_sem, simprocAttr]) (by first | rfl | simp only [go_sem, simprocAttr]) (by first | rfl | simp only [go_sem, simprocAttr]) (by omega) (by omega) (by omega) ?_; simp only [go_sem, simprocAttr, Int.toNat_natCast]) | (refine fun (hc : (_ : Bool) = _) => ?_; try simp only [hcS] at hc))
      all_goals try exact om_
      all_goals try contradiction
      all_goals try (exfalso; omega)
      refine ⟨⟨i + 1, by omega, (by trivial)⟩, by simp only; omega, Imp.auto hX (by simp only [go_sem, simprocAttr, e1, ea])⟩
    · have e1 := ptI_no hb
      rw [← ea] at hb
      repeat' (first | (with_reducible first | refine V_seq ?_ | refine V_block ?_ | refine V_skip ?_ | refine V_ret ?_ | refine V_exit ?_) | ((with_reducible refine V_cond ?_); simp only [go_sem, simprocAttr]) | ((refine V_region (by rw [hn]; rfl) ?_); intro K hK) | ((first | with_reducible refine evOps_n ?_ | ((with_reducible apply evOps_g); rfl)); intro K hK; simp (contextual := true) only [go_sem, simprocAttr]) | with_reducible refine evOps_nil ?_ | ((with_reducible refine hK _ ?_); clear hK K) | (with_reducible first | refine And.intro ?_ ?_ | refine nxt_n ?_ | refine nxt_r ?_ | refine nxt_e ?_ | refine blk_n ?_ | refine blk_r ?_ | refine blk_same ?_ | refine blk_other (by decide) ?_ | refine noG_n ?_ | refine noG_r ?_ | refine noG_e ?_ | refine inR_mk ?_ ?_) | (refine hook_ssub (y := .tmp 15) (z := .tmp 17) (l := (i : Int)) (m := (i : Int) + 3) Tryd.underlying9 (by first | rfl | simp only [go_sem, simprocAttr]) (by first | rfl | simp only [go_sem, simprocAttr]) (by first | rfl | simp only [go_sem, simprocAttr]) (by omega) (by omega) (by omega) ?_; simp only [go_sem, simprocAttr, Int.toNat_natCast]) | (refine hook_seq (a := (s.drop i).take (((i : Int) + 3).toNat - i)) (b := [32, 124, 32]) Tryd.underlying9 (by first | rfl | simp only [go_sem, simprocAttr]) rfl ?_; simp only [go_sem, simprocAttr]) | (refine fun (hc : (_ : Bool) = _) => ?_; try simp only [hcS] at hc))
      all_goals try exact om_
      all_goals try (exfalso; exact hb ⟨by assumption, by omega⟩)
      all_goals (refine ⟨⟨i + 1, by omega, (by trivial)⟩, by simp only; omega, Imp.auto hX (by simp only [go_sem, simprocAttr, e1])⟩)
  · obtain rfl : i = s.length - 2 := by omega
    rw [show parts s = (ptI s (s.length - 2)).1 ++ [s.drop (ptI s (s.length - 2)).2] from rfl]
    have h3 : (ptI s (s.length - 2)).2 ≤ s.length := by
      by_cases h2 : 2 ≤ s.length
      · omega
      · rw [show s.length - 2 = 0 by omega]; exact Nat.zero_le _
    repeat' (first | (with_reducible first | refine V_seq ?_ | refine V_block ?_ | refine V_skip ?_ | refine V_ret ?_ | refine V_exit ?_) | ((with_reducible refine V_cond ?_); simp only [go_sem, simprocAttr]) | ((refine V_region (by rw [hn]; rfl) ?_); intro K hK) | ((first | with_reducible refine evOps_n ?_ | ((with_reducible apply evOps_g); rfl)); intro K hK; simp (contextual := true) only [go_sem, simprocAttr]) | with_reducible refine evOps_nil ?_ | ((with_reducible refine hK _ ?_); clear hK K) | (with_reducible first | refine And.intro ?_ ?_ | refine nxt_n ?_ | refine nxt_r ?_ | refine nxt_e ?_ | refine blk_n ?_ | refine blk_r ?_ | refine blk_same ?_ | refine blk_other (by decide) ?_ | refine noG_n ?_ | refine noG_r ?_ | refine noG_e ?_ | refine inR_mk ?_ ?_) | (refine hook_sdrop (l := ((ptI s (s.length - 2)).2 : Int)) Tryd.underlying9 (by first | rfl | simp only [go_sem, simprocAttr]) (by first | rfl | simp only [go_sem, simprocAttr]) (by omega) (by omega) ?_; simp only [go_sem, simprocAttr, Int.toNat_natCast]) | (refine fun (hc : (_ : Bool) = _) => ?_; try simp only [hcS] at hc))
    all_goals try exact om_
    all_goals try (exfalso; omega)
    (first | refine ret_auto ?_ | refine ret_auto' ?_); simp only [go_sem, simprocAttr, Tryd.f16]
def RvO (w : Bts) (n : Int) : Prop := (RefOk w ∧ n = val w) ∨ (¬ RefOk w ∧ n = -1)
theorem RvO.no {w : Bts} {n : Int} (h : RvO w n) (k : ¬ RefOk w) : n = -1 := by
  rcases h with ⟨h, _⟩ | ⟨_, h⟩
  · exact absurd h k
  · exact h
theorem RvO.yes {w : Bts} {n : Int} (h : RvO w n) (k : RefOk w) : n = val w := by
  rcases h with ⟨_, h⟩ | ⟨h, _⟩
  · exact h
  · exact absurd k h
theorem ty_u8i : (Tryd.prog.underlying 5).isSome = true ∧ Tryd.prog.underlying 2 = some (.int .i64) := ⟨by rw [Tryd.underlying5]; rfl, Tryd.underlying2⟩
theorem wrapU8 {z : Int} (h0 : 0 ≤ z) (h1 : z < 256) : IntKind.u8.wrap z = z := by
  unfold IntKind.wrap IntKind.bits IntKind.signed
  simp
  omega
theorem val_none : ((val [] : Nat) : Int) = 0 := rfl
attribute [local go_sem] val_none
theorem cal_l01Value : Callable Tryd.prog 37 := ⟨_, Tryd.func37, rfl, rfl⟩
theorem sp_l01Value {w : Bts} {n : Int} (hl : w.length ≤ 1048576) (ho : RvO w n) : Spec Tryd.prog 37 [.v (bst w)] [] (iv n) [] := by
  refine spec_of_V (E := TE) 0 Tryd.func37 rfl (by simp [Tryd.f37]) fun X hn hX => ?_
  have hz : Lz w ↔ 1 < w.length ∧ (w.getD 0 0).toNat = 48 := ⟨fun h => ⟨h.1, by rw [h.2]; rfl⟩, fun h => ⟨h.1, UInt8.toNat_inj.1 h.2⟩⟩
  by_cases hh : w.length = 0 ∨ 9 < w.length ∨ Lz w
  · have hno : ¬ RefOk w := fun h => by
      rcases hh with h1 | h1 | h1
      · have := h.pos; omega
      · have := h.le; omega
      · exact h.lz h1
    obtain rfl := ho.no hno
    rw [hz] at hh
    repeat' (first | (with_reducible first | refine V_seq ?_ | refine V_block ?_ | refine V_skip ?_ | refine V_ret ?_ | refine V_exit ?_) | ((with_reducible refine V_cond ?_); simp only [go_sem, simprocAttr]) | ((refine V_region (by rw [hn]; rfl) ?_); intro K hK) | ((first | with_reducible refine evOps_n ?_ | ((with_reducible apply evOps_g); rfl)); intro K hK; simp (contextual := true) only [go_sem, simprocAttr]) | with_reducible refine evOps_nil ?_ | ((with_reducible refine hK _ ?_); clear hK K) | (with_reducible first | refine And.intro ?_ ?_ | refine nxt_n ?_ | refine nxt_r ?_ | refine nxt_e ?_ | refine blk_n ?_ | refine blk_r ?_ | refine blk_same ?_ | refine blk_other (by decide) ?_ | refine noG_n ?_ | refine noG_r ?_ | refine noG_e ?_ | refine inR_mk ?_ ?_) | (refine hook_sidx (a := w) (i := 0) Tryd.underlying9 (by first | rfl | simp only [go_sem, simprocAttr]) (by first | rfl | simp only [go_sem, simprocAttr]) (by omega) (by omega) ?_; simp only [go_sem, simprocAttr, Int.toNat_natCast]) | (refine fun (hc : (_ : Bool) = _) => ?_; try simp only [hcS] at hc))
    all_goals try exact om_
    all_goals try (exfalso; omega)
    all_goals ((first | refine ret_auto ?_ | refine ret_auto' ?_); simp only [go_sem, simprocAttr, Tryd.f37])
  · have hlz : ¬ Lz w := fun h => hh (.inr (.inr h))
    rw [hz] at hh
    by_cases h1 : 1 < w.length
    · repeat' (first | (with_reducible first | refine V_seq ?_ | refine V_block ?_ | refine V_skip ?_ | refine V_ret ?_ | refine V_exit ?_) | ((with_reducible refine V_cond ?_); simp only [go_sem, simprocAttr]) | ((refine V_region (by rw [hn]; rfl) ?_); intro K hK) | ((first | with_reducible refine evOps_n ?_ | ((with_reducible apply evOps_g); rfl)); intro K hK; simp (contextual := true) only [go_sem, simprocAttr]) | with_reducible refine evOps_nil ?_ | ((with_reducible refine hK _ ?_); clear hK K) | (with_reducible first | refine And.intro ?_ ?_ | refine nxt_n ?_ | refine nxt_r ?_ | refine nxt_e ?_ | refine blk_n ?_ | refine blk_r ?_ | refine blk_same ?_ | refine blk_other (by decide) ?_ | refine noG_n ?_ | refine noG_r ?_ | refine noG_e ?_ | refine inR_mk ?_ ?_) | (refine hook_sidx (a := w) (i := 0) Tryd.underlying9 (by first | rfl | simp only [go_sem, simprocAttr]) (by first | rfl | simp only [go_sem, simprocAttr]) (by omega) (by omega) ?_; simp only [go_sem, simprocAttr, Int.toNat_natCast]) | (refine fun (hc : (_ : Bool) = _) => ?_; try simp only [hcS] at hc))
      all_goals try exact om_
      all_goals try (exfalso; omega)
      refine V_loopK (G := {i : Nat // i ≤ w.length ∧ (∀ b ∈ w.take i, Dg b)}) (fun ⟨i, _⟩ => [(4, iv i), (3, iv (val (w.take i)))]) [0] (fun ⟨i, _⟩ => []) [] (fun zz => w.length - zz.1) ⟨0, Nat.zero_le _, by simp⟩ ?_ ?_
      · exact Imp.au hX
      rintro ⟨i, hii, hwi⟩
      simp only [go_sem, simprocAttr]
      have hv1 := val_lt hwi
      have hv2 : 10 ^ (w.take i).length ≤ 10 ^ 9 := Nat.pow_le_pow_right (by decide) (by rw [List.length_take]; omega)
      have hv : val (w.take i) < 1000000000 := by omega
      rcases Nat.lt_or_ge i w.length with hlt | hge
      · have hmem : w.getD i 0 ∈ w := by rw [List.getD_eq_getElem?_getD, List.getElem?_eq_getElem hlt]; exact List.getElem_mem hlt
        have hsn := val_take hlt
        have htk : ∀ b, b ∈ w.take (i + 1) → b ∈ w.take i ∨ b = w.getD i 0 := fun b hb => by
          rw [List.take_succ_eq_append_getElem hlt] at hb
          rcases List.mem_append.1 hb with h | h
          · exact .inl h
          · refine .inr ?_
            rw [List.getD_eq_getElem?_getD, List.getElem?_eq_getElem hlt]
            exact List.mem_singleton.1 h
        by_cases hok : Dg (w.getD i 0)
        · have hd2 : ∀ b ∈ w.take (i + 1), Dg b := fun b hb => by
            rcases htk b hb with h | h
            · exact hwi b h
            · rw [h]; exact hok
          unfold Dg at hok
          obtain ⟨c, hc0⟩ : ∃ c : Nat, (w.getD i 0).toNat = c := ⟨_, rfl⟩
          rw [hc0] at hok hsn
          have hev : ((val (w.take i) : Nat) : Int) * 10 + ((c : Int) - 48) = ((val (w.take (i + 1)) : Nat) : Int) := by rw [hsn]; omega
          repeat' (first | (with_reducible first | refine V_seq ?_ | refine V_block ?_ | refine V_skip ?_ | refine V_ret ?_ | refine V_exit ?_) | ((with_reducible refine V_cond ?_); simp only [go_sem, simprocAttr]) | ((refine V_region (by rw [hn]; rfl) ?_); intro K hK) | ((first | with_reducible refine evOps_n ?_ | ((with_reducible apply evOps_g); rfl)); intro K hK; simp (contextual := true) only [go_sem, simprocAttr]) | with_reducible refine evOps_nil ?_ | ((with_reducible refine hK _ ?_); clear hK K) | (with_reducible first | refine And.intro ?_ ?_ | refine nxt_n ?_ | refine nxt_r ?_ | refine nxt_e ?_ | refine blk_n ?_ | refine blk_r ?_ | refine blk_same ?_ | refine blk_other (by decide) ?_ | refine noG_n ?_ | refine noG_r ?_ | refine noG_e ?_ | refine inR_mk ?_ ?_) | (refine hook_sidx (a := w) (i := (i : Int)) Tryd.underlying9 (by first | rfl | simp only [go_sem, simprocAttr]) (by first | rfl | simp only [go_sem, simprocAttr]) (by omega) (by omega) ?_; simp only [go_sem, simprocAttr, Int.toNat_natCast, hc0]) | (refine hook_int (k := .i64) (q := .u8) (n := (c : Int) - 48) ty_u8i.1 ty_u8i.2 (by simp only [go_sem, simprocAttr]; rw [wrapU8 (by omega) (by omega)]) ?_; rw [wrap64' (by omega) (by omega)]; simp only [go_sem, simprocAttr]) | (refine fun (hc : (_ : Bool) = _) => ?_; try simp only [hcS] at hc))
          all_goals try exact om_
          all_goals try (exfalso; omega)
          refine ⟨⟨i + 1, by omega, (by exact hd2)⟩, by simp only; omega, Imp.auto hX (by simp only [go_sem, simprocAttr, hev])⟩
        · have hno : ¬ RefOk w := fun h => hok (h.dg _ hmem)
          obtain rfl := ho.no hno
          unfold Dg at hok
          repeat' (first | (with_reducible first | refine V_seq ?_ | refine V_block ?_ | refine V_skip ?_ | refine V_ret ?_ | refine V_exit ?_) | ((with_reducible refine V_cond ?_); simp only [go_sem, simprocAttr]) | ((refine V_region (by rw [hn]; rfl) ?_); intro K hK) | ((first | with_reducible refine evOps_n ?_ | ((with_reducible apply evOps_g); rfl)); intro K hK; simp (contextual := true) only [go_sem, simprocAttr]) | with_reducible refine evOps_nil ?_ | ((with_reducible refine hK _ ?_); clear hK K) | (with_reducible first | refine And.intro ?_ ?_ | refine nxt_n ?_ | refine nxt_r ?_ | refine nxt_e ?_ | refine blk_n ?_ | refine blk_r ?_ | refine blk_same ?_ | refine blk_other (by decide) ?_ | refine noG_n ?_ | refine noG_r ?_ | refine noG_e ?_ | refine inR_mk ?_ ?_) | (refine hook_sidx (a := w) (i := (i : Int)) Tryd.underlying9 (by first | rfl | simp only [go_sem, simprocAttr]) (by first | rfl | simp only [go_sem, simprocAttr]) (by omega) (by omega) ?_; simp only [go_sem, simprocAttr, Int.toNat_natCast]) | (refine fun (hc : (_ : Bool) = _) => ?_; try simp only [hcS] at hc))
          all_goals try exact om_
          all_goals try (exfalso; omega)
          all_goals ((first | refine ret_auto ?_ | refine ret_auto' ?_); simp only [go_sem, simprocAttr, Tryd.f37])
      · obtain rfl : i = w.length := by omega
        rw [List.take_length] at hwi hv hv1
        rw [List.take_length]
        have hyes : RefOk w := ⟨by omega, by omega, hlz, hwi⟩
        obtain rfl := ho.yes hyes
        repeat' (first | (with_reducible first | refine V_seq ?_ | refine V_block ?_ | refine V_skip ?_ | refine V_ret ?_ | refine V_exit ?_) | ((with_reducible refine V_cond ?_); simp only [go_sem, simprocAttr]) | ((refine V_region (by rw [hn]; rfl) ?_); intro K hK) | ((first | with_reducible refine evOps_n ?_ | ((with_reducible apply evOps_g); rfl)); intro K hK; simp (contextual := true) only [go_sem, simprocAttr]) | with_reducible refine evOps_nil ?_ | ((with_reducible refine hK _ ?_); clear hK K) | (with_reducible first | refine And.intro ?_ ?_ | refine nxt_n ?_ | refine nxt_r ?_ | refine nxt_e ?_ | refine blk_n ?_ | refine blk_r ?_ | refine blk_same ?_ | refine blk_other (by decide) ?_ | refine noG_n ?_ | refine noG_r ?_ | refine noG_e ?_ | refine inR_mk ?_ ?_) | (refine fun (hc : (_ : Bool) = _) => ?_; try simp only [hcS] at hc))
        all_goals try exact om_
        all_goals try (exfalso; omega)
        (first | refine ret_auto ?_ | refine ret_auto' ?_); simp only [go_sem, simprocAttr, Tryd.f37]
    · repeat' (first | (with_reducible first | refine V_seq ?_ | refine V_block ?_ | refine V_skip ?_ | refine V_ret ?_ | refine V_exit ?_) | ((with_reducible refine V_cond ?_); simp only [go_sem, simprocAttr]) | ((refine V_region (by rw [hn]; rfl) ?_); intro K hK) | ((first | with_reducible refine evOps_n ?_ | ((with_reducible apply evOps_g); rfl)); intro K hK; simp (contextual := true) only [go_sem, simprocAttr]) | with_reducible refine evOps_nil ?_ | ((with_reducible refine hK _ ?_); clear hK K) | (with_reducible first | refine And.intro ?_ ?_ | refine nxt_n ?_ | refine nxt_r ?_ | refine nxt_e ?_ | refine blk_n ?_ | refine blk_r ?_ | refine blk_same ?_ | refine blk_other (by decide) ?_ | refine noG_n ?_ | refine noG_r ?_ | refine noG_e ?_ | refine inR_mk ?_ ?_) | (refine hook_sidx (a := w) (i := 0) Tryd.underlying9 (by first | rfl | simp only [go_sem, simprocAttr]) (by first | rfl | simp only [go_sem, simprocAttr]) (by omega) (by omega) ?_; simp only [go_sem, simprocAttr, Int.toNat_natCast]) | (refine fun (hc : (_ : Bool) = _) => ?_; try simp only [hcS] at hc))
      all_goals try exact om_
      all_goals try (exfalso; omega)
      refine V_loopK (G := {i : Nat // i ≤ w.length ∧ (∀ b ∈ w.take i, Dg b)}) (fun ⟨i, _⟩ => [(4, iv i), (3, iv (val (w.take i)))]) [0] (fun ⟨i, _⟩ => []) [] (fun zz => w.length - zz.1) ⟨0, Nat.zero_le _, by simp⟩ ?_ ?_
      · exact Imp.au hX
      rintro ⟨i, hii, hwi⟩
      simp only [go_sem, simprocAttr]
      have hv1 := val_lt hwi
      have hv2 : 10 ^ (w.take i).length ≤ 10 ^ 9 := Nat.pow_le_pow_right (by decide) (by rw [List.length_take]; omega)
      have hv : val (w.take i) < 1000000000 := by omega
      rcases Nat.lt_or_ge i w.length with hlt | hge
      · have hmem : w.getD i 0 ∈ w := by rw [List.getD_eq_getElem?_getD, List.getElem?_eq_getElem hlt]; exact List.getElem_mem hlt
        have hsn := val_take hlt
        have htk : ∀ b, b ∈ w.take (i + 1) → b ∈ w.take i ∨ b = w.getD i 0 := fun b hb => by
          rw [List.take_succ_eq_append_getElem hlt] at hb
          rcases List.mem_append.1 hb with h | h
          · exact .inl h
          · refine .inr ?_
            rw [List.getD_eq_getElem?_getD, List.getElem?_eq_getElem hlt]
            exact List.mem_singleton.1 h
        by_cases hok : Dg (w.getD i 0)
        · have hd2 : ∀ b ∈ w.take (i + 1), Dg b := fun b hb => by
            rcases htk b hb with h | h
            · exact hwi b h
            · rw [h]; exact hok
          unfold Dg at hok
          obtain ⟨c, hc0⟩ : ∃ c : Nat, (w.getD i 0).toNat = c := ⟨_, rfl⟩
          rw [hc0] at hok hsn
          have hev : ((val (w.take i) : Nat) : Int) * 10 + ((c : Int) - 48) = ((val (w.take (i + 1)) : Nat) : Int) := by rw [hsn]; omega
          repeat' (first | (with_reducible first | refine V_seq ?_ | refine V_block ?_ | refine V_skip ?_ | refine V_ret ?_ | refine V_exit ?_) | ((with_reducible refine V_cond ?_); simp only [go_sem, simprocAttr]) | ((refine V_region (by rw [hn]; rfl) ?_); intro K hK) | ((first | with_reducible refine evOps_n ?_ | ((with_reducible apply evOps_g); rfl)); intro K hK; simp (contextual := true) only [go_sem, simprocAttr]) | with_reducible refine evOps_nil ?_ | ((with_reducible refine hK _ ?_); clear hK K) | (with_reducible first | refine And.intro ?_ ?_ | refine nxt_n ?_ | refine nxt_r ?_ | refine nxt_e ?_ | refine blk_n ?_ | refine blk_r ?_ | refine blk_same ?_ | refine blk_other (by decide) ?_ | refine noG_n ?_ | refine noG_r ?_ | refine noG_e ?_ | refine inR_mk ?_ ?_) | (refine hook_sidx (a := w) (i := (i : Int)) Tryd.underlying9 (by first | rfl | simp only [go_sem, simprocAttr]) (by first | rfl | simp only [go_sem, simprocAttr]) (by omega) (by omega) ?_; simp only [go_sem, simprocAttr, Int.toNat_natCast, hc0]) | (refine hook_int (k := .i64) (q := .u8) (n := (c : Int) - 48) ty_u8i.1 ty_u8i.2 (by simp only [go_sem, simprocAttr]; rw [wrapU8 (by omega) (by omega)]) ?_; rw [wrap64' (by omega) (by omega)]; simp only [go_sem, simprocAttr]) | (refine fun (hc : (_ : Bool) = _) => ?_; try simp only [hcS] at hc))
          all_goals try exact om_
          all_goals try (exfalso; omega)
          refine ⟨⟨i + 1, by omega, (by exact hd2)⟩, by simp only; omega, Imp.auto hX (by simp only [go_sem, simprocAttr, hev])⟩
        · have hno : ¬ RefOk w := fun h => hok (h.dg _ hmem)
          obtain rfl := ho.no hno
          unfold Dg at hok
          repeat' (first | (with_reducible first | refine V_seq ?_ | refine V_block ?_ | refine V_skip ?_ | refine V_ret ?_ | refine V_exit ?_) | ((with_reducible refine V_cond ?_); simp only [go_sem, simprocAttr]) | ((refine V_region (by rw [hn]; rfl) ?_); intro K hK) | ((first | with_reducible refine evOps_n ?_ | ((with_reducible apply evOps_g); rfl)); intro K hK; simp (contextual := true) only [go_sem, simprocAttr]) | with_reducible refine evOps_nil ?_ | ((with_reducible refine hK _ ?_); clear hK K) | (with_reducible first | refine And.intro ?_ ?_ | refine nxt_n ?_ | refine nxt_r ?_ | refine nxt_e ?_ | refine blk_n ?_ | refine blk_r ?_ | refine blk_same ?_ | refine blk_other (by decide) ?_ | refine noG_n ?_ | refine noG_r ?_ | refine noG_e ?_ | refine inR_mk ?_ ?_) | (refine hook_sidx (a := w) (i := (i : Int)) Tryd.underlying9 (by first | rfl | simp only [go_sem, simprocAttr]) (by first | rfl | simp only [go_sem, simprocAttr]) (by omega) (by omega) ?_; simp only [go_sem, simprocAttr, Int.toNat_natCast]) | (refine fun (hc : (_ : Bool) = _) => ?_; try simp only [hcS] at hc))
          all_goals try exact om_
          all_goals try (exfalso; omega)
          all_goals ((first | refine ret_auto ?_ | refine ret_auto' ?_); simp only [go_sem, simprocAttr, Tryd.f37])
      · obtain rfl : i = w.length := by omega
        rw [List.take_length] at hwi hv hv1
        rw [List.take_length]
        have hyes : RefOk w := ⟨by omega, by omega, hlz, hwi⟩
        obtain rfl := ho.yes hyes
        repeat' (first | (with_reducible first | refine V_seq ?_ | refine V_block ?_ | refine V_skip ?_ | refine V_ret ?_ | refine V_exit ?_) | ((with_reducible refine V_cond ?_); simp only [go_sem, simprocAttr]) | ((refine V_region (by rw [hn]; rfl) ?_); intro K hK) | ((first | with_reducible refine evOps_n ?_ | ((with_reducible apply evOps_g); rfl)); intro K hK; simp (contextual := true) only [go_sem, simprocAttr]) | with_reducible refine evOps_nil ?_ | ((with_reducible refine hK _ ?_); clear hK K) | (with_reducible first | refine And.intro ?_ ?_ | refine nxt_n ?_ | refine nxt_r ?_ | refine nxt_e ?_ | refine blk_n ?_ | refine blk_r ?_ | refine blk_same ?_ | refine blk_other (by decide) ?_ | refine noG_n ?_ | refine noG_r ?_ | refine noG_e ?_ | refine inR_mk ?_ ?_) | (refine fun (hc : (_ : Bool) = _) => ?_; try simp only [hcS] at hc))
        all_goals try exact om_
        all_goals try (exfalso; omega)
        (first | refine ret_auto ?_ | refine ret_auto' ?_); simp only [go_sem, simprocAttr, Tryd.f37]
end Go.Eng
