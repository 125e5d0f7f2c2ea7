/- Texts, by the reference: splitting, numbers. -/
import Derived.Test.YtnegknkhccfmfaaDoorY02q
set_option linter.unusedSimpArgs false
set_option linter.unusedVariables false
set_option maxRecDepth 100000
set_option maxHeartbeats 16000000
namespace Go.Eng
open Go Go.Proofs Go.Cats
theorem stI_zero {s : Bts} {c : UInt8} : stI s c 0 = ([], 0) := rfl
theorem ptI_zero {s : Bts} : ptI s 0 = ([], 0) := rfl
attribute [local go_sem] List.size_toArray stI_zero ptI_zero
theorem cal_l01Split : Callable Tryd.prog 36 := ⟨_, Tryd.func36, rfl, rfl⟩
theorem sp_l01Split {s : Bts} {c : UInt8} (hl : s.length ≤ 1048576) : Spec Tryd.prog 36 [.v (bst s), .v (.int .u8 (c.toNat : Nat))] [] (.sl 0) [(0, ⟨1, .arr (strsD (spl c s))⟩)] := by
  refine spec_of_V (E := TE) 0 Tryd.func36 rfl (by simp [Tryd.f36]) fun X hn hX => ?_
  repeat' (first | (with_reducible first | refine V_seq ?_ | refine V_block ?_ | refine V_skip ?_ | refine V_ret ?_ | refine V_exit ?_) | ((with_reducible refine V_cond ?_); simp only [go_sem, simprocAttr]) | ((refine V_region (by rw [hn]; rfl) ?_); intro K hK) | ((first | with_reducible refine evOps_n ?_ | ((with_reducible apply evOps_g); rfl)); intro K hK; simp (contextual := true) only [go_sem, simprocAttr]) | with_reducible refine evOps_nil ?_ | ((with_reducible refine hK _ ?_); clear hK K) | (with_reducible first | refine And.intro ?_ ?_ | refine nxt_n ?_ | refine nxt_r ?_ | refine nxt_e ?_ | refine blk_n ?_ | refine blk_r ?_ | refine blk_same ?_ | refine blk_other (by decide) ?_ | refine noG_n ?_ | refine noG_r ?_ | refine noG_e ?_ | refine inR_mk ?_ ?_) | (refine fun (hc : (_ : Bool) = _) => ?_; try simp only [hcS] at hc))
  all_goals try exact om_
  refine V_loopK (G := {i : Nat // i ≤ s.length ∧ (True)}) (fun ⟨i, _⟩ => [(7, iv i), (5, .sl 0), (6, iv (stI s c i).2)]) [0, 1, 4] (fun ⟨i, _⟩ => [(0, ⟨1, .arr (strsD (stI s c i).1)⟩)]) [0] (fun zz => s.length - zz.1) ⟨0, Nat.zero_le _, by first | trivial | simp⟩ ?_ ?_
  · exact Imp.au hX
  rintro ⟨i, hii, hwi⟩
  simp only [go_sem, simprocAttr]
  have h1 := stI_le (s := s) (c := c) i
  have h2 := stI_len (s := s) (c := c) i
  rcases Nat.lt_or_ge i s.length with hlt | hge
  · by_cases hb : s.getD i 0 = c
    · have e1 := stI_yes hb
      have hbn : (s.getD i 0).toNat = c.toNat := by rw [hb]
      repeat' (first | (with_reducible first | refine V_seq ?_ | refine V_block ?_ | refine V_skip ?_ | refine V_ret ?_ | refine V_exit ?_) | ((with_reducible refine V_cond ?_); simp only [go_sem, simprocAttr]) | ((refine V_region (by rw [hn]; rfl) ?_); intro K hK) | ((first | with_reducible refine evOps_n ?_ | ((with_reducible apply evOps_g); rfl)); intro K hK; simp (contextual := true) only [go_sem, simprocAttr]) | with_reducible refine evOps_nil ?_ | ((with_reducible refine hK _ ?_); clear hK K) | (with_reducible first | refine And.intro ?_ ?_ | refine nxt_n ?_ | refine nxt_r ?_ | refine nxt_e ?_ | refine blk_n ?_ | refine blk_r ?_ | refine blk_same ?_ | refine blk_other (by decide) ?_ | refine noG_n ?_ | refine noG_r ?_ | refine noG_e ?_ | refine inR_mk ?_ ?_) | (refine hook_sidx (a := s) (i := (i : Int)) Tryd.underlying9 (by first | rfl | simp only [go_sem, simprocAttr]) (by first | rfl | simp only [go_sem, simprocAttr]) (by omega) (by omega) ?_; simp only [go_sem, simprocAttr, Int.toNat_natCast]) | (refine hook_ssub (l := ((stI s c i).2 : Int)) (m := (i : Int)) Tryd.underlying9 (by first | rfl | simp only [go_sem, simprocAttr]) (by first | rfl | simp only [go_sem, simprocAttr]) (by first | rfl | simp only [go_sem, simprocAttr]) (by omega) (by omega) (by omega) ?_; simp only [go_sem, simprocAttr, Int.toNat_natCast]) | (refine fun (hc : (_ : Bool) = _) => ?_; try simp only [hcS] at hc))
      all_goals try exact om_
      all_goals try (exfalso; omega)
      refine ⟨⟨i + 1, by omega, (by trivial)⟩, by simp only; omega, Imp.auto hX (by simp only [go_sem, simprocAttr, e1])⟩
    · have e1 := stI_no hb
      have hbn : (s.getD i 0).toNat ≠ c.toNat := fun e => hb (UInt8.toNat_inj.1 e)
      repeat' (first | (with_reducible first | refine V_seq ?_ | refine V_block ?_ | refine V_skip ?_ | refine V_ret ?_ | refine V_exit ?_) | ((with_reducible refine V_cond ?_); simp only [go_sem, simprocAttr]) | ((refine V_region (by rw [hn]; rfl) ?_); intro K hK) | ((first | with_reducible refine evOps_n ?_ | ((with_reducible apply evOps_g); rfl)); intro K hK; simp (contextual := true) only [go_sem, simprocAttr]) | with_reducible refine evOps_nil ?_ | ((with_reducible refine hK _ ?_); clear hK K) | (with_reducible first | refine And.intro ?_ ?_ | refine nxt_n ?_ | refine nxt_r ?_ | refine nxt_e ?_ | refine blk_n ?_ | refine blk_r ?_ | refine blk_same ?_ | refine blk_other (by decide) ?_ | refine noG_n ?_ | refine noG_r ?_ | refine noG_e ?_ | refine inR_mk ?_ ?_) | (refine hook_sidx (a := s) (i := (i : Int)) Tryd.underlying9 (by first | rfl | simp only [go_sem, simprocAttr]) (by first | rfl | simp only [go_sem, simprocAttr]) (by omega) (by omega) ?_; simp only [go_sem, simprocAttr, Int.toNat_natCast]) | (refine fun (hc : (_ : Bool) = _) => ?_; try simp only [hcS] at hc))
      all_goals try exact om_
      all_goals try (exfalso; omega)
      refine ⟨⟨i + 1, by omega, (by trivial)⟩, by simp only; omega, Imp.auto hX (by simp only [go_sem, simprocAttr, e1])⟩
  · obtain rfl : i = s.length := by omega
    have e1 := stI_end (s := s) (c := c)
    rw [e1]
    repeat' (first | (with_reducible first | refine V_seq ?_ | refine V_block ?_ | refine V_skip ?_ | refine V_ret ?_ | refine V_exit ?_) | ((with_reducible refine V_cond ?_); simp only [go_sem, simprocAttr]) | ((refine V_region (by rw [hn]; rfl) ?_); intro K hK) | ((first | with_reducible refine evOps_n ?_ | ((with_reducible apply evOps_g); rfl)); intro K hK; simp (contextual := true) only [go_sem, simprocAttr]) | with_reducible refine evOps_nil ?_ | ((with_reducible refine hK _ ?_); clear hK K) | (with_reducible first | refine And.intro ?_ ?_ | refine nxt_n ?_ | refine nxt_r ?_ | refine nxt_e ?_ | refine blk_n ?_ | refine blk_r ?_ | refine blk_same ?_ | refine blk_other (by decide) ?_ | refine noG_n ?_ | refine noG_r ?_ | refine noG_e ?_ | refine inR_mk ?_ ?_) | (refine hook_sdrop (l := ((stI s c s.length).2 : Int)) Tryd.underlying9 (by first | rfl | simp only [go_sem, simprocAttr]) (by first | rfl | simp only [go_sem, simprocAttr]) (by omega) (by omega) ?_; simp only [go_sem, simprocAttr, Int.toNat_natCast]) | (refine fun (hc : (_ : Bool) = _) => ?_; try simp only [hcS] at hc))
    all_goals try exact om_
    all_goals try (exfalso; omega)
    (first | refine ret_auto ?_ | refine ret_auto' ?_); simp only [go_sem, simprocAttr, Tryd.f36]
end Go.Eng
