/- The law's own functions: lists of functors are marked. -/
import Derived.Test.YtmpopmololpaoaaGreatKdx
import Derived.Test.YtmpopmololpaoaaGreatC18q
import Derived.Test.YtmpopmololpaoaaGreatEngFmq
set_option linter.unusedSimpArgs false
set_option linter.unusedVariables false
set_option maxRecDepth 100000
set_option maxHeartbeats 16000000
namespace Go.Eng
open Go Go.Proofs Go.Cats
attribute [local go_sem] List.set_cons_zero List.set_cons_succ
@[go_sem] theorem mkFs_nil (k : Int) : mkFs k [] = [] := rfl
@[go_sem] theorem mkFn_nil : mkFn [] = 0 := rfl
theorem mkFn_take {F : List Fun} {i : Nat} (h : i < F.length) : mkFn (F.take (i + 1)) = mkFn (F.take i) + ((F.getD i default).mkn + 2) := by
  rw [List.take_add_one, List.getElem?_eq_getElem h, List.getD_eq_getElem?_getD, List.getElem?_eq_getElem h]
  exact mkFn_snoc _ _
theorem mkFs_take {F : List Fun} {i : Nat} (k : Int) (h : i < F.length) : mkFs k (F.take (i + 1)) = mkFs k (F.take i) ++ [mkF1 (k + mkFn (F.take i)) (F.getD i default)] := by
  rw [List.take_add_one, List.getElem?_eq_getElem h, List.getD_eq_getElem?_getD, List.getElem?_eq_getElem h]
  exact mkFs_snoc _ _ _
theorem mkFn_le (F : List Fun) : ∀ i, mkFn (F.take i) ≤ mkFn F := by
  induction F with
  | nil => intro i; rw [List.take_nil]; exact Nat.le_refl _
  | cons f l ih =>
    intro i
    cases i with
    | zero => exact Nat.zero_le _
    | succ i => have := ih i; simp only [List.take_succ_cons, mkFn]; omega
theorem cal_markFunctorS : Callable Tryz.prog 20 := ⟨_, Tryz.func20, rfl, rfl⟩
theorem sp_markFunctorS {F : List Fun} {k : Int} (hk : 0 ≤ k) (hl : k + mkFn F ≤ 9223372036854775807) (hb : ∀ f ∈ F, FunB f) (hF : F.length ≤ 1048576) : Spec Tryz.prog 20 [.sl 0, iv k] [(0, ⟨1, .arr (funsD F)⟩)] (iv (k + mkFn F)) [(0, ⟨1, .arr (funsD (mkFs k F))⟩)] := by
  refine spec_of_V (E := TE) 1 Tryz.func20 rfl (by simp [Tryz.f20]) fun X hn hX => ?_
  repeat' (first | (with_reducible first | refine V_seq ?_ | refine V_block ?_ | refine V_skip ?_ | refine V_ret ?_ | refine V_exit ?_) | ((with_reducible refine V_cond ?_); simp only [go_sem, simprocAttr]) | ((refine V_region (by rw [hn]; rfl) ?_); intro K hK) | ((first | with_reducible refine evOps_n ?_ | ((with_reducible apply evOps_g); rfl)); intro K hK; simp (contextual := true) only [go_sem, simprocAttr]) | with_reducible refine evOps_nil ?_ | ((with_reducible refine hK _ ?_); clear hK K) | (with_reducible first | refine And.intro ?_ ?_ | refine nxt_n ?_ | refine nxt_r ?_ | refine nxt_e ?_ | refine blk_n ?_ | refine blk_r ?_ | refine blk_same ?_ | refine blk_other (by decide) ?_ | refine noG_n ?_ | refine noG_r ?_ | refine noG_e ?_ | refine inR_mk ?_ ?_) | (refine fun (hc : (_ : Bool) = _) => ?_; try simp only [hcS] at hc))
  all_goals try (first | (with_reducible assumption) | ((try simp only [Cat.F, Cat.T, Cat.I, Cat.C, Fun.O, Fun.A, Cat.Entry, Int.toNat_natCast] at *); omega))
  refine V_loopK (G := {i : Nat // i ≤ F.length ∧ (True)}) (fun ⟨i, _⟩ => [(1, iv (k + mkFn (F.take i))), (5, iv i)]) [0, 4] (fun ⟨i, _⟩ => [(0, ⟨1, .arr (funsD (mkFs k (F.take i) ++ F.drop i))⟩)]) [0] (fun zz => F.length - zz.1) ⟨0, Nat.zero_le _, by simp [mkFs, mkFn]⟩ ?_ ?_
  · exact Imp.auto hX (by simp [go_sem, simprocAttr])
  rintro ⟨i, hii, hwi⟩
  simp only [go_sem, simprocAttr]
  rcases Nat.lt_or_ge i F.length with hlt | hge
  · have e1 := mkFs_take k hlt
    have e2 := mkFn_take hlt
    have e3 := mkFn_le F (i + 1)
    have hfb := hb (F.getD i default) (getD_mem hlt)
    have hdr : F.drop i = F.getD i default :: F.drop (i + 1) := by
      rw [List.drop_eq_getElem_cons hlt, List.getD_eq_getElem?_getD, List.getElem?_eq_getElem hlt]; rfl
    have hA : (mkFs k (F.take i)).length = i := by rw [mkFs_len, List.length_take]; omega
    have hB : i + 1 + (F.drop (i + 1)).length = F.length := by rw [List.length_drop]; omega
    rw [hdr]
    rw [e2] at e3
    have e4 : mkFs k (F.take (i + 1)) ++ F.drop (i + 1) = mkFs k (F.take i) ++ mkF1 (k + mkFn (F.take i)) (F.getD i default) :: F.drop (i + 1) := by rw [e1, List.append_assoc]; rfl
    generalize F.getD i default = f at *
    generalize mkFs k (F.take i) = A at *
    obtain ⟨B, hBe⟩ : ∃ B, F.drop (i + 1) = B := ⟨_, rfl⟩
    rw [hBe] at hB hdr e4 ⊢
    generalize mkFn (F.take i) = n at *
    subst hA
    obtain ⟨⟨so, sf, st, si, sc⟩, ⟨to_, tf, tt, ti, tc⟩, q, r⟩ := f
    rw [← midD_fun]
    simp only [funC]
    obtain ⟨⟨b1, b2, b3, b4, b5, b6, b7⟩, ⟨g1, g2, g3, g4, g5, g6, g7⟩, b8, b9⟩ := hfb
    simp only [Go.Cats.Fun.mkn, Go.Cats.Cat.mkn] at *
    repeat' (first | (refine V_at 7 (Imp.midClose 0 1 1 _ _ _ rfl rfl (by decide) (Nat.le_of_ble_eq_true rfl) rfl) ?_; simp only [go_sem, simprocAttr]) | (refine V_at 6 (Imp.midOpen 0 1 _ _ rfl (Nat.succ_le_succ (Nat.zero_le _)) (Nat.le_of_ble_eq_true rfl) rfl rfl rfl rfl) ?_; simp only [go_sem, simprocAttr]) | (refine V_at 8 (Imp.midClose 0 2 2 _ _ _ rfl rfl (by decide) (Nat.le_of_ble_eq_true rfl) rfl) ?_; simp only [go_sem, simprocAttr]) | (refine V_at 7 (Imp.midOpen 0 2 _ _ rfl (Nat.succ_le_succ (Nat.zero_le _)) (Nat.le_of_ble_eq_true rfl) rfl rfl rfl rfl) ?_; simp only [go_sem, simprocAttr]) | (refine V_at 9 (Imp.midClose 0 3 3 _ _ _ rfl rfl (by decide) (Nat.le_of_ble_eq_true rfl) rfl) ?_; simp only [go_sem, simprocAttr]) | (refine V_at 8 (Imp.midOpen 0 3 _ _ rfl (Nat.succ_le_succ (Nat.zero_le _)) (Nat.le_of_ble_eq_true rfl) rfl rfl rfl rfl) ?_; simp only [go_sem, simprocAttr]) | (refine V_at 10 (Imp.midClose 0 4 4 _ _ _ rfl rfl (by decide) (Nat.le_of_ble_eq_true rfl) rfl) ?_; simp only [go_sem, simprocAttr]) | (refine V_at 9 (Imp.midOpen 0 4 _ _ rfl (Nat.succ_le_succ (Nat.zero_le _)) (Nat.le_of_ble_eq_true rfl) rfl rfl rfl rfl) ?_; simp only [go_sem, simprocAttr]) | (refine V_at 13 (Imp.midClose 0 5 6 _ _ _ rfl rfl (by decide) (Nat.le_of_ble_eq_true rfl) rfl) ?_; simp only [go_sem, simprocAttr]) | (refine V_at 12 (Imp.midOpen 0 6 _ _ rfl (Nat.succ_le_succ (Nat.zero_le _)) (Nat.le_of_ble_eq_true rfl) rfl rfl rfl rfl) ?_; simp only [go_sem, simprocAttr]) | (refine V_at 14 (Imp.midClose 0 6 7 _ _ _ rfl rfl (by decide) (Nat.le_of_ble_eq_true rfl) rfl) ?_; simp only [go_sem, simprocAttr]) | (refine V_at 13 (Imp.midOpen 0 7 _ _ rfl (Nat.succ_le_succ (Nat.zero_le _)) (Nat.le_of_ble_eq_true rfl) rfl rfl rfl rfl) ?_; simp only [go_sem, simprocAttr]) | (refine V_at 15 (Imp.midClose 0 7 8 _ _ _ rfl rfl (by decide) (Nat.le_of_ble_eq_true rfl) rfl) ?_; simp only [go_sem, simprocAttr]) | (refine V_at 14 (Imp.midOpen 0 8 _ _ rfl (Nat.succ_le_succ (Nat.zero_le _)) (Nat.le_of_ble_eq_true rfl) rfl rfl rfl rfl) ?_; simp only [go_sem, simprocAttr]) | (refine V_at 16 (Imp.midClose 0 8 9 _ _ _ rfl rfl (by decide) (Nat.le_of_ble_eq_true rfl) rfl) ?_; simp only [go_sem, simprocAttr]) | (refine V_at 15 (Imp.midOpen 0 9 _ _ rfl (Nat.succ_le_succ (Nat.zero_le _)) (Nat.le_of_ble_eq_true rfl) rfl rfl rfl rfl) ?_; simp only [go_sem, simprocAttr]) | (refine V_at 17 (Imp.midClose 0 9 10 _ _ _ rfl rfl (by decide) (Nat.le_of_ble_eq_true rfl) rfl) ?_; simp only [go_sem, simprocAttr]) | (refine V_at 16 (Imp.midOpen 0 10 _ _ rfl (Nat.succ_le_succ (Nat.zero_le _)) (Nat.le_of_ble_eq_true rfl) rfl rfl rfl rfl) ?_; simp only [go_sem, simprocAttr]) | (refine V_at 3 (Imp.midClose 0 10 11 _ _ _ rfl rfl (by decide) (Nat.le_of_ble_eq_true rfl) rfl) ?_; simp only [go_sem, simprocAttr]) | (refine V_at 17 (Imp.midOpen 0 11 _ _ rfl (Nat.succ_le_succ (Nat.zero_le _)) (Nat.le_of_ble_eq_true rfl) rfl rfl rfl rfl) ?_; simp only [go_sem, simprocAttr]) | (with_reducible first | refine V_seq ?_ | refine V_block ?_ | refine V_skip ?_ | refine V_ret ?_ | refine V_exit ?_) | ((with_reducible refine V_cond ?_); simp only [go_sem, simprocAttr]) | ((refine V_region (by rw [hn]; rfl) ?_); intro K hK) | ((first | with_reducible refine evOps_n ?_ | ((with_reducible apply evOps_g); rfl)); intro K hK; simp (contextual := true) only [go_sem, simprocAttr]) | with_reducible refine evOps_nil ?_ | ((with_reducible refine hK _ ?_); clear hK K) | (with_reducible first | refine And.intro ?_ ?_ | refine nxt_n ?_ | refine nxt_r ?_ | refine nxt_e ?_ | refine blk_n ?_ | refine blk_r ?_ | refine blk_same ?_ | refine blk_other (by decide) ?_ | refine noG_n ?_ | refine noG_r ?_ | refine noG_e ?_ | refine inR_mk ?_ ?_) | ((with_reducible refine evCall_at 58 ?_); refine EvCall.mu (by first | (simp only [go_sem, simprocAttr]; rfl) | rfl) (by first | (simp only [go_sem, simprocAttr]; rfl) | rfl) (by first | (simp only [go_sem, simprocAttr]; rfl) | rfl) (sp_markInt64S ?_ ?_ ?_) cal_markInt64S (by first | (simp only [go_sem, simprocAttr]; rfl) | rfl) (by first | (simp only [go_sem, simprocAttr]; rfl) | rfl) (by simp [go_sem]) (by simp [go_sem]) ?_; all_goals try simp only [go_sem, simprocAttr]) | ((with_reducible refine evCall_at 21 ?_); refine EvCall.mu (by first | (simp only [go_sem, simprocAttr]; rfl) | rfl) (by first | (simp only [go_sem, simprocAttr]; rfl) | rfl) (by first | (simp only [go_sem, simprocAttr]; rfl) | rfl) (sp_markInt64SS ?_ ?_ ?_) cal_markInt64SS (by first | (simp only [go_sem, simprocAttr]; rfl) | rfl) (by first | (simp only [go_sem, simprocAttr]; rfl) | rfl) (by simp [go_sem]) (by simp [go_sem]) ?_; all_goals try simp only [go_sem, simprocAttr]) | (refine fun (hc : (_ : Bool) = _) => ?_; try simp only [hcS] at hc))
    all_goals try (first | (with_reducible assumption) | ((try simp only [Cat.F, Cat.T, Cat.I, Cat.C, Fun.O, Fun.A, Cat.Entry, Int.toNat_natCast] at *); omega))
    have em := midD_fun A (mkF1 (k + n) ⟨⟨so, sf, st, si, sc⟩, ⟨to_, tf, tt, ti, tc⟩, q, r⟩) B
    rw [← e4] at em
    simp only [funC, mkF1] at em
    have ec : k + (mkFn (F.take (A.length + 1)) : Int) = k + n + 1 + sf.length + st.length + si.length + sumLen sc + 1 + tf.length + tt.length + ti.length + sumLen tc + q.length + r.length := by omega
    refine ⟨⟨A.length + 1, by omega, (by (trivial))⟩, by simp only; omega, Imp.auto hX (by simp only [go_sem, simprocAttr, em, ec, hBe])⟩
  · have ei : i = F.length := by omega
    have hml := mkFs_len k F
    subst ei
    rw [List.take_length, List.drop_length, List.append_nil]
    repeat' (first | (with_reducible first | refine V_seq ?_ | refine V_block ?_ | refine V_skip ?_ | refine V_ret ?_ | refine V_exit ?_) | ((with_reducible refine V_cond ?_); simp only [go_sem, simprocAttr]) | ((refine V_region (by rw [hn]; rfl) ?_); intro K hK) | ((first | with_reducible refine evOps_n ?_ | ((with_reducible apply evOps_g); rfl)); intro K hK; simp (contextual := true) only [go_sem, simprocAttr]) | with_reducible refine evOps_nil ?_ | ((with_reducible refine hK _ ?_); clear hK K) | (with_reducible first | refine And.intro ?_ ?_ | refine nxt_n ?_ | refine nxt_r ?_ | refine nxt_e ?_ | refine blk_n ?_ | refine blk_r ?_ | refine blk_same ?_ | refine blk_other (by decide) ?_ | refine noG_n ?_ | refine noG_r ?_ | refine noG_e ?_ | refine inR_mk ?_ ?_) | (refine fun (hc : (_ : Bool) = _) => ?_; try simp only [hcS] at hc))
    all_goals try (first | (with_reducible assumption) | ((try simp only [Cat.F, Cat.T, Cat.I, Cat.C, Fun.O, Fun.A, Cat.Entry, Int.toNat_natCast] at *); omega))
    (first | refine ret_auto ?_ | refine ret_auto' ?_); simp only [go_sem, simprocAttr, Tryz.f20]
end Go.Eng
