/- All paths of a graph, by the reference. -/
import Derived.Test.YtbflkfamigcncaaGreatZ07q
import Derived.Test.YtbflkfamigcncaaGreatEngPhq
set_option linter.unusedSimpArgs false
set_option linter.unusedVariables false
set_option maxRecDepth 100000
set_option maxHeartbeats 16000000
namespace Go.Eng
open Go Go.Proofs Go.Cats
attribute [local go_sem] List.set_cons_zero List.set_cons_succ pths_nil
theorem bf0_zero : bf0 0 = [] := rfl
theorem bf0_succ {x : Nat} : bf0 (x + 1) = bf0 x ++ [((x : Int), (x : Int), [])] := by unfold bf0; rw [List.range_succ, List.map_append]; rfl
theorem bf0_len {x : Nat} : (bf0 x).length = x := by unfold bf0; rw [List.length_map, List.length_range]
theorem bf0_rows {x i : Nat} : ((bf0 x).getD i pth0).2.2 = [] := by
  rcases Nat.lt_or_ge i x with h | h
  · unfold bf0
    rw [List.getD_eq_getElem?_getD, List.getElem?_map, List.getElem?_range h]; rfl
  · rw [List.getD_eq_getElem?_getD, List.getElem?_eq_none (by rw [bf0_len]; exact h)]; rfl
section
variable {fr to : List Int} {p : Pth} {e k q : Nat} {L : List Pth}
theorem bfE_zero : bfE fr to p 0 = [] := rfl
theorem bfE_len : ∀ e, (bfE fr to p e).length ≤ e
  | 0 => Nat.le_refl 0
  | e + 1 => by
    have := bfE_len e
    unfold bfE
    split
    · rw [List.length_append, List.length_singleton]; omega
    · omega
theorem bfE_yes (h : fr.getD e 0 = p.2.1) : bfE fr to p (e + 1) = bfE fr to p e ++ [(p.1, to.getD e 0, p.2.2 ++ [(e : Int)])] := by rw [bfE, if_pos h]
theorem bfE_no (h : ¬ fr.getD e 0 = p.2.1) : bfE fr to p (e + 1) = bfE fr to p e := by rw [bfE, if_neg h]
theorem bfE_rows : ∀ e, ∀ y ∈ bfE fr to p e, y.2.2.length = p.2.2.length + 1
  | 0, y, h => by cases h
  | e + 1, y, h => by
    unfold bfE at h
    split at h
    · rcases List.mem_append.1 h with h | h
      · exact bfE_rows e y h
      · rw [List.mem_singleton] at h
        subst h
        simp
    · exact bfE_rows e y h
theorem bfK_yes (h : k < L.length ∧ L.length ≤ 40) : bfK fr to (q + 1) L k = bfK fr to q (L ++ bfE fr to (L.getD k pth0) fr.length) (k + 1) := by rw [bfK, if_pos h]
theorem bfK_no (h : ¬ (k < L.length ∧ L.length ≤ 40)) : bfK fr to q L k = L := by
  cases q with
  | zero => rfl
  | succ q => rw [bfK, if_neg h]
theorem rows_step (h : ∀ i, i < L.length → (L.getD i pth0).2.2.length ≤ k) (hk : k < L.length) : ∀ i, i < (L ++ bfE fr to (L.getD k pth0) e).length → ((L ++ bfE fr to (L.getD k pth0) e).getD i pth0).2.2.length ≤ k + 1 := fun i hi => by
  have h0 := h k hk
  rcases Nat.lt_or_ge i L.length with h1 | h1
  · rw [List.getD_eq_getElem?_getD, List.getElem?_append_left h1, ← List.getD_eq_getElem?_getD]
    have := h i h1
    omega
  · rw [List.length_append] at hi
    rw [List.getD_eq_getElem?_getD, List.getElem?_append_right h1, List.getElem?_eq_getElem (by omega), Option.getD_some]
    rw [bfE_rows e _ (List.getElem_mem _)]; omega
theorem app_at (hk : k < L.length) (M : List Pth) : (L ++ M).getD k pth0 = L.getD k pth0 := by
  rw [List.getD_eq_getElem?_getD, List.getElem?_append_left hk, ← List.getD_eq_getElem?_getD]
end
theorem map_at (U : Zq) (k : Nat) : (U.map (·.1)).getD k pth0 = (U.getD k (pth0, default)).1 := by
  simp only [List.getD_eq_getElem?_getD, List.getElem?_map]; cases U[k]? <;> rfl
theorem map_at_lt (U : Zq) (k : Nat) (h : k < U.length) : (U.map (·.1)).getD k pth0 = (U[k]).1 := by
  simp only [List.getD_eq_getElem?_getD, List.getElem?_map, List.getElem?_eq_getElem h, Option.map_some, Option.getD_some]
def swQ (U : Zq) (k : Nat) : Zq := (U.set (k + 1) (U.getD k (pth0, default))).set k (U.getD (k + 1) (pth0, default))
theorem swQ_map (U : Zq) (k : Nat) : (swQ U k).map (·.1) = swP (U.map (·.1)) k := by
  unfold swQ swP
  rw [List.map_set, List.map_set, map_at, map_at]
theorem swQ_perm {Y : Zq} {k : Nat} (h : k + 1 < Y.length) : Y.Perm (swQ Y k) := by
  have e1 : Y.drop k = Y[k] :: Y[k + 1] :: Y.drop (k + 2) := by rw [List.drop_eq_getElem_cons (by omega), List.drop_eq_getElem_cons h]
  have e0 : Y = Y.take k ++ Y[k] :: Y[k + 1] :: Y.drop (k + 2) := by rw [← e1, List.take_append_drop]
  have l1 : (Y.take k).length = k := by rw [List.length_take]; omega
  unfold swQ
  rw [List.getD_eq_getElem?_getD, List.getElem?_eq_getElem (show k < Y.length by omega), List.getD_eq_getElem?_getD, List.getElem?_eq_getElem h]
  simp only [Option.getD_some]
  generalize Y[k] = a at *
  generalize Y[k + 1] = b at *
  generalize Y.take k = T at *
  generalize Y.drop (k + 2) = R at *
  subst e0
  rw [List.set_append_right _ _ (by omega), l1, show k + 1 - k = 1 by omega]
  simp only [List.set_cons_succ, List.set_cons_zero]
  rw [List.set_append_right _ _ (by omega), l1, Nat.sub_self, List.set_cons_zero]
  exact List.Perm.append_left T (List.Perm.swap ..)
theorem cal_l03All : Callable Tryz.prog 263 := ⟨_, Tryz.func263, rfl, rfl⟩
theorem sp_l03All {n : Nat} {fr to : List Int} (hg : GrOk n fr to) : Spec Tryz.prog 263 [iv n, .bor [] (ints fr), .bor [] (ints to)] [] (.sl 0) [(0, ⟨1, .arr (pthsD (allP n fr to))⟩)] := by
  have g2 := hg.n2
  have glen := hg.len
  have gtol := hg.tol
  refine spec_of_V (E := TE) 0 Tryz.func263 rfl (by simp [Tryz.f263]) fun X hn hX => ?_
  obtain ⟨F, hF⟩ : ∃ F, bfK fr to 64 (bf0 n) 0 = F := ⟨_, rfl⟩
  repeat' (first | with_reducible refine St.f ?_ | ((with_reducible refine V_cond ?_); simp only [go_sem, simprocAttr]) | ((first | refine V_rg ?_ | refine V_dr ?_); intro K hK) | ((first | with_reducible refine So.f ?_ | ((with_reducible apply evOps_g); rfl) | ((with_reducible apply evOpsD_g); rfl)); intro K hK; simp (contextual := true) only [go_sem, simprocAttr]) | ((with_reducible refine evOpsD_nil ?_ ?_); kernel_rfl) | ((with_reducible refine hK _ ?_); clear hK K) | (with_reducible first | refine And.intro ?_ ?_ | refine blk_other (by decide) ?_ | refine inR_mk ?_ ?_) | (refine fun (hc : (_ : Bool) = _) => ?_; try simp only [hcS] at hc))
  all_goals try exact om_
  all_goals try (exfalso; omega)
  refine V_loopK (G := {x : Nat // x ≤ n ∧ (True)}) (fun ⟨x, _⟩ => [(8, iv x), (0, iv n), (1, .bor [] (ints fr)), (2, .bor [] (ints to)), (7, .sl 0)]) [6] (fun ⟨x, _⟩ => [(0, ⟨1, .arr (pthsD (bf0 x))⟩)]) [0] (fun zz => n - zz.1) ⟨0, Nat.zero_le _, by trivial⟩ ?_ ?_
  · exact Imp.auto hX (by simp [go_sem, simprocAttr, bf0_zero])
  rintro ⟨x, hix, hwx⟩
  simp only [go_sem, simprocAttr]
  have l0 := bf0_len (x := x)
  rcases Nat.lt_or_ge x n with hx1 | hx1
  · repeat' (first | with_reducible refine St.f ?_ | ((with_reducible refine V_cond ?_); simp only [go_sem, simprocAttr]) | ((first | refine V_rg ?_ | refine V_dr ?_); intro K hK) | ((first | with_reducible refine So.f ?_ | ((with_reducible apply evOps_g); rfl) | ((with_reducible apply evOpsD_g); rfl)); intro K hK; simp (contextual := true) only [go_sem, simprocAttr]) | ((with_reducible refine evOpsD_nil ?_ ?_); kernel_rfl) | ((with_reducible refine hK _ ?_); clear hK K) | (with_reducible first | refine And.intro ?_ ?_ | refine blk_other (by decide) ?_ | refine inR_mk ?_ ?_) | (refine fun (hc : (_ : Bool) = _) => ?_; try simp only [hcS] at hc))
    all_goals try exact om_
    all_goals try (exfalso; omega)
    refine ⟨⟨x + 1, by omega, (by (trivial))⟩, by simp only; omega, Imp.auto hX (by simp only [go_sem, simprocAttr, bf0_succ])⟩
  · obtain rfl : x = n := by omega
    repeat' (first | with_reducible refine St.f ?_ | ((with_reducible refine V_cond ?_); simp only [go_sem, simprocAttr]) | ((first | refine V_rg ?_ | refine V_dr ?_); intro K hK) | ((first | with_reducible refine So.f ?_ | ((with_reducible apply evOps_g); rfl) | ((with_reducible apply evOpsD_g); rfl)); intro K hK; simp (contextual := true) only [go_sem, simprocAttr]) | ((with_reducible refine evOpsD_nil ?_ ?_); kernel_rfl) | ((with_reducible refine hK _ ?_); clear hK K) | (with_reducible first | refine And.intro ?_ ?_ | refine blk_other (by decide) ?_ | refine inR_mk ?_ ?_) | (refine fun (hc : (_ : Bool) = _) => ?_; try simp only [hcS] at hc))
    all_goals try exact om_
    all_goals try (exfalso; omega)
    refine V_loopK (G := {p : List Pth × Nat // bfK fr to (64 - p.2) p.1 p.2 = F ∧ p.2 ≤ 41 ∧ 0 < p.1.length ∧ p.1.length ≤ 43 ∧ (∀ i, i < p.1.length → (p.1.getD i pth0).2.2.length ≤ p.2)}) (fun p => [(9, iv p.1.2), (1, .bor [] (ints fr)), (2, .bor [] (ints to)), (7, .sl 0)]) [6] (fun p => [(0, ⟨1, .arr (pthsD p.1.1)⟩)]) [0] (fun p => 64 - p.1.2) ⟨(bf0 x, 0), hF, by simp, by simp only; omega, by simp only; omega, fun i _ => by simp only [bf0_rows]; exact Nat.le_refl 0⟩ ?_ ?_
    · exact Imp.au hX
    rintro ⟨⟨L, k⟩, hb, hk, hl0, hl, hr⟩
    simp only at hb hk hl0 hl hr
    simp only [go_sem, simprocAttr]
    by_cases hc : k < L.length ∧ L.length ≤ 40
    · obtain ⟨hc1, hc2⟩ := hc
      have hb2 : bfK fr to (64 - (k + 1)) (L ++ bfE fr to (L.getD k pth0) fr.length) (k + 1) = F := by
        rw [← hb, show 64 - k = (64 - (k + 1)) + 1 by omega, bfK_yes ⟨hc1, hc2⟩]
      have hbl := bfE_len (fr := fr) (to := to) (p := L.getD k pth0) fr.length
      have hrr := hr k hc1
      repeat' (first | with_reducible refine St.f ?_ | ((with_reducible refine V_cond ?_); simp only [go_sem, simprocAttr]) | ((first | refine V_rg ?_ | refine V_dr ?_); intro K hK) | ((first | with_reducible refine So.f ?_ | ((with_reducible apply evOps_g); rfl) | ((with_reducible apply evOpsD_g); rfl)); intro K hK; simp (contextual := true) only [go_sem, simprocAttr]) | ((with_reducible refine evOpsD_nil ?_ ?_); kernel_rfl) | ((with_reducible refine hK _ ?_); clear hK K) | (with_reducible first | refine And.intro ?_ ?_ | refine blk_other (by decide) ?_ | refine inR_mk ?_ ?_) | (refine fun (hc : (_ : Bool) = _) => ?_; try simp only [hcS] at hc))
      all_goals try exact om_
      all_goals try (exfalso; omega)
      refine V_loopK (G := {e : Nat // e ≤ fr.length ∧ (True)}) (fun ⟨e, _⟩ => [(10, iv e), (9, iv k), (1, .bor [] (ints fr)), (2, .bor [] (ints to)), (7, .sl 0)]) [6] (fun ⟨e, _⟩ => [(0, ⟨1, .arr (pthsD (L ++ bfE fr to (L.getD k pth0) e))⟩)]) [0] (fun zz => fr.length - zz.1) ⟨0, Nat.zero_le _, by trivial⟩ ?_ ?_
      · exact Imp.auto hX (by simp [go_sem, simprocAttr, bfE_zero, List.append_nil])
      rintro ⟨e, hie, hwe⟩
      simp only [go_sem, simprocAttr]
      have hbe := bfE_len (fr := fr) (to := to) (p := L.getD k pth0) e
      have hla : (L ++ bfE fr to (L.getD k pth0) e).length = L.length + (bfE fr to (L.getD k pth0) e).length := List.length_append
      have hat := app_at hc1 (bfE fr to (L.getD k pth0) e)
      have pa0 : (pthsD (L ++ bfE fr to (L.getD k pth0) e)).at (k * 3 + 0) = .v (.int .i64 (L.getD k pth0).1) := (pths_at _ k 0 (by omega) (by decide)).trans (by rw [hat]; rfl)
      have pa1 : (pthsD (L ++ bfE fr to (L.getD k pth0) e)).at (k * 3 + 1) = .v (.int .i64 (L.getD k pth0).2.1) := (pths_at _ k 1 (by omega) (by decide)).trans (by rw [hat]; rfl)
      have pa2 : (pthsD (L ++ bfE fr to (L.getD k pth0) e)).at (k * 3 + 2) = ints (L.getD k pth0).2.2 := (pths_at _ k 2 (by omega) (by decide)).trans (by rw [hat]; rfl)
      have hown := sp_l01Own (l := (L.getD k pth0).2.2) (by omega)
      rcases Nat.lt_or_ge e fr.length with he1 | he1
      · by_cases h1 : fr.getD e 0 = (L.getD k pth0).2.1
        · have e1 := bfE_yes (to := to) h1
          repeat' (first | (rw [pa0]; simp only [go_sem, simprocAttr]) | (rw [pa1]; simp only [go_sem, simprocAttr]) | (rw [pa2]; simp only [go_sem, simprocAttr]) | with_reducible refine St.f ?_ | ((with_reducible refine V_cond ?_); simp only [go_sem, simprocAttr]) | ((first | refine V_rg ?_ | refine V_dr ?_); intro K hK) | ((first | with_reducible refine So.f ?_ | ((with_reducible apply evOps_g); rfl) | ((with_reducible apply evOpsD_g); rfl)); intro K hK; simp (contextual := true) only [go_sem, simprocAttr]) | ((with_reducible refine evOpsD_nil ?_ ?_); kernel_rfl) | ((with_reducible refine hK _ ?_); clear hK K) | (with_reducible first | refine And.intro ?_ ?_ | refine blk_other (by decide) ?_ | refine inR_mk ?_ ?_) | ((with_reducible refine evCall_at 170 ?_); refine EvCall.mq (hown) cal_l01Own [(0,1)] [0] ?_; all_goals try simp only [go_sem, simprocAttr]) | (refine fun (hc : (_ : Bool) = _) => ?_; try simp only [hcS] at hc))
          all_goals try exact om_
          all_goals try (exfalso; omega)
          refine ⟨⟨e + 1, by omega, (by (trivial))⟩, by simp only; omega, Imp.auto hX (by simp only [go_sem, simprocAttr, e1, List.append_assoc])⟩
        · have e1 := bfE_no (to := to) h1
          repeat' (first | (rw [pa0]; simp only [go_sem, simprocAttr]) | (rw [pa1]; simp only [go_sem, simprocAttr]) | (rw [pa2]; simp only [go_sem, simprocAttr]) | with_reducible refine St.f ?_ | ((with_reducible refine V_cond ?_); simp only [go_sem, simprocAttr]) | ((first | refine V_rg ?_ | refine V_dr ?_); intro K hK) | ((first | with_reducible refine So.f ?_ | ((with_reducible apply evOps_g); rfl) | ((with_reducible apply evOpsD_g); rfl)); intro K hK; simp (contextual := true) only [go_sem, simprocAttr]) | ((with_reducible refine evOpsD_nil ?_ ?_); kernel_rfl) | ((with_reducible refine hK _ ?_); clear hK K) | (with_reducible first | refine And.intro ?_ ?_ | refine blk_other (by decide) ?_ | refine inR_mk ?_ ?_) | (refine fun (hc : (_ : Bool) = _) => ?_; try simp only [hcS] at hc))
          all_goals try exact om_
          all_goals try (exfalso; omega)
          refine ⟨⟨e + 1, by omega, (by (trivial))⟩, by simp only; omega, Imp.auto hX (by simp only [go_sem, simprocAttr, e1])⟩
      · obtain rfl : e = fr.length := by omega
        repeat' (first | with_reducible refine St.f ?_ | ((with_reducible refine V_cond ?_); simp only [go_sem, simprocAttr]) | ((first | refine V_rg ?_ | refine V_dr ?_); intro K hK) | ((first | with_reducible refine So.f ?_ | ((with_reducible apply evOps_g); rfl) | ((with_reducible apply evOpsD_g); rfl)); intro K hK; simp (contextual := true) only [go_sem, simprocAttr]) | ((with_reducible refine evOpsD_nil ?_ ?_); kernel_rfl) | ((with_reducible refine hK _ ?_); clear hK K) | (with_reducible first | refine And.intro ?_ ?_ | refine blk_other (by decide) ?_ | refine inR_mk ?_ ?_) | (refine fun (hc : (_ : Bool) = _) => ?_; try simp only [hcS] at hc))
        all_goals try exact om_
        all_goals try (exfalso; omega)
        exact ⟨⟨(L ++ bfE fr to (L.getD k pth0) fr.length, k + 1), hb2, by omega, by simp only; omega, by simp only; omega, rows_step hr hc1⟩, by simp only; omega, Imp.au hX⟩
    · rw [bfK_no hc] at hb
      subst hb
      have hr2 : ∀ i, i < L.length → (L.getD i pth0).2.2.length ≤ 1048576 := fun i hi => by have := hr i hi; omega
      by_cases h1 : k < L.length
      · have h2 : ¬ L.length ≤ 40 := fun h => hc ⟨h1, h⟩
        repeat' (first | with_reducible refine St.f ?_ | ((with_reducible refine V_cond ?_); simp only [go_sem, simprocAttr]) | ((first | refine V_rg ?_ | refine V_dr ?_); intro K hK) | ((first | with_reducible refine So.f ?_ | ((with_reducible apply evOps_g); rfl) | ((with_reducible apply evOpsD_g); rfl)); intro K hK; simp (contextual := true) only [go_sem, simprocAttr]) | ((with_reducible refine evOpsD_nil ?_ ?_); kernel_rfl) | ((with_reducible refine hK _ ?_); clear hK K) | (with_reducible first | refine And.intro ?_ ?_ | refine blk_other (by decide) ?_ | refine inR_mk ?_ ?_) | (refine fun (hc : (_ : Bool) = _) => ?_; try simp only [hcS] at hc))
        all_goals try exact om_
        all_goals try (exfalso; omega)
        refine V_bagP 0 1 L rfl (Nat.le_refl 1) rfl fun Z hZ => ?_
        simp only [go_sem, simprocAttr]
        have hZl : Z.length = L.length := by rw [← hZ, List.length_map]
        have hrZ : ∀ p ∈ Z, p.1.2.2.length ≤ 1048576 := fun p hp => by
          obtain ⟨j, hj, e⟩ := List.getElem_of_mem hp
          have h9 := hr2 j (by omega)
          rw [← hZ, map_at_lt Z j hj, e] at h9
          exact h9
        refine V_loopK (G := {p : Nat × Zq // 1 ≤ p.1 ∧ p.1 ≤ L.length ∧ Z.Perm p.2 ∧ p.2.map (·.1) = stP L p.1}) (fun p => [(11, iv p.1.1), (7, .sl 0)]) [6] (fun p => [(0, ⟨1, .arr (pthsR p.1.2)⟩), (1, ⟨1, .arr (bagD (zsq Z))⟩)]) [0, 1] (fun p => L.length - p.1.1) ⟨(1, Z), Nat.le_refl 1, by simp only; omega, List.Perm.refl _, by rw [hZ]; rfl⟩ ?_ ?_
        · exact Imp.sub hX [(0,0),(1,1)] (by simp [go_sem, simprocAttr])
        rintro ⟨⟨i, Y⟩, hi1, hi2, hY, hYs⟩
        simp only at hi1 hi2 hY hYs
        have hYl : Y.length = L.length := by rw [← hY.length_eq]; exact hZl
        simp only [go_sem, simprocAttr]
        rcases Nat.lt_or_ge i L.length with hlt | hge
        · repeat' (first | with_reducible refine St.f ?_ | ((with_reducible refine V_cond ?_); simp only [go_sem, simprocAttr]) | ((first | refine V_rg ?_ | refine V_dr ?_); intro K hK) | ((first | with_reducible refine So.f ?_ | ((with_reducible apply evOps_g); rfl) | ((with_reducible apply evOpsD_g); rfl)); intro K hK; simp (contextual := true) only [go_sem, simprocAttr]) | ((with_reducible refine evOpsD_nil ?_ ?_); kernel_rfl) | ((with_reducible refine hK _ ?_); clear hK K) | (with_reducible first | refine And.intro ?_ ?_ | refine blk_other (by decide) ?_ | refine inR_mk ?_ ?_) | (refine fun (hc : (_ : Bool) = _) => ?_; try simp only [hcS] at hc))
          all_goals try exact om_
          all_goals try (exfalso; omega)
          refine V_loopK (G := {q : Nat × Zq // q.1 ≤ i ∧ Z.Perm q.2 ∧ dnP (q.2.map (·.1)) q.1 = stP L (i + 1)}) (fun q => [(12, iv q.1.1), (11, iv i), (7, .sl 0)]) [6] (fun q => [(0, ⟨1, .arr (pthsR q.1.2)⟩), (1, ⟨1, .arr (bagD (zsq Z))⟩)]) [0, 1] (fun q => q.1.1) ⟨(i, Y), Nat.le_refl i, hY, by simp only; rw [hYs]; rfl⟩ ?_ ?_
          · exact Imp.sub hX [(0,0),(1,1)] (by simp [go_sem, simprocAttr])
          rintro ⟨⟨k, U⟩, hk1, hU, hUs⟩
          simp only at hk1 hU hUs
          have hUl : U.length = L.length := by rw [← hU.length_eq]; exact hZl
          simp only [go_sem, simprocAttr]
          cases k with
          | zero =>
            repeat' (first | ((refine V_drawnX (id := 18) hmix (by rw [hn]; rfl) ?_); intro K hK) | ((with_reducible refine evOpsDX_nil ?_ ?_); kernel_rfl) | (rw [e1k]) | (rw [e0k]) | (rw [pa1]; simp only [go_sem, simprocAttr]) | (rw [pa0]; simp only [go_sem, simprocAttr]) | (refine evOpsDX_gh (b := true) rfl (by simp only [go_sem, simprocAttr]) rfl ?_; intro K hK; refine HkX.callS (f := 280) hless cal_l03Before [1] (by simp only [go_sem, simprocAttr]) (by simp [go_sem]) ⟨shows_pth (n := 1) rfl (by simp) m1, shows_pth (n := 1) rfl (by simp) m0, trivial⟩ ?_; simp only [go_sem, simprocAttr]) | (((with_reducible apply evOpsDX_g); rfl); intro K hK; simp (contextual := true) only [go_sem, simprocAttr]) | ((with_reducible refine evOpsDX_n ?_); intro K hK; simp (contextual := true) only [go_sem, simprocAttr]) | with_reducible refine St.f ?_ | ((with_reducible refine V_cond ?_); simp only [go_sem, simprocAttr]) | ((first | refine V_rg ?_ | refine V_dr ?_); intro K hK) | ((first | with_reducible refine So.f ?_ | ((with_reducible apply evOps_g); rfl) | ((with_reducible apply evOpsD_g); rfl)); intro K hK; simp (contextual := true) only [go_sem, simprocAttr]) | ((with_reducible refine evOpsD_nil ?_ ?_); kernel_rfl) | ((with_reducible refine hK _ ?_); clear hK K) | (with_reducible first | refine And.intro ?_ ?_ | refine blk_other (by decide) ?_ | refine inR_mk ?_ ?_) | (refine fun (hc : (_ : Bool) = _) => ?_; try simp only [hcS] at hc))
            all_goals try exact om_
            exact ⟨⟨(i + 1, U), by simp only; omega, by simp only; omega, hU, hUs⟩, by simp only; omega, Imp.sub hX [(0,0),(1,1)] (by simp [go_sem, simprocAttr])⟩
          | succ k =>
            obtain ⟨b, hb0⟩ : ∃ b, U.getD k (pth0, default) = b := ⟨_, rfl⟩
            obtain ⟨a, ha0⟩ : ∃ a, U.getD (k + 1) (pth0, default) = a := ⟨_, rfl⟩
            have e1k : ((k : Int) + 1).toNat = k + 1 := by omega
            have e0k : ((k : Int) + 1 - 1).toNat = k := by omega
            have ma : a ∈ U := by rw [← ha0]; exact getD_mem (by omega)
            have mb : b ∈ U := by rw [← hb0]; exact getD_mem (by omega)
            have m1 := hU.mem_iff.2 ma
            have m0 := hU.mem_iff.2 mb
            have la := hrZ a m1
            have lb := hrZ b m0
            have hless := sp_l03Before (a := a.1) (b := b.1) la lb
            have pa1 : (pthsR U).part ((k + 1) * 3) 3 = [.v (.int .i64 a.1.1), .v (.int .i64 a.1.2.1), .v a.2.x] := by rw [← ha0]; exact pthsR_part U (k + 1) (by omega)
            have pa0 : (pthsR U).part (k * 3) 3 = [.v (.int .i64 b.1.1), .v (.int .i64 b.1.2.1), .v b.2.x] := by rw [← hb0]; exact pthsR_part U k (by omega)
            have qa : (U.map (·.1)).getD (k + 1) pth0 = a.1 := by rw [← ha0]; exact map_at U (k + 1)
            have qb : (U.map (·.1)).getD k pth0 = b.1 := by rw [← hb0]; exact map_at U k
            rw [dnP, qa, qb] at hUs
            cases hg : pLess a.1 b.1 with
            | false =>
              rw [hg] at hless hUs
              rw [if_neg (by decide)] at hUs
              repeat' (first | ((refine V_drawnX (id := 18) hmix (by rw [hn]; rfl) ?_); intro K hK) | ((with_reducible refine evOpsDX_nil ?_ ?_); kernel_rfl) | (rw [e1k]) | (rw [e0k]) | (rw [pa1]; simp only [go_sem, simprocAttr]) | (rw [pa0]; simp only [go_sem, simprocAttr]) | (refine evOpsDX_gh (b := true) rfl (by simp only [go_sem, simprocAttr]) rfl ?_; intro K hK; refine HkX.callS (f := 280) hless cal_l03Before [1] (by simp only [go_sem, simprocAttr]) (by simp [go_sem]) ⟨shows_pth (n := 1) rfl (by simp) m1, shows_pth (n := 1) rfl (by simp) m0, trivial⟩ ?_; simp only [go_sem, simprocAttr]) | (((with_reducible apply evOpsDX_g); rfl); intro K hK; simp (contextual := true) only [go_sem, simprocAttr]) | ((with_reducible refine evOpsDX_n ?_); intro K hK; simp (contextual := true) only [go_sem, simprocAttr]) | with_reducible refine St.f ?_ | ((with_reducible refine V_cond ?_); simp only [go_sem, simprocAttr]) | ((first | refine V_rg ?_ | refine V_dr ?_); intro K hK) | ((first | with_reducible refine So.f ?_ | ((with_reducible apply evOps_g); rfl) | ((with_reducible apply evOpsD_g); rfl)); intro K hK; simp (contextual := true) only [go_sem, simprocAttr]) | ((with_reducible refine evOpsD_nil ?_ ?_); kernel_rfl) | ((with_reducible refine hK _ ?_); clear hK K) | (with_reducible first | refine And.intro ?_ ?_ | refine blk_other (by decide) ?_ | refine inR_mk ?_ ?_) | (refine fun (hc : (_ : Bool) = _) => ?_; try simp only [hcS] at hc))
              all_goals try exact om_
              exact ⟨⟨(i + 1, U), by simp only; omega, by simp only; omega, hU, hUs⟩, by simp only; omega, Imp.sub hX [(0,0),(1,1)] (by simp [go_sem, simprocAttr])⟩
            | true =>
              rw [hg] at hless hUs
              rw [if_pos rfl] at hUs
              have hsw : (U.set (k + 1) b).set k a = swQ U k := by unfold swQ; rw [ha0, hb0]
              have lsw : (U.set (k + 1) b).length = L.length := by rw [List.length_set]; exact hUl
              have pm := swQ_perm (Y := U) (k := k) (by omega)
              have hmp := swQ_map U k
              repeat' (first | (refine (id ?_ : V _ _ (Code.region 21 _ _) _ _); refine V_regionH 21 (by rw [hn]; rfl) ?_; intro K hK) | (refine (id ?_ : V _ _ (Code.region 22 _ _) _ _); refine V_regionH 22 (by rw [hn]; rfl) ?_; intro K hK) | (refine evOpsH_h ?_; refine hook_storePth (x := .tmp 110) (y := .tmp 109) (i := 0) (j := k + 1) (Z := U) (q := b) rfl (by kernel_rfl) (by kernel_rfl) (by simp only [go_sem, simprocAttr, e1k]) rfl (by omega) (by simp only [go_sem, simprocAttr]) ?_; simp only [go_sem, simprocAttr]) | (refine evOpsH_h ?_; refine hook_storePth (x := .tmp 115) (y := .tmp 114) (i := 0) (j := k) (Z := U.set (k + 1) b) (q := a) rfl (by kernel_rfl) (by kernel_rfl) (by simp only [go_sem, simprocAttr, e0k]) rfl (by omega) (by simp only [go_sem, simprocAttr]) ?_; simp only [go_sem, simprocAttr]) | ((with_reducible refine evOpsH_n ?_); simp only [go_sem, simprocAttr]) | (with_reducible refine evOpsH_e ?_) | ((refine V_drawnX (id := 18) hmix (by rw [hn]; rfl) ?_); intro K hK) | ((with_reducible refine evOpsDX_nil ?_ ?_); kernel_rfl) | (rw [e1k]) | (rw [e0k]) | (rw [pa1]; simp only [go_sem, simprocAttr]) | (rw [pa0]; simp only [go_sem, simprocAttr]) | (refine evOpsDX_gh (b := true) rfl (by simp only [go_sem, simprocAttr]) rfl ?_; intro K hK; refine HkX.callS (f := 280) hless cal_l03Before [1] (by simp only [go_sem, simprocAttr]) (by simp [go_sem]) ⟨shows_pth (n := 1) rfl (by simp) m1, shows_pth (n := 1) rfl (by simp) m0, trivial⟩ ?_; simp only [go_sem, simprocAttr]) | (((with_reducible apply evOpsDX_g); rfl); intro K hK; simp (contextual := true) only [go_sem, simprocAttr]) | ((with_reducible refine evOpsDX_n ?_); intro K hK; simp (contextual := true) only [go_sem, simprocAttr]) | with_reducible refine St.f ?_ | ((with_reducible refine V_cond ?_); simp only [go_sem, simprocAttr]) | ((first | refine V_rg ?_ | refine V_dr ?_); intro K hK) | ((first | with_reducible refine So.f ?_ | ((with_reducible apply evOps_g); rfl) | ((with_reducible apply evOpsD_g); rfl)); intro K hK; simp (contextual := true) only [go_sem, simprocAttr]) | ((with_reducible refine evOpsD_nil ?_ ?_); kernel_rfl) | ((with_reducible refine hK _ ?_); clear hK K) | (with_reducible first | refine And.intro ?_ ?_ | refine blk_other (by decide) ?_ | refine inR_mk ?_ ?_) | (refine fun (hc : (_ : Bool) = _) => ?_; try simp only [hcS] at hc))
              all_goals try exact om_
              exact ⟨⟨(k, swQ U k), by simp only; omega, hU.trans pm, by simp only; rw [hmp]; exact hUs⟩, by simp only; omega, Imp.sub hX [(0,0),(1,1)] (by simp only [hsw]; simp [go_sem, simprocAttr])⟩
        · obtain rfl : i = L.length := by omega
          have hYe : Y.map (·.1) = allP x fr to := by unfold allP; rw [hF]; exact hYs
          repeat' (first | (refine V_at 23 (Imp.unbagP 0 1 1 1 Z Y rfl rfl (Nat.le_refl 1) (by decide) hY) ?_; rw [hYe]; simp only [go_sem, simprocAttr]) | with_reducible refine St.f ?_ | ((with_reducible refine V_cond ?_); simp only [go_sem, simprocAttr]) | ((first | refine V_rg ?_ | refine V_dr ?_); intro K hK) | ((first | with_reducible refine So.f ?_ | ((with_reducible apply evOps_g); rfl) | ((with_reducible apply evOpsD_g); rfl)); intro K hK; simp (contextual := true) only [go_sem, simprocAttr]) | ((with_reducible refine evOpsD_nil ?_ ?_); kernel_rfl) | ((with_reducible refine hK _ ?_); clear hK K) | (with_reducible first | refine And.intro ?_ ?_ | refine blk_other (by decide) ?_ | refine inR_mk ?_ ?_) | (refine fun (hc : (_ : Bool) = _) => ?_; try simp only [hcS] at hc))
          all_goals try exact om_
          (first | refine ret_auto ?_ | refine ret_auto' ?_); simp only [go_sem, simprocAttr, Tryz.f263]
      · repeat' (first | with_reducible refine St.f ?_ | ((with_reducible refine V_cond ?_); simp only [go_sem, simprocAttr]) | ((first | refine V_rg ?_ | refine V_dr ?_); intro K hK) | ((first | with_reducible refine So.f ?_ | ((with_reducible apply evOps_g); rfl) | ((with_reducible apply evOpsD_g); rfl)); intro K hK; simp (contextual := true) only [go_sem, simprocAttr]) | ((with_reducible refine evOpsD_nil ?_ ?_); kernel_rfl) | ((with_reducible refine hK _ ?_); clear hK K) | (with_reducible first | refine And.intro ?_ ?_ | refine blk_other (by decide) ?_ | refine inR_mk ?_ ?_) | (refine fun (hc : (_ : Bool) = _) => ?_; try simp only [hcS] at hc))
        all_goals try exact om_
        all_goals try (exfalso; omega)
        refine V_bagP 0 1 L rfl (Nat.le_refl 1) rfl fun Z hZ => ?_
        simp only [go_sem, simprocAttr]
        have hZl : Z.length = L.length := by rw [← hZ, List.length_map]
        have hrZ : ∀ p ∈ Z, p.1.2.2.length ≤ 1048576 := fun p hp => by
          obtain ⟨j, hj, e⟩ := List.getElem_of_mem hp
          have h9 := hr2 j (by omega)
          rw [← hZ, map_at_lt Z j hj, e] at h9
          exact h9
        refine V_loopK (G := {p : Nat × Zq // 1 ≤ p.1 ∧ p.1 ≤ L.length ∧ Z.Perm p.2 ∧ p.2.map (·.1) = stP L p.1}) (fun p => [(11, iv p.1.1), (7, .sl 0)]) [6] (fun p => [(0, ⟨1, .arr (pthsR p.1.2)⟩), (1, ⟨1, .arr (bagD (zsq Z))⟩)]) [0, 1] (fun p => L.length - p.1.1) ⟨(1, Z), Nat.le_refl 1, by simp only; omega, List.Perm.refl _, by rw [hZ]; rfl⟩ ?_ ?_
        · exact Imp.sub hX [(0,0),(1,1)] (by simp [go_sem, simprocAttr])
        rintro ⟨⟨i, Y⟩, hi1, hi2, hY, hYs⟩
        simp only at hi1 hi2 hY hYs
        have hYl : Y.length = L.length := by rw [← hY.length_eq]; exact hZl
        simp only [go_sem, simprocAttr]
        rcases Nat.lt_or_ge i L.length with hlt | hge
        · repeat' (first | with_reducible refine St.f ?_ | ((with_reducible refine V_cond ?_); simp only [go_sem, simprocAttr]) | ((first | refine V_rg ?_ | refine V_dr ?_); intro K hK) | ((first | with_reducible refine So.f ?_ | ((with_reducible apply evOps_g); rfl) | ((with_reducible apply evOpsD_g); rfl)); intro K hK; simp (contextual := true) only [go_sem, simprocAttr]) | ((with_reducible refine evOpsD_nil ?_ ?_); kernel_rfl) | ((with_reducible refine hK _ ?_); clear hK K) | (with_reducible first | refine And.intro ?_ ?_ | refine blk_other (by decide) ?_ | refine inR_mk ?_ ?_) | (refine fun (hc : (_ : Bool) = _) => ?_; try simp only [hcS] at hc))
          all_goals try exact om_
          all_goals try (exfalso; omega)
          refine V_loopK (G := {q : Nat × Zq // q.1 ≤ i ∧ Z.Perm q.2 ∧ dnP (q.2.map (·.1)) q.1 = stP L (i + 1)}) (fun q => [(12, iv q.1.1), (11, iv i), (7, .sl 0)]) [6] (fun q => [(0, ⟨1, .arr (pthsR q.1.2)⟩), (1, ⟨1, .arr (bagD (zsq Z))⟩)]) [0, 1] (fun q => q.1.1) ⟨(i, Y), Nat.le_refl i, hY, by simp only; rw [hYs]; rfl⟩ ?_ ?_
          · exact Imp.sub hX [(0,0),(1,1)] (by simp [go_sem, simprocAttr])
          rintro ⟨⟨k, U⟩, hk1, hU, hUs⟩
          simp only at hk1 hU hUs
          have hUl : U.length = L.length := by rw [← hU.length_eq]; exact hZl
          simp only [go_sem, simprocAttr]
          cases k with
          | zero =>
            repeat' (first | ((refine V_drawnX (id := 18) hmix (by rw [hn]; rfl) ?_); intro K hK) | ((with_reducible refine evOpsDX_nil ?_ ?_); kernel_rfl) | (rw [e1k]) | (rw [e0k]) | (rw [pa1]; simp only [go_sem, simprocAttr]) | (rw [pa0]; simp only [go_sem, simprocAttr]) | (refine evOpsDX_gh (b := true) rfl (by simp only [go_sem, simprocAttr]) rfl ?_; intro K hK; refine HkX.callS (f := 280) hless cal_l03Before [1] (by simp only [go_sem, simprocAttr]) (by simp [go_sem]) ⟨shows_pth (n := 1) rfl (by simp) m1, shows_pth (n := 1) rfl (by simp) m0, trivial⟩ ?_; simp only [go_sem, simprocAttr]) | (((with_reducible apply evOpsDX_g); rfl); intro K hK; simp (contextual := true) only [go_sem, simprocAttr]) | ((with_reducible refine evOpsDX_n ?_); intro K hK; simp (contextual := true) only [go_sem, simprocAttr]) | with_reducible refine St.f ?_ | ((with_reducible refine V_cond ?_); simp only [go_sem, simprocAttr]) | ((first | refine V_rg ?_ | refine V_dr ?_); intro K hK) | ((first | with_reducible refine So.f ?_ | ((with_reducible apply evOps_g); rfl) | ((with_reducible apply evOpsD_g); rfl)); intro K hK; simp (contextual := true) only [go_sem, simprocAttr]) | ((with_reducible refine evOpsD_nil ?_ ?_); kernel_rfl) | ((with_reducible refine hK _ ?_); clear hK K) | (with_reducible first | refine And.intro ?_ ?_ | refine blk_other (by decide) ?_ | refine inR_mk ?_ ?_) | (refine fun (hc : (_ : Bool) = _) => ?_; try simp only [hcS] at hc))
            all_goals try exact om_
            exact ⟨⟨(i + 1, U), by simp only; omega, by simp only; omega, hU, hUs⟩, by simp only; omega, Imp.sub hX [(0,0),(1,1)] (by simp [go_sem, simprocAttr])⟩
          | succ k =>
            obtain ⟨b, hb0⟩ : ∃ b, U.getD k (pth0, default) = b := ⟨_, rfl⟩
            obtain ⟨a, ha0⟩ : ∃ a, U.getD (k + 1) (pth0, default) = a := ⟨_, rfl⟩
            have e1k : ((k : Int) + 1).toNat = k + 1 := by omega
            have e0k : ((k : Int) + 1 - 1).toNat = k := by omega
            have ma : a ∈ U := by rw [← ha0]; exact getD_mem (by omega)
            have mb : b ∈ U := by rw [← hb0]; exact getD_mem (by omega)
            have m1 := hU.mem_iff.2 ma
            have m0 := hU.mem_iff.2 mb
            have la := hrZ a m1
            have lb := hrZ b m0
            have hless := sp_l03Before (a := a.1) (b := b.1) la lb
            have pa1 : (pthsR U).part ((k + 1) * 3) 3 = [.v (.int .i64 a.1.1), .v (.int .i64 a.1.2.1), .v a.2.x] := by rw [← ha0]; exact pthsR_part U (k + 1) (by omega)
            have pa0 : (pthsR U).part (k * 3) 3 = [.v (.int .i64 b.1.1), .v (.int .i64 b.1.2.1), .v b.2.x] := by rw [← hb0]; exact pthsR_part U k (by omega)
            have qa : (U.map (·.1)).getD (k + 1) pth0 = a.1 := by rw [← ha0]; exact map_at U (k + 1)
            have qb : (U.map (·.1)).getD k pth0 = b.1 := by rw [← hb0]; exact map_at U k
            rw [dnP, qa, qb] at hUs
            cases hg : pLess a.1 b.1 with
            | false =>
              rw [hg] at hless hUs
              rw [if_neg (by decide)] at hUs
              repeat' (first | ((refine V_drawnX (id := 18) hmix (by rw [hn]; rfl) ?_); intro K hK) | ((with_reducible refine evOpsDX_nil ?_ ?_); kernel_rfl) | (rw [e1k]) | (rw [e0k]) | (rw [pa1]; simp only [go_sem, simprocAttr]) | (rw [pa0]; simp only [go_sem, simprocAttr]) | (refine evOpsDX_gh (b := true) rfl (by simp only [go_sem, simprocAttr]) rfl ?_; intro K hK; refine HkX.callS (f := 280) hless cal_l03Before [1] (by simp only [go_sem, simprocAttr]) (by simp [go_sem]) ⟨shows_pth (n := 1) rfl (by simp) m1, shows_pth (n := 1) rfl (by simp) m0, trivial⟩ ?_; simp only [go_sem, simprocAttr]) | (((with_reducible apply evOpsDX_g); rfl); intro K hK; simp (contextual := true) only [go_sem, simprocAttr]) | ((with_reducible refine evOpsDX_n ?_); intro K hK; simp (contextual := true) only [go_sem, simprocAttr]) | with_reducible refine St.f ?_ | ((with_reducible refine V_cond ?_); simp only [go_sem, simprocAttr]) | ((first | refine V_rg ?_ | refine V_dr ?_); intro K hK) | ((first | with_reducible refine So.f ?_ | ((with_reducible apply evOps_g); rfl) | ((with_reducible apply evOpsD_g); rfl)); intro K hK; simp (contextual := true) only [go_sem, simprocAttr]) | ((with_reducible refine evOpsD_nil ?_ ?_); kernel_rfl) | ((with_reducible refine hK _ ?_); clear hK K) | (with_reducible first | refine And.intro ?_ ?_ | refine blk_other (by decide) ?_ | refine inR_mk ?_ ?_) | (refine fun (hc : (_ : Bool) = _) => ?_; try simp only [hcS] at hc))
              all_goals try exact om_
              exact ⟨⟨(i + 1, U), by simp only; omega, by simp only; omega, hU, hUs⟩, by simp only; omega, Imp.sub hX [(0,0),(1,1)] (by simp [go_sem, simprocAttr])⟩
            | true =>
              rw [hg] at hless hUs
              rw [if_pos rfl] at hUs
              have hsw : (U.set (k + 1) b).set k a = swQ U k := by unfold swQ; rw [ha0, hb0]
              have lsw : (U.set (k + 1) b).length = L.length := by rw [List.length_set]; exact hUl
              have pm := swQ_perm (Y := U) (k := k) (by omega)
              have hmp := swQ_map U k
              repeat' (first | (refine (id ?_ : V _ _ (Code.region 21 _ _) _ _); refine V_regionH 21 (by rw [hn]; rfl) ?_; intro K hK) | (refine (id ?_ : V _ _ (Code.region 22 _ _) _ _); refine V_regionH 22 (by rw [hn]; rfl) ?_; intro K hK) | (refine evOpsH_h ?_; refine hook_storePth (x := .tmp 110) (y := .tmp 109) (i := 0) (j := k + 1) (Z := U) (q := b) rfl (by kernel_rfl) (by kernel_rfl) (by simp only [go_sem, simprocAttr, e1k]) rfl (by omega) (by simp only [go_sem, simprocAttr]) ?_; simp only [go_sem, simprocAttr]) | (refine evOpsH_h ?_; refine hook_storePth (x := .tmp 115) (y := .tmp 114) (i := 0) (j := k) (Z := U.set (k + 1) b) (q := a) rfl (by kernel_rfl) (by kernel_rfl) (by simp only [go_sem, simprocAttr, e0k]) rfl (by omega) (by simp only [go_sem, simprocAttr]) ?_; simp only [go_sem, simprocAttr]) | ((with_reducible refine evOpsH_n ?_); simp only [go_sem, simprocAttr]) | (with_reducible refine evOpsH_e ?_) | ((refine V_drawnX (id := 18) hmix (by rw [hn]; rfl) ?_); intro K hK) | ((with_reducible refine evOpsDX_nil ?_ ?_); kernel_rfl) | (rw [e1k]) | (rw [e0k]) | (rw [pa1]; simp only [go_sem, simprocAttr]) | (rw [pa0]; simp only [go_sem, simprocAttr]) | (refine evOpsDX_gh (b := true) rfl (by simp only [go_sem, simprocAttr]) rfl ?_; intro K hK; refine HkX.callS (f := 280) hless cal_l03Before [1] (by simp only [go_sem, simprocAttr]) (by simp [go_sem]) ⟨shows_pth (n := 1) rfl (by simp) m1, shows_pth (n := 1) rfl (by simp) m0, trivial⟩ ?_; simp only [go_sem, simprocAttr]) | (((with_reducible apply evOpsDX_g); rfl); intro K hK; simp (contextual := true) only [go_sem, simprocAttr]) | ((with_reducible refine evOpsDX_n ?_); intro K hK; simp (contextual := true) only [go_sem, simprocAttr]) | with_reducible refine St.f ?_ | ((with_reducible refine V_cond ?_); simp only [go_sem, simprocAttr]) | ((first | refine V_rg ?_ | refine V_dr ?_); intro K hK) | ((first | with_reducible refine So.f ?_ | ((with_reducible apply evOps_g); rfl) | ((with_reducible apply evOpsD_g); rfl)); intro K hK; simp (contextual := true) only [go_sem, simprocAttr]) | ((with_reducible refine evOpsD_nil ?_ ?_); kernel_rfl) | ((with_reducible refine hK _ ?_); clear hK K) | (with_reducible first | refine And.intro ?_ ?_ | refine blk_other (by decide) ?_ | refine inR_mk ?_ ?_) | (refine fun (hc : (_ : Bool) = _) => ?_; try simp only [hcS] at hc))
              all_goals try exact om_
              exact ⟨⟨(k, swQ U k), by simp only; omega, hU.trans pm, by simp only; rw [hmp]; exact hUs⟩, by simp only; omega, Imp.sub hX [(0,0),(1,1)] (by simp only [hsw]; simp [go_sem, simprocAttr])⟩
        · obtain rfl : i = L.length := by omega
          have hYe : Y.map (·.1) = allP x fr to := by unfold allP; rw [hF]; exact hYs
          repeat' (first | (refine V_at 23 (Imp.unbagP 0 1 1 1 Z Y rfl rfl (Nat.le_refl 1) (by decide) hY) ?_; rw [hYe]; simp only [go_sem, simprocAttr]) | with_reducible refine St.f ?_ | ((with_reducible refine V_cond ?_); simp only [go_sem, simprocAttr]) | ((first | refine V_rg ?_ | refine V_dr ?_); intro K hK) | ((first | with_reducible refine So.f ?_ | ((with_reducible apply evOps_g); rfl) | ((with_reducible apply evOpsD_g); rfl)); intro K hK; simp (contextual := true) only [go_sem, simprocAttr]) | ((with_reducible refine evOpsD_nil ?_ ?_); kernel_rfl) | ((with_reducible refine hK _ ?_); clear hK K) | (with_reducible first | refine And.intro ?_ ?_ | refine blk_other (by decide) ?_ | refine inR_mk ?_ ?_) | (refine fun (hc : (_ : Bool) = _) => ?_; try simp only [hcS] at hc))
          all_goals try exact om_
          (first | refine ret_auto ?_ | refine ret_auto' ?_); simp only [go_sem, simprocAttr, Tryz.f263]
end Go.Eng
