/- Transformations, by the reference: all of them, up to a number of results. -/
import Derived.Test.YtfinbajnalaomaaGreatKbax
import Derived.Test.YtfinbajnalaomaaGreatB04q
set_option linter.unusedSimpArgs false
set_option linter.unusedVariables false
set_option maxRecDepth 100000
set_option maxHeartbeats 16000000
namespace Go.Eng
open Go Go.Proofs Go.Cats
def prsI (c : Cat) (a : Nat) : List (List Int) := (List.range a).map fun a => [c.fr.getD a 0, c.to.getD a 0]
theorem prsI_zero (c : Cat) : prsI c 0 = [] := rfl
theorem prsI_len (c : Cat) (a : Nat) : (prsI c a).length = a := by unfold prsI; rw [List.length_map, List.length_range]
theorem prsI_succ (c : Cat) (a : Nat) : prsI c (a + 1) = prsI c a ++ [[c.fr.getD a 0, c.to.getD a 0]] := by unfold prsI; rw [List.range_succ, List.map_append, List.map_singleton]
theorem prsI_ok {c : Cat} (s : Shape c) : ∀ k, k < (prsI c c.fr.length).length → ((prsI c c.fr.length).getD k []).length = 2 ∧ (0 ≤ ((prsI c c.fr.length).getD k []).getD 0 0 ∧ ((prsI c c.fr.length).getD k []).getD 0 0 < c.ob.toNat) ∧ 0 ≤ ((prsI c c.fr.length).getD k []).getD 1 0 ∧ ((prsI c c.fr.length).getD k []).getD 1 0 < c.ob.toNat := fun k hk => by
  rw [prsI_len] at hk
  have e : (prsI c c.fr.length).getD k [] = [c.fr.getD k 0, c.to.getD k 0] := by
    unfold prsI; rw [List.getD_eq_getElem?_getD, List.getElem?_map, List.getElem?_range hk]; rfl
  have := s.frw k hk
  have := s.tow k (by rw [s.tol]; exact hk)
  rw [e]
  refine ⟨rfl, ⟨?_, ?_⟩, ?_, ?_⟩ <;> simp only [List.getD_cons_zero, List.getD_cons_succ] <;> omega
def stI (L : List Int) (x : Nat) (y : Nat) : List Int := (List.range y).map fun y => if L.getD y 0 = x then -1 else -2
theorem stI_zero (L : List Int) (x : Nat) : stI L x 0 = [] := rfl
theorem stI_len (L : List Int) (x y : Nat) : (stI L x y).length = y := by unfold stI; rw [List.length_map, List.length_range]
theorem stI_yes {L : List Int} {x y : Nat} (h : L.getD y 0 = x) : stI L x (y + 1) = stI L x y ++ [-1] := by unfold stI; rw [List.range_succ, List.map_append, List.map_singleton, if_pos h]
theorem stI_no {L : List Int} {x y : Nat} (h : ¬ L.getD y 0 = x) : stI L x (y + 1) = stI L x y ++ [-2] := by unfold stI; rw [List.range_succ, List.map_append, List.map_singleton, if_neg h]
theorem stI_neg {L : List Int} {x y j : Nat} (h : j < y) : (stI L x y).getD j 0 < 0 := by
  unfold stI
  rw [List.getD_eq_getElem?_getD, List.getElem?_map, List.getElem?_range h]
  simp only [Option.map_some, Option.getD_some]
  split <;> decide
theorem repm_succ (x : Nat) : List.replicate (x + 1) (-1 : Int) = List.replicate x (-1) ++ [-1] := List.replicate_succ'
theorem repm_zero : List.replicate 0 (-1 : Int) = [] := rfl
theorem natA_of {f g : Fun} (hs : Shape f.src) : goC (nCh f g) (f.src.ob.toNat + 1) (List.replicate f.src.ob.toNat (-1)) = natA f g := by
  have hw := nCh_w (f := f) (g := g) hs
  rw [goC_ext hw]
  · unfold natA natX; rw [List.nil_append]
  · refine ⟨by rw [sN_len, List.length_replicate], fun j hj => ?_⟩
    rw [List.length_replicate] at hj
    rw [rp_getD, if_pos hj, sN_getD hj]; omega
  · have := uns_le (List.replicate f.src.ob.toNat (-1)); rw [List.length_replicate] at this; omega
  · refine ⟨fun i hi h0 => ?_, fun a ha h0 _ => ?_⟩
    · rw [List.length_replicate] at hi
      rw [rp_getD, if_pos hi] at h0; omega
    · have f1 := hs.frw a ha
      rw [rp_getD, if_pos (by omega)] at h0; omega
theorem natA_none {f g : Fun} {A : List Int} {n : Nat} (hs : Shape f.src) (hA : A.length = f.src.ob.toNat) (h0 : ∀ j, j < A.length → A.getD j 0 < 0) (hn : uns A < n) (h : goC (nCh f g) n A = []) : natA f g = [] := by
  unfold natA natX
  refine extW_nil fun Q hQ hW _ => ?_
  refine goC_some (nCh_w (f := f) (g := g) hs) hQ hW n A (by rw [sN_len]; exact hA) hn ?_ h
  obtain ⟨q1, _⟩ := mem_lexP.1 hQ
  exact contB_iff.2 ⟨by rw [q1, sN_len]; exact hA, fun i hi hh => absurd (h0 i hi) (by omega)⟩
attribute [local go_sem] prsI_zero stI_zero repm_zero List.set_cons_succ List.set_cons_zero
theorem cal_l07Find : Callable Tryz.prog 87 := ⟨_, Tryz.func87, rfl, rfl⟩
theorem sp_l07Find_n {f g : Fun} {m : Nat} (h : Par f g) (hm : m ≤ 4096) (hm0 : 0 < m) : Spec Tryz.prog 87 [funV f, funV g, bv false, iv m] [] (.sl 0) [(0, ⟨1, .arr (intss ((natA f g).take m))⟩)] := by
  have o0 := h.src.toShape.ob0
  have o8 := h.src.toShape.ob8
  have m40 := h.src.toShape.m40
  have tol := h.src.toShape.tol
  obtain ⟨n, hn0⟩ : ∃ n : Nat, f.src.ob = n := ⟨f.src.ob.toNat, by omega⟩
  have hpl := prsI_len f.src f.src.fr.length
  have hjo := sp_l01Join (n := f.src.ob.toNat) (ps := prsI f.src f.src.fr.length) (by omega) (by omega) (prsI_ok h.src.toShape)
  have hcf := clsI_facts (joK f.src.ob.toNat (prsI f.src f.src.fr.length) (prsI f.src f.src.fr.length).length) f.src.ob.toNat
  obtain ⟨L, hL⟩ : ∃ L, (clsI (joK f.src.ob.toNat (prsI f.src f.src.fr.length) (prsI f.src f.src.fr.length).length) f.src.ob.toNat).1 = L := ⟨_, rfl⟩
  rw [hL] at hjo hcf
  have hLl := hcf.1
  rw [Int.toNat_of_nonneg o0] at hjo
  refine spec_of_V (E := TE) 0 Tryz.func87 rfl (by simp [Tryz.f87]) fun X hn hX => ?_
  repeat' (first | (with_reducible first | refine V_seq ?_ | refine V_block ?_ | refine V_skip ?_ | refine V_ret ?_ | refine V_exit ?_) | ((with_reducible refine V_cond ?_); simp only [go_sem, simprocAttr]) | ((first | refine V_region (by rw [hn]; rfl) ?_ | refine V_drawn hmix (by rw [hn]; rfl) ?_); intro K hK) | ((first | with_reducible refine evOps_n ?_ | ((with_reducible apply evOps_g); rfl) | with_reducible refine evOpsD_n ?_ | ((with_reducible apply evOpsD_g); rfl)); intro K hK; simp (contextual := true) only [go_sem, simprocAttr]) | with_reducible refine evOps_nil ?_ | ((with_reducible refine evOpsD_nil ?_ ?_); kernel_rfl) | ((with_reducible refine hK _ ?_); clear hK K) | (with_reducible first | refine And.intro ?_ ?_ | refine nxt_n ?_ | refine nxt_r ?_ | refine nxt_e ?_ | refine blk_n ?_ | refine blk_r ?_ | refine blk_same ?_ | refine blk_other (by decide) ?_ | refine noG_n ?_ | refine noG_r ?_ | refine noG_e ?_ | refine inR_mk ?_ ?_) | (refine fun (hc : (_ : Bool) = _) => ?_; try simp only [hcS] at hc))
  all_goals try exact om_
  refine V_loopK (G := {a : Nat // a ≤ f.src.fr.length ∧ (True)}) (fun ⟨a, _⟩ => [(11, iv a), (10, .sl 3), (9, .ptr 2 0)]) [2, 3, 4, 5, 8] (fun ⟨a, _⟩ => [(3, ⟨1, .arr (intss (prsI f.src a))⟩)]) [3] (fun zz => f.src.fr.length - zz.1) ⟨0, Nat.zero_le _, by first | trivial | simp⟩ ?_ ?_
  · exact Imp.au hX
  rintro ⟨a, hia, hwa⟩
  simp only [go_sem, simprocAttr]
  have hal := prsI_len f.src a
  rcases Nat.lt_or_ge a f.src.fr.length with hlt | hge
  · have e1 := prsI_succ f.src a
    repeat' (first | (with_reducible first | refine V_seq ?_ | refine V_block ?_ | refine V_skip ?_ | refine V_ret ?_ | refine V_exit ?_) | ((with_reducible refine V_cond ?_); simp only [go_sem, simprocAttr]) | ((first | refine V_region (by rw [hn]; rfl) ?_ | refine V_drawn hmix (by rw [hn]; rfl) ?_); intro K hK) | ((first | with_reducible refine evOps_n ?_ | ((with_reducible apply evOps_g); rfl) | with_reducible refine evOpsD_n ?_ | ((with_reducible apply evOpsD_g); rfl)); intro K hK; simp (contextual := true) only [go_sem, simprocAttr]) | with_reducible refine evOps_nil ?_ | ((with_reducible refine evOpsD_nil ?_ ?_); kernel_rfl) | ((with_reducible refine hK _ ?_); clear hK K) | (with_reducible first | refine And.intro ?_ ?_ | refine nxt_n ?_ | refine nxt_r ?_ | refine nxt_e ?_ | refine blk_n ?_ | refine blk_r ?_ | refine blk_same ?_ | refine blk_other (by decide) ?_ | refine noG_n ?_ | refine noG_r ?_ | refine noG_e ?_ | refine inR_mk ?_ ?_) | (refine fun (hc : (_ : Bool) = _) => ?_; try simp only [hcS] at hc))
    all_goals try exact om_
    · refine ⟨⟨a + 1, by omega, (by trivial)⟩, by simp only; omega, Imp.auto hX (by simp only [go_sem, simprocAttr, e1])⟩
  · have ea : a = f.src.fr.length := by omega
    subst ea
    repeat' (first | (with_reducible first | refine V_seq ?_ | refine V_block ?_ | refine V_skip ?_ | refine V_ret ?_ | refine V_exit ?_) | ((with_reducible refine V_cond ?_); simp only [go_sem, simprocAttr]) | ((first | refine V_region (by rw [hn]; rfl) ?_ | refine V_drawn hmix (by rw [hn]; rfl) ?_); intro K hK) | ((first | with_reducible refine evOps_n ?_ | ((with_reducible apply evOps_g); rfl) | with_reducible refine evOpsD_n ?_ | ((with_reducible apply evOpsD_g); rfl)); intro K hK; simp (contextual := true) only [go_sem, simprocAttr]) | with_reducible refine evOps_nil ?_ | ((with_reducible refine evOpsD_nil ?_ ?_); kernel_rfl) | ((with_reducible refine hK _ ?_); clear hK K) | (with_reducible first | refine And.intro ?_ ?_ | refine nxt_n ?_ | refine nxt_r ?_ | refine nxt_e ?_ | refine blk_n ?_ | refine blk_r ?_ | refine blk_same ?_ | refine blk_other (by decide) ?_ | refine noG_n ?_ | refine noG_r ?_ | refine noG_e ?_ | refine inR_mk ?_ ?_) | ((with_reducible refine evCall_at 93 ?_); refine EvCall.mk (hjo) cal_l01Join [(0,4)] [3] (by simp [go_sem] <;> (repeat' (first | rfl | constructor))) (by simp [go_sem] <;> (repeat' (first | rfl | constructor))) ?_; all_goals try simp only [go_sem, simprocAttr]) | (refine fun (hc : (_ : Bool) = _) => ?_; try simp only [hcS] at hc))
    all_goals try exact om_
    refine V_loopK (G := {x : Nat // x ≤ f.src.ob.toNat ∧ (True)}) (fun ⟨x, _⟩ => [(14, iv x), (13, .sl 5), (12, .sl 4), (10, .sl 3), (9, .ptr 2 0)]) [2, 3, 4, 5] (fun ⟨x, _⟩ => [(5, ⟨1, .arr (ints (List.replicate x (-1)))⟩)]) [5] (fun zz => f.src.ob.toNat - zz.1) ⟨0, Nat.zero_le _, by first | trivial | simp⟩ ?_ ?_
    · exact Imp.au hX
    rintro ⟨x, hix, hwx⟩
    simp only [go_sem, simprocAttr]
    rcases Nat.lt_or_ge x f.src.ob.toNat with hlx | hgx
    · have e5 := repm_succ x
      repeat' (first | (with_reducible first | refine V_seq ?_ | refine V_block ?_ | refine V_skip ?_ | refine V_ret ?_ | refine V_exit ?_) | ((with_reducible refine V_cond ?_); simp only [go_sem, simprocAttr]) | ((first | refine V_region (by rw [hn]; rfl) ?_ | refine V_drawn hmix (by rw [hn]; rfl) ?_); intro K hK) | ((first | with_reducible refine evOps_n ?_ | ((with_reducible apply evOps_g); rfl) | with_reducible refine evOpsD_n ?_ | ((with_reducible apply evOpsD_g); rfl)); intro K hK; simp (contextual := true) only [go_sem, simprocAttr]) | with_reducible refine evOps_nil ?_ | ((with_reducible refine evOpsD_nil ?_ ?_); kernel_rfl) | ((with_reducible refine hK _ ?_); clear hK K) | (with_reducible first | refine And.intro ?_ ?_ | refine nxt_n ?_ | refine nxt_r ?_ | refine nxt_e ?_ | refine blk_n ?_ | refine blk_r ?_ | refine blk_same ?_ | refine blk_other (by decide) ?_ | refine noG_n ?_ | refine noG_r ?_ | refine noG_e ?_ | refine inR_mk ?_ ?_) | (refine fun (hc : (_ : Bool) = _) => ?_; try simp only [hcS] at hc))
      all_goals try exact om_
      refine V_loopK (G := {y : Nat // y ≤ f.src.ob.toNat ∧ (True)}) (fun ⟨y, _⟩ => [(16, iv y), (15, .sl 8), (14, iv x), (13, .sl 7), (12, .sl 4), (10, .sl 3), (9, .ptr 2 0), (55, .sl 6)]) [2, 3, 4, 5, 8] (fun ⟨y, _⟩ => [(6, ⟨1, .arr (ints [-1])⟩), (7, ⟨1, .arr (ints (List.replicate x (-1) ++ [-1]))⟩), (8, ⟨1, .arr (ints (stI L x y))⟩)]) [6, 7, 8] (fun zz => f.src.ob.toNat - zz.1) ⟨0, Nat.zero_le _, by first | trivial | simp⟩ ?_ ?_
      · exact Imp.au hX
      rintro ⟨y, hiy, hwy⟩
      simp only [go_sem, simprocAttr]
      have hsl := stI_len L x y
      rcases Nat.lt_or_ge y f.src.ob.toNat with hly | hgy
      · repeat' (first | (with_reducible first | refine V_seq ?_ | refine V_block ?_ | refine V_skip ?_ | refine V_ret ?_ | refine V_exit ?_) | ((with_reducible refine V_cond ?_); simp only [go_sem, simprocAttr]) | ((first | refine V_region (by rw [hn]; rfl) ?_ | refine V_drawn hmix (by rw [hn]; rfl) ?_); intro K hK) | ((first | with_reducible refine evOps_n ?_ | ((with_reducible apply evOps_g); rfl) | with_reducible refine evOpsD_n ?_ | ((with_reducible apply evOpsD_g); rfl)); intro K hK; simp (contextual := true) only [go_sem, simprocAttr]) | with_reducible refine evOps_nil ?_ | ((with_reducible refine evOpsD_nil ?_ ?_); kernel_rfl) | ((with_reducible refine hK _ ?_); clear hK K) | (with_reducible first | refine And.intro ?_ ?_ | refine nxt_n ?_ | refine nxt_r ?_ | refine nxt_e ?_ | refine blk_n ?_ | refine blk_r ?_ | refine blk_same ?_ | refine blk_other (by decide) ?_ | refine noG_n ?_ | refine noG_r ?_ | refine noG_e ?_ | refine inR_mk ?_ ?_) | (refine fun (hc : (_ : Bool) = _) => ?_; try simp only [hcS] at hc))
        all_goals try exact om_
        · have e6 := stI_yes (L := L) (x := x) (y := y) (by assumption)
          refine ⟨⟨y + 1, by omega, (by trivial)⟩, by simp only; omega, Imp.auto hX (by simp only [go_sem, simprocAttr, e6])⟩
        · have e6 := stI_no (L := L) (x := x) (y := y) (by assumption)
          refine ⟨⟨y + 1, by omega, (by trivial)⟩, by simp only; omega, Imp.auto hX (by simp only [go_sem, simprocAttr, e6])⟩
      · have ey : y = f.src.ob.toNat := by omega
        subst ey
        have hsn : ∀ j, j < (stI L x f.src.ob.toNat).length → (stI L x f.src.ob.toNat).getD j 0 < 0 := fun j hj => stI_neg (by omega)
        have hun := uns_le (stI L x f.src.ob.toNat)
        have hgo := sp_l07Go_n (m := 1) h (by decide) (f.src.ob.toNat + 1) [] (stI L x f.src.ob.toNat) hsl (fun j hj => by have := hsn j hj; omega) (by omega) (by decide)
        have hnone := natA_none (f := f) (g := g) (n := f.src.ob.toNat + 1) h.src.toShape hsl hsn (by omega)
        obtain ⟨G, hG⟩ : ∃ G, goC (nCh f g) (f.src.ob.toNat + 1) (stI L x f.src.ob.toNat) = G := ⟨_, rfl⟩
        rw [hG] at hgo hnone
        rw [List.nil_append, show ((1 : Nat) : Int) = 1 from rfl] at hgo
        have hgl : (G.take 1).length ≤ 1 := by rw [List.length_take]; omega
        have hg0 : (G.take 1).length = 0 → G = [] := fun q => by
          rw [List.length_take] at q
          exact List.length_eq_zero_iff.1 (by omega)
        generalize G.take 1 = G1 at hgo hgl hg0
        repeat' (first | (refine V_at 21 (Imp.trans (Imp.adoptBs 9 26 1 _ rfl rfl rfl (by rw [hX]; rfl)) (Imp.closeB 9 10 26 _ _ rfl rfl rfl (by decide))) ?_; simp only [go_sem, simprocAttr, List.set_cons_succ, List.set_cons_zero]) | (refine V_at 22 (Imp.openB 9 26 _ _ rfl (Nat.succ_le_succ (Nat.zero_le _)) rfl rfl) ?_; simp only [go_sem, simprocAttr]) | (with_reducible first | refine V_seq ?_ | refine V_block ?_ | refine V_skip ?_ | refine V_ret ?_ | refine V_exit ?_) | ((with_reducible refine V_cond ?_); simp only [go_sem, simprocAttr]) | ((first | refine V_region (by rw [hn]; rfl) ?_ | refine V_drawn hmix (by rw [hn]; rfl) ?_); intro K hK) | ((first | with_reducible refine evOps_n ?_ | ((with_reducible apply evOps_g); rfl) | with_reducible refine evOpsD_n ?_ | ((with_reducible apply evOpsD_g); rfl)); intro K hK; simp (contextual := true) only [go_sem, simprocAttr]) | with_reducible refine evOps_nil ?_ | ((with_reducible refine evOpsD_nil ?_ ?_); kernel_rfl) | ((with_reducible refine hK _ ?_); clear hK K) | (with_reducible first | refine And.intro ?_ ?_ | refine nxt_n ?_ | refine nxt_r ?_ | refine nxt_e ?_ | refine blk_n ?_ | refine blk_r ?_ | refine blk_same ?_ | refine blk_other (by decide) ?_ | refine noG_n ?_ | refine noG_r ?_ | refine noG_e ?_ | refine inR_mk ?_ ?_) | ((with_reducible refine evCall_at 94 ?_); refine EvCall.mk (hgo) cal_l07Go [(0,9),(1,8)] [] (by simp [go_sem] <;> (repeat' (first | rfl | constructor))) (by simp [go_sem] <;> (repeat' (first | rfl | constructor))) ?_; all_goals try simp only [go_sem, simprocAttr]) | (refine fun (hc : (_ : Bool) = _) => ?_; try simp only [hcS] at hc))
        all_goals try exact om_
        · have e7 := hnone (hg0 (by omega))
          rw [e7]
          (first | refine ret_auto ?_ | refine ret_auto' ?_); simp only [go_sem, simprocAttr, Tryz.f87]
        · refine ⟨⟨x + 1, by omega, (by (trivial))⟩, by simp only; omega, Imp.auto hX (by simp only [go_sem, simprocAttr, e5])⟩
    · have ex : x = f.src.ob.toNat := by omega
      subst ex
      have hgm := sp_l07Go_n (m := m) h hm (f.src.ob.toNat + 1) [] (List.replicate f.src.ob.toNat (-1)) (by rw [List.length_replicate]) (fun j hj => by rw [List.length_replicate] at hj; rw [rp_getD, if_pos hj]; omega) (by have := uns_le (List.replicate f.src.ob.toNat (-1)); rw [List.length_replicate] at this; omega) hm0
      rw [List.nil_append, natA_of h.src.toShape] at hgm
      repeat' (first | (refine V_at 25 (Imp.closeB 7 6 26 _ _ rfl rfl rfl (by decide)) ?_; simp only [go_sem, simprocAttr]) | (refine V_at 26 (Imp.openB 7 26 _ _ rfl (Nat.succ_le_succ (Nat.zero_le _)) rfl rfl) ?_; simp only [go_sem, simprocAttr]) | (with_reducible first | refine V_seq ?_ | refine V_block ?_ | refine V_skip ?_ | refine V_ret ?_ | refine V_exit ?_) | ((with_reducible refine V_cond ?_); simp only [go_sem, simprocAttr]) | ((first | refine V_region (by rw [hn]; rfl) ?_ | refine V_drawn hmix (by rw [hn]; rfl) ?_); intro K hK) | ((first | with_reducible refine evOps_n ?_ | ((with_reducible apply evOps_g); rfl) | with_reducible refine evOpsD_n ?_ | ((with_reducible apply evOpsD_g); rfl)); intro K hK; simp (contextual := true) only [go_sem, simprocAttr]) | with_reducible refine evOps_nil ?_ | ((with_reducible refine evOpsD_nil ?_ ?_); kernel_rfl) | ((with_reducible refine hK _ ?_); clear hK K) | (with_reducible first | refine And.intro ?_ ?_ | refine nxt_n ?_ | refine nxt_r ?_ | refine nxt_e ?_ | refine blk_n ?_ | refine blk_r ?_ | refine blk_same ?_ | refine blk_other (by decide) ?_ | refine noG_n ?_ | refine noG_r ?_ | refine noG_e ?_ | refine inR_mk ?_ ?_) | ((with_reducible refine evCall_at 94 ?_); refine EvCall.mk (hgm) cal_l07Go [(0,7),(1,5)] [] (by simp [go_sem] <;> (repeat' (first | rfl | constructor))) (by simp [go_sem] <;> (repeat' (first | rfl | constructor))) ?_; all_goals try simp only [go_sem, simprocAttr]) | (refine fun (hc : (_ : Bool) = _) => ?_; try simp only [hcS] at hc))
      all_goals try exact om_
      · (first | refine ret_auto ?_ | refine ret_auto' ?_); simp only [go_sem, simprocAttr, Tryz.f87]
end Go.Eng
