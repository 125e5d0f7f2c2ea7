/- The category of paths of a small graph, by the reference. -/
import Derived.Test.YtbflkfamigcncaaGreatZ08q
set_option linter.unusedSimpArgs false
set_option linter.unusedVariables false
set_option maxRecDepth 100000
set_option maxHeartbeats 16000000
namespace Go.Cats
theorem grs_rows2 : ((List.range 4).all fun k => (grs 2 k).all fun g => (allP 2 g.1 g.2).all fun p => decide (p.2.2.length ≤ 64)) = true := by decide +kernel
theorem grs_rows3 : ((List.range 4).all fun k => (grs 3 k).all fun g => (allP 3 g.1 g.2).all fun p => decide (p.2.2.length ≤ 64)) = true := by decide +kernel
theorem GrOk.rows {n : Nat} {fr to : List Int} (h : GrOk n fr to) : ∀ p ∈ allP n fr to, p.2.2.length ≤ 64 := fun p hp => by
  have hm := grs_mem h.n2 fr.length fr to rfl h.tol h.edge
  have hl := h.len
  rcases h.n2 with rfl | rfl
  · have := List.all_eq_true.1 (List.all_eq_true.1 (List.all_eq_true.1 grs_rows2 fr.length (List.mem_range.2 (by omega))) _ hm) p hp
    simpa using this
  · have := List.all_eq_true.1 (List.all_eq_true.1 (List.all_eq_true.1 grs_rows3 fr.length (List.mem_range.2 (by omega))) _ hm) p hp
    simpa using this
end Go.Cats
namespace Go.Eng
open Go Go.Proofs Go.Cats
attribute [local go_sem] List.set_cons_zero List.set_cons_succ
namespace Zp
theorem cal_l02Fits : Callable Tryz.prog 190 := ⟨_, Tryz.func190, rfl, rfl⟩
theorem sp_l02Fits {c : Cat} (hl : c.fr.length ≤ 1048576) : Spec Tryz.prog 190 [catV c] [] (bv (dec (c.ob ≤ 8 ∧ c.fr.length ≤ 40))) [] := by
  refine spec_of_V (E := TE) 0 Tryz.func190 rfl (by simp [Tryz.f190]) fun X hn hX => ?_
  repeat' (first | with_reducible refine St.f ?_ | ((with_reducible refine V_cond ?_); simp only [go_sem, simprocAttr]) | ((refine V_rg ?_); intro K hK) | ((first | with_reducible refine So.f ?_ | ((with_reducible apply evOps_g); rfl)); intro K hK; simp (contextual := true) only [go_sem, simprocAttr]) | ((with_reducible refine hK _ ?_); clear hK K) | (with_reducible first | refine And.intro ?_ ?_ | refine inR_mk ?_ ?_) | (refine fun (hc : (_ : Bool) = _) => ?_; try simp only [hcS] at hc))
  all_goals try exact om_
  · (first | refine ret_auto ?_ | refine ret_auto' ?_); simp only [go_sem, simprocAttr, Tryz.f190]
    exact congrArg (fun b => Sv.v (.bool b)) (by rw [dec_eq]; simp [hc]; omega)
  · (first | refine ret_auto ?_ | refine ret_auto' ?_); simp only [go_sem, simprocAttr, Tryz.f190]
    exact bv_f fun h => by omega
end Zp
open Zp (cal_l02Fits)
def ptF (A : List Pth) (k : Nat) : List Int := (A.take k).map (·.1)
def ptT (A : List Pth) (k : Nat) : List Int := (A.take k).map (·.2.1)
def ptR (A : List Pth) (i : Nat) : List (List Int) := (List.range i).map fun i => cwP A i A.length
section
variable {A : List Pth} {n k i j : Nat} {f : Int} {b : List Int}
theorem pt_take (h : k < A.length) : A.take (k + 1) = A.take k ++ [A.getD k pth0] := by
  rw [List.take_succ_eq_append_getElem h, List.getD_eq_getElem?_getD, List.getElem?_eq_getElem h]; rfl
theorem ptF_succ (h : k < A.length) : ptF A (k + 1) = ptF A k ++ [(A.getD k pth0).1] := by unfold ptF; rw [pt_take h, List.map_append]; rfl
theorem ptT_succ (h : k < A.length) : ptT A (k + 1) = ptT A k ++ [(A.getD k pth0).2.1] := by unfold ptT; rw [pt_take h, List.map_append]; rfl
theorem ptF_zero : ptF A 0 = [] := rfl
theorem ptT_zero : ptT A 0 = [] := rfl
theorem ptF_len (h : k ≤ A.length) : (ptF A k).length = k := by unfold ptF; rw [List.length_map, List.length_take]; omega
theorem ptT_len (h : k ≤ A.length) : (ptT A k).length = k := by unfold ptT; rw [List.length_map, List.length_take]; omega
theorem idP_zero : idP n A 0 = List.replicate n 0 := rfl
theorem idP_yes (h : (A.getD k pth0).2.2.length = 0) : idP n A (k + 1) = (idP n A k).set (A.getD k pth0).1.toNat (k : Int) := by rw [idP, if_pos (List.length_eq_zero_iff.1 h)]
theorem idP_no (h : ¬ (A.getD k pth0).2.2.length = 0) : idP n A (k + 1) = idP n A k := by rw [idP, if_neg fun q => h (by rw [q]; rfl)]
theorem idP_len : ∀ k, (idP n A k).length = n
  | 0 => by rw [idP_zero, List.length_replicate]
  | k + 1 => by
    have := idP_len k
    unfold idP
    split
    · rw [List.length_set]; exact this
    · exact this
theorem ptR_zero : ptR A 0 = [] := rfl
theorem ptR_succ : ptR A (i + 1) = ptR A i ++ [cwP A i A.length] := by unfold ptR; rw [List.range_succ, List.map_append]; rfl
theorem ptR_len : (ptR A i).length = i := by unfold ptR; rw [List.length_map, List.length_range]
theorem cwP_zero : cwP A i 0 = [] := rfl
theorem cwP_succ : cwP A i (j + 1) = cwP A i j ++ [coP A i j] := by unfold cwP; rw [List.range_succ, List.map_append]; rfl
theorem cwP_len : (cwP A i j).length = j := by unfold cwP; rw [List.length_map, List.length_range]
theorem lastP_zero : lastP A f b 0 = -1 := rfl
theorem lastP_yes (h : (A.getD k pth0).1 = f) (g : (A.getD k pth0).2.2 = b) : lastP A f b (k + 1) = (k : Int) := by rw [lastP, if_pos ⟨h, g⟩]
theorem lastP_no (h : ¬ ((A.getD k pth0).1 = f ∧ (A.getD k pth0).2.2 = b)) : lastP A f b (k + 1) = lastP A f b k := by rw [lastP, if_neg h]
end
theorem cal_l03Paths : Callable Tryz.prog 235 := ⟨_, Tryz.func235, rfl, rfl⟩
theorem sp_l03Paths {n : Nat} {fr to : List Int} (hg : GrOk n fr to) : Spec Tryz.prog 235 [iv n, .bor [] (ints fr), .bor [] (ints to)] [] (.agg [iv (ptC n (allP n fr to)).ob, .sl 0, .sl 1, .sl 2, .sl 3]) [(0, ⟨1, .arr (ints (ptC n (allP n fr to)).fr)⟩), (1, ⟨1, .arr (ints (ptC n (allP n fr to)).to)⟩), (2, ⟨1, .arr (ints (ptC n (allP n fr to)).id)⟩), (3, ⟨1, .arr (intss (ptC n (allP n fr to)).co)⟩)] := by
  have g2 := hg.n2
  have glen := hg.len
  have gtol := hg.tol
  have hall := sp_l03All hg
  have hcat := hg.cat
  have hrow := hg.rows
  obtain ⟨A, hA⟩ : ∃ A, allP n fr to = A := ⟨_, rfl⟩
  rw [hA] at hall hcat hrow ⊢
  have sh := hcat.toShape
  have lA : A.length ≤ 40 := by have := sh.m40; simpa [ptC] using this
  have hw : ∀ i, i < A.length → 0 ≤ (A.getD i pth0).1 ∧ (A.getD i pth0).1 < n := fun i hi => by
    have := sh.frw i (by simpa [ptC] using hi)
    have e : (ptC n A).fr.getD i 0 = (A.getD i pth0).1 := by
      show (A.map (·.1)).getD i 0 = _
      simp only [List.getD_eq_getElem?_getD, List.getElem?_map, List.getElem?_eq_getElem hi, Option.map_some, Option.getD_some]
    rw [e] at this
    exact this
  have hr : ∀ i, i < A.length → (A.getD i pth0).2.2.length ≤ 64 := fun i hi => hrow _ (getD_mem hi)
  have at0 : ∀ i, i < A.length → (pthsD A).at (i * 3 + 0) = .v (.int .i64 (A.getD i pth0).1) := fun i hi => pths_at A i 0 hi (by decide)
  have at1 : ∀ i, i < A.length → (pthsD A).at (i * 3 + 1) = .v (.int .i64 (A.getD i pth0).2.1) := fun i hi => pths_at A i 1 hi (by decide)
  have at2 : ∀ i, i < A.length → (pthsD A).at (i * 3 + 2) = ints (A.getD i pth0).2.2 := fun i hi => pths_at A i 2 hi (by decide)
  refine spec_of_V (E := TE) 0 Tryz.func235 rfl (by simp [Tryz.f235]) fun X hn hX => ?_
  repeat' (first | with_reducible refine St.f ?_ | ((with_reducible refine V_cond ?_); simp only [go_sem, simprocAttr]) | ((first | refine V_rg ?_ | refine V_dr ?_); intro K hK) | ((first | with_reducible refine So.f ?_ | ((with_reducible apply evOps_g); rfl) | ((with_reducible apply evOpsD_g); rfl)); intro K hK; simp (contextual := true) only [go_sem, simprocAttr]) | ((with_reducible refine evOpsD_nil ?_ ?_); kernel_rfl) | ((with_reducible refine hK _ ?_); clear hK K) | (with_reducible first | refine And.intro ?_ ?_ | refine blk_other (by decide) ?_ | refine inR_mk ?_ ?_) | ((with_reducible refine evCall_at 263 ?_); refine EvCall.mq (hall) cal_l03All [(0,1)] [] ?_; all_goals try simp only [go_sem, simprocAttr]) | (refine fun (hc : (_ : Bool) = _) => ?_; try simp only [hcS] at hc))
  all_goals try exact om_
  all_goals try (exfalso; omega)
  refine V_loopK (G := {k : Nat // k ≤ A.length ∧ (True)}) (fun ⟨k, _⟩ => [(9, iv k), (6, .ptr 0 0), (8, .ptr 6 0), (7, .sl 1)]) [] (fun ⟨k, _⟩ => [(6, ⟨1, .box [iv n, .sl 2, .sl 3, .sl 4, .sl 5]⟩), (1, ⟨1, .arr (pthsD A)⟩), (2, ⟨1, .arr (ints (ptF A k))⟩), (3, ⟨1, .arr (ints (ptT A k))⟩), (4, ⟨1, .arr (ints (idP n A k))⟩), (5, ⟨1, .arr (intss ([]))⟩)]) [1, 2, 3, 4, 5, 6] (fun zz => A.length - zz.1) ⟨0, Nat.zero_le _, by trivial⟩ ?_ ?_
  · exact Imp.auto hX (by simp [go_sem, simprocAttr, ptF_zero, ptT_zero, idP_zero])
  rintro ⟨k, hik, hwk⟩
  simp only [go_sem, simprocAttr]
  have lF := ptF_len (A := A) hik
  have lT := ptT_len (A := A) hik
  have lI := idP_len (A := A) (n := n) k
  rcases Nat.lt_or_ge k A.length with hk1 | hk1
  · have e1 := ptF_succ hk1
    have e2 := ptT_succ hk1
    have w0 := hw k hk1
    have r0 := hr k hk1
    have pa0 := at0 k hk1
    have pa1 := at1 k hk1
    have pa2 := at2 k hk1
    by_cases hz : (A.getD k pth0).2.2.length = 0
    · have e3 := idP_yes (n := n) hz
      repeat' (first | (rw [pa0]; simp only [go_sem, simprocAttr]) | (rw [pa1]; simp only [go_sem, simprocAttr]) | (rw [pa2]; simp only [go_sem, simprocAttr]) | with_reducible refine St.f ?_ | ((with_reducible refine V_cond ?_); simp only [go_sem, simprocAttr]) | ((first | refine V_rg ?_ | refine V_dr ?_); intro K hK) | ((first | with_reducible refine So.f ?_ | ((with_reducible apply evOps_g); rfl) | ((with_reducible apply evOpsD_g); rfl)); intro K hK; simp (contextual := true) only [go_sem, simprocAttr]) | ((with_reducible refine evOpsD_nil ?_ ?_); kernel_rfl) | ((with_reducible refine hK _ ?_); clear hK K) | (with_reducible first | refine And.intro ?_ ?_ | refine blk_other (by decide) ?_ | refine inR_mk ?_ ?_) | (refine fun (hc : (_ : Bool) = _) => ?_; try simp only [hcS] at hc))
      all_goals try exact om_
      all_goals try (exfalso; omega)
      refine ⟨⟨k + 1, by omega, (by (trivial))⟩, by simp only; omega, Imp.auto hX (by simp only [go_sem, simprocAttr, e1, e2, e3])⟩
    · have e3 := idP_no (n := n) hz
      repeat' (first | (rw [pa0]; simp only [go_sem, simprocAttr]) | (rw [pa1]; simp only [go_sem, simprocAttr]) | (rw [pa2]; simp only [go_sem, simprocAttr]) | with_reducible refine St.f ?_ | ((with_reducible refine V_cond ?_); simp only [go_sem, simprocAttr]) | ((first | refine V_rg ?_ | refine V_dr ?_); intro K hK) | ((first | with_reducible refine So.f ?_ | ((with_reducible apply evOps_g); rfl) | ((with_reducible apply evOpsD_g); rfl)); intro K hK; simp (contextual := true) only [go_sem, simprocAttr]) | ((with_reducible refine evOpsD_nil ?_ ?_); kernel_rfl) | ((with_reducible refine hK _ ?_); clear hK K) | (with_reducible first | refine And.intro ?_ ?_ | refine blk_other (by decide) ?_ | refine inR_mk ?_ ?_) | (refine fun (hc : (_ : Bool) = _) => ?_; try simp only [hcS] at hc))
      all_goals try exact om_
      all_goals try (exfalso; omega)
      refine ⟨⟨k + 1, by omega, (by (trivial))⟩, by simp only; omega, Imp.auto hX (by simp only [go_sem, simprocAttr, e1, e2, e3])⟩
  · obtain rfl : k = A.length := by omega
    have hf := Zp.sp_l02Fits (c := ⟨(n : Int), ptF A A.length, ptT A A.length, idP n A A.length, []⟩) (by show (ptF A A.length).length ≤ _; omega)
    rw [dec_t (show (n : Int) ≤ 8 ∧ (ptF A A.length).length ≤ 40 by omega)] at hf
    repeat' (first | with_reducible refine St.f ?_ | ((with_reducible refine V_cond ?_); simp only [go_sem, simprocAttr]) | ((first | refine V_rg ?_ | refine V_dr ?_); intro K hK) | ((first | with_reducible refine So.f ?_ | ((with_reducible apply evOps_g); rfl) | ((with_reducible apply evOpsD_g); rfl)); intro K hK; simp (contextual := true) only [go_sem, simprocAttr]) | ((with_reducible refine evOpsD_nil ?_ ?_); kernel_rfl) | ((with_reducible refine hK _ ?_); clear hK K) | (with_reducible first | refine And.intro ?_ ?_ | refine blk_other (by decide) ?_ | refine inR_mk ?_ ?_) | ((with_reducible refine evCall_at 190 ?_); refine EvCall.mq (hf) cal_l02Fits [] [2,3,4,5] ?_; all_goals try simp only [go_sem, simprocAttr]) | (refine fun (hc : (_ : Bool) = _) => ?_; try simp only [hcS] at hc))
    all_goals try exact om_
    all_goals try (exfalso; omega)
    refine V_loopK (G := {i : Nat // i ≤ A.length ∧ (True)}) (fun ⟨i, _⟩ => [(10, iv i), (6, .ptr 0 0), (8, .ptr 6 0), (7, .sl 1)]) [] (fun ⟨i, _⟩ => [(6, ⟨1, .box [iv n, .sl 2, .sl 3, .sl 4, .sl 5]⟩), (1, ⟨1, .arr (pthsD A)⟩), (2, ⟨1, .arr (ints (ptF A A.length))⟩), (3, ⟨1, .arr (ints (ptT A A.length))⟩), (4, ⟨1, .arr (ints (idP n A A.length))⟩), (5, ⟨1, .arr (intss (ptR A i))⟩)]) [1, 2, 3, 4, 5, 6] (fun zz => A.length - zz.1) ⟨0, Nat.zero_le _, by trivial⟩ ?_ ?_
    · exact Imp.auto hX (by simp [go_sem, simprocAttr, ptR_zero])
    rintro ⟨i, hii, hwi⟩
    simp only [go_sem, simprocAttr]
    have lR := ptR_len (A := A) (i := i)
    rcases Nat.lt_or_ge i A.length with hi1 | hi1
    · have pi0 := at0 i hi1
      have pi1 := at1 i hi1
      have pi2 := at2 i hi1
      have ri := hr i hi1
      have eR := ptR_succ (A := A) (i := i)
      repeat' (first | with_reducible refine St.f ?_ | ((with_reducible refine V_cond ?_); simp only [go_sem, simprocAttr]) | ((first | refine V_rg ?_ | refine V_dr ?_); intro K hK) | ((first | with_reducible refine So.f ?_ | ((with_reducible apply evOps_g); rfl) | ((with_reducible apply evOpsD_g); rfl)); intro K hK; simp (contextual := true) only [go_sem, simprocAttr]) | ((with_reducible refine evOpsD_nil ?_ ?_); kernel_rfl) | ((with_reducible refine hK _ ?_); clear hK K) | (with_reducible first | refine And.intro ?_ ?_ | refine blk_other (by decide) ?_ | refine inR_mk ?_ ?_) | (refine fun (hc : (_ : Bool) = _) => ?_; try simp only [hcS] at hc))
      all_goals try exact om_
      all_goals try (exfalso; omega)
      refine V_loopK (G := {j : Nat // j ≤ A.length ∧ (True)}) (fun ⟨j, _⟩ => [(12, iv j), (10, iv i), (6, .ptr 0 0), (8, .ptr 6 0), (7, .sl 1), (11, .sl 7)]) [] (fun ⟨j, _⟩ => [(6, ⟨1, .box [iv n, .sl 2, .sl 3, .sl 4, .sl 5]⟩), (1, ⟨1, .arr (pthsD A)⟩), (2, ⟨1, .arr (ints (ptF A A.length))⟩), (3, ⟨1, .arr (ints (ptT A A.length))⟩), (4, ⟨1, .arr (ints (idP n A A.length))⟩), (5, ⟨1, .arr (intss (ptR A i))⟩), (7, ⟨1, .arr (ints (cwP A i j))⟩)]) [1, 2, 3, 4, 5, 6, 7] (fun zz => A.length - zz.1) ⟨0, Nat.zero_le _, by trivial⟩ ?_ ?_
      · exact Imp.auto hX (by simp [go_sem, simprocAttr, cwP_zero])
      rintro ⟨j, hij, hwj⟩
      simp only [go_sem, simprocAttr]
      have lW := cwP_len (A := A) (i := i) (j := j)
      rcases Nat.lt_or_ge j A.length with hj1 | hj1
      · have pj0 := at0 j hj1
        have pj2 := at2 j hj1
        have rj := hr j hj1
        have eW := cwP_succ (A := A) (i := i) (j := j)
        have hown := sp_l01Own (l := (A.getD i pth0).2.2) (by omega)
        by_cases hm : (A.getD i pth0).2.1 = (A.getD j pth0).1
        · rw [coP, if_pos hm] at eW
          repeat' (first | (rw [pi0]; simp only [go_sem, simprocAttr]) | (rw [pi1]; simp only [go_sem, simprocAttr]) | (rw [pi2]; simp only [go_sem, simprocAttr]) | (rw [pj0]; simp only [go_sem, simprocAttr]) | (rw [pj2]; simp only [go_sem, simprocAttr]) | with_reducible refine St.f ?_ | ((with_reducible refine V_cond ?_); simp only [go_sem, simprocAttr]) | ((first | refine V_rg ?_ | refine V_dr ?_); intro K hK) | ((first | with_reducible refine So.f ?_ | ((with_reducible apply evOps_g); rfl) | ((with_reducible apply evOpsD_g); rfl)); intro K hK; simp (contextual := true) only [go_sem, simprocAttr]) | ((with_reducible refine evOpsD_nil ?_ ?_); kernel_rfl) | ((with_reducible refine hK _ ?_); clear hK K) | (with_reducible first | refine And.intro ?_ ?_ | refine blk_other (by decide) ?_ | refine inR_mk ?_ ?_) | ((with_reducible refine evCall_at 170 ?_); refine EvCall.mq (hown) cal_l01Own [(0,8)] [1] ?_; all_goals try simp only [go_sem, simprocAttr]) | (refine fun (hc : (_ : Bool) = _) => ?_; try simp only [hcS] at hc))
          all_goals try exact om_
          all_goals try (exfalso; omega)
          refine V_loopK (G := {k : Nat // k ≤ A.length ∧ (True)}) (fun ⟨k, _⟩ => [(15, iv k), (12, iv j), (10, iv i), (6, .ptr 0 0), (8, .ptr 6 0), (7, .sl 1), (11, .sl 7), (14, .sl 9), (13, iv (lastP A (A.getD i pth0).1 ((A.getD i pth0).2.2 ++ (A.getD j pth0).2.2) k))]) [] (fun ⟨k, _⟩ => [(6, ⟨1, .box [iv n, .sl 2, .sl 3, .sl 4, .sl 5]⟩), (1, ⟨1, .arr (pthsD A)⟩), (2, ⟨1, .arr (ints (ptF A A.length))⟩), (3, ⟨1, .arr (ints (ptT A A.length))⟩), (4, ⟨1, .arr (ints (idP n A A.length))⟩), (5, ⟨1, .arr (intss (ptR A i))⟩), (7, ⟨1, .arr (ints (cwP A i j))⟩), (9, ⟨1, .arr (ints ((A.getD i pth0).2.2 ++ (A.getD j pth0).2.2))⟩)]) [1, 2, 3, 4, 5, 6, 7, 9] (fun zz => A.length - zz.1) ⟨0, Nat.zero_le _, by trivial⟩ ?_ ?_
          · exact Imp.auto hX (by simp [go_sem, simprocAttr, lastP_zero])
          rintro ⟨k, hik, hwk⟩
          simp only [go_sem, simprocAttr]
          rcases Nat.lt_or_ge k A.length with hk1 | hk1
          · have pk0 := at0 k hk1
            have pk2 := at2 k hk1
            have rk := hr k hk1
            have hs := sp_l01Same (a := (A.getD k pth0).2.2) (b := (A.getD i pth0).2.2 ++ (A.getD j pth0).2.2) (by omega) (by rw [List.length_append]; omega)
            by_cases h1 : (A.getD k pth0).1 = (A.getD i pth0).1
            · by_cases h2 : (A.getD k pth0).2.2 = (A.getD i pth0).2.2 ++ (A.getD j pth0).2.2
              · have e5 := lastP_yes h1 h2
                rw [dec_t h2] at hs
                repeat' (first | (rw [pk0]; simp only [go_sem, simprocAttr]) | (rw [pk2]; simp only [go_sem, simprocAttr]) | (rw [pi0]; simp only [go_sem, simprocAttr]) | (rw [pi1]; simp only [go_sem, simprocAttr]) | (rw [pi2]; simp only [go_sem, simprocAttr]) | (rw [pj0]; simp only [go_sem, simprocAttr]) | (rw [pj2]; simp only [go_sem, simprocAttr]) | with_reducible refine St.f ?_ | ((with_reducible refine V_cond ?_); simp only [go_sem, simprocAttr]) | ((first | refine V_rg ?_ | refine V_dr ?_); intro K hK) | ((first | with_reducible refine So.f ?_ | ((with_reducible apply evOps_g); rfl) | ((with_reducible apply evOpsD_g); rfl)); intro K hK; simp (contextual := true) only [go_sem, simprocAttr]) | ((with_reducible refine evOpsD_nil ?_ ?_); kernel_rfl) | ((with_reducible refine hK _ ?_); clear hK K) | (with_reducible first | refine And.intro ?_ ?_ | refine blk_other (by decide) ?_ | refine inR_mk ?_ ?_) | ((with_reducible refine evCall_at 167 ?_); refine EvCall.mq (hs) cal_l01Same [] [1,9] ?_; all_goals try simp only [go_sem, simprocAttr]) | (refine fun (hc : (_ : Bool) = _) => ?_; try simp only [hcS] at hc))
                all_goals try exact om_
                all_goals try (exfalso; omega)
                refine ⟨⟨k + 1, by omega, (by (trivial))⟩, by simp only; omega, Imp.auto hX (by simp only [go_sem, simprocAttr, e5])⟩
              · have e5 := lastP_no (f := (A.getD i pth0).1) (b := (A.getD i pth0).2.2 ++ (A.getD j pth0).2.2) fun q => h2 q.2
                rw [dec_f h2] at hs
                repeat' (first | (rw [pk0]; simp only [go_sem, simprocAttr]) | (rw [pk2]; simp only [go_sem, simprocAttr]) | (rw [pi0]; simp only [go_sem, simprocAttr]) | (rw [pi1]; simp only [go_sem, simprocAttr]) | (rw [pi2]; simp only [go_sem, simprocAttr]) | (rw [pj0]; simp only [go_sem, simprocAttr]) | (rw [pj2]; simp only [go_sem, simprocAttr]) | with_reducible refine St.f ?_ | ((with_reducible refine V_cond ?_); simp only [go_sem, simprocAttr]) | ((first | refine V_rg ?_ | refine V_dr ?_); intro K hK) | ((first | with_reducible refine So.f ?_ | ((with_reducible apply evOps_g); rfl) | ((with_reducible apply evOpsD_g); rfl)); intro K hK; simp (contextual := true) only [go_sem, simprocAttr]) | ((with_reducible refine evOpsD_nil ?_ ?_); kernel_rfl) | ((with_reducible refine hK _ ?_); clear hK K) | (with_reducible first | refine And.intro ?_ ?_ | refine blk_other (by decide) ?_ | refine inR_mk ?_ ?_) | ((with_reducible refine evCall_at 167 ?_); refine EvCall.mq (hs) cal_l01Same [] [1,9] ?_; all_goals try simp only [go_sem, simprocAttr]) | (refine fun (hc : (_ : Bool) = _) => ?_; try simp only [hcS] at hc))
                all_goals try exact om_
                all_goals try (exfalso; omega)
                refine ⟨⟨k + 1, by omega, (by (trivial))⟩, by simp only; omega, Imp.auto hX (by simp only [go_sem, simprocAttr, e5])⟩
            · have e5 := lastP_no (f := (A.getD i pth0).1) (b := (A.getD i pth0).2.2 ++ (A.getD j pth0).2.2) fun q => h1 q.1
              repeat' (first | (rw [pk0]; simp only [go_sem, simprocAttr]) | (rw [pk2]; simp only [go_sem, simprocAttr]) | (rw [pi0]; simp only [go_sem, simprocAttr]) | (rw [pi1]; simp only [go_sem, simprocAttr]) | (rw [pi2]; simp only [go_sem, simprocAttr]) | (rw [pj0]; simp only [go_sem, simprocAttr]) | (rw [pj2]; simp only [go_sem, simprocAttr]) | with_reducible refine St.f ?_ | ((with_reducible refine V_cond ?_); simp only [go_sem, simprocAttr]) | ((first | refine V_rg ?_ | refine V_dr ?_); intro K hK) | ((first | with_reducible refine So.f ?_ | ((with_reducible apply evOps_g); rfl) | ((with_reducible apply evOpsD_g); rfl)); intro K hK; simp (contextual := true) only [go_sem, simprocAttr]) | ((with_reducible refine evOpsD_nil ?_ ?_); kernel_rfl) | ((with_reducible refine hK _ ?_); clear hK K) | (with_reducible first | refine And.intro ?_ ?_ | refine blk_other (by decide) ?_ | refine inR_mk ?_ ?_) | ((with_reducible refine evCall_at 167 ?_); refine EvCall.mq (hs) cal_l01Same [] [1,9] ?_; all_goals try simp only [go_sem, simprocAttr]) | (refine fun (hc : (_ : Bool) = _) => ?_; try simp only [hcS] at hc))
              all_goals try exact om_
              all_goals try (exfalso; omega)
              refine ⟨⟨k + 1, by omega, (by (trivial))⟩, by simp only; omega, Imp.auto hX (by simp only [go_sem, simprocAttr, e5])⟩
          · obtain rfl : k = A.length := by omega
            repeat' (first | with_reducible refine St.f ?_ | ((with_reducible refine V_cond ?_); simp only [go_sem, simprocAttr]) | ((first | refine V_rg ?_ | refine V_dr ?_); intro K hK) | ((first | with_reducible refine So.f ?_ | ((with_reducible apply evOps_g); rfl) | ((with_reducible apply evOpsD_g); rfl)); intro K hK; simp (contextual := true) only [go_sem, simprocAttr]) | ((with_reducible refine evOpsD_nil ?_ ?_); kernel_rfl) | ((with_reducible refine hK _ ?_); clear hK K) | (with_reducible first | refine And.intro ?_ ?_ | refine blk_other (by decide) ?_ | refine inR_mk ?_ ?_) | (refine fun (hc : (_ : Bool) = _) => ?_; try simp only [hcS] at hc))
            all_goals try exact om_
            all_goals try (exfalso; omega)
            refine ⟨⟨j + 1, by omega, (by (trivial))⟩, by simp only; omega, Imp.auto hX (by simp only [go_sem, simprocAttr, eW])⟩
        · rw [coP, if_neg hm] at eW
          repeat' (first | (rw [pi0]; simp only [go_sem, simprocAttr]) | (rw [pi1]; simp only [go_sem, simprocAttr]) | (rw [pi2]; simp only [go_sem, simprocAttr]) | (rw [pj0]; simp only [go_sem, simprocAttr]) | (rw [pj2]; simp only [go_sem, simprocAttr]) | with_reducible refine St.f ?_ | ((with_reducible refine V_cond ?_); simp only [go_sem, simprocAttr]) | ((first | refine V_rg ?_ | refine V_dr ?_); intro K hK) | ((first | with_reducible refine So.f ?_ | ((with_reducible apply evOps_g); rfl) | ((with_reducible apply evOpsD_g); rfl)); intro K hK; simp (contextual := true) only [go_sem, simprocAttr]) | ((with_reducible refine evOpsD_nil ?_ ?_); kernel_rfl) | ((with_reducible refine hK _ ?_); clear hK K) | (with_reducible first | refine And.intro ?_ ?_ | refine blk_other (by decide) ?_ | refine inR_mk ?_ ?_) | (refine fun (hc : (_ : Bool) = _) => ?_; try simp only [hcS] at hc))
          all_goals try exact om_
          all_goals try (exfalso; omega)
          refine ⟨⟨j + 1, by omega, (by (trivial))⟩, by simp only; omega, Imp.auto hX (by simp only [go_sem, simprocAttr, eW])⟩
      · obtain rfl : j = A.length := by omega
        repeat' (first | with_reducible refine St.f ?_ | ((with_reducible refine V_cond ?_); simp only [go_sem, simprocAttr]) | ((first | refine V_rg ?_ | refine V_dr ?_); intro K hK) | ((first | with_reducible refine So.f ?_ | ((with_reducible apply evOps_g); rfl) | ((with_reducible apply evOpsD_g); rfl)); intro K hK; simp (contextual := true) only [go_sem, simprocAttr]) | ((with_reducible refine evOpsD_nil ?_ ?_); kernel_rfl) | ((with_reducible refine hK _ ?_); clear hK K) | (with_reducible first | refine And.intro ?_ ?_ | refine blk_other (by decide) ?_ | refine inR_mk ?_ ?_) | (refine fun (hc : (_ : Bool) = _) => ?_; try simp only [hcS] at hc))
        all_goals try exact om_
        all_goals try (exfalso; omega)
        refine ⟨⟨i + 1, by omega, (by (trivial))⟩, by simp only; omega, Imp.auto hX (by simp only [go_sem, simprocAttr, eR])⟩
    · obtain rfl : i = A.length := by omega
      repeat' (first | with_reducible refine St.f ?_ | ((with_reducible refine V_cond ?_); simp only [go_sem, simprocAttr]) | ((first | refine V_rg ?_ | refine V_dr ?_); intro K hK) | ((first | with_reducible refine So.f ?_ | ((with_reducible apply evOps_g); rfl) | ((with_reducible apply evOpsD_g); rfl)); intro K hK; simp (contextual := true) only [go_sem, simprocAttr]) | ((with_reducible refine evOpsD_nil ?_ ?_); kernel_rfl) | ((with_reducible refine hK _ ?_); clear hK K) | (with_reducible first | refine And.intro ?_ ?_ | refine blk_other (by decide) ?_ | refine inR_mk ?_ ?_) | (refine fun (hc : (_ : Bool) = _) => ?_; try simp only [hcS] at hc))
      all_goals try exact om_
      all_goals try (exfalso; omega)
      (first | refine ret_auto ?_ | refine ret_auto' ?_); simp only [go_sem, simprocAttr, Tryz.f235]
      simp only [show (ptC n A).ob = n from rfl, show (ptC n A).fr = ptF A A.length by unfold ptF; rw [List.take_length]; rfl, show (ptC n A).to = ptT A A.length by unfold ptT; rw [List.take_length]; rfl, show (ptC n A).id = idP n A A.length from rfl, show (ptC n A).co = ptR A A.length from rfl, and_self]
end Go.Eng
