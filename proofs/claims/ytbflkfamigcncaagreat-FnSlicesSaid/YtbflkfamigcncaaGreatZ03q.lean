/- Relations as categories, by the reference. -/
import Derived.Test.YtbflkfamigcncaaGreatZ02q
set_option linter.unusedSimpArgs false
set_option linter.unusedVariables false
set_option maxRecDepth 100000
set_option maxHeartbeats 16000000
namespace Go.Eng
open Go Go.Proofs Go.Cats
def poG (L : List (List Int)) (k : Nat) : List Int := L.map fun r => r.getD k 0
def poNr (R : List (List Int)) (n i j : Nat) : List Int := (List.range j).map fun k => poN R n i k
def poNs (R : List (List Int)) (n i : Nat) : List (List Int) := (List.range i).map fun i => poNr R n i n
def poI (R : List (List Int)) (n i : Nat) : List Int := (List.range i).map fun i => poN R n i i
def poW (R : List (List Int)) (n f : Nat) : List (List Int) := (List.range f).map fun a => tabR (poA R n n) poP a (poA R n n).length
section
variable {R : List (List Int)} {n i j k f g : Nat}
theorem poG_len {L : List (List Int)} : (poG L k).length = L.length := List.length_map _
theorem poG_at {L : List (List Int)} (h : i < L.length) : (poG L k).getD i 0 = (L.getD i []).getD k 0 := rowsMap_at (f := fun r => r.getD k 0) h
theorem poG_row0 (h : mE R i j = 1) : poG (poA R n i ++ poRow R i (j + 1)) 0 = poG (poA R n i ++ poRow R i j) 0 ++ [(i : Int)] := by rw [poRow_yes h, ← List.append_assoc]; unfold poG; rw [List.map_append]; rfl
theorem poG_row1 (h : mE R i j = 1) : poG (poA R n i ++ poRow R i (j + 1)) 1 = poG (poA R n i ++ poRow R i j) 1 ++ [(j : Int)] := by rw [poRow_yes h, ← List.append_assoc]; unfold poG; rw [List.map_append]; rfl
theorem poNr_len : (poNr R n i j).length = j := by unfold poNr; rw [List.length_map, List.length_range]
theorem poNs_len : (poNs R n i).length = i := by unfold poNs; rw [List.length_map, List.length_range]
theorem poI_len : (poI R n i).length = i := by unfold poI; rw [List.length_map, List.length_range]
theorem poW_len : (poW R n f).length = f := by unfold poW; rw [List.length_map, List.length_range]
theorem poNr_succ : poNr R n i (j + 1) = poNr R n i j ++ [poN R n i j] := by unfold poNr; rw [List.range_succ, List.map_append]; rfl
theorem poNs_succ : poNs R n (i + 1) = poNs R n i ++ [poNr R n i n] := by unfold poNs; rw [List.range_succ, List.map_append]; rfl
theorem poI_succ : poI R n (i + 1) = poI R n i ++ [poN R n i i] := by unfold poI; rw [List.range_succ, List.map_append]; rfl
theorem poW_succ : poW R n (f + 1) = poW R n f ++ [tabR (poA R n n) poP f (poA R n n).length] := by unfold poW; rw [List.range_succ, List.map_append]; rfl
theorem poNr_at (h : k < j) : (poNr R n i j).getD k 0 = poN R n i k := by unfold poNr; rw [List.getD_eq_getElem?_getD, List.getElem?_map, List.getElem?_range h]; rfl
theorem poNs_at (h : k < i) : (poNs R n i).getD k [] = poNr R n k n := by unfold poNs; rw [List.getD_eq_getElem?_getD, List.getElem?_map, List.getElem?_range h]; rfl
theorem tabR_succ {A : List (List Int)} {cp : List Int → List Int → List Int} : tabR A cp f (g + 1) = tabR A cp f g ++ [if (A.getD f []).getD 1 0 = (A.getD g []).getD 0 0 then fnd A (cp (A.getD f []) (A.getD g [])) else -1] := by unfold tabR; rw [List.range_succ, List.map_append]; rfl
theorem tabR_len {A : List (List Int)} {cp : List Int → List Int → List Int} : (tabR A cp f g).length = g := by unfold tabR; rw [List.length_map, List.length_range]
theorem poC_fr : (poC R n).fr = poG (poA R n n) 0 := rfl
theorem poC_to : (poC R n).to = poG (poA R n n) 1 := rfl
theorem poC_co : (poC R n).co = poW R n (poA R n n).length := rfl
theorem poC_id (h : PoOK R n) : (poC R n).id = poI R n n := by
  show (List.range n).map _ = (List.range n).map _
  refine List.map_congr_left fun i hi => ?_
  have hi := List.mem_range.1 hi
  exact poN_fnd hi hi (h.rf i hi)
theorem po_at (hf : f < (poA R n n).length) : ∃ i j : Nat, i < n ∧ j < n ∧ mE R i j = 1 ∧ (poA R n n).getD f [] = [(i : Int), (j : Int)] := (mem_poA n).1 (getD_mem hf)
theorem poG_zero {k : Nat} : poG (poA R n 0) k = [] := rfl
theorem poNs_zero : poNs R n 0 = [] := rfl
theorem poNr_zero : poNr R n i 0 = [] := rfl
theorem poI_zero : poI R n 0 = [] := rfl
theorem poW_zero : poW R n 0 = [] := rfl
theorem poRow_zero : poRow R i 0 = [] := rfl
theorem tabR_zero {A : List (List Int)} {cp : List Int → List Int → List Int} : tabR A cp f 0 = [] := rfl
end
attribute [local go_sem] poG_zero poNs_zero poNr_zero poI_zero poW_zero poRow_zero List.append_nil tabR_zero List.set_cons_zero List.set_cons_succ
theorem cal_l03Poset : Callable Tryz.prog 153 := ⟨_, Tryz.func153, rfl, rfl⟩
theorem sp_l03Poset {R : List (List Int)} {n : Nat} (h : PoOK R n) (hl : R.length = n) (hr : ∀ i, i < n → (R.getD i []).length = n) : Spec Tryz.prog 153 [.bor [] (intss R)] [] (.agg [iv (poC R n).ob, .sl 0, .sl 1, .sl 2, .sl 3]) [(0, ⟨1, .arr (ints (poC R n).fr)⟩), (1, ⟨1, .arr (ints (poC R n).to)⟩), (2, ⟨1, .arr (ints (poC R n).id)⟩), (3, ⟨1, .arr (intss (poC R n).co)⟩)] := by
  subst hl
  have n6 := h.n6
  have a36 := h.len
  rw [poC_fr, poC_to, poC_co, poC_id h, show (poC R R.length).ob = (R.length : Int) from rfl]
  refine spec_of_V (E := TE) 0 Tryz.func153 rfl (by simp [Tryz.f153]) fun X hn hX => ?_
  repeat' (first | with_reducible refine St.f ?_ | ((with_reducible refine V_cond ?_); simp only [go_sem, simprocAttr]) | ((first | refine V_rg ?_ | refine V_dr ?_); intro K hK) | ((first | with_reducible refine So.f ?_ | ((with_reducible apply evOps_g); rfl) | ((with_reducible apply evOpsD_g); rfl)); intro K hK; simp (contextual := true) only [go_sem, simprocAttr]) | ((with_reducible refine evOpsD_nil ?_ ?_); kernel_rfl) | ((with_reducible refine hK _ ?_); clear hK K) | (with_reducible first | refine And.intro ?_ ?_ | refine blk_other (by decide) ?_ | refine inR_mk ?_ ?_) | (refine fun (hc : (_ : Bool) = _) => ?_; try simp only [hcS] at hc))
  all_goals try exact om_
  refine V_loopK (G := {i : Nat // i ≤ R.length ∧ (True)}) (fun ⟨i, _⟩ => [(6, iv i), (3, iv R.length), (4, .sl 1), (5, .ptr 6 0), (2, .ptr 0 0)]) [0] (fun ⟨i, _⟩ => [(6, ⟨1, .box [iv R.length, .sl 2, .sl 3, .sl 4, .sl 5]⟩), (1, ⟨1, .arr (intss (poNs R R.length i))⟩), (2, ⟨1, .arr (ints (poG (poA R R.length i) 0))⟩), (3, ⟨1, .arr (ints (poG (poA R R.length i) 1))⟩), (4, ⟨1, .arr (ints [])⟩), (5, ⟨1, .arr (intss [])⟩)]) [1, 2, 3, 4, 5, 6] (fun zz => R.length - zz.1) ⟨0, Nat.zero_le _, by first | trivial | simp⟩ ?_ ?_
  · exact Imp.au hX
  rintro ⟨i, hii, hwi⟩
  simp only [go_sem, simprocAttr]
  have l1 := poNs_len (R := R) (n := R.length) (i := i)
  rcases Nat.lt_or_ge i R.length with hi1 | hi1
  · have hri := hr i hi1
    repeat' (first | with_reducible refine St.f ?_ | ((with_reducible refine V_cond ?_); simp only [go_sem, simprocAttr]) | ((first | refine V_rg ?_ | refine V_dr ?_); intro K hK) | ((first | with_reducible refine So.f ?_ | ((with_reducible apply evOps_g); rfl) | ((with_reducible apply evOpsD_g); rfl)); intro K hK; simp (contextual := true) only [go_sem, simprocAttr]) | ((with_reducible refine evOpsD_nil ?_ ?_); kernel_rfl) | ((with_reducible refine hK _ ?_); clear hK K) | (with_reducible first | refine And.intro ?_ ?_ | refine blk_other (by decide) ?_ | refine inR_mk ?_ ?_) | (refine fun (hc : (_ : Bool) = _) => ?_; try simp only [hcS] at hc))
    all_goals try exact om_
    all_goals try (exfalso; omega)
    refine V_loopK (G := {j : Nat // j ≤ R.length ∧ (True)}) (fun ⟨j, _⟩ => [(8, iv j), (3, iv R.length), (4, .sl 1), (5, .ptr 6 0), (2, .ptr 0 0), (6, iv i), (7, .sl 7)]) [0] (fun ⟨j, _⟩ => [(6, ⟨1, .box [iv R.length, .sl 2, .sl 3, .sl 4, .sl 5]⟩), (1, ⟨1, .arr (intss (poNs R R.length i))⟩), (2, ⟨1, .arr (ints (poG (poA R R.length i ++ poRow R i j) 0))⟩), (3, ⟨1, .arr (ints (poG (poA R R.length i ++ poRow R i j) 1))⟩), (4, ⟨1, .arr (ints [])⟩), (5, ⟨1, .arr (intss [])⟩), (7, ⟨1, .arr (ints (poNr R R.length i j))⟩)]) [1, 2, 3, 4, 5, 6, 7] (fun zz => R.length - zz.1) ⟨0, Nat.zero_le _, by first | trivial | simp⟩ ?_ ?_
    · exact Imp.au hX
    rintro ⟨j, hij, hwj⟩
    simp only [go_sem, simprocAttr]
    have b1 := poA_le (R := R) (n := R.length) i
    have b2 := poRow_le (R := R) (i := i) j
    have b3 : i * R.length ≤ 6 * 6 := Nat.mul_le_mul (by omega) n6
    have l2 := poG_len (L := poA R R.length i ++ poRow R i j) (k := 0)
    have l3 := poG_len (L := poA R R.length i ++ poRow R i j) (k := 1)
    rw [List.length_append] at l2 l3
    have l4 := poNr_len (R := R) (n := R.length) (i := i) (j := j)
    rcases Nat.lt_or_ge j R.length with hj1 | hj1
    · have e1 : poNr R R.length i (j + 1) = poNr R R.length i j ++ [((poG (poA R R.length i ++ poRow R i j) 0).length : Int)] := by rw [poNr_succ, l2]; rfl
      by_cases hm : mE R i j = 1
      · have e2 := poG_row0 (n := R.length) hm
        have e3 := poG_row1 (n := R.length) hm
        unfold mE at hm
        repeat' (first | with_reducible refine St.f ?_ | ((with_reducible refine V_cond ?_); simp only [go_sem, simprocAttr]) | ((first | refine V_rg ?_ | refine V_dr ?_); intro K hK) | ((first | with_reducible refine So.f ?_ | ((with_reducible apply evOps_g); rfl) | ((with_reducible apply evOpsD_g); rfl)); intro K hK; simp (contextual := true) only [go_sem, simprocAttr]) | ((with_reducible refine evOpsD_nil ?_ ?_); kernel_rfl) | ((with_reducible refine hK _ ?_); clear hK K) | (with_reducible first | refine And.intro ?_ ?_ | refine blk_other (by decide) ?_ | refine inR_mk ?_ ?_) | (refine fun (hc : (_ : Bool) = _) => ?_; try simp only [hcS] at hc))
        all_goals try exact om_
        all_goals try (exfalso; omega)
        refine ⟨⟨j + 1, by omega, (by (trivial))⟩, by simp only; omega, Imp.auto hX (by simp only [go_sem, simprocAttr, e1, e2, e3])⟩
      · have e2 : poRow R i (j + 1) = poRow R i j := poRow_no hm
        unfold mE at hm
        repeat' (first | with_reducible refine St.f ?_ | ((with_reducible refine V_cond ?_); simp only [go_sem, simprocAttr]) | ((first | refine V_rg ?_ | refine V_dr ?_); intro K hK) | ((first | with_reducible refine So.f ?_ | ((with_reducible apply evOps_g); rfl) | ((with_reducible apply evOpsD_g); rfl)); intro K hK; simp (contextual := true) only [go_sem, simprocAttr]) | ((with_reducible refine evOpsD_nil ?_ ?_); kernel_rfl) | ((with_reducible refine hK _ ?_); clear hK K) | (with_reducible first | refine And.intro ?_ ?_ | refine blk_other (by decide) ?_ | refine inR_mk ?_ ?_) | (refine fun (hc : (_ : Bool) = _) => ?_; try simp only [hcS] at hc))
        all_goals try exact om_
        all_goals try (exfalso; omega)
        refine ⟨⟨j + 1, by omega, (by (trivial))⟩, by simp only; omega, Imp.auto hX (by simp only [go_sem, simprocAttr, e1, e2])⟩
    · obtain rfl : j = R.length := by omega
      have e1 := poNs_succ (R := R) (n := R.length) (i := i)
      have e2 : poA R R.length (i + 1) = poA R R.length i ++ poRow R i R.length := rfl
      repeat' (first | with_reducible refine St.f ?_ | ((with_reducible refine V_cond ?_); simp only [go_sem, simprocAttr]) | ((first | refine V_rg ?_ | refine V_dr ?_); intro K hK) | ((first | with_reducible refine So.f ?_ | ((with_reducible apply evOps_g); rfl) | ((with_reducible apply evOpsD_g); rfl)); intro K hK; simp (contextual := true) only [go_sem, simprocAttr]) | ((with_reducible refine evOpsD_nil ?_ ?_); kernel_rfl) | ((with_reducible refine hK _ ?_); clear hK K) | (with_reducible first | refine And.intro ?_ ?_ | refine blk_other (by decide) ?_ | refine inR_mk ?_ ?_) | (refine fun (hc : (_ : Bool) = _) => ?_; try simp only [hcS] at hc))
      all_goals try exact om_
      all_goals try (exfalso; omega)
      refine ⟨⟨i + 1, by omega, (by (trivial))⟩, by simp only; omega, Imp.auto hX (by simp only [go_sem, simprocAttr, e1, e2])⟩
  · obtain rfl : i = R.length := by omega
    repeat' (first | with_reducible refine St.f ?_ | ((with_reducible refine V_cond ?_); simp only [go_sem, simprocAttr]) | ((first | refine V_rg ?_ | refine V_dr ?_); intro K hK) | ((first | with_reducible refine So.f ?_ | ((with_reducible apply evOps_g); rfl) | ((with_reducible apply evOpsD_g); rfl)); intro K hK; simp (contextual := true) only [go_sem, simprocAttr]) | ((with_reducible refine evOpsD_nil ?_ ?_); kernel_rfl) | ((with_reducible refine hK _ ?_); clear hK K) | (with_reducible first | refine And.intro ?_ ?_ | refine blk_other (by decide) ?_ | refine inR_mk ?_ ?_) | (refine fun (hc : (_ : Bool) = _) => ?_; try simp only [hcS] at hc))
    all_goals try exact om_
    all_goals try (exfalso; omega)
    refine V_loopK (G := {i : Nat // i ≤ R.length ∧ (True)}) (fun ⟨i, _⟩ => [(9, iv i), (3, iv R.length), (4, .sl 1), (5, .ptr 6 0), (2, .ptr 0 0)]) [] (fun ⟨i, _⟩ => [(6, ⟨1, .box [iv R.length, .sl 2, .sl 3, .sl 4, .sl 5]⟩), (1, ⟨1, .arr (intss (poNs R R.length R.length))⟩), (2, ⟨1, .arr (ints (poG (poA R R.length R.length) 0))⟩), (3, ⟨1, .arr (ints (poG (poA R R.length R.length) 1))⟩), (4, ⟨1, .arr (ints (poI R R.length i))⟩), (5, ⟨1, .arr (intss [])⟩)]) [1, 2, 3, 4, 5, 6] (fun zz => R.length - zz.1) ⟨0, Nat.zero_le _, by first | trivial | simp⟩ ?_ ?_
    · exact Imp.au hX
    rintro ⟨i, hii, hwi⟩
    simp only [go_sem, simprocAttr]
    have l2 := poI_len (R := R) (n := R.length) (i := i)
    rcases Nat.lt_or_ge i R.length with hi2 | hi2
    · have l3 := poNr_len (R := R) (n := R.length) (i := i) (j := R.length)
      have e1 := poNs_at (R := R) (n := R.length) hi2
      have e2 := poNr_at (R := R) (n := R.length) (i := i) hi2
      have e3 := poI_succ (R := R) (n := R.length) (i := i)
      repeat' (first | (rw [e1]) | (rw [e2]) | with_reducible refine St.f ?_ | ((with_reducible refine V_cond ?_); simp only [go_sem, simprocAttr]) | ((first | refine V_rg ?_ | refine V_dr ?_); intro K hK) | ((first | with_reducible refine So.f ?_ | ((with_reducible apply evOps_g); rfl) | ((with_reducible apply evOpsD_g); rfl)); intro K hK; simp (contextual := true) only [go_sem, simprocAttr]) | ((with_reducible refine evOpsD_nil ?_ ?_); kernel_rfl) | ((with_reducible refine hK _ ?_); clear hK K) | (with_reducible first | refine And.intro ?_ ?_ | refine blk_other (by decide) ?_ | refine inR_mk ?_ ?_) | (refine fun (hc : (_ : Bool) = _) => ?_; try simp only [hcS] at hc))
      all_goals try exact om_
      all_goals try (exfalso; omega)
      refine ⟨⟨i + 1, by omega, (by (trivial))⟩, by simp only; omega, Imp.auto hX (by simp only [go_sem, simprocAttr, e3])⟩
    · obtain rfl : i = R.length := by omega
      have g0 := poG_len (L := poA R R.length R.length) (k := 0)
      have g1 := poG_len (L := poA R R.length R.length) (k := 1)
      obtain ⟨A, hA⟩ : ∃ A, poA R R.length R.length = A := ⟨_, rfl⟩
      repeat' (first | with_reducible refine St.f ?_ | ((with_reducible refine V_cond ?_); simp only [go_sem, simprocAttr]) | ((first | refine V_rg ?_ | refine V_dr ?_); intro K hK) | ((first | with_reducible refine So.f ?_ | ((with_reducible apply evOps_g); rfl) | ((with_reducible apply evOpsD_g); rfl)); intro K hK; simp (contextual := true) only [go_sem, simprocAttr]) | ((with_reducible refine evOpsD_nil ?_ ?_); kernel_rfl) | ((with_reducible refine hK _ ?_); clear hK K) | (with_reducible first | refine And.intro ?_ ?_ | refine blk_other (by decide) ?_ | refine inR_mk ?_ ?_) | (refine fun (hc : (_ : Bool) = _) => ?_; try simp only [hcS] at hc))
      all_goals try exact om_
      all_goals try (exfalso; omega)
      refine V_loopK (G := {f : Nat // f ≤ (poA R R.length R.length).length ∧ (True)}) (fun ⟨f, _⟩ => [(10, iv f), (3, iv R.length), (4, .sl 1), (5, .ptr 6 0), (2, .ptr 0 0)]) [] (fun ⟨f, _⟩ => [(6, ⟨1, .box [iv R.length, .sl 2, .sl 3, .sl 4, .sl 5]⟩), (1, ⟨1, .arr (intss (poNs R R.length R.length))⟩), (2, ⟨1, .arr (ints (poG (poA R R.length R.length) 0))⟩), (3, ⟨1, .arr (ints (poG (poA R R.length R.length) 1))⟩), (4, ⟨1, .arr (ints (poI R R.length R.length))⟩), (5, ⟨1, .arr (intss (poW R R.length f))⟩)]) [1, 2, 3, 4, 5, 6] (fun zz => (poA R R.length R.length).length - zz.1) ⟨0, Nat.zero_le _, by first | trivial | simp⟩ ?_ ?_
      · exact Imp.au hX
      rintro ⟨f, hif, hwf⟩
      simp only [go_sem, simprocAttr]
      have l4 := poW_len (R := R) (n := R.length) (f := f)
      rcases Nat.lt_or_ge f (poA R R.length R.length).length with hf1 | hf1
      · repeat' (first | with_reducible refine St.f ?_ | ((with_reducible refine V_cond ?_); simp only [go_sem, simprocAttr]) | ((first | refine V_rg ?_ | refine V_dr ?_); intro K hK) | ((first | with_reducible refine So.f ?_ | ((with_reducible apply evOps_g); rfl) | ((with_reducible apply evOpsD_g); rfl)); intro K hK; simp (contextual := true) only [go_sem, simprocAttr]) | ((with_reducible refine evOpsD_nil ?_ ?_); kernel_rfl) | ((with_reducible refine hK _ ?_); clear hK K) | (with_reducible first | refine And.intro ?_ ?_ | refine blk_other (by decide) ?_ | refine inR_mk ?_ ?_) | (refine fun (hc : (_ : Bool) = _) => ?_; try simp only [hcS] at hc))
        all_goals try exact om_
        all_goals try (exfalso; omega)
        refine V_loopK (G := {g : Nat // g ≤ (poA R R.length R.length).length ∧ (True)}) (fun ⟨g, _⟩ => [(12, iv g), (3, iv R.length), (4, .sl 1), (5, .ptr 6 0), (2, .ptr 0 0), (10, iv f), (11, .sl 7)]) [] (fun ⟨g, _⟩ => [(6, ⟨1, .box [iv R.length, .sl 2, .sl 3, .sl 4, .sl 5]⟩), (1, ⟨1, .arr (intss (poNs R R.length R.length))⟩), (2, ⟨1, .arr (ints (poG (poA R R.length R.length) 0))⟩), (3, ⟨1, .arr (ints (poG (poA R R.length R.length) 1))⟩), (4, ⟨1, .arr (ints (poI R R.length R.length))⟩), (5, ⟨1, .arr (intss (poW R R.length f))⟩), (7, ⟨1, .arr (ints (tabR (poA R R.length R.length) poP f g))⟩)]) [1, 2, 3, 4, 5, 6, 7] (fun zz => (poA R R.length R.length).length - zz.1) ⟨0, Nat.zero_le _, by first | trivial | simp⟩ ?_ ?_
        · exact Imp.au hX
        rintro ⟨g, hig, hwg⟩
        simp only [go_sem, simprocAttr]
        have l5 := tabR_len (A := poA R R.length R.length) (cp := poP) (f := f) (g := g)
        rcases Nat.lt_or_ge g (poA R R.length R.length).length with hg1 | hg1
        · obtain ⟨a, b, ha, hb, hab, ef⟩ := po_at hf1
          obtain ⟨a', b', ha', hb', hab', eg⟩ := po_at hg1
          have f0 : (poG (poA R R.length R.length) 0).getD f 0 = (a : Int) := by rw [poG_at hf1, ef]; rfl
          have f1 : (poG (poA R R.length R.length) 1).getD f 0 = (b : Int) := by rw [poG_at hf1, ef]; rfl
          have q0 : (poG (poA R R.length R.length) 0).getD g 0 = (a' : Int) := by rw [poG_at hg1, eg]; rfl
          have q1 : (poG (poA R R.length R.length) 1).getD g 0 = (b' : Int) := by rw [poG_at hg1, eg]; rfl
          have es : tabR (poA R R.length R.length) poP f (g + 1) = tabR (poA R R.length R.length) poP f g ++ [if (b : Int) = (a' : Int) then fnd (poA R R.length R.length) (poP [(a : Int), (b : Int)] [(a' : Int), (b' : Int)]) else -1] := by
            have := tabR_succ (A := poA R R.length R.length) (cp := poP) (f := f) (g := g)
            rw [ef, eg] at this
            exact this
          have l3 := poNr_len (R := R) (n := R.length) (i := a) (j := R.length)
          by_cases hm : b = a'
          · subst hm
            have en : fnd (poA R R.length R.length) (poP [(a : Int), (b : Int)] [(b : Int), (b' : Int)]) = poN R R.length a b' := poN_fnd ha hb' (h.tr a b b' ha hb hb' hab hab')
            rw [if_pos rfl, en] at es
            have e1 := poNs_at (R := R) (n := R.length) ha
            have e2 := poNr_at (R := R) (n := R.length) (i := a) hb'
            repeat' (first | (rw [f0]) | (rw [f1]) | (rw [q0]) | (rw [q1]) | (rw [e1]) | (rw [e2]) | with_reducible refine St.f ?_ | ((with_reducible refine V_cond ?_); simp only [go_sem, simprocAttr]) | ((first | refine V_rg ?_ | refine V_dr ?_); intro K hK) | ((first | with_reducible refine So.f ?_ | ((with_reducible apply evOps_g); rfl) | ((with_reducible apply evOpsD_g); rfl)); intro K hK; simp (contextual := true) only [go_sem, simprocAttr]) | ((with_reducible refine evOpsD_nil ?_ ?_); kernel_rfl) | ((with_reducible refine hK _ ?_); clear hK K) | (with_reducible first | refine And.intro ?_ ?_ | refine blk_other (by decide) ?_ | refine inR_mk ?_ ?_) | (refine fun (hc : (_ : Bool) = _) => ?_; try simp only [hcS] at hc))
            all_goals try exact om_
            all_goals try (exfalso; omega)
            refine ⟨⟨g + 1, by omega, (by (trivial))⟩, by simp only; omega, Imp.auto hX (by simp only [go_sem, simprocAttr, es])⟩
          · have hm2 : ¬ ((b : Int) = (a' : Int)) := by omega
            rw [if_neg hm2] at es
            repeat' (first | (rw [f0]) | (rw [f1]) | (rw [q0]) | (rw [q1]) | with_reducible refine St.f ?_ | ((with_reducible refine V_cond ?_); simp only [go_sem, simprocAttr]) | ((first | refine V_rg ?_ | refine V_dr ?_); intro K hK) | ((first | with_reducible refine So.f ?_ | ((with_reducible apply evOps_g); rfl) | ((with_reducible apply evOpsD_g); rfl)); intro K hK; simp (contextual := true) only [go_sem, simprocAttr]) | ((with_reducible refine evOpsD_nil ?_ ?_); kernel_rfl) | ((with_reducible refine hK _ ?_); clear hK K) | (with_reducible first | refine And.intro ?_ ?_ | refine blk_other (by decide) ?_ | refine inR_mk ?_ ?_) | (refine fun (hc : (_ : Bool) = _) => ?_; try simp only [hcS] at hc))
            all_goals try exact om_
            all_goals try (exfalso; omega)
            refine ⟨⟨g + 1, by omega, (by (trivial))⟩, by simp only; omega, Imp.auto hX (by simp only [go_sem, simprocAttr, es])⟩
        · obtain rfl : g = (poA R R.length R.length).length := by omega
          have es := poW_succ (R := R) (n := R.length) (f := f)
          repeat' (first | with_reducible refine St.f ?_ | ((with_reducible refine V_cond ?_); simp only [go_sem, simprocAttr]) | ((first | refine V_rg ?_ | refine V_dr ?_); intro K hK) | ((first | with_reducible refine So.f ?_ | ((with_reducible apply evOps_g); rfl) | ((with_reducible apply evOpsD_g); rfl)); intro K hK; simp (contextual := true) only [go_sem, simprocAttr]) | ((with_reducible refine evOpsD_nil ?_ ?_); kernel_rfl) | ((with_reducible refine hK _ ?_); clear hK K) | (with_reducible first | refine And.intro ?_ ?_ | refine blk_other (by decide) ?_ | refine inR_mk ?_ ?_) | (refine fun (hc : (_ : Bool) = _) => ?_; try simp only [hcS] at hc))
          all_goals try exact om_
          all_goals try (exfalso; omega)
          refine ⟨⟨f + 1, by omega, (by (trivial))⟩, by simp only; omega, Imp.auto hX (by simp only [go_sem, simprocAttr, es])⟩
      · obtain rfl : f = (poA R R.length R.length).length := by omega
        repeat' (first | with_reducible refine St.f ?_ | ((with_reducible refine V_cond ?_); simp only [go_sem, simprocAttr]) | ((first | refine V_rg ?_ | refine V_dr ?_); intro K hK) | ((first | with_reducible refine So.f ?_ | ((with_reducible apply evOps_g); rfl) | ((with_reducible apply evOpsD_g); rfl)); intro K hK; simp (contextual := true) only [go_sem, simprocAttr]) | ((with_reducible refine evOpsD_nil ?_ ?_); kernel_rfl) | ((with_reducible refine hK _ ?_); clear hK K) | (with_reducible first | refine And.intro ?_ ?_ | refine blk_other (by decide) ?_ | refine inR_mk ?_ ?_) | (refine fun (hc : (_ : Bool) = _) => ?_; try simp only [hcS] at hc))
        all_goals try exact om_
        all_goals try (exfalso; omega)
        (first | refine ret_auto ?_ | refine ret_auto' ?_); simp only [go_sem, simprocAttr, Tryz.f153]
end Go.Eng
