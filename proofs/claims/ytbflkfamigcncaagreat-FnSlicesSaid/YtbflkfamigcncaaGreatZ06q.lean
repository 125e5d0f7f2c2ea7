/- Joins of two categories with one object each, by the reference. -/
import Derived.Test.YtbflkfamigcncaaGreatZ05q
set_option linter.unusedSimpArgs false
set_option linter.unusedVariables false
set_option maxRecDepth 100000
set_option maxHeartbeats 16000000
namespace Go.Eng
open Go Go.Proofs Go.Cats
def jnTb (s : Cat) (o p : Int) (fr to : List Int) (f n : Nat) : List (List Int) := (List.range f).map fun f => jnW s o p fr to f n
section
variable {s : Cat} {o p : Int} {fr to : List Int} {f g n k : Nat}
theorem jnW_len : (jnW s o p fr to f k).length = k := by unfold jnW; rw [List.length_map, List.length_range]
theorem jnW_succ : jnW s o p fr to f (k + 1) = jnW s o p fr to f k ++ [jnE s o p fr to f k] := by unfold jnW; rw [List.range_succ, List.map_append]; rfl
theorem jnW_zero : jnW s o p fr to f 0 = [] := rfl
theorem jnTb_len : (jnTb s o p fr to k n).length = k := by unfold jnTb; rw [List.length_map, List.length_range]
theorem jnTb_succ : jnTb s o p fr to (k + 1) n = jnTb s o p fr to k n ++ [jnW s o p fr to k n] := by unfold jnTb; rw [List.range_succ, List.map_append]; rfl
theorem jnTb_zero : jnTb s o p fr to 0 n = [] := rfl
theorem jnF_zero : jnF n 0 = [] := rfl
theorem jnT_zero : jnT o n 0 = [] := rfl
theorem jnF_one : jnF 1 1 = [0] := rfl
theorem jnT_one : jnT o 1 1 = [o + 0] := rfl
end
attribute [local go_sem] List.set_cons_zero List.set_cons_succ List.append_nil jnW_zero jnTb_zero jnF_zero jnT_zero
theorem cal_l03Join : Callable Tryz.prog 240 := ⟨_, Tryz.func240, rfl, rfl⟩
theorem sp_l03Join {c d : Cat} (sc : Shape c) (sd : Shape d) (hc1 : c.ob = 1) (hd1 : d.ob = 1) (hm : IsCat (smC c d)) : Spec Tryz.prog 240 [catV c, catV d] [] (.agg [iv (jnC c d).ob, .sl 0, .sl 1, .sl 2, .sl 3]) [(0, ⟨1, .arr (ints (jnC c d).fr)⟩), (1, ⟨1, .arr (ints (jnC c d).to)⟩), (2, ⟨1, .arr (ints (jnC c d).id)⟩), (3, ⟨1, .arr (intss (jnC c d).co)⟩)] := by
  have hsum := sp_l03Sum sc sd
  have ss := hm.toShape
  have m40 := ss.m40
  have tol := ss.tol
  have cil := ss.idl
  have ccl := ss.col
  have e0 : jnC c d = ⟨(smC c d).ob, (smC c d).fr ++ [0], (smC c d).to ++ [c.ob + 0], (smC c d).id, jnTb (smC c d) c.ob d.ob ((smC c d).fr ++ [0]) ((smC c d).to ++ [c.ob + 0]) ((smC c d).fr ++ [0]).length ((smC c d).fr ++ [0]).length⟩ := by
    unfold jnC
    rw [hc1, hd1]; rfl
  simp only [Int.add_zero] at e0
  rw [e0]
  clear e0
  obtain ⟨s, hs⟩ : ∃ s, smC c d = s := ⟨_, rfl⟩
  rw [hs] at hsum ss m40 tol cil ccl ⊢
  refine spec_of_V (E := TE) 0 Tryz.func240 rfl (by simp [Tryz.f240]) fun X hn hX => ?_
  repeat' (first | with_reducible refine St.f ?_ | ((with_reducible refine V_cond ?_); simp only [go_sem, simprocAttr]) | ((first | refine V_rg ?_ | refine V_dr ?_); intro K hK) | ((first | with_reducible refine So.f ?_ | ((with_reducible apply evOps_g); rfl) | ((with_reducible apply evOpsD_g); rfl)); intro K hK; simp (contextual := true) only [go_sem, simprocAttr]) | ((with_reducible refine evOpsD_nil ?_ ?_); kernel_rfl) | ((with_reducible refine hK _ ?_); clear hK K) | (with_reducible first | refine And.intro ?_ ?_ | refine blk_other (by decide) ?_ | refine inR_mk ?_ ?_) | ((with_reducible refine evCall_at 208 ?_); refine EvCall.mq (hsum) cal_l03Sum [(0,3),(1,4),(2,5),(3,6)] [] ?_; all_goals try simp only [go_sem, simprocAttr]) | (refine fun (hc : (_ : Bool) = _) => ?_; try simp only [hcS] at hc))
  all_goals try exact om_
  refine V_loopK (G := {x : Nat // x ≤ (1 : Nat) ∧ (True)}) (fun ⟨x, _⟩ => [(7, iv x), (2, .ptr 0 0), (3, .ptr 1 0), (4, .ptr 2 0), (5, .ptr 7 0), (6, iv s.fr.length)]) [] (fun ⟨x, _⟩ => [(7, ⟨1, .box [iv s.ob, .sl 3, .sl 4, .sl 5, .sl 6]⟩), (3, ⟨1, .arr (ints (s.fr ++ jnF 1 x))⟩), (4, ⟨1, .arr (ints (s.to ++ jnT c.ob 1 x))⟩), (5, ⟨1, .arr (ints s.id)⟩), (6, ⟨1, .arr (intss s.co)⟩)]) [3, 4, 5, 6, 7] (fun zz => (1 : Nat) - zz.1) ⟨0, Nat.zero_le _, by first | trivial | simp⟩ ?_ ?_
  · exact Imp.au hX
  rintro ⟨x, hix, hwx⟩
  simp only [go_sem, simprocAttr]
  rcases Nat.lt_or_ge x 1 with hx1 | hx1
  · obtain rfl : x = 0 := by omega
    repeat' (first | with_reducible refine St.f ?_ | ((with_reducible refine V_cond ?_); simp only [go_sem, simprocAttr]) | ((first | refine V_rg ?_ | refine V_dr ?_); intro K hK) | ((first | with_reducible refine So.f ?_ | ((with_reducible apply evOps_g); rfl) | ((with_reducible apply evOpsD_g); rfl)); intro K hK; simp (contextual := true) only [go_sem, simprocAttr]) | ((with_reducible refine evOpsD_nil ?_ ?_); kernel_rfl) | ((with_reducible refine hK _ ?_); clear hK K) | (with_reducible first | refine And.intro ?_ ?_ | refine blk_other (by decide) ?_ | refine inR_mk ?_ ?_) | (refine fun (hc : (_ : Bool) = _) => ?_; try simp only [hcS] at hc))
    all_goals try exact om_
    all_goals try (exfalso; omega)
    refine V_loopK (G := {y : Nat // y ≤ (1 : Nat) ∧ (True)}) (fun ⟨y, _⟩ => [(8, iv y), (2, .ptr 0 0), (3, .ptr 1 0), (4, .ptr 2 0), (5, .ptr 7 0), (6, iv s.fr.length), (7, iv 0)]) [] (fun ⟨y, _⟩ => [(7, ⟨1, .box [iv s.ob, .sl 3, .sl 4, .sl 5, .sl 6]⟩), (3, ⟨1, .arr (ints (s.fr ++ jnF 1 y))⟩), (4, ⟨1, .arr (ints (s.to ++ jnT c.ob 1 y))⟩), (5, ⟨1, .arr (ints s.id)⟩), (6, ⟨1, .arr (intss s.co)⟩)]) [3, 4, 5, 6, 7] (fun zz => (1 : Nat) - zz.1) ⟨0, Nat.zero_le _, by first | trivial | simp⟩ ?_ ?_
    · exact Imp.au hX
    rintro ⟨y, hiy, hwy⟩
    simp only [go_sem, simprocAttr]
    rcases Nat.lt_or_ge y 1 with hy1 | hy1
    · obtain rfl : y = 0 := by omega
      have e1 : jnF 1 (0 + 1) = [0] := rfl
      have e2 : jnT c.ob 1 (0 + 1) = [c.ob] := by rw [jnT_one, Int.add_zero]
      repeat' (first | with_reducible refine St.f ?_ | ((with_reducible refine V_cond ?_); simp only [go_sem, simprocAttr]) | ((first | refine V_rg ?_ | refine V_dr ?_); intro K hK) | ((first | with_reducible refine So.f ?_ | ((with_reducible apply evOps_g); rfl) | ((with_reducible apply evOpsD_g); rfl)); intro K hK; simp (contextual := true) only [go_sem, simprocAttr]) | ((with_reducible refine evOpsD_nil ?_ ?_); kernel_rfl) | ((with_reducible refine hK _ ?_); clear hK K) | (with_reducible first | refine And.intro ?_ ?_ | refine blk_other (by decide) ?_ | refine inR_mk ?_ ?_) | (refine fun (hc : (_ : Bool) = _) => ?_; try simp only [hcS] at hc))
      all_goals try exact om_
      all_goals try (exfalso; omega)
      refine ⟨⟨0 + 1, by omega, (by (trivial))⟩, by simp only; omega, Imp.auto hX (by simp only [go_sem, simprocAttr, e1, e2])⟩
    · obtain rfl : y = 1 := by omega
      repeat' (first | with_reducible refine St.f ?_ | ((with_reducible refine V_cond ?_); simp only [go_sem, simprocAttr]) | ((first | refine V_rg ?_ | refine V_dr ?_); intro K hK) | ((first | with_reducible refine So.f ?_ | ((with_reducible apply evOps_g); rfl) | ((with_reducible apply evOpsD_g); rfl)); intro K hK; simp (contextual := true) only [go_sem, simprocAttr]) | ((with_reducible refine evOpsD_nil ?_ ?_); kernel_rfl) | ((with_reducible refine hK _ ?_); clear hK K) | (with_reducible first | refine And.intro ?_ ?_ | refine blk_other (by decide) ?_ | refine inR_mk ?_ ?_) | (refine fun (hc : (_ : Bool) = _) => ?_; try simp only [hcS] at hc))
      all_goals try exact om_
      all_goals try (exfalso; omega)
      refine ⟨⟨0 + 1, by omega, (by (trivial))⟩, by simp only; omega, Imp.auto hX (by simp only [go_sem, simprocAttr, jnF_one])⟩
  · obtain rfl : x = 1 := by omega
    rw [jnF_one, jnT_one, Int.add_zero]
    have lF : (s.fr ++ [0]).length = s.fr.length + 1 := by simp
    have lT : (s.to ++ [c.ob]).length = s.fr.length + 1 := by simp [tol]
    have bF : ∀ i, i < s.fr.length + 1 → 0 ≤ (s.fr ++ [0]).getD i 0 ∧ (s.fr ++ [0]).getD i 0 ≤ 8 := fun i hi => by
      have := ss.ob8
      rcases Nat.lt_or_ge i s.fr.length with h | h
      · have := ss.frw i h
        rw [List.getD_eq_getElem?_getD, List.getElem?_append_left h, ← List.getD_eq_getElem?_getD]; omega
      · obtain rfl : i = s.fr.length := by omega
        rw [List.getD_eq_getElem?_getD, List.getElem?_append_right (Nat.le_refl _), Nat.sub_self]
        show (0 : Int) ≤ 0 ∧ (0 : Int) ≤ 8; omega
    have bT : ∀ i, i < s.fr.length + 1 → 0 ≤ (s.to ++ [c.ob]).getD i 0 ∧ (s.to ++ [c.ob]).getD i 0 ≤ 8 := fun i hi => by
      have := ss.ob8
      rcases Nat.lt_or_ge i s.to.length with h | h
      · have := ss.tow i h
        rw [List.getD_eq_getElem?_getD, List.getElem?_append_left h, ← List.getD_eq_getElem?_getD]; omega
      · obtain rfl : i = s.to.length := by omega
        rw [List.getD_eq_getElem?_getD, List.getElem?_append_right (Nat.le_refl _), Nat.sub_self]
        show (0 : Int) ≤ c.ob ∧ c.ob ≤ 8; omega
    have eE : ∀ f g, jnE s c.ob d.ob (s.fr ++ [0]) (s.to ++ [c.ob]) f g = if (s.to ++ [c.ob]).getD f 0 ≠ (s.fr ++ [0]).getD g 0 then -1 else if f < s.fr.length ∧ g < s.fr.length then (s.co.getD f []).getD g 0 else (s.fr.length : Int) + (s.fr ++ [0]).getD f 0 * d.ob + (s.to ++ [c.ob]).getD g 0 - c.ob := fun f g => by
      unfold jnE; simp only [Cat.C, Int.toNat_natCast]
    have hrow : ∀ f, f < s.fr.length → (s.co.getD f []).length = s.fr.length := fun f hf => (ss.coe f hf).1
    generalize s.fr ++ [0] = FR at lF bF eE ⊢
    generalize s.to ++ [c.ob] = TO at lT bT eE ⊢
    repeat' (first | with_reducible refine St.f ?_ | ((with_reducible refine V_cond ?_); simp only [go_sem, simprocAttr]) | ((first | refine V_rg ?_ | refine V_dr ?_); intro K hK) | ((first | with_reducible refine So.f ?_ | ((with_reducible apply evOps_g); rfl) | ((with_reducible apply evOpsD_g); rfl)); intro K hK; simp (contextual := true) only [go_sem, simprocAttr]) | ((with_reducible refine evOpsD_nil ?_ ?_); kernel_rfl) | ((with_reducible refine hK _ ?_); clear hK K) | (with_reducible first | refine And.intro ?_ ?_ | refine blk_other (by decide) ?_ | refine inR_mk ?_ ?_) | (refine fun (hc : (_ : Bool) = _) => ?_; try simp only [hcS] at hc))
    all_goals try exact om_
    all_goals try (exfalso; omega)
    refine V_loopK (G := {f : Nat // f ≤ (s.fr.length + 1) ∧ (True)}) (fun ⟨f, _⟩ => [(10, iv f), (2, .ptr 0 0), (3, .ptr 1 0), (4, .ptr 2 0), (5, .ptr 7 0), (6, iv s.fr.length), (9, .sl 8)]) [] (fun ⟨f, _⟩ => [(7, ⟨1, .box [iv s.ob, .sl 3, .sl 4, .sl 5, .sl 6]⟩), (3, ⟨1, .arr (ints FR)⟩), (4, ⟨1, .arr (ints TO)⟩), (5, ⟨1, .arr (ints s.id)⟩), (6, ⟨1, .arr (intss s.co)⟩), (8, ⟨1, .arr (intss (jnTb s c.ob d.ob FR TO f FR.length))⟩)]) [3, 4, 5, 6, 7, 8] (fun zz => (s.fr.length + 1) - zz.1) ⟨0, Nat.zero_le _, by first | trivial | simp⟩ ?_ ?_
    · exact Imp.au hX
    rintro ⟨f, hif, hwf⟩
    simp only [go_sem, simprocAttr]
    have l2 := jnTb_len (s := s) (o := c.ob) (p := d.ob) (fr := FR) (to := TO) (k := f) (n := FR.length)
    rcases Nat.lt_or_ge f (s.fr.length + 1) with hf1 | hf1
    · have b1 := bT f hf1
      have b2 := bF f hf1
      have hp : FR.getD f 0 * d.ob = FR.getD f 0 := by rw [hd1, Int.mul_one]
      repeat' (first | with_reducible refine St.f ?_ | ((with_reducible refine V_cond ?_); simp only [go_sem, simprocAttr]) | ((first | refine V_rg ?_ | refine V_dr ?_); intro K hK) | ((first | with_reducible refine So.f ?_ | ((with_reducible apply evOps_g); rfl) | ((with_reducible apply evOpsD_g); rfl)); intro K hK; simp (contextual := true) only [go_sem, simprocAttr]) | ((with_reducible refine evOpsD_nil ?_ ?_); kernel_rfl) | ((with_reducible refine hK _ ?_); clear hK K) | (with_reducible first | refine And.intro ?_ ?_ | refine blk_other (by decide) ?_ | refine inR_mk ?_ ?_) | (refine fun (hc : (_ : Bool) = _) => ?_; try simp only [hcS] at hc))
      all_goals try exact om_
      all_goals try (exfalso; omega)
      refine V_loopK (G := {g : Nat // g ≤ (s.fr.length + 1) ∧ (True)}) (fun ⟨g, _⟩ => [(12, iv g), (2, .ptr 0 0), (3, .ptr 1 0), (4, .ptr 2 0), (5, .ptr 7 0), (6, iv s.fr.length), (9, .sl 8), (10, iv f), (11, .sl 9)]) [] (fun ⟨g, _⟩ => [(7, ⟨1, .box [iv s.ob, .sl 3, .sl 4, .sl 5, .sl 6]⟩), (3, ⟨1, .arr (ints FR)⟩), (4, ⟨1, .arr (ints TO)⟩), (5, ⟨1, .arr (ints s.id)⟩), (6, ⟨1, .arr (intss s.co)⟩), (8, ⟨1, .arr (intss (jnTb s c.ob d.ob FR TO f FR.length))⟩), (9, ⟨1, .arr (ints (jnW s c.ob d.ob FR TO f g))⟩)]) [3, 4, 5, 6, 7, 8, 9] (fun zz => (s.fr.length + 1) - zz.1) ⟨0, Nat.zero_le _, by first | trivial | simp⟩ ?_ ?_
      · exact Imp.au hX
      rintro ⟨g, hig, hwg⟩
      simp only [go_sem, simprocAttr]
      have l3 := jnW_len (s := s) (o := c.ob) (p := d.ob) (fr := FR) (to := TO) (f := f) (k := g)
      rcases Nat.lt_or_ge g (s.fr.length + 1) with hg1 | hg1
      · have b3 := bF g hg1
        have b4 := bT g hg1
        have e3 := jnW_succ (s := s) (o := c.ob) (p := d.ob) (fr := FR) (to := TO) (f := f) (k := g)
        rw [eE] at e3
        by_cases h0 : TO.getD f 0 = FR.getD g 0
        · rw [if_neg (by simpa using h0)] at e3
          by_cases h1 : f < s.fr.length
          · have lr := hrow f h1
            by_cases h2 : g < s.fr.length
            · rw [if_pos ⟨h1, h2⟩] at e3
              repeat' (first | with_reducible refine St.f ?_ | ((with_reducible refine V_cond ?_); simp only [go_sem, simprocAttr]) | ((first | refine V_rg ?_ | refine V_dr ?_); intro K hK) | ((first | with_reducible refine So.f ?_ | ((with_reducible apply evOps_g); rfl) | ((with_reducible apply evOpsD_g); rfl)); intro K hK; simp (contextual := true) only [go_sem, simprocAttr]) | ((with_reducible refine evOpsD_nil ?_ ?_); kernel_rfl) | ((with_reducible refine hK _ ?_); clear hK K) | (with_reducible first | refine And.intro ?_ ?_ | refine blk_other (by decide) ?_ | refine inR_mk ?_ ?_) | (refine fun (hc : (_ : Bool) = _) => ?_; try simp only [hcS] at hc))
              all_goals try exact om_
              all_goals try (exfalso; omega)
              refine ⟨⟨g + 1, by omega, (by (trivial))⟩, by simp only; omega, Imp.auto hX (by simp only [go_sem, simprocAttr, e3])⟩
            · rw [if_neg (by omega)] at e3
              repeat' (first | with_reducible refine St.f ?_ | ((with_reducible refine V_cond ?_); simp only [go_sem, simprocAttr]) | ((first | refine V_rg ?_ | refine V_dr ?_); intro K hK) | ((first | with_reducible refine So.f ?_ | ((with_reducible apply evOps_g); rfl) | ((with_reducible apply evOpsD_g); rfl)); intro K hK; simp (contextual := true) only [go_sem, simprocAttr]) | ((with_reducible refine evOpsD_nil ?_ ?_); kernel_rfl) | ((with_reducible refine hK _ ?_); clear hK K) | (with_reducible first | refine And.intro ?_ ?_ | refine blk_other (by decide) ?_ | refine inR_mk ?_ ?_) | (refine fun (hc : (_ : Bool) = _) => ?_; try simp only [hcS] at hc))
              all_goals try exact om_
              all_goals try (exfalso; omega)
              refine ⟨⟨g + 1, by omega, (by (trivial))⟩, by simp only; omega, Imp.auto hX (by simp only [go_sem, simprocAttr, e3])⟩
          · rw [if_neg (by omega)] at e3
            repeat' (first | with_reducible refine St.f ?_ | ((with_reducible refine V_cond ?_); simp only [go_sem, simprocAttr]) | ((first | refine V_rg ?_ | refine V_dr ?_); intro K hK) | ((first | with_reducible refine So.f ?_ | ((with_reducible apply evOps_g); rfl) | ((with_reducible apply evOpsD_g); rfl)); intro K hK; simp (contextual := true) only [go_sem, simprocAttr]) | ((with_reducible refine evOpsD_nil ?_ ?_); kernel_rfl) | ((with_reducible refine hK _ ?_); clear hK K) | (with_reducible first | refine And.intro ?_ ?_ | refine blk_other (by decide) ?_ | refine inR_mk ?_ ?_) | (refine fun (hc : (_ : Bool) = _) => ?_; try simp only [hcS] at hc))
            all_goals try exact om_
            all_goals try (exfalso; omega)
            refine ⟨⟨g + 1, by omega, (by (trivial))⟩, by simp only; omega, Imp.auto hX (by simp only [go_sem, simprocAttr, e3])⟩
        · rw [if_pos (by simpa using h0)] at e3
          repeat' (first | with_reducible refine St.f ?_ | ((with_reducible refine V_cond ?_); simp only [go_sem, simprocAttr]) | ((first | refine V_rg ?_ | refine V_dr ?_); intro K hK) | ((first | with_reducible refine So.f ?_ | ((with_reducible apply evOps_g); rfl) | ((with_reducible apply evOpsD_g); rfl)); intro K hK; simp (contextual := true) only [go_sem, simprocAttr]) | ((with_reducible refine evOpsD_nil ?_ ?_); kernel_rfl) | ((with_reducible refine hK _ ?_); clear hK K) | (with_reducible first | refine And.intro ?_ ?_ | refine blk_other (by decide) ?_ | refine inR_mk ?_ ?_) | (refine fun (hc : (_ : Bool) = _) => ?_; try simp only [hcS] at hc))
          all_goals try exact om_
          all_goals try (exfalso; omega)
          refine ⟨⟨g + 1, by omega, (by (trivial))⟩, by simp only; omega, Imp.auto hX (by simp only [go_sem, simprocAttr, e3])⟩
      · obtain rfl : g = s.fr.length + 1 := by omega
        have e1 := jnTb_succ (s := s) (o := c.ob) (p := d.ob) (fr := FR) (to := TO) (k := f) (n := FR.length)
        rw [lF] at e1
        repeat' (first | with_reducible refine St.f ?_ | ((with_reducible refine V_cond ?_); simp only [go_sem, simprocAttr]) | ((first | refine V_rg ?_ | refine V_dr ?_); intro K hK) | ((first | with_reducible refine So.f ?_ | ((with_reducible apply evOps_g); rfl) | ((with_reducible apply evOpsD_g); rfl)); intro K hK; simp (contextual := true) only [go_sem, simprocAttr]) | ((with_reducible refine evOpsD_nil ?_ ?_); kernel_rfl) | ((with_reducible refine hK _ ?_); clear hK K) | (with_reducible first | refine And.intro ?_ ?_ | refine blk_other (by decide) ?_ | refine inR_mk ?_ ?_) | (refine fun (hc : (_ : Bool) = _) => ?_; try simp only [hcS] at hc))
        all_goals try exact om_
        all_goals try (exfalso; omega)
        refine ⟨⟨f + 1, by omega, (by (trivial))⟩, by simp only; omega, Imp.auto hX (by simp only [go_sem, simprocAttr, lF, e1])⟩
    · obtain rfl : f = s.fr.length + 1 := by omega
      repeat' (first | with_reducible refine St.f ?_ | ((with_reducible refine V_cond ?_); simp only [go_sem, simprocAttr]) | ((first | refine V_rg ?_ | refine V_dr ?_); intro K hK) | ((first | with_reducible refine So.f ?_ | ((with_reducible apply evOps_g); rfl) | ((with_reducible apply evOpsD_g); rfl)); intro K hK; simp (contextual := true) only [go_sem, simprocAttr]) | ((with_reducible refine evOpsD_nil ?_ ?_); kernel_rfl) | ((with_reducible refine hK _ ?_); clear hK K) | (with_reducible first | refine And.intro ?_ ?_ | refine blk_other (by decide) ?_ | refine inR_mk ?_ ?_) | (refine fun (hc : (_ : Bool) = _) => ?_; try simp only [hcS] at hc))
      all_goals try exact om_
      all_goals try (exfalso; omega)
      (first | refine ret_auto ?_ | refine ret_auto' ?_); simp only [go_sem, simprocAttr, Tryz.f240]
      rw [lF]
end Go.Eng
