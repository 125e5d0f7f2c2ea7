/- Several texts in one: M01, N41, N42, M02, M03, M04, M05, M06, M07, M08, M09, M10, M11, M12. -/
import Derived.Lib.SplitLaws
set_option linter.unusedVariables false
set_option linter.unusedSimpArgs false
section
namespace Go.Cats
noncomputable def dec (P : Prop) : Bool := @decide P (Classical.propDecidable P)
theorem dec_t {P : Prop} (h : P) : dec P = true := by simp [dec, h]
theorem dec_f {P : Prop} (h : ¬ P) : dec P = false := by simp [dec, h]
theorem dec_iff {P : Prop} : dec P = true ↔ P := by simp [dec]
theorem dec_not {P : Prop} : dec P = false ↔ ¬ P := by simp [dec]
theorem dec_congr {P Q : Prop} (h : P ↔ Q) : dec P = dec Q := by
  by_cases p : P
  · rw [dec_t p, dec_t (h.1 p)]
  · rw [dec_f p, dec_f fun q => p (h.2 q)]
theorem dec_eq {P : Prop} [Decidable P] : dec P = decide P := by by_cases h : P <;> simp [dec, h]
/-! ### Scans -/
def scan {α : Type} (n : Nat) (p : Nat → Option α) : Option α := (List.range n).findSome? p
theorem scan_succ {α : Type} (n : Nat) (p : Nat → Option α) : scan (n + 1) p = (scan n p).or (p n) := by
  unfold scan
  rw [List.range_succ, List.findSome?_append]
  simp [List.findSome?]
  cases p n <;> rfl
theorem scan_next {α : Type} {n : Nat} {p : Nat → Option α} (h : scan n p = none) (k : p n = none) : scan (n + 1) p = none := by
  rw [scan_succ, h, k]; rfl
theorem scan_none {α : Type} {n : Nat} {p : Nat → Option α} : scan n p = none ↔ ∀ i, i < n → p i = none := by
  simp [scan, List.findSome?_eq_none_iff]
theorem scan_hit {α : Type} {n i : Nat} {p : Nat → Option α} {r : α} (hi : i < n) (h : scan i p = none) (k : p i = some r) : scan n p = some r := by
  induction n with
  | zero => omega
  | succ n ih =>
    rw [scan_succ]
    by_cases e : i = n
    · subst e; rw [h, k]; rfl
    · rw [ih (by omega)]; rfl
theorem scan_some {α : Type} {n : Nat} {p : Nat → Option α} {r : α} (h : scan n p = some r) : ∃ i, i < n ∧ p i = some r := by
  unfold scan at h
  obtain ⟨i, hi, k⟩ := List.exists_of_findSome?_eq_some h
  exact ⟨i, by simpa using hi, k⟩
theorem all_succ {P : Nat → Prop} {n : Nat} (h : ∀ i, i < n → P i) (k : P n) : ∀ i, i < n + 1 → P i := fun i hi => by
  by_cases e : i = n
  · subst e; exact k
  · exact h i (by omega)
def coll {α : Type} (n : Nat) (f : Nat → List α) : List α := (List.range n).flatMap f
theorem coll_zero {α : Type} (f : Nat → List α) : coll 0 f = [] := rfl
theorem mem_getD {α : Type} {l : List α} {x d : α} (h : x ∈ l) : ∃ i, i < l.length ∧ l.getD i d = x := by
  obtain ⟨i, hi, e⟩ := List.getElem_of_mem h
  exact ⟨i, hi, by simp [List.getD_eq_getElem?_getD, hi, e]⟩
def Within (l : List Int) (n : Int) : Prop := ∀ i, i < l.length → 0 ≤ l.getD i 0 ∧ l.getD i 0 < n
/-! ### Categories -/
structure Cat where
  ob : Int
  fr : List Int
  to : List Int
  id : List Int
  co : List (List Int)
def Cat.nil : Cat := ⟨0, [], [], [], []⟩
abbrev Cat.F (c : Cat) (f : Int) : Int := c.fr.getD f.toNat 0
abbrev Cat.T (c : Cat) (f : Int) : Int := c.to.getD f.toNat 0
abbrev Cat.I (c : Cat) (x : Int) : Int := c.id.getD x.toNat 0
abbrev Cat.C (c : Cat) (f g : Int) : Int := (c.co.getD f.toNat []).getD g.toNat 0
structure CatB (c : Cat) : Prop where
  ob1 : -9223372036854775808 ≤ c.ob
  ob2 : c.ob ≤ 9223372036854775807
  fr : c.fr.length ≤ 1048576
  to : c.to.length ≤ 1048576
  id : c.id.length ≤ 1048576
  co : c.co.length ≤ 1048576
  row : ∀ f, f < c.co.length → (c.co.getD f []).length ≤ 1048576
def Cat.Entry (c : Cat) (f g : Nat) : Prop :=
  (c.to.getD f 0 = c.fr.getD g 0 ∧ (0 ≤ c.C f g ∧ c.C f g < c.fr.length) ∧ c.F (c.C f g) = c.fr.getD f 0 ∧ c.T (c.C f g) = c.to.getD g 0) ∨
  (c.to.getD f 0 ≠ c.fr.getD g 0 ∧ c.C f g = -1)
structure Shape (c : Cat) : Prop where
  ob0 : 0 ≤ c.ob
  ob8 : c.ob ≤ 8
  m40 : c.fr.length ≤ 40
  tol : c.to.length = c.fr.length
  frw : Within c.fr c.ob
  tow : Within c.to c.ob
  idl : (c.id.length : Int) = c.ob
  idw : Within c.id c.fr.length
  col : c.co.length = c.fr.length
  ide : ∀ x, x < c.id.length → c.F (c.id.getD x 0) = x ∧ c.T (c.id.getD x 0) = x
  coe : ∀ f, f < c.fr.length → (c.co.getD f []).length = c.fr.length ∧ ∀ g, g < c.fr.length → c.Entry f g
def Cat.fault1 (c : Cat) (f : Nat) : Option (Int × Int × Int × Int) :=
  if c.C (c.I (c.F f)) f ≠ f ∨ c.C f (c.I (c.T f)) ≠ f then some (1, f, 0, 0) else none
def Cat.fault2 (c : Cat) (f g h : Nat) : Option (Int × Int × Int × Int) :=
  if 0 ≤ c.C g h ∧ c.C (c.C f g) h ≠ c.C f (c.C g h) then some (2, f, g, h) else none
def Cat.fault2g (c : Cat) (f g : Nat) : Option (Int × Int × Int × Int) :=
  if c.C f g < 0 then none else scan c.fr.length fun h => c.fault2 f g h
def Cat.fault (c : Cat) : Int × Int × Int × Int :=
  ((scan c.fr.length c.fault1).or (scan c.fr.length fun f => scan c.fr.length fun g => c.fault2g f g)).getD (0, 0, 0, 0)
structure IsCat (c : Cat) : Prop extends Shape c where
  unl : ∀ f : Nat, f < c.fr.length → c.C (c.I (c.F f)) f = f
  unr : ∀ f : Nat, f < c.fr.length → c.C f (c.I (c.T f)) = f
  ass : ∀ f g h : Nat, f < c.fr.length → g < c.fr.length → h < c.fr.length → c.T f = c.F g → c.T g = c.F h → c.C (c.C f g) h = c.C f (c.C g h)
theorem Shape.neg {c : Cat} (s : Shape c) {f g : Nat} (hf : f < c.fr.length) (hg : g < c.fr.length) : c.C f g < 0 ↔ c.T f ≠ c.F g := by
  have := (s.coe f hf).2 g hg
  unfold Cat.Entry at this
  simp only [Cat.T, Cat.F, Int.toNat_natCast]
  rcases this with ⟨h1, h2, h3⟩ | ⟨h1, h2⟩
  · constructor
    · intro h; omega
    · intro h; exact absurd h1 h
  · constructor
    · intro _; exact h1
    · intro _; omega
theorem Shape.fault_zero {c : Cat} (s : Shape c) : c.fault.1 = 0 ↔ IsCat c := by
  unfold Cat.fault
  constructor
  · intro h
    cases h1 : scan c.fr.length c.fault1 with
    | some r =>
      obtain ⟨i, hi, k⟩ := scan_some h1
      unfold Cat.fault1 at k
      split at k
      · simp at k; subst k; simp [h1] at h
      · cases k
    | none =>
      rw [h1] at h
      cases h2 : (scan c.fr.length fun f => scan c.fr.length fun g => c.fault2g f g) with
      | some r =>
        obtain ⟨i, hi, k⟩ := scan_some h2
        obtain ⟨j, hj, k⟩ := scan_some k
        unfold Cat.fault2g at k
        split at k
        · cases k
        · obtain ⟨l, hl, k⟩ := scan_some k
          unfold Cat.fault2 at k
          split at k
          · simp at k; subst k; simp [h2] at h
          · cases k
      | none =>
        rw [scan_none] at h1 h2
        refine ⟨s, fun f hf => ?_, fun f hf => ?_, fun f g h hf hg hh e1 e2 => ?_⟩
        · have := h1 f hf
          unfold Cat.fault1 at this
          split at this
          · cases this
          · rename_i n; exact Classical.byContradiction fun q => n (.inl q)
        · have := h1 f hf
          unfold Cat.fault1 at this
          split at this
          · cases this
          · rename_i n; exact Classical.byContradiction fun q => n (.inr q)
        · have := h2 f hf
          rw [scan_none] at this
          have := this g hg
          unfold Cat.fault2g at this
          rw [if_neg (by rw [s.neg hf hg]; exact fun q => q e1), scan_none] at this
          have := this h hh
          unfold Cat.fault2 at this
          split at this
          · cases this
          · rename_i n
            refine Classical.byContradiction fun q => n ⟨?_, q⟩
            have := (s.neg hg hh)
            exact Int.not_lt.1 fun q => this.1 q e2
  · intro h
    have h1 : scan c.fr.length c.fault1 = none := scan_none.2 fun f hf => by
      unfold Cat.fault1
      rw [if_neg]
      rintro (q | q)
      · exact q (h.unl f hf)
      · exact q (h.unr f hf)
    have h2 : (scan c.fr.length fun f => scan c.fr.length fun g => c.fault2g f g) = none := scan_none.2 fun f hf => scan_none.2 fun g hg => by
      unfold Cat.fault2g
      split
      · rfl
      · rename_i n1
        refine scan_none.2 fun h' hh => ?_
        unfold Cat.fault2
        rw [if_neg]
        rintro ⟨q1, q2⟩
        have e1 := s.neg hf hg
        have e2 := s.neg hg hh
        exact q2 (h.ass f g h' hf hg hh (Classical.byContradiction fun q => n1 (e1.2 q)) (Classical.byContradiction fun q => by have := e2.2 q; omega))
    rw [h1, h2]; rfl
theorem Cat.fault1_t {c : Cat} {f : Nat} (h : c.C (c.I (c.F f)) f ≠ f ∨ c.C f (c.I (c.T f)) ≠ f) : c.fault1 f = some ((1 : Int), (f : Int), (0 : Int), (0 : Int)) := if_pos h
theorem Cat.fault1_f {c : Cat} {f : Nat} (h : c.C (c.I (c.F f)) f = f) (k : c.C f (c.I (c.T f)) = f) : c.fault1 f = none := if_neg fun q => q.elim (fun q => q h) fun q => q k
theorem Cat.fault2_t {c : Cat} {f g h : Nat} (a : 0 ≤ c.C g h) (b : c.C (c.C f g) h ≠ c.C f (c.C g h)) : c.fault2 f g h = some ((2 : Int), (f : Int), (g : Int), (h : Int)) := if_pos ⟨a, b⟩
theorem Cat.fault2_f {c : Cat} {f g h : Nat} (a : 0 ≤ c.C g h → c.C (c.C f g) h = c.C f (c.C g h)) : c.fault2 f g h = none := if_neg fun q => q.2 (a q.1)
theorem Cat.fault2g_f {c : Cat} {f g : Nat} (a : c.C f g < 0) : c.fault2g f g = none := if_pos a
theorem Cat.fault2g_t {c : Cat} {f g : Nat} (a : ¬ c.C f g < 0) : c.fault2g f g = scan c.fr.length fun h => c.fault2 f g h := if_neg a
theorem Cat.fault_1 {c : Cat} {f : Nat} {r : Int × Int × Int × Int} (h : scan f c.fault1 = none) (hf : f < c.fr.length) (k : c.fault1 f = some r) : c.fault = r := by
  unfold Cat.fault
  rw [scan_hit hf h k]; rfl
theorem Cat.fault_2 {c : Cat} {f g h : Nat} {r : Int × Int × Int × Int} (a : scan c.fr.length c.fault1 = none) (h1 : scan f (fun f => scan c.fr.length fun g => c.fault2g f g) = none) (hf : f < c.fr.length)
    (h2 : scan g (fun g => c.fault2g f g) = none) (hg : g < c.fr.length) (n : ¬ c.C f g < 0) (h3 : scan h (fun h => c.fault2 f g h) = none) (hh : h < c.fr.length) (k : c.fault2 f g h = some r) : c.fault = r := by
  unfold Cat.fault
  rw [a, scan_hit hf h1 (scan_hit hg h2 (by rw [Cat.fault2g_t n]; exact scan_hit hh h3 k))]; rfl
theorem Cat.fault_0 {c : Cat} (a : scan c.fr.length c.fault1 = none) (h1 : scan c.fr.length (fun f => scan c.fr.length fun g => c.fault2g f g) = none) : c.fault = (0, 0, 0, 0) := by
  unfold Cat.fault
  rw [a, h1]; rfl
def Cat.homI (c : Cat) (x y : Int) (i : Nat) : List Int := coll i fun f => if c.fr.getD f 0 = x ∧ c.to.getD f 0 = y then [(f : Int)] else []
def Cat.hom (c : Cat) (x y : Int) : List Int := c.homI x y c.fr.length
theorem Cat.homI_zero (c : Cat) (x y : Int) : c.homI x y 0 = [] := rfl
/-! ### Functors -/
structure Fun where
  src : Cat
  tgt : Cat
  obs : List Int
  ars : List Int
def Fun.nil : Fun := ⟨.nil, .nil, [], []⟩
abbrev Fun.O (f : Fun) (x : Int) : Int := f.obs.getD x.toNat 0
abbrev Fun.A (f : Fun) (a : Int) : Int := f.ars.getD a.toNat 0
structure Fits (f : Fun) : Prop where
  obl : (f.obs.length : Int) = f.src.ob
  arl : f.ars.length = f.src.fr.length
  obw : Within f.obs f.tgt.ob
  arw : Within f.ars f.tgt.fr.length
  endf : ∀ a, a < f.ars.length → f.tgt.F (f.ars.getD a 0) = f.O (f.src.F a) ∧ f.tgt.T (f.ars.getD a 0) = f.O (f.src.T a)
  unit : ∀ x, x < f.src.id.length → f.A (f.src.id.getD x 0) = f.tgt.I (f.O x)
  comp : ∀ a b : Nat, a < f.src.fr.length → b < f.src.fr.length → 0 ≤ f.src.C a b → f.A (f.src.C a b) = f.tgt.C (f.A a) (f.A b)
structure IsFun (f : Fun) : Prop where
  src : IsCat f.src
  tgt : IsCat f.tgt
  fits : Fits f
/-! ### Set functors -/
structure SF where
  shape : Cat
  sizes : List Int
  acts : List (List Int)
structure SM where
  src : SF
  tgt : SF
  parts : List (List Int)
def SF.nil : SF := ⟨.nil, [], []⟩
def SM.nil : SM := ⟨.nil, .nil, []⟩
end Go.Cats
end
section
namespace Go.Cats
open Go.Lib
abbrev Bts := List UInt8
def pj (p : Bts) : List Bts → List Bts
  | [] => [p]
  | w :: r => (p ++ w) :: r
def spl (c : UInt8) : Bts → List Bts
  | [] => [[]]
  | b :: l => if b = c then [] :: spl c l else pj [b] (spl c l)
section
variable {c b : UInt8} {s l p q : Bts} {x : List Bts} {i : Nat}
theorem spl_eq : spl c (c :: l) = [] :: spl c l := by rw [spl, if_pos rfl]
theorem spl_cons (h : ¬ b = c) : spl c (b :: l) = pj [b] (spl c l) := by rw [spl, if_neg h]
theorem spl_ne : spl c s ≠ [] := by
  cases s with
  | nil => simp [spl]
  | cons b l =>
    unfold spl
    split
    · simp
    · cases spl c l <;> simp [pj]
theorem pj_nil (h : x ≠ []) : pj [] x = x := by
  cases x with
  | nil => exact absurd rfl h
  | cons w r => rfl
theorem pj_pj : pj p (pj q x) = pj (p ++ q) x := by
  cases x with
  | nil => rfl
  | cons w r => simp [pj]
theorem spl_no (h : c ∉ p) : spl c p = [p] := by
  induction p with
  | nil => rfl
  | cons b l ih =>
    simp only [List.mem_cons, not_or] at h
    rw [spl_cons (fun e => h.1 e.symm), ih h.2]
    rfl
theorem spl_app (h : c ∉ p) : spl c (p ++ l) = pj p (spl c l) := by
  induction p with
  | nil => rw [pj_nil spl_ne]; rfl
  | cons b p ih =>
    simp only [List.mem_cons, not_or] at h
    rw [List.cons_append, spl_cons (fun e => h.1 e.symm), ih h.2, pj_pj]
    rfl
theorem spl_hit (h : c ∉ p) : spl c (p ++ c :: l) = p :: spl c l := by
  rw [spl_app h, spl_eq]
  simp [pj]
end
def stI (s : Bts) (c : UInt8) : Nat → List Bts × Nat
  | 0 => ([], 0)
  | i + 1 => if s.getD i 0 = c then ((stI s c i).1 ++ [(s.drop (stI s c i).2).take (i - (stI s c i).2)], i + 1) else stI s c i
section
variable {s : Bts} {c : UInt8} {i : Nat}
theorem stI_le : ∀ i, (stI s c i).2 ≤ i
  | 0 => Nat.le_refl 0
  | i + 1 => by
    unfold stI
    split
    · exact Nat.le_refl _
    · have := stI_le i; omega
theorem stI_yes (h : s.getD i 0 = c) : stI s c (i + 1) = ((stI s c i).1 ++ [(s.drop (stI s c i).2).take (i - (stI s c i).2)], i + 1) := by
  rw [stI, if_pos h]
theorem stI_no (h : ¬ s.getD i 0 = c) : stI s c (i + 1) = stI s c i := by
  rw [stI, if_neg h]
theorem stI_len : ∀ i, (stI s c i).1.length ≤ i
  | 0 => Nat.le_refl 0
  | i + 1 => by
    have := stI_len i
    unfold stI
    split
    · rw [List.length_append]; simp; omega
    · omega
theorem drop_at (h : i < s.length) : s.drop i = s.getD i 0 :: s.drop (i + 1) := by
  rw [List.drop_eq_getElem_cons h, List.getD_eq_getElem?_getD, List.getElem?_eq_getElem h]; rfl
theorem stI_inv : ∀ i, i ≤ s.length → spl c s = (stI s c i).1 ++ pj ((s.drop (stI s c i).2).take (i - (stI s c i).2)) (spl c (s.drop i))
  | 0, _ => by simp [stI, pj_nil spl_ne]
  | i + 1, hi => by
    have h1 := stI_inv i (by omega)
    have h2 := stI_le (s := s) (c := c) i
    have h3 := drop_at (s := s) (i := i) (by omega)
    rw [h3] at h1
    by_cases h : s.getD i 0 = c
    · rw [stI_yes h, h1, h, spl_eq]
      simp only [Nat.sub_self, List.take_zero, List.append_assoc, List.singleton_append]
      rw [pj_nil spl_ne]
      simp [pj]
    · rw [stI_no h, h1, spl_cons h, pj_pj]
      congr 2
      rw [show i + 1 - (stI s c i).2 = (i - (stI s c i).2) + 1 by omega, List.take_add_one]
      congr 1
      rw [List.getElem?_drop, show (stI s c i).2 + (i - (stI s c i).2) = i by omega, List.getElem?_eq_getElem (by omega)]
      rw [List.getD_eq_getElem?_getD, List.getElem?_eq_getElem (by omega)]
      rfl
theorem stI_end : spl c s = (stI s c s.length).1 ++ [s.drop (stI s c s.length).2] := by
  have h1 := stI_inv (s := s) (c := c) s.length (Nat.le_refl _)
  have h2 := stI_le (s := s) (c := c) s.length
  rw [List.drop_length] at h1
  rw [h1]
  simp only [spl, pj, List.append_nil]
  rw [List.take_of_length_le (by rw [List.length_drop]; exact Nat.le_refl _)]
end
theorem occ_one {s : Bts} {c : UInt8} {j : Nat} (h : j < s.length) : occAt s [c] j = true ↔ s.getD j 0 = c := by
  unfold occAt
  rw [drop_at h]
  simp
  exact ⟨fun h => h.symm, fun h => h.symm⟩
theorem split_one {c : UInt8} : ∀ (k : Nat) (s : Bts), s.count c ≤ k → splitK [c] 0 k s = spl c s
  | 0, s, h => by
    have : c ∉ s := fun hm => by have := List.count_pos_iff.2 hm; omega
    rw [spl_no this]; rfl
  | k + 1, s, h => by
    rcases index_spec s [c] with ⟨h1, h2⟩ | ⟨i, h1, h2, h3, h4⟩
    · have hno : c ∉ s := fun hm => by
        obtain ⟨j, hj, e⟩ := List.getElem_of_mem hm
        have := (occ_one (s := s) (c := c) hj).2 (by rw [List.getD_eq_getElem?_getD, List.getElem?_eq_getElem hj]; exact e)
        rw [h2 j (by omega)] at this
        cases this
      rw [spl_no hno]
      unfold splitK
      rw [if_pos (by rw [h1]; rfl)]
    · have hi : i < s.length := by
        have := index_room s [c] (by omega)
        rw [h1] at this
        simp at this
        omega
      have e1 := (occ_one hi).1 h3
      have hsp : s = s.take i ++ c :: s.drop (i + 1) := by
        conv => lhs; rw [← List.take_append_drop i s, drop_at hi, e1]
      have hno : c ∉ s.take i := fun hm => by
        obtain ⟨j, hj, e⟩ := List.getElem_of_mem hm
        rw [List.length_take] at hj
        have := (occ_one (s := s) (c := c) (j := j) (by omega)).2 (by rw [List.getD_eq_getElem?_getD, List.getElem?_eq_getElem (by omega)]; rw [List.getElem_take] at e; exact e)
        rw [h4 j (by omega)] at this
        cases this
      have hct : (s.drop (i + 1)).count c ≤ k := by
        rw [hsp, List.count_append, List.count_cons_self] at h
        omega
      conv => rhs; rw [hsp, spl_hit hno]
      unfold splitK
      rw [if_neg (by rw [h1]; simp <;> omega), h1]
      have := split_one k (s.drop (i + 1)) hct
      simp only [Nat.add_zero, Int.toNat_natCast, List.length_singleton]
      rw [this]
theorem split_spl {c : UInt8} {s : Bts} : split s [c] = spl c s := by
  unfold split
  exact split_one _ s (by rw [count_one]; exact Nat.le_refl _)
/-! ### Parts of a text, split at each blank, bar and blank -/
def bar : Bts := [32, 124, 32]
def ptI (s : Bts) : Nat → List Bts × Nat
  | 0 => ([], 0)
  | i + 1 => if (s.drop i).take 3 = bar ∧ (ptI s i).2 ≤ i then ((ptI s i).1 ++ [(s.drop (ptI s i).2).take (i - (ptI s i).2)], i + 3) else ptI s i
def parts (s : Bts) : List Bts := (ptI s (s.length - 2)).1 ++ [s.drop (ptI s (s.length - 2)).2]
def sps : Nat → Bts → List Bts := splitK bar 0
section
variable {s : Bts} {i k : Nat}
theorem ptI_yes (h : (s.drop i).take 3 = bar) (h2 : (ptI s i).2 ≤ i) : ptI s (i + 1) = ((ptI s i).1 ++ [(s.drop (ptI s i).2).take (i - (ptI s i).2)], i + 3) := by
  rw [ptI, if_pos ⟨h, h2⟩]
theorem ptI_no (h : ¬ ((s.drop i).take 3 = bar ∧ (ptI s i).2 ≤ i)) : ptI s (i + 1) = ptI s i := by
  rw [ptI, if_neg h]
theorem ptI_le : ∀ i, (ptI s i).2 ≤ i + 2
  | 0 => Nat.zero_le _
  | i + 1 => by
    have := ptI_le i
    unfold ptI
    split
    · exact Nat.le_refl _
    · omega
theorem ptI_len : ∀ i, (ptI s i).1.length ≤ i
  | 0 => Nat.le_refl 0
  | i + 1 => by
    have := ptI_len i
    unfold ptI
    split
    · rw [List.length_append]; simp; omega
    · omega
theorem occ_bar (h : i + 3 ≤ s.length) : occAt s bar i = true ↔ (s.drop i).take 3 = bar := by
  rw [occAt_iff_take s bar i h]
  simp [bar]
theorem occ_bar_room (h : occAt s bar i = true) : i + 3 ≤ s.length := by
  rcases occAt_room h with h | h
  · exact h
  · cases h
theorem sps_miss (h : index s bar = -1) : sps k s = [s] := by
  cases k with
  | zero => rfl
  | succ k => unfold sps splitK; rw [if_pos (by rw [h]; rfl)]
theorem sps_hit {i : Nat} (h : index s bar = i) : sps (k + 1) s = s.take i :: sps k (s.drop (i + 3)) := by
  show splitK bar 0 (k + 1) s = _
  unfold splitK
  rw [if_neg (by rw [h]; simp <;> omega), h]
  rfl
theorem sps_fuel : ∀ (n k m : Nat) (s : Bts), s.length ≤ n → s.length ≤ k → s.length ≤ m → sps k s = sps m s
  | n, k, m, s, hn, hk, hm => by
    rcases index_spec s bar with ⟨h1, _⟩ | ⟨i, h1, h2, h3, h4⟩
    · rw [sps_miss h1, sps_miss h1]
    · have hr := occ_bar_room h3
      obtain ⟨k', rfl⟩ : ∃ k', k = k' + 1 := ⟨k - 1, by omega⟩
      obtain ⟨m', rfl⟩ : ∃ m', m = m' + 1 := ⟨m - 1, by omega⟩
      obtain ⟨n', rfl⟩ : ∃ n', n = n' + 1 := ⟨n - 1, by omega⟩
      have hl : (s.drop (i + 3)).length = s.length - (i + 3) := List.length_drop
      rw [sps_hit h1, sps_hit h1, sps_fuel n' k' m' (s.drop (i + 3)) (by omega) (by omega) (by omega)]
theorem occ_drop {s : Bts} {i j : Nat} : occAt (s.drop i) bar j = occAt s bar (i + j) := by
  unfold occAt
  rw [List.drop_drop]
theorem ptI_inv : ∀ i, i + 2 ≤ s.length → sps s.length s = (ptI s i).1 ++ sps s.length (s.drop (ptI s i).2) ∧ (∀ j, (ptI s i).2 ≤ j → j < i → occAt s bar j = false) ∧ (ptI s i).2 ≤ s.length
  | 0, _ => ⟨by simp [ptI], fun j _ h => absurd h (Nat.not_lt_zero _), Nat.zero_le _⟩
  | i + 1, hi => by
    obtain ⟨h1, h2, h3⟩ := ptI_inv i (by omega)
    by_cases h : (s.drop i).take 3 = bar ∧ (ptI s i).2 ≤ i
    · rw [ptI_yes h.1 h.2]
      have hix : index (s.drop (ptI s i).2) bar = ((i - (ptI s i).2 : Nat) : Int) := by
        refine index_first (by rw [List.length_drop]; omega) ?_ fun j hj => ?_
        · rw [occ_drop, show (ptI s i).2 + (i - (ptI s i).2) = i by omega]
          exact (occ_bar (by omega)).2 h.1
        · rw [occ_drop]
          exact h2 _ (by omega) (by omega)
      refine ⟨?_, fun j h4 h5 => by omega, by simp only; omega⟩
      rw [h1]
      obtain ⟨k, hk⟩ : ∃ k, s.length = k + 1 := ⟨s.length - 1, by omega⟩
      conv => lhs; rw [hk, sps_hit hix]
      rw [List.append_assoc, List.singleton_append, List.drop_drop, show (ptI s i).2 + (i - (ptI s i).2 + 3) = i + 3 by omega]
      congr 2
      exact sps_fuel s.length _ _ _ (by rw [List.length_drop]; omega) (by rw [List.length_drop]; omega) (by rw [List.length_drop]; omega)
    · rw [ptI_no h]
      refine ⟨h1, fun j h4 h5 => ?_, h3⟩
      by_cases e : j = i
      · subst e
        cases ho : occAt s bar j with
        | false => rfl
        | true => exact absurd ⟨(occ_bar (by omega)).1 ho, h4⟩ h
      · exact h2 j h4 (by omega)
theorem parts_sps : parts s = sps s.length s := by
  by_cases h2 : 2 ≤ s.length
  · obtain ⟨a1, a2, a3⟩ := ptI_inv (s := s) (s.length - 2) (by omega)
    unfold parts
    rw [a1, sps_miss]
    refine index_none fun j hj => ?_
    rw [occ_drop]
    cases ho : occAt s bar ((ptI s (s.length - 2)).2 + j) with
    | false => rfl
    | true =>
      have := occ_bar_room ho
      rw [a2 _ (by omega) (by omega)] at ho
      cases ho
  · unfold parts
    rw [show s.length - 2 = 0 by omega]
    rw [sps_miss]
    · rfl
    · refine index_none fun j hj => ?_
      cases ho : occAt s bar j with
      | false => rfl
      | true => have := occ_bar_room ho; omega
theorem parts_cut : parts s = if (cut s bar).2.2 = true then (cut s bar).1 :: parts (cut s bar).2.1 else [s] := by
  rw [parts_sps]
  unfold cut
  rcases index_spec s bar with ⟨h1, _⟩ | ⟨i, h1, h2, h3, h4⟩
  · rw [h1]; simp
    exact sps_miss h1
  · rw [h1]
    have hr := occ_bar_room h3
    simp only [Int.natCast_nonneg, if_true, Int.toNat_natCast]
    rw [parts_sps]
    obtain ⟨k, hk⟩ : ∃ k, s.length = k + 1 := ⟨s.length - 1, by omega⟩
    conv => lhs; rw [hk, sps_hit h1]
    congr 1
    exact sps_fuel s.length _ _ _ (by rw [List.length_drop]; omega) (by rw [List.length_drop]; omega) (by rw [show bar.length = 3 from rfl]; exact Nat.le_refl _)
end
end Go.Cats
end
section
namespace Go.Cats
open Go.Lib
def Dg (b : UInt8) : Prop := 48 ≤ b.toNat ∧ b.toNat ≤ 57
instance (b : UInt8) : Decidable (Dg b) := by unfold Dg; infer_instance
def valF (n : Nat) (w : Bts) : Nat := w.foldl (fun n b => n * 10 + (b.toNat - 48)) n
def val (w : Bts) : Nat := valF 0 w
def Lz (w : Bts) : Prop := 1 < w.length ∧ w.getD 0 0 = 48
structure RefOk (w : Bts) : Prop where
  pos : 0 < w.length
  le : w.length ≤ 9
  lz : ¬ Lz w
  dg : ∀ b ∈ w, Dg b
structure DigOk (w : Bts) : Prop where
  ref : RefOk w
  le6 : w.length ≤ 6
section
variable {w p : Bts} {b : UInt8} {n : Nat}
theorem val_snoc : val (p ++ [b]) = val p * 10 + (b.toNat - 48) := by unfold val valF; rw [List.foldl_append]; rfl
theorem valF_eq : ∀ (w : Bts) (n : Nat), valF n w = n * 10 ^ w.length + val w
  | [], n => by simp [valF, val]
  | b :: w, n => by
    have h1 := valF_eq w (n * 10 + (b.toNat - 48))
    have h2 := valF_eq w (0 * 10 + (b.toNat - 48))
    have e1 : valF n (b :: w) = valF (n * 10 + (b.toNat - 48)) w := rfl
    have e2 : val (b :: w) = valF (0 * 10 + (b.toNat - 48)) w := rfl
    rw [e1, e2, h1, h2, List.length_cons, Nat.pow_succ]
    simp only [Nat.zero_mul, Nat.zero_add, Nat.add_mul]
    rw [Nat.mul_assoc, Nat.mul_comm 10, Nat.add_assoc]
theorem val_cons : val (b :: w) = (b.toNat - 48) * 10 ^ w.length + val w := by
  have h := valF_eq w (0 * 10 + (b.toNat - 48))
  have e : val (b :: w) = valF (0 * 10 + (b.toNat - 48)) w := rfl
  rw [e, h, Nat.zero_mul, Nat.zero_add]
theorem val_lt : ∀ {w : Bts}, (∀ b ∈ w, Dg b) → val w < 10 ^ w.length
  | [], _ => by simp [val, valF]
  | b :: w, h => by
    have h1 := val_lt (w := w) fun c hc => h c (by simp [hc])
    have h2 := (h b (by simp)).2
    rw [val_cons, List.length_cons, Nat.pow_succ]
    have h3 : (b.toNat - 48) * 10 ^ w.length ≤ 9 * 10 ^ w.length := Nat.mul_le_mul_right _ (by omega)
    omega
theorem val_take {i : Nat} (h : i < w.length) : val (w.take (i + 1)) = val (w.take i) * 10 + ((w.getD i 0).toNat - 48) := by
  rw [List.take_succ_eq_append_getElem h, val_snoc, List.getD_eq_getElem?_getD, List.getElem?_eq_getElem h]; rfl
theorem val_ge (h : RefOk w) (h7 : 7 ≤ w.length) : 1000000 ≤ val w := by
  cases w with
  | nil => simp at h7
  | cons b w =>
    have h1 := h.dg b (by simp)
    have h2 : b.toNat ≠ 48 := fun e => h.lz ⟨by omega, by
      have : b = 48 := UInt8.toNat_inj.1 e
      rw [this]; rfl⟩
    have h3 := h1.1
    rw [val_cons]
    have h4 : 1 * 10 ^ w.length ≤ (b.toNat - 48) * 10 ^ w.length := Nat.mul_le_mul_right _ (by omega)
    have h5 : 10 ^ 6 ≤ 10 ^ w.length := Nat.pow_le_pow_right (by decide) (by simp at h7; omega)
    omega
end
def decB (n : Nat) : Bts := if n < 10 then [UInt8.ofNat (48 + n)] else decB (n / 10) ++ [UInt8.ofNat (48 + n % 10)]
theorem decB_lt {n : Nat} (h : n < 10) : decB n = [UInt8.ofNat (48 + n)] := by rw [decB, if_pos h]
theorem decB_ge {n : Nat} (h : ¬ n < 10) : decB n = decB (n / 10) ++ [UInt8.ofNat (48 + n % 10)] := by rw [decB, if_neg h]
theorem decB_val : ∀ (k : Nat) (w : Bts), w.length ≤ k → 0 < w.length → ¬ Lz w → (∀ b ∈ w, Dg b) → decB (val w) = w
  | 0, w, h, h0, _, _ => by omega
  | k + 1, w, h, h0, hz, hd => by
    obtain ⟨p, b, rfl⟩ : ∃ p b, w = p ++ [b] := ⟨w.dropLast, w.getLast (by intro e; rw [e] at h0; simp at h0), (List.dropLast_concat_getLast _).symm⟩
    have hb := hd b (by simp)
    have e48 : UInt8.ofNat b.toNat = b := UInt8.ofNat_toNat
    by_cases hp : p = []
    · subst hp
      have e : val ([] ++ [b]) = b.toNat - 48 := by rw [val_snoc]; simp [val, valF]
      rw [e, decB_lt (by have := hb.2; omega), show 48 + (b.toNat - 48) = b.toNat by have := hb.1; omega, e48]
      rfl
    · have hpl : 0 < p.length := List.length_pos_iff.2 hp
      have hz2 : ¬ (p.getD 0 0 = 48) := fun e => hz ⟨by simp; omega, by
        rw [List.getD_eq_getElem?_getD, List.getElem?_append_left hpl, ← List.getD_eq_getElem?_getD]; exact e⟩
      have hv : 1 ≤ val p := by
        cases p with
        | nil => exact absurd rfl hp
        | cons c r =>
          have hc := hd c (by simp)
          have h2 : c.toNat ≠ 48 := fun e => hz2 (by
            have : c = 48 := UInt8.toNat_inj.1 e
            rw [this]; rfl)
          rw [val_cons]
          have h4 : 1 * 10 ^ r.length ≤ (c.toNat - 48) * 10 ^ r.length := Nat.mul_le_mul_right _ (by have := hc.1; omega)
          have h5 : 0 < 10 ^ r.length := Nat.pow_pos (by decide)
          omega
      rw [val_snoc, decB_ge (by omega), show (val p * 10 + (b.toNat - 48)) / 10 = val p by have := hb.2; omega, show (val p * 10 + (b.toNat - 48)) % 10 = b.toNat - 48 by have := hb.2; omega, show 48 + (b.toNat - 48) = b.toNat by have := hb.1; omega, e48]
      rw [decB_val k p (by simp at h; omega) hpl (fun h => hz2 h.2) fun c hc => hd c (by simp [hc])]
theorem RefOk.dec {w : Bts} (h : RefOk w) : decB (val w) = w := decB_val _ w (Nat.le_refl _) h.pos h.lz h.dg
/-! ### Words and lists of numbers -/
def wordsT (s : Bts) : List Bts := if s = [45] then [] else spl 32 s
def numsT (s : Bts) : List Int := (wordsT s).map fun w => (val w : Int)
def lcat (L : List Int) : Bts := L.flatMap fun n => 32 :: decB n.toNat
def decsT (L : List Int) : Bts := if lcat L = [] then [45] else (lcat L).drop 1
def joinT (c : UInt8) : List Bts → Bts
  | [] => []
  | w :: r => (c :: w) ++ joinT c r
theorem joinT_pj {c : UInt8} {p : Bts} {x : List Bts} (h : x ≠ []) : joinT c (pj p x) = c :: (p ++ (joinT c x).drop 1) := by
  cases x with
  | nil => exact absurd rfl h
  | cons w r => simp [pj, joinT]
theorem joinT_spl {c : UInt8} : ∀ s : Bts, joinT c (spl c s) = c :: s
  | [] => by simp [spl, joinT]
  | b :: l => by
    by_cases h : b = c
    · subst h
      rw [spl_eq, joinT, joinT_spl l]; rfl
    · rw [spl_cons h, joinT_pj spl_ne, joinT_spl l]; rfl
theorem lcat_words {s : Bts} (h : ∀ w ∈ wordsT s, RefOk w) : decsT (numsT s) = s := by
  unfold decsT numsT wordsT at *
  by_cases e : s = [45]
  · rw [if_pos e, e]; simp [lcat]
  · rw [if_neg e] at h ⊢
    have key : ∀ x : List Bts, (∀ w ∈ x, RefOk w) → lcat (x.map fun w => (val w : Int)) = joinT 32 x := fun x => by
      induction x with
      | nil => intro _; rfl
      | cons w r ih =>
        intro hx
        have h1 := ih fun v hv => hx v (by simp [hv])
        have h2 := (hx w (by simp)).dec
        unfold lcat at h1 ⊢
        rw [List.map_cons, List.flatMap_cons, h1, joinT, Int.toNat_natCast, h2]
    rw [key _ h, joinT_spl, if_neg (by simp)]
    rfl
/-! ### The text of a functor -/
theorem spl_mid {c : UInt8} {l : Bts} : ∀ p : Bts, spl c (p ++ c :: l) = spl c p ++ spl c l
  | [] => by rw [List.nil_append, spl_eq]; rfl
  | b :: p => by
    by_cases h : b = c
    · subst h
      rw [List.cons_append, spl_eq, spl_eq, spl_mid p]; rfl
    · rw [List.cons_append, spl_cons h, spl_cons h, spl_mid p]
      cases hx : spl c p with
      | nil => exact absurd hx spl_ne
      | cons w r => rfl
theorem no_bar {a : Bts} (h : ∀ w ∈ wordsT a, RefOk w) : index a bar = -1 := by
  rcases index_spec a bar with ⟨h1, _⟩ | ⟨i, h1, h2, h3, h4⟩
  · exact h1
  · exfalso
    have hr := occ_bar_room h3
    have e1 := (occ_bar hr).1 h3
    have e2 : a = a.take i ++ 32 :: ([124] ++ 32 :: a.drop (i + 3)) := by
      conv => lhs; rw [← List.take_append_drop i a]
      congr 1
      rw [← List.take_append_drop 3 (a.drop i), e1, List.drop_drop]; rfl
    have hne : a ≠ [45] := fun e => by rw [e] at hr; simp at hr
    unfold wordsT at h
    rw [if_neg hne] at h
    have h5 : [124] ∈ spl 32 a := by
      rw [e2, spl_mid, spl_mid]
      simp [spl, pj]
    have h6 := (h _ h5).dg 124 (by simp)
    exact absurd h6.2 (by decide)
structure PrgF (c d : Cat) (t : Bts) : Prop where
  found : (cut t bar).2.2 = true
  one : ∀ w ∈ wordsT (cut t bar).1, DigOk w
  two : ∀ w ∈ wordsT (cut t bar).2.1, DigOk w
  fn : IsFun ⟨c, d, numsT (cut t bar).1, numsT (cut t bar).2.1⟩
structure RefF (c d : Cat) (t a b : Bts) : Prop where
  prt : parts t = [a, b]
  one : (wordsT a).length ≤ 8 ∧ ∀ w ∈ wordsT a, RefOk w
  two : (wordsT b).length ≤ 40 ∧ ∀ w ∈ wordsT b, RefOk w
  fn : IsFun ⟨c, d, numsT a, numsT b⟩
  text : decsT (numsT a) ++ bar ++ decsT (numsT b) = t
theorem cut_join {t : Bts} (h : (cut t bar).2.2 = true) : (cut t bar).1 ++ bar ++ (cut t bar).2.1 = t := by
  unfold cut at h ⊢
  rcases index_spec t bar with ⟨h1, _⟩ | ⟨i, h1, h2, h3, h4⟩
  · rw [h1] at h; simp at h
  · rw [h1]
    have hr := occ_bar_room h3
    have e1 := (occ_bar hr).1 h3
    simp only [Int.natCast_nonneg, if_true, Int.toNat_natCast]
    conv => rhs; rw [← List.take_append_drop i t, ← List.take_append_drop 3 (t.drop i), e1, List.drop_drop]
    rw [List.append_assoc]; rfl
theorem cut_no {a : Bts} (h : index a bar = -1) : parts a = [a] := by rw [parts_sps, sps_miss h]
theorem PrgF.ref {c d : Cat} {t : Bts} (h : PrgF c d t) : RefF c d t (cut t bar).1 (cut t bar).2.1 := by
  have r1 := fun w hw => (h.one w hw).ref
  have r2 := fun w hw => (h.two w hw).ref
  refine ⟨?_, ⟨?_, r1⟩, ⟨?_, r2⟩, h.fn, ?_⟩
  · rw [parts_cut, if_pos h.found, cut_no (no_bar r2)]
  · have h1 := h.fn.fits.obl
    have h2 := h.fn.src.toShape.ob8
    have h3 : (numsT (cut t bar).1).length = (wordsT (cut t bar).1).length := by unfold numsT; rw [List.length_map]
    simp only at h1 h2
    omega
  · have h1 := h.fn.fits.arl
    have h2 := h.fn.src.toShape.m40
    have h3 : (numsT (cut t bar).2.1).length = (wordsT (cut t bar).2.1).length := by unfold numsT; rw [List.length_map]
    simp only at h1 h2
    omega
  · rw [lcat_words r1, lcat_words r2]
    exact cut_join h.found
theorem RefF.prg {c d : Cat} {t a b : Bts} (h : RefF c d t a b) : PrgF c d t ∧ a = (cut t bar).1 ∧ b = (cut t bar).2.1 := by
  have h0 := h.prt
  rw [parts_cut] at h0
  by_cases hf : (cut t bar).2.2 = true
  · rw [if_pos hf] at h0
    have e1 : a = (cut t bar).1 := by simp at h0; exact h0.1.symm
    have e2 : parts (cut t bar).2.1 = [b] := by simp at h0; exact h0.2
    have e3 : b = (cut t bar).2.1 := by
      rw [parts_cut] at e2
      split at e2
      · simp at e2
        obtain ⟨_, e2⟩ := e2
        unfold parts at e2
        simp at e2
      · simp at e2; exact e2.symm
    subst e1 e3
    have key : ∀ (s : Bts) (B : Int), B ≤ 1000 → (∀ w ∈ wordsT s, RefOk w) → (∀ i, i < (numsT s).length → (numsT s).getD i 0 < B) → ∀ w ∈ wordsT s, DigOk w := fun s B hB h1 h2 w hw => by
      refine ⟨h1 w hw, ?_⟩
      apply Classical.byContradiction
      intro hgt
      have h3 := val_ge (h1 w hw) (by omega)
      obtain ⟨i, hi, e⟩ := List.getElem_of_mem hw
      have h4 := h2 i (by unfold numsT; rw [List.length_map]; exact hi)
      unfold numsT at h4
      rw [List.getD_eq_getElem?_getD, List.getElem?_map, List.getElem?_eq_getElem hi, e] at h4
      simp at h4
      omega
    have o8 := h.fn.tgt.toShape.ob8
    have m40 := h.fn.tgt.toShape.m40
    exact ⟨⟨hf, key _ 9 (by decide) h.one.2 (fun i hi => by have := (h.fn.fits.obw i hi).2; simp only at this o8; omega), key _ 41 (by decide) h.two.2 (fun i hi => by have := (h.fn.fits.arw i hi).2; simp only at this m40; omega), h.fn⟩, rfl, rfl⟩
  · rw [if_neg hf] at h0
    simp at h0
end Go.Cats
end
section
namespace Go.Cats
theorem scan_end {α : Type} {p : Nat → Option α} {i n : Nat} (h : scan i p = none) (a : i ≤ n) (b : n ≤ i) : scan n p = none := by
  have : i = n := by omega
  rw [← this]; exact h
theorem take_snoc {α : Type} {a b : List α} {d : α} {i : Nat} (h : a.take i = b.take i) (ha : i < a.length) (hb : i < b.length) (e : a.getD i d = b.getD i d) : a.take (i + 1) = b.take (i + 1) := by
  have e1 : a.getD i d = a[i] := by simp [List.getD_eq_getElem?_getD, ha]
  have e2 : b.getD i d = b[i] := by simp [List.getD_eq_getElem?_getD, hb]
  rw [e1, e2] at e
  rw [List.take_succ_eq_append_getElem ha, List.take_succ_eq_append_getElem hb, h, e]
theorem take_end {α : Type} {a b : List α} {i : Nat} (h : a.take i = b.take i) (ha : a.length ≤ i) (hb : b.length ≤ i) : a = b := by
  rwa [List.take_of_length_le ha, List.take_of_length_le hb] at h
theorem take_getD {α : Type} {a : List α} {d : α} {i : Nat} (ha : i < a.length) : a.take (i + 1) = a.take i ++ [a.getD i d] := by
  rw [List.take_succ_eq_append_getElem ha]
  simp [List.getD_eq_getElem?_getD, ha]
theorem Cat.eq {c d : Cat} (h1 : c.ob = d.ob) (h2 : c.fr = d.fr) (h3 : c.to = d.to) (h4 : c.id = d.id) (h5 : c.co = d.co) : c = d := by
  cases c; cases d; simp_all
end Go.Cats
end
section
namespace Go.Cats
structure SFB (f : SF) : Prop where
  shape : CatB f.shape
  sizes : f.sizes.length ≤ 1048576
  acts : f.acts.length ≤ 1048576
  row : ∀ a, a < f.acts.length → (f.acts.getD a []).length ≤ 1048576
abbrev SF.act (f : SF) (a : Nat) : List Int := f.acts.getD a []
structure SFShape (f : SF) : Prop where
  cat : IsCat f.shape
  szl : (f.sizes.length : Int) = f.shape.ob
  szw : Within f.sizes 17
  acl : f.acts.length = f.shape.fr.length
  act : ∀ a, a < f.acts.length → ((f.acts.getD a []).length : Int) = f.sizes.getD (f.shape.fr.getD a 0).toNat 0 ∧ Within (f.acts.getD a []) (f.sizes.getD (f.shape.to.getD a 0).toNat 0)
def SF.fault1 (f : SF) (x e : Nat) : Option (Int × Int × Int × Int) :=
  if (f.acts.getD (f.shape.id.getD x 0).toNat []).getD e 0 ≠ e then some ((1 : Int), (x : Int), (e : Int), (0 : Int)) else none
def SF.fault1x (f : SF) (x : Nat) : Option (Int × Int × Int × Int) := scan (f.acts.getD (f.shape.id.getD x 0).toNat []).length fun e => f.fault1 x e
def SF.fault2 (f : SF) (a b e : Nat) : Option (Int × Int × Int × Int) :=
  if (f.acts.getD ((f.shape.co.getD a []).getD b 0).toNat []).getD e 0 ≠ (f.acts.getD b []).getD ((f.acts.getD a []).getD e 0).toNat 0 then some ((2 : Int), (a : Int), (b : Int), (e : Int)) else none
def SF.fault2b (f : SF) (a b : Nat) : Option (Int × Int × Int × Int) :=
  if (f.shape.co.getD a []).getD b 0 < 0 then none else scan (f.acts.getD a []).length fun e => f.fault2 a b e
def SF.fault2a (f : SF) (a : Nat) : Option (Int × Int × Int × Int) := scan (f.shape.co.getD a []).length fun b => f.fault2b a b
def SF.fault (f : SF) : Int × Int × Int × Int :=
  ((scan f.shape.id.length f.fault1x).or (scan f.shape.co.length f.fault2a)).getD (0, 0, 0, 0)
structure IsSF (f : SF) : Prop extends SFShape f where
  unit : ∀ x, x < f.shape.id.length → ∀ e, e < (f.acts.getD (f.shape.id.getD x 0).toNat []).length → (f.acts.getD (f.shape.id.getD x 0).toNat []).getD e 0 = e
  comp : ∀ a b, a < f.shape.fr.length → b < f.shape.fr.length → 0 ≤ (f.shape.co.getD a []).getD b 0 → ∀ e, e < (f.acts.getD a []).length →
    (f.acts.getD ((f.shape.co.getD a []).getD b 0).toNat []).getD e 0 = (f.acts.getD b []).getD ((f.acts.getD a []).getD e 0).toNat 0
/-! ### Natural maps -/
structure SMB (m : SM) : Prop where
  src : SFB m.src
  tgt : SFB m.tgt
  parts : m.parts.length ≤ 1048576
  row : ∀ x, x < m.parts.length → (m.parts.getD x []).length ≤ 1048576
structure SMFits (m : SM) : Prop where
  len : m.parts.length = m.src.sizes.length
  map : ∀ x, x < m.parts.length → ((m.parts.getD x []).length : Int) = m.src.sizes.getD x 0 ∧ Within (m.parts.getD x []) (m.tgt.sizes.getD x 0)
structure SMShape (m : SM) : Prop where
  src : IsSF m.src
  tgt : IsSF m.tgt
  same : m.src.shape = m.tgt.shape
  fits : SMFits m
structure IsSM (m : SM) : Prop extends SMShape m where
  nat : ∀ a, a < m.src.shape.fr.length → ∀ e, e < (m.src.acts.getD a []).length →
    (m.parts.getD (m.src.shape.to.getD a 0).toNat []).getD ((m.src.acts.getD a []).getD e 0).toNat 0 = (m.tgt.acts.getD a []).getD ((m.parts.getD (m.src.shape.fr.getD a 0).toNat []).getD e 0).toNat 0
end Go.Cats
end
section
namespace Go.Cats
def idxO (l : List Int) (n : Int) (i : Nat) : Option Int := if l.getD i 0 = n then some (i : Int) else none
def idxOf (l : List Int) (n : Int) : Int := (scan l.length (idxO l n)).getD (-1)
end Go.Cats
end
section
namespace Go.Cats
end Go.Cats
end
section
namespace Go.Cats
end Go.Cats
end
section
namespace Go.Cats
theorem Shape.comp_lt {c : Cat} (s : Shape c) {f g : Nat} (hf : f < c.fr.length) (hg : g < c.fr.length) (h : 0 ≤ (c.co.getD f []).getD g 0) : (c.co.getD f []).getD g 0 < c.fr.length ∧ c.to.getD f 0 = c.fr.getD g 0 := by
  rcases (s.coe f hf).2 g hg with ⟨h1, h2, _⟩ | ⟨_, h2⟩
  · have e : c.C f g = (c.co.getD f []).getD g 0 := by simp [Cat.C]
    rw [e] at h2
    exact ⟨h2.2, h1⟩
  · have e : c.C f g = (c.co.getD f []).getD g 0 := by simp [Cat.C]
    rw [e] at h2
    omega
theorem Shape.comp_nn {c : Cat} (s : Shape c) {f g : Nat} (hf : f < c.fr.length) (hg : g < c.fr.length) (h : c.to.getD f 0 = c.fr.getD g 0) : 0 ≤ (c.co.getD f []).getD g 0 := by
  rcases (s.coe f hf).2 g hg with ⟨_, h2, _⟩ | ⟨h2, _⟩
  · have e : c.C f g = (c.co.getD f []).getD g 0 := by simp [Cat.C]
    rw [e] at h2; exact h2.1
  · exact absurd h h2
theorem Shape.comp_row {c : Cat} (s : Shape c) {f : Int} (h0 : 0 ≤ f) (h1 : f < c.fr.length) : (c.co.getD f.toNat []).length = c.fr.length := (s.coe f.toNat (by omega)).1
end Go.Cats
end
section
namespace Go.Cats
def cH (f g : Fun) (a b : Nat) : List Int := f.tgt.hom (f.obs.getD a 0) (g.obs.getD b 0)
def cO (f g : Fun) (a b k : Nat) : List (List Int) :=
  (coll a fun a => coll g.obs.length fun b => (cH f g a b).map fun h => [(a : Int), (b : Int), h]) ++ (coll b fun b => (cH f g a b).map fun h => [(a : Int), (b : Int), h]) ++ ((cH f g a b).take k).map fun h => [(a : Int), (b : Int), h]
def cObj (f g : Fun) : List (List Int) := cO f g f.obs.length 0 0
theorem cO_zero (f g : Fun) : cO f g 0 0 0 = [] := by simp [cO, coll]
def colN (l : List (List Int)) (k n : Nat) : List Int := (l.take n).map fun r => r.getD k 0
theorem colN_zero (l : List (List Int)) (k : Nat) : colN l k 0 = [] := rfl
theorem colN_len (l : List (List Int)) (k n : Nat) : (colN l k n).length = min n l.length := by simp [colN]
end Go.Cats
end
section
namespace Go.Cats
abbrev rw' (O : List (List Int)) (p k : Nat) : Int := (O.getD p []).getD k 0
def cU (f : Fun) (k : Nat) (O : List (List Int)) (s t : Nat) : List Int := f.src.hom (rw' O s k) (rw' O t k)
def cC (f e : Fun) (O : List (List Int)) (s t : Nat) (u v : Int) : Prop := f.tgt.C (f.A u) (rw' O t 2) = f.tgt.C (rw' O s 2) (e.A v)
open Classical in
noncomputable def cE (f e : Fun) (O : List (List Int)) (s t i j : Nat) : List (List Int) :=
  if cC f e O s t ((cU f 0 O s t).getD i 0) ((cU e 1 O s t).getD j 0) then [[(s : Int), (t : Int), (cU f 0 O s t).getD i 0, (cU e 1 O s t).getD j 0]] else []
noncomputable def cRow (f e : Fun) (O : List (List Int)) (s t i : Nat) : List (List Int) := coll (cU e 1 O s t).length fun j => cE f e O s t i j
noncomputable def cCell (f e : Fun) (O : List (List Int)) (s t : Nat) : List (List Int) := coll (cU f 0 O s t).length fun i => cRow f e O s t i
noncomputable def cA (f e : Fun) (O : List (List Int)) (s t i j : Nat) : List (List Int) :=
  (coll s fun s => coll O.length fun t => cCell f e O s t) ++ (coll t fun t => cCell f e O s t) ++ (coll i fun i => cRow f e O s t i) ++ (coll j fun j => cE f e O s t i j)
noncomputable def cArr (f e : Fun) (O : List (List Int)) : List (List Int) := cA f e O O.length 0 0 0
variable {f e : Fun} {O : List (List Int)} {s t i j : Nat}
theorem cA_zero : cA f e O 0 0 0 0 = [] := by simp [cA, coll]
structure ObjR (f e : Fun) (r : List Int) : Prop where
  len : r.length = 3
  lo : 0 ≤ r.getD 0 0
  lh : r.getD 0 0 < f.src.ob
  ro : 0 ≤ r.getD 1 0
  rh : r.getD 1 0 < e.src.ob
  ao : 0 ≤ r.getD 2 0
  ah : r.getD 2 0 < f.tgt.fr.length
  frm : f.tgt.F (r.getD 2 0) = f.O (r.getD 0 0)
  to : f.tgt.T (r.getD 2 0) = e.O (r.getD 1 0)
def fndO (l : List (List Int)) (r : List Int) (i : Nat) : Option Int := if l.getD i [] = r then some (i : Int) else none
def fnd (l : List (List Int)) (r : List Int) : Int := (scan l.length (fndO l r)).getD (-1)
end Go.Cats
end
section
namespace Go.Cats
def tb {α : Type} (n : Nat) (F : Nat → α) : List α := (List.range n).map F
theorem tb_zero {α : Type} (F : Nat → α) : tb 0 F = [] := rfl
theorem tb_len {α : Type} (n : Nat) (F : Nat → α) : (tb n F).length = n := by simp [tb]
theorem tb_at {α : Type} (n : Nat) (F : Nat → α) (d : α) {i : Nat} (h : i < n) : (tb n F).getD i d = F i := by simp [tb, h]
def bId (A : List (List Int)) (a b : Cat) (L R : List Int) (x : Nat) : Int := fnd A [(x : Int), (x : Int), a.id.getD (L.getD x 0).toNat 0, b.id.getD (R.getD x 0).toNat 0]
def bKey (A : List (List Int)) (a b : Cat) (i j : Nat) : List Int := [rw' A i 0, rw' A j 1, a.C (rw' A i 2) (rw' A j 2), b.C (rw' A i 3) (rw' A j 3)]
def bEnt (A : List (List Int)) (a b : Cat) (i j : Nat) : Int := if rw' A i 1 = rw' A j 0 then fnd A (bKey A a b i j) else -1
def bCat (N : Nat) (A : List (List Int)) (a b : Cat) (L R : List Int) (k : Nat) : Cat :=
  ⟨N, colN A 0 A.length, colN A 1 A.length, tb N (bId A a b L R), tb k fun i => tb A.length (bEnt A a b i)⟩
structure ArrR (a b : Cat) (r : List Int) : Prop where
  len : r.length = 4
  ul : 0 ≤ r.getD 2 0
  uh : r.getD 2 0 < a.fr.length
  vl : 0 ≤ r.getD 3 0
  vh : r.getD 3 0 < b.fr.length
noncomputable def cmA (f e : Fun) : List (List Int) := cArr f e (cObj f e)
noncomputable def cmC (f e : Fun) (k : Nat) : Cat := bCat (cObj f e).length (cmA f e) f.src e.src (colN (cObj f e) 0 (cObj f e).length) (colN (cObj f e) 1 (cObj f e).length) k
end Go.Cats
end
section
namespace Go.Cats
variable {f e : Fun} {O : List (List Int)} {s t i j : Nat}
end Go.Cats
end
section
namespace Go.Cats
variable {f e : Fun} {O : List (List Int)} {s t i j : Nat}
end Go.Cats
end
