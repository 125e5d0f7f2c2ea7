/- Several texts in one: M01, M02, M03, N02, N03, N04, N05, N06, N07, N08, N09, M04, N10, N11, N12, N13, N14, N15, N16, N24, M05, M06, M07, M08, M09, M10, M11, M12, N25, N33, N01, N18, N19, N20, N26, N34, N29, N38. -/
set_option linter.unusedSimpArgs false
set_option linter.unusedVariables false
set_option linter.unusedSectionVars false
section
namespace Go.Cats
noncomputable def dec (P : Prop) : Bool := @decide P (Classical.propDecidable P)
theorem dec_t {P : Prop} (h : P) : dec P = true := by simp [dec, h]
theorem dec_f {P : Prop} (h : ¬ P) : dec P = false := by simp [dec, h]
theorem dec_iff {P : Prop} : dec P = true ↔ P := by simp [dec]
theorem dec_not {P : Prop} : dec P = false ↔ ¬ P := by simp [dec]
theorem dec_congr {P Q : Prop} (h : P ↔ Q) : dec P = dec Q := by
  by_cases p : P
  · rw [dec_t p, dec_t (h.1 p)]
  · rw [dec_f p, dec_f fun q => p (h.2 q)]
theorem dec_eq {P : Prop} [Decidable P] : dec P = decide P := by by_cases h : P <;> simp [dec, h]
/-! ### Scans -/
def scan {α : Type} (n : Nat) (p : Nat → Option α) : Option α := (List.range n).findSome? p
theorem scan_zero {α : Type} (p : Nat → Option α) : scan 0 p = none := rfl
theorem scan_succ {α : Type} (n : Nat) (p : Nat → Option α) : scan (n + 1) p = (scan n p).or (p n) := by
  unfold scan
  rw [List.range_succ, List.findSome?_append]
  simp [List.findSome?]
  cases p n <;> rfl
theorem scan_next {α : Type} {n : Nat} {p : Nat → Option α} (h : scan n p = none) (k : p n = none) : scan (n + 1) p = none := by
  rw [scan_succ, h, k]; rfl
theorem scan_none {α : Type} {n : Nat} {p : Nat → Option α} : scan n p = none ↔ ∀ i, i < n → p i = none := by
  simp [scan, List.findSome?_eq_none_iff]
theorem scan_hit {α : Type} {n i : Nat} {p : Nat → Option α} {r : α} (hi : i < n) (h : scan i p = none) (k : p i = some r) : scan n p = some r := by
  induction n with
  | zero => omega
  | succ n ih =>
    rw [scan_succ]
    by_cases e : i = n
    · subst e; rw [h, k]; rfl
    · rw [ih (by omega)]; rfl
theorem scan_some {α : Type} {n : Nat} {p : Nat → Option α} {r : α} (h : scan n p = some r) : ∃ i, i < n ∧ p i = some r := by
  unfold scan at h
  obtain ⟨i, hi, k⟩ := List.exists_of_findSome?_eq_some h
  exact ⟨i, by simpa using hi, k⟩
theorem all_succ {P : Nat → Prop} {n : Nat} (h : ∀ i, i < n → P i) (k : P n) : ∀ i, i < n + 1 → P i := fun i hi => by
  by_cases e : i = n
  · subst e; exact k
  · exact h i (by omega)
def coll {α : Type} (n : Nat) (f : Nat → List α) : List α := (List.range n).flatMap f
theorem coll_zero {α : Type} (f : Nat → List α) : coll 0 f = [] := rfl
theorem coll_succ {α : Type} (n : Nat) (f : Nat → List α) : coll (n + 1) f = coll n f ++ f n := by
  simp [coll, List.range_succ]
theorem mem_coll {α : Type} {n : Nat} {f : Nat → List α} {x : α} : x ∈ coll n f ↔ ∃ i, i < n ∧ x ∈ f i := by
  simp [coll, List.mem_flatMap]
theorem coll_length_le {α : Type} {n k : Nat} {f : Nat → List α} (h : ∀ i, i < n → (f i).length ≤ k) : (coll n f).length ≤ n * k := by
  induction n with
  | zero => simp [coll]
  | succ n ih =>
    rw [coll_succ, List.length_append, Nat.succ_mul]
    have := ih fun i hi => h i (by omega)
    have := h n (by omega)
    omega
theorem getD_mem {α : Type} {l : List α} {i : Nat} {d : α} (h : i < l.length) : l.getD i d ∈ l := by
  simp [List.getD_eq_getElem?_getD, h]
theorem mem_getD {α : Type} {l : List α} {x d : α} (h : x ∈ l) : ∃ i, i < l.length ∧ l.getD i d = x := by
  obtain ⟨i, hi, e⟩ := List.getElem_of_mem h
  exact ⟨i, hi, by simp [List.getD_eq_getElem?_getD, hi, e]⟩
def Within (l : List Int) (n : Int) : Prop := ∀ i, i < l.length → 0 ≤ l.getD i 0 ∧ l.getD i 0 < n
/-! ### Categories -/
structure Cat where
  ob : Int
  fr : List Int
  to : List Int
  id : List Int
  co : List (List Int)
def Cat.nil : Cat := ⟨0, [], [], [], []⟩
abbrev Cat.F (c : Cat) (f : Int) : Int := c.fr.getD f.toNat 0
abbrev Cat.T (c : Cat) (f : Int) : Int := c.to.getD f.toNat 0
abbrev Cat.I (c : Cat) (x : Int) : Int := c.id.getD x.toNat 0
abbrev Cat.C (c : Cat) (f g : Int) : Int := (c.co.getD f.toNat []).getD g.toNat 0
structure CatB (c : Cat) : Prop where
  ob1 : -9223372036854775808 ≤ c.ob
  ob2 : c.ob ≤ 9223372036854775807
  fr : c.fr.length ≤ 1048576
  to : c.to.length ≤ 1048576
  id : c.id.length ≤ 1048576
  co : c.co.length ≤ 1048576
  row : ∀ f, f < c.co.length → (c.co.getD f []).length ≤ 1048576
def Cat.Entry (c : Cat) (f g : Nat) : Prop :=
  (c.to.getD f 0 = c.fr.getD g 0 ∧ (0 ≤ c.C f g ∧ c.C f g < c.fr.length) ∧ c.F (c.C f g) = c.fr.getD f 0 ∧ c.T (c.C f g) = c.to.getD g 0) ∨
  (c.to.getD f 0 ≠ c.fr.getD g 0 ∧ c.C f g = -1)
structure Shape (c : Cat) : Prop where
  ob0 : 0 ≤ c.ob
  ob8 : c.ob ≤ 8
  m40 : c.fr.length ≤ 40
  tol : c.to.length = c.fr.length
  frw : Within c.fr c.ob
  tow : Within c.to c.ob
  idl : (c.id.length : Int) = c.ob
  idw : Within c.id c.fr.length
  col : c.co.length = c.fr.length
  ide : ∀ x, x < c.id.length → c.F (c.id.getD x 0) = x ∧ c.T (c.id.getD x 0) = x
  coe : ∀ f, f < c.fr.length → (c.co.getD f []).length = c.fr.length ∧ ∀ g, g < c.fr.length → c.Entry f g
def Cat.fault1 (c : Cat) (f : Nat) : Option (Int × Int × Int × Int) :=
  if c.C (c.I (c.F f)) f ≠ f ∨ c.C f (c.I (c.T f)) ≠ f then some (1, f, 0, 0) else none
def Cat.fault2 (c : Cat) (f g h : Nat) : Option (Int × Int × Int × Int) :=
  if 0 ≤ c.C g h ∧ c.C (c.C f g) h ≠ c.C f (c.C g h) then some (2, f, g, h) else none
def Cat.fault2g (c : Cat) (f g : Nat) : Option (Int × Int × Int × Int) :=
  if c.C f g < 0 then none else scan c.fr.length fun h => c.fault2 f g h
def Cat.fault (c : Cat) : Int × Int × Int × Int :=
  ((scan c.fr.length c.fault1).or (scan c.fr.length fun f => scan c.fr.length fun g => c.fault2g f g)).getD (0, 0, 0, 0)
structure IsCat (c : Cat) : Prop extends Shape c where
  unl : ∀ f : Nat, f < c.fr.length → c.C (c.I (c.F f)) f = f
  unr : ∀ f : Nat, f < c.fr.length → c.C f (c.I (c.T f)) = f
  ass : ∀ f g h : Nat, f < c.fr.length → g < c.fr.length → h < c.fr.length → c.T f = c.F g → c.T g = c.F h → c.C (c.C f g) h = c.C f (c.C g h)
theorem Shape.neg {c : Cat} (s : Shape c) {f g : Nat} (hf : f < c.fr.length) (hg : g < c.fr.length) : c.C f g < 0 ↔ c.T f ≠ c.F g := by
  have := (s.coe f hf).2 g hg
  unfold Cat.Entry at this
  simp only [Cat.T, Cat.F, Int.toNat_natCast]
  rcases this with ⟨h1, h2, h3⟩ | ⟨h1, h2⟩
  · constructor
    · intro h; omega
    · intro h; exact absurd h1 h
  · constructor
    · intro _; exact h1
    · intro _; omega
theorem Shape.fault_zero {c : Cat} (s : Shape c) : c.fault.1 = 0 ↔ IsCat c := by
  unfold Cat.fault
  constructor
  · intro h
    cases h1 : scan c.fr.length c.fault1 with
    | some r =>
      obtain ⟨i, hi, k⟩ := scan_some h1
      unfold Cat.fault1 at k
      split at k
      · simp at k; subst k; simp [h1] at h
      · cases k
    | none =>
      rw [h1] at h
      cases h2 : (scan c.fr.length fun f => scan c.fr.length fun g => c.fault2g f g) with
      | some r =>
        obtain ⟨i, hi, k⟩ := scan_some h2
        obtain ⟨j, hj, k⟩ := scan_some k
        unfold Cat.fault2g at k
        split at k
        · cases k
        · obtain ⟨l, hl, k⟩ := scan_some k
          unfold Cat.fault2 at k
          split at k
          · simp at k; subst k; simp [h2] at h
          · cases k
      | none =>
        rw [scan_none] at h1 h2
        refine ⟨s, fun f hf => ?_, fun f hf => ?_, fun f g h hf hg hh e1 e2 => ?_⟩
        · have := h1 f hf
          unfold Cat.fault1 at this
          split at this
          · cases this
          · rename_i n; exact Classical.byContradiction fun q => n (.inl q)
        · have := h1 f hf
          unfold Cat.fault1 at this
          split at this
          · cases this
          · rename_i n; exact Classical.byContradiction fun q => n (.inr q)
        · have := h2 f hf
          rw [scan_none] at this
          have := this g hg
          unfold Cat.fault2g at this
          rw [if_neg (by rw [s.neg hf hg]; exact fun q => q e1), scan_none] at this
          have := this h hh
          unfold Cat.fault2 at this
          split at this
          · cases this
          · rename_i n
            refine Classical.byContradiction fun q => n ⟨?_, q⟩
            have := (s.neg hg hh)
            exact Int.not_lt.1 fun q => this.1 q e2
  · intro h
    have h1 : scan c.fr.length c.fault1 = none := scan_none.2 fun f hf => by
      unfold Cat.fault1
      rw [if_neg]
      rintro (q | q)
      · exact q (h.unl f hf)
      · exact q (h.unr f hf)
    have h2 : (scan c.fr.length fun f => scan c.fr.length fun g => c.fault2g f g) = none := scan_none.2 fun f hf => scan_none.2 fun g hg => by
      unfold Cat.fault2g
      split
      · rfl
      · rename_i n1
        refine scan_none.2 fun h' hh => ?_
        unfold Cat.fault2
        rw [if_neg]
        rintro ⟨q1, q2⟩
        have e1 := s.neg hf hg
        have e2 := s.neg hg hh
        exact q2 (h.ass f g h' hf hg hh (Classical.byContradiction fun q => n1 (e1.2 q)) (Classical.byContradiction fun q => by have := e2.2 q; omega))
    rw [h1, h2]; rfl
theorem Cat.fault1_t {c : Cat} {f : Nat} (h : c.C (c.I (c.F f)) f ≠ f ∨ c.C f (c.I (c.T f)) ≠ f) : c.fault1 f = some ((1 : Int), (f : Int), (0 : Int), (0 : Int)) := if_pos h
theorem Cat.fault1_f {c : Cat} {f : Nat} (h : c.C (c.I (c.F f)) f = f) (k : c.C f (c.I (c.T f)) = f) : c.fault1 f = none := if_neg fun q => q.elim (fun q => q h) fun q => q k
theorem Cat.fault2_t {c : Cat} {f g h : Nat} (a : 0 ≤ c.C g h) (b : c.C (c.C f g) h ≠ c.C f (c.C g h)) : c.fault2 f g h = some ((2 : Int), (f : Int), (g : Int), (h : Int)) := if_pos ⟨a, b⟩
theorem Cat.fault2_f {c : Cat} {f g h : Nat} (a : 0 ≤ c.C g h → c.C (c.C f g) h = c.C f (c.C g h)) : c.fault2 f g h = none := if_neg fun q => q.2 (a q.1)
theorem Cat.fault2g_f {c : Cat} {f g : Nat} (a : c.C f g < 0) : c.fault2g f g = none := if_pos a
theorem Cat.fault2g_t {c : Cat} {f g : Nat} (a : ¬ c.C f g < 0) : c.fault2g f g = scan c.fr.length fun h => c.fault2 f g h := if_neg a
theorem Cat.fault_1 {c : Cat} {f : Nat} {r : Int × Int × Int × Int} (h : scan f c.fault1 = none) (hf : f < c.fr.length) (k : c.fault1 f = some r) : c.fault = r := by
  unfold Cat.fault
  rw [scan_hit hf h k]; rfl
theorem Cat.fault_2 {c : Cat} {f g h : Nat} {r : Int × Int × Int × Int} (a : scan c.fr.length c.fault1 = none) (h1 : scan f (fun f => scan c.fr.length fun g => c.fault2g f g) = none) (hf : f < c.fr.length)
    (h2 : scan g (fun g => c.fault2g f g) = none) (hg : g < c.fr.length) (n : ¬ c.C f g < 0) (h3 : scan h (fun h => c.fault2 f g h) = none) (hh : h < c.fr.length) (k : c.fault2 f g h = some r) : c.fault = r := by
  unfold Cat.fault
  rw [a, scan_hit hf h1 (scan_hit hg h2 (by rw [Cat.fault2g_t n]; exact scan_hit hh h3 k))]; rfl
theorem Cat.fault_0 {c : Cat} (a : scan c.fr.length c.fault1 = none) (h1 : scan c.fr.length (fun f => scan c.fr.length fun g => c.fault2g f g) = none) : c.fault = (0, 0, 0, 0) := by
  unfold Cat.fault
  rw [a, h1]; rfl
def Cat.homI (c : Cat) (x y : Int) (i : Nat) : List Int := coll i fun f => if c.fr.getD f 0 = x ∧ c.to.getD f 0 = y then [(f : Int)] else []
def Cat.hom (c : Cat) (x y : Int) : List Int := c.homI x y c.fr.length
theorem Cat.homI_zero (c : Cat) (x y : Int) : c.homI x y 0 = [] := rfl
theorem Cat.homI_succ (c : Cat) (x y : Int) (i : Nat) : c.homI x y (i + 1) = c.homI x y i ++ if c.fr.getD i 0 = x ∧ c.to.getD i 0 = y then [(i : Int)] else [] := coll_succ _ _
theorem Cat.homI_len (c : Cat) (x y : Int) (i : Nat) : (c.homI x y i).length ≤ i := by
  have := coll_length_le (n := i) (k := 1) (f := fun f => if c.fr.getD f 0 = x ∧ c.to.getD f 0 = y then [(f : Int)] else []) fun j _ => by split <;> simp
  simpa [Cat.homI] using this
theorem Cat.mem_hom {c : Cat} {x y f : Int} : f ∈ c.hom x y ↔ 0 ≤ f ∧ f < c.fr.length ∧ c.F f = x ∧ c.T f = y := by
  unfold Cat.hom Cat.homI
  rw [mem_coll]
  constructor
  · rintro ⟨i, hi, h⟩
    split at h
    · rename_i e; simp at h; subst h
      simp only [Cat.F, Cat.T, Int.toNat_natCast]
      exact ⟨by omega, by omega, e.1, e.2⟩
    · simp at h
  · rintro ⟨h1, h2, h3, h4⟩
    refine ⟨f.toNat, by omega, ?_⟩
    rw [if_pos ⟨h3, h4⟩]
    simp; omega
/-! ### Functors -/
structure Fun where
  src : Cat
  tgt : Cat
  obs : List Int
  ars : List Int
def Fun.nil : Fun := ⟨.nil, .nil, [], []⟩
abbrev Fun.O (f : Fun) (x : Int) : Int := f.obs.getD x.toNat 0
abbrev Fun.A (f : Fun) (a : Int) : Int := f.ars.getD a.toNat 0
structure Fits (f : Fun) : Prop where
  obl : (f.obs.length : Int) = f.src.ob
  arl : f.ars.length = f.src.fr.length
  obw : Within f.obs f.tgt.ob
  arw : Within f.ars f.tgt.fr.length
  endf : ∀ a, a < f.ars.length → f.tgt.F (f.ars.getD a 0) = f.O (f.src.F a) ∧ f.tgt.T (f.ars.getD a 0) = f.O (f.src.T a)
  unit : ∀ x, x < f.src.id.length → f.A (f.src.id.getD x 0) = f.tgt.I (f.O x)
  comp : ∀ a b : Nat, a < f.src.fr.length → b < f.src.fr.length → 0 ≤ f.src.C a b → f.A (f.src.C a b) = f.tgt.C (f.A a) (f.A b)
structure IsFun (f : Fun) : Prop where
  src : IsCat f.src
  tgt : IsCat f.tgt
  fits : Fits f
/-! ### Set functors -/
structure SF where
  shape : Cat
  sizes : List Int
  acts : List (List Int)
structure SM where
  src : SF
  tgt : SF
  parts : List (List Int)
def SF.nil : SF := ⟨.nil, [], []⟩
def SM.nil : SM := ⟨.nil, .nil, []⟩
end Go.Cats
end
section
namespace Go.Cats
theorem scan_end {α : Type} {p : Nat → Option α} {i n : Nat} (h : scan i p = none) (a : i ≤ n) (b : n ≤ i) : scan n p = none := by
  have : i = n := by omega
  rw [← this]; exact h
theorem take_snoc {α : Type} {a b : List α} {d : α} {i : Nat} (h : a.take i = b.take i) (ha : i < a.length) (hb : i < b.length) (e : a.getD i d = b.getD i d) : a.take (i + 1) = b.take (i + 1) := by
  have e1 : a.getD i d = a[i] := by simp [List.getD_eq_getElem?_getD, ha]
  have e2 : b.getD i d = b[i] := by simp [List.getD_eq_getElem?_getD, hb]
  rw [e1, e2] at e
  rw [List.take_succ_eq_append_getElem ha, List.take_succ_eq_append_getElem hb, h, e]
theorem take_end {α : Type} {a b : List α} {i : Nat} (h : a.take i = b.take i) (ha : a.length ≤ i) (hb : b.length ≤ i) : a = b := by
  rwa [List.take_of_length_le ha, List.take_of_length_le hb] at h
theorem take_getD {α : Type} {a : List α} {d : α} {i : Nat} (ha : i < a.length) : a.take (i + 1) = a.take i ++ [a.getD i d] := by
  rw [List.take_succ_eq_append_getElem ha]
  simp [List.getD_eq_getElem?_getD, ha]
theorem Cat.eq {c d : Cat} (h1 : c.ob = d.ob) (h2 : c.fr = d.fr) (h3 : c.to = d.to) (h4 : c.id = d.id) (h5 : c.co = d.co) : c = d := by
  cases c; cases d; simp_all
end Go.Cats
end
section
namespace Go.Cats
structure SFB (f : SF) : Prop where
  shape : CatB f.shape
  sizes : f.sizes.length ≤ 1048576
  acts : f.acts.length ≤ 1048576
  row : ∀ a, a < f.acts.length → (f.acts.getD a []).length ≤ 1048576
abbrev SF.act (f : SF) (a : Nat) : List Int := f.acts.getD a []
structure SFShape (f : SF) : Prop where
  cat : IsCat f.shape
  szl : (f.sizes.length : Int) = f.shape.ob
  szw : Within f.sizes 17
  acl : f.acts.length = f.shape.fr.length
  act : ∀ a, a < f.acts.length → ((f.acts.getD a []).length : Int) = f.sizes.getD (f.shape.fr.getD a 0).toNat 0 ∧ Within (f.acts.getD a []) (f.sizes.getD (f.shape.to.getD a 0).toNat 0)
def SF.fault1 (f : SF) (x e : Nat) : Option (Int × Int × Int × Int) :=
  if (f.acts.getD (f.shape.id.getD x 0).toNat []).getD e 0 ≠ e then some ((1 : Int), (x : Int), (e : Int), (0 : Int)) else none
def SF.fault1x (f : SF) (x : Nat) : Option (Int × Int × Int × Int) := scan (f.acts.getD (f.shape.id.getD x 0).toNat []).length fun e => f.fault1 x e
def SF.fault2 (f : SF) (a b e : Nat) : Option (Int × Int × Int × Int) :=
  if (f.acts.getD ((f.shape.co.getD a []).getD b 0).toNat []).getD e 0 ≠ (f.acts.getD b []).getD ((f.acts.getD a []).getD e 0).toNat 0 then some ((2 : Int), (a : Int), (b : Int), (e : Int)) else none
def SF.fault2b (f : SF) (a b : Nat) : Option (Int × Int × Int × Int) :=
  if (f.shape.co.getD a []).getD b 0 < 0 then none else scan (f.acts.getD a []).length fun e => f.fault2 a b e
def SF.fault2a (f : SF) (a : Nat) : Option (Int × Int × Int × Int) := scan (f.shape.co.getD a []).length fun b => f.fault2b a b
def SF.fault (f : SF) : Int × Int × Int × Int :=
  ((scan f.shape.id.length f.fault1x).or (scan f.shape.co.length f.fault2a)).getD (0, 0, 0, 0)
structure IsSF (f : SF) : Prop extends SFShape f where
  unit : ∀ x, x < f.shape.id.length → ∀ e, e < (f.acts.getD (f.shape.id.getD x 0).toNat []).length → (f.acts.getD (f.shape.id.getD x 0).toNat []).getD e 0 = e
  comp : ∀ a b, a < f.shape.fr.length → b < f.shape.fr.length → 0 ≤ (f.shape.co.getD a []).getD b 0 → ∀ e, e < (f.acts.getD a []).length →
    (f.acts.getD ((f.shape.co.getD a []).getD b 0).toNat []).getD e 0 = (f.acts.getD b []).getD ((f.acts.getD a []).getD e 0).toNat 0
/-! ### Natural maps -/
structure SMB (m : SM) : Prop where
  src : SFB m.src
  tgt : SFB m.tgt
  parts : m.parts.length ≤ 1048576
  row : ∀ x, x < m.parts.length → (m.parts.getD x []).length ≤ 1048576
structure SMFits (m : SM) : Prop where
  len : m.parts.length = m.src.sizes.length
  map : ∀ x, x < m.parts.length → ((m.parts.getD x []).length : Int) = m.src.sizes.getD x 0 ∧ Within (m.parts.getD x []) (m.tgt.sizes.getD x 0)
structure SMShape (m : SM) : Prop where
  src : IsSF m.src
  tgt : IsSF m.tgt
  same : m.src.shape = m.tgt.shape
  fits : SMFits m
structure IsSM (m : SM) : Prop extends SMShape m where
  nat : ∀ a, a < m.src.shape.fr.length → ∀ e, e < (m.src.acts.getD a []).length →
    (m.parts.getD (m.src.shape.to.getD a 0).toNat []).getD ((m.src.acts.getD a []).getD e 0).toNat 0 = (m.tgt.acts.getD a []).getD ((m.parts.getD (m.src.shape.fr.getD a 0).toNat []).getD e 0).toNat 0
end Go.Cats
end
section
namespace Go.Cats
abbrev pv (P : List (List Int)) (y i : Nat) : Int := (P.getD y []).getD i 0
def pset (P : List (List Int)) (y i : Nat) (k : Int) : List (List Int) := P.set y ((P.getD y []).set i k)
section
variable (f g : SF) (once : Bool)
abbrev SF.av (f : SF) (a : Nat) (e : Nat) : Int := (f.acts.getD a []).getD e 0
abbrev SF.ty (f : SF) (a : Nat) : Nat := (f.shape.to.getD a 0).toNat
abbrev SF.fx (f : SF) (a : Nat) : Nat := (f.shape.fr.getD a 0).toNat
def stepS (e u : Nat) (P : List (List Int)) (a : Nat) : Option (List (List Int)) :=
  if 0 ≤ pv P (f.ty a) (f.av a e).toNat then (if pv P (f.ty a) (f.av a e).toNat = g.av a u then some P else none)
  else if once = true ∧ g.av a u ∈ P.getD (f.ty a) [] then none else some (pset P (f.ty a) (f.av a e).toNat (g.av a u))
def setN (x e u : Nat) (P : List (List Int)) : Nat → Option (List (List Int))
  | 0 => some P
  | n + 1 => (setN x e u P n).bind fun Q => if f.shape.fr.getD n 0 = x then stepS f g once e u Q n else some Q
def setS (x e u : Nat) (P : List (List Int)) : Option (List (List Int)) := setN f g once x e u P f.shape.fr.length
structure Good (P : List (List Int)) : Prop where
  len : P.length = f.sizes.length
  row : ∀ y, y < P.length → ((P.getD y []).length : Int) = f.sizes.getD y 0
  rng : ∀ y i, y < P.length → i < (P.getD y []).length → -1 ≤ pv P y i ∧ pv P y i < g.sizes.getD y 0
  cl : ∀ b i, b < f.shape.fr.length → i < (P.getD (f.fx b) []).length → 0 ≤ pv P (f.fx b) i → pv P (f.ty b) (f.av b i).toNat = g.av b (pv P (f.fx b) i).toNat
  inj : once = true → ∀ y i j, y < P.length → i < (P.getD y []).length → j < (P.getD y []).length → 0 ≤ pv P y i → pv P y i = pv P y j → i = j
def Ext' (P Q : List (List Int)) : Prop := P.length = Q.length ∧ (∀ y, (P.getD y []).length = (Q.getD y []).length) ∧ ∀ y i, y < P.length → i < (P.getD y []).length → 0 ≤ pv P y i → pv Q y i = pv P y i
end
variable {f g : SF} {once : Bool} {x e u : Nat} {P Q : List (List Int)}
structure SPair (f g : SF) : Prop where
  src : IsSF f
  tgt : IsSF g
  one : f.shape = g.shape
structure Gd (f g : SF) (once : Bool) (P : List (List Int)) : Prop where
  len : P.length = f.sizes.length
  row : ∀ y, y < P.length → ((P.getD y []).length : Int) = f.sizes.getD y 0
  rng : ∀ y i, y < P.length → i < (P.getD y []).length → -1 ≤ pv P y i ∧ pv P y i < g.sizes.getD y 0
  inj : once = true → ∀ y i j, y < P.length → i < (P.getD y []).length → j < (P.getD y []).length → 0 ≤ pv P y i → pv P y i = pv P y j → i = j
end Go.Cats
end
section
namespace Go.Cats
def fuI (P : List (List Int)) (y : Nat) (i : Nat) : Option (Nat × Nat) := if pv P y i < 0 then some (y, i) else none
def fuR (P : List (List Int)) (y : Nat) : Option (Nat × Nat) := scan (P.getD y []).length (fuI P y)
def fuP (P : List (List Int)) : Option (Nat × Nat) := scan P.length (fuR P)
section
variable (f g : SF) (once : Bool)
def dfs : Nat → List (List Int) → List (List (List Int))
  | 0, _ => []
  | n + 1, P => match fuP P with
    | none => [P]
    | some (x, e) => (List.range (g.sizes.getD x 0).toNat).flatMap fun u => match setS f g once x e u P with
      | none => []
      | some Q => dfs n Q
end
variable {f g : SF} {once : Bool} {x e u : Nat} {P Q : List (List Int)}
theorem filt_le : ∀ {r s : List Int}, r.length = s.length → (∀ i, i < r.length → 0 ≤ r.getD i 0 → s.getD i 0 = r.getD i 0) → (s.filter fun v => decide (v < 0)).length ≤ (r.filter fun v => decide (v < 0)).length
  | [], [], _, _ => Nat.le_refl _
  | [], _ :: _, h, _ => by simp at h
  | _ :: _, [], h, _ => by simp at h
  | a :: r, b :: s, hl, h => by
    have ih := filt_le (r := r) (s := s) (by simpa using hl) (fun i hi h0 => by
      have := h (i + 1) (by simp; omega) (by simpa using h0)
      simpa using this)
    have h0 := h 0 (by simp)
    simp only [List.getD_cons_zero] at h0
    simp only [List.filter_cons]
    by_cases ha : a < 0
    · by_cases hb : b < 0
      · simp [ha, hb]; exact ih
      · simp [ha, hb]; omega
    · have := h0 (by omega)
      subst this
      simp [ha]; exact ih
theorem filt_lt : ∀ {r s : List Int}, r.length = s.length → (∀ i, i < r.length → 0 ≤ r.getD i 0 → s.getD i 0 = r.getD i 0) → ∀ j, j < r.length → r.getD j 0 < 0 → 0 ≤ s.getD j 0 → (s.filter fun v => decide (v < 0)).length < (r.filter fun v => decide (v < 0)).length
  | [], _, _, _, j, hj, _, _ => by simp at hj
  | _ :: _, [], h, _, _, _, _, _ => by simp at h
  | a :: r, b :: s, hl, h, j, hj, h1, h2 => by
    have hl' : r.length = s.length := by simpa using hl
    have hs : ∀ i, i < r.length → 0 ≤ r.getD i 0 → s.getD i 0 = r.getD i 0 := fun i hi h0 => by
      have := h (i + 1) (by simp; omega) (by simpa using h0)
      simpa using this
    have h0 := h 0 (by simp)
    simp only [List.getD_cons_zero] at h0
    simp only [List.filter_cons]
    cases j with
    | zero =>
      have ha : a < 0 := by simpa using h1
      have hb : ¬ b < 0 := by have : 0 ≤ b := by simpa using h2
                              omega
      have := filt_le hl' hs
      simp [ha, hb]; omega
    | succ j =>
      have ih := filt_lt hl' hs j (by simpa using hj) (by simpa using h1) (by simpa using h2)
      by_cases ha : a < 0
      · by_cases hb : b < 0
        · simp [ha, hb]; exact ih
        · simp [ha, hb]; omega
      · have := h0 (by omega)
        subst this
        simp [ha]; exact ih
end Go.Cats
end
section
namespace Go.Cats
section
variable (f g : SF) (once : Bool)
def newS (e : Nat) (P : List (List Int)) (a : Nat) : Prop := ¬ 0 ≤ pv P (f.ty a) (f.av a e).toNat
instance (e : Nat) (P : List (List Int)) (a : Nat) : Decidable (newS f e P a) := by unfold newS; infer_instance
def setL (e u : Nat) : List Nat → List (List Int) → List (Int × Int) → Bool × List (List Int) × List (Int × Int)
  | [], P, N => (true, P, N)
  | a :: l, P, N => match stepS f g once e u P a with
    | none => (false, P, N)
    | some Q => setL e u l Q (if newS f e P a then N ++ [((f.ty a : Int), f.av a e)] else N)
def outN (c : Cat) (x : Nat) (n : Nat) : List Nat := (List.range n).filter fun a => decide (c.fr.getD a 0 = x)
end
variable {f g : SF} {once : Bool} {x e u : Nat} {P Q : List (List Int)}
def undo (P : List (List Int)) (N : List (Int × Int)) : List (List Int) := N.foldl (fun P p => pset P p.1.toNat p.2.toNat (-1)) P
end Go.Cats
end
section
namespace Go.Cats
def sumI (l : List Int) : Nat → Int
  | 0 => 0
  | n + 1 => sumI l n + l.getD n 0
theorem sumI_zero (l : List Int) : sumI l 0 = 0 := rfl
def SF.elems (f : SF) : Int := sumI f.sizes f.sizes.length
theorem rep_snoc (n : Nat) (k : Int) : List.replicate n k ++ [k] = List.replicate (n + 1) k := by rw [List.replicate_succ']
def outI (c : Cat) (x n : Nat) : List Int := (outN c x n).map fun a : Nat => (a : Int)
theorem outI_zero (c : Cat) (x : Nat) : outI c x 0 = [] := rfl
theorem has_hit {l : List Int} {n : Int} {i : Nat} (hi : i < l.length) (h : l.getD i 0 = n) : n ∈ l := by
  rw [← h, List.getD_eq_getElem?_getD, List.getElem?_eq_getElem hi]; exact List.getElem_mem hi
theorem has_none {l : List Int} {n : Int} {i : Nat} (h : ∀ j, j < i → ¬ l.getD j 0 = n) (hi : l.length ≤ i) : ¬ n ∈ l := by
  intro hm
  obtain ⟨j, hj, e⟩ := List.getElem_of_mem hm
  refine h j (by omega) ?_
  rw [List.getD_eq_getElem?_getD, List.getElem?_eq_getElem hj]; exact e
end Go.Cats
end
section
namespace Go.Cats
section
variable (f g : SF) (once : Bool)
end
variable {f g : SF} {once : Bool} {x e u j a : Nat} {P Q : List (List Int)} {N : List (Int × Int)}
variable {y i k : Int}
end Go.Cats
end
section
namespace Go.Cats
section
variable (f g : SF) (once : Bool)
def refQ (x e u : Nat) (P : List (List Int)) (a : Nat) : List (List Int) := (setN f g once x e u P a).getD P
end
variable {f g : SF} {once : Bool} {x e u a : Nat} {P Q : List (List Int)}
section
variable (h : setN f g once x e u P a = some (refQ f g once x e u P a)) (ha : a < f.shape.fr.length) (hx : f.shape.fr.getD a 0 = x)
include h ha hx
end
end Go.Cats
end
section
namespace Go.Cats
section
variable (f g : SF) (once : Bool)
end
variable {f g : SF} {once : Bool} {x e n : Nat} {P Q : List (List Int)}
end Go.Cats
end
section
namespace Go.Cats
section
variable (f g : SF) (once : Bool)
end
variable {f g : SF} {once : Bool} {n x e u : Nat} {P Q : List (List Int)}
theorem take_take (A B C : List (List (List Int))) (k : Nat) : ((A ++ B).take k ++ C).take k = (A ++ (B ++ C)).take k := by
  rw [← List.append_assoc, List.take_append, List.take_append (l₁ := A ++ B), List.take_take, Nat.min_self, List.length_take]
  by_cases h : k ≤ (A ++ B).length
  · rw [Nat.min_eq_left h, Nat.sub_self, Nat.sub_eq_zero_of_le h]
  · rw [Nat.min_eq_right (by omega)]
end Go.Cats
end
section
namespace Go.Cats
def idxO (l : List Int) (n : Int) (i : Nat) : Option Int := if l.getD i 0 = n then some (i : Int) else none
def idxOf (l : List Int) (n : Int) : Int := (scan l.length (idxO l n)).getD (-1)
theorem idxOf_hit {l : List Int} {n : Int} {i : Nat} (h : scan i (idxO l n) = none) (hi : i < l.length) (k : l.getD i 0 = n) : idxOf l n = i := by
  unfold idxOf
  rw [scan_hit hi h (show idxO l n i = some (i : Int) from if_pos k)]; rfl
theorem idxOf_none {l : List Int} {n : Int} (h : scan l.length (idxO l n) = none) : idxOf l n = -1 := by
  unfold idxOf
  rw [h]; rfl
theorem idxO_f {l : List Int} {n : Int} {i : Nat} (k : ¬ l.getD i 0 = n) : idxO l n i = none := if_neg k
theorem idxOf_of {l : List Int} {n : Int} (h : idxOf l n ≠ -1) : 0 ≤ idxOf l n ∧ idxOf l n < l.length ∧ l.getD (idxOf l n).toNat 0 = n := by
  unfold idxOf at h ⊢
  cases hs : scan l.length (idxO l n) with
  | none => rw [hs] at h; exact absurd rfl h
  | some r =>
    obtain ⟨i, hi, k⟩ := scan_some hs
    unfold idxO at k
    split at k
    · rename_i q; simp at k; subst k
      simp only [Option.getD_some, Int.toNat_natCast]
      exact ⟨by omega, by omega, q⟩
    · cases k
def Cat.small (c : Cat) (x : Int) : Prop := ∀ y : Nat, (y : Int) < c.ob → (c.hom x y).length ≤ 16
theorem Cat.hom_len (c : Cat) (x y : Int) : (c.hom x y).length ≤ c.fr.length := c.homI_len x y _
end Go.Cats
end
section
namespace Go.Cats
def suf {α : Type} (n : Nat) (p : Nat → Option α) : Nat → Option α
  | 0 => none
  | k + 1 => (p (n - 1 - k)).or (suf n p k)
theorem suf_zero {α : Type} {n : Nat} {p : Nat → Option α} : suf n p 0 = none := rfl
theorem suf_succ {α : Type} {n k : Nat} {p : Nat → Option α} : suf n p (k + 1) = (p (n - 1 - k)).or (suf n p k) := rfl
theorem suf_scan {α : Type} {n : Nat} {p : Nat → Option α} : ∀ k, k ≤ n → scan n p = (scan (n - k) p).or (suf n p k)
  | 0, _ => by rw [suf_zero, Nat.sub_zero]; cases scan n p <;> rfl
  | k + 1, hk => by
    rw [suf_scan k (by omega), suf_succ, show n - k = (n - 1 - k) + 1 by omega, scan_succ, show n - (k + 1) = n - 1 - k by omega, Option.or_assoc]
theorem suf_all {α : Type} {n : Nat} {p : Nat → Option α} : suf n p n = scan n p := by
  rw [suf_scan n (Nat.le_refl n), Nat.sub_self, scan_zero]; rfl
section
variable (f g : SF) (once : Bool)
end
variable {f g : SF} {once : Bool} {n x e u : Nat} {P Q : List (List Int)}
theorem take_full (A B : List (List (List Int))) {k : Nat} (h : ¬ (A.take k).length < k) : (A ++ B).take k = A.take k := by
  rw [List.length_take] at h
  rw [List.take_append, show k - A.length = 0 by omega, List.take_zero, List.append_nil]
end Go.Cats
end
section
namespace Go.Cats
/-! ### Results, taken up one by one -/
section
variable {α β : Type} (s : α → β → Bool × α)
def eat : α → List β → Bool × α
  | o, [] => (true, o)
  | o, q :: D => if (s o q).1 = true then eat (s o q).2 D else (false, (s o q).2)
end
section
variable {α β : Type} {s : α → β → Bool × α} {o : α} {D E : List β} {q : β}
theorem eat_nil : eat s o [] = (true, o) := rfl
theorem eat_t (h : (s o q).1 = true) : eat s o (q :: D) = eat s (s o q).2 D := by rw [eat]; exact if_pos h
theorem eat_f (h : (s o q).1 = false) : eat s o (q :: D) = (false, (s o q).2) := by rw [eat]; exact if_neg (by rw [h]; simp)
theorem eat_one : eat s o [q] = s o q := by
  cases h : (s o q).1 with
  | true => rw [eat_t h, eat_nil, ← h]
  | false => rw [eat_f h, ← h]
theorem eat_go : ∀ {D : List β} {o : α}, (eat s o D).1 = true → eat s o (D ++ E) = eat s (eat s o D).2 E
  | [], o, _ => rfl
  | q :: D, o, h => by
    cases hq : (s o q).1 with
    | true =>
      rw [eat_t hq] at h
      rw [List.cons_append, eat_t hq, eat_t hq, eat_go h]
    | false => rw [eat_f hq] at h; cases h
theorem eat_stop : ∀ {D : List β} {o : α}, (eat s o D).1 = false → eat s o (D ++ E) = eat s o D
  | [], o, h => by cases h
  | q :: D, o, h => by
    cases hq : (s o q).1 with
    | true =>
      rw [eat_t hq] at h
      rw [List.cons_append, eat_t hq, eat_t hq, eat_stop h]
    | false => rw [List.cons_append, eat_f hq, eat_f hq]
end
/-! ### The way back -/
variable {f g : SF} {once : Bool} {x e u n : Nat} {P Q : List (List Int)} {N : List (Int × Int)}
structure ChF (f g : SF) (once : Bool) (x e u : Nat) (P Q : List (List Int)) (N : List (Int × Int)) (ok : Bool) : Prop where
  len : Q.length = P.length
  row : ∀ y, (Q.getD y []).length = (P.getD y []).length
  nl : N.length ≤ 4096
  at1 : ∀ i, i < N.length → 0 ≤ (N.getD i (0, 0)).1 ∧ (N.getD i (0, 0)).1.toNat < P.length ∧ 0 ≤ (N.getD i (0, 0)).2 ∧ (N.getD i (0, 0)).2.toNat < (P.getD (N.getD i (0, 0)).1.toNat []).length
  back : undo Q N = P
  yes : ok = true → setS f g once x e u P = some Q
  no : ok = false → setS f g once x e u P = none
end Go.Cats
end
section
namespace Go.Cats
def lexP : List Nat → List (List Int)
  | [] => [[]]
  | s :: S => (List.range s).flatMap fun v : Nat => (lexP S).map fun l => (v : Int) :: l
def contB : List Int → List Int → Bool
  | [], [] => true
  | a :: A, q :: Q => (decide (a < 0) || decide (q = a)) && contB A Q
  | _, _ => false
def extW (W : List Int → Bool) (S : List Nat) (A : List Int) : List (List Int) := (lexP S).filter fun Q => contB A Q && W Q
theorem mem_lexP : ∀ {S : List Nat} {Q : List Int}, Q ∈ lexP S ↔ Q.length = S.length ∧ ∀ i, i < Q.length → 0 ≤ Q.getD i 0 ∧ Q.getD i 0 < S.getD i 0
  | [], Q => by
    simp only [lexP, List.mem_singleton, List.length_nil]
    constructor
    · rintro rfl; exact ⟨rfl, fun i hi => by simp at hi⟩
    · rintro ⟨h, _⟩; exact List.length_eq_zero_iff.1 h
  | s :: S, Q => by
    simp only [lexP, List.mem_flatMap, List.mem_range, List.mem_map]
    constructor
    · rintro ⟨v, hv, l, hl, rfl⟩
      obtain ⟨h1, h2⟩ := mem_lexP.1 hl
      refine ⟨by simp [h1], fun i hi => ?_⟩
      cases i with
      | zero => simpa using hv
      | succ i => simpa using h2 i (by simpa using hi)
    · rintro ⟨h1, h2⟩
      cases Q with
      | nil => simp at h1
      | cons q Q =>
        have h0 := h2 0 (by simp)
        simp only [List.getD_cons_zero] at h0
        refine ⟨q.toNat, by omega, Q, mem_lexP.2 ⟨by simpa using h1, fun i hi => by have := h2 (i + 1) (by simp; omega); simpa using this⟩, ?_⟩
        rw [Int.toNat_of_nonneg h0.1]
theorem contB_iff : ∀ {A Q : List Int}, contB A Q = true ↔ A.length = Q.length ∧ ∀ i, i < A.length → 0 ≤ A.getD i 0 → Q.getD i 0 = A.getD i 0
  | [], [] => by simp [contB]
  | [], _ :: _ => by simp [contB]
  | _ :: _, [] => by simp [contB]
  | a :: A, q :: Q => by
    simp only [contB, Bool.and_eq_true, Bool.or_eq_true, decide_eq_true_eq, contB_iff (A := A) (Q := Q), List.length_cons, Nat.add_right_cancel_iff]
    constructor
    · rintro ⟨h0, h1, h2⟩
      refine ⟨h1, fun i hi h => ?_⟩
      cases i with
      | zero => simp only [List.getD_cons_zero] at h ⊢; omega
      | succ i => simp only [List.getD_cons_succ] at h ⊢; exact h2 i (by omega) h
    · rintro ⟨h1, h2⟩
      refine ⟨?_, h1, fun i hi h => ?_⟩
      · have := h2 0 (by omega)
        simp only [List.getD_cons_zero] at this
        omega
      · have := h2 (i + 1) (by omega)
        simpa using this (by simpa using h)
theorem mem_extW {W : List Int → Bool} {S : List Nat} {A Q : List Int} : Q ∈ extW W S A ↔ Q ∈ lexP S ∧ contB A Q = true ∧ W Q = true := by
  unfold extW
  rw [List.mem_filter, Bool.and_eq_true]
theorem extW_congr {W : List Int → Bool} {S : List Nat} {A B : List Int} (h : ∀ Q, Q ∈ lexP S → W Q = true → (contB A Q = true ↔ contB B Q = true)) : extW W S A = extW W S B := by
  unfold extW
  refine List.filter_congr fun Q hQ => ?_
  cases hW : W Q with
  | false => rw [Bool.and_false, Bool.and_false]
  | true =>
    rw [Bool.and_true, Bool.and_true]
    have := h Q hQ hW
    cases h1 : contB A Q <;> cases h2 : contB B Q <;> simp_all
theorem extW_nil {W : List Int → Bool} {S : List Nat} {A : List Int} (h : ∀ Q, Q ∈ lexP S → W Q = true → contB A Q = true → False) : extW W S A = [] := by
  rw [List.eq_nil_iff_forall_not_mem]
  intro Q hQ
  obtain ⟨h1, h2, h3⟩ := mem_extW.1 hQ
  exact h Q h1 h3 h2
theorem flat_one {β : Type} {s : Nat} {a : Int} {g : Nat → List β} : ((List.range s).flatMap fun v : Nat => if (v : Int) = a then g v else []) = if 0 ≤ a ∧ a < s then g a.toNat else [] := by
  induction s with
  | zero => rw [if_neg (by omega)]; rfl
  | succ s ih =>
    rw [List.range_succ, List.flatMap_append, ih, List.flatMap_cons, List.flatMap_nil, List.append_nil]
    by_cases h : (s : Int) = a
    · subst h
      rw [if_neg (by omega), if_pos rfl, if_pos (by omega), List.nil_append, Int.toNat_natCast]
    · rw [if_neg h, List.append_nil]
      by_cases h1 : 0 ≤ a ∧ a < s
      · rw [if_pos h1, if_pos (by omega)]
      · rw [if_neg h1, if_neg (by omega)]
theorem extW_cons {W : List Int → Bool} {s : Nat} {S : List Nat} {a : Int} {A : List Int} :
    extW W (s :: S) (a :: A) = (List.range s).flatMap fun v : Nat => if a < 0 ∨ (v : Int) = a then (extW (fun Q => W ((v : Int) :: Q)) S A).map fun l => (v : Int) :: l else [] := by
  unfold extW
  rw [lexP, List.filter_flatMap]
  congr 1
  funext v
  rw [List.filter_map]
  by_cases h : a < 0 ∨ (v : Int) = a
  · rw [if_pos h]
    congr 1
    refine List.filter_congr fun Q _ => ?_
    have : (decide (a < 0) || decide ((v : Int) = a)) = true := by simpa using h
    simp only [Function.comp, contB, this, Bool.true_and]
  · rw [if_neg h]
    have : (decide (a < 0) || decide ((v : Int) = a)) = false := by simpa using h
    have e : ((fun Q => contB (a :: A) Q && W Q) ∘ fun l => (v : Int) :: l) = fun _ => false := by
      funext Q
      simp only [Function.comp, contB, this, Bool.false_and]
    rw [e]
    simp
theorem extW_set {W : List Int → Bool} {s : Nat} {S : List Nat} {a : Int} {A : List Int} (h : 0 ≤ a) : extW W (s :: S) (a :: A) = if a < s then (extW (fun Q => W (a :: Q)) S A).map fun l => a :: l else [] := by
  rw [extW_cons]
  have : (fun v : Nat => if a < 0 ∨ (v : Int) = a then (extW (fun Q => W ((v : Int) :: Q)) S A).map (fun l => (v : Int) :: l) else []) = fun v : Nat => if (v : Int) = a then (extW (fun Q => W ((v : Int) :: Q)) S A).map (fun l => (v : Int) :: l) else [] := by
    funext v
    by_cases h1 : (v : Int) = a
    · rw [if_pos (.inr h1), if_pos h1]
    · rw [if_neg (by omega), if_neg h1]
  rw [this, flat_one]
  by_cases h1 : a < s
  · rw [if_pos ⟨h, h1⟩, if_pos h1, Int.toNat_of_nonneg h]
  · rw [if_neg (by omega), if_neg h1]
theorem extW_branch : ∀ {W : List Int → Bool} {S : List Nat} {A : List Int} {i : Nat}, A.length = S.length → i < A.length → (∀ j, j < i → 0 ≤ A.getD j 0) → A.getD i 0 < 0 →
    extW W S A = (List.range (S.getD i 0)).flatMap fun u : Nat => extW W S (A.set i (u : Int))
  | W, [], A, i, hl, hi, _, _ => by simp at hl; subst hl; simp at hi
  | W, s :: S, [], i, hl, hi, _, _ => by simp at hi
  | W, s :: S, a :: A, 0, hl, hi, _, h0 => by
    simp only [List.getD_cons_zero] at h0 ⊢
    rw [extW_cons]
    rw [List.flatMap_def, List.flatMap_def]
    congr 1
    refine List.map_congr_left fun u hu => ?_
    have hu := List.mem_range.1 hu
    rw [List.set_cons_zero, extW_set (by omega), if_pos (Or.inl h0), if_pos (show (u : Int) < s by omega)]
  | W, s :: S, a :: A, i + 1, hl, hi, hlt, h0 => by
    have ha := hlt 0 (by omega)
    simp only [List.getD_cons_zero, List.getD_cons_succ] at ha h0 ⊢
    have ih := extW_branch (W := fun Q => W (a :: Q)) (S := S) (A := A) (i := i) (by simpa using hl) (by simpa using hi) (fun j hj => by have := hlt (j + 1) (by omega); simpa using this) h0
    rw [extW_set ha]
    have : (fun u : Nat => extW W (s :: S) ((a :: A).set (i + 1) (u : Int))) = fun u : Nat => if a < s then (extW (fun Q => W (a :: Q)) S (A.set i (u : Int))).map (fun l => a :: l) else [] := by
      funext u
      rw [List.set_cons_succ, extW_set ha]
    rw [this]
    by_cases h1 : a < s
    · rw [if_pos h1, ih, List.map_flatMap]
      simp only [if_pos h1]
    · rw [if_neg h1]
      simp only [if_neg h1]
      simp
theorem extW_full : ∀ {W : List Int → Bool} {S : List Nat} {A : List Int}, A.length = S.length → (∀ j, j < A.length → 0 ≤ A.getD j 0 ∧ A.getD j 0 < S.getD j 0) → extW W S A = if W A = true then [A] else []
  | W, [], A, hl, _ => by
    have : A = [] := List.length_eq_zero_iff.1 hl
    subst this
    cases h : W [] <;> simp [extW, lexP, contB, h]
  | W, s :: S, [], hl, _ => by simp at hl
  | W, s :: S, a :: A, hl, h => by
    have h0 := h 0 (by simp)
    simp only [List.getD_cons_zero] at h0
    rw [extW_set h0.1, if_pos h0.2, extW_full (by simpa using hl) (fun j hj => by have := h (j + 1) (by simp; omega); simpa using this)]
    split <;> simp_all
end Go.Cats
end
section
namespace Go.Cats
structure Rule where
  fr : Int
  to : Int
  by_ : List Int
instance : Inhabited Rule := ⟨⟨0, 0, []⟩⟩
def rulesAt (rs : List Rule) (i : Nat) : List Rule := rs.filter fun r => decide (r.fr = i)
def okW (rs : List Rule) (Q : List Int) : Bool := rs.all fun r => decide (Q.getD r.to.toNat 0 = r.by_.getD (Q.getD r.fr.toNat 0).toNat 0)
structure RulesW (S : List Nat) (rs : List Rule) : Prop where
  fr : ∀ r ∈ rs, 0 ≤ r.fr ∧ r.fr < S.length
  to : ∀ r ∈ rs, 0 ≤ r.to ∧ r.to < S.length
  len : ∀ r ∈ rs, r.by_.length = S.getD r.fr.toNat 0
  val : ∀ r ∈ rs, ∀ e : Nat, e < S.getD r.fr.toNat 0 → 0 ≤ r.by_.getD e 0 ∧ r.by_.getD e 0 < S.getD r.to.toNat 0
abbrev St := Bool × List Int × List Int
section
variable {f : Nat → Int → List Int → List Int → St} {e : Int} {r : Rule} {l m : List Rule} {A B C N Q : List Int} {rs : List Rule} {S : List Nat} {n i : Nat}
def XtL (A B : List Int) : Prop := A.length = B.length ∧ ∀ j, j < A.length → 0 ≤ A.getD j 0 → B.getD j 0 = A.getD j 0
theorem XtL.refl (A : List Int) : XtL A A := ⟨rfl, fun _ _ _ => rfl⟩
theorem XtL.trans (h : XtL A B) (k : XtL B C) : XtL A C := ⟨h.1.trans k.1, fun j hj h0 => by
  have e1 := h.2 j hj h0
  rw [k.2 j (by rw [← h.1]; exact hj) (by rw [e1]; exact h0), e1]⟩
def uns (A : List Int) : Nat := (A.filter fun v => decide (v < 0)).length
theorem XtL.uns (h : XtL A B) : uns B ≤ uns A := filt_le h.1 h.2
theorem XtL.uns_lt (h : XtL A B) {j : Nat} (hj : j < A.length) (h0 : A.getD j 0 < 0) (h1 : 0 ≤ B.getD j 0) : Cats.uns B < Cats.uns A := filt_lt h.1 h.2 j hj h0 h1
theorem set_getD {i j : Nat} {k : Int} (hi : i < A.length) : (A.set i k).getD j 0 = if j = i then k else A.getD j 0 := by
  rw [List.getD_eq_getElem?_getD, List.getElem?_set]
  by_cases h : j = i
  · subst h; rw [if_pos rfl, if_pos hi, if_pos rfl]; rfl
  · rw [if_neg (fun q => h q.symm), if_neg h, List.getD_eq_getElem?_getD]
theorem XtL.set (hi : i < A.length) (h : ¬ 0 ≤ A.getD i 0) : XtL A (A.set i e) := ⟨by simp, fun j hj h0 => by
  rw [set_getD hi, if_neg (fun q => h (by rw [← q]; exact h0))]⟩
theorem XtL.cont (h : XtL A B) (k : contB B Q = true) : contB A Q = true := by
  rw [contB_iff] at k ⊢
  refine ⟨h.1.trans k.1, fun j hj h0 => ?_⟩
  have e1 := h.2 j hj h0
  rw [k.2 j (by rw [← h.1]; exact hj) (by rw [e1]; exact h0), e1]
def RngL (S : List Nat) (A : List Int) : Prop := A.length = S.length ∧ ∀ j, j < A.length → -1 ≤ A.getD j 0 ∧ A.getD j 0 < S.getD j 0
theorem RngL.set (h : RngL S A) (hi : i < A.length) (he : 0 ≤ e ∧ e < S.getD i 0) : RngL S (A.set i e) := ⟨by simp [h.1], fun j hj => by
  rw [set_getD hi]
  by_cases q : j = i
  · subst q; rw [if_pos rfl]; omega
  · rw [if_neg q]; exact h.2 j (by simpa using hj)⟩
def ClF (rs : List Rule) (A B : List Int) : Prop := ∀ j, j < A.length → A.getD j 0 < 0 → 0 ≤ B.getD j 0 → ∀ r ∈ rulesAt rs j, B.getD r.to.toNat 0 = r.by_.getD (B.getD j 0).toNat 0
def undoL (A N : List Int) : List Int := N.foldl (fun A k => A.set k.toNat (-1)) A
structure Fct (S : List Nat) (A N : List Int) (t : St) : Prop where
  ext : XtL A t.2.1
  rng : RngL S t.2.1
  und : undoL t.2.1 t.2.2 = undoL A N
  nts : ∀ k ∈ t.2.2, k ∈ N ∨ (0 ≤ k ∧ k.toNat < A.length)
  cnt : t.2.2.length + uns t.2.1 ≤ N.length + uns A
def ClL (rs : List Rule) (A : List Int) : Prop := ∀ j, j < A.length → 0 ≤ A.getD j 0 → ∀ r ∈ rulesAt rs j, A.getD r.to.toNat 0 = r.by_.getD (A.getD j 0).toNat 0
end
end Go.Cats
end
section
namespace Go.Cats
def stL {β : Type} (M : Nat) (o : List β) (q : β) : Bool × List β := (decide (o.length + 1 ≤ M), o ++ [q])
theorem eat_L {β : Type} {M : Nat} : ∀ (D o : List β), o.length ≤ M → eat (stL M) o D = (decide ((o ++ D).length ≤ M), (o ++ D).take (M + 1))
  | [], o, h => by
    rw [eat_nil, List.append_nil, List.take_of_length_le (by omega), decide_eq_true h]
  | q :: D, o, h => by
    by_cases h1 : o.length + 1 ≤ M
    · rw [eat_t (decide_eq_true h1), show (stL M o q).2 = o ++ [q] from rfl, eat_L D _ (by simp; omega)]
      simp
    · rw [eat_f (decide_eq_false h1), show (stL M o q).2 = o ++ [q] from rfl]
      have e1 : o.length = M := by omega
      have e2 : decide ((o ++ q :: D).length ≤ M) = false := decide_eq_false (by simp; omega)
      rw [e2, ← e1, List.take_append, List.take_of_length_le (by omega), show o.length + 1 - o.length = 1 by omega]
      simp
theorem eat_Llen {β : Type} {M : Nat} {D o : List β} (h : o.length ≤ M) (h1 : (eat (stL M) o D).1 = true) : (eat (stL M) o D).2.length ≤ M := by
  rw [eat_L _ _ h] at h1 ⊢
  simp only [decide_eq_true_eq] at h1
  simp only [List.length_take]
  omega
section
variable {f : Nat → Int → List Int → List Int → St} {e : Int} {l : List Rule} {A N : List Int} {k : Nat}
theorem take_all (h : k < l.length) : l = l.take k ++ l.getD k default :: l.drop (k + 1) := by
  rw [List.getD_eq_getElem?_getD, List.getElem?_eq_getElem h, Option.getD_some, ← List.drop_eq_getElem_cons h, List.take_append_drop]
end
/-! ### The search -/
theorem scan_first {α : Type} {p : Nat → Option α} {r : α} : ∀ {n : Nat}, scan n p = some r → ∃ i, i < n ∧ p i = some r ∧ scan i p = none
  | 0, h => by cases h
  | n + 1, h => by
    rw [scan_succ] at h
    cases hs : scan n p with
    | none => rw [hs] at h; exact ⟨n, Nat.lt_succ_self _, h, hs⟩
    | some q =>
      rw [hs] at h
      obtain ⟨i, h1, h2, h3⟩ := scan_first hs
      have : q = r := Option.some.inj h
      subst this
      exact ⟨i, by omega, h2, h3⟩
theorem idx_first {S : List Nat} {A : List Int} (hA : RngL S A) : (idxOf A (-1) = -1 ∧ ∀ j, j < A.length → 0 ≤ A.getD j 0) ∨ ∃ i : Nat, idxOf A (-1) = i ∧ i < A.length ∧ A.getD i 0 = -1 ∧ ∀ j, j < i → 0 ≤ A.getD j 0 := by
  have hne : ∀ j, j < A.length → idxO A (-1) j = none → 0 ≤ A.getD j 0 := fun j hj h => by
    have h1 := (hA.2 j hj).1
    unfold idxO at h
    split at h
    · cases h
    · omega
  cases hs : scan A.length (idxO A (-1)) with
  | none => exact .inl ⟨idxOf_none hs, fun j hj => hne j hj (scan_none.1 hs j hj)⟩
  | some r =>
    obtain ⟨i, h1, h2, h3⟩ := scan_first hs
    have h4 : A.getD i 0 = -1 := by
      unfold idxO at h2
      split at h2
      · assumption
      · cases h2
    exact .inr ⟨i, idxOf_hit h3 h1 h4, h1, h4, fun j hj => hne j (by omega) (scan_none.1 h3 j hj)⟩
theorem uns_le (A : List Int) : uns A ≤ A.length := List.length_filter_le _ _
structure TryF (rs : List Rule) (S : List Nat) (A : List Int) (i u : Nat) (T : St) : Prop where
  len : T.2.1.length = A.length
  nl : T.2.2.length ≤ A.length
  at1 : ∀ j, j < T.2.2.length → 0 ≤ T.2.2.getD j 0 ∧ (T.2.2.getD j 0).toNat < A.length
  back : undoL T.2.1 T.2.2 = A
  yes : T.1 = true → RngL S T.2.1 ∧ ClL rs T.2.1 ∧ uns T.2.1 < uns A ∧ extW (okW rs) S (A.set i (u : Int)) = extW (okW rs) S T.2.1
  no : T.1 = false → extW (okW rs) S (A.set i (u : Int)) = []
end Go.Cats
end
section
namespace Go.Cats
structure Link where
  i : Int
  j : Int
  left : List Int
  right : List Int
instance : Inhabited Link := ⟨⟨0, 0, [], []⟩⟩
structure LinksW (S : List Nat) (ls : List Link) : Prop where
  i : ∀ l ∈ ls, 0 ≤ l.i ∧ l.i < S.length
  j : ∀ l ∈ ls, 0 ≤ l.j ∧ l.j < S.length
  left : ∀ l ∈ ls, l.left.length = S.getD l.i.toNat 0
  right : ∀ l ∈ ls, l.right.length = S.getD l.j.toNat 0
def okLk (ls : List Link) (Q : List Int) : Bool := ls.all fun l => decide (l.left.getD (Q.getD l.i.toNat 0).toNat 0 = l.right.getD (Q.getD l.j.toNat 0).toNat 0)
def linkFit (A : List Int) (n : Nat) (e : Int) (l : Link) : Bool :=
  if l.i = n ∧ l.j = n then decide (l.left.getD e.toNat 0 = l.right.getD e.toNat 0)
  else if l.i = n ∧ 0 ≤ A.getD l.j.toNat 0 then decide (l.left.getD e.toNat 0 = l.right.getD (A.getD l.j.toNat 0).toNat 0)
  else if l.j = n ∧ 0 ≤ A.getD l.i.toNat 0 then decide (l.left.getD (A.getD l.i.toNat 0).toNat 0 = l.right.getD e.toNat 0)
  else true
def atL (ls : List Link) (n : Nat) (m : Nat) : List Nat := (List.range m).filter fun k => decide ((ls.getD k default).i = n) || decide ((ls.getD k default).j = n)
def fitsL (ls : List Link) (A : List Int) (n : Nat) (e : Int) : Bool := (atL ls n ls.length).all fun k => linkFit A n e (ls.getD k default)
def fqI (A : List Int) (i : Nat) : Option Nat := if A.getD i 0 = -1 then some i else none
def fqL (A : List Int) : Option Nat := scan A.length (fqI A)
section
variable {ls : List Link} {S : List Nat} {A B Q : List Int} {n i m : Nat} {e : Int} {l : Link}
theorem fqL_some (h : fqL A = some i) : i < A.length ∧ A.getD i 0 = -1 ∧ ∀ j, j < i → A.getD j 0 ≠ -1 := by
  obtain ⟨k, h1, h2, h3⟩ := scan_first h
  unfold fqI at h2
  split at h2
  · rename_i h4
    have : k = i := Option.some.inj h2
    subst this
    refine ⟨h1, h4, fun j hj q => ?_⟩
    have := scan_none.1 h3 j hj
    unfold fqI at this
    rw [if_pos q] at this
    cases this
  · cases h2
theorem fqL_none : fqL A = none ↔ ∀ j, j < A.length → A.getD j 0 ≠ -1 := by
  unfold fqL
  rw [scan_none]
  constructor
  · intro h j hj q
    have := h j hj
    unfold fqI at this
    rw [if_pos q] at this
    cases this
  · intro h j hj
    unfold fqI
    rw [if_neg (h j hj)]
theorem XtL.setL (hi : i < A.length) (h : A.getD i 0 = -1) : XtL A (A.set i e) := .set hi (by omega)
def CoL (ls : List Link) (A : List Int) : Prop := ∀ l ∈ ls, 0 ≤ A.getD l.i.toNat 0 → 0 ≤ A.getD l.j.toNat 0 → l.left.getD (A.getD l.i.toNat 0).toNat 0 = l.right.getD (A.getD l.j.toNat 0).toNat 0
end
end Go.Cats
end
section
namespace Go.Cats
def pI : Option Nat → Int | none => -1 | some x => x
def bkL (A : List Int) (i : Nat) : Option Nat := suf A.length (fqI A) i
theorem bkL_all {A : List Int} : bkL A A.length = fqL A := suf_all
theorem bkL_hit {A : List Int} {i : Nat} (h : A.getD (A.length - 1 - i) 0 = -1) : bkL A (i + 1) = some (A.length - 1 - i) := by
  unfold bkL
  rw [suf_succ, show fqI A _ = some _ from if_pos h]
  rfl
theorem bkL_miss {A : List Int} {i : Nat} (h : ¬ A.getD (A.length - 1 - i) 0 = -1) : bkL A (i + 1) = bkL A i := by
  unfold bkL
  rw [suf_succ, show fqI A _ = none from if_neg h]
  rfl
theorem takeQ {α : Type} (A B C : List α) (k : Nat) : ((A ++ B).take k ++ C).take k = (A ++ (B ++ C)).take k := by
  rw [← List.append_assoc, List.take_append, List.take_append (l₁ := A ++ B), List.take_take, Nat.min_self, List.length_take]
  by_cases h : k ≤ (A ++ B).length
  · rw [Nat.min_eq_left h, Nat.sub_self, Nat.sub_eq_zero_of_le h]
  · rw [Nat.min_eq_right (by omega)]
theorem fullQ {α : Type} (A B : List α) {k : Nat} (h : ¬ (A.take k).length < k) : (A ++ B).take k = A.take k := by
  rw [List.length_take] at h
  rw [List.take_append, show k - A.length = 0 by omega, List.take_zero, List.append_nil]
end Go.Cats
end
section
namespace Go.Cats
abbrev Fs := Bool × Bool × List Int
abbrev Cat.cp (c : Cat) (a b : Nat) : Int := (c.co.getD a []).getD b 0
def stF (c d : Cat) (a b : Nat) (s : Fs) : Fs :=
  if c.cp a b < 0 ∨ s.2.2.getD a 0 < 0 ∨ s.2.2.getD b 0 < 0 then s
  else if s.2.2.getD (c.cp a b).toNat 0 < 0 then (true, true, s.2.2.set (c.cp a b).toNat (d.C (s.2.2.getD a 0) (s.2.2.getD b 0)))
  else (decide (s.2.2.getD (c.cp a b).toNat 0 = d.C (s.2.2.getD a 0) (s.2.2.getD b 0)), s.2.1, s.2.2)
def rowF (c d : Cat) (a : Nat) : Nat → Fs → Fs
  | 0, s => s
  | b + 1, s => if (rowF c d a b s).1 = true then stF c d a b (rowF c d a b s) else rowF c d a b s
def passF (c d : Cat) (m : Nat) : Nat → Fs → Fs
  | 0, s => s
  | a + 1, s => if (passF c d m a s).1 = true then rowF c d a m (passF c d m a s) else passF c d m a s
def forceF (c d : Cat) : Nat → List Int → Bool × List Int
  | 0, A => (false, A)
  | k + 1, A => if (passF c d c.fr.length c.fr.length (true, false, A)).1 = true then
      (if (passF c d c.fr.length c.fr.length (true, false, A)).2.1 = true then forceF c d k (passF c d c.fr.length c.fr.length (true, false, A)).2.2 else (true, (passF c d c.fr.length c.fr.length (true, false, A)).2.2))
      else (false, (passF c d c.fr.length c.fr.length (true, false, A)).2.2)
section
variable {c d : Cat} {a b m n k : Nat} {s t u : Fs} {O A B Q : List Int} {g : Bool}
theorem stF_skip (h : c.cp a b < 0 ∨ s.2.2.getD a 0 < 0 ∨ s.2.2.getD b 0 < 0) : stF c d a b s = s := if_pos h
theorem stF_set (h : ¬ (c.cp a b < 0 ∨ s.2.2.getD a 0 < 0 ∨ s.2.2.getD b 0 < 0)) (k : s.2.2.getD (c.cp a b).toNat 0 < 0) : stF c d a b s = (true, true, s.2.2.set (c.cp a b).toNat (d.C (s.2.2.getD a 0) (s.2.2.getD b 0))) := by
  unfold stF; rw [if_neg h, if_pos k]
theorem stF_has (h : ¬ (c.cp a b < 0 ∨ s.2.2.getD a 0 < 0 ∨ s.2.2.getD b 0 < 0)) (k : ¬ s.2.2.getD (c.cp a b).toNat 0 < 0) : stF c d a b s = (decide (s.2.2.getD (c.cp a b).toNat 0 = d.C (s.2.2.getD a 0) (s.2.2.getD b 0)), s.2.1, s.2.2) := by
  unfold stF; rw [if_neg h, if_neg k]
theorem rowF_zero : rowF c d a 0 s = s := rfl
theorem rowF_go (h : (rowF c d a b s).1 = true) : rowF c d a (b + 1) s = stF c d a b (rowF c d a b s) := by rw [rowF]; exact if_pos h
theorem rowF_no (h : (rowF c d a b s).1 = false) : rowF c d a (b + 1) s = rowF c d a b s := by rw [rowF]; exact if_neg (by rw [h]; simp)
theorem rowF_stop (h : (rowF c d a b s).1 = false) : ∀ {n : Nat}, b ≤ n → rowF c d a n s = rowF c d a b s
  | 0, hn => by rw [show b = 0 by omega]
  | n + 1, hn => by
    by_cases e : b = n + 1
    · rw [e]
    · have ih := rowF_stop h (n := n) (by omega)
      rw [rowF_no (by rw [ih]; exact h), ih]
theorem passF_zero : passF c d m 0 s = s := rfl
theorem passF_go (h : (passF c d m a s).1 = true) : passF c d m (a + 1) s = rowF c d a m (passF c d m a s) := by rw [passF]; exact if_pos h
theorem passF_no (h : (passF c d m a s).1 = false) : passF c d m (a + 1) s = passF c d m a s := by rw [passF]; exact if_neg (by rw [h]; simp)
theorem passF_stop (h : (passF c d m a s).1 = false) : ∀ {n : Nat}, a ≤ n → passF c d m n s = passF c d m a s
  | 0, hn => by rw [show a = 0 by omega]
  | n + 1, hn => by
    by_cases e : a = n + 1
    · rw [e]
    · have ih := passF_stop h (n := n) (by omega)
      rw [passF_no (by rw [ih]; exact h), ih]
structure VA (c d : Cat) (O A : List Int) : Prop where
  len : A.length = c.fr.length
  lo : ∀ f : Nat, f < A.length → -1 ≤ A.getD f 0
  hi : ∀ f : Nat, f < A.length → 0 ≤ A.getD f 0 → A.getD f 0 < d.fr.length ∧ d.fr.getD (A.getD f 0).toNat 0 = O.getD (c.fr.getD f 0).toNat 0 ∧ d.to.getD (A.getD f 0).toNat 0 = O.getD (c.to.getD f 0).toNat 0
theorem comp_ent (hc : Shape c) (ha : a < c.fr.length) (hb : b < c.fr.length) (h0 : 0 ≤ c.cp a b) : c.to.getD a 0 = c.fr.getD b 0 ∧ (c.cp a b).toNat < c.fr.length ∧ c.fr.getD (c.cp a b).toNat 0 = c.fr.getD a 0 ∧ c.to.getD (c.cp a b).toNat 0 = c.to.getD b 0 := by
  have := (hc.coe a ha).2 b hb
  unfold Cat.Entry at this
  simp only [Cat.F, Cat.T, Cat.C, Int.toNat_natCast] at this
  rcases this with ⟨h1, h2, h3, h4⟩ | ⟨h1, h2⟩
  · exact ⟨h1, by show ((c.co.getD a []).getD b 0).toNat < _; omega, h3, h4⟩
  · exact absurd h0 (by show ¬ 0 ≤ (c.co.getD a []).getD b 0; omega)
theorem comp_val (hd : Shape d) (ha : a < d.fr.length) (hb : b < d.fr.length) (h : d.to.getD a 0 = d.fr.getD b 0) : 0 ≤ d.cp a b ∧ d.cp a b < d.fr.length ∧ d.fr.getD (d.cp a b).toNat 0 = d.fr.getD a 0 ∧ d.to.getD (d.cp a b).toNat 0 = d.to.getD b 0 := by
  have := (hd.coe a ha).2 b hb
  unfold Cat.Entry at this
  simp only [Cat.F, Cat.T, Cat.C, Int.toNat_natCast] at this
  rcases this with ⟨h1, h2, h3, h4⟩ | ⟨h1, h2⟩
  · exact ⟨h2.1, h2.2, h3, h4⟩
  · exact absurd h h1
theorem VA.comp (hc : Shape c) (hd : Shape d) (h : VA c d O A) (ha : a < c.fr.length) (hb : b < c.fr.length) (h0 : 0 ≤ c.cp a b) (a0 : 0 ≤ A.getD a 0) (b0 : 0 ≤ A.getD b 0) :
    0 ≤ d.C (A.getD a 0) (A.getD b 0) ∧ d.C (A.getD a 0) (A.getD b 0) < d.fr.length ∧ d.fr.getD (d.C (A.getD a 0) (A.getD b 0)).toNat 0 = O.getD (c.fr.getD (c.cp a b).toNat 0).toNat 0 ∧ d.to.getD (d.C (A.getD a 0) (A.getD b 0)).toNat 0 = O.getD (c.to.getD (c.cp a b).toNat 0).toNat 0 := by
  obtain ⟨e1, e2, e3, e4⟩ := comp_ent hc ha hb h0
  obtain ⟨p1, p2, p3⟩ := h.hi a (by rw [h.len]; exact ha) a0
  obtain ⟨q1, q2, q3⟩ := h.hi b (by rw [h.len]; exact hb) b0
  obtain ⟨r1, r2, r3, r4⟩ := comp_val hd (a := (A.getD a 0).toNat) (b := (A.getD b 0).toNat) (by omega) (by omega) (by rw [p3, q2, e1])
  exact ⟨r1, r2, by rw [e3, ← p2]; exact r3, by rw [e4, ← q3]; exact r4⟩
theorem VA.set (h : VA c d O A) {i : Nat} {v : Int} (hi : i < A.length) (v0 : 0 ≤ v) (v1 : v < d.fr.length) (v2 : d.fr.getD v.toNat 0 = O.getD (c.fr.getD i 0).toNat 0) (v3 : d.to.getD v.toNat 0 = O.getD (c.to.getD i 0).toNat 0) : VA c d O (A.set i v) := by
  refine ⟨by simp [h.len], fun f hf => ?_, fun f hf => ?_⟩
  · rw [set_getD hi]
    by_cases e : f = i
    · rw [if_pos e]; omega
    · rw [if_neg e]; exact h.lo f (by simpa using hf)
  · rw [set_getD hi]
    by_cases e : f = i
    · subst e; rw [if_pos rfl]; exact fun _ => ⟨v1, v2, v3⟩
    · rw [if_neg e]; exact h.hi f (by simpa using hf)
theorem VA.rng (h : VA c d O A) : RngL (List.replicate c.fr.length d.fr.length) A := ⟨by rw [List.length_replicate]; exact h.len, fun j hj => by
  have h1 := h.lo j hj
  have h2 := h.hi j hj
  have h3 := h.len
  have e : (List.replicate c.fr.length d.fr.length).getD j 0 = d.fr.length := by
    rw [List.getD_eq_getElem?_getD, List.getElem?_replicate, if_pos (by omega)]; rfl
  rw [e]
  by_cases h0 : 0 ≤ A.getD j 0
  · exact ⟨h1, (h2 h0).1⟩
  · exact ⟨h1, by omega⟩⟩
def Cmp (c d : Cat) (Q : List Int) : Prop := ∀ a b : Nat, a < c.fr.length → b < c.fr.length → 0 ≤ c.cp a b → Q.getD (c.cp a b).toNat 0 = d.C (Q.getD a 0) (Q.getD b 0)
structure Ff (c d : Cat) (O A : List Int) (g : Bool) (t : Fs) : Prop where
  va : VA c d O t.2.2
  ext : XtL A t.2.2
  keep : t.2.1 = false → g = false ∧ t.2.2 = A
  prog : t.2.1 = true → g = true ∨ uns t.2.2 < uns A
  snd : ∀ Q, Cmp c d Q → contB A Q = true → t.1 = true ∧ contB t.2.2 Q = true
theorem Ff.refl (h : VA c d O A) : Ff c d O A g (true, g, A) := ⟨h, .refl _, fun e => ⟨e, rfl⟩, fun e => .inl e, fun _ _ h => ⟨rfl, h⟩⟩
theorem Ff.trans (h : Ff c d O A g t) (k : Ff c d O t.2.2 t.2.1 u) : Ff c d O A g u := by
  refine ⟨k.va, h.ext.trans k.ext, fun e => ?_, fun e => ?_, fun Q hq hA => k.snd Q hq (h.snd Q hq hA).2⟩
  · obtain ⟨e1, e2⟩ := k.keep e
    obtain ⟨e3, e4⟩ := h.keep e1
    exact ⟨e3, e2.trans e4⟩
  · have u1 := h.ext.uns
    have u2 := k.ext.uns
    rcases k.prog e with e1 | e1
    · rcases h.prog e1 with e2 | e2
      · exact .inl e2
      · exact .inr (by omega)
    · exact .inr (by omega)
theorem stF_facts (hc : Shape c) (hd : Shape d) (h : VA c d O s.2.2) (ha : a < c.fr.length) (hb : b < c.fr.length) (h1 : s.1 = true) : Ff c d O s.2.2 s.2.1 (stF c d a b s) := by
  have es : s = (true, s.2.1, s.2.2) := by rw [← h1]
  by_cases hk : c.cp a b < 0 ∨ s.2.2.getD a 0 < 0 ∨ s.2.2.getD b 0 < 0
  · rw [stF_skip hk, es]
    exact .refl h
  · have c0 : 0 ≤ c.cp a b := by omega
    have a0 : 0 ≤ s.2.2.getD a 0 := by omega
    have b0 : 0 ≤ s.2.2.getD b 0 := by omega
    obtain ⟨v0, v1, v2, v3⟩ := h.comp hc hd ha hb c0 a0 b0
    have hh := (comp_ent hc ha hb c0).2.1
    have hl := h.len
    have hQ : ∀ Q, Cmp c d Q → contB s.2.2 Q = true → Q.getD (c.cp a b).toNat 0 = d.C (s.2.2.getD a 0) (s.2.2.getD b 0) := fun Q hq hA => by
      have e1 := (contB_iff.1 hA).2 a (by omega) a0
      have e2 := (contB_iff.1 hA).2 b (by omega) b0
      rw [hq a b ha hb c0, e1, e2]
    by_cases hn : s.2.2.getD (c.cp a b).toNat 0 < 0
    · rw [stF_set hk hn]
      refine ⟨h.set (by omega) v0 v1 v2 v3, .set (by omega) (by omega), fun e => (Bool.noConfusion e), fun _ => .inr ?_, fun Q hq hA => ⟨rfl, ?_⟩⟩
      · refine (XtL.set (e := d.C (s.2.2.getD a 0) (s.2.2.getD b 0)) (A := s.2.2) (i := (c.cp a b).toNat) (by omega) (by omega)).uns_lt (j := (c.cp a b).toNat) (by omega) hn ?_
        rw [set_getD (by omega), if_pos rfl]; exact v0
      · have e := hQ Q hq hA
        rw [contB_iff] at hA ⊢
        refine ⟨by simpa using hA.1, fun j hj h1 => ?_⟩
        show Q.getD j 0 = (s.2.2.set _ _).getD j 0
        have h1 : 0 ≤ (s.2.2.set _ _).getD j 0 := h1
        rw [set_getD (by omega)] at h1 ⊢
        by_cases q : j = (c.cp a b).toNat
        · rw [if_pos q, q]; exact e
        · rw [if_neg q] at h1 ⊢; exact hA.2 j (by simpa using hj) h1
    · rw [stF_has hk hn]
      refine ⟨h, .refl _, fun e => ⟨e, rfl⟩, fun e => .inl e, fun Q hq hA => ⟨?_, hA⟩⟩
      have e := hQ Q hq hA
      rw [(contB_iff.1 hA).2 _ (by omega) (by omega)] at e
      exact decide_eq_true e
theorem rowF_facts (hc : Shape c) (hd : Shape d) (h : VA c d O s.2.2) (ha : a < c.fr.length) (h1 : s.1 = true) : ∀ {n : Nat}, n ≤ c.fr.length → Ff c d O s.2.2 s.2.1 (rowF c d a n s)
  | 0, _ => by
    have es : s = (true, s.2.1, s.2.2) := by rw [← h1]
    rw [rowF_zero]
    rw [es]
    exact .refl h
  | n + 1, hn => by
    have ih := rowF_facts hc hd h ha h1 (n := n) (by omega)
    cases hr : (rowF c d a n s).1 with
    | true => rw [rowF_go hr]; exact ih.trans (stF_facts hc hd ih.va ha (by omega) hr)
    | false => rw [rowF_no hr]; exact ih
theorem passF_facts (hc : Shape c) (hd : Shape d) (h : VA c d O s.2.2) (h1 : s.1 = true) : ∀ {n : Nat}, n ≤ c.fr.length → Ff c d O s.2.2 s.2.1 (passF c d c.fr.length n s)
  | 0, _ => by
    have es : s = (true, s.2.1, s.2.2) := by rw [← h1]
    rw [passF_zero]
    rw [es]
    exact .refl h
  | n + 1, hn => by
    have ih := passF_facts hc hd h h1 (n := n) (by omega)
    cases hr : (passF c d c.fr.length n s).1 with
    | true => rw [passF_go hr]; exact ih.trans (rowF_facts hc hd ih.va (by omega) hr (Nat.le_refl _))
    | false => rw [passF_no hr]; exact ih
def Clo (c d : Cat) (A : List Int) (a b : Nat) : Prop := 0 ≤ c.cp a b → 0 ≤ A.getD a 0 → 0 ≤ A.getD b 0 → A.getD (c.cp a b).toNat 0 = d.C (A.getD a 0) (A.getD b 0)
theorem stF_clo (h1 : (stF c d a b s).1 = true) (h2 : (stF c d a b s).2.1 = false) : Clo c d s.2.2 a b ∧ (stF c d a b s).2.2 = s.2.2 ∧ s.2.1 = false := by
  by_cases hk : c.cp a b < 0 ∨ s.2.2.getD a 0 < 0 ∨ s.2.2.getD b 0 < 0
  · rw [stF_skip hk] at h2 ⊢
    exact ⟨fun _ _ _ => by omega, rfl, h2⟩
  · by_cases hn : s.2.2.getD (c.cp a b).toNat 0 < 0
    · rw [stF_set hk hn] at h2; cases h2
    · rw [stF_has hk hn] at h1 h2 ⊢
      exact ⟨fun _ _ _ => by simpa using h1, rfl, h2⟩
theorem rowF_clo : ∀ {n : Nat}, (rowF c d a n s).1 = true → (rowF c d a n s).2.1 = false → (∀ b, b < n → Clo c d s.2.2 a b) ∧ (rowF c d a n s).2.2 = s.2.2 ∧ s.2.1 = false
  | 0, _, h2 => ⟨fun b hb => by omega, rfl, h2⟩
  | n + 1, h1, h2 => by
    cases hr : (rowF c d a n s).1 with
    | true =>
      rw [rowF_go hr] at h1 h2 ⊢
      obtain ⟨e1, e2, e3⟩ := stF_clo h1 h2
      obtain ⟨i1, i2, i3⟩ := rowF_clo hr e3
      rw [i2] at e1 e2
      exact ⟨all_succ i1 e1, e2, i3⟩
    | false => rw [rowF_no hr, hr] at h1; cases h1
theorem passF_clo : ∀ {n : Nat}, (passF c d m n s).1 = true → (passF c d m n s).2.1 = false → (∀ a, a < n → ∀ b, b < m → Clo c d s.2.2 a b) ∧ (passF c d m n s).2.2 = s.2.2 ∧ s.2.1 = false
  | 0, _, h2 => ⟨fun b hb => by omega, rfl, h2⟩
  | n + 1, h1, h2 => by
    cases hr : (passF c d m n s).1 with
    | true =>
      rw [passF_go hr] at h1 h2 ⊢
      obtain ⟨e1, e2, e3⟩ := rowF_clo h1 h2
      obtain ⟨i1, i2, i3⟩ := passF_clo hr e3
      rw [i2] at e1 e2
      exact ⟨all_succ i1 e1, e2, i3⟩
    | false => rw [passF_no hr, hr] at h1; cases h1
theorem forceF_go (h1 : (passF c d c.fr.length c.fr.length (true, false, A)).1 = true) (h2 : (passF c d c.fr.length c.fr.length (true, false, A)).2.1 = true) : forceF c d (k + 1) A = forceF c d k (passF c d c.fr.length c.fr.length (true, false, A)).2.2 := by
  rw [forceF, if_pos h1, if_pos h2]
theorem forceF_end (h1 : (passF c d c.fr.length c.fr.length (true, false, A)).1 = true) (h2 : (passF c d c.fr.length c.fr.length (true, false, A)).2.1 = false) : forceF c d (k + 1) A = (true, (passF c d c.fr.length c.fr.length (true, false, A)).2.2) := by
  rw [forceF, if_pos h1, if_neg (by rw [h2]; simp)]
theorem forceF_no (h1 : (passF c d c.fr.length c.fr.length (true, false, A)).1 = false) : forceF c d (k + 1) A = (false, (passF c d c.fr.length c.fr.length (true, false, A)).2.2) := by
  rw [forceF, if_neg (by rw [h1]; simp)]
structure Fo (c d : Cat) (O A : List Int) (t : Bool × List Int) : Prop where
  va : VA c d O t.2
  ext : XtL A t.2
  clo : t.1 = true → ∀ a, a < c.fr.length → ∀ b, b < c.fr.length → Clo c d t.2 a b
  snd : ∀ Q, Cmp c d Q → contB A Q = true → t.1 = true ∧ contB t.2 Q = true
theorem forceF_facts (hc : Shape c) (hd : Shape d) : ∀ {k : Nat} {A : List Int}, VA c d O A → uns A < k → Fo c d O A (forceF c d k A)
  | 0, A, _, h => by omega
  | k + 1, A, h, hk => by
    have f := passF_facts (s := (true, false, A)) hc hd h rfl (Nat.le_refl _)
    cases h1 : (passF c d c.fr.length c.fr.length (true, false, A)).1 with
    | false =>
      rw [forceF_no h1]
      exact ⟨f.va, f.ext, fun e => Bool.noConfusion e, fun Q hq hA => by have := (f.snd Q hq hA).1; rw [h1] at this; cases this⟩
    | true =>
      cases h2 : (passF c d c.fr.length c.fr.length (true, false, A)).2.1 with
      | true =>
        rw [forceF_go h1 h2]
        have hu : uns (passF c d c.fr.length c.fr.length (true, false, A)).2.2 < uns A := by
          rcases f.prog h2 with e | e
          · cases e
          · exact e
        have ih := forceF_facts hc hd (k := k) f.va (by omega)
        exact ⟨ih.va, f.ext.trans ih.ext, ih.clo, fun Q hq hA => ih.snd Q hq (f.snd Q hq hA).2⟩
      | false =>
        rw [forceF_end h1 h2]
        obtain ⟨g1, g2, _⟩ := passF_clo h1 h2
        have g2 : (passF c d c.fr.length c.fr.length (true, false, A)).2.2 = A := g2
        exact ⟨f.va, f.ext, fun _ => by rw [g2]; exact g1, fun Q hq hA => ⟨rfl, (f.snd Q hq hA).2⟩⟩
def NdI (A : List Int) : Prop := ∀ i j : Nat, i < j → j < A.length → 0 ≤ A.getD i 0 → A.getD i 0 ≠ A.getD j 0
theorem NdI.of_cont (h : NdI Q) (k : contB A Q = true) : NdI A := fun i j hij hj h0 e => by
  rw [contB_iff] at k
  have e1 := k.2 i (by omega) h0
  have e2 := k.2 j hj (by omega)
  exact h i j hij (by omega) (by omega) (by omega)
noncomputable def spreadF (c d : Cat) (b : Bool) (A : List Int) : Bool × List Int := ((forceF c d (c.fr.length + 1) A).1 && (!b || dec (NdI (forceF c d (c.fr.length + 1) A).2)), (forceF c d (c.fr.length + 1) A).2)
noncomputable def WA (c d : Cat) (b : Bool) (O Q : List Int) : Bool := dec (Fits ⟨c, d, O, Q⟩ ∧ (b = true → NdI O ∧ NdI Q))
theorem WA_iff {b : Bool} : WA c d b O Q = true ↔ Fits ⟨c, d, O, Q⟩ ∧ (b = true → NdI O ∧ NdI Q) := dec_iff
theorem Fits.cmp (h : Fits ⟨c, d, O, Q⟩) : Cmp c d Q := fun a b ha hb h0 => by
  have := h.comp a b ha hb (by simpa only [Cat.C, Int.toNat_natCast] using h0)
  simpa only [Cat.C, Fun.A, Int.toNat_natCast] using this
structure Sp (c d : Cat) (b : Bool) (O A : List Int) (t : Bool × List Int) : Prop where
  va : VA c d O t.2
  ext : XtL A t.2
  clo : t.1 = true → ∀ a, a < c.fr.length → ∀ b, b < c.fr.length → Clo c d t.2 a b
  nd : t.1 = true → b = true → NdI t.2
  snd : ∀ Q, WA c d b O Q = true → contB A Q = true → t.1 = true ∧ contB t.2 Q = true
theorem spreadF_facts {b : Bool} (hc : Shape c) (hd : Shape d) (h : VA c d O A) : Sp c d b O A (spreadF c d b A) := by
  have f := forceF_facts hc hd (k := c.fr.length + 1) h (by have := uns_le A; have := h.len; omega)
  unfold spreadF
  refine ⟨f.va, f.ext, fun e => f.clo ?_, fun e hb => ?_, fun Q hQ hA => ?_⟩
  · simp only [Bool.and_eq_true] at e; exact e.1
  · subst hb
    simp only [Bool.and_eq_true, Bool.not_true, Bool.false_or] at e
    exact dec_iff.1 e.2
  · obtain ⟨w1, w2⟩ := WA_iff.1 hQ
    obtain ⟨s1, s2⟩ := f.snd Q w1.cmp hA
    refine ⟨?_, s2⟩
    simp only [Bool.and_eq_true]
    refine ⟨s1, ?_⟩
    cases b with
    | false => rfl
    | true => simp only [Bool.not_true, Bool.false_or]; exact dec_iff.2 ((w2 rfl).2.of_cont s2)
end
end Go.Cats
end
section
namespace Go.Cats
end Go.Cats
end
section
namespace Go.Cats
end Go.Cats
end
section
namespace Go.Cats
theorem Shape.comp_lt {c : Cat} (s : Shape c) {f g : Nat} (hf : f < c.fr.length) (hg : g < c.fr.length) (h : 0 ≤ (c.co.getD f []).getD g 0) : (c.co.getD f []).getD g 0 < c.fr.length ∧ c.to.getD f 0 = c.fr.getD g 0 := by
  rcases (s.coe f hf).2 g hg with ⟨h1, h2, _⟩ | ⟨_, h2⟩
  · have e : c.C f g = (c.co.getD f []).getD g 0 := by simp [Cat.C]
    rw [e] at h2
    exact ⟨h2.2, h1⟩
  · have e : c.C f g = (c.co.getD f []).getD g 0 := by simp [Cat.C]
    rw [e] at h2
    omega
theorem Shape.comp_nn {c : Cat} (s : Shape c) {f g : Nat} (hf : f < c.fr.length) (hg : g < c.fr.length) (h : c.to.getD f 0 = c.fr.getD g 0) : 0 ≤ (c.co.getD f []).getD g 0 := by
  rcases (s.coe f hf).2 g hg with ⟨_, h2, _⟩ | ⟨h2, _⟩
  · have e : c.C f g = (c.co.getD f []).getD g 0 := by simp [Cat.C]
    rw [e] at h2; exact h2.1
  · exact absurd h h2
theorem Shape.comp_row {c : Cat} (s : Shape c) {f : Int} (h0 : 0 ≤ f) (h1 : f < c.fr.length) : (c.co.getD f.toNat []).length = c.fr.length := (s.coe f.toNat (by omega)).1
end Go.Cats
end
section
namespace Go.Cats
def cH (f g : Fun) (a b : Nat) : List Int := f.tgt.hom (f.obs.getD a 0) (g.obs.getD b 0)
def cO (f g : Fun) (a b k : Nat) : List (List Int) :=
  (coll a fun a => coll g.obs.length fun b => (cH f g a b).map fun h => [(a : Int), (b : Int), h]) ++ (coll b fun b => (cH f g a b).map fun h => [(a : Int), (b : Int), h]) ++ ((cH f g a b).take k).map fun h => [(a : Int), (b : Int), h]
def cObj (f g : Fun) : List (List Int) := cO f g f.obs.length 0 0
theorem cO_zero (f g : Fun) : cO f g 0 0 0 = [] := by simp [cO, coll]
def colN (l : List (List Int)) (k n : Nat) : List Int := (l.take n).map fun r => r.getD k 0
theorem colN_zero (l : List (List Int)) (k : Nat) : colN l k 0 = [] := rfl
theorem colN_len (l : List (List Int)) (k n : Nat) : (colN l k n).length = min n l.length := by simp [colN]
end Go.Cats
end
section
namespace Go.Cats
abbrev rw' (O : List (List Int)) (p k : Nat) : Int := (O.getD p []).getD k 0
def cU (f : Fun) (k : Nat) (O : List (List Int)) (s t : Nat) : List Int := f.src.hom (rw' O s k) (rw' O t k)
def cC (f e : Fun) (O : List (List Int)) (s t : Nat) (u v : Int) : Prop := f.tgt.C (f.A u) (rw' O t 2) = f.tgt.C (rw' O s 2) (e.A v)
open Classical in
noncomputable def cE (f e : Fun) (O : List (List Int)) (s t i j : Nat) : List (List Int) :=
  if cC f e O s t ((cU f 0 O s t).getD i 0) ((cU e 1 O s t).getD j 0) then [[(s : Int), (t : Int), (cU f 0 O s t).getD i 0, (cU e 1 O s t).getD j 0]] else []
noncomputable def cRow (f e : Fun) (O : List (List Int)) (s t i : Nat) : List (List Int) := coll (cU e 1 O s t).length fun j => cE f e O s t i j
noncomputable def cCell (f e : Fun) (O : List (List Int)) (s t : Nat) : List (List Int) := coll (cU f 0 O s t).length fun i => cRow f e O s t i
noncomputable def cA (f e : Fun) (O : List (List Int)) (s t i j : Nat) : List (List Int) :=
  (coll s fun s => coll O.length fun t => cCell f e O s t) ++ (coll t fun t => cCell f e O s t) ++ (coll i fun i => cRow f e O s t i) ++ (coll j fun j => cE f e O s t i j)
noncomputable def cArr (f e : Fun) (O : List (List Int)) : List (List Int) := cA f e O O.length 0 0 0
variable {f e : Fun} {O : List (List Int)} {s t i j : Nat}
theorem cA_zero : cA f e O 0 0 0 0 = [] := by simp [cA, coll]
structure ObjR (f e : Fun) (r : List Int) : Prop where
  len : r.length = 3
  lo : 0 ≤ r.getD 0 0
  lh : r.getD 0 0 < f.src.ob
  ro : 0 ≤ r.getD 1 0
  rh : r.getD 1 0 < e.src.ob
  ao : 0 ≤ r.getD 2 0
  ah : r.getD 2 0 < f.tgt.fr.length
  frm : f.tgt.F (r.getD 2 0) = f.O (r.getD 0 0)
  to : f.tgt.T (r.getD 2 0) = e.O (r.getD 1 0)
def fndO (l : List (List Int)) (r : List Int) (i : Nat) : Option Int := if l.getD i [] = r then some (i : Int) else none
def fnd (l : List (List Int)) (r : List Int) : Int := (scan l.length (fndO l r)).getD (-1)
end Go.Cats
end
section
namespace Go.Cats
def tb {α : Type} (n : Nat) (F : Nat → α) : List α := (List.range n).map F
theorem tb_zero {α : Type} (F : Nat → α) : tb 0 F = [] := rfl
theorem tb_len {α : Type} (n : Nat) (F : Nat → α) : (tb n F).length = n := by simp [tb]
theorem tb_at {α : Type} (n : Nat) (F : Nat → α) (d : α) {i : Nat} (h : i < n) : (tb n F).getD i d = F i := by simp [tb, h]
def bId (A : List (List Int)) (a b : Cat) (L R : List Int) (x : Nat) : Int := fnd A [(x : Int), (x : Int), a.id.getD (L.getD x 0).toNat 0, b.id.getD (R.getD x 0).toNat 0]
def bKey (A : List (List Int)) (a b : Cat) (i j : Nat) : List Int := [rw' A i 0, rw' A j 1, a.C (rw' A i 2) (rw' A j 2), b.C (rw' A i 3) (rw' A j 3)]
def bEnt (A : List (List Int)) (a b : Cat) (i j : Nat) : Int := if rw' A i 1 = rw' A j 0 then fnd A (bKey A a b i j) else -1
def bCat (N : Nat) (A : List (List Int)) (a b : Cat) (L R : List Int) (k : Nat) : Cat :=
  ⟨N, colN A 0 A.length, colN A 1 A.length, tb N (bId A a b L R), tb k fun i => tb A.length (bEnt A a b i)⟩
structure ArrR (a b : Cat) (r : List Int) : Prop where
  len : r.length = 4
  ul : 0 ≤ r.getD 2 0
  uh : r.getD 2 0 < a.fr.length
  vl : 0 ≤ r.getD 3 0
  vh : r.getD 3 0 < b.fr.length
noncomputable def cmA (f e : Fun) : List (List Int) := cArr f e (cObj f e)
noncomputable def cmC (f e : Fun) (k : Nat) : Cat := bCat (cObj f e).length (cmA f e) f.src e.src (colN (cObj f e) 0 (cObj f e).length) (colN (cObj f e) 1 (cObj f e).length) k
end Go.Cats
end
section
namespace Go.Cats
variable {f e : Fun} {O : List (List Int)} {s t i j : Nat}
end Go.Cats
end
section
namespace Go.Cats
theorem coll_nodup {α : Type} {n : Nat} {f : Nat → List α} (h1 : ∀ i, i < n → (f i).Nodup) (h2 : ∀ i j x, i < n → j < n → x ∈ f i → x ∈ f j → i = j) : (coll n f).Nodup := by
  unfold coll List.Nodup
  rw [List.pairwise_flatMap]
  refine ⟨fun a ha => h1 a (List.mem_range.1 ha), ?_⟩
  refine List.Pairwise.imp_of_mem ?_ (List.pairwise_lt_range (n := n))
  intro a b ha hb hab x hx y hy e
  subst e
  have := h2 a b x (List.mem_range.1 ha) (List.mem_range.1 hb) hx hy
  omega
theorem Cat.hom_nodup (c : Cat) (x y : Int) : (c.hom x y).Nodup := by
  unfold Cat.hom Cat.homI
  refine coll_nodup (fun i _ => by split <;> simp) fun i j z _ _ hi hj => ?_
  split at hi
  · split at hj
    · simp at hi hj; omega
    · simp at hj
  · simp at hi
variable {f e : Fun} {O : List (List Int)} {s t i j : Nat}
end Go.Cats
end
section
namespace Go.Cats
structure XOK (c d : Cat) (b : Bool) (X : List Int) : Prop where
  len : (X.length : Int) = c.ob
  wi : Within X d.ob
  nd : b = true → NdI X
structure NX (c d : Cat) (b : Bool) (X A : List Int) : Prop where
  va : VA c d X A
  clo : ∀ a, a < c.fr.length → ∀ b, b < c.fr.length → Clo c d A a b
  nd : b = true → NdI A
  un : ∀ x : Nat, x < c.id.length → A.getD (c.id.getD x 0).toNat 0 = d.id.getD (X.getD x 0).toNat 0
abbrev sA (c d : Cat) : List Nat := List.replicate c.fr.length d.fr.length
def startI (c d : Cat) (X : List Int) : Nat → List Int
  | 0 => List.replicate c.fr.length (-1)
  | y + 1 => (startI c d X y).set (c.id.getD y 0).toNat (d.id.getD (X.getD y 0).toNat 0)
def startA (c d : Cat) (X : List Int) : List Int := startI c d X c.id.length
noncomputable def funA (c d : Cat) (b : Bool) (X : List Int) : List (List Int) := extW (WA c d b X) (sA c d) (List.replicate c.fr.length (-1))
noncomputable def funX (c d : Cat) (b : Bool) : Nat → List Int → List Fun
  | 0, X => (funA c d b X).map fun Q => ⟨c, d, X, Q⟩
  | r + 1, X => (List.range d.ob.toNat).flatMap fun y : Nat => funX c d b r (X ++ [(y : Int)])
def belowH (W : List Int → Bool) (S : List Nat) (A : List Int) (i : Nat) (L : List Int) : List (List Int) := L.flatMap fun v => extW W S (A.set i v)
section
variable {c d : Cat} {b : Bool} {X A Q L : List Int} {i k : Nat} {v : Int} {W : List Int → Bool} {S : List Nat}
theorem sA_getD (h : i < c.fr.length) : (sA c d).getD i 0 = d.fr.length := by
  rw [List.getD_eq_getElem?_getD, List.getElem?_replicate, if_pos h]; rfl
theorem NX.leaf (hX : XOK c d b X) (h : NX c d b X A) (hf : ∀ j, j < A.length → 0 ≤ A.getD j 0) : extW (WA c d b X) (sA c d) A = [A] := by
  have hr := h.va.rng
  rw [extW_full hr.1 fun j hj => ⟨hf j hj, (hr.2 j hj).2⟩, if_pos]
  have hl := h.va.len
  refine WA_iff.2 ⟨⟨hX.len, hl, hX.wi, fun i hi => ⟨hf i hi, (h.va.hi i hi (hf i hi)).1⟩, fun a ha => ?_, fun x hx => ?_, fun a b ha hb h0 => ?_⟩, fun e => ⟨hX.nd e, h.nd e⟩⟩
  · have := h.va.hi a ha (hf a ha)
    simp only [Cat.F, Cat.T, Fun.O, Int.toNat_natCast]
    exact this.2
  · have := h.un x hx
    simp only [Cat.I, Fun.A, Fun.O, Int.toNat_natCast]
    exact this
  · have h0 : 0 ≤ c.cp a b := by simpa only [Cat.C, Int.toNat_natCast] using h0
    have := h.clo a ha b hb h0 (hf a (by rw [hl]; exact ha)) (hf b (by rw [hl]; exact hb))
    simp only [Cat.C, Fun.A, Int.toNat_natCast]
    exact this
theorem belowH_nil : belowH W S A i [] = [] := rfl
theorem belowH_take (h : k < L.length) : belowH W S A i (L.take (k + 1)) = belowH W S A i (L.take k) ++ extW W S (A.set i (L.getD k 0)) := by
  unfold belowH
  rw [List.take_add_one, List.getElem?_eq_getElem h, List.flatMap_append, List.getD_eq_getElem?_getD, List.getElem?_eq_getElem h]
  simp
theorem belowH_split (h : k < L.length) : ∃ R, belowH W S A i L = belowH W S A i (L.take (k + 1)) ++ R := by
  refine ⟨belowH W S A i (L.drop (k + 1)), ?_⟩
  unfold belowH
  rw [← List.flatMap_append, List.take_append_drop]
theorem hom_try (h : VA c d X A) (hi : i < A.length) (hv : v ∈ d.hom (X.getD (c.fr.getD i 0).toNat 0) (X.getD (c.to.getD i 0).toNat 0)) : VA c d X (A.set i v) := by
  obtain ⟨h1, h2, h3, h4⟩ := Cat.mem_hom.1 hv
  exact h.set hi h1 h2 h3 h4
theorem branch_hom (h : VA c d X A) (hi : i < A.length) (h0 : A.getD i 0 = -1) (hlt : ∀ j, j < i → 0 ≤ A.getD j 0) :
    extW (WA c d b X) (sA c d) A = belowH (WA c d b X) (sA c d) A i (d.hom (X.getD (c.fr.getD i 0).toNat 0) (X.getD (c.to.getD i 0).toNat 0)) := by
  have hl := h.len
  rw [extW_branch h.rng.1 hi hlt (by omega), sA_getD (by omega)]
  unfold belowH Cat.hom Cat.homI coll
  rw [List.flatMap_assoc, List.flatMap_def, List.flatMap_def]
  congr 1
  refine List.map_congr_left fun u hu => ?_
  have hu := List.mem_range.1 hu
  by_cases e : d.fr.getD u 0 = X.getD (c.fr.getD i 0).toNat 0 ∧ d.to.getD u 0 = X.getD (c.to.getD i 0).toNat 0
  · rw [if_pos e]; simp
  · rw [if_neg e, List.flatMap_nil]
    refine extW_nil fun Q hQ hW hc => e ?_
    have e1 := (contB_iff.1 hc).2 i (by simpa using hi) (by rw [set_getD hi, if_pos rfl]; omega)
    rw [set_getD hi, if_pos rfl] at e1
    obtain ⟨w1, _⟩ := WA_iff.1 hW
    have := w1.endf i (by show i < Q.length; rw [← (contB_iff.1 hc).1]; simpa using hi)
    simp only [Cat.F, Cat.T, Fun.O, Int.toNat_natCast, e1] at this
    exact this
theorem id_ok (hc : Shape c) {x : Nat} (hx : x < c.id.length) : (c.id.getD x 0).toNat < c.fr.length ∧ 0 ≤ c.id.getD x 0 ∧ c.fr.getD (c.id.getD x 0).toNat 0 = x ∧ c.to.getD (c.id.getD x 0).toNat 0 = x := by
  have h1 := hc.idw x hx
  have h2 := hc.ide x hx
  exact ⟨by omega, h1.1, h2.1, h2.2⟩
theorem unit_ok (hc : Shape c) (hd : Shape d) (hX : XOK c d b X) {x : Nat} (hx : x < c.id.length) : 0 ≤ X.getD x 0 ∧ (X.getD x 0).toNat < d.id.length ∧ 0 ≤ d.id.getD (X.getD x 0).toNat 0 ∧ d.id.getD (X.getD x 0).toNat 0 < d.fr.length ∧ d.fr.getD (d.id.getD (X.getD x 0).toNat 0).toNat 0 = X.getD x 0 ∧ d.to.getD (d.id.getD (X.getD x 0).toNat 0).toNat 0 = X.getD x 0 := by
  have h1 := hX.len
  have h2 := hc.idl
  have h3 := hX.wi x (by omega)
  have h4 := hd.idl
  have hx' : (X.getD x 0).toNat < d.id.length := by omega
  have h5 := hd.idw _ hx'
  have h6 := hd.ide _ hx'
  refine ⟨h3.1, hx', h5.1, h5.2, ?_, ?_⟩
  · have := h6.1; simp only [Cat.F] at this; rw [this]; omega
  · have := h6.2; simp only [Cat.T] at this; rw [this]; omega
structure TryN (c d : Cat) (b : Bool) (X A : List Int) (E : List (List Int)) (t : Bool × List Int) : Prop where
  va : VA c d X t.2
  ext : XtL A t.2
  yes : t.1 = true → NX c d b X t.2 ∧ E = extW (WA c d b X) (sA c d) t.2
  no : t.1 = false → E = []
theorem spread_try (hc : Shape c) (hd : Shape d) (hX : XOK c d b X) (hA : VA c d X A) (hu : ∀ x : Nat, x < c.id.length → A.getD (c.id.getD x 0).toNat 0 = d.id.getD (X.getD x 0).toNat 0) : TryN c d b X A (extW (WA c d b X) (sA c d) A) (spreadF c d b A) := by
  have f := spreadF_facts (b := b) hc hd hA
  refine ⟨f.va, f.ext, fun e => ⟨⟨f.va, f.clo e, f.nd e, fun x hx => ?_⟩, ?_⟩, fun e => ?_⟩
  · have h1 := id_ok hc hx
    have h2 := unit_ok hc hd hX hx
    rw [f.ext.2 _ (by rw [hA.len]; exact h1.1) (by rw [hu x hx]; exact h2.2.2.1), hu x hx]
  · exact extW_congr fun Q hQ hW => ⟨fun k => (f.snd Q hW k).2, fun k => f.ext.cont k⟩
  · exact extW_nil fun Q hQ hW k => by have := (f.snd Q hW k).1; rw [e] at this; cases this
theorem NX.try_ (hc : Shape c) (hd : Shape d) (hX : XOK c d b X) (h : NX c d b X A) (hi : i < A.length) (h0 : A.getD i 0 = -1) (hv : v ∈ d.hom (X.getD (c.fr.getD i 0).toNat 0) (X.getD (c.to.getD i 0).toNat 0)) :
    TryN c d b X (A.set i v) (extW (WA c d b X) (sA c d) (A.set i v)) (spreadF c d b (A.set i v)) ∧ uns (spreadF c d b (A.set i v)).2 < uns A := by
  have t := spread_try (b := b) (X := X) (A := A.set i v) hc hd hX (hom_try h.va hi hv) fun x hx => by
    have h1 := h.un x hx
    have h2 := unit_ok hc hd hX hx
    rw [set_getD hi, if_neg, h1]
    intro e
    rw [e, h0] at h1
    omega
  have hv0 := (Cat.mem_hom.1 hv).1
  refine ⟨t, ?_⟩
  have x1 : XtL A (A.set i v) := .set hi (by omega)
  have e1 := t.ext.2 i (by simpa using hi) (by rw [set_getD hi, if_pos rfl]; exact hv0)
  rw [set_getD hi, if_pos rfl] at e1
  exact (x1.trans t.ext).uns_lt hi (by omega) (by rw [e1]; exact hv0)
theorem startI_len : ∀ k, (startI c d X k).length = c.fr.length
  | 0 => by simp [startI]
  | k + 1 => by rw [startI, List.length_set, startI_len k]
theorem rep_neg {n j : Nat} : (List.replicate n (-1 : Int)).getD j 0 = if j < n then -1 else 0 := by
  rw [List.getD_eq_getElem?_getD, List.getElem?_replicate]
  split <;> rfl
theorem startI_va (hc : Shape c) (hd : Shape d) (hX : XOK c d b X) : ∀ {k : Nat}, k ≤ c.id.length → VA c d X (startI c d X k)
  | 0, _ => by
    refine ⟨by simp [startI], fun f hf => ?_, fun f hf h0 => ?_⟩
    · have hf : f < c.fr.length := by simpa [startI] using hf
      rw [startI, rep_neg, if_pos hf]; omega
    · have hf : f < c.fr.length := by simpa [startI] using hf
      rw [startI, rep_neg, if_pos hf] at h0; omega
  | k + 1, hk => by
    have ih := startI_va hc hd hX (k := k) (by omega)
    have h1 := id_ok hc (x := k) (by omega)
    have h2 := unit_ok hc hd hX (x := k) (by omega)
    rw [startI]
    exact ih.set (by rw [startI_len]; exact h1.1) h2.2.2.1 h2.2.2.2.1 (by rw [h2.2.2.2.2.1, h1.2.2.1, Int.toNat_natCast]) (by rw [h2.2.2.2.2.2, h1.2.2.2, Int.toNat_natCast])
theorem startI_at (hc : Shape c) : ∀ {k : Nat}, k ≤ c.id.length → ∀ x : Nat, x < k → (startI c d X k).getD (c.id.getD x 0).toNat 0 = d.id.getD (X.getD x 0).toNat 0
  | 0, _, x, hx => by omega
  | k + 1, hk, x, hx => by
    have h1 := id_ok hc (x := k) (by omega)
    have h2 := id_ok hc (x := x) (by omega)
    rw [startI, set_getD (by rw [startI_len]; exact h1.1)]
    by_cases e : x = k
    · rw [e, if_pos rfl]
    · rw [if_neg]
      · exact startI_at hc (by omega) x (by omega)
      · intro q
        have a1 := h1.2.2.1
        have a2 := h2.2.2.1
        rw [q] at a2
        omega
theorem startI_cont (hc : Shape c) (hQ : Fits ⟨c, d, X, Q⟩) : ∀ {k : Nat}, k ≤ c.id.length → contB (startI c d X k) Q = true
  | 0, _ => by
    rw [contB_iff]
    refine ⟨by rw [startI, List.length_replicate]; exact hQ.arl.symm, fun i hi h0 => ?_⟩
    have hi : i < c.fr.length := by simpa [startI] using hi
    rw [startI, rep_neg, if_pos hi] at h0
    omega
  | k + 1, hk => by
    have ih := startI_cont hc hQ (k := k) (by omega)
    have h1 := id_ok hc (x := k) (by omega)
    rw [contB_iff] at ih ⊢
    rw [startI]
    refine ⟨by simpa using ih.1, fun i hi h0 => ?_⟩
    rw [set_getD (by rw [startI_len]; exact h1.1)] at h0 ⊢
    by_cases e : i = (c.id.getD k 0).toNat
    · rw [if_pos e, e]
      have := hQ.unit k (by show k < c.id.length; omega)
      simpa only [Cat.I, Fun.A, Fun.O, Int.toNat_natCast] using this
    · rw [if_neg e] at h0 ⊢
      exact ih.2 i (by simpa using hi) h0
theorem start_try (hc : Shape c) (hd : Shape d) (hX : XOK c d b X) : TryN c d b X (startA c d X) (funA c d b X) (spreadF c d b (startA c d X)) := by
  have hva := startI_va hc hd hX (Nat.le_refl _)
  have t := spread_try (b := b) (X := X) (A := startA c d X) hc hd hX hva fun x hx => startI_at hc (Nat.le_refl _) x hx
  have e : funA c d b X = extW (WA c d b X) (sA c d) (startA c d X) := by
    unfold funA
    refine extW_congr fun Q hQ hW => ⟨fun _ => startI_cont hc (WA_iff.1 hW).1 (Nat.le_refl _), fun k => ?_⟩
    rw [contB_iff] at k ⊢
    refine ⟨by rw [← k.1, List.length_replicate]; exact (startI_len _).symm, fun i hi h0 => ?_⟩
    rw [List.length_replicate] at hi
    rw [rep_neg, if_pos hi] at h0
    omega
  rw [e]; exact t
/-! ### Objects -/
theorem mem_funX : ∀ {r : Nat} {X : List Int} {g : Fun}, g ∈ funX c d b r X → g.src = c ∧ g.tgt = d ∧ g.obs.take X.length = X ∧ WA c d b g.obs g.ars = true
  | 0, X, g, h => by
    rw [funX] at h
    obtain ⟨Q, hQ, rfl⟩ := List.mem_map.1 h
    exact ⟨rfl, rfl, List.take_length, (mem_extW.1 hQ).2.2⟩
  | r + 1, X, g, h => by
    rw [funX] at h
    obtain ⟨y, hy, hg⟩ := List.mem_flatMap.1 h
    obtain ⟨h1, h2, h3, h4⟩ := mem_funX hg
    refine ⟨h1, h2, ?_, h4⟩
    have := congrArg (List.take X.length) h3
    rw [List.take_take, List.length_append, List.length_singleton, Nat.min_eq_left (by omega), List.take_append_of_le_length (Nat.le_refl _), List.take_length] at this
    exact this
theorem funX_nil {r : Nat} (h : ∀ O Q : List Int, O.take X.length = X → WA c d b O Q = true → False) : funX c d b r X = [] := by
  rw [List.eq_nil_iff_forall_not_mem]
  intro g hg
  obtain ⟨h1, h2, h3, h4⟩ := mem_funX hg
  exact h _ _ h3 h4
theorem nodup_sub : ∀ {L M : List Int}, L.Nodup → (∀ x ∈ L, x ∈ M) → L.length ≤ M.length
  | [], M, _, _ => Nat.zero_le _
  | a :: L, M, hn, hs => by
    have ha := hs a (List.mem_cons_self ..)
    have hn' := List.nodup_cons.1 hn
    have := nodup_sub (L := L) (M := M.erase a) hn'.2 fun x hx => by
      have hne : x ≠ a := fun e => hn'.1 (e ▸ hx)
      exact (List.mem_erase_of_ne hne).2 (hs x (List.mem_cons_of_mem _ hx))
    rw [List.length_erase_of_mem ha] at this
    have hp : 0 < M.length := List.length_pos_of_mem ha
    simp only [List.length_cons]
    omega
def Need (c : Cat) (b : Bool) (p q : Int) : Nat := if b = true then (c.hom p q).length else 1
def PlF (c d : Cat) (b : Bool) (X : List Int) (x : Nat) (f : Nat) : Prop := c.fr.getD f 0 ≤ x → c.to.getD f 0 ≤ x → (c.fr.getD f 0 = x ∨ c.to.getD f 0 = x) → Need c b (c.fr.getD f 0) (c.to.getD f 0) ≤ (d.hom (X.getD (c.fr.getD f 0).toNat 0) (X.getD (c.to.getD f 0).toNat 0)).length
def Placed (c d : Cat) (b : Bool) (X : List Int) (x : Nat) : Prop := ∀ f, f < c.fr.length → PlF c d b X x f
theorem fits_need {O : List Int} {f : Nat} (h : WA c d b O Q = true) (hf : f < c.fr.length) : Need c b (c.fr.getD f 0) (c.to.getD f 0) ≤ (d.hom (O.getD (c.fr.getD f 0).toNat 0) (O.getD (c.to.getD f 0).toNat 0)).length := by
  obtain ⟨w1, w2⟩ := WA_iff.1 h
  have hm : ∀ g : Nat, g < c.fr.length → c.fr.getD g 0 = c.fr.getD f 0 → c.to.getD g 0 = c.to.getD f 0 → Q.getD g 0 ∈ d.hom (O.getD (c.fr.getD f 0).toNat 0) (O.getD (c.to.getD f 0).toNat 0) := fun g hg e1 e2 => by
    have a1 : Q.length = c.fr.length := w1.arl
    have a2 := w1.arw g (by show g < Q.length; omega)
    have a3 := w1.endf g (by show g < Q.length; omega)
    simp only [Cat.F, Cat.T, Fun.O, Int.toNat_natCast, e1, e2] at a3
    exact Cat.mem_hom.2 ⟨a2.1, a2.2, a3.1, a3.2⟩
  unfold Need
  split
  · rename_i hb
    have hn := (w2 hb).2
    have e : ((c.hom (c.fr.getD f 0) (c.to.getD f 0)).map fun g => Q.getD g.toNat 0).length = (c.hom (c.fr.getD f 0) (c.to.getD f 0)).length := List.length_map ..
    rw [← e]
    refine nodup_sub ?_ fun x hx => ?_
    · unfold List.Nodup
      rw [List.pairwise_map]
      refine List.Pairwise.imp_of_mem ?_ (Cat.hom_nodup c (c.fr.getD f 0) (c.to.getD f 0))
      intro g g' hg hg' hne e
      obtain ⟨g1, g2, g3, g4⟩ := Cat.mem_hom.1 hg
      obtain ⟨k1, k2, k3, k4⟩ := Cat.mem_hom.1 hg'
      have a1 : Q.length = c.fr.length := w1.arl
      have a2 := w1.arw g.toNat (by show _ < Q.length; omega)
      have a3 := w1.arw g'.toNat (by show _ < Q.length; omega)
      simp only at a2 a3
      rcases Nat.lt_trichotomy g.toNat g'.toNat with q | q | q
      · exact hn _ _ q (by omega) a2.1 e
      · exact hne (by omega)
      · exact hn _ _ q (by omega) a3.1 e.symm
    · obtain ⟨g, hg, rfl⟩ := List.mem_map.1 hx
      obtain ⟨g1, g2, g3, g4⟩ := Cat.mem_hom.1 hg
      exact hm g.toNat (by omega) g3 g4
  · exact List.length_pos_of_mem (hm f hf rfl rfl)
theorem getD_take {l m : List Int} {n i : Nat} (h : l.take n = m) (hi : i < m.length) : l.getD i 0 = m.getD i 0 := by
  subst h
  rw [List.length_take] at hi
  rw [List.getD_eq_getElem?_getD, List.getD_eq_getElem?_getD, List.getElem?_take, if_pos (by omega)]
theorem placed_no {r : Nat} {x : Nat} (hc : Shape c) (hx : X.length = x + 1) (h : ¬ Placed c d b X x) : funX c d b r X = [] := by
  refine funX_nil fun O Q hO hW => h fun f hf h1 h2 _ => ?_
  have := fits_need hW hf
  have f1 := hc.frw f hf
  have f2 := hc.tow f (by rw [hc.tol]; exact hf)
  rw [getD_take hO (by omega), getD_take hO (by omega)] at this
  exact this
theorem once_no {r y : Nat} (h : (y : Int) ∈ X) : funX c d true r (X ++ [(y : Int)]) = [] := by
  refine funX_nil fun O Q hO hW => ?_
  have hn := ((WA_iff.1 hW).2 rfl).1
  obtain ⟨i, hi, e⟩ := mem_getD (d := 0) h
  have hl : X.length < O.length := by
    have := congrArg List.length hO
    simp only [List.length_take, List.length_append, List.length_singleton] at this
    omega
  have e1 : O.getD i 0 = y := by
    rw [getD_take hO (by simp; omega), List.getD_eq_getElem?_getD, List.getElem?_append_left hi, ← List.getD_eq_getElem?_getD, e]
  have e2 : O.getD X.length 0 = y := by
    rw [getD_take hO (by simp), List.getD_eq_getElem?_getD, List.getElem?_append_right (Nat.le_refl _)]
    simp
  exact hn i X.length hi hl (by omega) (by rw [e1, e2])
noncomputable def belowX (c d : Cat) (b : Bool) (r : Nat) (X : List Int) (y : Nat) : List Fun := (List.range y).flatMap fun v : Nat => funX c d b r (X ++ [(v : Int)])
theorem belowX_zero {r : Nat} : belowX c d b r X 0 = [] := rfl
theorem belowX_succ {r y : Nat} : belowX c d b r X (y + 1) = belowX c d b r X y ++ funX c d b r (X ++ [(y : Int)]) := by
  unfold belowX
  rw [List.range_succ, List.flatMap_append]
  simp
theorem belowX_split {r y K : Nat} (h : y < K) : ∃ R, belowX c d b r X K = belowX c d b r X (y + 1) ++ R := by
  induction K with
  | zero => omega
  | succ K ih =>
    by_cases hu : y = K
    · subst hu; exact ⟨[], (List.append_nil _).symm⟩
    · obtain ⟨R, hR⟩ := ih (by omega)
      exact ⟨R ++ funX c d b r (X ++ [(K : Int)]), by rw [belowX_succ, hR, List.append_assoc]⟩
theorem funX_all {r : Nat} : funX c d b (r + 1) X = belowX c d b r X d.ob.toNat := rfl
end
end Go.Cats
end
section
namespace Go.Cats
/-! ### A search in depth by choices -/
def goC (ch : List Int → Nat → List Int) : Nat → List Int → List (List Int)
  | 0, _ => []
  | n + 1, A => match fqL A with
    | none => [A]
    | some i => (ch A i).flatMap fun u => goC ch n (A.set i u)
def belC (ch : List Int → Nat → List Int) (n x : Nat) (A C : List Int) : List (List Int) := C.flatMap fun u => goC ch n (A.set x u)
structure ChW (W : List Int → Bool) (S : List Nat) (ch : List Int → Nat → List Int) (Co : List Int → Prop) : Prop where
  out : ∀ A (i : Nat), A.length = S.length → i < A.length → ∃ p : Nat → Bool, ch A i = ((List.range (S.getD i 0)).filter p).map fun e : Nat => (e : Int)
  mono : ∀ A B (i : Nat) u, A.length = S.length → XtL A B → i < A.length → u ∈ ch B i → u ∈ ch A i
  comp : ∀ Q A (i : Nat), Q ∈ lexP S → W Q = true → A.length = S.length → (∀ j, j < A.length → j ≠ i → 0 ≤ A.getD j 0 → Q.getD j 0 = A.getD j 0) → i < A.length → Q.getD i 0 ∈ ch A i
  leaf : ∀ A : List Int, A.length = S.length → (∀ j, j < A.length → 0 ≤ A.getD j 0 ∧ A.getD j 0 < S.getD j 0) → Co A → W A = true
  step : ∀ A (i : Nat) u, A.length = S.length → i < A.length → A.getD i 0 = -1 → Co A → u ∈ ch A i → Co (A.set i u)
section
variable {W : List Int → Bool} {S : List Nat} {ch : List Int → Nat → List Int} {Co : List Int → Prop} {A B Q C : List Int} {n i k x : Nat} {u : Int}
theorem goC_leaf (h : fqL A = none) : goC ch (n + 1) A = [A] := by rw [goC, h]
theorem goC_node (h : fqL A = some i) : goC ch (n + 1) A = belC ch n i A (ch A i) := by rw [goC, h]; rfl
theorem belC_zero : belC ch n x A (C.take 0) = [] := by rw [List.take_zero]; rfl
theorem belC_succ (h : k < C.length) : belC ch n x A (C.take (k + 1)) = belC ch n x A (C.take k) ++ goC ch n (A.set x (C.getD k 0)) := by
  unfold belC
  rw [List.take_add_one, List.getElem?_eq_getElem h, Option.toList_some, List.flatMap_append, List.getD_eq_getElem?_getD, List.getElem?_eq_getElem h]
  simp
theorem belC_split : belC ch n x A C = belC ch n x A (C.take k) ++ belC ch n x A (C.drop k) := by
  unfold belC
  rw [← List.flatMap_append, List.take_append_drop]
theorem goC_cut (hw : ChW W S ch Co) : ∀ (n : Nat) (A : List Int), A.length = S.length → ∀ k, k < A.length → A.getD k 0 = -1 → (ch A k).length = 0 → goC ch n A = []
  | 0, _, _, _, _, _, _ => rfl
  | n + 1, A, hA, k, hk, h1, h0 => by
    cases hf : fqL A with
    | none => exact absurd h1 (fqL_none.1 hf k hk)
    | some i =>
      obtain ⟨f1, f2, f3⟩ := fqL_some hf
      rw [goC_node hf]
      by_cases hik : i = k
      · subst hik
        rw [List.length_eq_zero_iff.1 h0]; rfl
      · unfold belC
        rw [List.flatMap_eq_nil_iff]
        intro u hu
        refine goC_cut hw n _ (by simpa using hA) k (by simpa using hk) (by rw [set_getD f1, if_neg (fun q => hik q.symm)]; exact h1) ?_
        rw [List.length_eq_zero_iff, List.eq_nil_iff_forall_not_mem]
        intro v hv
        have := hw.mono A (A.set i u) k v hA (.setL f1 f2) hk hv
        rw [List.length_eq_zero_iff.1 h0] at this
        cases this
theorem goC_some (hw : ChW W S ch Co) (hQ : Q ∈ lexP S) (hW : W Q = true) : ∀ (n : Nat) (A : List Int), A.length = S.length → uns A < n → contB A Q = true → goC ch n A ≠ []
  | 0, _, _, hn, _ => by omega
  | n + 1, A, hA, hn, hc => by
    cases hf : fqL A with
    | none => rw [goC_leaf hf]; simp
    | some i =>
      obtain ⟨f1, f2, f3⟩ := fqL_some hf
      obtain ⟨q1, q2⟩ := mem_lexP.1 hQ
      have qi := q2 i (by omega)
      obtain ⟨c1, c2⟩ := contB_iff.1 hc
      rw [goC_node hf]
      have hx : XtL A (A.set i (Q.getD i 0)) := .setL f1 f2
      have hu := hx.uns_lt f1 (by omega) (by rw [set_getD f1, if_pos rfl]; exact qi.1)
      have hmem : Q.getD i 0 ∈ ch A i := hw.comp Q A i hQ hW hA (fun j hj _ h0 => c2 j hj h0) f1
      have hr := goC_some hw hQ hW n (A.set i (Q.getD i 0)) (by simpa using hA) (by omega) (contB_iff.2 ⟨by simpa using c1, fun j hj h1 => by
        rw [set_getD f1] at h1 ⊢
        by_cases q : j = i
        · rw [if_pos q, q]
        · rw [if_neg q] at h1 ⊢; exact c2 j (by simpa using hj) h1⟩)
      intro h
      exact hr (List.flatMap_eq_nil_iff.1 h _ hmem)
theorem goC_ext (hw : ChW W S ch Co) : ∀ (n : Nat) (A : List Int), RngL S A → uns A < n → Co A → goC ch n A = extW W S A
  | 0, _, _, hn, _ => by omega
  | n + 1, A, hA, hn, hc => by
    cases hf : fqL A with
    | none =>
      have hfull : ∀ j, j < A.length → 0 ≤ A.getD j 0 := fun j hj => by
        have h1 := fqL_none.1 hf j hj
        have h2 := (hA.2 j hj).1
        omega
      rw [goC_leaf hf, extW_full hA.1 fun j hj => ⟨hfull j hj, (hA.2 j hj).2⟩, if_pos]
      exact hw.leaf A hA.1 (fun j hj => ⟨hfull j hj, (hA.2 j hj).2⟩) hc
    | some i =>
      obtain ⟨f1, f2, f3⟩ := fqL_some hf
      rw [goC_node hf, extW_branch hA.1 f1 (fun j hj => by
        have h1 := f3 j hj
        have h2 := (hA.2 j (by omega)).1
        omega) (by omega)]
      obtain ⟨p, hp⟩ := hw.out A i hA.1 f1
      have hmem : ∀ m : Nat, m < S.getD i 0 → (p m = true ↔ (m : Int) ∈ ch A i) := fun m hm => by
        rw [hp]
        constructor
        · intro h; exact List.mem_map.2 ⟨m, List.mem_filter.2 ⟨List.mem_range.2 hm, h⟩, rfl⟩
        · intro h
          obtain ⟨e, he, h2⟩ := List.mem_map.1 h
          have : e = m := by omega
          subst this
          exact (List.mem_filter.1 he).2
      unfold belC
      rw [hp, List.flatMap_map]
      have key : ∀ m, m ≤ S.getD i 0 → (((List.range m).filter p).flatMap fun e : Nat => goC ch n (A.set i (e : Int))) = (List.range m).flatMap fun u : Nat => extW W S (A.set i (u : Int)) := by
        intro m
        induction m with
        | zero => intro _; rfl
        | succ m ih =>
          intro hm
          rw [List.range_succ, List.filter_append, List.flatMap_append, List.flatMap_append, ih (by omega)]
          congr 1
          have hrg := hA.set (e := (m : Int)) f1 ⟨by omega, by omega⟩
          have hiff := hmem m (by omega)
          by_cases hfit : p m = true
          · rw [List.filter_cons_of_pos (p := p) hfit, List.filter_nil, List.flatMap_cons, List.flatMap_nil, List.append_nil, List.flatMap_cons, List.flatMap_nil, List.append_nil]
            have hu := (XtL.setL (e := (m : Int)) f1 f2).uns_lt f1 (by omega) (by rw [set_getD f1, if_pos rfl]; omega)
            exact goC_ext hw n _ hrg (by omega) (hw.step A i m hA.1 f1 f2 hc (hiff.1 hfit))
          · rw [List.filter_cons_of_neg (p := p) hfit, List.filter_nil, List.flatMap_nil, List.flatMap_cons, List.flatMap_nil, List.append_nil]
            symm
            refine extW_nil fun Q hQ hW hcQ => hfit (hiff.2 ?_)
            obtain ⟨c1, c2⟩ := contB_iff.1 hcQ
            have qi := c2 i (by simpa using f1) (by rw [set_getD f1, if_pos rfl]; omega)
            rw [set_getD f1, if_pos rfl] at qi
            rw [← qi]
            refine hw.comp Q A i hQ hW hA.1 (fun j hj hne h0 => ?_) f1
            have := c2 j (by simpa using hj) (by rw [set_getD f1, if_neg hne]; exact h0)
            rwa [set_getD f1, if_neg hne] at this
      exact key (S.getD i 0) (Nat.le_refl _)
end
/-! ### Transformations -/
def SqP (f g : Fun) (A : List Int) (a : Nat) : Prop := f.tgt.C (f.ars.getD a 0) (A.getD (f.src.to.getD a 0).toNat 0) = f.tgt.C (A.getD (f.src.fr.getD a 0).toNat 0) (g.ars.getD a 0)
structure NatP (f g : Fun) (A : List Int) : Prop where
  end_ : ∀ x, x < A.length → A.getD x 0 ∈ f.tgt.hom (f.obs.getD x 0) (g.obs.getD x 0)
  sq : ∀ a, a < f.src.fr.length → SqP f g A a
noncomputable def natW (f g : Fun) (A : List Int) : Bool := dec (NatP f g A)
theorem natW_iff {f g : Fun} {A : List Int} : natW f g A = true ↔ NatP f g A := dec_iff
abbrev sN (f : Fun) : List Nat := List.replicate f.src.ob.toNat f.tgt.fr.length
noncomputable def natX (f g : Fun) (r : Nat) (X : List Int) : List (List Int) := extW (natW f g) (sN f) (X ++ List.replicate r (-1))
noncomputable def natA (f g : Fun) : List (List Int) := natX f g f.src.ob.toNat []
structure Par (f g : Fun) : Prop where
  src : IsCat f.src
  tgt : IsCat f.tgt
  fit : Fits f
  fit2 : Fits g
  es : g.src = f.src
  et : g.tgt = f.tgt
section
variable {f g : Fun} {A B P Q X C : List Int} {a x r k n : Nat} {b u : Int}
theorem sN_getD (h : x < f.src.ob.toNat) : (sN f).getD x 0 = f.tgt.fr.length := by
  rw [List.getD_eq_getElem?_getD, List.getElem?_replicate, if_pos h]; rfl
theorem sN_len : (sN f).length = f.src.ob.toNat := by rw [List.length_replicate]
structure NatK (f g : Fun) (X : List Int) : Prop where
  end_ : ∀ x, x < X.length → X.getD x 0 ∈ f.tgt.hom (f.obs.getD x 0) (g.obs.getD x 0)
  sq : ∀ a, a < f.src.fr.length → (f.src.fr.getD a 0).toNat < X.length → (f.src.to.getD a 0).toNat < X.length → SqP f g X a
theorem NatK.nil : NatK f g [] := ⟨fun x hx => by simp at hx, fun a _ h => by simp at h⟩
theorem ap_getD {X Y : List Int} {i : Nat} : (X ++ Y).getD i 0 = if i < X.length then X.getD i 0 else Y.getD (i - X.length) 0 := by
  rw [List.getD_eq_getElem?_getD]
  split
  · rename_i h; rw [List.getElem?_append_left h, List.getD_eq_getElem?_getD]
  · rename_i h; rw [List.getElem?_append_right (by omega), List.getD_eq_getElem?_getD]
theorem rp_getD {i : Nat} : (List.replicate r (-1 : Int)).getD i 0 = if i < r then -1 else 0 := by
  rw [List.getD_eq_getElem?_getD, List.getElem?_replicate]
  split <;> rfl
theorem natX_leaf (hs : Shape f.src) (hX : NatK f g X) (hl : X.length = f.src.ob.toNat) : natX f g 0 X = [X] := by
  have h0 := hs.ob0
  unfold natX
  rw [List.replicate_zero, List.append_nil, extW_full (by rw [sN_len]; exact hl) (fun j hj => ?_), if_pos]
  · refine natW_iff.2 ⟨hX.end_, fun a ha => hX.sq a ha ?_ ?_⟩
    · have := hs.frw a ha; omega
    · have := hs.tow a (by rw [hs.tol]; exact ha); omega
  · have := Cat.mem_hom.1 (hX.end_ j hj)
    rw [sN_getD (by omega)]
    exact ⟨this.1, this.2.1⟩
theorem natX_node (hl : X.length + (r + 1) = f.src.ob.toNat) (h0 : ∀ i, i < X.length → 0 ≤ X.getD i 0) :
    natX f g (r + 1) X = (f.tgt.hom (f.obs.getD X.length 0) (g.obs.getD X.length 0)).flatMap fun b => natX f g r (X ++ [b]) := by
  have e1 : ∀ b : Int, (X ++ List.replicate (r + 1) (-1)).set X.length b = (X ++ [b]) ++ List.replicate r (-1) := fun b => by
    rw [List.set_append_right _ _ (Nat.le_refl _), Nat.sub_self, List.replicate_succ, List.set_cons_zero, List.append_assoc]; rfl
  have hi : X.length < (X ++ List.replicate (r + 1) (-1)).length := by simp
  unfold natX
  rw [extW_branch (i := X.length) (by rw [sN_len]; simp; omega) hi (fun j hj => by rw [ap_getD, if_pos hj]; exact h0 j hj) (by rw [ap_getD, if_neg (by omega), Nat.sub_self, rp_getD, if_pos (by omega)]; omega), sN_getD (by omega)]
  simp only [e1]
  unfold Cat.hom Cat.homI coll
  rw [List.flatMap_assoc, List.flatMap_def, List.flatMap_def]
  congr 1
  refine List.map_congr_left fun v hv => ?_
  have hv := List.mem_range.1 hv
  by_cases e : f.tgt.fr.getD v 0 = f.obs.getD X.length 0 ∧ f.tgt.to.getD v 0 = g.obs.getD X.length 0
  · rw [if_pos e]; simp
  · rw [if_neg e, List.flatMap_nil]
    refine extW_nil fun Q hQ hW hc => e ?_
    obtain ⟨c1, c2⟩ := contB_iff.1 hc
    have e2 := c2 X.length (by simp) (by rw [ap_getD, if_pos (by simp), ap_getD, if_neg (by omega), Nat.sub_self]; simp)
    rw [ap_getD, if_pos (by simp), ap_getD, if_neg (by omega), Nat.sub_self] at e2
    have := (natW_iff.1 hW).end_ X.length (by rw [← c1]; simp)
    have := Cat.mem_hom.1 this
    have e2 : Q.getD X.length 0 = (v : Int) := by simpa using e2
    rw [e2] at this
    simpa [Cat.F, Cat.T] using this.2.2
def SqN (f g : Fun) (X : List Int) (a : Nat) : Prop := max (f.src.fr.getD a 0) (f.src.to.getD a 0) + 1 = X.length → SqP f g X a
theorem natX_no (hs : Shape f.src) (h0 : ∀ i, i < X.length → 0 ≤ X.getD i 0) {a : Nat} (ha : a < f.src.fr.length) (hX : ¬ SqN f g X a) : natX f g r X = [] := by
  unfold natX
  refine extW_nil fun Q hQ hW hc => hX fun hm => ?_
  obtain ⟨c1, c2⟩ := contB_iff.1 hc
  have f1 := hs.frw a ha
  have f2 := hs.tow a (by rw [hs.tol]; exact ha)
  have hk : ∀ i : Nat, i < X.length → Q.getD i 0 = X.getD i 0 := fun i hi => by
    have := c2 i (by simp; omega) (by rw [ap_getD, if_pos hi]; exact h0 i hi)
    rwa [ap_getD, if_pos hi] at this
  have s := (natW_iff.1 hW).sq a ha
  unfold SqP at s ⊢
  rw [hk _ (by omega), hk _ (by omega)] at s
  exact s
theorem natK_add (hX : NatK f g X) (hb : b ∈ f.tgt.hom (f.obs.getD X.length 0) (g.obs.getD X.length 0)) (hs : Shape f.src) (hn : ∀ a, a < f.src.fr.length → SqN f g (X ++ [b]) a) : NatK f g (X ++ [b]) := by
  refine ⟨fun x hx => ?_, fun a ha h1 h2 => ?_⟩
  · rw [ap_getD]
    split
    · rename_i h; exact hX.end_ x h
    · rename_i h
      have : x = X.length := by simp at hx; omega
      subst this
      rw [Nat.sub_self]
      simpa using hb
  · have f1 := hs.frw a ha
    have f2 := hs.tow a (by rw [hs.tol]; exact ha)
    rw [List.length_append, List.length_singleton] at h1 h2
    by_cases hm : (f.src.fr.getD a 0).toNat < X.length ∧ (f.src.to.getD a 0).toNat < X.length
    · have := hX.sq a ha hm.1 hm.2
      unfold SqP at this ⊢
      rw [ap_getD, ap_getD, if_pos (by omega), if_pos (by omega)]
      exact this
    · exact hn a ha (by rw [List.length_append, List.length_singleton]; omega)
/-! ### The program's search -/
def SqX (f g : Fun) (P : List Int) (x : Nat) : Prop := ∀ a, a < f.src.fr.length → max (f.src.fr.getD a 0) (f.src.to.getD a 0) = x → SqP f g P a
abbrev NSt := Bool × List (List Int) × List Int
open Classical in
noncomputable def stepN (f g : Fun) (run : List Int → List (List Int) → NSt) (x : Nat) (s : NSt) (b : Int) : NSt :=
  if s.1 = true then (if SqX f g (s.2.2.set x b) x then run (s.2.2.set x b) s.2.1 else (true, s.2.1, s.2.2.set x b)) else s
noncomputable def natRun (f g : Fun) (M : Nat) : Nat → List Int → List (List Int) → NSt
  | 0, P, F => ((stL M F P).1, (stL M F P).2, P)
  | r + 1, P, F => (f.tgt.hom (f.obs.getD (f.src.ob.toNat - (r + 1)) 0) (g.obs.getD (f.src.ob.toNat - (r + 1)) 0)).foldl (stepN f g (natRun f g M r) (f.src.ob.toNat - (r + 1))) (true, F, P)
variable {run : List Int → List (List Int) → NSt} {s : NSt} {F : List (List Int)} {M : Nat}
theorem stepN_stop (h : s.1 = false) : ∀ C : List Int, C.foldl (stepN f g run x) s = s
  | [] => rfl
  | b :: C => by
    have e : stepN f g run x s b = s := by unfold stepN; rw [if_neg (by rw [h]; simp)]
    rw [List.foldl_cons, e, stepN_stop h C]
theorem stepN_take (h : k < C.length) : (C.take (k + 1)).foldl (stepN f g run x) s = stepN f g run x ((C.take k).foldl (stepN f g run x) s) (C.getD k 0) := by
  rw [List.take_add_one, List.getElem?_eq_getElem h, Option.toList_some, List.foldl_append, List.foldl_cons, List.foldl_nil, List.getD_eq_getElem?_getD, List.getElem?_eq_getElem h]; rfl
theorem stepN_end (h : k < C.length) (h1 : ((C.take (k + 1)).foldl (stepN f g run x) s).1 = false) : C.foldl (stepN f g run x) s = (C.take (k + 1)).foldl (stepN f g run x) s := by
  have e : C.foldl (stepN f g run x) s = (C.drop (k + 1)).foldl (stepN f g run x) ((C.take (k + 1)).foldl (stepN f g run x) s) := by rw [← List.foldl_append, List.take_append_drop]
  rw [e, stepN_stop h1]
theorem stepN_yes (h : s.1 = true) (hq : SqX f g (s.2.2.set x b) x) : stepN f g run x s b = run (s.2.2.set x b) s.2.1 := by unfold stepN; rw [if_pos h, if_pos hq]
theorem stepN_no (h : s.1 = true) (hq : ¬ SqX f g (s.2.2.set x b) x) : stepN f g run x s b = (true, s.2.1, s.2.2.set x b) := by unfold stepN; rw [if_pos h, if_neg hq]
theorem sqx_iff (hs : Shape f.src) (hx : x < P.length) : SqX f g P x ↔ ∀ a, a < f.src.fr.length → SqN f g (P.take (x + 1)) a := by
  have hl : (P.take (x + 1)).length = x + 1 := by rw [List.length_take]; omega
  have ht : ∀ i : Nat, i ≤ x → (P.take (x + 1)).getD i 0 = P.getD i 0 := fun i hi => by
    rw [List.getD_eq_getElem?_getD, List.getElem?_take, if_pos (by omega), ← List.getD_eq_getElem?_getD]
  constructor
  · intro h a ha hm
    have f1 := hs.frw a ha
    have f2 := hs.tow a (by rw [hs.tol]; exact ha)
    rw [hl] at hm
    have := h a ha (by omega)
    unfold SqP at this ⊢
    rw [ht _ (by omega), ht _ (by omega)]
    exact this
  · intro h a ha hm
    have f1 := hs.frw a ha
    have f2 := hs.tow a (by rw [hs.tol]; exact ha)
    have := h a ha (by rw [hl]; omega)
    unfold SqP at this ⊢
    rw [ht _ (by omega), ht _ (by omega)] at this
    exact this
structure RunW (f g : Fun) (M r : Nat) (X P : List Int) (F : List (List Int)) (s : NSt) (L : List (List Int)) : Prop where
  ok : s.1 = (eat (stL M) F L).1
  out : s.2.1 = (eat (stL M) F L).2
  len : s.2.2.length = P.length
  pre : s.2.2.take X.length = X
theorem steps_eat (hs : Shape f.src) {r x : Nat} {P : List Int} {F : List (List Int)} (hP : P.length = f.src.ob.toNat) (hx : x + (r + 1) = f.src.ob.toNat) (hX : NatK f g (P.take x)) (hF : F.length ≤ M) (hC : ∀ b ∈ C, b ∈ f.tgt.hom (f.obs.getD x 0) (g.obs.getD x 0))
    (IH : ∀ (Q : List Int) (O : List (List Int)), Q.length = f.src.ob.toNat → NatK f g (Q.take (x + 1)) → O.length ≤ M → RunW f g M r (Q.take (x + 1)) Q O (natRun f g M r Q O) (natX f g r (Q.take (x + 1)))) :
    ∀ k, k ≤ C.length → RunW f g M r (P.take x) P F ((C.take k).foldl (stepN f g (natRun f g M r) x) (true, F, P)) ((C.take k).flatMap fun b => natX f g r (P.take x ++ [b])) := by
  have hl : (P.take x).length = x := by rw [List.length_take]; omega
  have h0 : ∀ i, i < (P.take x).length → 0 ≤ (P.take x).getD i 0 := fun i hi => (Cat.mem_hom.1 (hX.end_ i hi)).1
  have hm : ∀ b ∈ C, b ∈ f.tgt.hom (f.obs.getD (P.take x).length 0) (g.obs.getD (P.take x).length 0) := fun b hb => by rw [hl]; exact hC b hb
  intro k
  induction k with
  | zero => intro _; exact ⟨rfl, rfl, rfl, by rw [hl]; rfl⟩
  | succ k ih =>
    intro hk
    obtain ⟨t, ht⟩ : ∃ t, (C.take k).foldl (stepN f g (natRun f g M r) x) (true, F, P) = t := ⟨_, rfl⟩
    have ih := ih (by omega)
    rw [ht] at ih
    obtain ⟨i1, i2, i3, i4⟩ := ih
    rw [hl] at i4
    rw [stepN_take (by omega), ht]
    have hfl : (C.take (k + 1)).flatMap (fun b => natX f g r (P.take x ++ [b])) = (C.take k).flatMap (fun b => natX f g r (P.take x ++ [b])) ++ natX f g r (P.take x ++ [C.getD k 0]) := by
      rw [List.take_add_one, List.getElem?_eq_getElem (by omega), Option.toList_some, List.flatMap_append, List.getD_eq_getElem?_getD, List.getElem?_eq_getElem (by omega)]; simp
    rw [hfl]
    cases h1 : t.1 with
    | false =>
      rw [show stepN f g (natRun f g M r) x t (C.getD k 0) = t from by unfold stepN; rw [if_neg (by rw [h1]; simp)]]
      rw [h1] at i1
      exact ⟨by rw [eat_stop i1.symm, h1, ← i1], by rw [eat_stop i1.symm]; exact i2, i3, by rw [hl]; exact i4⟩
    | true =>
      have hset : (t.2.2.set x (C.getD k 0)).take (x + 1) = P.take x ++ [C.getD k 0] := by
        rw [List.take_set, List.take_add_one, List.getElem?_eq_getElem (by omega), Option.toList_some, i4, List.set_append_right _ _ (by omega), hl, Nat.sub_self]; rfl
      have hlen2 : (t.2.2.set x (C.getD k 0)).length = f.src.ob.toNat := by rw [List.length_set]; omega
      have hCm : C.getD k 0 ∈ C := by rw [List.getD_eq_getElem?_getD, List.getElem?_eq_getElem (by omega)]; exact List.getElem_mem _
      have hb0 := (Cat.mem_hom.1 (hm _ hCm)).1
      rw [h1] at i1
      by_cases hq : SqX f g (t.2.2.set x (C.getD k 0)) x
      · rw [stepN_yes h1 hq]
        have hN := natK_add hX (hm _ hCm) hs (by
          have := (sqx_iff hs (by omega)).1 hq
          rw [hset] at this
          exact this)
        have hF2 : t.2.1.length ≤ M := by rw [i2]; exact eat_Llen hF i1.symm
        obtain ⟨j1, j2, j3, j4⟩ := IH (t.2.2.set x (C.getD k 0)) t.2.1 hlen2 (by rw [hset]; exact hN) hF2
        rw [hset] at j1 j2 j4
        refine ⟨by rw [eat_go i1.symm, ← i2]; exact j1, by rw [eat_go i1.symm, ← i2]; exact j2, by rw [j3]; omega, ?_⟩
        have := congrArg (List.take x) j4
        rw [List.take_take, List.length_append, List.length_singleton, hl, Nat.min_eq_left (by omega), List.take_append_of_le_length (by rw [hl]; exact Nat.le_refl _)] at this
        rw [hl, this, List.take_take, Nat.min_self]
      · rw [stepN_no h1 hq]
        have hno : ∃ a, ¬ (a < f.src.fr.length → SqN f g (P.take x ++ [C.getD k 0]) a) := Classical.not_forall.1 fun q => hq ((sqx_iff hs (by omega)).2 (by rw [hset]; exact q))
        obtain ⟨a, ha⟩ := hno
        obtain ⟨ha1, ha2⟩ := Classical.not_imp.1 ha
        rw [natX_no hs (fun i hi => ?_) ha1 ha2, List.append_nil]
        · refine ⟨i1, i2, by rw [List.length_set]; exact i3, ?_⟩
          show (t.2.2.set x (C.getD k 0)).take (P.take x).length = P.take x
          rw [hl, List.take_set_of_le (Nat.le_refl _)]
          exact i4
        · rw [ap_getD]
          split
          · rename_i h; exact h0 i h
          · rename_i h
            have : i = (P.take x).length := by simp at hi ⊢; omega
            rw [this, Nat.sub_self]; simpa using hb0
theorem natRun_eat (hs : Shape f.src) : ∀ (r x : Nat) (P : List Int) (F : List (List Int)), P.length = f.src.ob.toNat → x + r = f.src.ob.toNat → NatK f g (P.take x) → F.length ≤ M →
    RunW f g M r (P.take x) P F (natRun f g M r P F) (natX f g r (P.take x))
  | 0, x, P, F, hP, hx, hX, hF => by
    have e : P.take x = P := List.take_of_length_le (by omega)
    rw [e] at hX ⊢
    rw [natX_leaf hs hX hP]
    exact ⟨by rw [eat_one]; rfl, by rw [eat_one]; rfl, rfl, List.take_length⟩
  | r + 1, x, P, F, hP, hx, hX, hF => by
    have ex : f.src.ob.toNat - (r + 1) = x := by omega
    have hl : (P.take x).length = x := by rw [List.length_take]; omega
    have h0 : ∀ i, i < (P.take x).length → 0 ≤ (P.take x).getD i 0 := fun i hi => (Cat.mem_hom.1 (hX.end_ i hi)).1
    have hnode := natX_node (f := f) (g := g) (X := P.take x) (r := r) (by omega) h0
    rw [hl] at hnode
    rw [natRun, ex, hnode]
    have := steps_eat (C := f.tgt.hom (f.obs.getD x 0) (g.obs.getD x 0)) hs hP hx hX hF (fun b hb => hb) (fun Q O h1 h2 h3 => natRun_eat hs r (x + 1) Q O h1 (by omega) h2 h3) _ (Nat.le_refl _)
    rw [List.take_length] at this
    exact ⟨this.ok, this.out, this.len, this.pre⟩
structure StW (f g : Fun) (M r x : Nat) (P : List Int) (F : List (List Int)) (C : List Int) (st : Nat → NSt) : Prop where
  zero : st 0 = (true, F, P)
  all : natRun f g M (r + 1) P F = st C.length
  yes : ∀ k, k < C.length → (st k).1 = true → SqX f g ((st k).2.2.set x (C.getD k 0)) x → st (k + 1) = natRun f g M r ((st k).2.2.set x (C.getD k 0)) (st k).2.1
  no : ∀ k, k < C.length → (st k).1 = true → ¬ SqX f g ((st k).2.2.set x (C.getD k 0)) x → st (k + 1) = (true, (st k).2.1, (st k).2.2.set x (C.getD k 0))
  stop : ∀ k, k < C.length → (st (k + 1)).1 = false → st C.length = st (k + 1)
  len : ∀ k, k ≤ C.length → (st k).2.2.length = f.src.ob.toNat
  few : ∀ k, k ≤ C.length → (st k).1 = true → (st k).2.1.length ≤ M
  rng : ∀ k, k < C.length → ∀ i, i ≤ x → 0 ≤ ((st k).2.2.set x (C.getD k 0)).getD i 0 ∧ ((st k).2.2.set x (C.getD k 0)).getD i 0 < f.tgt.fr.length
  good : ∀ k, k < C.length → SqX f g ((st k).2.2.set x (C.getD k 0)) x → NatK f g (((st k).2.2.set x (C.getD k 0)).take (x + 1))
end
end Go.Cats
end
section
namespace Go.Cats
def nums (n : Nat) : List Int := (List.range n).map fun i : Nat => (i : Int)
theorem nums_zero : nums 0 = [] := rfl
theorem nums_len (n : Nat) : (nums n).length = n := by simp [nums]
theorem nums_succ (n : Nat) : nums (n + 1) = nums n ++ [(n : Int)] := by simp [nums, List.range_succ]
theorem nums_at {n i : Nat} (h : i < n) : (nums n).getD i 0 = i := by simp [nums, h]
def oneC : Cat := ⟨1, [0], [0], [0], [[0]]⟩
def selfF (c : Cat) : Fun := ⟨c, c, nums c.ob.toNat, nums c.fr.length⟩
def pointF (c : Cat) (x : Int) : Fun := ⟨oneC, c, [x], [c.I x]⟩
end Go.Cats
end
section
namespace Go.Cats
abbrev Tr := Nat × Nat × Nat
def ruleT (acts : List (List Int)) (t : Tr) : Rule := ⟨t.1, t.2.2, acts.getD t.2.1 []⟩
def linkT (acts : List (List Int)) (S : List Nat) (t : Tr) : Link := ⟨t.1, t.2.2, acts.getD t.2.1 [], nums (S.getD t.2.2 0)⟩
structure TrW (S : List Nat) (acts : List (List Int)) (T : List Tr) : Prop where
  fr : ∀ t ∈ T, t.1 < S.length
  to : ∀ t ∈ T, t.2.2 < S.length
  len : ∀ t ∈ T, (acts.getD t.2.1 []).length = S.getD t.1 0
  val : ∀ t ∈ T, ∀ e : Nat, e < S.getD t.1 0 → 0 ≤ (acts.getD t.2.1 []).getD e 0 ∧ (acts.getD t.2.1 []).getD e 0 < S.getD t.2.2 0
  arr : ∀ t ∈ T, t.2.1 < acts.length
variable {S : List Nat} {acts : List (List Int)} {T : List Tr}
end Go.Cats
end
section
namespace Go.Cats
def Rises (l : List Int) : Prop := ∀ i, i + 1 < l.length → l.getD i 0 < l.getD (i + 1) 0
structure IsSieve (c : Cat) (x : Int) (s : List Int) : Prop where
  up : Rises s
  wi : Within s c.fr.length
  at_ : ∀ i, i < s.length → c.F (s.getD i 0) = x
  cl : ∀ i, i < s.length → ∀ b : Nat, b < c.fr.length → c.fr.getD b 0 = c.T (s.getD i 0) → c.C (s.getD i 0) b ∈ s
section
variable {c : Cat} {s : List Int} {k n i b : Nat} {x : Int} {f : SF}
end
end Go.Cats
end
section
namespace Go.Cats
section
variable {c : Cat} {o : Nat → Nat} {J : Nat → Nat → Nat} {k i n b : Nat} {f : SF}
structure GenW (c : Cat) (O : List Int) (J : Nat → Nat → Nat) : Prop where
  ob : ∀ i, i < O.length → 0 ≤ O.getD i 0 ∧ O.getD i 0 < c.ob
  nx : ∀ i b, i < O.length → b < c.fr.length → c.fr.getD b 0 = O.getD i 0 → J i b < O.length ∧ O.getD (J i b) 0 = c.to.getD b 0
end
section
variable {k : Fun} {y : Int} {n x : Nat}
structure SeatOK (k : Fun) (y : Int) (r : List Int) : Prop where
  len : r.length = 2
  x0 : 0 ≤ r.getD 0 0
  x1 : r.getD 0 0 < k.src.ob
  h0 : 0 ≤ r.getD 1 0
  h1 : r.getD 1 0 < k.tgt.fr.length
  hf : k.tgt.F (r.getD 1 0) = y
  ht : k.tgt.T (r.getD 1 0) = k.obs.getD (r.getD 0 0).toNat 0
end
end Go.Cats
end
section
namespace Go.Cats
section
variable {c d : Cat} {b : Bool} {X A Q L : List Int} {i k : Nat} {v : Int}
theorem unit_cp (hc : IsCat c) {x : Nat} (hx : x < c.id.length) : c.cp (c.id.getD x 0).toNat (c.id.getD x 0).toNat = c.id.getD x 0 := by
  have h1 := id_ok hc.toShape hx
  have h2 := hc.unl (c.id.getD x 0).toNat h1.1
  simp only [Cat.C, Cat.I, Cat.F, Int.toNat_natCast] at h2
  rw [h1.2.2.1, Int.toNat_natCast] at h2
  show (c.co.getD _ []).getD _ 0 = _
  rw [h2]; omega
theorem startI_some (hc : Shape c) {j : Nat} (hj : j < c.fr.length) : ∀ {k : Nat}, k ≤ c.id.length → 0 ≤ (startI c d X k).getD j 0 → ∃ x, x < k ∧ j = (c.id.getD x 0).toNat
  | 0, _, h0 => by rw [startI, rep_neg, if_pos hj] at h0; omega
  | k + 1, hk, h0 => by
    have h1 := id_ok hc (x := k) (by omega)
    rw [startI, set_getD (by rw [startI_len]; exact h1.1)] at h0
    by_cases e : j = (c.id.getD k 0).toNat
    · exact ⟨k, by omega, e⟩
    · rw [if_neg e] at h0
      obtain ⟨x, h2, h3⟩ := startI_some hc hj (by omega) h0
      exact ⟨x, by omega, h3⟩
theorem start_clo (hc : IsCat c) (hd : IsCat d) (hX : XOK c d b X) : ∀ a, a < c.fr.length → ∀ b, b < c.fr.length → Clo c d (startA c d X) a b := fun p hp q hq h0 a0 b0 => by
  obtain ⟨x, hx, e1⟩ := startI_some hc.toShape hp (Nat.le_refl _) a0
  obtain ⟨y, hy, e2⟩ := startI_some hc.toShape hq (Nat.le_refl _) b0
  obtain ⟨g1, _, _, _⟩ := comp_ent hc.toShape hp hq h0
  have i1 := id_ok hc.toShape hx
  have i2 := id_ok hc.toShape hy
  rw [e1, e2, i1.2.2.2, i2.2.2.1] at g1
  have e : x = y := by omega
  subst e
  have u1 := unit_cp hc hx
  have s1 := startI_at (d := d) (X := X) hc.toShape (Nat.le_refl c.id.length) x hx
  have u2 := unit_ok hc.toShape hd.toShape hX hx
  subst e1 e2
  rw [u1]
  unfold startA
  rw [s1]
  have u3 := unit_cp hd (x := (X.getD x 0).toNat) u2.2.1
  exact u3.symm
theorem start_nx (hc : IsCat c) (hd : IsCat d) (hX : XOK c d b X) (hb : b = true → NdI (startA c d X)) : NX c d b X (startA c d X) :=
  ⟨startI_va hc.toShape hd.toShape hX (Nat.le_refl _), start_clo hc hd hX, hb, fun x hx => startI_at hc.toShape (Nat.le_refl _) x hx⟩
theorem funA_start (hc : Shape c) : funA c d b X = extW (WA c d b X) (sA c d) (startA c d X) := by
  unfold funA
  refine extW_congr fun Q hQ hW => ⟨fun _ => startI_cont hc (WA_iff.1 hW).1 (Nat.le_refl _), fun k => ?_⟩
  rw [contB_iff] at k ⊢
  refine ⟨by rw [← k.1, List.length_replicate]; exact (startI_len _).symm, fun i hi h0 => ?_⟩
  rw [List.length_replicate] at hi
  rw [rep_neg, if_pos hi] at h0
  omega
theorem spreadF_plain : spreadF c d false A = forceF c d (c.fr.length + 1) A := by
  unfold spreadF
  simp
def Rooms (c d : Cat) (X : List Int) : Prop := ∀ f, f < c.fr.length → c.fr.getD f 0 < X.length → c.to.getD f 0 < X.length → 0 < (d.hom (X.getD (c.fr.getD f 0).toNat 0) (X.getD (c.to.getD f 0).toNat 0)).length
theorem rooms_no {r : Nat} (hc : Shape c) (h : ¬ Rooms c d X) : funX c d false r X = [] := by
  refine funX_nil fun O Q hO hW => h fun f hf h1 h2 => ?_
  have := fits_need hW hf
  have f1 := hc.frw f hf
  have f2 := hc.tow f (by rw [hc.tol]; exact hf)
  rw [getD_take hO (by omega), getD_take hO (by omega)] at this
  unfold Need at this
  rw [if_neg (by simp)] at this
  exact this
theorem take_tk {α : Type} {A B C : List α} {n : Nat} : ((A ++ B).take n ++ C).take n = (A ++ (B ++ C)).take n := by
  rw [← List.append_assoc]
  by_cases h : (A ++ B).length ≤ n
  · rw [List.take_of_length_le h]
  · have hl : ((A ++ B).take n).length = n := by rw [List.length_take]; omega
    rw [List.take_append_of_le_length (l₁ := (A ++ B).take n) (by omega), List.take_take, Nat.min_self, List.take_append_of_le_length (l₁ := A ++ B) (by omega)]
end
end Go.Cats
end
section
namespace Go.Cats
def FitO (f g : Fun) (B : List Int) (x : Nat) (a : Nat) : Prop := (¬ f.src.fr.getD a 0 = x ∧ ¬ f.src.to.getD a 0 = x) ∨ B.getD (f.src.fr.getD a 0).toNat 0 < 0 ∨ B.getD (f.src.to.getD a 0).toNat 0 < 0 ∨ SqP f g B a
def FitN (f g : Fun) (A : List Int) (x : Nat) (b : Int) : Prop := ∀ a, a < f.src.fr.length → FitO f g (A.set x b) x a
noncomputable def nChk (f g : Fun) (A : List Int) (x k : Nat) : List Int := ((f.tgt.hom (f.obs.getD x 0) (g.obs.getD x 0)).take k).filter fun b => dec (FitN f g A x b)
noncomputable def nCh (f g : Fun) (A : List Int) (x : Nat) : List Int := (f.tgt.hom (f.obs.getD x 0) (g.obs.getD x 0)).filter fun b => dec (FitN f g A x b)
section
variable {f g : Fun} {A B Q : List Int} {x i k n : Nat} {b u : Int}
theorem nChk_zero : nChk f g A x 0 = [] := rfl
theorem nChk_all : nChk f g A x (f.tgt.hom (f.obs.getD x 0) (g.obs.getD x 0)).length = nCh f g A x := by unfold nChk nCh; rw [List.take_length]
theorem filt_yes {C : List Int} {p : Int → Bool} (hk : k < C.length) (h : p (C.getD k 0) = true) : (C.take (k + 1)).filter p = (C.take k).filter p ++ [C.getD k 0] := by
  rw [List.take_add_one, List.getElem?_eq_getElem hk, Option.toList_some, List.filter_append]
  rw [List.getD_eq_getElem?_getD, List.getElem?_eq_getElem hk, Option.getD_some] at h ⊢
  rw [List.filter_cons_of_pos h, List.filter_nil]
theorem filt_no {C : List Int} {p : Int → Bool} (hk : k < C.length) (h : p (C.getD k 0) = false) : (C.take (k + 1)).filter p = (C.take k).filter p := by
  rw [List.take_add_one, List.getElem?_eq_getElem hk, Option.toList_some, List.filter_append]
  rw [List.getD_eq_getElem?_getD, List.getElem?_eq_getElem hk, Option.getD_some] at h
  rw [List.filter_cons_of_neg (by rw [h]; simp), List.filter_nil, List.append_nil]
theorem nChk_yes (hk : k < (f.tgt.hom (f.obs.getD x 0) (g.obs.getD x 0)).length) (h : FitN f g A x ((f.tgt.hom (f.obs.getD x 0) (g.obs.getD x 0)).getD k 0)) : nChk f g A x (k + 1) = nChk f g A x k ++ [(f.tgt.hom (f.obs.getD x 0) (g.obs.getD x 0)).getD k 0] :=
  filt_yes hk (dec_t h)
theorem nChk_no (hk : k < (f.tgt.hom (f.obs.getD x 0) (g.obs.getD x 0)).length) (h : ¬ FitN f g A x ((f.tgt.hom (f.obs.getD x 0) (g.obs.getD x 0)).getD k 0)) : nChk f g A x (k + 1) = nChk f g A x k :=
  filt_no hk (dec_f h)
theorem nChk_len : (nChk f g A x k).length ≤ k := by
  unfold nChk
  exact Nat.le_trans (List.length_filter_le _ _) (by rw [List.length_take]; omega)
theorem nCh_len (f g : Fun) (A : List Int) (x : Nat) : (nCh f g A x).length ≤ f.tgt.fr.length := by
  unfold nCh
  exact Nat.le_trans (List.length_filter_le _ _) (f.tgt.homI_len _ _ _)
theorem coll_if {n : Nat} {p : Nat → Prop} [DecidablePred p] : (coll n fun e => if p e then [(e : Int)] else []) = ((List.range n).filter fun e => decide (p e)).map fun e : Nat => (e : Int) := by
  induction n with
  | zero => rfl
  | succ n ih =>
    rw [coll_succ, ih, List.range_succ, List.filter_append, List.map_append]
    congr 1
    by_cases h : p n
    · rw [if_pos h, List.filter_cons_of_pos (by simpa using h)]; rfl
    · rw [if_neg h, List.filter_cons_of_neg (by simpa using h)]; rfl
theorem mem_nCh : u ∈ nCh f g A x ↔ u ∈ f.tgt.hom (f.obs.getD x 0) (g.obs.getD x 0) ∧ FitN f g A x u := by
  unfold nCh
  rw [List.mem_filter, dec_iff]
structure CoN (f g : Fun) (A : List Int) : Prop where
  end_ : ∀ i, i < A.length → 0 ≤ A.getD i 0 → A.getD i 0 ∈ f.tgt.hom (f.obs.getD i 0) (g.obs.getD i 0)
  sq : ∀ a, a < f.src.fr.length → 0 ≤ A.getD (f.src.fr.getD a 0).toNat 0 → 0 ≤ A.getD (f.src.to.getD a 0).toNat 0 → SqP f g A a
theorem sqP_congr {a : Nat} (h1 : A.getD (f.src.fr.getD a 0).toNat 0 = B.getD (f.src.fr.getD a 0).toNat 0) (h2 : A.getD (f.src.to.getD a 0).toNat 0 = B.getD (f.src.to.getD a 0).toNat 0) (h : SqP f g A a) : SqP f g B a := by
  unfold SqP at h ⊢
  rw [← h1, ← h2]; exact h
theorem nCh_w (hs : Shape f.src) : ChW (natW f g) (sN f) (nCh f g) (CoN f g) := by
  refine ⟨fun A i hA hi => ?_, fun A B i u hA hx hi hu => ?_, fun Q A i hQ hW hA hag hi => ?_, fun A hA hr hC => ?_, fun A i u hA hi h1 hC hu => ?_⟩
  · have hin : i < f.src.ob.toNat := by rw [← sN_len (f := f), ← hA]; exact hi
    refine ⟨fun e => decide (f.tgt.fr.getD e 0 = f.obs.getD i 0 ∧ f.tgt.to.getD e 0 = g.obs.getD i 0) && dec (FitN f g A i e), ?_⟩
    unfold nCh Cat.hom Cat.homI
    rw [coll_if, List.filter_map, List.filter_filter, sN_getD hin]
    congr 1
    refine List.filter_congr fun e _ => ?_
    rw [Bool.and_comm]; rfl
  · obtain ⟨h1, h2⟩ := mem_nCh.1 hu
    refine mem_nCh.2 ⟨h1, fun a ha => ?_⟩
    have f1 := hs.frw a ha
    have f2 := hs.tow a (by rw [hs.tol]; exact ha)
    have hl : A.length = f.src.ob.toNat := by rw [hA, sN_len]
    have hl2 := hx.1
    have e : ∀ j : Nat, j < A.length → 0 ≤ (A.set i u).getD j 0 → (B.set i u).getD j 0 = (A.set i u).getD j 0 := fun j hj h0 => by
      rw [set_getD hi] at h0 ⊢
      rw [set_getD (by omega)]
      by_cases q : j = i
      · rw [if_pos q, if_pos q]
      · rw [if_neg q] at h0 ⊢
        rw [if_neg q]; exact hx.2 j hj h0
    by_cases c1 : (A.set i u).getD (f.src.fr.getD a 0).toNat 0 < 0
    · exact .inr (.inl c1)
    · by_cases c2 : (A.set i u).getD (f.src.to.getD a 0).toNat 0 < 0
      · exact .inr (.inr (.inl c2))
      · have e1 := e (f.src.fr.getD a 0).toNat (by omega) (by omega)
        have e2 := e (f.src.to.getD a 0).toNat (by omega) (by omega)
        rcases h2 a ha with q | q | q | q
        · exact .inl q
        · rw [e1] at q; exact .inr (.inl q)
        · rw [e2] at q; exact .inr (.inr (.inl q))
        · exact .inr (.inr (.inr (sqP_congr e1 e2 q)))
  · obtain ⟨q1, q2⟩ := mem_lexP.1 hQ
    have hN := natW_iff.1 hW
    have hl : A.length = f.src.ob.toNat := by rw [hA, sN_len]
    refine mem_nCh.2 ⟨hN.end_ i (by omega), fun a ha => ?_⟩
    have f1 := hs.frw a ha
    have f2 := hs.tow a (by rw [hs.tol]; exact ha)
    have e : ∀ j : Nat, j < A.length → 0 ≤ (A.set i (Q.getD i 0)).getD j 0 → Q.getD j 0 = (A.set i (Q.getD i 0)).getD j 0 := fun j hj h0 => by
      rw [set_getD hi] at h0 ⊢
      by_cases q : j = i
      · rw [if_pos q, q]
      · rw [if_neg q] at h0 ⊢; exact hag j hj q h0
    by_cases c1 : (A.set i (Q.getD i 0)).getD (f.src.fr.getD a 0).toNat 0 < 0
    · exact .inr (.inl c1)
    · by_cases c2 : (A.set i (Q.getD i 0)).getD (f.src.to.getD a 0).toNat 0 < 0
      · exact .inr (.inr (.inl c2))
      · exact .inr (.inr (.inr (sqP_congr (e _ (by omega) (by omega)) (e _ (by omega) (by omega)) (hN.sq a ha))))
  · have hl : A.length = f.src.ob.toNat := by rw [hA, sN_len]
    refine natW_iff.2 ⟨fun x hx => hC.end_ x hx (hr x hx).1, fun a ha => ?_⟩
    have f1 := hs.frw a ha
    have f2 := hs.tow a (by rw [hs.tol]; exact ha)
    exact hC.sq a ha (hr _ (by omega)).1 (hr _ (by omega)).1
  · obtain ⟨h2, h3⟩ := mem_nCh.1 hu
    have hl : A.length = f.src.ob.toNat := by rw [hA, sN_len]
    refine ⟨fun j hj h0 => ?_, fun a ha a0 b0 => ?_⟩
    · rw [List.length_set] at hj
      rw [set_getD hi] at h0 ⊢
      by_cases q : j = i
      · rw [if_pos q, q]; exact h2
      · rw [if_neg q] at h0 ⊢; exact hC.end_ j hj h0
    · have f1 := hs.frw a ha
      have f2 := hs.tow a (by rw [hs.tol]; exact ha)
      rcases h3 a ha with q | q | q | q
      · have n1 : ¬ (f.src.fr.getD a 0).toNat = i := fun e => q.1 (by omega)
        have n2 : ¬ (f.src.to.getD a 0).toNat = i := fun e => q.2 (by omega)
        rw [set_getD hi, if_neg n1] at a0
        rw [set_getD hi, if_neg n2] at b0
        exact sqP_congr (by rw [set_getD hi, if_neg n1]) (by rw [set_getD hi, if_neg n2]) (hC.sq a ha a0 b0)
      · omega
      · omega
      · exact q
end
end Go.Cats
end
section
namespace Go.Cats
abbrev Ps := List Int × List Int
open Classical in
noncomputable def rL (f : Ps → Ps) (c d : Cat) (b : Bool) (x : Nat) : Nat → Ps → Ps
  | 0, s => s
  | y + 1, s => if b = true ∧ (y : Int) ∈ (rL f c d b x y s).1.take x then rL f c d b x y s
      else if Placed c d b ((rL f c d b x y s).1.set x (y : Int)) x then f ((rL f c d b x y s).1.set x (y : Int), (rL f c d b x y s).2) else ((rL f c d b x y s).1.set x (y : Int), (rL f c d b x y s).2)
noncomputable def rG (c d : Cat) (b : Bool) : Nat → Ps → Ps
  | 0, s => (s.1, (spreadF c d b (startA c d s.1)).2)
  | r + 1, s => rL (rG c d b r) c d b (s.1.length - (r + 1)) d.ob.toNat s
section
variable {f : Ps → Ps} {c d : Cat} {b : Bool} {x y r : Nat} {s : Ps} {P A : List Int}
theorem rL_skip (h : b = true ∧ (y : Int) ∈ (rL f c d b x y s).1.take x) : rL f c d b x (y + 1) s = rL f c d b x y s := by rw [rL, if_pos h]
theorem rL_no (h : ¬ (b = true ∧ (y : Int) ∈ (rL f c d b x y s).1.take x)) (k : ¬ Placed c d b ((rL f c d b x y s).1.set x (y : Int)) x) : rL f c d b x (y + 1) s = ((rL f c d b x y s).1.set x (y : Int), (rL f c d b x y s).2) := by rw [rL, if_neg h, if_neg k]
theorem rL_yes (h : ¬ (b = true ∧ (y : Int) ∈ (rL f c d b x y s).1.take x)) (k : Placed c d b ((rL f c d b x y s).1.set x (y : Int)) x) : rL f c d b x (y + 1) s = f ((rL f c d b x y s).1.set x (y : Int), (rL f c d b x y s).2) := by rw [rL, if_neg h, if_pos k]
def Keeps (n m x : Nat) (f : Ps → Ps) : Prop := ∀ s : Ps, s.1.length = n → s.2.length = m → (f s).1.length = n ∧ (f s).2.length = m ∧ (f s).1.take x = s.1.take x
theorem take_set_same {l : List Int} {x : Nat} {v : Int} : (l.set x v).take x = l.take x := by
  rw [List.take_set]
  exact List.set_eq_of_length_le (by rw [List.length_take]; omega)
theorem rL_keeps {n m : Nat} (hf : Keeps n m (x + 1) f) (h1 : s.1.length = n) (h2 : s.2.length = m) : ∀ y, (rL f c d b x y s).1.length = n ∧ (rL f c d b x y s).2.length = m ∧ (rL f c d b x y s).1.take x = s.1.take x
  | 0 => ⟨h1, h2, rfl⟩
  | y + 1 => by
    obtain ⟨e1, e2, e3⟩ := rL_keeps hf h1 h2 y
    by_cases h : b = true ∧ (y : Int) ∈ (rL f c d b x y s).1.take x
    · rw [rL_skip h]; exact ⟨e1, e2, e3⟩
    · by_cases k : Placed c d b ((rL f c d b x y s).1.set x (y : Int)) x
      · rw [rL_yes h k]
        obtain ⟨g1, g2, g3⟩ := hf ((rL f c d b x y s).1.set x (y : Int), (rL f c d b x y s).2) (by simpa using e1) e2
        refine ⟨g1, g2, ?_⟩
        have g4 := congrArg (List.take x) g3
        rw [List.take_take, List.take_take, Nat.min_eq_left (by omega)] at g4
        rw [g4, take_set_same, e3]
      · rw [rL_no h k]
        exact ⟨by simpa using e1, e2, by rw [take_set_same, e3]⟩
theorem stF_alen {a q : Nat} {s : Fs} : (stF c d a q s).2.2.length = s.2.2.length := by
  unfold stF
  split
  · rfl
  · split
    · simp
    · rfl
theorem rowF_alen {a : Nat} {s : Fs} : ∀ {q : Nat}, (rowF c d a q s).2.2.length = s.2.2.length
  | 0 => rfl
  | q + 1 => by
    rw [rowF]
    split
    · rw [stF_alen, rowF_alen]
    · exact rowF_alen
theorem passF_alen {m : Nat} {s : Fs} : ∀ {a : Nat}, (passF c d m a s).2.2.length = s.2.2.length
  | 0 => rfl
  | q + 1 => by
    rw [passF]
    split
    · rw [rowF_alen, passF_alen]
    · exact passF_alen
theorem forceF_alen : ∀ {k : Nat} {A : List Int}, (forceF c d k A).2.length = A.length
  | 0, A => rfl
  | k + 1, A => by
    rw [forceF]
    split
    · split
      · rw [forceF_alen, passF_alen]
      · exact passF_alen
    · exact passF_alen
theorem rG_keeps : ∀ {r n : Nat}, r ≤ n → Keeps n c.fr.length (n - r) (rG c d b r)
  | 0, n, _ => fun s h1 h2 => by
    refine ⟨h1, ?_, rfl⟩
    show (spreadF c d b (startA c d s.1)).2.length = _
    unfold spreadF
    rw [forceF_alen]
    exact startI_len _
  | r + 1, n, hr => fun s h1 h2 => by
    have ih := @rG_keeps r n (by omega)
    have hx : s.1.length - (r + 1) + 1 = n - r := by omega
    have := rL_keeps (c := c) (d := d) (b := b) (f := rG c d b r) (x := s.1.length - (r + 1)) (n := n) (m := c.fr.length) (s := s) (by rw [hx]; exact ih) h1 h2 d.ob.toNat
    rw [rG]
    rw [show n - (r + 1) = s.1.length - (r + 1) by omega]
    exact this
theorem take_set_next {l : List Int} {x : Nat} {v : Int} (hx : x < l.length) : (l.set x v).take (x + 1) = l.take x ++ [v] := by
  rw [List.take_add_one, take_set_same, List.getElem?_set, if_pos rfl, if_pos hx]; rfl
theorem placed_take (hc : Shape c) (hx : x < P.length) : Placed c d b (P.take (x + 1)) x ↔ Placed c d b P x := by
  have e : ∀ i : Nat, i ≤ x → (P.take (x + 1)).getD i 0 = P.getD i 0 := fun i hi => by
    rw [List.getD_eq_getElem?_getD, List.getElem?_take, if_pos (by omega), List.getD_eq_getElem?_getD]
  constructor
  · intro h f hf h1 h2 h3
    have f1 := hc.frw f hf
    have f2 := hc.tow f (by rw [hc.tol]; exact hf)
    have := h f hf h1 h2 h3
    rwa [e _ (by omega), e _ (by omega)] at this
  · intro h f hf h1 h2 h3
    have f1 := hc.frw f hf
    have f2 := hc.tow f (by rw [hc.tol]; exact hf)
    have := h f hf h1 h2 h3
    rwa [e _ (by omega), e _ (by omega)]
theorem within_snoc {l : List Int} {n : Int} {y : Nat} (h : Within l n) (hy : (y : Int) < n) : Within (l ++ [(y : Int)]) n := fun i hi => by
  rw [List.length_append, List.length_singleton] at hi
  by_cases q : i < l.length
  · rw [List.getD_eq_getElem?_getD, List.getElem?_append_left q, ← List.getD_eq_getElem?_getD]; exact h i q
  · rw [List.getD_eq_getElem?_getD, List.getElem?_append_right (by omega), show i - l.length = 0 by omega]
    simp only [List.getElem?_cons_zero, Option.getD_some]; omega
theorem ndI_snoc {l : List Int} {v : Int} (h : NdI l) (hv : v ∉ l) : NdI (l ++ [v]) := fun i j hij hj h0 => by
  rw [List.length_append, List.length_singleton] at hj
  have ej : ∀ k, k < l.length → (l ++ [v]).getD k 0 = l.getD k 0 := fun k hk => by rw [List.getD_eq_getElem?_getD, List.getElem?_append_left hk, ← List.getD_eq_getElem?_getD]
  rw [ej i (by omega)] at h0 ⊢
  by_cases q : j < l.length
  · rw [ej j q]
    exact h i j hij q h0
  · have e : (l ++ [v]).getD j 0 = v := by
      rw [List.getD_eq_getElem?_getD, List.getElem?_append_right (by omega), show j - l.length = 0 by omega]; rfl
    rw [e]
    exact fun e => hv (by rw [← e]; exact getD_mem (by omega))
theorem eat_last {β : Type} {M : Nat} {z : β} : ∀ {D o : List β}, (eat (stL M) o D).1 = false → ∃ q ∈ D, (eat (stL M) o D).2.getLastD z = q
  | [], o, h => by cases h
  | q :: D, o, h => by
    cases hq : (stL M o q).1 with
    | true =>
      rw [eat_t hq] at h ⊢
      obtain ⟨p, h1, h2⟩ := eat_last (D := D) h
      exact ⟨p, List.mem_cons_of_mem _ h1, h2⟩
    | false =>
      rw [eat_f hq]
      exact ⟨q, List.mem_cons_self .., by show (o ++ [q]).getLastD z = q; rw [List.getLastD_concat]⟩
theorem fillN {l : List Int} {i : Nat} {v : Int} (hi : i < l.length) : (List.replicate i v ++ l.drop i).set i v = List.replicate (i + 1) v ++ l.drop (i + 1) := by
  rw [List.set_append_right _ _ (by simp), List.length_replicate, Nat.sub_self, List.drop_eq_getElem_cons hi, List.set_cons_zero, List.replicate_succ', List.append_assoc]
  rfl
end
end Go.Cats
end
section
namespace Go.Cats
theorem st_factsH {f g : Fun} {M : Nat} (hs : Shape f.src) {r x : Nat} {P : List Int} {F : List (List Int)} (hP : P.length = f.src.ob.toNat) (hx : x + (r + 1) = f.src.ob.toNat) (hX : NatK f g (P.take x)) (hF : F.length ≤ M) :
    ∃ st, StW f g M r x P F (f.tgt.hom (f.obs.getD x 0) (g.obs.getD x 0)) st ∧ ∀ k, k < (f.tgt.hom (f.obs.getD x 0) (g.obs.getD x 0)).length → ∀ i, i ≤ x → ((st k).2.2.set x ((f.tgt.hom (f.obs.getD x 0) (g.obs.getD x 0)).getD k 0)).getD i 0 ∈ f.tgt.hom (f.obs.getD i 0) (g.obs.getD i 0) := by
  have ex : f.src.ob.toNat - (r + 1) = x := by omega
  have hl : (P.take x).length = x := by rw [List.length_take]; omega
  have hst := steps_eat (C := f.tgt.hom (f.obs.getD x 0) (g.obs.getD x 0)) hs hP hx hX hF (fun b hb => hb) (fun Q O h1 h2 h3 => natRun_eat hs r (x + 1) Q O h1 (by omega) h2 h3)
  have hall : natRun f g M (r + 1) P F = ((f.tgt.hom (f.obs.getD x 0) (g.obs.getD x 0)).take (f.tgt.hom (f.obs.getD x 0) (g.obs.getD x 0)).length).foldl (stepN f g (natRun f g M r) x) (true, F, P) := by rw [natRun, ex, List.take_length]
  have hmem : ∀ b ∈ f.tgt.hom (f.obs.getD x 0) (g.obs.getD x 0), b ∈ f.tgt.hom (f.obs.getD (P.take x).length 0) (g.obs.getD (P.take x).length 0) := fun b hb => by rw [hl]; exact hb
  have hCh : ∀ b ∈ f.tgt.hom (f.obs.getD x 0) (g.obs.getD x 0), b ∈ f.tgt.hom (f.obs.getD x 0) (g.obs.getD x 0) := fun b h => h
  obtain ⟨C, hC⟩ : ∃ C, f.tgt.hom (f.obs.getD x 0) (g.obs.getD x 0) = C := ⟨_, rfl⟩
  rw [hC] at hst hall hmem ⊢
  have hCh2 : ∀ b ∈ C, b ∈ f.tgt.hom (f.obs.getD x 0) (g.obs.getD x 0) := fun b h => by rw [hC]; exact h
  have hset : ∀ k, k < C.length → (((C.take k).foldl (stepN f g (natRun f g M r) x) (true, F, P)).2.2.set x (C.getD k 0)).take (x + 1) = P.take x ++ [C.getD k 0] := fun k hk => by
    obtain ⟨i1, i2, i3, i4⟩ := hst k (by omega)
    rw [hl] at i4
    rw [List.take_set, List.take_add_one, List.getElem?_eq_getElem (by omega), Option.toList_some, i4, List.set_append_right _ _ (by omega), hl, Nat.sub_self]; rfl
  have hCm : ∀ k, k < C.length → C.getD k 0 ∈ C := fun k hk => by rw [List.getD_eq_getElem?_getD, List.getElem?_eq_getElem (by omega)]; exact List.getElem_mem _
  refine ⟨fun k => (C.take k).foldl (stepN f g (natRun f g M r) x) (true, F, P), ⟨rfl, hall, fun k hk h1 hq => ?_, fun k hk h1 hq => ?_, fun k hk h1 => ?_, fun k hk => ?_, fun k hk h1 => ?_, fun k hk i hi => ?_, fun k hk hq => ?_⟩, fun k hk i hi => ?_⟩
  · show (C.take (k + 1)).foldl _ _ = _
    rw [stepN_take hk, stepN_yes h1 hq]
  · show (C.take (k + 1)).foldl _ _ = _
    rw [stepN_take hk, stepN_no h1 hq]
  · show (C.take C.length).foldl _ _ = _
    rw [List.take_length]
    exact stepN_end hk h1
  · rw [(hst k hk).len]; exact hP
  · have := (hst k hk)
    show ((C.take k).foldl (stepN f g (natRun f g M r) x) (true, F, P)).2.1.length ≤ M
    rw [this.out]
    exact eat_Llen hF (by rw [← this.ok]; exact h1)
  · have h : ((((C.take k).foldl (stepN f g (natRun f g M r) x) (true, F, P)).2.2.set x (C.getD k 0)).take (x + 1)).getD i 0 = (P.take x ++ [C.getD k 0]).getD i 0 := by rw [hset k hk]
    rw [List.getD_eq_getElem?_getD, List.getElem?_take, if_pos (by omega), ← List.getD_eq_getElem?_getD, ap_getD] at h
    show 0 ≤ (((C.take k).foldl (stepN f g (natRun f g M r) x) (true, F, P)).2.2.set x (C.getD k 0)).getD i 0 ∧ _
    rw [h]
    split
    · rename_i hi2
      have := Cat.mem_hom.1 (hX.end_ i hi2)
      exact ⟨this.1, this.2.1⟩
    · rename_i hi2
      have e : i = (P.take x).length := by omega
      have := Cat.mem_hom.1 (hmem _ (hCm k hk))
      rw [e, Nat.sub_self]
      exact ⟨this.1, this.2.1⟩
  · show NatK f g (List.take (x + 1) (((C.take k).foldl (stepN f g (natRun f g M r) x) (true, F, P)).2.2.set x (C.getD k 0)))
    have := (sqx_iff hs (by rw [List.length_set, (hst k (by omega)).len]; omega)).1 hq
    rw [hset k hk] at this ⊢
    exact natK_add hX (hmem _ (hCm k hk)) hs this
  · have h : ((((C.take k).foldl (stepN f g (natRun f g M r) x) (true, F, P)).2.2.set x (C.getD k 0)).take (x + 1)).getD i 0 = (P.take x ++ [C.getD k 0]).getD i 0 := by rw [hset k hk]
    rw [List.getD_eq_getElem?_getD, List.getElem?_take, if_pos (by omega), ← List.getD_eq_getElem?_getD, ap_getD] at h
    show (((C.take k).foldl (stepN f g (natRun f g M r) x) (true, F, P)).2.2.set x (C.getD k 0)).getD i 0 ∈ _
    rw [h]
    split
    · rename_i hi2
      exact hX.end_ i hi2
    · rename_i hi2
      have e : i = x := by omega
      rw [e, hl, Nat.sub_self]
      exact hCh2 _ (hCm k hk)
end Go.Cats
end
