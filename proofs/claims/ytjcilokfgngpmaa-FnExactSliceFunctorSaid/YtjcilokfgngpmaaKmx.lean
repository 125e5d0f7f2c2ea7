/- Several texts in one: M01, M02, M03, M04, M05, M06, M07, M08, M09, M10, M11, M12, N01. -/
section

/- Plain law, part 1: decisions, scans over ranges, categories, functors, set functors as data, and what it means to be one. -/
namespace Go.Cats

noncomputable def dec (P : Prop) : Bool := @decide P (Classical.propDecidable P)
theorem dec_t {P : Prop} (h : P) : dec P = true := by simp [dec, h]
theorem dec_f {P : Prop} (h : ¬ P) : dec P = false := by simp [dec, h]
theorem dec_iff {P : Prop} : dec P = true ↔ P := by simp [dec]
theorem dec_not {P : Prop} : dec P = false ↔ ¬ P := by simp [dec]
theorem dec_congr {P Q : Prop} (h : P ↔ Q) : dec P = dec Q := by
  by_cases p : P
  · rw [dec_t p, dec_t (h.1 p)]
  · rw [dec_f p, dec_f fun q => p (h.2 q)]
theorem dec_eq {P : Prop} [Decidable P] : dec P = decide P := by by_cases h : P <;> simp [dec, h]
/-! ### Scans -/
def scan {α : Type} (n : Nat) (p : Nat → Option α) : Option α := (List.range n).findSome? p
theorem scan_succ {α : Type} (n : Nat) (p : Nat → Option α) : scan (n + 1) p = (scan n p).or (p n) := by
  unfold scan
  rw [List.range_succ, List.findSome?_append]
  simp [List.findSome?]
  cases p n <;> rfl
theorem scan_next {α : Type} {n : Nat} {p : Nat → Option α} (h : scan n p = none) (k : p n = none) : scan (n + 1) p = none := by
  rw [scan_succ, h, k]; rfl
theorem scan_none {α : Type} {n : Nat} {p : Nat → Option α} : scan n p = none ↔ ∀ i, i < n → p i = none := by
  simp [scan, List.findSome?_eq_none_iff]
theorem scan_hit {α : Type} {n i : Nat} {p : Nat → Option α} {r : α} (hi : i < n) (h : scan i p = none) (k : p i = some r) : scan n p = some r := by
  induction n with
  | zero => omega
  | succ n ih =>
    rw [scan_succ]
    by_cases e : i = n
    · subst e; rw [h, k]; rfl
    · rw [ih (by omega)]; rfl
theorem scan_some {α : Type} {n : Nat} {p : Nat → Option α} {r : α} (h : scan n p = some r) : ∃ i, i < n ∧ p i = some r := by
  unfold scan at h
  obtain ⟨i, hi, k⟩ := List.exists_of_findSome?_eq_some h
  exact ⟨i, by simpa using hi, k⟩

theorem all_succ {P : Nat → Prop} {n : Nat} (h : ∀ i, i < n → P i) (k : P n) : ∀ i, i < n + 1 → P i := fun i hi => by
  by_cases e : i = n
  · subst e; exact k
  · exact h i (by omega)

/-- What the rounds of a range bring, one behind the other. -/
def coll {α : Type} (n : Nat) (f : Nat → List α) : List α := (List.range n).flatMap f
theorem coll_zero {α : Type} (f : Nat → List α) : coll 0 f = [] := rfl
theorem coll_succ {α : Type} (n : Nat) (f : Nat → List α) : coll (n + 1) f = coll n f ++ f n := by
  simp [coll, List.range_succ]
theorem mem_coll {α : Type} {n : Nat} {f : Nat → List α} {x : α} : x ∈ coll n f ↔ ∃ i, i < n ∧ x ∈ f i := by
  simp [coll, List.mem_flatMap]
theorem coll_length_le {α : Type} {n k : Nat} {f : Nat → List α} (h : ∀ i, i < n → (f i).length ≤ k) : (coll n f).length ≤ n * k := by
  induction n with
  | zero => simp [coll]
  | succ n ih =>
    rw [coll_succ, List.length_append, Nat.succ_mul]
    have := ih fun i hi => h i (by omega)
    have := h n (by omega)
    omega

theorem mem_getD {α : Type} {l : List α} {x d : α} (h : x ∈ l) : ∃ i, i < l.length ∧ l.getD i d = x := by
  obtain ⟨i, hi, e⟩ := List.getElem_of_mem h
  exact ⟨i, hi, by simp [List.getD_eq_getElem?_getD, hi, e]⟩

/-- All numbers of a list are in 0..n-1. -/
def Within (l : List Int) (n : Int) : Prop := ∀ i, i < l.length → 0 ≤ l.getD i 0 ∧ l.getD i 0 < n
/-! ### Categories -/
structure Cat where
  ob : Int
  fr : List Int
  to : List Int
  id : List Int
  co : List (List Int)

def Cat.nil : Cat := ⟨0, [], [], [], []⟩
abbrev Cat.F (c : Cat) (f : Int) : Int := c.fr.getD f.toNat 0
abbrev Cat.T (c : Cat) (f : Int) : Int := c.to.getD f.toNat 0
abbrev Cat.I (c : Cat) (x : Int) : Int := c.id.getD x.toNat 0
abbrev Cat.C (c : Cat) (f g : Int) : Int := (c.co.getD f.toNat []).getD g.toNat 0


/-- What is read is not too long. -/
structure CatB (c : Cat) : Prop where
  ob1 : -9223372036854775808 ≤ c.ob
  ob2 : c.ob ≤ 9223372036854775807
  fr : c.fr.length ≤ 1048576
  to : c.to.length ≤ 1048576
  id : c.id.length ≤ 1048576
  co : c.co.length ≤ 1048576
  row : ∀ f, f < c.co.length → (c.co.getD f []).length ≤ 1048576

/-- A row's entry is what it must be. -/
def Cat.Entry (c : Cat) (f g : Nat) : Prop :=
  (c.to.getD f 0 = c.fr.getD g 0 ∧ (0 ≤ c.C f g ∧ c.C f g < c.fr.length) ∧ c.F (c.C f g) = c.fr.getD f 0 ∧ c.T (c.C f g) = c.to.getD g 0) ∨
  (c.to.getD f 0 ≠ c.fr.getD g 0 ∧ c.C f g = -1)

structure Shape (c : Cat) : Prop where
  ob0 : 0 ≤ c.ob
  ob8 : c.ob ≤ 8
  m40 : c.fr.length ≤ 40
  tol : c.to.length = c.fr.length
  frw : Within c.fr c.ob
  tow : Within c.to c.ob
  idl : (c.id.length : Int) = c.ob
  idw : Within c.id c.fr.length
  col : c.co.length = c.fr.length
  ide : ∀ x, x < c.id.length → c.F (c.id.getD x 0) = x ∧ c.T (c.id.getD x 0) = x
  coe : ∀ f, f < c.fr.length → (c.co.getD f []).length = c.fr.length ∧ ∀ g, g < c.fr.length → c.Entry f g

/-- The first fault of a shape, of the kinds 1 and 2. -/
def Cat.fault1 (c : Cat) (f : Nat) : Option (Int × Int × Int × Int) :=
  if c.C (c.I (c.F f)) f ≠ f ∨ c.C f (c.I (c.T f)) ≠ f then some (1, f, 0, 0) else none
def Cat.fault2 (c : Cat) (f g h : Nat) : Option (Int × Int × Int × Int) :=
  if 0 ≤ c.C g h ∧ c.C (c.C f g) h ≠ c.C f (c.C g h) then some (2, f, g, h) else none
def Cat.fault2g (c : Cat) (f g : Nat) : Option (Int × Int × Int × Int) :=
  if c.C f g < 0 then none else scan c.fr.length fun h => c.fault2 f g h
def Cat.fault (c : Cat) : Int × Int × Int × Int :=
  ((scan c.fr.length c.fault1).or (scan c.fr.length fun f => scan c.fr.length fun g => c.fault2g f g)).getD (0, 0, 0, 0)

structure IsCat (c : Cat) : Prop extends Shape c where
  unl : ∀ f : Nat, f < c.fr.length → c.C (c.I (c.F f)) f = f
  unr : ∀ f : Nat, f < c.fr.length → c.C f (c.I (c.T f)) = f
  ass : ∀ f g h : Nat, f < c.fr.length → g < c.fr.length → h < c.fr.length → c.T f = c.F g → c.T g = c.F h → c.C (c.C f g) h = c.C f (c.C g h)

theorem Shape.neg {c : Cat} (s : Shape c) {f g : Nat} (hf : f < c.fr.length) (hg : g < c.fr.length) : c.C f g < 0 ↔ c.T f ≠ c.F g := by
  have := (s.coe f hf).2 g hg
  unfold Cat.Entry at this
  simp only [Cat.T, Cat.F, Int.toNat_natCast]
  rcases this with ⟨h1, h2, h3⟩ | ⟨h1, h2⟩
  · constructor
    · intro h; omega
    · intro h; exact absurd h1 h
  · constructor
    · intro _; exact h1
    · intro _; omega

theorem Shape.fault_zero {c : Cat} (s : Shape c) : c.fault.1 = 0 ↔ IsCat c := by
  unfold Cat.fault
  constructor
  · intro h
    cases h1 : scan c.fr.length c.fault1 with
    | some r =>
      obtain ⟨i, hi, k⟩ := scan_some h1
      unfold Cat.fault1 at k
      split at k
      · simp at k; subst k; simp [h1] at h
      · cases k
    | none =>
      rw [h1] at h
      cases h2 : (scan c.fr.length fun f => scan c.fr.length fun g => c.fault2g f g) with
      | some r =>
        obtain ⟨i, hi, k⟩ := scan_some h2
        obtain ⟨j, hj, k⟩ := scan_some k
        unfold Cat.fault2g at k
        split at k
        · cases k
        · obtain ⟨l, hl, k⟩ := scan_some k
          unfold Cat.fault2 at k
          split at k
          · simp at k; subst k; simp [h2] at h
          · cases k
      | none =>
        rw [scan_none] at h1 h2
        refine ⟨s, fun f hf => ?_, fun f hf => ?_, fun f g h hf hg hh e1 e2 => ?_⟩
        · have := h1 f hf
          unfold Cat.fault1 at this
          split at this
          · cases this
          · rename_i n; exact Classical.byContradiction fun q => n (.inl q)
        · have := h1 f hf
          unfold Cat.fault1 at this
          split at this
          · cases this
          · rename_i n; exact Classical.byContradiction fun q => n (.inr q)
        · have := h2 f hf
          rw [scan_none] at this
          have := this g hg
          unfold Cat.fault2g at this
          rw [if_neg (by rw [s.neg hf hg]; exact fun q => q e1), scan_none] at this
          have := this h hh
          unfold Cat.fault2 at this
          split at this
          · cases this
          · rename_i n
            refine Classical.byContradiction fun q => n ⟨?_, q⟩
            have := (s.neg hg hh)
            exact Int.not_lt.1 fun q => this.1 q e2
  · intro h
    have h1 : scan c.fr.length c.fault1 = none := scan_none.2 fun f hf => by
      unfold Cat.fault1
      rw [if_neg]
      rintro (q | q)
      · exact q (h.unl f hf)
      · exact q (h.unr f hf)
    have h2 : (scan c.fr.length fun f => scan c.fr.length fun g => c.fault2g f g) = none := scan_none.2 fun f hf => scan_none.2 fun g hg => by
      unfold Cat.fault2g
      split
      · rfl
      · rename_i n1
        refine scan_none.2 fun h' hh => ?_
        unfold Cat.fault2
        rw [if_neg]
        rintro ⟨q1, q2⟩
        have e1 := s.neg hf hg
        have e2 := s.neg hg hh
        exact q2 (h.ass f g h' hf hg hh (Classical.byContradiction fun q => n1 (e1.2 q)) (Classical.byContradiction fun q => by have := e2.2 q; omega))
    rw [h1, h2]; rfl

theorem Cat.fault1_t {c : Cat} {f : Nat} (h : c.C (c.I (c.F f)) f ≠ f ∨ c.C f (c.I (c.T f)) ≠ f) : c.fault1 f = some ((1 : Int), (f : Int), (0 : Int), (0 : Int)) := if_pos h
theorem Cat.fault1_f {c : Cat} {f : Nat} (h : c.C (c.I (c.F f)) f = f) (k : c.C f (c.I (c.T f)) = f) : c.fault1 f = none := if_neg fun q => q.elim (fun q => q h) fun q => q k
theorem Cat.fault2_t {c : Cat} {f g h : Nat} (a : 0 ≤ c.C g h) (b : c.C (c.C f g) h ≠ c.C f (c.C g h)) : c.fault2 f g h = some ((2 : Int), (f : Int), (g : Int), (h : Int)) := if_pos ⟨a, b⟩
theorem Cat.fault2_f {c : Cat} {f g h : Nat} (a : 0 ≤ c.C g h → c.C (c.C f g) h = c.C f (c.C g h)) : c.fault2 f g h = none := if_neg fun q => q.2 (a q.1)
theorem Cat.fault2g_f {c : Cat} {f g : Nat} (a : c.C f g < 0) : c.fault2g f g = none := if_pos a
theorem Cat.fault2g_t {c : Cat} {f g : Nat} (a : ¬ c.C f g < 0) : c.fault2g f g = scan c.fr.length fun h => c.fault2 f g h := if_neg a
theorem Cat.fault_1 {c : Cat} {f : Nat} {r : Int × Int × Int × Int} (h : scan f c.fault1 = none) (hf : f < c.fr.length) (k : c.fault1 f = some r) : c.fault = r := by
  unfold Cat.fault
  rw [scan_hit hf h k]; rfl
theorem Cat.fault_2 {c : Cat} {f g h : Nat} {r : Int × Int × Int × Int} (a : scan c.fr.length c.fault1 = none) (h1 : scan f (fun f => scan c.fr.length fun g => c.fault2g f g) = none) (hf : f < c.fr.length)
    (h2 : scan g (fun g => c.fault2g f g) = none) (hg : g < c.fr.length) (n : ¬ c.C f g < 0) (h3 : scan h (fun h => c.fault2 f g h) = none) (hh : h < c.fr.length) (k : c.fault2 f g h = some r) : c.fault = r := by
  unfold Cat.fault
  rw [a, scan_hit hf h1 (scan_hit hg h2 (by rw [Cat.fault2g_t n]; exact scan_hit hh h3 k))]; rfl
theorem Cat.fault_0 {c : Cat} (a : scan c.fr.length c.fault1 = none) (h1 : scan c.fr.length (fun f => scan c.fr.length fun g => c.fault2g f g) = none) : c.fault = (0, 0, 0, 0) := by
  unfold Cat.fault
  rw [a, h1]; rfl

/-- The arrows between two objects. -/
def Cat.homI (c : Cat) (x y : Int) (i : Nat) : List Int := coll i fun f => if c.fr.getD f 0 = x ∧ c.to.getD f 0 = y then [(f : Int)] else []
def Cat.hom (c : Cat) (x y : Int) : List Int := c.homI x y c.fr.length
theorem Cat.homI_zero (c : Cat) (x y : Int) : c.homI x y 0 = [] := rfl
theorem Cat.homI_succ (c : Cat) (x y : Int) (i : Nat) : c.homI x y (i + 1) = c.homI x y i ++ if c.fr.getD i 0 = x ∧ c.to.getD i 0 = y then [(i : Int)] else [] := coll_succ _ _
theorem Cat.homI_len (c : Cat) (x y : Int) (i : Nat) : (c.homI x y i).length ≤ i := by
  have := coll_length_le (n := i) (k := 1) (f := fun f => if c.fr.getD f 0 = x ∧ c.to.getD f 0 = y then [(f : Int)] else []) fun j _ => by split <;> simp
  simpa [Cat.homI] using this

theorem Cat.mem_hom {c : Cat} {x y f : Int} : f ∈ c.hom x y ↔ 0 ≤ f ∧ f < c.fr.length ∧ c.F f = x ∧ c.T f = y := by
  unfold Cat.hom Cat.homI
  rw [mem_coll]
  constructor
  · rintro ⟨i, hi, h⟩
    split at h
    · rename_i e; simp at h; subst h
      simp only [Cat.F, Cat.T, Int.toNat_natCast]
      exact ⟨by omega, by omega, e.1, e.2⟩
    · simp at h
  · rintro ⟨h1, h2, h3, h4⟩
    refine ⟨f.toNat, by omega, ?_⟩
    rw [if_pos ⟨h3, h4⟩]
    simp; omega

/-! ### Functors -/
structure Fun where
  src : Cat
  tgt : Cat
  obs : List Int
  ars : List Int

def Fun.nil : Fun := ⟨.nil, .nil, [], []⟩
abbrev Fun.O (f : Fun) (x : Int) : Int := f.obs.getD x.toNat 0
abbrev Fun.A (f : Fun) (a : Int) : Int := f.ars.getD a.toNat 0

/-- What 'fits' asks of a functor between categories. -/
structure Fits (f : Fun) : Prop where
  obl : (f.obs.length : Int) = f.src.ob
  arl : f.ars.length = f.src.fr.length
  obw : Within f.obs f.tgt.ob
  arw : Within f.ars f.tgt.fr.length
  endf : ∀ a, a < f.ars.length → f.tgt.F (f.ars.getD a 0) = f.O (f.src.F a) ∧ f.tgt.T (f.ars.getD a 0) = f.O (f.src.T a)
  unit : ∀ x, x < f.src.id.length → f.A (f.src.id.getD x 0) = f.tgt.I (f.O x)
  comp : ∀ a b : Nat, a < f.src.fr.length → b < f.src.fr.length → 0 ≤ f.src.C a b → f.A (f.src.C a b) = f.tgt.C (f.A a) (f.A b)

structure IsFun (f : Fun) : Prop where
  src : IsCat f.src
  tgt : IsCat f.tgt
  fits : Fits f

/-! ### Set functors -/
structure SF where
  shape : Cat
  sizes : List Int
  acts : List (List Int)

structure SM where
  src : SF
  tgt : SF
  parts : List (List Int)

def SF.nil : SF := ⟨.nil, [], []⟩
def SM.nil : SM := ⟨.nil, .nil, []⟩

end Go.Cats
end

section

/- Plain law, part 2: small helps for walks. -/
namespace Go.Cats
theorem scan_end {α : Type} {p : Nat → Option α} {i n : Nat} (h : scan i p = none) (a : i ≤ n) (b : n ≤ i) : scan n p = none := by
  have : i = n := by omega
  rw [← this]; exact h
theorem take_snoc {α : Type} {a b : List α} {d : α} {i : Nat} (h : a.take i = b.take i) (ha : i < a.length) (hb : i < b.length) (e : a.getD i d = b.getD i d) : a.take (i + 1) = b.take (i + 1) := by
  have e1 : a.getD i d = a[i] := by simp [List.getD_eq_getElem?_getD, ha]
  have e2 : b.getD i d = b[i] := by simp [List.getD_eq_getElem?_getD, hb]
  rw [e1, e2] at e
  rw [List.take_succ_eq_append_getElem ha, List.take_succ_eq_append_getElem hb, h, e]
theorem take_end {α : Type} {a b : List α} {i : Nat} (h : a.take i = b.take i) (ha : a.length ≤ i) (hb : b.length ≤ i) : a = b := by
  rwa [List.take_of_length_le ha, List.take_of_length_le hb] at h
theorem take_getD {α : Type} {a : List α} {d : α} {i : Nat} (ha : i < a.length) : a.take (i + 1) = a.take i ++ [a.getD i d] := by
  rw [List.take_succ_eq_append_getElem ha]
  simp [List.getD_eq_getElem?_getD, ha]
theorem Cat.eq {c d : Cat} (h1 : c.ob = d.ob) (h2 : c.fr = d.fr) (h3 : c.to = d.to) (h4 : c.id = d.id) (h5 : c.co = d.co) : c = d := by
  cases c; cases d; simp_all
end Go.Cats
end

section

/- Plain law, part 3: set functors and natural maps. -/
namespace Go.Cats

/-- What is read is not too long. -/
structure SFB (f : SF) : Prop where
  shape : CatB f.shape
  sizes : f.sizes.length ≤ 1048576
  acts : f.acts.length ≤ 1048576
  row : ∀ a, a < f.acts.length → (f.acts.getD a []).length ≤ 1048576

abbrev SF.act (f : SF) (a : Nat) : List Int := f.acts.getD a []

structure SFShape (f : SF) : Prop where
  cat : IsCat f.shape
  szl : (f.sizes.length : Int) = f.shape.ob
  szw : Within f.sizes 17
  acl : f.acts.length = f.shape.fr.length
  act : ∀ a, a < f.acts.length → ((f.acts.getD a []).length : Int) = f.sizes.getD (f.shape.fr.getD a 0).toNat 0 ∧ Within (f.acts.getD a []) (f.sizes.getD (f.shape.to.getD a 0).toNat 0)

def SF.fault1 (f : SF) (x e : Nat) : Option (Int × Int × Int × Int) :=
  if (f.acts.getD (f.shape.id.getD x 0).toNat []).getD e 0 ≠ e then some ((1 : Int), (x : Int), (e : Int), (0 : Int)) else none
def SF.fault1x (f : SF) (x : Nat) : Option (Int × Int × Int × Int) := scan (f.acts.getD (f.shape.id.getD x 0).toNat []).length fun e => f.fault1 x e
def SF.fault2 (f : SF) (a b e : Nat) : Option (Int × Int × Int × Int) :=
  if (f.acts.getD ((f.shape.co.getD a []).getD b 0).toNat []).getD e 0 ≠ (f.acts.getD b []).getD ((f.acts.getD a []).getD e 0).toNat 0 then some ((2 : Int), (a : Int), (b : Int), (e : Int)) else none
def SF.fault2b (f : SF) (a b : Nat) : Option (Int × Int × Int × Int) :=
  if (f.shape.co.getD a []).getD b 0 < 0 then none else scan (f.acts.getD a []).length fun e => f.fault2 a b e
def SF.fault2a (f : SF) (a : Nat) : Option (Int × Int × Int × Int) := scan (f.shape.co.getD a []).length fun b => f.fault2b a b
def SF.fault (f : SF) : Int × Int × Int × Int :=
  ((scan f.shape.id.length f.fault1x).or (scan f.shape.co.length f.fault2a)).getD (0, 0, 0, 0)

structure IsSF (f : SF) : Prop extends SFShape f where
  unit : ∀ x, x < f.shape.id.length → ∀ e, e < (f.acts.getD (f.shape.id.getD x 0).toNat []).length → (f.acts.getD (f.shape.id.getD x 0).toNat []).getD e 0 = e
  comp : ∀ a b, a < f.shape.fr.length → b < f.shape.fr.length → 0 ≤ (f.shape.co.getD a []).getD b 0 → ∀ e, e < (f.acts.getD a []).length →
    (f.acts.getD ((f.shape.co.getD a []).getD b 0).toNat []).getD e 0 = (f.acts.getD b []).getD ((f.acts.getD a []).getD e 0).toNat 0

theorem SF.fault1_t {f : SF} {x e : Nat} (h : (f.acts.getD (f.shape.id.getD x 0).toNat []).getD e 0 ≠ e) : f.fault1 x e = some ((1 : Int), (x : Int), (e : Int), (0 : Int)) := if_pos h
theorem SF.fault1_f {f : SF} {x e : Nat} (h : (f.acts.getD (f.shape.id.getD x 0).toNat []).getD e 0 = e) : f.fault1 x e = none := if_neg fun q => q h
theorem SF.fault2_t {f : SF} {a b e : Nat} (h : (f.acts.getD ((f.shape.co.getD a []).getD b 0).toNat []).getD e 0 ≠ (f.acts.getD b []).getD ((f.acts.getD a []).getD e 0).toNat 0) : f.fault2 a b e = some ((2 : Int), (a : Int), (b : Int), (e : Int)) := if_pos h
theorem SF.fault2_f {f : SF} {a b e : Nat} (h : (f.acts.getD ((f.shape.co.getD a []).getD b 0).toNat []).getD e 0 = (f.acts.getD b []).getD ((f.acts.getD a []).getD e 0).toNat 0) : f.fault2 a b e = none := if_neg fun q => q h
theorem SF.fault2b_f {f : SF} {a b : Nat} (h : (f.shape.co.getD a []).getD b 0 < 0) : f.fault2b a b = none := if_pos h
theorem SF.fault2b_t {f : SF} {a b : Nat} (h : ¬ (f.shape.co.getD a []).getD b 0 < 0) : f.fault2b a b = scan (f.acts.getD a []).length fun e => f.fault2 a b e := if_neg h
theorem SF.fault_1 {f : SF} {x e : Nat} {r : Int × Int × Int × Int} (h : scan x f.fault1x = none) (hx : x < f.shape.id.length) (h2 : (scan e fun e => f.fault1 x e) = none) (he : e < (f.acts.getD (f.shape.id.getD x 0).toNat []).length) (k : f.fault1 x e = some r) : f.fault = r := by
  unfold SF.fault
  rw [scan_hit hx h (show f.fault1x x = some r from scan_hit he h2 k)]; rfl
theorem SF.fault_2 {f : SF} {a b e : Nat} {r : Int × Int × Int × Int} (h0 : scan f.shape.id.length f.fault1x = none) (h1 : scan a f.fault2a = none) (ha : a < f.shape.co.length) (h2 : (scan b fun b => f.fault2b a b) = none) (hb : b < (f.shape.co.getD a []).length) (n : ¬ (f.shape.co.getD a []).getD b 0 < 0)
    (h3 : (scan e fun e => f.fault2 a b e) = none) (he : e < (f.acts.getD a []).length) (k : f.fault2 a b e = some r) : f.fault = r := by
  unfold SF.fault
  rw [h0, scan_hit ha h1 (show f.fault2a a = some r from scan_hit hb h2 (by rw [SF.fault2b_t n]; exact scan_hit he h3 k))]; rfl
theorem SF.fault_0 {f : SF} (h0 : scan f.shape.id.length f.fault1x = none) (h1 : scan f.shape.co.length f.fault2a = none) : f.fault = (0, 0, 0, 0) := by
  unfold SF.fault
  rw [h0, h1]; rfl

theorem SFShape.fault_zero {f : SF} (s : SFShape f) : f.fault.1 = 0 ↔ IsSF f := by
  have hco := s.cat.col
  constructor
  · intro h
    unfold SF.fault at h
    cases h1 : scan f.shape.id.length f.fault1x with
    | some r =>
      obtain ⟨x, hx, k⟩ := scan_some h1
      obtain ⟨e, he, k⟩ := scan_some k
      unfold SF.fault1 at k
      split at k
      · simp at k; subst k; simp [h1] at h
      · cases k
    | none =>
      rw [h1] at h
      cases h2 : scan f.shape.co.length f.fault2a with
      | some r =>
        obtain ⟨a, ha, k⟩ := scan_some h2
        obtain ⟨b, hb, k⟩ := scan_some k
        unfold SF.fault2b at k
        split at k
        · cases k
        · obtain ⟨e, he, k⟩ := scan_some k
          unfold SF.fault2 at k
          split at k
          · simp at k; subst k; simp [h2] at h
          · cases k
      | none =>
        refine ⟨s, fun x hx e he => ?_, fun a b ha hb hn e he => ?_⟩
        · have k := scan_none.1 (scan_none.1 h1 x hx) e he
          unfold SF.fault1 at k
          split at k
          · cases k
          · rename_i n; exact Classical.byContradiction n
        · have k := scan_none.1 (scan_none.1 h2 a (by omega)) b (by have := (s.cat.coe a ha).1; omega)
          simp only [SF.fault2b] at k
          rw [if_neg (by omega)] at k
          have k := scan_none.1 k e he
          unfold SF.fault2 at k
          split at k
          · cases k
          · rename_i n; exact Classical.byContradiction n
  · intro h
    rw [SF.fault_0]
    · exact scan_none.2 fun x hx => scan_none.2 fun e he => SF.fault1_f (h.unit x hx e he)
    · refine scan_none.2 fun a ha => scan_none.2 fun b hb => ?_
      by_cases n : (f.shape.co.getD a []).getD b 0 < 0
      · exact SF.fault2b_f n
      · rw [SF.fault2b_t n]
        exact scan_none.2 fun e he => SF.fault2_f (h.comp a b (by omega) (by have := (s.cat.coe a (by omega)).1; omega) (by omega) e he)

/-! ### Natural maps -/
structure SMB (m : SM) : Prop where
  src : SFB m.src
  tgt : SFB m.tgt
  parts : m.parts.length ≤ 1048576
  row : ∀ x, x < m.parts.length → (m.parts.getD x []).length ≤ 1048576

structure SMFits (m : SM) : Prop where
  len : m.parts.length = m.src.sizes.length
  map : ∀ x, x < m.parts.length → ((m.parts.getD x []).length : Int) = m.src.sizes.getD x 0 ∧ Within (m.parts.getD x []) (m.tgt.sizes.getD x 0)
structure SMShape (m : SM) : Prop where
  src : IsSF m.src
  tgt : IsSF m.tgt
  same : m.src.shape = m.tgt.shape
  fits : SMFits m

structure IsSM (m : SM) : Prop extends SMShape m where
  nat : ∀ a, a < m.src.shape.fr.length → ∀ e, e < (m.src.acts.getD a []).length →
    (m.parts.getD (m.src.shape.to.getD a 0).toNat []).getD ((m.src.acts.getD a []).getD e 0).toNat 0 = (m.tgt.acts.getD a []).getD ((m.parts.getD (m.src.shape.fr.getD a 0).toNat []).getD e 0).toNat 0
theorem SF.eq {f g : SF} (h1 : f.shape = g.shape) (h2 : f.sizes = g.sizes) (h3 : f.acts = g.acts) : f = g := by
  cases f; cases g; simp_all
theorem SM.eq {f g : SM} (h1 : f.src = g.src) (h2 : f.tgt = g.tgt) (h3 : f.parts = g.parts) : f = g := by
  cases f; cases g; simp_all
end Go.Cats
end

section

/- Plain law, part 4: places in lists, representable set functors. -/
namespace Go.Cats

theorem Cat.hom_len (c : Cat) (x y : Int) : (c.hom x y).length ≤ c.fr.length := c.homI_len x y _
end Go.Cats
end

section

/- Plain law, part 5: the representable set functor and the element of a natural map. -/
namespace Go.Cats

end Go.Cats
end

section

/- Plain law, part 6: the map of an element. -/
namespace Go.Cats

end Go.Cats
end

section

/- Plain law, part 7: composites in shapes; functors. -/
namespace Go.Cats

theorem Shape.comp_lt {c : Cat} (s : Shape c) {f g : Nat} (hf : f < c.fr.length) (hg : g < c.fr.length) (h : 0 ≤ (c.co.getD f []).getD g 0) : (c.co.getD f []).getD g 0 < c.fr.length ∧ c.to.getD f 0 = c.fr.getD g 0 := by
  rcases (s.coe f hf).2 g hg with ⟨h1, h2, _⟩ | ⟨_, h2⟩
  · have e : c.C f g = (c.co.getD f []).getD g 0 := by simp [Cat.C]
    rw [e] at h2
    exact ⟨h2.2, h1⟩
  · have e : c.C f g = (c.co.getD f []).getD g 0 := by simp [Cat.C]
    rw [e] at h2
    omega
theorem Shape.comp_nn {c : Cat} (s : Shape c) {f g : Nat} (hf : f < c.fr.length) (hg : g < c.fr.length) (h : c.to.getD f 0 = c.fr.getD g 0) : 0 ≤ (c.co.getD f []).getD g 0 := by
  rcases (s.coe f hf).2 g hg with ⟨_, h2, _⟩ | ⟨h2, _⟩
  · have e : c.C f g = (c.co.getD f []).getD g 0 := by simp [Cat.C]
    rw [e] at h2; exact h2.1
  · exact absurd h h2
theorem Shape.comp_row {c : Cat} (s : Shape c) {f : Int} (h0 : 0 ≤ f) (h1 : f < c.fr.length) : (c.co.getD f.toNat []).length = c.fr.length := (s.coe f.toNat (by omega)).1
end Go.Cats
end

section

/- Plain law, part 8: the objects of comma categories. -/
set_option linter.unusedSimpArgs false
set_option linter.unusedVariables false
namespace Go.Cats

/-- The arrows from an image to an image. -/
def cH (f g : Fun) (a b : Nat) : List Int := f.tgt.hom (f.obs.getD a 0) (g.obs.getD b 0)
/-- The triples up to a place. -/
def cO (f g : Fun) (a b k : Nat) : List (List Int) :=
  (coll a fun a => coll g.obs.length fun b => (cH f g a b).map fun h => [(a : Int), (b : Int), h]) ++ (coll b fun b => (cH f g a b).map fun h => [(a : Int), (b : Int), h]) ++ ((cH f g a b).take k).map fun h => [(a : Int), (b : Int), h]
def cObj (f g : Fun) : List (List Int) := cO f g f.obs.length 0 0
theorem cO_zero (f g : Fun) : cO f g 0 0 0 = [] := by simp [cO, coll]
theorem cO_k {f g : Fun} {a b k : Nat} (h : k < (cH f g a b).length) : cO f g a b (k + 1) = cO f g a b k ++ [[(a : Int), (b : Int), (cH f g a b).getD k 0]] := by
  unfold cO
  have e : (cH f g a b).getD k 0 = (cH f g a b)[k] := by simp [List.getD_eq_getElem?_getD, h]
  rw [List.take_succ_eq_append_getElem h, List.map_append, e]
  simp only [List.append_assoc]; rfl
theorem cO_b {f g : Fun} {a b k : Nat} (h : (cH f g a b).length ≤ k) : cO f g a (b + 1) 0 = cO f g a b k := by
  unfold cO
  rw [List.take_of_length_le h, coll_succ, List.take_zero]
  simp only [List.append_assoc, List.map_nil, List.append_nil]
theorem cO_a {f g : Fun} {a : Nat} : cO f g (a + 1) 0 0 = cO f g a g.obs.length 0 := by
  unfold cO
  rw [coll_succ, List.take_zero, List.take_zero, coll_zero]
  simp only [List.append_assoc, List.map_nil, List.append_nil]
theorem cH_len (f g : Fun) (a b : Nat) : (cH f g a b).length ≤ f.tgt.fr.length := Cat.hom_len _ _ _
theorem cO_len (f g : Fun) (a b k n : Nat) (hn : f.tgt.fr.length ≤ n) : (cO f g a b k).length ≤ a * (g.obs.length * n) + b * n + n := by
  unfold cO
  have hc : ∀ a b, ((cH f g a b).map fun h => [(a : Int), (b : Int), h]).length ≤ n := fun a b => by
    rw [List.length_map]; exact Nat.le_trans (cH_len f g a b) hn
  have h1 := coll_length_le (n := a) (k := g.obs.length * n) (f := fun a => coll g.obs.length fun b => (cH f g a b).map fun h => [(a : Int), (b : Int), h]) fun i _ => coll_length_le fun j _ => hc i j
  have h2 := coll_length_le (n := b) (k := n) (f := fun b => (cH f g a b).map fun h => [(a : Int), (b : Int), h]) fun j _ => hc a j
  have h3 : (((cH f g a b).take k).map fun h => [(a : Int), (b : Int), h]).length ≤ n := by
    rw [List.length_map, List.length_take]; have := cH_len f g a b; omega
  simp only [List.length_append]
  omega

/-- A column of a list of rows. -/
def colN (l : List (List Int)) (k n : Nat) : List Int := (l.take n).map fun r => r.getD k 0
theorem colN_zero (l : List (List Int)) (k : Nat) : colN l k 0 = [] := rfl
theorem colN_succ {l : List (List Int)} {k n : Nat} (h : n < l.length) : colN l k (n + 1) = colN l k n ++ [(l.getD n []).getD k 0] := by
  unfold colN
  have e : l.getD n [] = l[n] := by simp [List.getD_eq_getElem?_getD, h]
  rw [List.take_succ_eq_append_getElem h, List.map_append, e]; rfl
theorem colN_len (l : List (List Int)) (k n : Nat) : (colN l k n).length = min n l.length := by simp [colN]
end Go.Cats
end

section

/- Plain law, part 9: the arrows of comma categories. -/
set_option linter.unusedSimpArgs false
set_option linter.unusedVariables false
namespace Go.Cats

/-- The entry k of row p of a list of rows. -/
abbrev rw' (O : List (List Int)) (p k : Nat) : Int := (O.getD p []).getD k 0
/-- The arrows between the first (second) parts of two objects. -/
def cU (f : Fun) (k : Nat) (O : List (List Int)) (s t : Nat) : List Int := f.src.hom (rw' O s k) (rw' O t k)
/-- An arrow, if it is one. -/
def cC (f e : Fun) (O : List (List Int)) (s t : Nat) (u v : Int) : Prop := f.tgt.C (f.A u) (rw' O t 2) = f.tgt.C (rw' O s 2) (e.A v)
open Classical in
noncomputable def cE (f e : Fun) (O : List (List Int)) (s t i j : Nat) : List (List Int) :=
  if cC f e O s t ((cU f 0 O s t).getD i 0) ((cU e 1 O s t).getD j 0) then [[(s : Int), (t : Int), (cU f 0 O s t).getD i 0, (cU e 1 O s t).getD j 0]] else []
noncomputable def cRow (f e : Fun) (O : List (List Int)) (s t i : Nat) : List (List Int) := coll (cU e 1 O s t).length fun j => cE f e O s t i j
noncomputable def cCell (f e : Fun) (O : List (List Int)) (s t : Nat) : List (List Int) := coll (cU f 0 O s t).length fun i => cRow f e O s t i
/-- The arrows up to a place. -/
noncomputable def cA (f e : Fun) (O : List (List Int)) (s t i j : Nat) : List (List Int) :=
  (coll s fun s => coll O.length fun t => cCell f e O s t) ++ (coll t fun t => cCell f e O s t) ++ (coll i fun i => cRow f e O s t i) ++ (coll j fun j => cE f e O s t i j)
noncomputable def cArr (f e : Fun) (O : List (List Int)) : List (List Int) := cA f e O O.length 0 0 0
variable {f e : Fun} {O : List (List Int)} {s t i j : Nat}
theorem cA_zero : cA f e O 0 0 0 0 = [] := by simp [cA, coll]
theorem cA_t (h : cC f e O s t ((cU f 0 O s t).getD i 0) ((cU e 1 O s t).getD j 0)) : cA f e O s t i (j + 1) = cA f e O s t i j ++ [[(s : Int), (t : Int), (cU f 0 O s t).getD i 0, (cU e 1 O s t).getD j 0]] := by
  unfold cA
  rw [coll_succ, cE, if_pos h]
  simp only [List.append_assoc]
theorem cA_f (h : ¬ cC f e O s t ((cU f 0 O s t).getD i 0) ((cU e 1 O s t).getD j 0)) : cA f e O s t i (j + 1) = cA f e O s t i j := by
  unfold cA
  rw [coll_succ, cE, if_neg h, List.append_nil]
theorem cA_i (h : j = (cU e 1 O s t).length) : cA f e O s t (i + 1) 0 = cA f e O s t i j := by
  unfold cA
  rw [coll_succ, coll_zero, h]
  simp only [List.append_assoc, List.append_nil]; rfl
theorem cA_tt (h : i = (cU f 0 O s t).length) : cA f e O s (t + 1) 0 0 = cA f e O s t i 0 := by
  unfold cA
  rw [coll_succ, coll_zero, coll_zero, coll_zero, h]
  simp only [List.append_assoc, List.append_nil]; rfl
theorem cA_s (h : t = O.length) : cA f e O (s + 1) 0 0 0 = cA f e O s t 0 0 := by
  unfold cA
  rw [coll_succ, coll_zero, coll_zero, coll_zero, coll_zero, coll_zero, h]
  simp only [List.append_assoc, List.append_nil]
theorem cE_len (f e : Fun) (O : List (List Int)) (s t i j : Nat) : (cE f e O s t i j).length ≤ 1 := by unfold cE; split <;> simp
theorem cU_len (f : Fun) (k : Nat) (O : List (List Int)) (s t : Nat) : (cU f k O s t).length ≤ f.src.fr.length := Cat.hom_len _ _ _
theorem cRow_len (f e : Fun) (O : List (List Int)) (s t i : Nat) (h : e.src.fr.length ≤ 40) : (cRow f e O s t i).length ≤ 40 := by
  have := coll_length_le (n := (cU e 1 O s t).length) (k := 1) (f := fun j => cE f e O s t i j) fun j _ => cE_len ..
  have := cU_len e 1 O s t
  unfold cRow; omega
theorem cCell_len (f e : Fun) (O : List (List Int)) (s t : Nat) (h1 : f.src.fr.length ≤ 40) (h : e.src.fr.length ≤ 40) : (cCell f e O s t).length ≤ 1600 := by
  have := coll_length_le (n := (cU f 0 O s t).length) (k := 40) (f := fun i => cRow f e O s t i) fun i _ => cRow_len f e O s t i h
  have := cU_len f 0 O s t
  unfold cCell; omega
theorem cA_len (h1 : f.src.fr.length ≤ 40) (h : e.src.fr.length ≤ 40) (hO : O.length ≤ 8) : (cA f e O s t i j).length ≤ s * 12800 + t * 1600 + i * 40 + j := by
  have a1 := coll_length_le (n := s) (k := 12800) (f := fun s => coll O.length fun t => cCell f e O s t) fun s _ => by
    have := coll_length_le (n := O.length) (k := 1600) (f := fun t => cCell f e O s t) fun t _ => cCell_len f e O s t h1 h
    omega
  have a2 := coll_length_le (n := t) (k := 1600) (f := fun t => cCell f e O s t) fun t _ => cCell_len f e O s t h1 h
  have a3 := coll_length_le (n := i) (k := 40) (f := fun i => cRow f e O s t i) fun i _ => cRow_len f e O s t i h
  have a4 := coll_length_le (n := j) (k := 1) (f := fun j => cE f e O s t i j) fun j _ => cE_len ..
  unfold cA
  simp only [List.length_append]
  omega

/-- What is an object of the comma category. -/
structure ObjR (f e : Fun) (r : List Int) : Prop where
  len : r.length = 3
  lo : 0 ≤ r.getD 0 0
  lh : r.getD 0 0 < f.src.ob
  ro : 0 ≤ r.getD 1 0
  rh : r.getD 1 0 < e.src.ob
  ao : 0 ≤ r.getD 2 0
  ah : r.getD 2 0 < f.tgt.fr.length
  frm : f.tgt.F (r.getD 2 0) = f.O (r.getD 0 0)
  to : f.tgt.T (r.getD 2 0) = e.O (r.getD 1 0)
def ObjOK (f e : Fun) (O : List (List Int)) : Prop := ∀ p, p < O.length → ObjR f e (O.getD p [])
theorem mem_cU {k : Nat} {u : Int} : u ∈ cU f k O s t ↔ 0 ≤ u ∧ u < f.src.fr.length ∧ f.src.F u = rw' O s k ∧ f.src.T u = rw' O t k := Cat.mem_hom
theorem cU_at {k i : Nat} (h : i < (cU f k O s t).length) : 0 ≤ (cU f k O s t).getD i 0 ∧ (cU f k O s t).getD i 0 < f.src.fr.length ∧ f.src.F ((cU f k O s t).getD i 0) = rw' O s k ∧ f.src.T ((cU f k O s t).getD i 0) = rw' O t k := by
  refine mem_cU.1 ?_
  rw [List.getD_eq_getElem?_getD, List.getElem?_eq_getElem h, Option.getD_some]
  exact List.getElem_mem h
theorem cObj_ok (hf : IsFun f) (he : IsFun e) (hT : f.tgt = e.tgt) : ObjOK f e (cObj f e) := fun p hp => by
  have h1 : (cObj f e).getD p [] ∈ cObj f e := by
    rw [List.getD_eq_getElem?_getD, List.getElem?_eq_getElem hp, Option.getD_some]
    exact List.getElem_mem hp
  generalize (cObj f e).getD p [] = r at h1
  unfold cObj cO at h1
  simp only [coll_zero, List.take_zero, List.map_nil, List.append_nil, List.mem_append, mem_coll, List.mem_map, List.not_mem_nil, or_false] at h1
  obtain ⟨a, ha, b, hb, h, hh, rfl⟩ := h1
  have h2 := Cat.mem_hom.1 hh
  have f1 := hf.fits.obl
  have e1 := he.fits.obl
  refine ⟨rfl, ?_, ?_, ?_, ?_, ?_, ?_, ?_, ?_⟩ <;> simp <;> (first | omega | simpa using h2.2.2.1 | simpa using h2.2.2.2)
/-- The place of a list in a list of lists. -/
def fndO (l : List (List Int)) (r : List Int) (i : Nat) : Option Int := if l.getD i [] = r then some (i : Int) else none
def fnd (l : List (List Int)) (r : List Int) : Int := (scan l.length (fndO l r)).getD (-1)
theorem fndO_f {l : List (List Int)} {r : List Int} {i : Nat} (h : ¬ l.getD i [] = r) : fndO l r i = none := if_neg h
theorem fnd_hit {l : List (List Int)} {r : List Int} {i : Nat} (h : scan i (fndO l r) = none) (hi : i < l.length) (e : l.getD i [] = r) : fnd l r = i := by
  unfold fnd
  rw [scan_hit hi h (show fndO l r i = some (i : Int) from if_pos e)]; rfl
theorem fnd_none {l : List (List Int)} {r : List Int} (h : scan l.length (fndO l r) = none) : fnd l r = -1 := by unfold fnd; rw [h]; rfl
end Go.Cats
end

section

/- Plain law, part 10: the category that is built of a list of arrows. -/
set_option linter.unusedSimpArgs false
set_option linter.unusedVariables false
namespace Go.Cats

def tb {α : Type} (n : Nat) (F : Nat → α) : List α := (List.range n).map F
theorem tb_zero {α : Type} (F : Nat → α) : tb 0 F = [] := rfl
theorem tb_succ {α : Type} (n : Nat) (F : Nat → α) : tb (n + 1) F = tb n F ++ [F n] := by simp [tb, List.range_succ]
theorem tb_len {α : Type} (n : Nat) (F : Nat → α) : (tb n F).length = n := by simp [tb]
theorem tb_at {α : Type} (n : Nat) (F : Nat → α) (d : α) {i : Nat} (h : i < n) : (tb n F).getD i d = F i := by simp [tb, h]
def bId (A : List (List Int)) (a b : Cat) (L R : List Int) (x : Nat) : Int := fnd A [(x : Int), (x : Int), a.id.getD (L.getD x 0).toNat 0, b.id.getD (R.getD x 0).toNat 0]
def bKey (A : List (List Int)) (a b : Cat) (i j : Nat) : List Int := [rw' A i 0, rw' A j 1, a.C (rw' A i 2) (rw' A j 2), b.C (rw' A i 3) (rw' A j 3)]
def bEnt (A : List (List Int)) (a b : Cat) (i j : Nat) : Int := if rw' A i 1 = rw' A j 0 then fnd A (bKey A a b i j) else -1
def bCat (N : Nat) (A : List (List Int)) (a b : Cat) (L R : List Int) (k : Nat) : Cat :=
  ⟨N, colN A 0 A.length, colN A 1 A.length, tb N (bId A a b L R), tb k fun i => tb A.length (bEnt A a b i)⟩
theorem bEnt_t {A : List (List Int)} {a b : Cat} {i j : Nat} (h : rw' A i 1 = rw' A j 0) : bEnt A a b i j = fnd A (bKey A a b i j) := if_pos h
theorem bEnt_f {A : List (List Int)} {a b : Cat} {i j : Nat} (h : ¬ rw' A i 1 = rw' A j 0) : bEnt A a b i j = -1 := if_neg h
/-- What the building of a category asks of the list of arrows. -/
structure ArrR (a b : Cat) (r : List Int) : Prop where
  len : r.length = 4
  ul : 0 ≤ r.getD 2 0
  uh : r.getD 2 0 < a.fr.length
  vl : 0 ≤ r.getD 3 0
  vh : r.getD 3 0 < b.fr.length
def ArrOK (a b : Cat) (A : List (List Int)) : Prop := ∀ i, i < A.length → ArrR a b (A.getD i [])
theorem memL_getD {l : List (List Int)} {i : Nat} (h : i < l.length) : l.getD i [] ∈ l := by
  rw [List.getD_eq_getElem?_getD, List.getElem?_eq_getElem h, Option.getD_some]; exact List.getElem_mem h
theorem mem_getI {l : List Int} {i : Nat} (h : i < l.length) : l.getD i 0 ∈ l := by
  rw [List.getD_eq_getElem?_getD, List.getElem?_eq_getElem h, Option.getD_some]; exact List.getElem_mem h
theorem colN_at {l : List (List Int)} {k n i : Nat} (h : i < n) (hn : n ≤ l.length) : (colN l k n).getD i 0 = (l.getD i []).getD k 0 := by
  have hi : i < l.length := by omega
  unfold colN
  simp only [List.getD_eq_getElem?_getD, List.getElem?_map, List.getElem?_take_of_lt h, List.getElem?_eq_getElem hi, Option.map_some, Option.getD_some]
/-- What is an arrow of the comma category. -/
theorem mem_cArr {f e : Fun} {O : List (List Int)} {r : List Int} : r ∈ cArr f e O ↔ ∃ s t u v, s < O.length ∧ t < O.length ∧ u ∈ cU f 0 O s t ∧ v ∈ cU e 1 O s t ∧ cC f e O s t u v ∧ r = [(s : Int), (t : Int), u, v] := by
  unfold cArr cA cCell cRow
  simp only [coll_zero, List.append_nil, mem_coll]
  constructor
  · rintro ⟨s, hs, t, ht, i, hi, j, hj, h⟩
    unfold cE at h
    split at h
    · next hc => exact ⟨s, t, _, _, hs, ht, mem_getI hi, mem_getI hj, hc, by simpa using h⟩
    · simp at h
  · rintro ⟨s, t, u, v, hs, ht, hu, hv, hc, rfl⟩
    obtain ⟨i, hi, rfl⟩ := List.getElem_of_mem hu
    obtain ⟨j, hj, rfl⟩ := List.getElem_of_mem hv
    have e1 : (cU f 0 O s t).getD i 0 = (cU f 0 O s t)[i] := by simp [List.getD_eq_getElem?_getD, hi]
    have e2 : (cU e 1 O s t).getD j 0 = (cU e 1 O s t)[j] := by simp [List.getD_eq_getElem?_getD, hj]
    refine ⟨s, hs, t, ht, i, hi, j, hj, ?_⟩
    unfold cE
    rw [e1, e2, if_pos hc]
    simp
theorem cArr_ok (f e : Fun) (O : List (List Int)) : ArrOK f.src e.src (cArr f e O) := fun i hi => by
  obtain ⟨s, t, u, v, _, _, hu, hv, _, h⟩ := mem_cArr.1 (memL_getD hi)
  rw [h]
  have h1 := mem_cU.1 hu
  have h2 := mem_cU.1 hv
  exact ⟨rfl, h1.1, h1.2.1, h2.1, h2.2.1⟩
theorem cArr_len {f e : Fun} {O : List (List Int)} (h1 : f.src.fr.length ≤ 40) (h : e.src.fr.length ≤ 40) (hO : O.length ≤ 8) : (cArr f e O).length ≤ 102400 := by
  have := cA_len (s := O.length) (t := 0) (i := 0) (j := 0) h1 h hO
  unfold cArr; omega
theorem col_lo {f e : Fun} {O : List (List Int)} (h : ObjOK f e O) : Within (colN O 0 O.length) f.src.ob := fun i hi => by
  rw [colN_len] at hi
  rw [colN_at (by omega) (by omega)]
  exact ⟨(h i (by omega)).lo, (h i (by omega)).lh⟩
theorem col_ro {f e : Fun} {O : List (List Int)} (h : ObjOK f e O) : Within (colN O 1 O.length) e.src.ob := fun i hi => by
  rw [colN_len] at hi
  rw [colN_at (by omega) (by omega)]
  exact ⟨(h i (by omega)).ro, (h i (by omega)).rh⟩
noncomputable def cmA (f e : Fun) : List (List Int) := cArr f e (cObj f e)
noncomputable def cmC (f e : Fun) (k : Nat) : Cat := bCat (cObj f e).length (cmA f e) f.src e.src (colN (cObj f e) 0 (cObj f e).length) (colN (cObj f e) 1 (cObj f e).length) k
end Go.Cats
end

section

/- Plain law, part 11: the arrows of comma categories grow from place to place. -/
set_option linter.unusedSimpArgs false
set_option linter.unusedVariables false
namespace Go.Cats
theorem coll_mono {α : Type} {n m : Nat} {f : Nat → List α} (h : n ≤ m) : (coll n f).length ≤ (coll m f).length := by
  induction m with
  | zero => rw [show n = 0 by omega]; exact Nat.le_refl _
  | succ m ih =>
    by_cases e : n = m + 1
    · subst e; exact Nat.le_refl _
    · rw [coll_succ, List.length_append]; have := ih (by omega); omega
variable {f e : Fun} {O : List (List Int)} {s t i j : Nat}
theorem cA_le1 (h : j ≤ (cU e 1 O s t).length) : (cA f e O s t i j).length ≤ (cA f e O s t (i + 1) 0).length := by
  rw [cA_i (f := f) (e := e) (O := O) (s := s) (t := t) (i := i) rfl]
  unfold cA
  simp only [List.length_append]
  have := coll_mono (f := fun j => cE f e O s t i j) h
  omega
theorem cA_le2 (h : i ≤ (cU f 0 O s t).length) : (cA f e O s t i 0).length ≤ (cA f e O s (t + 1) 0 0).length := by
  rw [cA_tt (f := f) (e := e) (O := O) (s := s) (t := t) rfl]
  unfold cA
  simp only [List.length_append, coll_zero, List.length_nil]
  have := coll_mono (f := fun i => cRow f e O s t i) h
  omega
theorem cA_le3 (h : t ≤ O.length) : (cA f e O s t 0 0).length ≤ (cA f e O (s + 1) 0 0 0).length := by
  rw [cA_s (f := f) (e := e) (O := O) (s := s) rfl]
  unfold cA
  simp only [List.length_append, coll_zero, List.length_nil]
  have := coll_mono (f := fun t => cCell f e O s t) h
  omega
theorem cA_le4 (h : s ≤ O.length) : (cA f e O s 0 0 0).length ≤ (cArr f e O).length := by
  unfold cArr cA
  simp only [List.length_append, coll_zero, List.length_nil]
  have := coll_mono (f := fun s => coll O.length fun t => cCell f e O s t) h
  omega
theorem cA_cell (hi : i < (cU f 0 O s t).length) (hj : j ≤ (cU e 1 O s t).length) : (cA f e O s t i j).length ≤ (cA f e O s (t + 1) 0 0).length :=
  Nat.le_trans (cA_le1 hj) (cA_le2 (by omega))
theorem cA_all (hs : s < O.length) (ht : t < O.length) : (cA f e O s (t + 1) 0 0).length ≤ (cArr f e O).length :=
  Nat.le_trans (cA_le3 (by omega)) (cA_le4 (by omega))
end Go.Cats
end

section

/- Plain law, part 12: no arrow of a comma category is listed twice; identities and composites are listed. -/
set_option linter.unusedSimpArgs false
set_option linter.unusedVariables false
namespace Go.Cats
theorem coll_nodup {α : Type} {n : Nat} {f : Nat → List α} (h1 : ∀ i, i < n → (f i).Nodup) (h2 : ∀ i j x, i < n → j < n → x ∈ f i → x ∈ f j → i = j) : (coll n f).Nodup := by
  unfold coll List.Nodup
  rw [List.pairwise_flatMap]
  refine ⟨fun a ha => h1 a (List.mem_range.1 ha), ?_⟩
  refine List.Pairwise.imp_of_mem ?_ (List.pairwise_lt_range (n := n))
  intro a b ha hb hab x hx y hy e
  subst e
  have := h2 a b x (List.mem_range.1 ha) (List.mem_range.1 hb) hx hy
  omega
theorem Cat.hom_nodup (c : Cat) (x y : Int) : (c.hom x y).Nodup := by
  unfold Cat.hom Cat.homI
  refine coll_nodup (fun i _ => by split <;> simp) fun i j z _ _ hi hj => ?_
  split at hi
  · split at hj
    · simp at hi hj; omega
    · simp at hj
  · simp at hi
theorem nodup_get {l : List Int} (h : l.Nodup) {i j : Nat} (hi : i < l.length) (hj : j < l.length) (e : l.getD i 0 = l.getD j 0) : i = j := by
  rw [List.getD_eq_getElem?_getD, List.getD_eq_getElem?_getD, List.getElem?_eq_getElem hi, List.getElem?_eq_getElem hj, Option.getD_some, Option.getD_some] at e
  unfold List.Nodup at h
  rw [List.pairwise_iff_getElem] at h
  rcases Nat.lt_trichotomy i j with hl | hl | hl
  · exact absurd e (h i j hi hj hl)
  · exact hl
  · exact absurd e.symm (h j i hj hi hl)
variable {f e : Fun} {O : List (List Int)} {s t i j : Nat}
theorem mem_cE {x : List Int} (h : x ∈ cE f e O s t i j) : x = [(s : Int), (t : Int), (cU f 0 O s t).getD i 0, (cU e 1 O s t).getD j 0] := by
  unfold cE at h
  split at h
  · simpa using h
  · simp at h
theorem mem_cRow {x : List Int} (h : x ∈ cRow f e O s t i) : ∃ j, j < (cU e 1 O s t).length ∧ x = [(s : Int), (t : Int), (cU f 0 O s t).getD i 0, (cU e 1 O s t).getD j 0] := by
  unfold cRow at h
  obtain ⟨j, hj, hx⟩ := mem_coll.1 h
  exact ⟨j, hj, mem_cE hx⟩
theorem mem_cCell {x : List Int} (h : x ∈ cCell f e O s t) : x.getD 0 0 = s ∧ x.getD 1 0 = t := by
  unfold cCell at h
  obtain ⟨i, _, hx⟩ := mem_coll.1 h
  obtain ⟨j, _, rfl⟩ := mem_cRow hx
  exact ⟨rfl, rfl⟩
theorem cArr_nodup (f e : Fun) (O : List (List Int)) : (cArr f e O).Nodup := by
  unfold cArr cA
  simp only [coll_zero, List.append_nil]
  refine coll_nodup (fun s _ => coll_nodup (fun t _ => coll_nodup (fun i hi => coll_nodup (fun j hj => ?_) ?_) ?_) ?_) ?_
  · unfold cE; split <;> simp
  · intro j j' x hj hj' hx hx'
    have := (mem_cE hx).symm.trans (mem_cE hx')
    simp only [List.cons.injEq, and_true, true_and] at this
    exact nodup_get (Cat.hom_nodup _ _ _) hj hj' this
  · intro i i' x hi hi' hx hx'
    obtain ⟨j, _, e1⟩ := mem_cRow hx
    obtain ⟨j', _, e2⟩ := mem_cRow hx'
    have := e1.symm.trans e2
    simp only [List.cons.injEq, and_true, true_and] at this
    exact nodup_get (Cat.hom_nodup _ _ _) hi hi' this.1
  · intro t t' x _ _ hx hx'
    have h1 := (mem_cCell hx).2
    have h2 := (mem_cCell hx').2
    omega
  · intro s s' x _ _ hx hx'
    obtain ⟨t, _, hx⟩ := mem_coll.1 hx
    obtain ⟨t', _, hx'⟩ := mem_coll.1 hx'
    have h1 := (mem_cCell hx).1
    have h2 := (mem_cCell hx').1
    omega
/-- The place of what is listed. -/
theorem fnd_mem {l : List (List Int)} {r : List Int} (h : r ∈ l) : ∃ i : Nat, i < l.length ∧ l.getD i [] = r ∧ fnd l r = i := by
  cases hs : scan l.length (fndO l r) with
  | none =>
    exfalso
    obtain ⟨i, hi, rfl⟩ := List.getElem_of_mem h
    have := scan_none.1 hs i hi
    unfold fndO at this
    rw [if_pos (by rw [List.getD_eq_getElem?_getD, List.getElem?_eq_getElem hi]; rfl)] at this
    cases this
  | some x =>
    obtain ⟨i, hi, k⟩ := scan_some hs
    unfold fndO at k
    split at k
    · rename_i e
      cases k
      exact ⟨i, hi, e, by unfold fnd; rw [hs]; rfl⟩
    · cases k
/-! ### Identities and composites -/
theorem IsCat.unlI {c : Cat} (h : IsCat c) {f : Int} (h0 : 0 ≤ f) (h1 : f < c.fr.length) : c.C (c.I (c.F f)) f = f := by
  have := h.unl f.toNat (by omega)
  rwa [Int.toNat_of_nonneg h0] at this
theorem IsCat.unrI {c : Cat} (h : IsCat c) {f : Int} (h0 : 0 ≤ f) (h1 : f < c.fr.length) : c.C f (c.I (c.T f)) = f := by
  have := h.unr f.toNat (by omega)
  rwa [Int.toNat_of_nonneg h0] at this
theorem IsCat.assI {c : Cat} (k : IsCat c) {f g h : Int} (f0 : 0 ≤ f) (f1 : f < c.fr.length) (g0 : 0 ≤ g) (g1 : g < c.fr.length) (h0 : 0 ≤ h) (h1 : h < c.fr.length) (e1 : c.T f = c.F g) (e2 : c.T g = c.F h) : c.C (c.C f g) h = c.C f (c.C g h) := by
  have := k.ass f.toNat g.toNat h.toNat (by omega) (by omega) (by omega)
  rw [Int.toNat_of_nonneg f0, Int.toNat_of_nonneg g0, Int.toNat_of_nonneg h0] at this
  exact this e1 e2
theorem IsCat.compI {c : Cat} (k : IsCat c) {f g : Int} (f0 : 0 ≤ f) (f1 : f < c.fr.length) (g0 : 0 ≤ g) (g1 : g < c.fr.length) (e1 : c.T f = c.F g) : 0 ≤ c.C f g ∧ c.C f g < c.fr.length ∧ c.F (c.C f g) = c.F f ∧ c.T (c.C f g) = c.T g := by
  have h := (k.coe f.toNat (by omega)).2 g.toNat (by omega)
  unfold Cat.Entry at h
  rw [Int.toNat_of_nonneg f0, Int.toNat_of_nonneg g0] at h
  rcases h with ⟨_, h2, h3, h4⟩ | ⟨h2, _⟩
  · exact ⟨h2.1, h2.2, h3, h4⟩
  · exact absurd e1 h2
theorem IsCat.idI {c : Cat} (k : IsCat c) {x : Int} (h0 : 0 ≤ x) (h1 : x < c.ob) : 0 ≤ c.I x ∧ c.I x < c.fr.length ∧ c.F (c.I x) = x ∧ c.T (c.I x) = x := by
  have hl := k.idl
  have h2 := k.idw x.toNat (by omega)
  have h3 := k.ide x.toNat (by omega)
  rw [Int.toNat_of_nonneg h0] at h3
  exact ⟨h2.1, h2.2, h3.1, h3.2⟩
theorem IsFun.arI {f : Fun} (k : IsFun f) {a : Int} (h0 : 0 ≤ a) (h1 : a < f.src.fr.length) : 0 ≤ f.A a ∧ f.A a < f.tgt.fr.length ∧ f.tgt.F (f.A a) = f.O (f.src.F a) ∧ f.tgt.T (f.A a) = f.O (f.src.T a) := by
  have hl := k.fits.arl
  have h2 := k.fits.arw a.toNat (by omega)
  have h3 := k.fits.endf a.toNat (by omega)
  have e1 : f.src.F (a.toNat : Int) = f.src.F a := by rw [Int.toNat_of_nonneg h0]
  have e2 : f.src.T (a.toNat : Int) = f.src.T a := by rw [Int.toNat_of_nonneg h0]
  rw [e1, e2] at h3
  exact ⟨h2.1, h2.2, h3.1, h3.2⟩
theorem IsFun.unI {f : Fun} (k : IsFun f) {x : Int} (h0 : 0 ≤ x) (h1 : x < f.src.ob) : f.A (f.src.I x) = f.tgt.I (f.O x) := by
  have hl := k.src.idl
  have := k.fits.unit x.toNat (by omega)
  rwa [Int.toNat_of_nonneg h0] at this
theorem IsFun.coI {f : Fun} (k : IsFun f) {a b : Int} (a0 : 0 ≤ a) (a1 : a < f.src.fr.length) (b0 : 0 ≤ b) (b1 : b < f.src.fr.length) (e : f.src.T a = f.src.F b) : f.A (f.src.C a b) = f.tgt.C (f.A a) (f.A b) := by
  have h := k.fits.comp a.toNat b.toNat (by omega) (by omega)
  rw [Int.toNat_of_nonneg a0, Int.toNat_of_nonneg b0] at h
  exact h (k.src.compI a0 a1 b0 b1 e).1
theorem cArr_id (hf : IsFun f) (he : IsFun e) (hT : f.tgt = e.tgt) (hO : ObjOK f e O) {p : Nat} (hp : p < O.length) : [(p : Int), (p : Int), f.src.I (rw' O p 0), e.src.I (rw' O p 1)] ∈ cArr f e O := by
  obtain ⟨_, l0, l1, r0, r1, a0, a1, hF, hTo⟩ := hO p hp
  obtain ⟨u1, u2, u3, u4⟩ := hf.src.idI l0 l1
  obtain ⟨v1, v2, v3, v4⟩ := he.src.idI r0 r1
  refine mem_cArr.2 ⟨p, p, _, _, hp, hp, mem_cU.2 ⟨u1, u2, u3, u4⟩, mem_cU.2 ⟨v1, v2, v3, v4⟩, ?_, rfl⟩
  unfold cC
  rw [hf.unI l0 l1, he.unI r0 r1, ← hT]
  show f.tgt.C (f.tgt.I (f.O ((O.getD p []).getD 0 0))) ((O.getD p []).getD 2 0) = f.tgt.C ((O.getD p []).getD 2 0) (f.tgt.I (e.O ((O.getD p []).getD 1 0)))
  rw [← hF, ← hTo, hf.tgt.unlI a0 a1, hf.tgt.unrI a0 a1]
theorem cArr_comp (hf : IsFun f) (he : IsFun e) (hT : f.tgt = e.tgt) (hO : ObjOK f e O) {s t w : Nat} {u v u' v' : Int} (hs : s < O.length) (ht : t < O.length) (hw : w < O.length)
    (hu : u ∈ cU f 0 O s t) (hv : v ∈ cU e 1 O s t) (hc : cC f e O s t u v) (hu' : u' ∈ cU f 0 O t w) (hv' : v' ∈ cU e 1 O t w) (hc' : cC f e O t w u' v') :
    [(s : Int), (w : Int), f.src.C u u', e.src.C v v'] ∈ cArr f e O := by
  obtain ⟨u1, u2, u3, u4⟩ := mem_cU.1 hu
  obtain ⟨v1, v2, v3, v4⟩ := mem_cU.1 hv
  obtain ⟨x1, x2, x3, x4⟩ := mem_cU.1 hu'
  obtain ⟨y1, y2, y3, y4⟩ := mem_cU.1 hv'
  have eu : f.src.T u = f.src.F u' := u4.trans x3.symm
  have ev : e.src.T v = e.src.F v' := v4.trans y3.symm
  obtain ⟨m1, m2, m3, m4⟩ := hf.src.compI u1 u2 x1 x2 eu
  obtain ⟨n1, n2, n3, n4⟩ := he.src.compI v1 v2 y1 y2 ev
  refine mem_cArr.2 ⟨s, w, _, _, hs, hw, mem_cU.2 ⟨m1, m2, m3.trans u3, m4.trans x4⟩, mem_cU.2 ⟨n1, n2, n3.trans v3, n4.trans y4⟩, ?_, rfl⟩
  obtain ⟨_, _, _, _, _, sa0, sa1, sF, sT⟩ := hO s hs
  obtain ⟨_, _, _, _, _, ta0, ta1, tF, tT⟩ := hO t ht
  obtain ⟨_, _, _, _, _, wa0, wa1, wF, wT⟩ := hO w hw
  obtain ⟨fu0, fu1, fuF, fuT⟩ := hf.arI u1 u2
  obtain ⟨fx0, fx1, fxF, fxT⟩ := hf.arI x1 x2
  obtain ⟨ev0, ev1, evF, evT⟩ := he.arI v1 v2
  obtain ⟨ey0, ey1, eyF, eyT⟩ := he.arI y1 y2
  rw [← hT] at ev1 evF evT ey1 eyF eyT
  rw [u3] at fuF; rw [u4] at fuT; rw [x3] at fxF; rw [x4] at fxT
  rw [v3] at evF; rw [v4] at evT; rw [y3] at eyF; rw [y4] at eyT
  unfold cC at hc hc' ⊢
  rw [hf.coI u1 u2 x1 x2 eu, he.coI v1 v2 y1 y2 ev, ← hT]
  rw [hf.tgt.assI fu0 fu1 fx0 fx1 wa0 wa1 (fuT.trans fxF.symm) (fxT.trans wF.symm), hc']
  rw [← hf.tgt.assI fu0 fu1 ta0 ta1 ey0 ey1 (fuT.trans tF.symm) (tT.trans eyF.symm), hc]
  rw [hf.tgt.assI sa0 sa1 ev0 ev1 ey0 ey1 (sT.trans evF.symm) (evT.trans eyF.symm)]
end Go.Cats
end

section

/- Plain law, part 13: the identity functor, the point, the category of one arrow. -/
set_option linter.unusedSimpArgs false
set_option linter.unusedVariables false
namespace Go.Cats
def nums (n : Nat) : List Int := (List.range n).map fun i : Nat => (i : Int)
theorem nums_zero : nums 0 = [] := rfl
theorem nums_len (n : Nat) : (nums n).length = n := by simp [nums]
theorem nums_succ (n : Nat) : nums (n + 1) = nums n ++ [(n : Int)] := by simp [nums, List.range_succ]
theorem nums_at {n i : Nat} (h : i < n) : (nums n).getD i 0 = i := by simp [nums, h]
theorem numsI {n : Nat} {y : Int} (h0 : 0 ≤ y) (h1 : y < n) : (nums n).getD y.toNat 0 = y := by
  rw [nums_at (by omega)]; omega
def oneC : Cat := ⟨1, [0], [0], [0], [[0]]⟩
theorem oneC_cat : IsCat oneC := by
  have z : ∀ {i : Nat}, i < 1 → i = 0 := fun h => by omega
  have w : Within [0] 1 := fun i hi => by
    have : i = 0 := z (by simpa using hi)
    subst this; simp
  refine ⟨⟨by decide, by decide, by decide, by decide, w, w, by decide, w, by decide, fun x hx => ?_, fun f hf => ⟨?_, fun g hg => ?_⟩⟩, fun f hf => ?_, fun f hf => ?_, fun f g h hf hg hh _ _ => ?_⟩
  · have : x = 0 := z hx
    subst this; decide
  · have : f = 0 := z hf
    subst this; decide
  · have h1 : f = 0 := z hf
    have h2 : g = 0 := z hg
    subst h1; subst h2
    left
    exact ⟨rfl, ⟨by decide, by decide⟩, by decide, by decide⟩
  · have h1 : f = 0 := z hf
    subst h1; decide
  · have h1 : f = 0 := z hf
    subst h1; decide
  · have h1 : f = 0 := z hf
    have h2 : g = 0 := z hg
    have h3 : h = 0 := z hh
    subst h1; subst h2; subst h3; decide
def selfF (c : Cat) : Fun := ⟨c, c, nums c.ob.toNat, nums c.fr.length⟩
def pointF (c : Cat) (x : Int) : Fun := ⟨oneC, c, [x], [c.I x]⟩
theorem selfF_fun {c : Cat} (h : IsCat c) : IsFun (selfF c) := by
  have h0 := h.ob0
  have hO : ∀ {y : Int}, 0 ≤ y → y < c.ob → (selfF c).O y = y := fun a b => numsI a (by omega)
  have hA : ∀ {y : Int}, 0 ≤ y → y < c.fr.length → (selfF c).A y = y := fun a b => numsI a (by omega)
  refine ⟨h, h, ⟨?_, ?_, fun i hi => ?_, fun i hi => ?_, fun a ha => ?_, fun x hx => ?_, fun a b ha hb hc => ?_⟩⟩
  · simp only [selfF, nums_len]; omega
  · simp only [selfF, nums_len]
  · simp only [selfF, nums_len] at hi ⊢
    rw [nums_at hi]; omega
  · simp only [selfF, nums_len] at hi ⊢
    rw [nums_at hi]; omega
  · have ha' : a < c.fr.length := by simpa [selfF, nums_len] using ha
    have e : (selfF c).ars.getD a 0 = a := nums_at ha'
    rw [e]
    have f1 := h.frw a ha'
    have f2 := h.tow a (by have := h.tol; omega)
    refine ⟨?_, ?_⟩
    · exact (hO (y := c.F a) (by simpa using f1.1) (by simpa using f1.2)).symm
    · exact (hO (y := c.T a) (by simpa using f2.1) (by simpa using f2.2)).symm
  · have hx' : x < c.id.length := hx
    have w := h.idw x hx'
    have hl := h.idl
    rw [show (selfF c).src.id.getD x 0 = c.id.getD x 0 from rfl, hA w.1 w.2, hO (by omega) (by omega)]
    simp [selfF]
  · have ha' : a < c.fr.length := ha
    have hb' : b < c.fr.length := hb
    have e := (h.coe a ha').2 b hb'
    unfold Cat.Entry at e
    have hc' : 0 ≤ c.C a b := hc
    have hlt : c.C a b < c.fr.length := by
      rcases e with ⟨_, e2, _⟩ | ⟨_, e2⟩
      · exact e2.2
      · omega
    rw [show (selfF c).src.C a b = c.C a b from rfl, hA hc' hlt, hA (by omega) (by omega), hA (by omega) (by omega)]
    rfl
theorem pointF_fun {c : Cat} {x : Int} (h : IsCat c) (h0 : 0 ≤ x) (h1 : x < c.ob) : IsFun (pointF c x) := by
  obtain ⟨i1, i2, i3, i4⟩ := h.idI h0 h1
  have z : ∀ {i : Nat}, i < 1 → i = 0 := fun h => by omega
  refine ⟨oneC_cat, h, ⟨rfl, rfl, fun i hi => ?_, fun i hi => ?_, fun a ha => ?_, fun y hy => ?_, fun a b ha hb hc => ?_⟩⟩
  · have : i = 0 := z hi
    subst this; exact ⟨h0, h1⟩
  · have : i = 0 := z hi
    subst this; exact ⟨i1, i2⟩
  · have : a = 0 := z ha
    subst this; exact ⟨i3, i4⟩
  · have : y = 0 := z hy
    subst this; rfl
  · have e1 : a = 0 := z ha
    have e2 : b = 0 := z hb
    subst e1; subst e2
    have := h.unlI i1 i2
    rw [i3] at this
    exact this.symm
end Go.Cats
end
