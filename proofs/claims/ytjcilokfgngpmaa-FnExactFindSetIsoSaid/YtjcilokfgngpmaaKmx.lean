/- Several texts in one: M01, M02, M03, M04, M05, M06, M07, N02, N03, N04, N05, N06, M08, M09, M10, M11, M12, N07, N08, N09, N10, N11. -/
section

/- Plain law, part 1: decisions, scans over ranges, categories, functors, set functors as data, and what it means to be one. -/
namespace Go.Cats

noncomputable def dec (P : Prop) : Bool := @decide P (Classical.propDecidable P)
theorem dec_t {P : Prop} (h : P) : dec P = true := by simp [dec, h]
theorem dec_f {P : Prop} (h : ¬ P) : dec P = false := by simp [dec, h]
theorem dec_iff {P : Prop} : dec P = true ↔ P := by simp [dec]
theorem dec_not {P : Prop} : dec P = false ↔ ¬ P := by simp [dec]
theorem dec_congr {P Q : Prop} (h : P ↔ Q) : dec P = dec Q := by
  by_cases p : P
  · rw [dec_t p, dec_t (h.1 p)]
  · rw [dec_f p, dec_f fun q => p (h.2 q)]
theorem dec_eq {P : Prop} [Decidable P] : dec P = decide P := by by_cases h : P <;> simp [dec, h]
/-! ### Scans -/
def scan {α : Type} (n : Nat) (p : Nat → Option α) : Option α := (List.range n).findSome? p
theorem scan_zero {α : Type} (p : Nat → Option α) : scan 0 p = none := rfl
theorem scan_succ {α : Type} (n : Nat) (p : Nat → Option α) : scan (n + 1) p = (scan n p).or (p n) := by
  unfold scan
  rw [List.range_succ, List.findSome?_append]
  simp [List.findSome?]
  cases p n <;> rfl
theorem scan_next {α : Type} {n : Nat} {p : Nat → Option α} (h : scan n p = none) (k : p n = none) : scan (n + 1) p = none := by
  rw [scan_succ, h, k]; rfl
theorem scan_none {α : Type} {n : Nat} {p : Nat → Option α} : scan n p = none ↔ ∀ i, i < n → p i = none := by
  simp [scan, List.findSome?_eq_none_iff]
theorem scan_hit {α : Type} {n i : Nat} {p : Nat → Option α} {r : α} (hi : i < n) (h : scan i p = none) (k : p i = some r) : scan n p = some r := by
  induction n with
  | zero => omega
  | succ n ih =>
    rw [scan_succ]
    by_cases e : i = n
    · subst e; rw [h, k]; rfl
    · rw [ih (by omega)]; rfl
theorem scan_some {α : Type} {n : Nat} {p : Nat → Option α} {r : α} (h : scan n p = some r) : ∃ i, i < n ∧ p i = some r := by
  unfold scan at h
  obtain ⟨i, hi, k⟩ := List.exists_of_findSome?_eq_some h
  exact ⟨i, by simpa using hi, k⟩

theorem all_succ {P : Nat → Prop} {n : Nat} (h : ∀ i, i < n → P i) (k : P n) : ∀ i, i < n + 1 → P i := fun i hi => by
  by_cases e : i = n
  · subst e; exact k
  · exact h i (by omega)

/-- What the rounds of a range bring, one behind the other. -/
def coll {α : Type} (n : Nat) (f : Nat → List α) : List α := (List.range n).flatMap f
theorem coll_zero {α : Type} (f : Nat → List α) : coll 0 f = [] := rfl
theorem mem_getD {α : Type} {l : List α} {x d : α} (h : x ∈ l) : ∃ i, i < l.length ∧ l.getD i d = x := by
  obtain ⟨i, hi, e⟩ := List.getElem_of_mem h
  exact ⟨i, hi, by simp [List.getD_eq_getElem?_getD, hi, e]⟩

/-- All numbers of a list are in 0..n-1. -/
def Within (l : List Int) (n : Int) : Prop := ∀ i, i < l.length → 0 ≤ l.getD i 0 ∧ l.getD i 0 < n
/-! ### Categories -/
structure Cat where
  ob : Int
  fr : List Int
  to : List Int
  id : List Int
  co : List (List Int)

def Cat.nil : Cat := ⟨0, [], [], [], []⟩
abbrev Cat.F (c : Cat) (f : Int) : Int := c.fr.getD f.toNat 0
abbrev Cat.T (c : Cat) (f : Int) : Int := c.to.getD f.toNat 0
abbrev Cat.I (c : Cat) (x : Int) : Int := c.id.getD x.toNat 0
abbrev Cat.C (c : Cat) (f g : Int) : Int := (c.co.getD f.toNat []).getD g.toNat 0


/-- What is read is not too long. -/
structure CatB (c : Cat) : Prop where
  ob1 : -9223372036854775808 ≤ c.ob
  ob2 : c.ob ≤ 9223372036854775807
  fr : c.fr.length ≤ 1048576
  to : c.to.length ≤ 1048576
  id : c.id.length ≤ 1048576
  co : c.co.length ≤ 1048576
  row : ∀ f, f < c.co.length → (c.co.getD f []).length ≤ 1048576

/-- A row's entry is what it must be. -/
def Cat.Entry (c : Cat) (f g : Nat) : Prop :=
  (c.to.getD f 0 = c.fr.getD g 0 ∧ (0 ≤ c.C f g ∧ c.C f g < c.fr.length) ∧ c.F (c.C f g) = c.fr.getD f 0 ∧ c.T (c.C f g) = c.to.getD g 0) ∨
  (c.to.getD f 0 ≠ c.fr.getD g 0 ∧ c.C f g = -1)

structure Shape (c : Cat) : Prop where
  ob0 : 0 ≤ c.ob
  ob8 : c.ob ≤ 8
  m40 : c.fr.length ≤ 40
  tol : c.to.length = c.fr.length
  frw : Within c.fr c.ob
  tow : Within c.to c.ob
  idl : (c.id.length : Int) = c.ob
  idw : Within c.id c.fr.length
  col : c.co.length = c.fr.length
  ide : ∀ x, x < c.id.length → c.F (c.id.getD x 0) = x ∧ c.T (c.id.getD x 0) = x
  coe : ∀ f, f < c.fr.length → (c.co.getD f []).length = c.fr.length ∧ ∀ g, g < c.fr.length → c.Entry f g

/-- The first fault of a shape, of the kinds 1 and 2. -/
def Cat.fault1 (c : Cat) (f : Nat) : Option (Int × Int × Int × Int) :=
  if c.C (c.I (c.F f)) f ≠ f ∨ c.C f (c.I (c.T f)) ≠ f then some (1, f, 0, 0) else none
def Cat.fault2 (c : Cat) (f g h : Nat) : Option (Int × Int × Int × Int) :=
  if 0 ≤ c.C g h ∧ c.C (c.C f g) h ≠ c.C f (c.C g h) then some (2, f, g, h) else none
def Cat.fault2g (c : Cat) (f g : Nat) : Option (Int × Int × Int × Int) :=
  if c.C f g < 0 then none else scan c.fr.length fun h => c.fault2 f g h
def Cat.fault (c : Cat) : Int × Int × Int × Int :=
  ((scan c.fr.length c.fault1).or (scan c.fr.length fun f => scan c.fr.length fun g => c.fault2g f g)).getD (0, 0, 0, 0)

structure IsCat (c : Cat) : Prop extends Shape c where
  unl : ∀ f : Nat, f < c.fr.length → c.C (c.I (c.F f)) f = f
  unr : ∀ f : Nat, f < c.fr.length → c.C f (c.I (c.T f)) = f
  ass : ∀ f g h : Nat, f < c.fr.length → g < c.fr.length → h < c.fr.length → c.T f = c.F g → c.T g = c.F h → c.C (c.C f g) h = c.C f (c.C g h)

theorem Shape.neg {c : Cat} (s : Shape c) {f g : Nat} (hf : f < c.fr.length) (hg : g < c.fr.length) : c.C f g < 0 ↔ c.T f ≠ c.F g := by
  have := (s.coe f hf).2 g hg
  unfold Cat.Entry at this
  simp only [Cat.T, Cat.F, Int.toNat_natCast]
  rcases this with ⟨h1, h2, h3⟩ | ⟨h1, h2⟩
  · constructor
    · intro h; omega
    · intro h; exact absurd h1 h
  · constructor
    · intro _; exact h1
    · intro _; omega

theorem Shape.fault_zero {c : Cat} (s : Shape c) : c.fault.1 = 0 ↔ IsCat c := by
  unfold Cat.fault
  constructor
  · intro h
    cases h1 : scan c.fr.length c.fault1 with
    | some r =>
      obtain ⟨i, hi, k⟩ := scan_some h1
      unfold Cat.fault1 at k
      split at k
      · simp at k; subst k; simp [h1] at h
      · cases k
    | none =>
      rw [h1] at h
      cases h2 : (scan c.fr.length fun f => scan c.fr.length fun g => c.fault2g f g) with
      | some r =>
        obtain ⟨i, hi, k⟩ := scan_some h2
        obtain ⟨j, hj, k⟩ := scan_some k
        unfold Cat.fault2g at k
        split at k
        · cases k
        · obtain ⟨l, hl, k⟩ := scan_some k
          unfold Cat.fault2 at k
          split at k
          · simp at k; subst k; simp [h2] at h
          · cases k
      | none =>
        rw [scan_none] at h1 h2
        refine ⟨s, fun f hf => ?_, fun f hf => ?_, fun f g h hf hg hh e1 e2 => ?_⟩
        · have := h1 f hf
          unfold Cat.fault1 at this
          split at this
          · cases this
          · rename_i n; exact Classical.byContradiction fun q => n (.inl q)
        · have := h1 f hf
          unfold Cat.fault1 at this
          split at this
          · cases this
          · rename_i n; exact Classical.byContradiction fun q => n (.inr q)
        · have := h2 f hf
          rw [scan_none] at this
          have := this g hg
          unfold Cat.fault2g at this
          rw [if_neg (by rw [s.neg hf hg]; exact fun q => q e1), scan_none] at this
          have := this h hh
          unfold Cat.fault2 at this
          split at this
          · cases this
          · rename_i n
            refine Classical.byContradiction fun q => n ⟨?_, q⟩
            have := (s.neg hg hh)
            exact Int.not_lt.1 fun q => this.1 q e2
  · intro h
    have h1 : scan c.fr.length c.fault1 = none := scan_none.2 fun f hf => by
      unfold Cat.fault1
      rw [if_neg]
      rintro (q | q)
      · exact q (h.unl f hf)
      · exact q (h.unr f hf)
    have h2 : (scan c.fr.length fun f => scan c.fr.length fun g => c.fault2g f g) = none := scan_none.2 fun f hf => scan_none.2 fun g hg => by
      unfold Cat.fault2g
      split
      · rfl
      · rename_i n1
        refine scan_none.2 fun h' hh => ?_
        unfold Cat.fault2
        rw [if_neg]
        rintro ⟨q1, q2⟩
        have e1 := s.neg hf hg
        have e2 := s.neg hg hh
        exact q2 (h.ass f g h' hf hg hh (Classical.byContradiction fun q => n1 (e1.2 q)) (Classical.byContradiction fun q => by have := e2.2 q; omega))
    rw [h1, h2]; rfl

theorem Cat.fault1_t {c : Cat} {f : Nat} (h : c.C (c.I (c.F f)) f ≠ f ∨ c.C f (c.I (c.T f)) ≠ f) : c.fault1 f = some ((1 : Int), (f : Int), (0 : Int), (0 : Int)) := if_pos h
theorem Cat.fault1_f {c : Cat} {f : Nat} (h : c.C (c.I (c.F f)) f = f) (k : c.C f (c.I (c.T f)) = f) : c.fault1 f = none := if_neg fun q => q.elim (fun q => q h) fun q => q k
theorem Cat.fault2_t {c : Cat} {f g h : Nat} (a : 0 ≤ c.C g h) (b : c.C (c.C f g) h ≠ c.C f (c.C g h)) : c.fault2 f g h = some ((2 : Int), (f : Int), (g : Int), (h : Int)) := if_pos ⟨a, b⟩
theorem Cat.fault2_f {c : Cat} {f g h : Nat} (a : 0 ≤ c.C g h → c.C (c.C f g) h = c.C f (c.C g h)) : c.fault2 f g h = none := if_neg fun q => q.2 (a q.1)
theorem Cat.fault2g_f {c : Cat} {f g : Nat} (a : c.C f g < 0) : c.fault2g f g = none := if_pos a
theorem Cat.fault2g_t {c : Cat} {f g : Nat} (a : ¬ c.C f g < 0) : c.fault2g f g = scan c.fr.length fun h => c.fault2 f g h := if_neg a
theorem Cat.fault_1 {c : Cat} {f : Nat} {r : Int × Int × Int × Int} (h : scan f c.fault1 = none) (hf : f < c.fr.length) (k : c.fault1 f = some r) : c.fault = r := by
  unfold Cat.fault
  rw [scan_hit hf h k]; rfl
theorem Cat.fault_2 {c : Cat} {f g h : Nat} {r : Int × Int × Int × Int} (a : scan c.fr.length c.fault1 = none) (h1 : scan f (fun f => scan c.fr.length fun g => c.fault2g f g) = none) (hf : f < c.fr.length)
    (h2 : scan g (fun g => c.fault2g f g) = none) (hg : g < c.fr.length) (n : ¬ c.C f g < 0) (h3 : scan h (fun h => c.fault2 f g h) = none) (hh : h < c.fr.length) (k : c.fault2 f g h = some r) : c.fault = r := by
  unfold Cat.fault
  rw [a, scan_hit hf h1 (scan_hit hg h2 (by rw [Cat.fault2g_t n]; exact scan_hit hh h3 k))]; rfl
theorem Cat.fault_0 {c : Cat} (a : scan c.fr.length c.fault1 = none) (h1 : scan c.fr.length (fun f => scan c.fr.length fun g => c.fault2g f g) = none) : c.fault = (0, 0, 0, 0) := by
  unfold Cat.fault
  rw [a, h1]; rfl

/-- The arrows between two objects. -/
def Cat.homI (c : Cat) (x y : Int) (i : Nat) : List Int := coll i fun f => if c.fr.getD f 0 = x ∧ c.to.getD f 0 = y then [(f : Int)] else []
def Cat.hom (c : Cat) (x y : Int) : List Int := c.homI x y c.fr.length
theorem Cat.homI_zero (c : Cat) (x y : Int) : c.homI x y 0 = [] := rfl
/-! ### Functors -/
structure Fun where
  src : Cat
  tgt : Cat
  obs : List Int
  ars : List Int

def Fun.nil : Fun := ⟨.nil, .nil, [], []⟩
abbrev Fun.O (f : Fun) (x : Int) : Int := f.obs.getD x.toNat 0
abbrev Fun.A (f : Fun) (a : Int) : Int := f.ars.getD a.toNat 0

/-- What 'fits' asks of a functor between categories. -/
structure Fits (f : Fun) : Prop where
  obl : (f.obs.length : Int) = f.src.ob
  arl : f.ars.length = f.src.fr.length
  obw : Within f.obs f.tgt.ob
  arw : Within f.ars f.tgt.fr.length
  endf : ∀ a, a < f.ars.length → f.tgt.F (f.ars.getD a 0) = f.O (f.src.F a) ∧ f.tgt.T (f.ars.getD a 0) = f.O (f.src.T a)
  unit : ∀ x, x < f.src.id.length → f.A (f.src.id.getD x 0) = f.tgt.I (f.O x)
  comp : ∀ a b : Nat, a < f.src.fr.length → b < f.src.fr.length → 0 ≤ f.src.C a b → f.A (f.src.C a b) = f.tgt.C (f.A a) (f.A b)

structure IsFun (f : Fun) : Prop where
  src : IsCat f.src
  tgt : IsCat f.tgt
  fits : Fits f

/-! ### Set functors -/
structure SF where
  shape : Cat
  sizes : List Int
  acts : List (List Int)

structure SM where
  src : SF
  tgt : SF
  parts : List (List Int)

def SF.nil : SF := ⟨.nil, [], []⟩
def SM.nil : SM := ⟨.nil, .nil, []⟩

end Go.Cats
end

section

/- Plain law, part 2: small helps for walks. -/
namespace Go.Cats
theorem scan_end {α : Type} {p : Nat → Option α} {i n : Nat} (h : scan i p = none) (a : i ≤ n) (b : n ≤ i) : scan n p = none := by
  have : i = n := by omega
  rw [← this]; exact h
theorem take_snoc {α : Type} {a b : List α} {d : α} {i : Nat} (h : a.take i = b.take i) (ha : i < a.length) (hb : i < b.length) (e : a.getD i d = b.getD i d) : a.take (i + 1) = b.take (i + 1) := by
  have e1 : a.getD i d = a[i] := by simp [List.getD_eq_getElem?_getD, ha]
  have e2 : b.getD i d = b[i] := by simp [List.getD_eq_getElem?_getD, hb]
  rw [e1, e2] at e
  rw [List.take_succ_eq_append_getElem ha, List.take_succ_eq_append_getElem hb, h, e]
theorem take_end {α : Type} {a b : List α} {i : Nat} (h : a.take i = b.take i) (ha : a.length ≤ i) (hb : b.length ≤ i) : a = b := by
  rwa [List.take_of_length_le ha, List.take_of_length_le hb] at h
theorem take_getD {α : Type} {a : List α} {d : α} {i : Nat} (ha : i < a.length) : a.take (i + 1) = a.take i ++ [a.getD i d] := by
  rw [List.take_succ_eq_append_getElem ha]
  simp [List.getD_eq_getElem?_getD, ha]
theorem Cat.eq {c d : Cat} (h1 : c.ob = d.ob) (h2 : c.fr = d.fr) (h3 : c.to = d.to) (h4 : c.id = d.id) (h5 : c.co = d.co) : c = d := by
  cases c; cases d; simp_all
end Go.Cats
end

section

/- Plain law, part 3: set functors and natural maps. -/
namespace Go.Cats

/-- What is read is not too long. -/
structure SFB (f : SF) : Prop where
  shape : CatB f.shape
  sizes : f.sizes.length ≤ 1048576
  acts : f.acts.length ≤ 1048576
  row : ∀ a, a < f.acts.length → (f.acts.getD a []).length ≤ 1048576

abbrev SF.act (f : SF) (a : Nat) : List Int := f.acts.getD a []

structure SFShape (f : SF) : Prop where
  cat : IsCat f.shape
  szl : (f.sizes.length : Int) = f.shape.ob
  szw : Within f.sizes 17
  acl : f.acts.length = f.shape.fr.length
  act : ∀ a, a < f.acts.length → ((f.acts.getD a []).length : Int) = f.sizes.getD (f.shape.fr.getD a 0).toNat 0 ∧ Within (f.acts.getD a []) (f.sizes.getD (f.shape.to.getD a 0).toNat 0)

def SF.fault1 (f : SF) (x e : Nat) : Option (Int × Int × Int × Int) :=
  if (f.acts.getD (f.shape.id.getD x 0).toNat []).getD e 0 ≠ e then some ((1 : Int), (x : Int), (e : Int), (0 : Int)) else none
def SF.fault1x (f : SF) (x : Nat) : Option (Int × Int × Int × Int) := scan (f.acts.getD (f.shape.id.getD x 0).toNat []).length fun e => f.fault1 x e
def SF.fault2 (f : SF) (a b e : Nat) : Option (Int × Int × Int × Int) :=
  if (f.acts.getD ((f.shape.co.getD a []).getD b 0).toNat []).getD e 0 ≠ (f.acts.getD b []).getD ((f.acts.getD a []).getD e 0).toNat 0 then some ((2 : Int), (a : Int), (b : Int), (e : Int)) else none
def SF.fault2b (f : SF) (a b : Nat) : Option (Int × Int × Int × Int) :=
  if (f.shape.co.getD a []).getD b 0 < 0 then none else scan (f.acts.getD a []).length fun e => f.fault2 a b e
def SF.fault2a (f : SF) (a : Nat) : Option (Int × Int × Int × Int) := scan (f.shape.co.getD a []).length fun b => f.fault2b a b
def SF.fault (f : SF) : Int × Int × Int × Int :=
  ((scan f.shape.id.length f.fault1x).or (scan f.shape.co.length f.fault2a)).getD (0, 0, 0, 0)

structure IsSF (f : SF) : Prop extends SFShape f where
  unit : ∀ x, x < f.shape.id.length → ∀ e, e < (f.acts.getD (f.shape.id.getD x 0).toNat []).length → (f.acts.getD (f.shape.id.getD x 0).toNat []).getD e 0 = e
  comp : ∀ a b, a < f.shape.fr.length → b < f.shape.fr.length → 0 ≤ (f.shape.co.getD a []).getD b 0 → ∀ e, e < (f.acts.getD a []).length →
    (f.acts.getD ((f.shape.co.getD a []).getD b 0).toNat []).getD e 0 = (f.acts.getD b []).getD ((f.acts.getD a []).getD e 0).toNat 0

theorem SF.fault1_t {f : SF} {x e : Nat} (h : (f.acts.getD (f.shape.id.getD x 0).toNat []).getD e 0 ≠ e) : f.fault1 x e = some ((1 : Int), (x : Int), (e : Int), (0 : Int)) := if_pos h
theorem SF.fault1_f {f : SF} {x e : Nat} (h : (f.acts.getD (f.shape.id.getD x 0).toNat []).getD e 0 = e) : f.fault1 x e = none := if_neg fun q => q h
theorem SF.fault2_t {f : SF} {a b e : Nat} (h : (f.acts.getD ((f.shape.co.getD a []).getD b 0).toNat []).getD e 0 ≠ (f.acts.getD b []).getD ((f.acts.getD a []).getD e 0).toNat 0) : f.fault2 a b e = some ((2 : Int), (a : Int), (b : Int), (e : Int)) := if_pos h
theorem SF.fault2_f {f : SF} {a b e : Nat} (h : (f.acts.getD ((f.shape.co.getD a []).getD b 0).toNat []).getD e 0 = (f.acts.getD b []).getD ((f.acts.getD a []).getD e 0).toNat 0) : f.fault2 a b e = none := if_neg fun q => q h
theorem SF.fault2b_f {f : SF} {a b : Nat} (h : (f.shape.co.getD a []).getD b 0 < 0) : f.fault2b a b = none := if_pos h
theorem SF.fault2b_t {f : SF} {a b : Nat} (h : ¬ (f.shape.co.getD a []).getD b 0 < 0) : f.fault2b a b = scan (f.acts.getD a []).length fun e => f.fault2 a b e := if_neg h
theorem SF.fault_1 {f : SF} {x e : Nat} {r : Int × Int × Int × Int} (h : scan x f.fault1x = none) (hx : x < f.shape.id.length) (h2 : (scan e fun e => f.fault1 x e) = none) (he : e < (f.acts.getD (f.shape.id.getD x 0).toNat []).length) (k : f.fault1 x e = some r) : f.fault = r := by
  unfold SF.fault
  rw [scan_hit hx h (show f.fault1x x = some r from scan_hit he h2 k)]; rfl
theorem SF.fault_2 {f : SF} {a b e : Nat} {r : Int × Int × Int × Int} (h0 : scan f.shape.id.length f.fault1x = none) (h1 : scan a f.fault2a = none) (ha : a < f.shape.co.length) (h2 : (scan b fun b => f.fault2b a b) = none) (hb : b < (f.shape.co.getD a []).length) (n : ¬ (f.shape.co.getD a []).getD b 0 < 0)
    (h3 : (scan e fun e => f.fault2 a b e) = none) (he : e < (f.acts.getD a []).length) (k : f.fault2 a b e = some r) : f.fault = r := by
  unfold SF.fault
  rw [h0, scan_hit ha h1 (show f.fault2a a = some r from scan_hit hb h2 (by rw [SF.fault2b_t n]; exact scan_hit he h3 k))]; rfl
theorem SF.fault_0 {f : SF} (h0 : scan f.shape.id.length f.fault1x = none) (h1 : scan f.shape.co.length f.fault2a = none) : f.fault = (0, 0, 0, 0) := by
  unfold SF.fault
  rw [h0, h1]; rfl

theorem SFShape.fault_zero {f : SF} (s : SFShape f) : f.fault.1 = 0 ↔ IsSF f := by
  have hco := s.cat.col
  constructor
  · intro h
    unfold SF.fault at h
    cases h1 : scan f.shape.id.length f.fault1x with
    | some r =>
      obtain ⟨x, hx, k⟩ := scan_some h1
      obtain ⟨e, he, k⟩ := scan_some k
      unfold SF.fault1 at k
      split at k
      · simp at k; subst k; simp [h1] at h
      · cases k
    | none =>
      rw [h1] at h
      cases h2 : scan f.shape.co.length f.fault2a with
      | some r =>
        obtain ⟨a, ha, k⟩ := scan_some h2
        obtain ⟨b, hb, k⟩ := scan_some k
        unfold SF.fault2b at k
        split at k
        · cases k
        · obtain ⟨e, he, k⟩ := scan_some k
          unfold SF.fault2 at k
          split at k
          · simp at k; subst k; simp [h2] at h
          · cases k
      | none =>
        refine ⟨s, fun x hx e he => ?_, fun a b ha hb hn e he => ?_⟩
        · have k := scan_none.1 (scan_none.1 h1 x hx) e he
          unfold SF.fault1 at k
          split at k
          · cases k
          · rename_i n; exact Classical.byContradiction n
        · have k := scan_none.1 (scan_none.1 h2 a (by omega)) b (by have := (s.cat.coe a ha).1; omega)
          simp only [SF.fault2b] at k
          rw [if_neg (by omega)] at k
          have k := scan_none.1 k e he
          unfold SF.fault2 at k
          split at k
          · cases k
          · rename_i n; exact Classical.byContradiction n
  · intro h
    rw [SF.fault_0]
    · exact scan_none.2 fun x hx => scan_none.2 fun e he => SF.fault1_f (h.unit x hx e he)
    · refine scan_none.2 fun a ha => scan_none.2 fun b hb => ?_
      by_cases n : (f.shape.co.getD a []).getD b 0 < 0
      · exact SF.fault2b_f n
      · rw [SF.fault2b_t n]
        exact scan_none.2 fun e he => SF.fault2_f (h.comp a b (by omega) (by have := (s.cat.coe a (by omega)).1; omega) (by omega) e he)

/-! ### Natural maps -/
structure SMB (m : SM) : Prop where
  src : SFB m.src
  tgt : SFB m.tgt
  parts : m.parts.length ≤ 1048576
  row : ∀ x, x < m.parts.length → (m.parts.getD x []).length ≤ 1048576

structure SMFits (m : SM) : Prop where
  len : m.parts.length = m.src.sizes.length
  map : ∀ x, x < m.parts.length → ((m.parts.getD x []).length : Int) = m.src.sizes.getD x 0 ∧ Within (m.parts.getD x []) (m.tgt.sizes.getD x 0)
structure SMShape (m : SM) : Prop where
  src : IsSF m.src
  tgt : IsSF m.tgt
  same : m.src.shape = m.tgt.shape
  fits : SMFits m

/-- An element at which a map is not natural. -/
def SM.bad (m : SM) (a e : Nat) : Option (Int × Int) :=
  if (m.parts.getD (m.src.shape.to.getD a 0).toNat []).getD ((m.src.acts.getD a []).getD e 0).toNat 0 ≠ (m.tgt.acts.getD a []).getD ((m.parts.getD (m.src.shape.fr.getD a 0).toNat []).getD e 0).toNat 0 then some ((a : Int), (e : Int)) else none
structure IsSM (m : SM) : Prop extends SMShape m where
  nat : ∀ a, a < m.src.shape.fr.length → ∀ e, e < (m.src.acts.getD a []).length →
    (m.parts.getD (m.src.shape.to.getD a 0).toNat []).getD ((m.src.acts.getD a []).getD e 0).toNat 0 = (m.tgt.acts.getD a []).getD ((m.parts.getD (m.src.shape.fr.getD a 0).toNat []).getD e 0).toNat 0
theorem SF.eq {f g : SF} (h1 : f.shape = g.shape) (h2 : f.sizes = g.sizes) (h3 : f.acts = g.acts) : f = g := by
  cases f; cases g; simp_all
theorem SM.eq {f g : SM} (h1 : f.src = g.src) (h2 : f.tgt = g.tgt) (h3 : f.parts = g.parts) : f = g := by
  cases f; cases g; simp_all
end Go.Cats
end

section

/- Plain law, part 4: places in lists, representable set functors. -/
namespace Go.Cats

/-- The place of a number in a list, or -1. -/
def idxO (l : List Int) (n : Int) (i : Nat) : Option Int := if l.getD i 0 = n then some (i : Int) else none
def idxOf (l : List Int) (n : Int) : Int := (scan l.length (idxO l n)).getD (-1)
theorem idxOf_hit {l : List Int} {n : Int} {i : Nat} (h : scan i (idxO l n) = none) (hi : i < l.length) (k : l.getD i 0 = n) : idxOf l n = i := by
  unfold idxOf
  rw [scan_hit hi h (show idxO l n i = some (i : Int) from if_pos k)]; rfl
theorem idxOf_none {l : List Int} {n : Int} (h : scan l.length (idxO l n) = none) : idxOf l n = -1 := by
  unfold idxOf
  rw [h]; rfl
theorem idxO_f {l : List Int} {n : Int} {i : Nat} (k : ¬ l.getD i 0 = n) : idxO l n i = none := if_neg k
end Go.Cats
end

section

/- Plain law, part 5: the representable set functor and the element of a natural map. -/
namespace Go.Cats

end Go.Cats
end

section

/- Plain law, part 6: the map of an element. -/
namespace Go.Cats

end Go.Cats
end

section

/- Plain law, part 7: composites in shapes; functors. -/
namespace Go.Cats

end Go.Cats
end

section

/- Plain law: the search of natural maps: what one choice sets, the search in depth, its cut. -/
set_option linter.unusedSimpArgs false
set_option linter.unusedVariables false
namespace Go.Cats

/-- The entry i of row y; it is set. -/
abbrev pv (P : List (List Int)) (y i : Nat) : Int := (P.getD y []).getD i 0
def pset (P : List (List Int)) (y i : Nat) (k : Int) : List (List Int) := P.set y ((P.getD y []).set i k)
theorem pset_len (P : List (List Int)) (y i : Nat) (k : Int) : (pset P y i k).length = P.length := by simp [pset]
theorem pset_row {P : List (List Int)} {y i z : Nat} {k : Int} : ((pset P y i k).getD z []).length = (P.getD z []).length := by
  unfold pset
  by_cases h : z = y
  · subst h
    by_cases hz : z < P.length
    · simp [List.getD_eq_getElem?_getD, hz]
    · simp [List.getD_eq_getElem?_getD, hz]
  · simp [List.getD_eq_getElem?_getD, List.getElem?_set_ne (Ne.symm h)]
theorem pset_same {P : List (List Int)} {y i : Nat} {k : Int} (hy : y < P.length) (hi : i < (P.getD y []).length) : pv (pset P y i k) y i = k := by
  unfold pv pset
  rw [List.getD_eq_getElem?_getD (l := P.set y _), List.getElem?_set_self hy]
  simp only [Option.getD_some]
  rw [List.getD_eq_getElem?_getD, List.getElem?_set_self hi]
  rfl
theorem pset_other {P : List (List Int)} {y i z j : Nat} {k : Int} (h : ¬ (z = y ∧ j = i)) : pv (pset P y i k) z j = pv P z j := by
  unfold pv pset
  by_cases hz : z = y
  · subst hz
    have hj : j ≠ i := fun e => h ⟨rfl, e⟩
    by_cases hl : z < P.length
    · rw [List.getD_eq_getElem?_getD (l := P.set z _), List.getElem?_set_self hl]
      simp only [Option.getD_some]
      rw [List.getD_eq_getElem?_getD, List.getElem?_set_ne (Ne.symm hj), ← List.getD_eq_getElem?_getD]
    · rw [List.set_eq_of_length_le (by omega)]
  · rw [List.getD_eq_getElem?_getD (l := P.set y _), List.getElem?_set_ne (Ne.symm hz), ← List.getD_eq_getElem?_getD]

section
variable (f g : SF) (once : Bool)
abbrev SF.av (f : SF) (a : Nat) (e : Nat) : Int := (f.acts.getD a []).getD e 0
abbrev SF.ty (f : SF) (a : Nat) : Nat := (f.shape.to.getD a 0).toNat
abbrev SF.fx (f : SF) (a : Nat) : Nat := (f.shape.fr.getD a 0).toNat
/-- One arrow's part of a choice: the element e goes to u. -/
def stepS (e u : Nat) (P : List (List Int)) (a : Nat) : Option (List (List Int)) :=
  if 0 ≤ pv P (f.ty a) (f.av a e).toNat then (if pv P (f.ty a) (f.av a e).toNat = g.av a u then some P else none)
  else if once = true ∧ g.av a u ∈ P.getD (f.ty a) [] then none else some (pset P (f.ty a) (f.av a e).toNat (g.av a u))
/-- The arrows out of x up to a number. -/
def setN (x e u : Nat) (P : List (List Int)) : Nat → Option (List (List Int))
  | 0 => some P
  | n + 1 => (setN x e u P n).bind fun Q => if f.shape.fr.getD n 0 = x then stepS f g once e u Q n else some Q
def setS (x e u : Nat) (P : List (List Int)) : Option (List (List Int)) := setN f g once x e u P f.shape.fr.length
/-- What holds while one searches. -/
structure Good (P : List (List Int)) : Prop where
  len : P.length = f.sizes.length
  row : ∀ y, y < P.length → ((P.getD y []).length : Int) = f.sizes.getD y 0
  rng : ∀ y i, y < P.length → i < (P.getD y []).length → -1 ≤ pv P y i ∧ pv P y i < g.sizes.getD y 0
  cl : ∀ b i, b < f.shape.fr.length → i < (P.getD (f.fx b) []).length → 0 ≤ pv P (f.fx b) i → pv P (f.ty b) (f.av b i).toNat = g.av b (pv P (f.fx b) i).toNat
  inj : once = true → ∀ y i j, y < P.length → i < (P.getD y []).length → j < (P.getD y []).length → 0 ≤ pv P y i → pv P y i = pv P y j → i = j
/-- The one says no less than the other. -/
def Ext' (P Q : List (List Int)) : Prop := P.length = Q.length ∧ (∀ y, (P.getD y []).length = (Q.getD y []).length) ∧ ∀ y i, y < P.length → i < (P.getD y []).length → 0 ≤ pv P y i → pv Q y i = pv P y i
end
theorem Ext'.refl (P : List (List Int)) : Ext' P P := ⟨rfl, fun _ => rfl, fun _ _ _ _ _ => rfl⟩
theorem Ext'.trans {P Q R : List (List Int)} (h : Ext' P Q) (k : Ext' Q R) : Ext' P R :=
  ⟨h.1.trans k.1, fun y => (h.2.1 y).trans (k.2.1 y), fun y i hy hi h0 => by
    have e1 := h.2.2 y i hy hi h0
    have e2 := k.2.2 y i (by rw [← h.1]; exact hy) (by rw [← h.2.1]; exact hi) (by rw [e1]; exact h0)
    rw [e2, e1]⟩
theorem Ext'.pset {P : List (List Int)} {y i : Nat} {k : Int} (h : ¬ 0 ≤ pv P y i) : Ext' P (pset P y i k) :=
  ⟨(pset_len P y i k).symm, fun z => pset_row.symm, fun z j hz hj h0 => pset_other fun ⟨e1, e2⟩ => h (by subst e1; subst e2; exact h0)⟩

variable {f g : SF} {once : Bool} {x e u : Nat} {P Q : List (List Int)}
theorem stepS_ext {a : Nat} (h : stepS f g once e u P a = some Q) : Ext' P Q := by
  unfold stepS at h
  split at h
  · split at h
    · simp only [Option.some.injEq] at h; subst h; exact .refl _
    · cases h
  · rename_i h0
    split at h
    · cases h
    · simp only [Option.some.injEq] at h; subst h; exact .pset h0
theorem setN_ext : ∀ (n : Nat) (Q : List (List Int)), setN f g once x e u P n = some Q → Ext' P Q
  | 0, Q, h => by simp only [setN, Option.some.injEq] at h; subst h; exact .refl _
  | n + 1, Q, h => by
    unfold setN at h
    obtain ⟨R, h1, h2⟩ := Option.bind_eq_some_iff.1 h
    refine (setN_ext n R h1).trans ?_
    split at h2
    · exact stepS_ext h2
    · simp only [Option.some.injEq] at h2; subst h2; exact .refl _
/-- A choice that a full and good map agrees with can be made; what is set agrees with it. -/
theorem stepS_of {a : Nat} (hQ : Good f g once Q) (hfull : ∀ y i, y < Q.length → i < (Q.getD y []).length → 0 ≤ pv Q y i) (hP : Ext' P Q) (ha : a < f.shape.fr.length) (hx : f.fx a < Q.length) (hy : f.ty a < Q.length)
    (he : e < (Q.getD (f.fx a) []).length) (hi : (f.av a e).toNat < (Q.getD (f.ty a) []).length) (hu : pv Q (f.fx a) e = u) : ∃ R, stepS f g once e u P a = some R ∧ Ext' R Q := by
  have hc := hQ.cl a e ha he (hfull _ _ hx he)
  rw [hu] at hc
  have hc' : pv Q (f.ty a) (f.av a e).toNat = g.av a u := by simpa using hc
  unfold stepS
  split
  · rename_i h0
    have e1 := hP.2.2 (f.ty a) (f.av a e).toNat (by rw [hP.1]; exact hy) (by rw [hP.2.1]; exact hi) h0
    rw [if_pos (by rw [← e1]; exact hc')]
    exact ⟨P, rfl, hP⟩
  · rename_i h0
    rw [if_neg ?_]
    · refine ⟨_, rfl, (pset_len ..).trans hP.1, fun z => pset_row.trans (hP.2.1 z), fun z j hz hj h1 => ?_⟩
      rw [pset_len] at hz
      rw [pset_row] at hj
      by_cases hzj : z = f.ty a ∧ j = (f.av a e).toNat
      · obtain ⟨rfl, rfl⟩ := hzj
        rw [pset_same hz hj, hc']
      · rw [pset_other hzj] at h1 ⊢
        exact hP.2.2 z j hz hj h1
    · rintro ⟨ho, hm⟩
      obtain ⟨j, hj, hje⟩ := List.getElem_of_mem hm
      have hyP : f.ty a < P.length := by rw [hP.1]; exact hy
      have hjQ : j < (Q.getD (f.ty a) []).length := by rw [← hP.2.1]; exact hj
      have hv : pv P (f.ty a) j = g.av a u := by
        unfold pv
        rw [List.getD_eq_getElem?_getD (l := P.getD (f.ty a) []), List.getElem?_eq_getElem hj, Option.getD_some, hje]
      have h2 : 0 ≤ pv P (f.ty a) j := by rw [hv, ← hc']; exact hfull _ _ hy hi
      have h3 := hP.2.2 _ j hyP hj h2
      have h4 := hQ.inj ho (f.ty a) j _ hy hjQ hi (hfull _ _ hy hjQ) (by rw [h3, hv, hc'])
      subst h4
      exact h0 h2
/-- The shapes that a search is about. -/
structure SPair (f g : SF) : Prop where
  src : IsSF f
  tgt : IsSF g
  one : f.shape = g.shape
theorem SPair.ft (h : SPair f g) {a : Nat} (ha : a < f.shape.fr.length) : f.fx a < f.sizes.length ∧ f.ty a < f.sizes.length ∧ f.shape.fr.getD a 0 = f.fx a ∧ f.shape.to.getD a 0 = f.ty a := by
  have h1 := h.src.cat.frw a ha
  have h2 := h.src.cat.tow a (by rw [h.src.cat.tol]; exact ha)
  have h3 := h.src.szl
  unfold SF.fx SF.ty
  omega
theorem SPair.fa (h : SPair f g) {a e : Nat} (ha : a < f.shape.fr.length) (he : (e : Int) < f.sizes.getD (f.fx a) 0) : 0 ≤ f.av a e ∧ f.av a e < f.sizes.getD (f.ty a) 0 := by
  have h1 := h.src.act a (by rw [h.src.acl]; exact ha)
  exact h1.2 e (by have := h1.1; unfold SF.fx at he; omega)
theorem SPair.ga (h : SPair f g) {a u : Nat} (ha : a < f.shape.fr.length) (hu : (u : Int) < g.sizes.getD (f.fx a) 0) : 0 ≤ g.av a u ∧ g.av a u < g.sizes.getD (f.ty a) 0 := by
  have h1 := h.tgt.act a (by rw [h.tgt.acl, ← h.one]; exact ha)
  rw [← h.one] at h1
  exact h1.2 u (by have := h1.1; unfold SF.fx at hu; omega)

theorem setN_of (h : SPair f g) (hQ : Good f g once Q) (hfull : ∀ y i, y < Q.length → i < (Q.getD y []).length → 0 ≤ pv Q y i) (hx : x < Q.length) (he : e < (Q.getD x []).length) (hu : pv Q x e = u) :
    ∀ (n : Nat), n ≤ f.shape.fr.length → ∀ P, Ext' P Q → ∃ R, setN f g once x e u P n = some R ∧ Ext' R Q
  | 0, _, P, hP => ⟨P, rfl, hP⟩
  | n + 1, hn, P, hP => by
    obtain ⟨R, h1, h2⟩ := setN_of h hQ hfull hx he hu n (by omega) P hP
    unfold setN
    rw [h1, Option.bind_some]
    split
    · rename_i hfr
      obtain ⟨b1, b2, b3, b4⟩ := h.ft (a := n) (by omega)
      have ex : f.fx n = x := by omega
      have hrow := hQ.row x hx
      have hlen := hQ.len
      have hfa := h.fa (a := n) (e := e) (by omega) (by rw [ex]; omega)
      have hty : f.ty n < Q.length := by omega
      have hrow2 := hQ.row (f.ty n) hty
      exact stepS_of hQ hfull h2 (by omega) (by rw [ex]; exact hx) hty (by rw [ex]; exact he) (by omega) (by rw [ex]; exact hu)
    · exact ⟨R, rfl, h2⟩
theorem setS_of (h : SPair f g) (hQ : Good f g once Q) (hfull : ∀ y i, y < Q.length → i < (Q.getD y []).length → 0 ≤ pv Q y i) (hx : x < Q.length) (he : e < (Q.getD x []).length) (hu : pv Q x e = u) (hP : Ext' P Q) : ∃ R, setS f g once x e u P = some R ∧ Ext' R Q :=
  setN_of h hQ hfull hx he hu _ (Nat.le_refl _) P hP
/-- What holds at every step of a choice. -/
structure Gd (f g : SF) (once : Bool) (P : List (List Int)) : Prop where
  len : P.length = f.sizes.length
  row : ∀ y, y < P.length → ((P.getD y []).length : Int) = f.sizes.getD y 0
  rng : ∀ y i, y < P.length → i < (P.getD y []).length → -1 ≤ pv P y i ∧ pv P y i < g.sizes.getD y 0
  inj : once = true → ∀ y i j, y < P.length → i < (P.getD y []).length → j < (P.getD y []).length → 0 ≤ pv P y i → pv P y i = pv P y j → i = j
theorem Good.gd (h : Good f g once P) : Gd f g once P := ⟨h.len, h.row, h.rng, h.inj⟩
theorem mem_pv {P : List (List Int)} {y j : Nat} (h : j < (P.getD y []).length) : pv P y j ∈ P.getD y [] := by
  unfold pv
  rw [List.getD_eq_getElem?_getD (l := P.getD y []), List.getElem?_eq_getElem h, Option.getD_some]
  exact List.getElem_mem h
theorem stepS_gd {a : Nat} (h : SPair f g) (hP : Gd f g once P) (ha : a < f.shape.fr.length) (he : (e : Int) < f.sizes.getD (f.fx a) 0) (hu : (u : Int) < g.sizes.getD (f.fx a) 0) (hs : stepS f g once e u P a = some Q) :
    Gd f g once Q ∧ pv Q (f.ty a) (f.av a e).toNat = g.av a u ∧ ∀ y i, y < Q.length → i < (Q.getD y []).length → 0 ≤ pv Q y i → 0 ≤ pv P y i ∨ (y = f.ty a ∧ i = (f.av a e).toNat) := by
  obtain ⟨b1, b2, b3, b4⟩ := h.ft ha
  have fa := h.fa ha he
  have ga := h.ga ha hu
  have hl := hP.len
  have hy : f.ty a < P.length := by omega
  have hrow := hP.row _ hy
  have hi : (f.av a e).toNat < (P.getD (f.ty a) []).length := by omega
  unfold stepS at hs
  split at hs
  · split at hs
    · rename_i e1
      simp only [Option.some.injEq] at hs; subst hs
      exact ⟨hP, e1, fun y i _ _ h => .inl h⟩
    · cases hs
  · rename_i h0
    split at hs
    · cases hs
    · rename_i hno
      simp only [Option.some.injEq] at hs; subst hs
      refine ⟨⟨(pset_len ..).trans hl, fun y hy' => ?_, fun y i hy' hi' => ?_, fun ho y i j hy' hi' hj' h1 h2 => ?_⟩, pset_same hy hi, fun y i hy' hi' h1 => ?_⟩
      · rw [pset_row]; exact hP.row y (by rwa [pset_len] at hy')
      · rw [pset_len] at hy'; rw [pset_row] at hi'
        by_cases hc : y = f.ty a ∧ i = (f.av a e).toNat
        · obtain ⟨rfl, rfl⟩ := hc
          rw [pset_same hy' hi']; omega
        · rw [pset_other hc]; exact hP.rng y i hy' hi'
      · rw [pset_len] at hy'; rw [pset_row] at hi' hj'
        have hnm : ∀ l, l < (P.getD (f.ty a) []).length → pv P (f.ty a) l ≠ g.av a u := fun l hl' e1 => hno ⟨ho, e1 ▸ mem_pv hl'⟩
        by_cases hc : y = f.ty a ∧ i = (f.av a e).toNat
        · obtain ⟨rfl, rfl⟩ := hc
          by_cases hd : j = (f.av a e).toNat
          · exact hd.symm
          · rw [pset_same hy' hi', pset_other (fun q => hd q.2)] at h2
            exact absurd h2.symm (hnm j hj')
        · rw [pset_other hc] at h1 h2
          by_cases hd : y = f.ty a ∧ j = (f.av a e).toNat
          · obtain ⟨rfl, rfl⟩ := hd
            rw [pset_same hy' hj'] at h2
            exact absurd h2 (hnm i hi')
          · rw [pset_other hd] at h2
            exact hP.inj ho y i j hy' hi' hj' h1 h2
      · by_cases hc : y = f.ty a ∧ i = (f.av a e).toNat
        · exact .inr hc
        · rw [pset_other hc] at h1; exact .inl h1
theorem setN_gd (h : SPair f g) (he : (e : Int) < f.sizes.getD x 0) (hu : (u : Int) < g.sizes.getD x 0) (hP : Gd f g once P) : ∀ (n : Nat), n ≤ f.shape.fr.length → ∀ Q, setN f g once x e u P n = some Q →
    Gd f g once Q ∧ (∀ a, a < n → f.shape.fr.getD a 0 = x → pv Q (f.ty a) (f.av a e).toNat = g.av a u) ∧ ∀ y i, y < Q.length → i < (Q.getD y []).length → 0 ≤ pv Q y i → 0 ≤ pv P y i ∨ ∃ a, a < n ∧ f.shape.fr.getD a 0 = x ∧ y = f.ty a ∧ i = (f.av a e).toNat
  | 0, _, Q, hs => by
    simp only [setN, Option.some.injEq] at hs; subst hs
    exact ⟨hP, fun a ha => by omega, fun y i _ _ h => .inl h⟩
  | n + 1, hn, Q, hs => by
    unfold setN at hs
    obtain ⟨R, h1, h2⟩ := Option.bind_eq_some_iff.1 hs
    obtain ⟨g1, g2, g3⟩ := setN_gd h he hu hP n (by omega) R h1
    split at h2
    · rename_i hfr
      obtain ⟨b1, b2, b3, b4⟩ := h.ft (a := n) (by omega)
      have ex : f.fx n = x := by omega
      obtain ⟨k1, k2, k3⟩ := stepS_gd h g1 (by omega) (by rw [ex]; exact he) (by rw [ex]; exact hu) h2
      have hx := stepS_ext h2
      refine ⟨k1, fun a ha hax => ?_, fun y i hy hi h0 => ?_⟩
      · by_cases e1 : a = n
        · subst e1; exact k2
        · have e2 := g2 a (by omega) hax
          obtain ⟨c1, c2, c3, c4⟩ := h.ft (a := a) (by omega)
          have exa : f.fx a = x := by omega
          have fa := h.fa (a := a) (e := e) (by omega) (by rw [exa]; exact he)
          have ga := h.ga (a := a) (u := u) (by omega) (by rw [exa]; exact hu)
          have hyR : f.ty a < R.length := by rw [g1.len]; exact c2
          have hrow := g1.row _ hyR
          rw [hx.2.2 _ _ hyR (by omega) (by rw [e2]; exact ga.1), e2]
      · rcases k3 y i hy hi h0 with h4 | ⟨h4, h5⟩
        · rcases g3 y i (by rw [hx.1]; exact hy) (by rw [hx.2.1]; exact hi) h4 with h6 | ⟨a, a1, a2, a3, a4⟩
          · exact .inl h6
          · exact .inr ⟨a, by omega, a2, a3, a4⟩
        · exact .inr ⟨n, by omega, hfr, h4, h5⟩
    · rename_i hfr
      simp only [Option.some.injEq] at h2; subst h2
      refine ⟨g1, fun a ha hax => g2 a (by
        by_cases e1 : a = n
        · subst e1; exact absurd hax hfr
        · omega) hax, fun y i hy hi h0 => ?_⟩
      rcases g3 y i hy hi h0 with h6 | ⟨a, a1, a2, a3, a4⟩
      · exact .inl h6
      · exact .inr ⟨a, by omega, a2, a3, a4⟩
/-- A choice that can be made keeps what holds. -/
theorem good_set (h : SPair f g) (hP : Good f g once P) (hx : x < P.length) (he : e < (P.getD x []).length) (hu : (u : Int) < g.sizes.getD x 0) (hs : setS f g once x e u P = some Q) : Good f g once Q ∧ Ext' P Q ∧ pv Q x e = u := by
  have hrow := hP.row x hx
  have he' : (e : Int) < f.sizes.getD x 0 := by omega
  obtain ⟨g1, g2, g3⟩ := setN_gd h he' hu hP.gd _ (Nat.le_refl _) Q hs
  have hx' := setN_ext _ _ hs
  have hc := h.src.cat
  have hl := hP.len
  refine ⟨⟨g1.len, g1.row, g1.rng, fun b i hb hi h0 => ?_, g1.inj⟩, hx', ?_⟩
  · obtain ⟨b1, b2, b3, b4⟩ := h.ft hb
    have hyQ : f.fx b < Q.length := by rw [g1.len]; exact b1
    rcases g3 _ i hyQ hi h0 with h1 | ⟨a, a1, a2, a3, a4⟩
    · have hyP : f.fx b < P.length := by rw [hl]; exact b1
      have hiP : i < (P.getD (f.fx b) []).length := by rw [hx'.2.1]; exact hi
      have e1 := hP.cl b i hb hiP h1
      have e2 := hx'.2.2 _ i hyP hiP h1
      have r1 := hP.row _ hyP
      have r2 := hP.rng _ i hyP hiP
      have fa := h.fa (a := b) (e := i) hb (by omega)
      have ga := h.ga (a := b) (u := (pv P (f.fx b) i).toNat) hb (by omega)
      have hyT : f.ty b < P.length := by rw [hl]; exact b2
      have r3 := hP.row _ hyT
      rw [e2, hx'.2.2 _ _ hyT (by omega) (by rw [e1]; exact ga.1), e1]
    · obtain ⟨c1, c2, c3, c4⟩ := h.ft a1
      have hab : f.shape.to.getD a 0 = f.shape.fr.getD b 0 := by rw [c4, b3, a3]
      have hE := (hc.coe a a1).2 b hb
      unfold Cat.Entry at hE
      rcases hE with ⟨_, ⟨m0, m1⟩, m2, m3⟩ | ⟨hne, _⟩
      · have k1 := h.src.comp a b a1 hb (by simpa [Cat.C] using m0) e (by
          have := (h.src.act a (by rw [h.src.acl]; exact a1)).1
          rw [a2, Int.toNat_natCast] at this; omega)
        have hEg := (h.tgt.cat.coe a (by rw [← h.one]; exact a1)).2 b (by rw [← h.one]; exact hb)
        have k2 := h.tgt.comp a b (by rw [← h.one]; exact a1) (by rw [← h.one]; exact hb) (by rw [← h.one]; simpa [Cat.C] using m0) u (by
          have := (h.tgt.act a (by rw [h.tgt.acl, ← h.one]; exact a1)).1
          rw [← h.one, a2, Int.toNat_natCast] at this; omega)
        rw [← h.one] at k2
        have hm : ((f.shape.co.getD a []).getD b 0).toNat < f.shape.fr.length := by simp [Cat.C] at m0 m1 ⊢; omega
        have q1 := g2 _ hm (by rw [← a2]; simpa [Cat.C, Cat.F] using m2)
        have q2 : f.ty ((f.shape.co.getD a []).getD b 0).toNat = f.ty b := by
          unfold SF.ty
          have : f.shape.to.getD ((f.shape.co.getD a []).getD b 0).toNat 0 = f.shape.to.getD b 0 := by simpa [Cat.C, Cat.T] using m3
          rw [this]
        have q3 : f.av ((f.shape.co.getD a []).getD b 0).toNat e = f.av b i := by rw [a4]; exact k1
        have q4 : g.av ((f.shape.co.getD a []).getD b 0).toNat u = g.av b (g.av a u).toNat := k2
        have q5 := g2 a a1 a2
        rw [q2, q3, q4] at q1
        rw [a3, a4, q5, ← a4]
        exact q1
      · exact absurd hab hne
  · have hxi : x < f.shape.id.length := by have := h.src.szl; have := hc.idl; omega
    have w := hc.idw x hxi
    have w2 := hc.ide x hxi
    have hm : (f.shape.id.getD x 0).toNat < f.shape.fr.length := by omega
    have q1 := g2 _ hm (by simpa [Cat.F] using w2.1)
    have q2 : f.ty (f.shape.id.getD x 0).toNat = x := by
      unfold SF.ty
      have : f.shape.to.getD (f.shape.id.getD x 0).toNat 0 = x := by simpa [Cat.T] using w2.2
      rw [this]; omega
    have q6 : f.shape.fr.getD (f.shape.id.getD x 0).toNat 0 = x := by simpa [Cat.F] using w2.1
    have q3 : f.av (f.shape.id.getD x 0).toNat e = e := h.src.unit x hxi e (by
      have := (h.src.act _ (by rw [h.src.acl]; exact hm)).1
      rw [q6, Int.toNat_natCast] at this; omega)
    have q4 : g.av (f.shape.id.getD x 0).toNat u = u := by
      have := h.tgt.unit x (by rw [← h.one]; exact hxi) u (by
        rw [← h.one]
        have := (h.tgt.act (f.shape.id.getD x 0).toNat (by rw [h.tgt.acl, ← h.one]; exact hm)).1
        rw [← h.one, q6, Int.toNat_natCast] at this; omega)
      rw [← h.one] at this
      exact this
    rw [q2, q3, q4] at q1
    simpa using q1
end Go.Cats
end

section

/- Plain law: the search in depth; its cut is sound. -/
set_option linter.unusedSimpArgs false
set_option linter.unusedVariables false
namespace Go.Cats

/-- The first place that is not set. -/
def fuI (P : List (List Int)) (y : Nat) (i : Nat) : Option (Nat × Nat) := if pv P y i < 0 then some (y, i) else none
def fuR (P : List (List Int)) (y : Nat) : Option (Nat × Nat) := scan (P.getD y []).length (fuI P y)
def fuP (P : List (List Int)) : Option (Nat × Nat) := scan P.length (fuR P)
theorem fuI_some {P : List (List Int)} {y i : Nat} {r : Nat × Nat} (h : fuI P y i = some r) : r = (y, i) ∧ pv P y i < 0 := by
  unfold fuI at h
  split at h
  · rename_i h0; exact ⟨(Option.some.inj h).symm, h0⟩
  · cases h
theorem fuP_some {P : List (List Int)} {y i : Nat} (h : fuP P = some (y, i)) : y < P.length ∧ i < (P.getD y []).length ∧ pv P y i < 0 := by
  obtain ⟨z, hz, h1⟩ := scan_some h
  obtain ⟨j, hj, h2⟩ := scan_some h1
  obtain ⟨h3, h4⟩ := fuI_some h2
  simp only [Prod.mk.injEq] at h3
  obtain ⟨rfl, rfl⟩ := h3
  exact ⟨hz, hj, h4⟩
theorem fuP_none {P : List (List Int)} : fuP P = none ↔ ∀ y i, y < P.length → i < (P.getD y []).length → 0 ≤ pv P y i := by
  unfold fuP
  rw [scan_none]
  constructor
  · intro h y i hy hi
    have h1 := scan_none.1 (h y hy) i hi
    unfold fuI at h1
    split at h1
    · cases h1
    · omega
  · intro h y hy
    refine scan_none.2 fun i hi => ?_
    have := h y i hy hi
    unfold fuI
    rw [if_neg (by omega)]

section
variable (f g : SF) (once : Bool)
/-- The maps that are found below what is known, in order. -/
def dfs : Nat → List (List Int) → List (List (List Int))
  | 0, _ => []
  | n + 1, P => match fuP P with
    | none => [P]
    | some (x, e) => (List.range (g.sizes.getD x 0).toNat).flatMap fun u => match setS f g once x e u P with
      | none => []
      | some Q => dfs n Q
end
variable {f g : SF} {once : Bool} {x e u : Nat} {P Q : List (List Int)}
theorem dfs_good (h : SPair f g) : ∀ (n : Nat) (P : List (List Int)), Good f g once P → ∀ Q, Q ∈ dfs f g once n P → Good f g once Q ∧ Ext' P Q ∧ fuP Q = none
  | 0, P, hP, Q, hQ => by simp [dfs] at hQ
  | n + 1, P, hP, Q, hQ => by
    unfold dfs at hQ
    split at hQ
    · rename_i h0
      simp only [List.mem_singleton] at hQ
      subst hQ
      exact ⟨hP, .refl _, h0⟩
    · rename_i x e h0
      obtain ⟨u, hu, hm⟩ := List.mem_flatMap.1 hQ
      have hu' := List.mem_range.1 hu
      obtain ⟨p1, p2, p3⟩ := fuP_some h0
      split at hm
      · cases hm
      · rename_i R hR
        obtain ⟨g1, g2, g3⟩ := good_set h hP p1 p2 (by omega) hR
        obtain ⟨k1, k2, k3⟩ := dfs_good h n R g1 Q hm
        exact ⟨k1, g2.trans k2, k3⟩
/-- A place that no choice fits: nothing is found. -/
theorem dfs_cut (h : SPair f g) {n : Nat} (hP : Good f g once P) {y d : Nat} (hy : y < P.length) (hd : d < (P.getD y []).length) (hno : ∀ u : Nat, (u : Int) < g.sizes.getD y 0 → setS f g once y d u P = none) : dfs f g once n P = [] := by
  rw [List.eq_nil_iff_forall_not_mem]
  intro Q hQ
  obtain ⟨q1, q2, q3⟩ := dfs_good h n P hP Q hQ
  have hfull := fuP_none.1 q3
  have hyQ : y < Q.length := by rw [← q2.1]; exact hy
  have hdQ : d < (Q.getD y []).length := by rw [← q2.2.1]; exact hd
  have hv := hfull y d hyQ hdQ
  have hr := q1.rng y d hyQ hdQ
  obtain ⟨R, hR, _⟩ := setS_of (u := (pv Q y d).toNat) h q1 hfull hyQ hdQ (by omega) q2
  rw [hno _ (by omega)] at hR
  cases hR
/-- How much is not set. -/
def nu (P : List (List Int)) : Nat := (P.map fun r => (r.filter fun v => decide (v < 0)).length).sum
theorem filt_le : ∀ {r s : List Int}, r.length = s.length → (∀ i, i < r.length → 0 ≤ r.getD i 0 → s.getD i 0 = r.getD i 0) → (s.filter fun v => decide (v < 0)).length ≤ (r.filter fun v => decide (v < 0)).length
  | [], [], _, _ => Nat.le_refl _
  | [], _ :: _, h, _ => by simp at h
  | _ :: _, [], h, _ => by simp at h
  | a :: r, b :: s, hl, h => by
    have ih := filt_le (r := r) (s := s) (by simpa using hl) (fun i hi h0 => by
      have := h (i + 1) (by simp; omega) (by simpa using h0)
      simpa using this)
    have h0 := h 0 (by simp)
    simp only [List.getD_cons_zero] at h0
    simp only [List.filter_cons]
    by_cases ha : a < 0
    · by_cases hb : b < 0
      · simp [ha, hb]; exact ih
      · simp [ha, hb]; omega
    · have := h0 (by omega)
      subst this
      simp [ha]; exact ih
theorem filt_lt : ∀ {r s : List Int}, r.length = s.length → (∀ i, i < r.length → 0 ≤ r.getD i 0 → s.getD i 0 = r.getD i 0) → ∀ j, j < r.length → r.getD j 0 < 0 → 0 ≤ s.getD j 0 → (s.filter fun v => decide (v < 0)).length < (r.filter fun v => decide (v < 0)).length
  | [], _, _, _, j, hj, _, _ => by simp at hj
  | _ :: _, [], h, _, _, _, _, _ => by simp at h
  | a :: r, b :: s, hl, h, j, hj, h1, h2 => by
    have hl' : r.length = s.length := by simpa using hl
    have hs : ∀ i, i < r.length → 0 ≤ r.getD i 0 → s.getD i 0 = r.getD i 0 := fun i hi h0 => by
      have := h (i + 1) (by simp; omega) (by simpa using h0)
      simpa using this
    have h0 := h 0 (by simp)
    simp only [List.getD_cons_zero] at h0
    simp only [List.filter_cons]
    cases j with
    | zero =>
      have ha : a < 0 := by simpa using h1
      have hb : ¬ b < 0 := by have : 0 ≤ b := by simpa using h2
                              omega
      have := filt_le hl' hs
      simp [ha, hb]; omega
    | succ j =>
      have ih := filt_lt hl' hs j (by simpa using hj) (by simpa using h1) (by simpa using h2)
      by_cases ha : a < 0
      · by_cases hb : b < 0
        · simp [ha, hb]; exact ih
        · simp [ha, hb]; omega
      · have := h0 (by omega)
        subst this
        simp [ha]; exact ih
theorem nu_le : ∀ {P Q : List (List Int)}, P.length = Q.length → (∀ y, y < P.length → ((Q.getD y []).filter fun v => decide (v < 0)).length ≤ ((P.getD y []).filter fun v => decide (v < 0)).length) → nu Q ≤ nu P
  | [], [], _, _ => Nat.le_refl _
  | [], _ :: _, h, _ => by simp at h
  | _ :: _, [], h, _ => by simp at h
  | a :: P, b :: Q, hl, h => by
    have ih := nu_le (P := P) (Q := Q) (by simpa using hl) (fun y hy => by simpa using h (y + 1) (by simp; omega))
    have h0 := h 0 (by simp)
    simp only [List.getD_cons_zero] at h0
    simp only [nu, List.map_cons, List.sum_cons] at ih ⊢
    omega
theorem nu_lt : ∀ {P Q : List (List Int)}, P.length = Q.length → (∀ y, y < P.length → ((Q.getD y []).filter fun v => decide (v < 0)).length ≤ ((P.getD y []).filter fun v => decide (v < 0)).length) → ∀ z, z < P.length → ((Q.getD z []).filter fun v => decide (v < 0)).length < ((P.getD z []).filter fun v => decide (v < 0)).length → nu Q < nu P
  | [], _, _, _, z, hz, _ => by simp at hz
  | _ :: _, [], h, _, _, _, _ => by simp at h
  | a :: P, b :: Q, hl, h, z, hz, hlt => by
    have hl' : P.length = Q.length := by simpa using hl
    have hs : ∀ y, y < P.length → ((Q.getD y []).filter fun v => decide (v < 0)).length ≤ ((P.getD y []).filter fun v => decide (v < 0)).length := fun y hy => by simpa using h (y + 1) (by simp; omega)
    have h0 := h 0 (by simp)
    simp only [List.getD_cons_zero] at h0
    cases z with
    | zero =>
      have := nu_le hl' hs
      simp only [List.getD_cons_zero] at hlt
      simp only [nu, List.map_cons, List.sum_cons] at this ⊢
      omega
    | succ z =>
      have ih := nu_lt hl' hs z (by simpa using hz) (by simpa using hlt)
      simp only [nu, List.map_cons, List.sum_cons] at ih ⊢
      omega
theorem nu_set (h : Ext' P Q) (hx : x < P.length) (he : e < (P.getD x []).length) (h0 : pv P x e < 0) (h1 : 0 ≤ pv Q x e) : nu Q < nu P :=
  nu_lt h.1 (fun y hy => filt_le (h.2.1 y) fun i hi q => h.2.2 y i hy hi q) x hx (filt_lt (h.2.1 x) (fun i hi q => h.2.2 x i hx hi q) e he h0 h1)
end Go.Cats
end

section

/- Plain law: one choice, arrow by arrow, with its note; the way back. -/
set_option linter.unusedSimpArgs false
set_option linter.unusedVariables false
namespace Go.Cats

section
variable (f g : SF) (once : Bool)
/-- Is the place of an arrow's part not set yet? -/
def newS (e : Nat) (P : List (List Int)) (a : Nat) : Prop := ¬ 0 ≤ pv P (f.ty a) (f.av a e).toNat
instance (e : Nat) (P : List (List Int)) (a : Nat) : Decidable (newS f e P a) := by unfold newS; infer_instance
/-- The arrows of a list one behind the other: has all gone well; what is known; what has been set. -/
def setL (e u : Nat) : List Nat → List (List Int) → List (Int × Int) → Bool × List (List Int) × List (Int × Int)
  | [], P, N => (true, P, N)
  | a :: l, P, N => match stepS f g once e u P a with
    | none => (false, P, N)
    | some Q => setL e u l Q (if newS f e P a then N ++ [((f.ty a : Int), f.av a e)] else N)
/-- The arrows out of an object, up to a number. -/
def outN (c : Cat) (x : Nat) (n : Nat) : List Nat := (List.range n).filter fun a => decide (c.fr.getD a 0 = x)
end
variable {f g : SF} {once : Bool} {x e u : Nat} {P Q : List (List Int)}
theorem outN_succ (c : Cat) (x n : Nat) : outN c x (n + 1) = outN c x n ++ (if c.fr.getD n 0 = x then [n] else []) := by
  unfold outN
  rw [List.range_succ, List.filter_append]
  congr 1
  by_cases h : c.fr.getD n 0 = x
  · rw [if_pos h, List.filter_cons_of_pos (by simpa using h), List.filter_nil]
  · rw [if_neg h, List.filter_cons_of_neg (by simpa using h), List.filter_nil]
theorem setL_none {e u a : Nat} {l : List Nat} {N : List (Int × Int)} (h : stepS f g once e u P a = none) : setL f g once e u (a :: l) P N = (false, P, N) := by
  rw [setL]; simp only [h]
theorem setL_some {e u a : Nat} {l : List Nat} {N : List (Int × Int)} (h : stepS f g once e u P a = some Q) : setL f g once e u (a :: l) P N = setL f g once e u l Q (if newS f e P a then N ++ [((f.ty a : Int), f.av a e)] else N) := by
  rw [setL]; simp only [h]
theorem setL_append (e u : Nat) : ∀ (l m : List Nat) (P : List (List Int)) (N : List (Int × Int)), setL f g once e u (l ++ m) P N = if (setL f g once e u l P N).1 = true then setL f g once e u m (setL f g once e u l P N).2.1 (setL f g once e u l P N).2.2 else setL f g once e u l P N
  | [], m, P, N => by rw [List.nil_append, setL, if_pos rfl]
  | a :: l, m, P, N => by
    rw [List.cons_append]
    cases hs : stepS f g once e u P a with
    | none => rw [setL_none hs, setL_none hs, if_neg (by simp)]
    | some Q => rw [setL_some hs, setL_some hs]; exact setL_append e u l m _ _
/-- What the list of arrows gives is what the choice is. -/
theorem setL_setN (N : List (Int × Int)) : ∀ (n : Nat), setN f g once x e u P n = if (setL f g once e u (outN f.shape x n) P N).1 = true then some (setL f g once e u (outN f.shape x n) P N).2.1 else none
  | 0 => by simp [setN, outN, setL]
  | n + 1 => by
    rw [setN, setL_setN N n, outN_succ, setL_append]
    by_cases h1 : (setL f g once e u (outN f.shape x n) P N).1 = true
    · rw [if_pos h1, if_pos h1, Option.bind_some]
      by_cases h2 : f.shape.fr.getD n 0 = x
      · rw [if_pos h2, if_pos h2]
        cases hs : stepS f g once e u (setL f g once e u (outN f.shape x n) P N).2.1 n with
        | none => rw [setL_none hs, if_neg (by simp)]
        | some Q => rw [setL_some hs, setL, if_pos rfl]
      · rw [if_neg h2, if_neg h2, setL, if_pos rfl]
    · rw [if_neg h1, if_neg h1, Option.bind_none, if_neg h1]
theorem setL_setS (N : List (Int × Int)) : setS f g once x e u P = if (setL f g once e u (outN f.shape x f.shape.fr.length) P N).1 = true then some (setL f g once e u (outN f.shape x f.shape.fr.length) P N).2.1 else none := setL_setN N _
/-- The way back. -/
def undo (P : List (List Int)) (N : List (Int × Int)) : List (List Int) := N.foldl (fun P p => pset P p.1.toNat p.2.toNat (-1)) P
theorem pset_pset {P : List (List Int)} {y i : Nat} {k : Int} (h : pv P y i = -1) (hy : y < P.length) (hi : i < (P.getD y []).length) : pset (pset P y i k) y i (-1) = P := by
  unfold pset
  have e1 : (P.set y ((P.getD y []).set i k)).getD y [] = (P.getD y []).set i k := by
    rw [List.getD_eq_getElem?_getD, List.getElem?_set_self hy]; rfl
  rw [e1, List.set_set, List.set_set]
  have e2 : (P.getD y []).set i (-1) = P.getD y [] := by
    rw [← h]
    apply List.ext_getElem?
    intro n
    rw [List.getElem?_set]
    split
    · rename_i hn
      subst hn
      unfold pv
      rw [List.getD_eq_getElem?_getD (l := P.getD y []), List.getElem?_eq_getElem hi]
      rfl
    · rfl
  rw [e2]
  apply List.ext_getElem?
  intro n
  rw [List.getElem?_set]
  split
  · rename_i hn
    subst hn
    rw [List.getD_eq_getElem?_getD, List.getElem?_eq_getElem hy]
    rfl
  · rfl
theorem pset_comm {P : List (List Int)} {y i z j : Nat} {k l : Int} (h : ¬ (y = z ∧ i = j)) : pset (pset P y i k) z j l = pset (pset P z j l) y i k := by
  unfold pset
  by_cases hyz : y = z
  · subst hyz
    have hij : i ≠ j := fun e => h ⟨rfl, e⟩
    by_cases hy : y < P.length
    · have e1 : ∀ r : List Int, (P.set y r).getD y [] = r := fun r => by
        rw [List.getD_eq_getElem?_getD, List.getElem?_set_self hy]; rfl
      rw [e1, e1, List.set_set, List.set_set, List.set_comm _ _ hij]
    · rw [List.set_eq_of_length_le (by simp; omega), List.set_eq_of_length_le (by omega), List.set_eq_of_length_le (by simp; omega), List.set_eq_of_length_le (by omega)]
  · have e1 : ∀ r : List Int, (P.set y r).getD z [] = P.getD z [] := fun r => by
      rw [List.getD_eq_getElem?_getD, List.getElem?_set_ne hyz, ← List.getD_eq_getElem?_getD]
    have e2 : ∀ r : List Int, (P.set z r).getD y [] = P.getD y [] := fun r => by
      rw [List.getD_eq_getElem?_getD, List.getElem?_set_ne (Ne.symm hyz), ← List.getD_eq_getElem?_getD]
    rw [e1, e2, List.set_comm _ _ hyz]
theorem undo_snoc (P : List (List Int)) (N : List (Int × Int)) (p : Int × Int) : undo P (N ++ [p]) = pset (undo P N) p.1.toNat p.2.toNat (-1) := by
  simp [undo, List.foldl_append]
theorem undo_pset (y i : Nat) : ∀ (N : List (Int × Int)) (P : List (List Int)), undo (pset P y i (-1)) N = pset (undo P N) y i (-1)
  | [], P => rfl
  | p :: N, P => by
    show undo (pset (pset P y i (-1)) p.1.toNat p.2.toNat (-1)) N = pset (undo (pset P p.1.toNat p.2.toNat (-1)) N) y i (-1)
    rw [← undo_pset y i N]
    by_cases h : y = p.1.toNat ∧ i = p.2.toNat
    · obtain ⟨rfl, rfl⟩ := h; rfl
    · rw [pset_comm h]
/-- The way back leads back. -/
theorem setL_back (e u : Nat) : ∀ (l : List Nat) (P : List (List Int)) (N : List (Int × Int)), (∀ a, a ∈ l → f.ty a < P.length ∧ (f.av a e).toNat < (P.getD (f.ty a) []).length ∧ 0 ≤ g.av a u) → (∀ y i, y < P.length → i < (P.getD y []).length → -1 ≤ pv P y i) →
    undo (setL f g once e u l P N).2.1 (setL f g once e u l P N).2.2 = undo P N
  | [], P, N, _, _ => rfl
  | a :: l, P, N, hl, hr => by
    obtain ⟨h1, h2, h3⟩ := hl a (List.mem_cons_self ..)
    cases hs : stepS f g once e u P a with
    | none => rw [setL_none hs]
    | some Q =>
      rw [setL_some hs]
      have hx := stepS_ext hs
      have hs' := hs
      unfold stepS at hs
      by_cases h0 : 0 ≤ pv P (f.ty a) (f.av a e).toNat
      · rw [if_pos h0] at hs
        split at hs
        · simp only [Option.some.injEq] at hs
          subst hs
          rw [if_neg (show ¬ newS f e P a from fun q => q h0)]
          exact setL_back e u l P N (fun b hb => hl b (List.mem_cons_of_mem _ hb)) hr
        · cases hs
      · rw [if_neg h0] at hs
        split at hs
        · cases hs
        · simp only [Option.some.injEq] at hs
          subst hs
          rw [if_pos (show newS f e P a from h0), setL_back e u l _ _ (fun b hb => ?_) (fun y i hy hi => ?_)]
          · rw [undo_snoc, ← undo_pset]
            have := hr _ _ h1 h2
            rw [Int.toNat_natCast, pset_pset (by omega) h1 h2]
          · rw [pset_len, pset_row]; exact hl b (List.mem_cons_of_mem _ hb)
          · rw [pset_len] at hy; rw [pset_row] at hi
            by_cases hc : y = f.ty a ∧ i = (f.av a e).toNat
            · obtain ⟨rfl, rfl⟩ := hc
              rw [pset_same hy hi]; omega
            · rw [pset_other hc]; exact hr y i hy hi
/-- What has been set keeps the shape. -/
theorem setL_ext (e u : Nat) : ∀ (l : List Nat) (P : List (List Int)) (N : List (Int × Int)), Ext' P (setL f g once e u l P N).2.1
  | [], P, N => .refl _
  | a :: l, P, N => by
    cases hs : stepS f g once e u P a with
    | none => rw [setL_none hs]; exact .refl _
    | some Q => rw [setL_some hs]; exact (stepS_ext hs).trans (setL_ext e u l Q _)
/-- The notes are places. -/
theorem setL_notes (e u : Nat) : ∀ (l : List Nat) (P : List (List Int)) (N : List (Int × Int)), ∀ p, p ∈ (setL f g once e u l P N).2.2 → p ∈ N ∨ ∃ a, a ∈ l ∧ p = ((f.ty a : Int), f.av a e)
  | [], P, N, p, hp => .inl hp
  | a :: l, P, N, p, hp => by
    cases hs : stepS f g once e u P a with
    | none => rw [setL_none hs] at hp; exact .inl hp
    | some Q =>
      rw [setL_some hs] at hp
      rcases setL_notes e u l Q _ p hp with h | ⟨b, h1, h2⟩
      · split at h
        · rcases List.mem_append.1 h with h | h
          · exact .inl h
          · exact .inr ⟨a, List.mem_cons_self .., List.mem_singleton.1 h⟩
        · exact .inl h
      · exact .inr ⟨b, List.mem_cons_of_mem _ h1, h2⟩
theorem setL_len (e u : Nat) : ∀ (l : List Nat) (P : List (List Int)) (N : List (Int × Int)), (setL f g once e u l P N).2.2.length ≤ N.length + l.length
  | [], P, N => Nat.le_refl _
  | a :: l, P, N => by
    cases hs : stepS f g once e u P a with
    | none => rw [setL_none hs]; simp only [List.length_cons]; omega
    | some Q =>
      rw [setL_some hs]
      refine Nat.le_trans (setL_len e u l Q _) ?_
      split
      · simp only [List.length_append, List.length_cons, List.length_nil]; omega
      · simp only [List.length_cons]; omega
end Go.Cats
end

section

/- Plain law: sums; parts that nothing is known of; the error of two set functors. -/
set_option linter.unusedSimpArgs false
set_option linter.unusedVariables false
namespace Go.Cats

def sumI (l : List Int) : Nat → Int
  | 0 => 0
  | n + 1 => sumI l n + l.getD n 0
theorem sumI_zero (l : List Int) : sumI l 0 = 0 := rfl
theorem sumI_succ (l : List Int) (n : Nat) : sumI l (n + 1) = sumI l n + l.getD n 0 := rfl
theorem sumI_bound {l : List Int} {m : Int} (h : Within l (m + 1)) : ∀ n, n ≤ l.length → 0 ≤ sumI l n ∧ sumI l n ≤ m * n
  | 0, _ => by simp [sumI]
  | n + 1, hn => by
    have h1 := sumI_bound h n (by omega)
    have h2 := h n (by omega)
    have e : m * ((n + 1 : Nat) : Int) = m * n + m := by rw [Int.natCast_succ, Int.mul_add, Int.mul_one]
    rw [sumI_succ, e]
    omega
def SF.elems (f : SF) : Int := sumI f.sizes f.sizes.length
theorem IsSF.sum_le {f : SF} (h : IsSF f) {n : Nat} (hn : n ≤ f.sizes.length) : 0 ≤ sumI f.sizes n ∧ sumI f.sizes n ≤ 128 := by
  have h1 := sumI_bound (m := 16) h.szw n hn
  have h2 := h.szl
  have h3 := h.cat.ob8
  omega
/-- Parts of which nothing is known. -/
def openP (l : List Int) : List (List Int) := l.map fun n => List.replicate n.toNat (-1)
theorem openP_len (l : List Int) : (openP l).length = l.length := by simp [openP]
theorem openP_row (l : List Int) (y : Nat) : (openP l).getD y [] = List.replicate (l.getD y 0).toNat (-1) := by
  unfold openP
  rw [List.getD_eq_getElem?_getD, List.getElem?_map, List.getD_eq_getElem?_getD]
  cases l[y]? with
  | none => rfl
  | some v => rfl
theorem openP_succ {l : List Int} {i : Nat} (h : i < l.length) : openP (l.take (i + 1)) = openP (l.take i) ++ [List.replicate (l.getD i 0).toNat (-1)] := by
  unfold openP
  rw [List.take_add_one, List.map_append, List.getElem?_eq_getElem h, List.getD_eq_getElem?_getD, List.getElem?_eq_getElem h]
  rfl
theorem openP_pv (l : List Int) {y i : Nat} (h : i < ((openP l).getD y []).length) : pv (openP l) y i = -1 := by
  unfold pv
  rw [openP_row] at h ⊢
  rw [List.length_replicate] at h
  rw [List.getD_eq_getElem?_getD, List.getElem?_replicate, if_pos h]
  rfl
theorem good_open {f g : SF} (once : Bool) (h : SPair f g) : Good f g once (openP f.sizes) := by
  have hl := openP_len f.sizes
  refine ⟨hl, fun y hy => ?_, fun y i hy hi => ?_, fun a i ha hi h0 => ?_, fun _ y i j hy hi hj h0 => ?_⟩
  · rw [openP_row, List.length_replicate]
    have := h.src.szw y (by omega)
    omega
  · rw [openP_pv _ hi]
    have h1 : f.shape.ob = g.shape.ob := by rw [h.one]
    have h2 := h.src.szl
    have h3 := h.tgt.szl
    have := h.tgt.szw y (by omega)
    omega
  · rw [openP_pv _ hi] at h0; omega
  · rw [openP_pv _ hi] at h0; omega
/-- The error of two set functors. -/
def SCo (f g : SF) (c : Int) : Prop := (¬ (IsSF f ∧ IsSF g) ∧ c = 1) ∨ ((IsSF f ∧ IsSF g) ∧ f.shape ≠ g.shape ∧ c = 5) ∨ ((IsSF f ∧ IsSF g) ∧ f.shape = g.shape ∧ c = 0)
/-- The error of a search. -/
def LCo (f g : SF) (c : Int) : Prop := (¬ (IsSF f ∧ IsSF g) ∧ c = 1) ∨ ((IsSF f ∧ IsSF g) ∧ f.shape ≠ g.shape ∧ c = 5) ∨ ((IsSF f ∧ IsSF g) ∧ f.shape = g.shape ∧ 12 < f.elems ∧ c = 3) ∨ ((IsSF f ∧ IsSF g) ∧ f.shape = g.shape ∧ f.elems ≤ 12 ∧ c = 0)
theorem rep_snoc (n : Nat) (k : Int) : List.replicate n k ++ [k] = List.replicate (n + 1) k := by rw [List.replicate_succ']
theorem rep_fill {i n : Nat} (k : Int) (h : i < n) : (List.replicate i k ++ List.replicate (n - i) 0).set i k = List.replicate (i + 1) k ++ List.replicate (n - (i + 1)) 0 := by
  have e : n - i = (n - (i + 1)) + 1 := by omega
  rw [e, List.replicate_succ, List.set_append_right _ _ (by simp), List.length_replicate, Nat.sub_self, List.set_cons_zero, List.replicate_succ', List.append_assoc]
  rfl
/-- The arrows out of an object, one further. -/
theorem outN_yes {c : Cat} {x n : Nat} (h : c.fr.getD n 0 = x) : outN c x (n + 1) = outN c x n ++ [n] := by rw [outN_succ, if_pos h]
theorem outN_no {c : Cat} {x n : Nat} (h : ¬ c.fr.getD n 0 = x) : outN c x (n + 1) = outN c x n := by rw [outN_succ, if_neg h, List.append_nil]
theorem outN_len (c : Cat) (x n : Nat) : (outN c x n).length ≤ n := by
  have := List.length_filter_le (fun a => decide (c.fr.getD a 0 = x)) (List.range n)
  rw [List.length_range] at this
  exact this
theorem outN_lt {c : Cat} {x n a : Nat} (h : a ∈ outN c x n) : a < n ∧ c.fr.getD a 0 = x := by
  unfold outN at h
  simpa [List.mem_filter] using h
/-- The list of the arrows out of an object as the program has it. -/
def outI (c : Cat) (x n : Nat) : List Int := (outN c x n).map fun a : Nat => (a : Int)
theorem outI_yes {c : Cat} {x n : Nat} (h : c.fr.getD n 0 = x) : outI c x (n + 1) = outI c x n ++ [(n : Int)] := by unfold outI; rw [outN_yes h, List.map_append]; rfl
theorem outI_no {c : Cat} {x n : Nat} (h : ¬ c.fr.getD n 0 = x) : outI c x (n + 1) = outI c x n := by unfold outI; rw [outN_no h]
theorem outI_zero (c : Cat) (x : Nat) : outI c x 0 = [] := rfl
theorem outI_len (c : Cat) (x n : Nat) : (outI c x n).length ≤ n := by unfold outI; rw [List.length_map]; exact outN_len c x n
/-- Is a number in a list, up to a place? -/
theorem has_hit {l : List Int} {n : Int} {i : Nat} (hi : i < l.length) (h : l.getD i 0 = n) : n ∈ l := by
  rw [← h, List.getD_eq_getElem?_getD, List.getElem?_eq_getElem hi]; exact List.getElem_mem hi
theorem has_none {l : List Int} {n : Int} {i : Nat} (h : ∀ j, j < i → ¬ l.getD j 0 = n) (hi : l.length ≤ i) : ¬ n ∈ l := by
  intro hm
  obtain ⟨j, hj, e⟩ := List.getElem_of_mem hm
  refine h j (by omega) ?_
  rw [List.getD_eq_getElem?_getD, List.getElem?_eq_getElem hj]; exact e
end Go.Cats
end

section

/- Plain law: one choice, place by place of the list of arrows. -/
set_option linter.unusedSimpArgs false
set_option linter.unusedVariables false
namespace Go.Cats

section
variable (f g : SF) (once : Bool)
/-- What one choice has come to behind j arrows. -/
def setT (x e u : Nat) (P : List (List Int)) (N : List (Int × Int)) (j : Nat) : Bool × List (List Int) × List (Int × Int) := setL f g once e u ((outN f.shape x f.shape.fr.length).take j) P N
/-- What one choice comes to. -/
def setA (x e u : Nat) (P : List (List Int)) (N : List (Int × Int)) : Bool × List (List Int) × List (Int × Int) := setL f g once e u (outN f.shape x f.shape.fr.length) P N
abbrev setP (x e u : Nat) (P : List (List Int)) (N : List (Int × Int)) (j : Nat) : List (List Int) := (setT f g once x e u P N j).2.1
abbrev setNt (x e u : Nat) (P : List (List Int)) (N : List (Int × Int)) (j : Nat) : List (Int × Int) := (setT f g once x e u P N j).2.2
end
variable {f g : SF} {once : Bool} {x e u j a : Nat} {P Q : List (List Int)} {N : List (Int × Int)}
theorem setP_zero : setP f g once x e u P N 0 = P := rfl
theorem setNt_zero : setNt f g once x e u P N 0 = N := rfl
/-- The arrow at a place. -/
def arrAt (f : SF) (x j : Nat) : Nat := (outN f.shape x f.shape.fr.length).getD j 0
theorem arrAt_I (f : SF) (x j : Nat) : (outI f.shape x f.shape.fr.length).getD j 0 = arrAt f x j := by
  unfold outI arrAt
  rw [List.getD_eq_getElem?_getD, List.getElem?_map, List.getD_eq_getElem?_getD]
  cases (outN f.shape x f.shape.fr.length)[j]? <;> rfl
theorem outI_lenN (c : Cat) (x n : Nat) : (outI c x n).length = (outN c x n).length := by simp [outI]
theorem arrAt_lt (h : j < (outI f.shape x f.shape.fr.length).length) : arrAt f x j < f.shape.fr.length ∧ f.shape.fr.getD (arrAt f x j) 0 = x := by
  rw [outI_lenN] at h
  refine outN_lt (n := f.shape.fr.length) ?_
  unfold arrAt
  rw [List.getD_eq_getElem?_getD, List.getElem?_eq_getElem h]
  exact List.getElem_mem h
theorem setL_false {l : List Nat} (h : (setL f g once e u l P N).1 = true) (hs : stepS f g once e u (setL f g once e u l P N).2.1 a = none) (m : List Nat) : setL f g once e u (l ++ a :: m) P N = (false, (setL f g once e u l P N).2.1, (setL f g once e u l P N).2.2) := by
  rw [setL_append, if_pos h, setL_none hs]
theorem take_drop1 {l : List Nat} (h : j < l.length) : l = l.take j ++ l.getD j 0 :: l.drop (j + 1) := by
  rw [List.getD_eq_getElem?_getD, List.getElem?_eq_getElem h, Option.getD_some, ← List.drop_eq_getElem_cons h, List.take_append_drop]
/-- It is stopped. -/
theorem setT_stop (hj : j < (outI f.shape x f.shape.fr.length).length) (h : (setT f g once x e u P N j).1 = true) (hs : stepS f g once e u (setP f g once x e u P N j) (arrAt f x j) = none) : setA f g once x e u P N = (false, setP f g once x e u P N j, setNt f g once x e u P N j) := by
  rw [outI_lenN] at hj
  unfold setA
  rw [take_drop1 hj]
  exact setL_false h hs _
/-- It goes on. -/
theorem setT_next (hj : j < (outI f.shape x f.shape.fr.length).length) (h : (setT f g once x e u P N j).1 = true) (hs : stepS f g once e u (setP f g once x e u P N j) (arrAt f x j) = some Q) :
    setT f g once x e u P N (j + 1) = (true, Q, if newS f e (setP f g once x e u P N j) (arrAt f x j) then setNt f g once x e u P N j ++ [((f.ty (arrAt f x j) : Int), f.av (arrAt f x j) e)] else setNt f g once x e u P N j) := by
  rw [outI_lenN] at hj
  unfold setT
  have e1 : (outN f.shape x f.shape.fr.length).take (j + 1) = (outN f.shape x f.shape.fr.length).take j ++ [arrAt f x j] := by
    unfold arrAt
    rw [List.take_add_one, List.getD_eq_getElem?_getD, List.getElem?_eq_getElem hj]; rfl
  rw [e1, setL_append]
  rw [show (setL f g once e u ((outN f.shape x f.shape.fr.length).take j) P N).1 = true from h, if_pos rfl]
  exact (setL_some hs).trans (by rw [setL]; rfl)
theorem setT_end (hj : (outI f.shape x f.shape.fr.length).length ≤ j) : setT f g once x e u P N j = setA f g once x e u P N := by
  rw [outI_lenN] at hj
  unfold setT setA
  rw [List.take_of_length_le hj]
variable {y i k : Int}
/-- The four cases, in the program's words. -/
theorem setT_c1 (hj : j < (outI f.shape x f.shape.fr.length).length) (h : (setT f g once x e u P N j).1 = true) (h0 : 0 ≤ pv (setP f g once x e u P N j) (f.ty (arrAt f x j)) (f.av (arrAt f x j) e).toNat) (h1 : ¬ pv (setP f g once x e u P N j) (f.ty (arrAt f x j)) (f.av (arrAt f x j) e).toNat = g.av (arrAt f x j) u) :
    setA f g once x e u P N = (false, setP f g once x e u P N j, setNt f g once x e u P N j) := setT_stop hj h (by unfold stepS; rw [if_pos h0, if_neg h1])
theorem setT_c2 (hj : j < (outI f.shape x f.shape.fr.length).length) (h : (setT f g once x e u P N j).1 = true) (h0 : 0 ≤ pv (setP f g once x e u P N j) (f.ty (arrAt f x j)) (f.av (arrAt f x j) e).toNat) (h1 : pv (setP f g once x e u P N j) (f.ty (arrAt f x j)) (f.av (arrAt f x j) e).toNat = g.av (arrAt f x j) u) :
    setT f g once x e u P N (j + 1) = (true, setP f g once x e u P N j, setNt f g once x e u P N j) := by
  rw [setT_next hj h (Q := setP f g once x e u P N j) (by unfold stepS; rw [if_pos h0, if_pos h1]), if_neg (show ¬ newS f e _ _ from fun q => q h0)]
theorem setT_c3 (hj : j < (outI f.shape x f.shape.fr.length).length) (h : (setT f g once x e u P N j).1 = true) (h0 : ¬ 0 ≤ pv (setP f g once x e u P N j) (f.ty (arrAt f x j)) (f.av (arrAt f x j) e).toNat) (ho : once = true) (h1 : g.av (arrAt f x j) u ∈ (setP f g once x e u P N j).getD (f.ty (arrAt f x j)) []) :
    setA f g once x e u P N = (false, setP f g once x e u P N j, setNt f g once x e u P N j) := setT_stop hj h (by unfold stepS; rw [if_neg h0, if_pos ⟨ho, h1⟩])
theorem setT_c4 (hj : j < (outI f.shape x f.shape.fr.length).length) (h : (setT f g once x e u P N j).1 = true) (h0 : ¬ 0 ≤ pv (setP f g once x e u P N j) (f.ty (arrAt f x j)) (f.av (arrAt f x j) e).toNat) (h1 : ¬ (once = true ∧ g.av (arrAt f x j) u ∈ (setP f g once x e u P N j).getD (f.ty (arrAt f x j)) [])) :
    setT f g once x e u P N (j + 1) = (true, pset (setP f g once x e u P N j) (f.ty (arrAt f x j)) (f.av (arrAt f x j) e).toNat (g.av (arrAt f x j) u), setNt f g once x e u P N j ++ [((f.ty (arrAt f x j) : Int), f.av (arrAt f x j) e)]) := by
  rw [setT_next hj h (Q := pset (setP f g once x e u P N j) (f.ty (arrAt f x j)) (f.av (arrAt f x j) e).toNat (g.av (arrAt f x j) u)) (by unfold stepS; rw [if_neg h0, if_neg h1]), if_pos (show newS f e _ _ from h0)]
/-- What is at hand at an arrow. -/
theorem set_facts (h : SPair f g) (hP : P.length = f.sizes.length) (hR : ∀ y, y < P.length → ((P.getD y []).length : Int) = f.sizes.getD y 0) (he : (e : Int) < f.sizes.getD x 0) (hu : (u : Int) < g.sizes.getD x 0) (once : Bool) (N : List (Int × Int)) (j : Nat) (hj : j < (outI f.shape x f.shape.fr.length).length) :
    (arrAt f x j < f.shape.fr.length ∧ arrAt f x j < f.shape.to.length ∧ arrAt f x j < f.acts.length ∧ arrAt f x j < g.acts.length) ∧
    (0 ≤ f.shape.to.getD (arrAt f x j) 0 ∧ (f.shape.to.getD (arrAt f x j) 0).toNat < (setP f g once x e u P N j).length) ∧
    (e < (f.acts.getD (arrAt f x j) []).length ∧ u < (g.acts.getD (arrAt f x j) []).length) ∧
    (0 ≤ (f.acts.getD (arrAt f x j) []).getD e 0 ∧ ((f.acts.getD (arrAt f x j) []).getD e 0).toNat < ((setP f g once x e u P N j).getD (f.shape.to.getD (arrAt f x j) 0).toNat []).length) ∧
    (((setP f g once x e u P N j).getD (f.shape.to.getD (arrAt f x j) 0).toNat []).length ≤ 16 ∧ (setP f g once x e u P N j).length ≤ 8 ∧ (setNt f g once x e u P N j).length ≤ N.length + 40 ∧ (outI f.shape x f.shape.fr.length).length ≤ 40) := by
  obtain ⟨a1, a2⟩ := arrAt_lt hj
  obtain ⟨b1, b2, b3, b4⟩ := h.ft a1
  have ex : f.fx (arrAt f x j) = x := by omega
  have fa := h.fa a1 (e := e) (by rw [ex]; exact he)
  have xt := setL_ext (f := f) (g := g) (once := once) e u ((outN f.shape x f.shape.fr.length).take j) P N
  have xl : P.length = (setP f g once x e u P N j).length := xt.1
  have xr : ∀ y, (P.getD y []).length = ((setP f g once x e u P N j).getD y []).length := xt.2.1
  have ctl := h.src.cat.tol
  have acl := h.src.acl
  have acg : g.acts.length = f.shape.fr.length := by rw [h.tgt.acl, h.one]
  have r1 := h.src.act _ (by rw [acl]; exact a1)
  have r2 := h.tgt.act _ (by rw [acg]; exact a1)
  rw [← h.one, a2, Int.toNat_natCast] at r2
  rw [a2, Int.toNat_natCast] at r1
  have w := h.src.szw _ b2
  have hr := hR (f.ty (arrAt f x j)) (by rw [hP]; exact b2)
  have hx := xr (f.ty (arrAt f x j))
  have t2 := h.src.szl
  have t3 := h.src.cat.ob8
  have t4 := h.src.cat.m40
  have ll := setL_len (f := f) (g := g) (once := once) e u ((outN f.shape x f.shape.fr.length).take j) P N
  have l2 : (setNt f g once x e u P N j).length ≤ N.length + ((outN f.shape x f.shape.fr.length).take j).length := ll
  have l3 := outN_len f.shape x f.shape.fr.length
  have l4 := List.length_take_le j (outN f.shape x f.shape.fr.length)
  have l5 := List.length_take_le' j (outN f.shape x f.shape.fr.length)
  rw [outI_lenN]
  simp only [SF.ty, SF.av] at *
  refine ⟨⟨a1, ?_, ?_, ?_⟩, ⟨?_, ?_⟩, ⟨?_, ?_⟩, ⟨fa.1, ?_⟩, ?_, ?_, ?_, ?_⟩
  all_goals omega
end Go.Cats
end

section

/- Plain law, part 8: the objects of comma categories. -/
set_option linter.unusedSimpArgs false
set_option linter.unusedVariables false
namespace Go.Cats

/-- The arrows from an image to an image. -/
def cH (f g : Fun) (a b : Nat) : List Int := f.tgt.hom (f.obs.getD a 0) (g.obs.getD b 0)
/-- The triples up to a place. -/
def cO (f g : Fun) (a b k : Nat) : List (List Int) :=
  (coll a fun a => coll g.obs.length fun b => (cH f g a b).map fun h => [(a : Int), (b : Int), h]) ++ (coll b fun b => (cH f g a b).map fun h => [(a : Int), (b : Int), h]) ++ ((cH f g a b).take k).map fun h => [(a : Int), (b : Int), h]
def cObj (f g : Fun) : List (List Int) := cO f g f.obs.length 0 0
theorem cO_zero (f g : Fun) : cO f g 0 0 0 = [] := by simp [cO, coll]
/-- A column of a list of rows. -/
def colN (l : List (List Int)) (k n : Nat) : List Int := (l.take n).map fun r => r.getD k 0
theorem colN_zero (l : List (List Int)) (k : Nat) : colN l k 0 = [] := rfl
theorem colN_len (l : List (List Int)) (k n : Nat) : (colN l k n).length = min n l.length := by simp [colN]
end Go.Cats
end

section

/- Plain law, part 9: the arrows of comma categories. -/
set_option linter.unusedSimpArgs false
set_option linter.unusedVariables false
namespace Go.Cats

/-- The entry k of row p of a list of rows. -/
abbrev rw' (O : List (List Int)) (p k : Nat) : Int := (O.getD p []).getD k 0
/-- The arrows between the first (second) parts of two objects. -/
def cU (f : Fun) (k : Nat) (O : List (List Int)) (s t : Nat) : List Int := f.src.hom (rw' O s k) (rw' O t k)
/-- An arrow, if it is one. -/
def cC (f e : Fun) (O : List (List Int)) (s t : Nat) (u v : Int) : Prop := f.tgt.C (f.A u) (rw' O t 2) = f.tgt.C (rw' O s 2) (e.A v)
open Classical in
noncomputable def cE (f e : Fun) (O : List (List Int)) (s t i j : Nat) : List (List Int) :=
  if cC f e O s t ((cU f 0 O s t).getD i 0) ((cU e 1 O s t).getD j 0) then [[(s : Int), (t : Int), (cU f 0 O s t).getD i 0, (cU e 1 O s t).getD j 0]] else []
noncomputable def cRow (f e : Fun) (O : List (List Int)) (s t i : Nat) : List (List Int) := coll (cU e 1 O s t).length fun j => cE f e O s t i j
noncomputable def cCell (f e : Fun) (O : List (List Int)) (s t : Nat) : List (List Int) := coll (cU f 0 O s t).length fun i => cRow f e O s t i
/-- The arrows up to a place. -/
noncomputable def cA (f e : Fun) (O : List (List Int)) (s t i j : Nat) : List (List Int) :=
  (coll s fun s => coll O.length fun t => cCell f e O s t) ++ (coll t fun t => cCell f e O s t) ++ (coll i fun i => cRow f e O s t i) ++ (coll j fun j => cE f e O s t i j)
noncomputable def cArr (f e : Fun) (O : List (List Int)) : List (List Int) := cA f e O O.length 0 0 0
variable {f e : Fun} {O : List (List Int)} {s t i j : Nat}
theorem cA_zero : cA f e O 0 0 0 0 = [] := by simp [cA, coll]
/-- What is an object of the comma category. -/
structure ObjR (f e : Fun) (r : List Int) : Prop where
  len : r.length = 3
  lo : 0 ≤ r.getD 0 0
  lh : r.getD 0 0 < f.src.ob
  ro : 0 ≤ r.getD 1 0
  rh : r.getD 1 0 < e.src.ob
  ao : 0 ≤ r.getD 2 0
  ah : r.getD 2 0 < f.tgt.fr.length
  frm : f.tgt.F (r.getD 2 0) = f.O (r.getD 0 0)
  to : f.tgt.T (r.getD 2 0) = e.O (r.getD 1 0)
/-- The place of a list in a list of lists. -/
def fndO (l : List (List Int)) (r : List Int) (i : Nat) : Option Int := if l.getD i [] = r then some (i : Int) else none
def fnd (l : List (List Int)) (r : List Int) : Int := (scan l.length (fndO l r)).getD (-1)
end Go.Cats
end

section

/- Plain law, part 10: the category that is built of a list of arrows. -/
set_option linter.unusedSimpArgs false
set_option linter.unusedVariables false
namespace Go.Cats

def tb {α : Type} (n : Nat) (F : Nat → α) : List α := (List.range n).map F
theorem tb_zero {α : Type} (F : Nat → α) : tb 0 F = [] := rfl
theorem tb_len {α : Type} (n : Nat) (F : Nat → α) : (tb n F).length = n := by simp [tb]
theorem tb_at {α : Type} (n : Nat) (F : Nat → α) (d : α) {i : Nat} (h : i < n) : (tb n F).getD i d = F i := by simp [tb, h]
def bId (A : List (List Int)) (a b : Cat) (L R : List Int) (x : Nat) : Int := fnd A [(x : Int), (x : Int), a.id.getD (L.getD x 0).toNat 0, b.id.getD (R.getD x 0).toNat 0]
def bKey (A : List (List Int)) (a b : Cat) (i j : Nat) : List Int := [rw' A i 0, rw' A j 1, a.C (rw' A i 2) (rw' A j 2), b.C (rw' A i 3) (rw' A j 3)]
def bEnt (A : List (List Int)) (a b : Cat) (i j : Nat) : Int := if rw' A i 1 = rw' A j 0 then fnd A (bKey A a b i j) else -1
def bCat (N : Nat) (A : List (List Int)) (a b : Cat) (L R : List Int) (k : Nat) : Cat :=
  ⟨N, colN A 0 A.length, colN A 1 A.length, tb N (bId A a b L R), tb k fun i => tb A.length (bEnt A a b i)⟩
/-- What the building of a category asks of the list of arrows. -/
structure ArrR (a b : Cat) (r : List Int) : Prop where
  len : r.length = 4
  ul : 0 ≤ r.getD 2 0
  uh : r.getD 2 0 < a.fr.length
  vl : 0 ≤ r.getD 3 0
  vh : r.getD 3 0 < b.fr.length
noncomputable def cmA (f e : Fun) : List (List Int) := cArr f e (cObj f e)
noncomputable def cmC (f e : Fun) (k : Nat) : Cat := bCat (cObj f e).length (cmA f e) f.src e.src (colN (cObj f e) 0 (cObj f e).length) (colN (cObj f e) 1 (cObj f e).length) k
end Go.Cats
end

section

/- Plain law, part 11: the arrows of comma categories grow from place to place. -/
set_option linter.unusedSimpArgs false
set_option linter.unusedVariables false
namespace Go.Cats
variable {f e : Fun} {O : List (List Int)} {s t i j : Nat}
end Go.Cats
end

section

/- Plain law, part 12: no arrow of a comma category is listed twice; identities and composites are listed. -/
set_option linter.unusedSimpArgs false
set_option linter.unusedVariables false
namespace Go.Cats
variable {f e : Fun} {O : List (List Int)} {s t i j : Nat}
end Go.Cats
end

section

/- Plain law: one choice as the reference makes it. -/
set_option linter.unusedSimpArgs false
set_option linter.unusedVariables false
set_option linter.unusedSectionVars false
namespace Go.Cats

section
variable (f g : SF) (once : Bool)
/-- What the reference's choice has come to behind a arrows. -/
def refQ (x e u : Nat) (P : List (List Int)) (a : Nat) : List (List Int) := (setN f g once x e u P a).getD P
end
variable {f g : SF} {once : Bool} {x e u a : Nat} {P Q : List (List Int)}
theorem refQ_zero : refQ f g once x e u P 0 = P := rfl
theorem setN_mono (h : setN f g once x e u P a = none) : ∀ b, setN f g once x e u P (a + b) = none
  | 0 => h
  | b + 1 => by rw [← Nat.add_assoc, setN, setN_mono h b]; rfl
theorem refQ_stop (h : setN f g once x e u P a = some (refQ f g once x e u P a)) (ha : a < f.shape.fr.length) (hx : f.shape.fr.getD a 0 = x) (hs : stepS f g once e u (refQ f g once x e u P a) a = none) : setS f g once x e u P = none := by
  have h1 : setN f g once x e u P (a + 1) = none := by rw [setN, h, Option.bind_some, if_pos hx, hs]
  have h2 := setN_mono h1 (f.shape.fr.length - (a + 1))
  rw [show a + 1 + (f.shape.fr.length - (a + 1)) = f.shape.fr.length by omega] at h2
  exact h2
theorem refQ_skip (h : setN f g once x e u P a = some (refQ f g once x e u P a)) (hx : ¬ f.shape.fr.getD a 0 = x) : setN f g once x e u P (a + 1) = some (refQ f g once x e u P (a + 1)) ∧ refQ f g once x e u P (a + 1) = refQ f g once x e u P a := by
  have h1 : setN f g once x e u P (a + 1) = some (refQ f g once x e u P a) := by rw [setN, h, Option.bind_some, if_neg hx]
  have h2 : refQ f g once x e u P (a + 1) = refQ f g once x e u P a := by rw [refQ, h1]; rfl
  rw [h2]; exact ⟨h1, rfl⟩
theorem refQ_step (h : setN f g once x e u P a = some (refQ f g once x e u P a)) (hx : f.shape.fr.getD a 0 = x) (hs : stepS f g once e u (refQ f g once x e u P a) a = some Q) : setN f g once x e u P (a + 1) = some (refQ f g once x e u P (a + 1)) ∧ refQ f g once x e u P (a + 1) = Q := by
  have h1 : setN f g once x e u P (a + 1) = some Q := by rw [setN, h, Option.bind_some, if_pos hx, hs]
  have h2 : refQ f g once x e u P (a + 1) = Q := by rw [refQ, h1]; rfl
  rw [h2]; exact ⟨h1, rfl⟩
theorem refQ_end (h : setN f g once x e u P a = some (refQ f g once x e u P a)) (ha : a = f.shape.fr.length) : setS f g once x e u P = some (refQ f g once x e u P a) := by subst ha; exact h
theorem pset_id {y i : Nat} {k : Int} (h : pv P y i = k) (hy : y < P.length) (hi : i < (P.getD y []).length) : pset P y i k = P := by
  unfold pset
  have e2 : (P.getD y []).set i k = P.getD y [] := by
    rw [← h]
    apply List.ext_getElem?
    intro n
    rw [List.getElem?_set]
    split
    · rename_i hn
      subst hn
      unfold pv
      rw [List.getD_eq_getElem?_getD (l := P.getD y []), List.getElem?_eq_getElem hi]
      simp [hi]
    · rfl
  rw [e2]
  apply List.ext_getElem?
  intro n
  rw [List.getElem?_set]
  split
  · rename_i hn
    subst hn
    rw [List.getD_eq_getElem?_getD, List.getElem?_eq_getElem hy]
    simp [hy]
  · rfl
/-- What is at hand at an arrow. -/
theorem ref_facts (h : SPair f g) (hP : P.length = f.sizes.length) (hR : ∀ y, y < P.length → ((P.getD y []).length : Int) = f.sizes.getD y 0) (he : (e : Int) < f.sizes.getD x 0) (hu : (u : Int) < g.sizes.getD x 0) (hn : setN f g once x e u P a = some (refQ f g once x e u P a)) (ha : a < f.shape.fr.length) (hx : f.shape.fr.getD a 0 = x) :
    (a < f.shape.to.length ∧ a < f.acts.length ∧ a < g.acts.length) ∧
    (0 ≤ f.shape.to.getD a 0 ∧ (f.shape.to.getD a 0).toNat < (refQ f g once x e u P a).length) ∧
    (e < (f.acts.getD a []).length ∧ u < (g.acts.getD a []).length) ∧
    (0 ≤ (f.acts.getD a []).getD e 0 ∧ ((f.acts.getD a []).getD e 0).toNat < ((refQ f g once x e u P a).getD (f.shape.to.getD a 0).toNat []).length) ∧
    (((refQ f g once x e u P a).getD (f.shape.to.getD a 0).toNat []).length ≤ 16 ∧ (refQ f g once x e u P a).length ≤ 8) := by
  obtain ⟨b1, b2, b3, b4⟩ := h.ft ha
  have ex : f.fx a = x := by omega
  have fa := h.fa ha (e := e) (by rw [ex]; exact he)
  have xt := setN_ext a _ hn
  have xl := xt.1
  have xr := xt.2.1
  have ctl := h.src.cat.tol
  have acl := h.src.acl
  have acg : g.acts.length = f.shape.fr.length := by rw [h.tgt.acl, h.one]
  have r1 := h.src.act _ (by rw [acl]; exact ha)
  have r2 := h.tgt.act _ (by rw [acg]; exact ha)
  rw [← h.one, hx, Int.toNat_natCast] at r2
  rw [hx, Int.toNat_natCast] at r1
  have w := h.src.szw _ b2
  have hr := hR (f.ty a) (by rw [hP]; exact b2)
  have hx' := xr (f.ty a)
  have t2 := h.src.szl
  have t3 := h.src.cat.ob8
  simp only [SF.ty, SF.av] at *
  refine ⟨⟨?_, ?_, ?_⟩, ⟨?_, ?_⟩, ⟨?_, ?_⟩, ⟨fa.1, ?_⟩, ?_, ?_⟩
  all_goals omega
section
variable (h : setN f g once x e u P a = some (refQ f g once x e u P a)) (ha : a < f.shape.fr.length) (hx : f.shape.fr.getD a 0 = x)
include h ha hx
theorem refQ_ne (h0 : 0 ≤ ((refQ f g once x e u P a).getD (f.shape.to.getD a 0).toNat []).getD ((f.acts.getD a []).getD e 0).toNat 0) (h1 : ¬ ((refQ f g once x e u P a).getD (f.shape.to.getD a 0).toNat []).getD ((f.acts.getD a []).getD e 0).toNat 0 = (g.acts.getD a []).getD u 0) : setS f g once x e u P = none :=
  refQ_stop h ha hx ((if_pos h0).trans (if_neg h1))
theorem refQ_has (h0 : ((refQ f g once x e u P a).getD (f.shape.to.getD a 0).toNat []).getD ((f.acts.getD a []).getD e 0).toNat 0 < 0) (ho : once = true) (h1 : (g.acts.getD a []).getD u 0 ∈ (refQ f g once x e u P a).getD (f.shape.to.getD a 0).toNat []) : setS f g once x e u P = none :=
  refQ_stop h ha hx ((if_neg (Int.not_le.2 h0)).trans (if_pos ⟨ho, h1⟩))
theorem refQ_eq (h1 : ((refQ f g once x e u P a).getD (f.shape.to.getD a 0).toNat []).getD ((f.acts.getD a []).getD e 0).toNat 0 = (g.acts.getD a []).getD u 0) (h0 : 0 ≤ ((refQ f g once x e u P a).getD (f.shape.to.getD a 0).toNat []).getD ((f.acts.getD a []).getD e 0).toNat 0)
    (h2 : (f.shape.to.getD a 0).toNat < (refQ f g once x e u P a).length) (h3 : ((f.acts.getD a []).getD e 0).toNat < ((refQ f g once x e u P a).getD (f.shape.to.getD a 0).toNat []).length) :
    setN f g once x e u P (a + 1) = some (refQ f g once x e u P (a + 1)) ∧ refQ f g once x e u P (a + 1) = (refQ f g once x e u P a).set (f.shape.to.getD a 0).toNat (((refQ f g once x e u P a).getD (f.shape.to.getD a 0).toNat []).set ((f.acts.getD a []).getD e 0).toNat ((g.acts.getD a []).getD u 0)) := by
  obtain ⟨k1, k2⟩ := refQ_step h hx (Q := refQ f g once x e u P a) ((if_pos h0).trans (if_pos h1))
  exact ⟨k1, k2.trans (pset_id h1 h2 h3).symm⟩
theorem refQ_new (h0 : ((refQ f g once x e u P a).getD (f.shape.to.getD a 0).toNat []).getD ((f.acts.getD a []).getD e 0).toNat 0 < 0) (h1 : ¬ (once = true ∧ (g.acts.getD a []).getD u 0 ∈ (refQ f g once x e u P a).getD (f.shape.to.getD a 0).toNat [])) :
    setN f g once x e u P (a + 1) = some (refQ f g once x e u P (a + 1)) ∧ refQ f g once x e u P (a + 1) = (refQ f g once x e u P a).set (f.shape.to.getD a 0).toNat (((refQ f g once x e u P a).getD (f.shape.to.getD a 0).toNat []).set ((f.acts.getD a []).getD e 0).toNat ((g.acts.getD a []).getD u 0)) :=
  refQ_step h hx (Q := pset (refQ f g once x e u P a) (f.shape.to.getD a 0).toNat ((f.acts.getD a []).getD e 0).toNat ((g.acts.getD a []).getD u 0)) ((if_neg (Int.not_le.2 h0)).trans (if_neg h1))
end
end Go.Cats
end

section

/- Plain law: the choices that an element has. -/
set_option linter.unusedSimpArgs false
set_option linter.unusedVariables false
namespace Go.Cats

section
variable (f g : SF) (once : Bool)
/-- The choices below n. -/
def chN (x e : Nat) (P : List (List Int)) (n : Nat) : List Nat := (List.range n).filter fun u => (setS f g once x e u P).isSome
def chI (x e : Nat) (P : List (List Int)) (n : Nat) : List Int := (chN f g once x e P n).map fun u : Nat => (u : Int)
end
variable {f g : SF} {once : Bool} {x e n : Nat} {P Q : List (List Int)}
theorem chI_zero : chI f g once x e P 0 = [] := rfl
theorem chI_yes (h : setS f g once x e n P = some Q) : chI f g once x e P (n + 1) = chI f g once x e P n ++ [(n : Int)] := by
  unfold chI chN
  rw [List.range_succ, List.filter_append, List.filter_cons_of_pos (by rw [h]; rfl), List.filter_nil, List.map_append]
  rfl
theorem chI_no (h : setS f g once x e n P = none) : chI f g once x e P (n + 1) = chI f g once x e P n := by
  unfold chI chN
  rw [List.range_succ, List.filter_append, List.filter_cons_of_neg (by rw [h]; simp), List.filter_nil, List.append_nil]
theorem chI_len (f g : SF) (once : Bool) (x e : Nat) (P : List (List Int)) (n : Nat) : (chI f g once x e P n).length ≤ n := by
  unfold chI chN
  rw [List.length_map]
  have := List.length_filter_le (fun u => (setS f g once x e u P).isSome) (List.range n)
  rw [List.length_range] at this
  exact this
/-- No choice: nothing fits. -/
theorem chI_none (h : (chI f g once x e P n).length = 0) : ∀ u : Nat, u < n → setS f g once x e u P = none := by
  intro u hu
  unfold chI at h
  rw [List.length_map] at h
  have h1 := List.length_eq_zero_iff.1 h
  unfold chN at h1
  rw [List.filter_eq_nil_iff] at h1
  have h2 := h1 u (List.mem_range.2 hu)
  cases hs : setS f g once x e u P with
  | none => rfl
  | some Q => rw [hs] at h2; simp at h2
end Go.Cats
end

section

/- Plain law: the search over a list of choices, up to a number of results. -/
set_option linter.unusedSimpArgs false
set_option linter.unusedVariables false
namespace Go.Cats
section
variable (f g : SF) (once : Bool)
/-- What is found below a choice. -/
def below (n x e : Nat) (P : List (List Int)) (u : Nat) : List (List (List Int)) := match setS f g once x e u P with
  | none => []
  | some Q => dfs f g once n Q
/-- What is found below the choices up to u. -/
def belowN (n x e : Nat) (P : List (List Int)) (u : Nat) : List (List (List Int)) := (List.range u).flatMap (below f g once n x e P)
end
variable {f g : SF} {once : Bool} {n x e u : Nat} {P Q : List (List Int)}
theorem belowN_succ : belowN f g once n x e P (u + 1) = belowN f g once n x e P u ++ below f g once n x e P u := by
  unfold belowN
  rw [List.range_succ, List.flatMap_append]
  simp
theorem below_none (h : setS f g once x e u P = none) : below f g once n x e P u = [] := by unfold below; rw [h]
theorem below_some (h : setS f g once x e u P = some Q) : below f g once n x e P u = dfs f g once n Q := by unfold below; rw [h]
theorem dfs_leaf (h : fuP P = none) : dfs f g once (n + 1) P = [P] := by unfold dfs; rw [h]
theorem dfs_node (h : fuP P = some (x, e)) : dfs f g once (n + 1) P = belowN f g once n x e P (g.sizes.getD x 0).toNat := by
  rw [dfs, h]
  rfl
/-- What has been found, up to a number, and what comes. -/
theorem take_take (A B C : List (List (List Int))) (k : Nat) : ((A ++ B).take k ++ C).take k = (A ++ (B ++ C)).take k := by
  rw [← List.append_assoc, List.take_append, List.take_append (l₁ := A ++ B), List.take_take, Nat.min_self, List.length_take]
  by_cases h : k ≤ (A ++ B).length
  · rw [Nat.min_eq_left h, Nat.sub_self, Nat.sub_eq_zero_of_le h]
  · rw [Nat.min_eq_right (by omega)]
end Go.Cats
end

section

/- Plain law: the first place that is not set, found from behind; the choices of a list one behind the other; the first row with a place that is not set. -/
set_option linter.unusedSimpArgs false
set_option linter.unusedVariables false
namespace Go.Cats

/-- The last k of n places, looked at from behind. -/
def suf {α : Type} (n : Nat) (p : Nat → Option α) : Nat → Option α
  | 0 => none
  | k + 1 => (p (n - 1 - k)).or (suf n p k)
theorem suf_zero {α : Type} {n : Nat} {p : Nat → Option α} : suf n p 0 = none := rfl
theorem suf_succ {α : Type} {n k : Nat} {p : Nat → Option α} : suf n p (k + 1) = (p (n - 1 - k)).or (suf n p k) := rfl
theorem suf_scan {α : Type} {n : Nat} {p : Nat → Option α} : ∀ k, k ≤ n → scan n p = (scan (n - k) p).or (suf n p k)
  | 0, _ => by rw [suf_zero, Nat.sub_zero]; cases scan n p <;> rfl
  | k + 1, hk => by
    rw [suf_scan k (by omega), suf_succ, show n - k = (n - 1 - k) + 1 by omega, scan_succ, show n - (k + 1) = n - 1 - k by omega, Option.or_assoc]
theorem suf_all {α : Type} {n : Nat} {p : Nat → Option α} : suf n p n = scan n p := by
  rw [suf_scan n (Nat.le_refl n), Nat.sub_self, scan_zero]; rfl

/-- A place in numbers; -1 for none. -/
def pX : Option (Nat × Nat) → Int | none => -1 | some q => q.1
def pE : Option (Nat × Nat) → Int | none => -1 | some q => q.2
/-- The first place that is not set in the last i rows. -/
def bkR (P : List (List Int)) (i : Nat) : Option (Nat × Nat) := suf P.length (fuR P) i
/-- The first place that is not set in the last i rows and the last j places of the row ahead of them. -/
def bkI (P : List (List Int)) (i j : Nat) : Option (Nat × Nat) := (suf (P.getD (P.length - 1 - i) []).length (fuI P (P.length - 1 - i)) j).or (bkR P i)
theorem bkR_zero {P : List (List Int)} : bkR P 0 = none := rfl
theorem bkR_all {P : List (List Int)} : bkR P P.length = fuP P := suf_all
theorem bkI_zero {P : List (List Int)} {i : Nat} : bkI P i 0 = bkR P i := rfl
theorem bkI_hit {P : List (List Int)} {i j : Nat} (h : pv P (P.length - 1 - i) ((P.getD (P.length - 1 - i) []).length - 1 - j) < 0) : bkI P i (j + 1) = some (P.length - 1 - i, (P.getD (P.length - 1 - i) []).length - 1 - j) := by
  unfold bkI
  rw [suf_succ, show fuI P _ _ = some _ from if_pos h]
  rfl
theorem bkI_miss {P : List (List Int)} {i j : Nat} (h : ¬ pv P (P.length - 1 - i) ((P.getD (P.length - 1 - i) []).length - 1 - j) < 0) : bkI P i (j + 1) = bkI P i j := by
  unfold bkI
  rw [suf_succ, show fuI P _ _ = none from if_neg h]
  rfl
theorem bkI_all {P : List (List Int)} {i : Nat} : bkI P i (P.getD (P.length - 1 - i) []).length = bkR P (i + 1) := by
  unfold bkI
  rw [suf_all]
  rfl
section
variable (f g : SF) (once : Bool)
/-- What is found below the first choices of a list. -/
def belowL (n x e : Nat) (P : List (List Int)) (C : List Int) : List (List (List Int)) := C.flatMap fun u => below f g once n x e P u.toNat
end
variable {f g : SF} {once : Bool} {n x e u : Nat} {P Q : List (List Int)}
theorem belowL_zero {C : List Int} : belowL f g once n x e P (C.take 0) = [] := by rw [List.take_zero]; rfl
theorem belowL_succ {C : List Int} {k : Nat} (h : k < C.length) : belowL f g once n x e P (C.take (k + 1)) = belowL f g once n x e P (C.take k) ++ below f g once n x e P (C.getD k 0).toNat := by
  unfold belowL
  rw [List.take_add_one, List.flatMap_append, List.getD_eq_getElem?_getD, List.getElem?_eq_getElem h]
  simp
/-- The choices that fit are all that count. -/
theorem belowL_ch : ∀ K : Nat, belowL f g once n x e P (chI f g once x e P K) = belowN f g once n x e P K
  | 0 => rfl
  | K + 1 => by
    rw [belowN_succ, ← belowL_ch K]
    cases hs : setS f g once x e K P with
    | none => rw [chI_no hs, below_none hs, List.append_nil]
    | some Q =>
      rw [chI_yes hs]
      unfold belowL
      rw [List.flatMap_append]
      simp
/-- A choice of the list fits. -/
theorem chI_get {K k : Nat} (h : k < (chI f g once x e P K).length) : ∃ u : Nat, u < K ∧ (chI f g once x e P K).getD k 0 = u ∧ ∃ Q, setS f g once x e u P = some Q := by
  have h1 : (chI f g once x e P K).getD k 0 ∈ chI f g once x e P K := by
    rw [List.getD_eq_getElem?_getD, List.getElem?_eq_getElem h]; exact List.getElem_mem h
  unfold chI at h1
  obtain ⟨u, hu, e1⟩ := List.mem_map.1 h1
  unfold chN at hu
  obtain ⟨h2, h3⟩ := List.mem_filter.1 hu
  refine ⟨u, List.mem_range.1 h2, e1.symm, ?_⟩
  cases hs : setS f g once x e u P with
  | none => rw [hs] at h3; simp at h3
  | some Q => exact ⟨Q, rfl⟩
/-- So many are enough. -/
theorem take_full (A B : List (List (List Int))) {k : Nat} (h : ¬ (A.take k).length < k) : (A ++ B).take k = A.take k := by
  rw [List.length_take] at h
  rw [List.take_append, show k - A.length = 0 by omega, List.take_zero, List.append_nil]

/-- In the program's words: the first place with -1. -/
theorem idx_fuI (hr : ∀ i, i < (P.getD x []).length → -1 ≤ pv P x i) : ∀ k, k ≤ (P.getD x []).length → scan k (idxO (P.getD x []) (-1)) = (scan k (fuI P x)).map fun q => (q.2 : Int)
  | 0, _ => rfl
  | k + 1, hk => by
    rw [scan_succ, scan_succ, idx_fuI hr k (by omega)]
    cases hs : scan k (fuI P x) with
    | some q => rfl
    | none =>
      have := hr k (by omega)
      unfold fuI idxO
      by_cases h : pv P x k < 0
      · rw [if_pos h, if_pos (show (P.getD x []).getD k 0 = -1 from by unfold pv at h this; omega)]; rfl
      · rw [if_neg h, if_neg (show ¬ (P.getD x []).getD k 0 = -1 from by unfold pv at h; omega)]; rfl
theorem idx_fuR (hr : ∀ i, i < (P.getD x []).length → -1 ≤ pv P x i) : idxOf (P.getD x []) (-1) = pE (fuR P x) := by
  unfold idxOf fuR
  rw [idx_fuI hr _ (Nat.le_refl _)]
  cases scan _ (fuI P x) <;> rfl
theorem fuR_fst {y : Nat} {q : Nat × Nat} (h : fuR P y = some q) : q.1 = y ∧ q.2 < (P.getD y []).length ∧ pv P y q.2 < 0 := by
  obtain ⟨j, hj, h2⟩ := scan_some h
  obtain ⟨h3, h4⟩ := fuI_some h2
  subst h3
  exact ⟨rfl, hj, h4⟩
end Go.Cats
end

section

/- Plain law: one choice of the program's search and its way back; results that are taken up one by one until one says stop. -/
set_option linter.unusedSimpArgs false
set_option linter.unusedVariables false
namespace Go.Cats

/-! ### Results, taken up one by one -/
section
variable {α β : Type} (s : α → β → Bool × α)
def eat : α → List β → Bool × α
  | o, [] => (true, o)
  | o, q :: D => if (s o q).1 = true then eat (s o q).2 D else (false, (s o q).2)
end
section
variable {α β : Type} {s : α → β → Bool × α} {o : α} {D E : List β} {q : β}
theorem eat_nil : eat s o [] = (true, o) := rfl
theorem eat_t (h : (s o q).1 = true) : eat s o (q :: D) = eat s (s o q).2 D := by rw [eat]; exact if_pos h
theorem eat_f (h : (s o q).1 = false) : eat s o (q :: D) = (false, (s o q).2) := by rw [eat]; exact if_neg (by rw [h]; simp)
theorem eat_one : eat s o [q] = s o q := by
  cases h : (s o q).1 with
  | true => rw [eat_t h, eat_nil, ← h]
  | false => rw [eat_f h, ← h]
theorem eat_go : ∀ {D : List β} {o : α}, (eat s o D).1 = true → eat s o (D ++ E) = eat s (eat s o D).2 E
  | [], o, _ => rfl
  | q :: D, o, h => by
    cases hq : (s o q).1 with
    | true =>
      rw [eat_t hq] at h
      rw [List.cons_append, eat_t hq, eat_t hq, eat_go h]
    | false => rw [eat_f hq] at h; cases h
theorem eat_stop : ∀ {D : List β} {o : α}, (eat s o D).1 = false → eat s o (D ++ E) = eat s o D
  | [], o, h => by cases h
  | q :: D, o, h => by
    cases hq : (s o q).1 with
    | true =>
      rw [eat_t hq] at h
      rw [List.cons_append, eat_t hq, eat_t hq, eat_stop h]
    | false => rw [List.cons_append, eat_f hq, eat_f hq]
end
/-- The first one is enough. -/
def stA (o : List (List Int)) (q : List (List Int)) : Bool × List (List Int) := (false, q)
/-- So many, and one more. -/
def stB (M : Nat) (o : List (List (List Int))) (q : List (List Int)) : Bool × List (List (List Int)) := (decide (o.length + 1 ≤ M), o ++ [q])
theorem eat_A (o : List (List Int)) (D : List (List (List Int))) : eat stA o D = (D.isEmpty, D.headD o) := by
  cases D with
  | nil => rfl
  | cons q D => rw [eat_f rfl]; rfl
theorem eat_B {M : Nat} : ∀ (D o : List (List (List Int))), o.length ≤ M → eat (stB M) o D = (decide ((o ++ D).length ≤ M), (o ++ D).take (M + 1))
  | [], o, h => by
    rw [eat_nil, List.append_nil, List.take_of_length_le (by omega), decide_eq_true h]
  | q :: D, o, h => by
    by_cases h1 : o.length + 1 ≤ M
    · rw [eat_t (decide_eq_true h1), show (stB M o q).2 = o ++ [q] from rfl, eat_B D _ (by simp; omega)]
      simp
    · rw [eat_f (decide_eq_false h1), show (stB M o q).2 = o ++ [q] from rfl]
      have e1 : o.length = M := by omega
      have e2 : decide ((o ++ q :: D).length ≤ M) = false := decide_eq_false (by simp; omega)
      rw [e2, ← e1, List.take_append, List.take_of_length_le (by omega), show o.length + 1 - o.length = 1 by omega]
      simp
theorem eat_Blen {M : Nat} {D o : List (List (List Int))} (h : o.length ≤ M) (h1 : (eat (stB M) o D).1 = true) : (eat (stB M) o D).2.length ≤ M := by
  rw [eat_B _ _ h] at h1 ⊢
  simp only [decide_eq_true_eq] at h1
  simp only [List.length_take]
  omega

/-! ### The way back -/
variable {f g : SF} {once : Bool} {x e u n : Nat} {P Q : List (List Int)} {N : List (Int × Int)}
theorem undo_take {i : Nat} (h : i < N.length) : undo Q (N.take (i + 1)) = (undo Q (N.take i)).set (N.getD i (0, 0)).1.toNat (((undo Q (N.take i)).getD (N.getD i (0, 0)).1.toNat []).set (N.getD i (0, 0)).2.toNat (-1)) := by
  rw [List.take_add_one, List.getElem?_eq_getElem h, List.getD_eq_getElem?_getD, List.getElem?_eq_getElem h]
  simp only [Option.toList_some, Option.getD_some, undo_snoc]
  rfl
theorem undo_dims : ∀ (N : List (Int × Int)) (Q : List (List Int)), (undo Q N).length = Q.length ∧ ∀ y, ((undo Q N).getD y []).length = (Q.getD y []).length
  | [], Q => ⟨rfl, fun _ => rfl⟩
  | p :: N, Q => by
    have h := undo_dims N (pset Q p.1.toNat p.2.toNat (-1))
    refine ⟨h.1.trans (pset_len ..), fun y => (h.2 y).trans pset_row⟩
/-- What a choice comes to, and that the way back leads back. -/
structure ChF (f g : SF) (once : Bool) (x e u : Nat) (P Q : List (List Int)) (N : List (Int × Int)) (ok : Bool) : Prop where
  len : Q.length = P.length
  row : ∀ y, (Q.getD y []).length = (P.getD y []).length
  nl : N.length ≤ 4096
  at1 : ∀ i, i < N.length → 0 ≤ (N.getD i (0, 0)).1 ∧ (N.getD i (0, 0)).1.toNat < P.length ∧ 0 ≤ (N.getD i (0, 0)).2 ∧ (N.getD i (0, 0)).2.toNat < (P.getD (N.getD i (0, 0)).1.toNat []).length
  back : undo Q N = P
  yes : ok = true → setS f g once x e u P = some Q
  no : ok = false → setS f g once x e u P = none
theorem setA_facts (h : SPair f g) (hG : Good f g once P) (hx : x < P.length) (he : e < (P.getD x []).length) (hu : (u : Int) < g.sizes.getD x 0) {ok : Bool} (hA : setA f g once x e u P [] = (ok, Q, N)) : ChF f g once x e u P Q N ok := by
  have hl : ∀ a, a ∈ outN f.shape x f.shape.fr.length → f.ty a < P.length ∧ (f.av a e).toNat < (P.getD (f.ty a) []).length ∧ 0 ≤ g.av a u ∧ 0 ≤ f.av a e := fun a ha => by
    obtain ⟨a1, a2⟩ := outN_lt ha
    obtain ⟨b1, b2, b3, b4⟩ := h.ft a1
    have e1 : f.fx a = x := by unfold SF.fx; rw [a2]; simp
    have r1 := hG.row x hx
    have r2 := hG.len
    have fa := h.fa (e := e) a1 (by rw [e1]; omega)
    have ga := h.ga (u := u) a1 (by rw [e1]; exact hu)
    have r3 := hG.row (f.ty a) (by omega)
    exact ⟨by omega, by omega, ga.1, fa.1⟩
  have hx1 := setL_ext (f := f) (g := g) (once := once) e u (outN f.shape x f.shape.fr.length) P []
  have hn := setL_notes (f := f) (g := g) (once := once) e u (outN f.shape x f.shape.fr.length) P []
  have hle := setL_len (f := f) (g := g) (once := once) e u (outN f.shape x f.shape.fr.length) P []
  have hb := setL_back (f := f) (g := g) (once := once) e u (outN f.shape x f.shape.fr.length) P [] (fun a ha => ⟨(hl a ha).1, (hl a ha).2.1, (hl a ha).2.2.1⟩) (fun y i hy hi => (hG.rng y i hy hi).1)
  have hs := setL_setS (f := f) (g := g) (once := once) (x := x) (e := e) (u := u) (P := P) []
  have hA' : setL f g once e u (outN f.shape x f.shape.fr.length) P [] = (ok, Q, N) := hA
  rw [hA'] at hx1 hn hle hb hs
  simp only at hx1 hn hle hb hs
  have c40 := h.src.cat.m40
  refine ⟨hx1.1.symm, fun y => (hx1.2.1 y).symm, ?_, fun i hi => ?_, hb, fun q => by rw [hs, if_pos q], fun q => by rw [hs, if_neg (by rw [q]; simp)]⟩
  · have := outI_len f.shape x f.shape.fr.length
    rw [outI_lenN] at this
    simp only [List.length_nil] at hle
    omega
  · have hm : N.getD i (0, 0) ∈ N := by rw [List.getD_eq_getElem?_getD, List.getElem?_eq_getElem hi]; exact List.getElem_mem hi
    rcases hn _ hm with h0 | ⟨a, ha, e1⟩
    · cases h0
    · rw [e1]
      have := hl a ha
      refine ⟨Int.natCast_nonneg _, this.1, this.2.2.2, this.2.1⟩

/-! ### The program's rows -/
theorem row_idx (hG : Good f g once P) {i : Nat} (hi : i < P.length) : idxOf (P.getD i []) (-1) = pE (fuR P i) := idx_fuR fun j hj => (hG.rng i j hi hj).1
theorem row_hit {i : Nat} (hi : i < P.length) (h : scan i (fuR P) = none) {q : Nat × Nat} (hr : fuR P i = some q) : fuP P = some (i, q.2) ∧ q.2 < (P.getD i []).length := by
  obtain ⟨a, b, c⟩ := fuR_fst hr
  refine ⟨?_, b⟩
  have : fuP P = some q := scan_hit hi h hr
  rw [this, ← a]
theorem belowN_split {K : Nat} (h : u < K) : ∃ R, belowN f g once n x e P K = belowN f g once n x e P (u + 1) ++ R := by
  induction K with
  | zero => omega
  | succ K ih =>
    by_cases hu : u = K
    · subst hu; exact ⟨[], (List.append_nil _).symm⟩
    · obtain ⟨R, hR⟩ := ih (by omega)
      exact ⟨R ++ below f g once n x e P K, by rw [belowN_succ, hR, List.append_assoc]⟩
theorem below_go (h : SPair f g) (hG : Good f g once P) (hf : fuP P = some (x, e)) (hn : nu P < n + 1) (hu : (u : Int) < g.sizes.getD x 0) (hs : setS f g once x e u P = some Q) : Good f g once Q ∧ nu Q < n ∧ below f g once n x e P u = dfs f g once n Q := by
  obtain ⟨p1, p2, p3⟩ := fuP_some hf
  obtain ⟨g1, g2, g3⟩ := good_set h hG p1 p2 hu hs
  have := nu_set g2 p1 p2 p3 (by rw [g3]; omega)
  exact ⟨g1, by omega, below_some hs⟩
end Go.Cats
end
