/- Several texts in one: M01, M02, M03, M04, M05, M06, M07, M08, M09, M10, M11, M12, N01, N02, N03, N04, N05, N06, N07, N08, N09, N10, N11, N12, N13, N14, N15, N18, N19, N16, N17. -/
set_option linter.unusedSimpArgs false
set_option linter.unusedVariables false
set_option linter.unusedSectionVars false
section
namespace Go.Cats
noncomputable def dec (P : Prop) : Bool := @decide P (Classical.propDecidable P)
theorem dec_t {P : Prop} (h : P) : dec P = true := by simp [dec, h]
theorem dec_f {P : Prop} (h : ¬ P) : dec P = false := by simp [dec, h]
theorem dec_iff {P : Prop} : dec P = true ↔ P := by simp [dec]
theorem dec_not {P : Prop} : dec P = false ↔ ¬ P := by simp [dec]
theorem dec_congr {P Q : Prop} (h : P ↔ Q) : dec P = dec Q := by
  by_cases p : P
  · rw [dec_t p, dec_t (h.1 p)]
  · rw [dec_f p, dec_f fun q => p (h.2 q)]
theorem dec_eq {P : Prop} [Decidable P] : dec P = decide P := by by_cases h : P <;> simp [dec, h]
/-! ### Scans -/
def scan {α : Type} (n : Nat) (p : Nat → Option α) : Option α := (List.range n).findSome? p
theorem scan_zero {α : Type} (p : Nat → Option α) : scan 0 p = none := rfl
theorem scan_succ {α : Type} (n : Nat) (p : Nat → Option α) : scan (n + 1) p = (scan n p).or (p n) := by
  unfold scan
  rw [List.range_succ, List.findSome?_append]
  simp [List.findSome?]
  cases p n <;> rfl
theorem scan_next {α : Type} {n : Nat} {p : Nat → Option α} (h : scan n p = none) (k : p n = none) : scan (n + 1) p = none := by
  rw [scan_succ, h, k]; rfl
theorem scan_none {α : Type} {n : Nat} {p : Nat → Option α} : scan n p = none ↔ ∀ i, i < n → p i = none := by
  simp [scan, List.findSome?_eq_none_iff]
theorem scan_hit {α : Type} {n i : Nat} {p : Nat → Option α} {r : α} (hi : i < n) (h : scan i p = none) (k : p i = some r) : scan n p = some r := by
  induction n with
  | zero => omega
  | succ n ih =>
    rw [scan_succ]
    by_cases e : i = n
    · subst e; rw [h, k]; rfl
    · rw [ih (by omega)]; rfl
theorem scan_some {α : Type} {n : Nat} {p : Nat → Option α} {r : α} (h : scan n p = some r) : ∃ i, i < n ∧ p i = some r := by
  unfold scan at h
  obtain ⟨i, hi, k⟩ := List.exists_of_findSome?_eq_some h
  exact ⟨i, by simpa using hi, k⟩
theorem all_succ {P : Nat → Prop} {n : Nat} (h : ∀ i, i < n → P i) (k : P n) : ∀ i, i < n + 1 → P i := fun i hi => by
  by_cases e : i = n
  · subst e; exact k
  · exact h i (by omega)
def coll {α : Type} (n : Nat) (f : Nat → List α) : List α := (List.range n).flatMap f
theorem coll_zero {α : Type} (f : Nat → List α) : coll 0 f = [] := rfl
theorem coll_succ {α : Type} (n : Nat) (f : Nat → List α) : coll (n + 1) f = coll n f ++ f n := by
  simp [coll, List.range_succ]
theorem coll_congr {α : Type} {n : Nat} {f g : Nat → List α} (h : ∀ i, i < n → f i = g i) : coll n f = coll n g := by
  unfold coll
  induction n with
  | zero => rfl
  | succ n ih =>
    simp only [List.range_succ, List.flatMap_append, List.flatMap_cons, List.flatMap_nil, List.append_nil]
    rw [ih fun i hi => h i (by omega), h n (by omega)]
theorem mem_coll {α : Type} {n : Nat} {f : Nat → List α} {x : α} : x ∈ coll n f ↔ ∃ i, i < n ∧ x ∈ f i := by
  simp [coll, List.mem_flatMap]
theorem coll_length_le {α : Type} {n k : Nat} {f : Nat → List α} (h : ∀ i, i < n → (f i).length ≤ k) : (coll n f).length ≤ n * k := by
  induction n with
  | zero => simp [coll]
  | succ n ih =>
    rw [coll_succ, List.length_append, Nat.succ_mul]
    have := ih fun i hi => h i (by omega)
    have := h n (by omega)
    omega
theorem mem_getD {α : Type} {l : List α} {x d : α} (h : x ∈ l) : ∃ i, i < l.length ∧ l.getD i d = x := by
  obtain ⟨i, hi, e⟩ := List.getElem_of_mem h
  exact ⟨i, hi, by simp [List.getD_eq_getElem?_getD, hi, e]⟩
def Within (l : List Int) (n : Int) : Prop := ∀ i, i < l.length → 0 ≤ l.getD i 0 ∧ l.getD i 0 < n
/-! ### Categories -/
structure Cat where
  ob : Int
  fr : List Int
  to : List Int
  id : List Int
  co : List (List Int)
def Cat.nil : Cat := ⟨0, [], [], [], []⟩
abbrev Cat.F (c : Cat) (f : Int) : Int := c.fr.getD f.toNat 0
abbrev Cat.T (c : Cat) (f : Int) : Int := c.to.getD f.toNat 0
abbrev Cat.I (c : Cat) (x : Int) : Int := c.id.getD x.toNat 0
abbrev Cat.C (c : Cat) (f g : Int) : Int := (c.co.getD f.toNat []).getD g.toNat 0
structure CatB (c : Cat) : Prop where
  ob1 : -9223372036854775808 ≤ c.ob
  ob2 : c.ob ≤ 9223372036854775807
  fr : c.fr.length ≤ 1048576
  to : c.to.length ≤ 1048576
  id : c.id.length ≤ 1048576
  co : c.co.length ≤ 1048576
  row : ∀ f, f < c.co.length → (c.co.getD f []).length ≤ 1048576
def Cat.Entry (c : Cat) (f g : Nat) : Prop :=
  (c.to.getD f 0 = c.fr.getD g 0 ∧ (0 ≤ c.C f g ∧ c.C f g < c.fr.length) ∧ c.F (c.C f g) = c.fr.getD f 0 ∧ c.T (c.C f g) = c.to.getD g 0) ∨
  (c.to.getD f 0 ≠ c.fr.getD g 0 ∧ c.C f g = -1)
structure Shape (c : Cat) : Prop where
  ob0 : 0 ≤ c.ob
  ob8 : c.ob ≤ 8
  m40 : c.fr.length ≤ 40
  tol : c.to.length = c.fr.length
  frw : Within c.fr c.ob
  tow : Within c.to c.ob
  idl : (c.id.length : Int) = c.ob
  idw : Within c.id c.fr.length
  col : c.co.length = c.fr.length
  ide : ∀ x, x < c.id.length → c.F (c.id.getD x 0) = x ∧ c.T (c.id.getD x 0) = x
  coe : ∀ f, f < c.fr.length → (c.co.getD f []).length = c.fr.length ∧ ∀ g, g < c.fr.length → c.Entry f g
def Cat.fault1 (c : Cat) (f : Nat) : Option (Int × Int × Int × Int) :=
  if c.C (c.I (c.F f)) f ≠ f ∨ c.C f (c.I (c.T f)) ≠ f then some (1, f, 0, 0) else none
def Cat.fault2 (c : Cat) (f g h : Nat) : Option (Int × Int × Int × Int) :=
  if 0 ≤ c.C g h ∧ c.C (c.C f g) h ≠ c.C f (c.C g h) then some (2, f, g, h) else none
def Cat.fault2g (c : Cat) (f g : Nat) : Option (Int × Int × Int × Int) :=
  if c.C f g < 0 then none else scan c.fr.length fun h => c.fault2 f g h
def Cat.fault (c : Cat) : Int × Int × Int × Int :=
  ((scan c.fr.length c.fault1).or (scan c.fr.length fun f => scan c.fr.length fun g => c.fault2g f g)).getD (0, 0, 0, 0)
structure IsCat (c : Cat) : Prop extends Shape c where
  unl : ∀ f : Nat, f < c.fr.length → c.C (c.I (c.F f)) f = f
  unr : ∀ f : Nat, f < c.fr.length → c.C f (c.I (c.T f)) = f
  ass : ∀ f g h : Nat, f < c.fr.length → g < c.fr.length → h < c.fr.length → c.T f = c.F g → c.T g = c.F h → c.C (c.C f g) h = c.C f (c.C g h)
theorem Shape.neg {c : Cat} (s : Shape c) {f g : Nat} (hf : f < c.fr.length) (hg : g < c.fr.length) : c.C f g < 0 ↔ c.T f ≠ c.F g := by
  have := (s.coe f hf).2 g hg
  unfold Cat.Entry at this
  simp only [Cat.T, Cat.F, Int.toNat_natCast]
  rcases this with ⟨h1, h2, h3⟩ | ⟨h1, h2⟩
  · constructor
    · intro h; omega
    · intro h; exact absurd h1 h
  · constructor
    · intro _; exact h1
    · intro _; omega
theorem Shape.fault_zero {c : Cat} (s : Shape c) : c.fault.1 = 0 ↔ IsCat c := by
  unfold Cat.fault
  constructor
  · intro h
    cases h1 : scan c.fr.length c.fault1 with
    | some r =>
      obtain ⟨i, hi, k⟩ := scan_some h1
      unfold Cat.fault1 at k
      split at k
      · simp at k; subst k; simp [h1] at h
      · cases k
    | none =>
      rw [h1] at h
      cases h2 : (scan c.fr.length fun f => scan c.fr.length fun g => c.fault2g f g) with
      | some r =>
        obtain ⟨i, hi, k⟩ := scan_some h2
        obtain ⟨j, hj, k⟩ := scan_some k
        unfold Cat.fault2g at k
        split at k
        · cases k
        · obtain ⟨l, hl, k⟩ := scan_some k
          unfold Cat.fault2 at k
          split at k
          · simp at k; subst k; simp [h2] at h
          · cases k
      | none =>
        rw [scan_none] at h1 h2
        refine ⟨s, fun f hf => ?_, fun f hf => ?_, fun f g h hf hg hh e1 e2 => ?_⟩
        · have := h1 f hf
          unfold Cat.fault1 at this
          split at this
          · cases this
          · rename_i n; exact Classical.byContradiction fun q => n (.inl q)
        · have := h1 f hf
          unfold Cat.fault1 at this
          split at this
          · cases this
          · rename_i n; exact Classical.byContradiction fun q => n (.inr q)
        · have := h2 f hf
          rw [scan_none] at this
          have := this g hg
          unfold Cat.fault2g at this
          rw [if_neg (by rw [s.neg hf hg]; exact fun q => q e1), scan_none] at this
          have := this h hh
          unfold Cat.fault2 at this
          split at this
          · cases this
          · rename_i n
            refine Classical.byContradiction fun q => n ⟨?_, q⟩
            have := (s.neg hg hh)
            exact Int.not_lt.1 fun q => this.1 q e2
  · intro h
    have h1 : scan c.fr.length c.fault1 = none := scan_none.2 fun f hf => by
      unfold Cat.fault1
      rw [if_neg]
      rintro (q | q)
      · exact q (h.unl f hf)
      · exact q (h.unr f hf)
    have h2 : (scan c.fr.length fun f => scan c.fr.length fun g => c.fault2g f g) = none := scan_none.2 fun f hf => scan_none.2 fun g hg => by
      unfold Cat.fault2g
      split
      · rfl
      · rename_i n1
        refine scan_none.2 fun h' hh => ?_
        unfold Cat.fault2
        rw [if_neg]
        rintro ⟨q1, q2⟩
        have e1 := s.neg hf hg
        have e2 := s.neg hg hh
        exact q2 (h.ass f g h' hf hg hh (Classical.byContradiction fun q => n1 (e1.2 q)) (Classical.byContradiction fun q => by have := e2.2 q; omega))
    rw [h1, h2]; rfl
theorem Cat.fault1_t {c : Cat} {f : Nat} (h : c.C (c.I (c.F f)) f ≠ f ∨ c.C f (c.I (c.T f)) ≠ f) : c.fault1 f = some ((1 : Int), (f : Int), (0 : Int), (0 : Int)) := if_pos h
theorem Cat.fault1_f {c : Cat} {f : Nat} (h : c.C (c.I (c.F f)) f = f) (k : c.C f (c.I (c.T f)) = f) : c.fault1 f = none := if_neg fun q => q.elim (fun q => q h) fun q => q k
theorem Cat.fault2_t {c : Cat} {f g h : Nat} (a : 0 ≤ c.C g h) (b : c.C (c.C f g) h ≠ c.C f (c.C g h)) : c.fault2 f g h = some ((2 : Int), (f : Int), (g : Int), (h : Int)) := if_pos ⟨a, b⟩
theorem Cat.fault2_f {c : Cat} {f g h : Nat} (a : 0 ≤ c.C g h → c.C (c.C f g) h = c.C f (c.C g h)) : c.fault2 f g h = none := if_neg fun q => q.2 (a q.1)
theorem Cat.fault2g_f {c : Cat} {f g : Nat} (a : c.C f g < 0) : c.fault2g f g = none := if_pos a
theorem Cat.fault2g_t {c : Cat} {f g : Nat} (a : ¬ c.C f g < 0) : c.fault2g f g = scan c.fr.length fun h => c.fault2 f g h := if_neg a
theorem Cat.fault_1 {c : Cat} {f : Nat} {r : Int × Int × Int × Int} (h : scan f c.fault1 = none) (hf : f < c.fr.length) (k : c.fault1 f = some r) : c.fault = r := by
  unfold Cat.fault
  rw [scan_hit hf h k]; rfl
theorem Cat.fault_2 {c : Cat} {f g h : Nat} {r : Int × Int × Int × Int} (a : scan c.fr.length c.fault1 = none) (h1 : scan f (fun f => scan c.fr.length fun g => c.fault2g f g) = none) (hf : f < c.fr.length)
    (h2 : scan g (fun g => c.fault2g f g) = none) (hg : g < c.fr.length) (n : ¬ c.C f g < 0) (h3 : scan h (fun h => c.fault2 f g h) = none) (hh : h < c.fr.length) (k : c.fault2 f g h = some r) : c.fault = r := by
  unfold Cat.fault
  rw [a, scan_hit hf h1 (scan_hit hg h2 (by rw [Cat.fault2g_t n]; exact scan_hit hh h3 k))]; rfl
theorem Cat.fault_0 {c : Cat} (a : scan c.fr.length c.fault1 = none) (h1 : scan c.fr.length (fun f => scan c.fr.length fun g => c.fault2g f g) = none) : c.fault = (0, 0, 0, 0) := by
  unfold Cat.fault
  rw [a, h1]; rfl
def Cat.homI (c : Cat) (x y : Int) (i : Nat) : List Int := coll i fun f => if c.fr.getD f 0 = x ∧ c.to.getD f 0 = y then [(f : Int)] else []
def Cat.hom (c : Cat) (x y : Int) : List Int := c.homI x y c.fr.length
theorem Cat.homI_zero (c : Cat) (x y : Int) : c.homI x y 0 = [] := rfl
/-! ### Functors -/
structure Fun where
  src : Cat
  tgt : Cat
  obs : List Int
  ars : List Int
def Fun.nil : Fun := ⟨.nil, .nil, [], []⟩
abbrev Fun.O (f : Fun) (x : Int) : Int := f.obs.getD x.toNat 0
abbrev Fun.A (f : Fun) (a : Int) : Int := f.ars.getD a.toNat 0
structure Fits (f : Fun) : Prop where
  obl : (f.obs.length : Int) = f.src.ob
  arl : f.ars.length = f.src.fr.length
  obw : Within f.obs f.tgt.ob
  arw : Within f.ars f.tgt.fr.length
  endf : ∀ a, a < f.ars.length → f.tgt.F (f.ars.getD a 0) = f.O (f.src.F a) ∧ f.tgt.T (f.ars.getD a 0) = f.O (f.src.T a)
  unit : ∀ x, x < f.src.id.length → f.A (f.src.id.getD x 0) = f.tgt.I (f.O x)
  comp : ∀ a b : Nat, a < f.src.fr.length → b < f.src.fr.length → 0 ≤ f.src.C a b → f.A (f.src.C a b) = f.tgt.C (f.A a) (f.A b)
structure IsFun (f : Fun) : Prop where
  src : IsCat f.src
  tgt : IsCat f.tgt
  fits : Fits f
/-! ### Set functors -/
structure SF where
  shape : Cat
  sizes : List Int
  acts : List (List Int)
structure SM where
  src : SF
  tgt : SF
  parts : List (List Int)
def SF.nil : SF := ⟨.nil, [], []⟩
def SM.nil : SM := ⟨.nil, .nil, []⟩
end Go.Cats
end
section
namespace Go.Cats
theorem scan_end {α : Type} {p : Nat → Option α} {i n : Nat} (h : scan i p = none) (a : i ≤ n) (b : n ≤ i) : scan n p = none := by
  have : i = n := by omega
  rw [← this]; exact h
theorem take_snoc {α : Type} {a b : List α} {d : α} {i : Nat} (h : a.take i = b.take i) (ha : i < a.length) (hb : i < b.length) (e : a.getD i d = b.getD i d) : a.take (i + 1) = b.take (i + 1) := by
  have e1 : a.getD i d = a[i] := by simp [List.getD_eq_getElem?_getD, ha]
  have e2 : b.getD i d = b[i] := by simp [List.getD_eq_getElem?_getD, hb]
  rw [e1, e2] at e
  rw [List.take_succ_eq_append_getElem ha, List.take_succ_eq_append_getElem hb, h, e]
theorem take_end {α : Type} {a b : List α} {i : Nat} (h : a.take i = b.take i) (ha : a.length ≤ i) (hb : b.length ≤ i) : a = b := by
  rwa [List.take_of_length_le ha, List.take_of_length_le hb] at h
theorem take_getD {α : Type} {a : List α} {d : α} {i : Nat} (ha : i < a.length) : a.take (i + 1) = a.take i ++ [a.getD i d] := by
  rw [List.take_succ_eq_append_getElem ha]
  simp [List.getD_eq_getElem?_getD, ha]
theorem Cat.eq {c d : Cat} (h1 : c.ob = d.ob) (h2 : c.fr = d.fr) (h3 : c.to = d.to) (h4 : c.id = d.id) (h5 : c.co = d.co) : c = d := by
  cases c; cases d; simp_all
end Go.Cats
end
section
namespace Go.Cats
structure SFB (f : SF) : Prop where
  shape : CatB f.shape
  sizes : f.sizes.length ≤ 1048576
  acts : f.acts.length ≤ 1048576
  row : ∀ a, a < f.acts.length → (f.acts.getD a []).length ≤ 1048576
abbrev SF.act (f : SF) (a : Nat) : List Int := f.acts.getD a []
structure SFShape (f : SF) : Prop where
  cat : IsCat f.shape
  szl : (f.sizes.length : Int) = f.shape.ob
  szw : Within f.sizes 17
  acl : f.acts.length = f.shape.fr.length
  act : ∀ a, a < f.acts.length → ((f.acts.getD a []).length : Int) = f.sizes.getD (f.shape.fr.getD a 0).toNat 0 ∧ Within (f.acts.getD a []) (f.sizes.getD (f.shape.to.getD a 0).toNat 0)
def SF.fault1 (f : SF) (x e : Nat) : Option (Int × Int × Int × Int) :=
  if (f.acts.getD (f.shape.id.getD x 0).toNat []).getD e 0 ≠ e then some ((1 : Int), (x : Int), (e : Int), (0 : Int)) else none
def SF.fault1x (f : SF) (x : Nat) : Option (Int × Int × Int × Int) := scan (f.acts.getD (f.shape.id.getD x 0).toNat []).length fun e => f.fault1 x e
def SF.fault2 (f : SF) (a b e : Nat) : Option (Int × Int × Int × Int) :=
  if (f.acts.getD ((f.shape.co.getD a []).getD b 0).toNat []).getD e 0 ≠ (f.acts.getD b []).getD ((f.acts.getD a []).getD e 0).toNat 0 then some ((2 : Int), (a : Int), (b : Int), (e : Int)) else none
def SF.fault2b (f : SF) (a b : Nat) : Option (Int × Int × Int × Int) :=
  if (f.shape.co.getD a []).getD b 0 < 0 then none else scan (f.acts.getD a []).length fun e => f.fault2 a b e
def SF.fault2a (f : SF) (a : Nat) : Option (Int × Int × Int × Int) := scan (f.shape.co.getD a []).length fun b => f.fault2b a b
def SF.fault (f : SF) : Int × Int × Int × Int :=
  ((scan f.shape.id.length f.fault1x).or (scan f.shape.co.length f.fault2a)).getD (0, 0, 0, 0)
structure IsSF (f : SF) : Prop extends SFShape f where
  unit : ∀ x, x < f.shape.id.length → ∀ e, e < (f.acts.getD (f.shape.id.getD x 0).toNat []).length → (f.acts.getD (f.shape.id.getD x 0).toNat []).getD e 0 = e
  comp : ∀ a b, a < f.shape.fr.length → b < f.shape.fr.length → 0 ≤ (f.shape.co.getD a []).getD b 0 → ∀ e, e < (f.acts.getD a []).length →
    (f.acts.getD ((f.shape.co.getD a []).getD b 0).toNat []).getD e 0 = (f.acts.getD b []).getD ((f.acts.getD a []).getD e 0).toNat 0
/-! ### Natural maps -/
structure SMB (m : SM) : Prop where
  src : SFB m.src
  tgt : SFB m.tgt
  parts : m.parts.length ≤ 1048576
  row : ∀ x, x < m.parts.length → (m.parts.getD x []).length ≤ 1048576
structure SMFits (m : SM) : Prop where
  len : m.parts.length = m.src.sizes.length
  map : ∀ x, x < m.parts.length → ((m.parts.getD x []).length : Int) = m.src.sizes.getD x 0 ∧ Within (m.parts.getD x []) (m.tgt.sizes.getD x 0)
structure SMShape (m : SM) : Prop where
  src : IsSF m.src
  tgt : IsSF m.tgt
  same : m.src.shape = m.tgt.shape
  fits : SMFits m
def SM.bad (m : SM) (a e : Nat) : Option (Int × Int) :=
  if (m.parts.getD (m.src.shape.to.getD a 0).toNat []).getD ((m.src.acts.getD a []).getD e 0).toNat 0 ≠ (m.tgt.acts.getD a []).getD ((m.parts.getD (m.src.shape.fr.getD a 0).toNat []).getD e 0).toNat 0 then some ((a : Int), (e : Int)) else none
structure IsSM (m : SM) : Prop extends SMShape m where
  nat : ∀ a, a < m.src.shape.fr.length → ∀ e, e < (m.src.acts.getD a []).length →
    (m.parts.getD (m.src.shape.to.getD a 0).toNat []).getD ((m.src.acts.getD a []).getD e 0).toNat 0 = (m.tgt.acts.getD a []).getD ((m.parts.getD (m.src.shape.fr.getD a 0).toNat []).getD e 0).toNat 0
end Go.Cats
end
section
namespace Go.Cats
def idxO (l : List Int) (n : Int) (i : Nat) : Option Int := if l.getD i 0 = n then some (i : Int) else none
def idxOf (l : List Int) (n : Int) : Int := (scan l.length (idxO l n)).getD (-1)
theorem idxOf_hit {l : List Int} {n : Int} {i : Nat} (h : scan i (idxO l n) = none) (hi : i < l.length) (k : l.getD i 0 = n) : idxOf l n = i := by
  unfold idxOf
  rw [scan_hit hi h (show idxO l n i = some (i : Int) from if_pos k)]; rfl
theorem idxOf_none {l : List Int} {n : Int} (h : scan l.length (idxO l n) = none) : idxOf l n = -1 := by
  unfold idxOf
  rw [h]; rfl
theorem idxO_f {l : List Int} {n : Int} {i : Nat} (k : ¬ l.getD i 0 = n) : idxO l n i = none := if_neg k
theorem idxOf_of {l : List Int} {n : Int} (h : idxOf l n ≠ -1) : 0 ≤ idxOf l n ∧ idxOf l n < l.length ∧ l.getD (idxOf l n).toNat 0 = n := by
  unfold idxOf at h ⊢
  cases hs : scan l.length (idxO l n) with
  | none => rw [hs] at h; exact absurd rfl h
  | some r =>
    obtain ⟨i, hi, k⟩ := scan_some hs
    unfold idxO at k
    split at k
    · rename_i q; simp at k; subst k
      simp only [Option.getD_some, Int.toNat_natCast]
      exact ⟨by omega, by omega, q⟩
    · cases k
end Go.Cats
end
section
namespace Go.Cats
end Go.Cats
end
section
namespace Go.Cats
end Go.Cats
end
section
namespace Go.Cats
end Go.Cats
end
section
namespace Go.Cats
def cH (f g : Fun) (a b : Nat) : List Int := f.tgt.hom (f.obs.getD a 0) (g.obs.getD b 0)
def cO (f g : Fun) (a b k : Nat) : List (List Int) :=
  (coll a fun a => coll g.obs.length fun b => (cH f g a b).map fun h => [(a : Int), (b : Int), h]) ++ (coll b fun b => (cH f g a b).map fun h => [(a : Int), (b : Int), h]) ++ ((cH f g a b).take k).map fun h => [(a : Int), (b : Int), h]
def cObj (f g : Fun) : List (List Int) := cO f g f.obs.length 0 0
theorem cO_zero (f g : Fun) : cO f g 0 0 0 = [] := by simp [cO, coll]
def colN (l : List (List Int)) (k n : Nat) : List Int := (l.take n).map fun r => r.getD k 0
theorem colN_zero (l : List (List Int)) (k : Nat) : colN l k 0 = [] := rfl
theorem colN_len (l : List (List Int)) (k n : Nat) : (colN l k n).length = min n l.length := by simp [colN]
end Go.Cats
end
section
namespace Go.Cats
abbrev rw' (O : List (List Int)) (p k : Nat) : Int := (O.getD p []).getD k 0
def cU (f : Fun) (k : Nat) (O : List (List Int)) (s t : Nat) : List Int := f.src.hom (rw' O s k) (rw' O t k)
def cC (f e : Fun) (O : List (List Int)) (s t : Nat) (u v : Int) : Prop := f.tgt.C (f.A u) (rw' O t 2) = f.tgt.C (rw' O s 2) (e.A v)
open Classical in
noncomputable def cE (f e : Fun) (O : List (List Int)) (s t i j : Nat) : List (List Int) :=
  if cC f e O s t ((cU f 0 O s t).getD i 0) ((cU e 1 O s t).getD j 0) then [[(s : Int), (t : Int), (cU f 0 O s t).getD i 0, (cU e 1 O s t).getD j 0]] else []
noncomputable def cRow (f e : Fun) (O : List (List Int)) (s t i : Nat) : List (List Int) := coll (cU e 1 O s t).length fun j => cE f e O s t i j
noncomputable def cCell (f e : Fun) (O : List (List Int)) (s t : Nat) : List (List Int) := coll (cU f 0 O s t).length fun i => cRow f e O s t i
noncomputable def cA (f e : Fun) (O : List (List Int)) (s t i j : Nat) : List (List Int) :=
  (coll s fun s => coll O.length fun t => cCell f e O s t) ++ (coll t fun t => cCell f e O s t) ++ (coll i fun i => cRow f e O s t i) ++ (coll j fun j => cE f e O s t i j)
noncomputable def cArr (f e : Fun) (O : List (List Int)) : List (List Int) := cA f e O O.length 0 0 0
variable {f e : Fun} {O : List (List Int)} {s t i j : Nat}
theorem cA_zero : cA f e O 0 0 0 0 = [] := by simp [cA, coll]
structure ObjR (f e : Fun) (r : List Int) : Prop where
  len : r.length = 3
  lo : 0 ≤ r.getD 0 0
  lh : r.getD 0 0 < f.src.ob
  ro : 0 ≤ r.getD 1 0
  rh : r.getD 1 0 < e.src.ob
  ao : 0 ≤ r.getD 2 0
  ah : r.getD 2 0 < f.tgt.fr.length
  frm : f.tgt.F (r.getD 2 0) = f.O (r.getD 0 0)
  to : f.tgt.T (r.getD 2 0) = e.O (r.getD 1 0)
def fndO (l : List (List Int)) (r : List Int) (i : Nat) : Option Int := if l.getD i [] = r then some (i : Int) else none
def fnd (l : List (List Int)) (r : List Int) : Int := (scan l.length (fndO l r)).getD (-1)
end Go.Cats
end
section
namespace Go.Cats
def tb {α : Type} (n : Nat) (F : Nat → α) : List α := (List.range n).map F
theorem tb_zero {α : Type} (F : Nat → α) : tb 0 F = [] := rfl
theorem tb_len {α : Type} (n : Nat) (F : Nat → α) : (tb n F).length = n := by simp [tb]
theorem tb_at {α : Type} (n : Nat) (F : Nat → α) (d : α) {i : Nat} (h : i < n) : (tb n F).getD i d = F i := by simp [tb, h]
def bId (A : List (List Int)) (a b : Cat) (L R : List Int) (x : Nat) : Int := fnd A [(x : Int), (x : Int), a.id.getD (L.getD x 0).toNat 0, b.id.getD (R.getD x 0).toNat 0]
def bKey (A : List (List Int)) (a b : Cat) (i j : Nat) : List Int := [rw' A i 0, rw' A j 1, a.C (rw' A i 2) (rw' A j 2), b.C (rw' A i 3) (rw' A j 3)]
def bEnt (A : List (List Int)) (a b : Cat) (i j : Nat) : Int := if rw' A i 1 = rw' A j 0 then fnd A (bKey A a b i j) else -1
def bCat (N : Nat) (A : List (List Int)) (a b : Cat) (L R : List Int) (k : Nat) : Cat :=
  ⟨N, colN A 0 A.length, colN A 1 A.length, tb N (bId A a b L R), tb k fun i => tb A.length (bEnt A a b i)⟩
structure ArrR (a b : Cat) (r : List Int) : Prop where
  len : r.length = 4
  ul : 0 ≤ r.getD 2 0
  uh : r.getD 2 0 < a.fr.length
  vl : 0 ≤ r.getD 3 0
  vh : r.getD 3 0 < b.fr.length
noncomputable def cmA (f e : Fun) : List (List Int) := cArr f e (cObj f e)
noncomputable def cmC (f e : Fun) (k : Nat) : Cat := bCat (cObj f e).length (cmA f e) f.src e.src (colN (cObj f e) 0 (cObj f e).length) (colN (cObj f e) 1 (cObj f e).length) k
end Go.Cats
end
section
namespace Go.Cats
variable {f e : Fun} {O : List (List Int)} {s t i j : Nat}
end Go.Cats
end
section
namespace Go.Cats
variable {f e : Fun} {O : List (List Int)} {s t i j : Nat}
end Go.Cats
end
section
namespace Go.Cats
def nums (n : Nat) : List Int := (List.range n).map fun i : Nat => (i : Int)
theorem nums_zero : nums 0 = [] := rfl
theorem nums_len (n : Nat) : (nums n).length = n := by simp [nums]
theorem nums_succ (n : Nat) : nums (n + 1) = nums n ++ [(n : Int)] := by simp [nums, List.range_succ]
theorem nums_at {n i : Nat} (h : i < n) : (nums n).getD i 0 = i := by simp [nums, h]
def oneC : Cat := ⟨1, [0], [0], [0], [[0]]⟩
def selfF (c : Cat) : Fun := ⟨c, c, nums c.ob.toNat, nums c.fr.length⟩
def pointF (c : Cat) (x : Int) : Fun := ⟨oneC, c, [x], [c.I x]⟩
end Go.Cats
end
section
namespace Go.Cats
abbrev pv (P : List (List Int)) (y i : Nat) : Int := (P.getD y []).getD i 0
def pset (P : List (List Int)) (y i : Nat) (k : Int) : List (List Int) := P.set y ((P.getD y []).set i k)
section
variable (f g : SF) (once : Bool)
abbrev SF.av (f : SF) (a : Nat) (e : Nat) : Int := (f.acts.getD a []).getD e 0
abbrev SF.ty (f : SF) (a : Nat) : Nat := (f.shape.to.getD a 0).toNat
abbrev SF.fx (f : SF) (a : Nat) : Nat := (f.shape.fr.getD a 0).toNat
def stepS (e u : Nat) (P : List (List Int)) (a : Nat) : Option (List (List Int)) :=
  if 0 ≤ pv P (f.ty a) (f.av a e).toNat then (if pv P (f.ty a) (f.av a e).toNat = g.av a u then some P else none)
  else if once = true ∧ g.av a u ∈ P.getD (f.ty a) [] then none else some (pset P (f.ty a) (f.av a e).toNat (g.av a u))
def setN (x e u : Nat) (P : List (List Int)) : Nat → Option (List (List Int))
  | 0 => some P
  | n + 1 => (setN x e u P n).bind fun Q => if f.shape.fr.getD n 0 = x then stepS f g once e u Q n else some Q
def setS (x e u : Nat) (P : List (List Int)) : Option (List (List Int)) := setN f g once x e u P f.shape.fr.length
structure Good (P : List (List Int)) : Prop where
  len : P.length = f.sizes.length
  row : ∀ y, y < P.length → ((P.getD y []).length : Int) = f.sizes.getD y 0
  rng : ∀ y i, y < P.length → i < (P.getD y []).length → -1 ≤ pv P y i ∧ pv P y i < g.sizes.getD y 0
  cl : ∀ b i, b < f.shape.fr.length → i < (P.getD (f.fx b) []).length → 0 ≤ pv P (f.fx b) i → pv P (f.ty b) (f.av b i).toNat = g.av b (pv P (f.fx b) i).toNat
  inj : once = true → ∀ y i j, y < P.length → i < (P.getD y []).length → j < (P.getD y []).length → 0 ≤ pv P y i → pv P y i = pv P y j → i = j
def Ext' (P Q : List (List Int)) : Prop := P.length = Q.length ∧ (∀ y, (P.getD y []).length = (Q.getD y []).length) ∧ ∀ y i, y < P.length → i < (P.getD y []).length → 0 ≤ pv P y i → pv Q y i = pv P y i
end
variable {f g : SF} {once : Bool} {x e u : Nat} {P Q : List (List Int)}
structure SPair (f g : SF) : Prop where
  src : IsSF f
  tgt : IsSF g
  one : f.shape = g.shape
structure Gd (f g : SF) (once : Bool) (P : List (List Int)) : Prop where
  len : P.length = f.sizes.length
  row : ∀ y, y < P.length → ((P.getD y []).length : Int) = f.sizes.getD y 0
  rng : ∀ y i, y < P.length → i < (P.getD y []).length → -1 ≤ pv P y i ∧ pv P y i < g.sizes.getD y 0
  inj : once = true → ∀ y i j, y < P.length → i < (P.getD y []).length → j < (P.getD y []).length → 0 ≤ pv P y i → pv P y i = pv P y j → i = j
end Go.Cats
end
section
namespace Go.Cats
section
variable (f g : SF) (once : Bool)
end
variable {f g : SF} {once : Bool} {x e u : Nat} {P Q : List (List Int)}
theorem filt_le : ∀ {r s : List Int}, r.length = s.length → (∀ i, i < r.length → 0 ≤ r.getD i 0 → s.getD i 0 = r.getD i 0) → (s.filter fun v => decide (v < 0)).length ≤ (r.filter fun v => decide (v < 0)).length
  | [], [], _, _ => Nat.le_refl _
  | [], _ :: _, h, _ => by simp at h
  | _ :: _, [], h, _ => by simp at h
  | a :: r, b :: s, hl, h => by
    have ih := filt_le (r := r) (s := s) (by simpa using hl) (fun i hi h0 => by
      have := h (i + 1) (by simp; omega) (by simpa using h0)
      simpa using this)
    have h0 := h 0 (by simp)
    simp only [List.getD_cons_zero] at h0
    simp only [List.filter_cons]
    by_cases ha : a < 0
    · by_cases hb : b < 0
      · simp [ha, hb]; exact ih
      · simp [ha, hb]; omega
    · have := h0 (by omega)
      subst this
      simp [ha]; exact ih
theorem filt_lt : ∀ {r s : List Int}, r.length = s.length → (∀ i, i < r.length → 0 ≤ r.getD i 0 → s.getD i 0 = r.getD i 0) → ∀ j, j < r.length → r.getD j 0 < 0 → 0 ≤ s.getD j 0 → (s.filter fun v => decide (v < 0)).length < (r.filter fun v => decide (v < 0)).length
  | [], _, _, _, j, hj, _, _ => by simp at hj
  | _ :: _, [], h, _, _, _, _, _ => by simp at h
  | a :: r, b :: s, hl, h, j, hj, h1, h2 => by
    have hl' : r.length = s.length := by simpa using hl
    have hs : ∀ i, i < r.length → 0 ≤ r.getD i 0 → s.getD i 0 = r.getD i 0 := fun i hi h0 => by
      have := h (i + 1) (by simp; omega) (by simpa using h0)
      simpa using this
    have h0 := h 0 (by simp)
    simp only [List.getD_cons_zero] at h0
    simp only [List.filter_cons]
    cases j with
    | zero =>
      have ha : a < 0 := by simpa using h1
      have hb : ¬ b < 0 := by have : 0 ≤ b := by simpa using h2
                              omega
      have := filt_le hl' hs
      simp [ha, hb]; omega
    | succ j =>
      have ih := filt_lt hl' hs j (by simpa using hj) (by simpa using h1) (by simpa using h2)
      by_cases ha : a < 0
      · by_cases hb : b < 0
        · simp [ha, hb]; exact ih
        · simp [ha, hb]; omega
      · have := h0 (by omega)
        subst this
        simp [ha]; exact ih
end Go.Cats
end
section
namespace Go.Cats
section
variable (f g : SF) (once : Bool)
def newS (e : Nat) (P : List (List Int)) (a : Nat) : Prop := ¬ 0 ≤ pv P (f.ty a) (f.av a e).toNat
instance (e : Nat) (P : List (List Int)) (a : Nat) : Decidable (newS f e P a) := by unfold newS; infer_instance
def setL (e u : Nat) : List Nat → List (List Int) → List (Int × Int) → Bool × List (List Int) × List (Int × Int)
  | [], P, N => (true, P, N)
  | a :: l, P, N => match stepS f g once e u P a with
    | none => (false, P, N)
    | some Q => setL e u l Q (if newS f e P a then N ++ [((f.ty a : Int), f.av a e)] else N)
def outN (c : Cat) (x : Nat) (n : Nat) : List Nat := (List.range n).filter fun a => decide (c.fr.getD a 0 = x)
end
variable {f g : SF} {once : Bool} {x e u : Nat} {P Q : List (List Int)}
def undo (P : List (List Int)) (N : List (Int × Int)) : List (List Int) := N.foldl (fun P p => pset P p.1.toNat p.2.toNat (-1)) P
end Go.Cats
end
section
namespace Go.Cats
def sumI (l : List Int) : Nat → Int
  | 0 => 0
  | n + 1 => sumI l n + l.getD n 0
theorem sumI_zero (l : List Int) : sumI l 0 = 0 := rfl
def SF.elems (f : SF) : Int := sumI f.sizes f.sizes.length
theorem rep_fill {i n : Nat} (k : Int) (h : i < n) : (List.replicate i k ++ List.replicate (n - i) 0).set i k = List.replicate (i + 1) k ++ List.replicate (n - (i + 1)) 0 := by
  have e : n - i = (n - (i + 1)) + 1 := by omega
  rw [e, List.replicate_succ, List.set_append_right _ _ (by simp), List.length_replicate, Nat.sub_self, List.set_cons_zero, List.replicate_succ', List.append_assoc]
  rfl
def outI (c : Cat) (x n : Nat) : List Int := (outN c x n).map fun a : Nat => (a : Int)
theorem outI_zero (c : Cat) (x : Nat) : outI c x 0 = [] := rfl
end Go.Cats
end
section
namespace Go.Cats
section
variable (f g : SF) (once : Bool)
end
variable {f g : SF} {once : Bool} {x e u j a : Nat} {P Q : List (List Int)} {N : List (Int × Int)}
variable {y i k : Int}
end Go.Cats
end
section
namespace Go.Cats
section
variable (f g : SF) (once : Bool)
def refQ (x e u : Nat) (P : List (List Int)) (a : Nat) : List (List Int) := (setN f g once x e u P a).getD P
end
variable {f g : SF} {once : Bool} {x e u a : Nat} {P Q : List (List Int)}
section
variable (h : setN f g once x e u P a = some (refQ f g once x e u P a)) (ha : a < f.shape.fr.length) (hx : f.shape.fr.getD a 0 = x)
include h ha hx
end
end Go.Cats
end
section
namespace Go.Cats
section
variable (f g : SF) (once : Bool)
end
variable {f g : SF} {once : Bool} {x e n : Nat} {P Q : List (List Int)}
end Go.Cats
end
section
namespace Go.Cats
section
variable (f g : SF) (once : Bool)
end
variable {f g : SF} {once : Bool} {n x e u : Nat} {P Q : List (List Int)}
theorem take_take (A B C : List (List (List Int))) (k : Nat) : ((A ++ B).take k ++ C).take k = (A ++ (B ++ C)).take k := by
  rw [← List.append_assoc, List.take_append, List.take_append (l₁ := A ++ B), List.take_take, Nat.min_self, List.length_take]
  by_cases h : k ≤ (A ++ B).length
  · rw [Nat.min_eq_left h, Nat.sub_self, Nat.sub_eq_zero_of_le h]
  · rw [Nat.min_eq_right (by omega)]
end Go.Cats
end
section
namespace Go.Cats
def suf {α : Type} (n : Nat) (p : Nat → Option α) : Nat → Option α
  | 0 => none
  | k + 1 => (p (n - 1 - k)).or (suf n p k)
theorem suf_zero {α : Type} {n : Nat} {p : Nat → Option α} : suf n p 0 = none := rfl
theorem suf_succ {α : Type} {n k : Nat} {p : Nat → Option α} : suf n p (k + 1) = (p (n - 1 - k)).or (suf n p k) := rfl
theorem suf_scan {α : Type} {n : Nat} {p : Nat → Option α} : ∀ k, k ≤ n → scan n p = (scan (n - k) p).or (suf n p k)
  | 0, _ => by rw [suf_zero, Nat.sub_zero]; cases scan n p <;> rfl
  | k + 1, hk => by
    rw [suf_scan k (by omega), suf_succ, show n - k = (n - 1 - k) + 1 by omega, scan_succ, show n - (k + 1) = n - 1 - k by omega, Option.or_assoc]
theorem suf_all {α : Type} {n : Nat} {p : Nat → Option α} : suf n p n = scan n p := by
  rw [suf_scan n (Nat.le_refl n), Nat.sub_self, scan_zero]; rfl
section
variable (f g : SF) (once : Bool)
end
variable {f g : SF} {once : Bool} {n x e u : Nat} {P Q : List (List Int)}
end Go.Cats
end
section
namespace Go.Cats
/-! ### Results, taken up one by one -/
section
variable {α β : Type} (s : α → β → Bool × α)
def eat : α → List β → Bool × α
  | o, [] => (true, o)
  | o, q :: D => if (s o q).1 = true then eat (s o q).2 D else (false, (s o q).2)
end
section
variable {α β : Type} {s : α → β → Bool × α} {o : α} {D E : List β} {q : β}
theorem eat_nil : eat s o [] = (true, o) := rfl
theorem eat_t (h : (s o q).1 = true) : eat s o (q :: D) = eat s (s o q).2 D := by rw [eat]; exact if_pos h
theorem eat_f (h : (s o q).1 = false) : eat s o (q :: D) = (false, (s o q).2) := by rw [eat]; exact if_neg (by rw [h]; simp)
theorem eat_one : eat s o [q] = s o q := by
  cases h : (s o q).1 with
  | true => rw [eat_t h, eat_nil, ← h]
  | false => rw [eat_f h, ← h]
theorem eat_go : ∀ {D : List β} {o : α}, (eat s o D).1 = true → eat s o (D ++ E) = eat s (eat s o D).2 E
  | [], o, _ => rfl
  | q :: D, o, h => by
    cases hq : (s o q).1 with
    | true =>
      rw [eat_t hq] at h
      rw [List.cons_append, eat_t hq, eat_t hq, eat_go h]
    | false => rw [eat_f hq] at h; cases h
theorem eat_stop : ∀ {D : List β} {o : α}, (eat s o D).1 = false → eat s o (D ++ E) = eat s o D
  | [], o, h => by cases h
  | q :: D, o, h => by
    cases hq : (s o q).1 with
    | true =>
      rw [eat_t hq] at h
      rw [List.cons_append, eat_t hq, eat_t hq, eat_stop h]
    | false => rw [List.cons_append, eat_f hq, eat_f hq]
end
/-! ### The way back -/
variable {f g : SF} {once : Bool} {x e u n : Nat} {P Q : List (List Int)} {N : List (Int × Int)}
structure ChF (f g : SF) (once : Bool) (x e u : Nat) (P Q : List (List Int)) (N : List (Int × Int)) (ok : Bool) : Prop where
  len : Q.length = P.length
  row : ∀ y, (Q.getD y []).length = (P.getD y []).length
  nl : N.length ≤ 4096
  at1 : ∀ i, i < N.length → 0 ≤ (N.getD i (0, 0)).1 ∧ (N.getD i (0, 0)).1.toNat < P.length ∧ 0 ≤ (N.getD i (0, 0)).2 ∧ (N.getD i (0, 0)).2.toNat < (P.getD (N.getD i (0, 0)).1.toNat []).length
  back : undo Q N = P
  yes : ok = true → setS f g once x e u P = some Q
  no : ok = false → setS f g once x e u P = none
end Go.Cats
end
section
namespace Go.Cats
def lexP : List Nat → List (List Int)
  | [] => [[]]
  | s :: S => (List.range s).flatMap fun v : Nat => (lexP S).map fun l => (v : Int) :: l
def contB : List Int → List Int → Bool
  | [], [] => true
  | a :: A, q :: Q => (decide (a < 0) || decide (q = a)) && contB A Q
  | _, _ => false
def extW (W : List Int → Bool) (S : List Nat) (A : List Int) : List (List Int) := (lexP S).filter fun Q => contB A Q && W Q
theorem mem_lexP : ∀ {S : List Nat} {Q : List Int}, Q ∈ lexP S ↔ Q.length = S.length ∧ ∀ i, i < Q.length → 0 ≤ Q.getD i 0 ∧ Q.getD i 0 < S.getD i 0
  | [], Q => by
    simp only [lexP, List.mem_singleton, List.length_nil]
    constructor
    · rintro rfl; exact ⟨rfl, fun i hi => by simp at hi⟩
    · rintro ⟨h, _⟩; exact List.length_eq_zero_iff.1 h
  | s :: S, Q => by
    simp only [lexP, List.mem_flatMap, List.mem_range, List.mem_map]
    constructor
    · rintro ⟨v, hv, l, hl, rfl⟩
      obtain ⟨h1, h2⟩ := mem_lexP.1 hl
      refine ⟨by simp [h1], fun i hi => ?_⟩
      cases i with
      | zero => simpa using hv
      | succ i => simpa using h2 i (by simpa using hi)
    · rintro ⟨h1, h2⟩
      cases Q with
      | nil => simp at h1
      | cons q Q =>
        have h0 := h2 0 (by simp)
        simp only [List.getD_cons_zero] at h0
        refine ⟨q.toNat, by omega, Q, mem_lexP.2 ⟨by simpa using h1, fun i hi => by have := h2 (i + 1) (by simp; omega); simpa using this⟩, ?_⟩
        rw [Int.toNat_of_nonneg h0.1]
theorem contB_iff : ∀ {A Q : List Int}, contB A Q = true ↔ A.length = Q.length ∧ ∀ i, i < A.length → 0 ≤ A.getD i 0 → Q.getD i 0 = A.getD i 0
  | [], [] => by simp [contB]
  | [], _ :: _ => by simp [contB]
  | _ :: _, [] => by simp [contB]
  | a :: A, q :: Q => by
    simp only [contB, Bool.and_eq_true, Bool.or_eq_true, decide_eq_true_eq, contB_iff (A := A) (Q := Q), List.length_cons, Nat.add_right_cancel_iff]
    constructor
    · rintro ⟨h0, h1, h2⟩
      refine ⟨h1, fun i hi h => ?_⟩
      cases i with
      | zero => simp only [List.getD_cons_zero] at h ⊢; omega
      | succ i => simp only [List.getD_cons_succ] at h ⊢; exact h2 i (by omega) h
    · rintro ⟨h1, h2⟩
      refine ⟨?_, h1, fun i hi h => ?_⟩
      · have := h2 0 (by omega)
        simp only [List.getD_cons_zero] at this
        omega
      · have := h2 (i + 1) (by omega)
        simpa using this (by simpa using h)
theorem mem_extW {W : List Int → Bool} {S : List Nat} {A Q : List Int} : Q ∈ extW W S A ↔ Q ∈ lexP S ∧ contB A Q = true ∧ W Q = true := by
  unfold extW
  rw [List.mem_filter, Bool.and_eq_true]
theorem extW_congr {W : List Int → Bool} {S : List Nat} {A B : List Int} (h : ∀ Q, Q ∈ lexP S → W Q = true → (contB A Q = true ↔ contB B Q = true)) : extW W S A = extW W S B := by
  unfold extW
  refine List.filter_congr fun Q hQ => ?_
  cases hW : W Q with
  | false => rw [Bool.and_false, Bool.and_false]
  | true =>
    rw [Bool.and_true, Bool.and_true]
    have := h Q hQ hW
    cases h1 : contB A Q <;> cases h2 : contB B Q <;> simp_all
theorem extW_nil {W : List Int → Bool} {S : List Nat} {A : List Int} (h : ∀ Q, Q ∈ lexP S → W Q = true → contB A Q = true → False) : extW W S A = [] := by
  rw [List.eq_nil_iff_forall_not_mem]
  intro Q hQ
  obtain ⟨h1, h2, h3⟩ := mem_extW.1 hQ
  exact h Q h1 h3 h2
theorem flat_one {β : Type} {s : Nat} {a : Int} {g : Nat → List β} : ((List.range s).flatMap fun v : Nat => if (v : Int) = a then g v else []) = if 0 ≤ a ∧ a < s then g a.toNat else [] := by
  induction s with
  | zero => rw [if_neg (by omega)]; rfl
  | succ s ih =>
    rw [List.range_succ, List.flatMap_append, ih, List.flatMap_cons, List.flatMap_nil, List.append_nil]
    by_cases h : (s : Int) = a
    · subst h
      rw [if_neg (by omega), if_pos rfl, if_pos (by omega), List.nil_append, Int.toNat_natCast]
    · rw [if_neg h, List.append_nil]
      by_cases h1 : 0 ≤ a ∧ a < s
      · rw [if_pos h1, if_pos (by omega)]
      · rw [if_neg h1, if_neg (by omega)]
theorem extW_cons {W : List Int → Bool} {s : Nat} {S : List Nat} {a : Int} {A : List Int} :
    extW W (s :: S) (a :: A) = (List.range s).flatMap fun v : Nat => if a < 0 ∨ (v : Int) = a then (extW (fun Q => W ((v : Int) :: Q)) S A).map fun l => (v : Int) :: l else [] := by
  unfold extW
  rw [lexP, List.filter_flatMap]
  congr 1
  funext v
  rw [List.filter_map]
  by_cases h : a < 0 ∨ (v : Int) = a
  · rw [if_pos h]
    congr 1
    refine List.filter_congr fun Q _ => ?_
    have : (decide (a < 0) || decide ((v : Int) = a)) = true := by simpa using h
    simp only [Function.comp, contB, this, Bool.true_and]
  · rw [if_neg h]
    have : (decide (a < 0) || decide ((v : Int) = a)) = false := by simpa using h
    have e : ((fun Q => contB (a :: A) Q && W Q) ∘ fun l => (v : Int) :: l) = fun _ => false := by
      funext Q
      simp only [Function.comp, contB, this, Bool.false_and]
    rw [e]
    simp
theorem extW_set {W : List Int → Bool} {s : Nat} {S : List Nat} {a : Int} {A : List Int} (h : 0 ≤ a) : extW W (s :: S) (a :: A) = if a < s then (extW (fun Q => W (a :: Q)) S A).map fun l => a :: l else [] := by
  rw [extW_cons]
  have : (fun v : Nat => if a < 0 ∨ (v : Int) = a then (extW (fun Q => W ((v : Int) :: Q)) S A).map (fun l => (v : Int) :: l) else []) = fun v : Nat => if (v : Int) = a then (extW (fun Q => W ((v : Int) :: Q)) S A).map (fun l => (v : Int) :: l) else [] := by
    funext v
    by_cases h1 : (v : Int) = a
    · rw [if_pos (.inr h1), if_pos h1]
    · rw [if_neg (by omega), if_neg h1]
  rw [this, flat_one]
  by_cases h1 : a < s
  · rw [if_pos ⟨h, h1⟩, if_pos h1, Int.toNat_of_nonneg h]
  · rw [if_neg (by omega), if_neg h1]
theorem extW_branch : ∀ {W : List Int → Bool} {S : List Nat} {A : List Int} {i : Nat}, A.length = S.length → i < A.length → (∀ j, j < i → 0 ≤ A.getD j 0) → A.getD i 0 < 0 →
    extW W S A = (List.range (S.getD i 0)).flatMap fun u : Nat => extW W S (A.set i (u : Int))
  | W, [], A, i, hl, hi, _, _ => by simp at hl; subst hl; simp at hi
  | W, s :: S, [], i, hl, hi, _, _ => by simp at hi
  | W, s :: S, a :: A, 0, hl, hi, _, h0 => by
    simp only [List.getD_cons_zero] at h0 ⊢
    rw [extW_cons]
    rw [List.flatMap_def, List.flatMap_def]
    congr 1
    refine List.map_congr_left fun u hu => ?_
    have hu := List.mem_range.1 hu
    rw [List.set_cons_zero, extW_set (by omega), if_pos (Or.inl h0), if_pos (show (u : Int) < s by omega)]
  | W, s :: S, a :: A, i + 1, hl, hi, hlt, h0 => by
    have ha := hlt 0 (by omega)
    simp only [List.getD_cons_zero, List.getD_cons_succ] at ha h0 ⊢
    have ih := extW_branch (W := fun Q => W (a :: Q)) (S := S) (A := A) (i := i) (by simpa using hl) (by simpa using hi) (fun j hj => by have := hlt (j + 1) (by omega); simpa using this) h0
    rw [extW_set ha]
    have : (fun u : Nat => extW W (s :: S) ((a :: A).set (i + 1) (u : Int))) = fun u : Nat => if a < s then (extW (fun Q => W (a :: Q)) S (A.set i (u : Int))).map (fun l => a :: l) else [] := by
      funext u
      rw [List.set_cons_succ, extW_set ha]
    rw [this]
    by_cases h1 : a < s
    · rw [if_pos h1, ih, List.map_flatMap]
      simp only [if_pos h1]
    · rw [if_neg h1]
      simp only [if_neg h1]
      simp
theorem extW_full : ∀ {W : List Int → Bool} {S : List Nat} {A : List Int}, A.length = S.length → (∀ j, j < A.length → 0 ≤ A.getD j 0 ∧ A.getD j 0 < S.getD j 0) → extW W S A = if W A = true then [A] else []
  | W, [], A, hl, _ => by
    have : A = [] := List.length_eq_zero_iff.1 hl
    subst this
    cases h : W [] <;> simp [extW, lexP, contB, h]
  | W, s :: S, [], hl, _ => by simp at hl
  | W, s :: S, a :: A, hl, h => by
    have h0 := h 0 (by simp)
    simp only [List.getD_cons_zero] at h0
    rw [extW_set h0.1, if_pos h0.2, extW_full (by simpa using hl) (fun j hj => by have := h (j + 1) (by simp; omega); simpa using this)]
    split <;> simp_all
end Go.Cats
end
section
namespace Go.Cats
structure Rule where
  fr : Int
  to : Int
  by_ : List Int
instance : Inhabited Rule := ⟨⟨0, 0, []⟩⟩
def rulesAt (rs : List Rule) (i : Nat) : List Rule := rs.filter fun r => decide (r.fr = i)
def okW (rs : List Rule) (Q : List Int) : Bool := rs.all fun r => decide (Q.getD r.to.toNat 0 = r.by_.getD (Q.getD r.fr.toNat 0).toNat 0)
structure RulesW (S : List Nat) (rs : List Rule) : Prop where
  fr : ∀ r ∈ rs, 0 ≤ r.fr ∧ r.fr < S.length
  to : ∀ r ∈ rs, 0 ≤ r.to ∧ r.to < S.length
  len : ∀ r ∈ rs, r.by_.length = S.getD r.fr.toNat 0
  val : ∀ r ∈ rs, ∀ e : Nat, e < S.getD r.fr.toNat 0 → 0 ≤ r.by_.getD e 0 ∧ r.by_.getD e 0 < S.getD r.to.toNat 0
theorem mem_rulesAt {rs : List Rule} {i : Nat} {r : Rule} (h : r ∈ rulesAt rs i) : r ∈ rs ∧ r.fr = i := by
  unfold rulesAt at h
  simpa [List.mem_filter] using h
abbrev St := Bool × List Int × List Int
def loopF (f : Nat → Int → List Int → List Int → St) (e : Int) : List Rule → List Int → List Int → St
  | [], A, N => (true, A, N)
  | r :: l, A, N => if (f r.to.toNat (r.by_.getD e.toNat 0) A N).1 = true then loopF f e l (f r.to.toNat (r.by_.getD e.toNat 0) A N).2.1 (f r.to.toNat (r.by_.getD e.toNat 0) A N).2.2 else f r.to.toNat (r.by_.getD e.toNat 0) A N
def setF (rs : List Rule) : Nat → Nat → Int → List Int → List Int → St
  | 0, _, _, A, N => (false, A, N)
  | n + 1, i, e, A, N => if 0 ≤ A.getD i 0 then (decide (A.getD i 0 = e), A, N) else loopF (setF rs n) e (rulesAt rs i) (A.set i e) (N ++ [(i : Int)])
section
variable {f : Nat → Int → List Int → List Int → St} {e : Int} {r : Rule} {l m : List Rule} {A B C N Q : List Int} {rs : List Rule} {S : List Nat} {n i : Nat}
theorem loopF_nil : loopF f e [] A N = (true, A, N) := rfl
theorem loopF_go (h : (f r.to.toNat (r.by_.getD e.toNat 0) A N).1 = true) : loopF f e (r :: l) A N = loopF f e l (f r.to.toNat (r.by_.getD e.toNat 0) A N).2.1 (f r.to.toNat (r.by_.getD e.toNat 0) A N).2.2 := by rw [loopF]; exact if_pos h
theorem loopF_no (h : (f r.to.toNat (r.by_.getD e.toNat 0) A N).1 = false) : loopF f e (r :: l) A N = f r.to.toNat (r.by_.getD e.toNat 0) A N := by rw [loopF]; exact if_neg (by rw [h]; simp)
theorem loopF_append : ∀ (l : List Rule) (A N : List Int), (loopF f e l A N).1 = true → loopF f e (l ++ m) A N = loopF f e m (loopF f e l A N).2.1 (loopF f e l A N).2.2
  | [], A, N, _ => rfl
  | r :: l, A, N, h => by
    cases hr : (f r.to.toNat (r.by_.getD e.toNat 0) A N).1 with
    | true =>
      rw [loopF_go hr] at h
      rw [List.cons_append, loopF_go hr, loopF_go hr, loopF_append l _ _ h]
    | false => rw [loopF_no hr, hr] at h; cases h
theorem setF_has (h : 0 ≤ A.getD i 0) : setF rs (n + 1) i e A N = (decide (A.getD i 0 = e), A, N) := by rw [setF]; exact if_pos h
theorem setF_new (h : ¬ 0 ≤ A.getD i 0) : setF rs (n + 1) i e A N = loopF (setF rs n) e (rulesAt rs i) (A.set i e) (N ++ [(i : Int)]) := by rw [setF]; exact if_neg h
def XtL (A B : List Int) : Prop := A.length = B.length ∧ ∀ j, j < A.length → 0 ≤ A.getD j 0 → B.getD j 0 = A.getD j 0
theorem XtL.refl (A : List Int) : XtL A A := ⟨rfl, fun _ _ _ => rfl⟩
theorem XtL.trans (h : XtL A B) (k : XtL B C) : XtL A C := ⟨h.1.trans k.1, fun j hj h0 => by
  have e1 := h.2 j hj h0
  rw [k.2 j (by rw [← h.1]; exact hj) (by rw [e1]; exact h0), e1]⟩
def uns (A : List Int) : Nat := (A.filter fun v => decide (v < 0)).length
theorem XtL.uns (h : XtL A B) : uns B ≤ uns A := filt_le h.1 h.2
theorem XtL.uns_lt (h : XtL A B) {j : Nat} (hj : j < A.length) (h0 : A.getD j 0 < 0) (h1 : 0 ≤ B.getD j 0) : Cats.uns B < Cats.uns A := filt_lt h.1 h.2 j hj h0 h1
theorem set_getD {i j : Nat} {k : Int} (hi : i < A.length) : (A.set i k).getD j 0 = if j = i then k else A.getD j 0 := by
  rw [List.getD_eq_getElem?_getD, List.getElem?_set]
  by_cases h : j = i
  · subst h; rw [if_pos rfl, if_pos hi, if_pos rfl]; rfl
  · rw [if_neg (fun q => h q.symm), if_neg h, List.getD_eq_getElem?_getD]
theorem XtL.set (hi : i < A.length) (h : ¬ 0 ≤ A.getD i 0) : XtL A (A.set i e) := ⟨by simp, fun j hj h0 => by
  rw [set_getD hi, if_neg (fun q => h (by rw [← q]; exact h0))]⟩
theorem XtL.cont (h : XtL A B) (k : contB B Q = true) : contB A Q = true := by
  rw [contB_iff] at k ⊢
  refine ⟨h.1.trans k.1, fun j hj h0 => ?_⟩
  have e1 := h.2 j hj h0
  rw [k.2 j (by rw [← h.1]; exact hj) (by rw [e1]; exact h0), e1]
def RngL (S : List Nat) (A : List Int) : Prop := A.length = S.length ∧ ∀ j, j < A.length → -1 ≤ A.getD j 0 ∧ A.getD j 0 < S.getD j 0
theorem RngL.set (h : RngL S A) (hi : i < A.length) (he : 0 ≤ e ∧ e < S.getD i 0) : RngL S (A.set i e) := ⟨by simp [h.1], fun j hj => by
  rw [set_getD hi]
  by_cases q : j = i
  · subst q; rw [if_pos rfl]; omega
  · rw [if_neg q]; exact h.2 j (by simpa using hj)⟩
def ClF (rs : List Rule) (A B : List Int) : Prop := ∀ j, j < A.length → A.getD j 0 < 0 → 0 ≤ B.getD j 0 → ∀ r ∈ rulesAt rs j, B.getD r.to.toNat 0 = r.by_.getD (B.getD j 0).toNat 0
theorem ClF.refl (A : List Int) : ClF rs A A := fun j _ h0 h1 => by omega
theorem ClF.trans (hw : RulesW S rs) (hB : RngL S B) (h : ClF rs A B) (x : XtL A B) (y : XtL B C) (k : ClF rs B C) : ClF rs A C := fun j hj h0 h1 r hr => by
  by_cases hb : 0 ≤ B.getD j 0
  · have e1 := h j hj h0 hb r hr
    have e2 := y.2 j (by rw [← x.1]; exact hj) hb
    obtain ⟨m1, m2⟩ := mem_rulesAt hr
    have b1 := hB.2 j (by rw [← x.1]; exact hj)
    have t1 := hw.to r m1
    have v1 := hw.val r m1 (B.getD j 0).toNat (by rw [m2]; simp only [Int.toNat_natCast]; omega)
    have e3 := y.2 r.to.toNat (by have := hB.1; omega) (by rw [e1]; exact v1.1)
    rw [e3, e2, e1]
  · exact k j (by rw [← x.1]; exact hj) (by omega) h1 r hr
def undoL (A N : List Int) : List Int := N.foldl (fun A k => A.set k.toNat (-1)) A
theorem undoL_snoc (A N : List Int) (k : Int) : undoL A (N ++ [k]) = (undoL A N).set k.toNat (-1) := by simp [undoL, List.foldl_append]
theorem undoL_len : ∀ (N A : List Int), (undoL A N).length = A.length
  | [], A => rfl
  | k :: N, A => by
    show (undoL (A.set k.toNat (-1)) N).length = A.length
    rw [undoL_len N]; simp
theorem undoL_set (i : Nat) : ∀ (N A : List Int), undoL (A.set i (-1)) N = (undoL A N).set i (-1)
  | [], A => rfl
  | k :: N, A => by
    show undoL ((A.set i (-1)).set k.toNat (-1)) N = (undoL (A.set k.toNat (-1)) N).set i (-1)
    rw [← undoL_set i N]
    by_cases h : i = k.toNat
    · rw [h]
    · rw [List.set_comm _ _ h]
theorem undoL_take {i : Nat} (h : i < N.length) : undoL A (N.take (i + 1)) = (undoL A (N.take i)).set (N.getD i 0).toNat (-1) := by
  rw [List.take_add_one, List.getElem?_eq_getElem h, List.getD_eq_getElem?_getD, List.getElem?_eq_getElem h]
  simp only [Option.toList_some, Option.getD_some, undoL_snoc]
structure Fct (S : List Nat) (A N : List Int) (t : St) : Prop where
  ext : XtL A t.2.1
  rng : RngL S t.2.1
  und : undoL t.2.1 t.2.2 = undoL A N
  nts : ∀ k ∈ t.2.2, k ∈ N ∨ (0 ≤ k ∧ k.toNat < A.length)
  cnt : t.2.2.length + uns t.2.1 ≤ N.length + uns A
theorem Fct.refl {b : Bool} (h : RngL S A) : Fct S A N (b, A, N) := ⟨.refl _, h, rfl, fun k hk => .inl hk, Nat.le_refl _⟩
theorem Fct.trans {t u : St} (h : Fct S A N t) (k : Fct S t.2.1 t.2.2 u) : Fct S A N u :=
  ⟨h.ext.trans k.ext, k.rng, k.und.trans h.und, fun x hx => by
    rcases k.nts x hx with h1 | h1
    · exact h.nts x h1
    · exact .inr (by rw [h.ext.1]; exact h1), Nat.le_trans k.cnt h.cnt⟩
theorem undoL_new (hi : i < A.length) (h : A.getD i 0 = -1) : undoL (A.set i e) (N ++ [(i : Int)]) = undoL A N := by
  rw [undoL_snoc, Int.toNat_natCast, ← undoL_set, List.set_set]
  congr 1
  refine List.ext_getElem? fun j => ?_
  rw [List.getElem?_set]
  split
  · rename_i q
    subst q
    rw [List.getD_eq_getElem?_getD, List.getElem?_eq_getElem hi] at h
    rw [List.getElem?_eq_getElem hi]
    simpa using h.symm
  · rfl
theorem Fct.new (h : RngL S A) (hi : i < A.length) (h0 : ¬ 0 ≤ A.getD i 0) (he : 0 ≤ e ∧ e < S.getD i 0) {b : Bool} : Fct S A N (b, A.set i e, N ++ [(i : Int)]) := by
  have h1 := h.2 i hi
  refine ⟨.set hi h0, h.set hi he, undoL_new hi (by omega), fun k hk => ?_, ?_⟩
  · rcases List.mem_append.1 hk with hk | hk
    · exact .inl hk
    · simp only [List.mem_singleton] at hk; subst hk; exact .inr ⟨by omega, by simpa using hi⟩
  · have := (XtL.set (e := e) hi h0).uns_lt hi (by omega) (by rw [set_getD hi, if_pos rfl]; exact he.1)
    simp only [List.length_append, List.length_singleton]
    omega
theorem loopF_facts (hw : RulesW S rs) (hf : ∀ (i : Nat) (e : Int) (A N : List Int), RngL S A → i < A.length → (0 ≤ e ∧ e < S.getD i 0) → Fct S A N (f i e A N) ∧ ((f i e A N).1 = true → (f i e A N).2.1.getD i 0 = e ∧ ClF rs A (f i e A N).2.1)) :
    ∀ (l : List Rule) (A N : List Int), RngL S A → (∀ r ∈ l, 0 ≤ r.to ∧ r.to < S.length ∧ 0 ≤ r.by_.getD e.toNat 0 ∧ r.by_.getD e.toNat 0 < S.getD r.to.toNat 0) →
      Fct S A N (loopF f e l A N) ∧ ((loopF f e l A N).1 = true → ClF rs A (loopF f e l A N).2.1 ∧ ∀ r ∈ l, (loopF f e l A N).2.1.getD r.to.toNat 0 = r.by_.getD e.toNat 0)
  | [], A, N, hA, _ => ⟨.refl hA, fun _ => ⟨.refl _, fun r hr => by cases hr⟩⟩
  | r :: l, A, N, hA, hl => by
    obtain ⟨b1, b2, b3, b4⟩ := hl r (List.mem_cons_self ..)
    obtain ⟨g1, g2⟩ := hf r.to.toNat (r.by_.getD e.toNat 0) A N hA (by have := hA.1; omega) ⟨b3, b4⟩
    cases hr : (f r.to.toNat (r.by_.getD e.toNat 0) A N).1 with
    | true =>
      rw [loopF_go hr]
      obtain ⟨k1, k2⟩ := loopF_facts hw hf l (f r.to.toNat (r.by_.getD e.toNat 0) A N).2.1 (f r.to.toNat (r.by_.getD e.toNat 0) A N).2.2 g1.rng (fun r hr => hl r (List.mem_cons_of_mem _ hr))
      obtain ⟨g3, g4⟩ := g2 hr
      refine ⟨g1.trans k1, fun h => ?_⟩
      obtain ⟨k3, k4⟩ := k2 h
      refine ⟨ClF.trans hw g1.rng g4 g1.ext k1.ext k3, fun r' hr' => ?_⟩
      rcases List.mem_cons.1 hr' with rfl | hr'
      · have := k1.ext.2 r'.to.toNat (by have := g1.ext.1; have := hA.1; omega) (by rw [g3]; exact b3)
        rw [this, g3]
      · exact k4 r' hr'
    | false =>
      rw [loopF_no hr]
      exact ⟨g1, fun h => by rw [hr] at h; cases h⟩
theorem setF_facts (hw : RulesW S rs) : ∀ (n i : Nat) (e : Int) (A N : List Int), RngL S A → i < A.length → (0 ≤ e ∧ e < S.getD i 0) →
    Fct S A N (setF rs n i e A N) ∧ ((setF rs n i e A N).1 = true → (setF rs n i e A N).2.1.getD i 0 = e ∧ ClF rs A (setF rs n i e A N).2.1)
  | 0, i, e, A, N, hA, _, _ => ⟨.refl hA, fun h => by cases h⟩
  | n + 1, i, e, A, N, hA, hi, he => by
    by_cases h0 : 0 ≤ A.getD i 0
    · rw [setF_has h0]
      exact ⟨.refl hA, fun h => ⟨by simpa using h, .refl _⟩⟩
    · rw [setF_new h0]
      have g0 := Fct.new (N := N) (b := true) hA hi h0 he
      obtain ⟨k1, k2⟩ := loopF_facts (e := e) hw (setF_facts hw n) (rulesAt rs i) (A.set i e) (N ++ [(i : Int)]) g0.rng fun r hr => by
        obtain ⟨m1, m2⟩ := mem_rulesAt hr
        have t1 := hw.to r m1
        have v1 := hw.val r m1 e.toNat (by rw [m2]; simp only [Int.toNat_natCast]; omega)
        exact ⟨t1.1, t1.2, v1.1, v1.2⟩
      refine ⟨g0.trans k1, fun h => ?_⟩
      obtain ⟨k3, k4⟩ := k2 h
      have e1 : (A.set i e).getD i 0 = e := by rw [set_getD hi, if_pos rfl]
      have e2 := k1.ext.2 i (by simpa using hi) (by rw [e1]; exact he.1)
      rw [e1] at e2
      refine ⟨e2, fun j hj h1 h2 r hr => ?_⟩
      by_cases q : j = i
      · subst q; rw [e2]; exact k4 r hr
      · exact k3 j (by simpa using hj) (by rw [set_getD hi, if_neg q]; exact h1) h2 r hr
theorem setF_sound (hw : RulesW S rs) (hQ : Q ∈ lexP S) (hW : okW rs Q = true) : ∀ (n i : Nat) (A N : List Int), RngL S A → uns A < n → i < A.length → contB A Q = true → (setF rs n i (Q.getD i 0) A N).1 = true ∧ contB (setF rs n i (Q.getD i 0) A N).2.1 Q = true
  | 0, i, A, N, _, hn, _, _ => by omega
  | n + 1, i, A, N, hA, hn, hi, hc => by
    obtain ⟨q1, q2⟩ := mem_lexP.1 hQ
    have qi := q2 i (by have := hA.1; omega)
    by_cases h0 : 0 ≤ A.getD i 0
    · rw [setF_has h0]
      exact ⟨by simpa using ((contB_iff.1 hc).2 i hi h0).symm, hc⟩
    · rw [setF_new h0]
      have hc' : contB (A.set i (Q.getD i 0)) Q = true := by
        rw [contB_iff] at hc ⊢
        refine ⟨by simpa using hc.1, fun j hj h1 => ?_⟩
        rw [set_getD hi] at h1 ⊢
        by_cases q : j = i
        · rw [if_pos q, q]
        · rw [if_neg q] at h1 ⊢; exact hc.2 j (by simpa using hj) h1
      have hu := (XtL.set (e := Q.getD i 0) hi h0).uns_lt hi (by omega) (by rw [set_getD hi, if_pos rfl]; exact qi.1)
      have key : ∀ (l : List Rule), (∀ r ∈ l, r ∈ rulesAt rs i) → ∀ B M, RngL S B → uns B < n → contB B Q = true → (loopF (setF rs n) (Q.getD i 0) l B M).1 = true ∧ contB (loopF (setF rs n) (Q.getD i 0) l B M).2.1 Q = true := by
        intro l
        induction l with
        | nil => intro _ B M _ _ hB; exact ⟨rfl, hB⟩
        | cons r l ih =>
          intro hl B M hBR hB1 hB
          obtain ⟨m1, m2⟩ := mem_rulesAt (hl r (List.mem_cons_self ..))
          have t1 := hw.to r m1
          have v1 := hw.val r m1 (Q.getD i 0).toNat (by rw [m2]; simp only [Int.toNat_natCast]; omega)
          have hr := List.all_eq_true.1 hW r m1
          simp only [decide_eq_true_eq] at hr
          rw [m2, Int.toNat_natCast] at hr
          obtain ⟨s1, s2⟩ := setF_sound hw hQ hW n r.to.toNat B M hBR hB1 (by have := hBR.1; omega) hB
          rw [hr] at s1 s2
          have g := (setF_facts hw n r.to.toNat (r.by_.getD (Q.getD i 0).toNat 0) B M hBR (by have := hBR.1; omega) v1).1
          rw [loopF_go s1]
          exact ih (fun r hr => hl r (List.mem_cons_of_mem _ hr)) _ _ g.rng (Nat.lt_of_le_of_lt g.ext.uns hB1) s2
      exact key _ (fun r hr => hr) _ _ (hA.set hi qi) (by omega) hc'
def ClL (rs : List Rule) (A : List Int) : Prop := ∀ j, j < A.length → 0 ≤ A.getD j 0 → ∀ r ∈ rulesAt rs j, A.getD r.to.toNat 0 = r.by_.getD (A.getD j 0).toNat 0
theorem ClL.step (hw : RulesW S rs) (hA : RngL S A) (h : ClL rs A) (x : XtL A B) (k : ClF rs A B) : ClL rs B := fun j hj h0 r hr => by
  rw [← x.1] at hj
  by_cases q : 0 ≤ A.getD j 0
  · have e1 := h j hj q r hr
    have e2 := x.2 j hj q
    obtain ⟨m1, m2⟩ := mem_rulesAt hr
    have b1 := hA.2 j hj
    have t1 := hw.to r m1
    have v1 := hw.val r m1 (A.getD j 0).toNat (by rw [m2]; simp only [Int.toNat_natCast]; omega)
    rw [x.2 r.to.toNat (by have := hA.1; omega) (by rw [e1]; exact v1.1), e2, e1]
  · exact k j hj (by omega) h0 r hr
theorem leaf_ext (hw : RulesW S rs) (hA : RngL S A) (hc : ClL rs A) (hf : ∀ j, j < A.length → 0 ≤ A.getD j 0) : extW (okW rs) S A = [A] := by
  rw [extW_full hA.1 fun j hj => ⟨hf j hj, (hA.2 j hj).2⟩, if_pos]
  refine List.all_eq_true.2 fun r hr => ?_
  have f1 := hw.fr r hr
  have := hc r.fr.toNat (by have := hA.1; omega) (hf _ (by have := hA.1; omega)) r (List.mem_filter.2 ⟨hr, by simp; omega⟩)
  simpa using this
theorem step_ext (hw : RulesW S rs) (hA : RngL S A) (hi : i < A.length) (h0 : A.getD i 0 < 0) {u : Nat} (hu : u < S.getD i 0) (hn : uns A < n) :
    extW (okW rs) S (A.set i (u : Int)) = if (setF rs n i u A N).1 = true then extW (okW rs) S (setF rs n i u A N).2.1 else [] := by
  have hsQ : ∀ Q, Q ∈ lexP S → okW rs Q = true → contB (A.set i (u : Int)) Q = true → (setF rs n i u A N).1 = true ∧ contB (setF rs n i u A N).2.1 Q = true := fun Q hQ hW hc => by
    have e1 := (contB_iff.1 hc).2 i (by simpa using hi) (by rw [set_getD hi, if_pos rfl]; omega)
    rw [set_getD hi, if_pos rfl] at e1
    have := setF_sound hw hQ hW n i A N hA hn hi ((XtL.set hi (by omega)).cont hc)
    rwa [e1] at this
  obtain ⟨g1, g2⟩ := setF_facts hw n i u A N hA hi ⟨by omega, by omega⟩
  split
  · rename_i hok
    refine extW_congr fun Q hQ hW => ⟨fun hc => (hsQ Q hQ hW hc).2, fun hc => ?_⟩
    have hA' := g1.ext.cont hc
    rw [contB_iff] at hc hA' ⊢
    refine ⟨by simpa using hA'.1, fun j hj h1 => ?_⟩
    rw [set_getD hi] at h1 ⊢
    by_cases q : j = i
    · subst q
      rw [if_pos rfl]
      have := (g2 hok).1
      rw [hc.2 j (by rw [← g1.ext.1]; exact hi) (by rw [this]; omega), this]
    · rw [if_neg q] at h1 ⊢
      exact hA'.2 j (by simpa using hj) h1
  · rename_i hno
    exact extW_nil fun Q hQ hW hc => hno (hsQ Q hQ hW hc).1
end
end Go.Cats
end
section
namespace Go.Cats
def stL {β : Type} (M : Nat) (o : List β) (q : β) : Bool × List β := (decide (o.length + 1 ≤ M), o ++ [q])
theorem eat_L {β : Type} {M : Nat} : ∀ (D o : List β), o.length ≤ M → eat (stL M) o D = (decide ((o ++ D).length ≤ M), (o ++ D).take (M + 1))
  | [], o, h => by
    rw [eat_nil, List.append_nil, List.take_of_length_le (by omega), decide_eq_true h]
  | q :: D, o, h => by
    by_cases h1 : o.length + 1 ≤ M
    · rw [eat_t (decide_eq_true h1), show (stL M o q).2 = o ++ [q] from rfl, eat_L D _ (by simp; omega)]
      simp
    · rw [eat_f (decide_eq_false h1), show (stL M o q).2 = o ++ [q] from rfl]
      have e1 : o.length = M := by omega
      have e2 : decide ((o ++ q :: D).length ≤ M) = false := decide_eq_false (by simp; omega)
      rw [e2, ← e1, List.take_append, List.take_of_length_le (by omega), show o.length + 1 - o.length = 1 by omega]
      simp
theorem eat_Llen {β : Type} {M : Nat} {D o : List β} (h : o.length ≤ M) (h1 : (eat (stL M) o D).1 = true) : (eat (stL M) o D).2.length ≤ M := by
  rw [eat_L _ _ h] at h1 ⊢
  simp only [decide_eq_true_eq] at h1
  simp only [List.length_take]
  omega
section
variable {f : Nat → Int → List Int → List Int → St} {e : Int} {l : List Rule} {A N : List Int} {k : Nat}
theorem take_one (h : k < l.length) : l.take (k + 1) = l.take k ++ [l.getD k default] := by
  rw [List.take_add_one, List.getElem?_eq_getElem h, List.getD_eq_getElem?_getD, List.getElem?_eq_getElem h]; rfl
theorem take_all (h : k < l.length) : l = l.take k ++ l.getD k default :: l.drop (k + 1) := by
  rw [List.getD_eq_getElem?_getD, List.getElem?_eq_getElem h, Option.getD_some, ← List.drop_eq_getElem_cons h, List.take_append_drop]
theorem loopF_next (h : k < l.length) (h1 : (loopF f e (l.take k) A N).1 = true) {t : St} (ht : f (l.getD k default).to.toNat ((l.getD k default).by_.getD e.toNat 0) (loopF f e (l.take k) A N).2.1 (loopF f e (l.take k) A N).2.2 = t) (h2 : t.1 = true) :
    loopF f e (l.take (k + 1)) A N = t := by
  rw [take_one h, loopF_append _ _ _ h1, loopF_go (by rw [ht]; exact h2), loopF_nil, ht, ← h2]
theorem loopF_halt (h : k < l.length) (h1 : (loopF f e (l.take k) A N).1 = true) {t : St} (ht : f (l.getD k default).to.toNat ((l.getD k default).by_.getD e.toNat 0) (loopF f e (l.take k) A N).2.1 (loopF f e (l.take k) A N).2.2 = t) (h2 : t.1 = false) :
    loopF f e l A N = t := by
  rw [take_all h, loopF_append _ _ _ h1, loopF_no (by rw [ht]; exact h2), ht]
end
/-! ### The search -/
theorem scan_first {α : Type} {p : Nat → Option α} {r : α} : ∀ {n : Nat}, scan n p = some r → ∃ i, i < n ∧ p i = some r ∧ scan i p = none
  | 0, h => by cases h
  | n + 1, h => by
    rw [scan_succ] at h
    cases hs : scan n p with
    | none => rw [hs] at h; exact ⟨n, Nat.lt_succ_self _, h, hs⟩
    | some q =>
      rw [hs] at h
      obtain ⟨i, h1, h2, h3⟩ := scan_first hs
      have : q = r := Option.some.inj h
      subst this
      exact ⟨i, by omega, h2, h3⟩
theorem idx_first {S : List Nat} {A : List Int} (hA : RngL S A) : (idxOf A (-1) = -1 ∧ ∀ j, j < A.length → 0 ≤ A.getD j 0) ∨ ∃ i : Nat, idxOf A (-1) = i ∧ i < A.length ∧ A.getD i 0 = -1 ∧ ∀ j, j < i → 0 ≤ A.getD j 0 := by
  have hne : ∀ j, j < A.length → idxO A (-1) j = none → 0 ≤ A.getD j 0 := fun j hj h => by
    have h1 := (hA.2 j hj).1
    unfold idxO at h
    split at h
    · cases h
    · omega
  cases hs : scan A.length (idxO A (-1)) with
  | none => exact .inl ⟨idxOf_none hs, fun j hj => hne j hj (scan_none.1 hs j hj)⟩
  | some r =>
    obtain ⟨i, h1, h2, h3⟩ := scan_first hs
    have h4 : A.getD i 0 = -1 := by
      unfold idxO at h2
      split at h2
      · assumption
      · cases h2
    exact .inr ⟨i, idxOf_hit h3 h1 h4, h1, h4, fun j hj => hne j (by omega) (scan_none.1 h3 j hj)⟩
def belowE (W : List Int → Bool) (S : List Nat) (A : List Int) (i u : Nat) : List (List Int) := (List.range u).flatMap fun v : Nat => extW W S (A.set i (v : Int))
theorem belowE_succ {W : List Int → Bool} {S : List Nat} {A : List Int} {i u : Nat} : belowE W S A i (u + 1) = belowE W S A i u ++ extW W S (A.set i (u : Int)) := by
  unfold belowE
  rw [List.range_succ, List.flatMap_append]
  simp
theorem belowE_split {W : List Int → Bool} {S : List Nat} {A : List Int} {i u K : Nat} (h : u < K) : ∃ R, belowE W S A i K = belowE W S A i (u + 1) ++ R := by
  induction K with
  | zero => omega
  | succ K ih =>
    by_cases hu : u = K
    · subst hu; exact ⟨[], (List.append_nil _).symm⟩
    · obtain ⟨R, hR⟩ := ih (by omega)
      exact ⟨R ++ extW W S (A.set i (K : Int)), by rw [belowE_succ, hR, List.append_assoc]⟩
theorem belowE_all {W : List Int → Bool} {S : List Nat} {A : List Int} {i : Nat} (hA : RngL S A) (hi : i < A.length) (h1 : A.getD i 0 = -1) (h2 : ∀ j, j < i → 0 ≤ A.getD j 0) : extW W S A = belowE W S A i (S.getD i 0) :=
  extW_branch hA.1 hi h2 (by omega)
theorem uns_le (A : List Int) : uns A ≤ A.length := List.length_filter_le _ _
structure TryF (rs : List Rule) (S : List Nat) (A : List Int) (i u : Nat) (T : St) : Prop where
  len : T.2.1.length = A.length
  nl : T.2.2.length ≤ A.length
  at1 : ∀ j, j < T.2.2.length → 0 ≤ T.2.2.getD j 0 ∧ (T.2.2.getD j 0).toNat < A.length
  back : undoL T.2.1 T.2.2 = A
  yes : T.1 = true → RngL S T.2.1 ∧ ClL rs T.2.1 ∧ uns T.2.1 < uns A ∧ extW (okW rs) S (A.set i (u : Int)) = extW (okW rs) S T.2.1
  no : T.1 = false → extW (okW rs) S (A.set i (u : Int)) = []
theorem try_facts {rs : List Rule} {S : List Nat} {A : List Int} {i u : Nat} (hw : RulesW S rs) (hA : RngL S A) (hc : ClL rs A) (hi : i < A.length) (h1 : A.getD i 0 = -1) (hu : u < S.getD i 0) : TryF rs S A i u (setF rs (A.length + 1) i u A []) := by
  have hn := uns_le A
  obtain ⟨g1, g2⟩ := setF_facts hw (A.length + 1) i u A [] hA hi ⟨by omega, by omega⟩
  have he := step_ext (N := []) hw hA hi (by omega) hu (show uns A < A.length + 1 by omega)
  have hcn := g1.cnt
  simp only [List.length_nil] at hcn
  refine ⟨g1.ext.1.symm, by omega, fun j hj => ?_, g1.und, fun h => ?_, fun h => ?_⟩
  · have hm : (setF rs (A.length + 1) i u A []).2.2.getD j 0 ∈ (setF rs (A.length + 1) i u A []).2.2 := by rw [List.getD_eq_getElem?_getD, List.getElem?_eq_getElem hj]; exact List.getElem_mem hj
    rcases g1.nts _ hm with h0 | h0
    · cases h0
    · exact h0
  · obtain ⟨g3, g4⟩ := g2 h
    refine ⟨g1.rng, hc.step hw hA g1.ext g4, g1.ext.uns_lt hi (by omega) (by rw [g3]; omega), ?_⟩
    rw [he, if_pos h]
  · rw [he, if_neg (by rw [h]; simp)]
end Go.Cats
end
section
namespace Go.Cats
structure Link where
  i : Int
  j : Int
  left : List Int
  right : List Int
instance : Inhabited Link := ⟨⟨0, 0, [], []⟩⟩
structure LinksW (S : List Nat) (ls : List Link) : Prop where
  i : ∀ l ∈ ls, 0 ≤ l.i ∧ l.i < S.length
  j : ∀ l ∈ ls, 0 ≤ l.j ∧ l.j < S.length
  left : ∀ l ∈ ls, l.left.length = S.getD l.i.toNat 0
  right : ∀ l ∈ ls, l.right.length = S.getD l.j.toNat 0
def okLk (ls : List Link) (Q : List Int) : Bool := ls.all fun l => decide (l.left.getD (Q.getD l.i.toNat 0).toNat 0 = l.right.getD (Q.getD l.j.toNat 0).toNat 0)
def linkFit (A : List Int) (n : Nat) (e : Int) (l : Link) : Bool :=
  if l.i = n ∧ l.j = n then decide (l.left.getD e.toNat 0 = l.right.getD e.toNat 0)
  else if l.i = n ∧ 0 ≤ A.getD l.j.toNat 0 then decide (l.left.getD e.toNat 0 = l.right.getD (A.getD l.j.toNat 0).toNat 0)
  else if l.j = n ∧ 0 ≤ A.getD l.i.toNat 0 then decide (l.left.getD (A.getD l.i.toNat 0).toNat 0 = l.right.getD e.toNat 0)
  else true
def atL (ls : List Link) (n : Nat) (m : Nat) : List Nat := (List.range m).filter fun k => decide ((ls.getD k default).i = n) || decide ((ls.getD k default).j = n)
def fitsL (ls : List Link) (A : List Int) (n : Nat) (e : Int) : Bool := (atL ls n ls.length).all fun k => linkFit A n e (ls.getD k default)
def chL (ls : List Link) (A : List Int) (n : Nat) (m : Nat) : List Int := ((List.range m).filter fun e : Nat => fitsL ls A n e).map fun e : Nat => (e : Int)
def fqI (A : List Int) (i : Nat) : Option Nat := if A.getD i 0 = -1 then some i else none
def fqL (A : List Int) : Option Nat := scan A.length (fqI A)
def goL (ls : List Link) (S : List Nat) : Nat → List Int → List (List Int)
  | 0, _ => []
  | n + 1, A => match fqL A with
    | none => [A]
    | some i => (chL ls A i (S.getD i 0)).flatMap fun u => goL ls S n (A.set i u)
section
variable {ls : List Link} {S : List Nat} {A B Q : List Int} {n i m : Nat} {e : Int} {l : Link}
theorem fqL_some (h : fqL A = some i) : i < A.length ∧ A.getD i 0 = -1 ∧ ∀ j, j < i → A.getD j 0 ≠ -1 := by
  obtain ⟨k, h1, h2, h3⟩ := scan_first h
  unfold fqI at h2
  split at h2
  · rename_i h4
    have : k = i := Option.some.inj h2
    subst this
    refine ⟨h1, h4, fun j hj q => ?_⟩
    have := scan_none.1 h3 j hj
    unfold fqI at this
    rw [if_pos q] at this
    cases this
  · cases h2
theorem fqL_none : fqL A = none ↔ ∀ j, j < A.length → A.getD j 0 ≠ -1 := by
  unfold fqL
  rw [scan_none]
  constructor
  · intro h j hj q
    have := h j hj
    unfold fqI at this
    rw [if_pos q] at this
    cases this
  · intro h j hj
    unfold fqI
    rw [if_neg (h j hj)]
theorem goL_leaf (h : fqL A = none) : goL ls S (n + 1) A = [A] := by rw [goL, h]
theorem goL_node (h : fqL A = some i) : goL ls S (n + 1) A = (chL ls A i (S.getD i 0)).flatMap fun u => goL ls S n (A.set i u) := by rw [goL, h]
theorem fits_all (h : ∀ l ∈ ls, linkFit A n e l = true) : fitsL ls A n e = true := List.all_eq_true.2 fun k hk => by
  have hk := List.mem_range.1 (List.mem_filter.1 hk).1
  refine h _ ?_
  rw [List.getD_eq_getElem?_getD, List.getElem?_eq_getElem hk]
  exact List.getElem_mem hk
theorem fits_get (h : fitsL ls A n e = true) (hl : l ∈ ls) : linkFit A n e l = true := by
  by_cases hn : l.i = n ∨ l.j = n
  · obtain ⟨k, hk, e1⟩ := List.getElem_of_mem hl
    have hg : ls.getD k default = l := by rw [List.getD_eq_getElem?_getD, List.getElem?_eq_getElem hk, Option.getD_some, e1]
    have := List.all_eq_true.1 h k (List.mem_filter.2 ⟨List.mem_range.2 hk, by rw [hg]; simpa using hn⟩)
    rwa [hg] at this
  · unfold linkFit
    rw [if_neg (fun q => hn (.inl q.1)), if_neg (fun q => hn (.inl q.1)), if_neg (fun q => hn (.inr q.1))]
theorem mem_chL {u : Int} : u ∈ chL ls A n m ↔ ∃ e : Nat, u = e ∧ e < m ∧ fitsL ls A n e = true := by
  unfold chL
  simp only [List.mem_map, List.mem_filter, List.mem_range]
  constructor
  · rintro ⟨e, ⟨h1, h2⟩, rfl⟩; exact ⟨e, rfl, h1, h2⟩
  · rintro ⟨e, rfl, h1, h2⟩; exact ⟨e, ⟨h1, h2⟩, rfl⟩
theorem chL_zero : chL ls A n 0 = [] := rfl
theorem chL_yes (h : fitsL ls A n m = true) : chL ls A n (m + 1) = chL ls A n m ++ [(m : Int)] := by
  unfold chL
  rw [List.range_succ, List.filter_append, List.filter_cons_of_pos (p := fun e : Nat => fitsL ls A n e) h, List.filter_nil, List.map_append]
  rfl
theorem chL_no (h : ¬ fitsL ls A n m = true) : chL ls A n (m + 1) = chL ls A n m := by
  unfold chL
  rw [List.range_succ, List.filter_append, List.filter_cons_of_neg (p := fun e : Nat => fitsL ls A n e) h, List.filter_nil, List.append_nil]
theorem chL_len (m : Nat) : (chL ls A n m).length ≤ m := by
  unfold chL
  rw [List.length_map]
  have := List.length_filter_le (fun e : Nat => fitsL ls A n e) (List.range m)
  rwa [List.length_range] at this
theorem fit_mono (hw : LinksW S ls) (hA : A.length = S.length) (x : XtL A B) (hl : l ∈ ls) (h : linkFit B n e l = true) : linkFit A n e l = true := by
  have h1 := hw.i l hl
  have h2 := hw.j l hl
  unfold linkFit at h ⊢
  by_cases c1 : l.i = n ∧ l.j = n
  · rw [if_pos c1] at h ⊢; exact h
  · rw [if_neg c1] at h ⊢
    by_cases c2 : l.i = n ∧ 0 ≤ A.getD l.j.toNat 0
    · rw [if_pos c2]
      have e1 := x.2 l.j.toNat (by omega) c2.2
      rw [if_pos ⟨c2.1, by rw [e1]; exact c2.2⟩, e1] at h
      exact h
    · rw [if_neg c2]
      by_cases c3 : l.j = n ∧ 0 ≤ A.getD l.i.toNat 0
      · rw [if_pos c3]
        have e1 := x.2 l.i.toNat (by omega) c3.2
        rw [if_neg (fun q => c1 ⟨q.1, c3.1⟩), if_pos ⟨c3.1, by rw [e1]; exact c3.2⟩, e1] at h
        exact h
      · rw [if_neg c3]
theorem XtL.setL (hi : i < A.length) (h : A.getD i 0 = -1) : XtL A (A.set i e) := .set hi (by omega)
theorem goL_cut (hw : LinksW S ls) : ∀ (n : Nat) (A : List Int), A.length = S.length → ∀ k, k < A.length → A.getD k 0 = -1 → (chL ls A k (S.getD k 0)).length = 0 → goL ls S n A = []
  | 0, _, _, _, _, _, _ => rfl
  | n + 1, A, hA, k, hk, h1, h0 => by
    cases hf : fqL A with
    | none => exact absurd h1 (fqL_none.1 hf k hk)
    | some i =>
      obtain ⟨f1, f2, f3⟩ := fqL_some hf
      rw [goL_node hf]
      by_cases hik : i = k
      · subst hik
        rw [List.length_eq_zero_iff.1 h0]; rfl
      · rw [List.flatMap_eq_nil_iff]
        intro u hu
        obtain ⟨e, rfl, he, _⟩ := mem_chL.1 hu
        refine goL_cut hw n _ (by simpa using hA) k (by simpa using hk) (by rw [set_getD f1, if_neg (fun q => hik q.symm)]; exact h1) ?_
        rw [List.length_eq_zero_iff, List.eq_nil_iff_forall_not_mem]
        intro v hv
        obtain ⟨d, rfl, hd, hfit⟩ := mem_chL.1 hv
        have : ((d : Int)) ∈ chL ls A k (S.getD k 0) := mem_chL.2 ⟨d, rfl, hd, fits_all fun l hl => fit_mono hw hA (.setL f1 f2) hl (fits_get hfit hl)⟩
        rw [List.length_eq_zero_iff.1 h0] at this
        cases this
theorem goL_some (hw : LinksW S ls) (hQ : Q ∈ lexP S) (hW : okLk ls Q = true) : ∀ (n : Nat) (A : List Int), A.length = S.length → uns A < n → contB A Q = true → goL ls S n A ≠ []
  | 0, _, _, hn, _ => by omega
  | n + 1, A, hA, hn, hc => by
    cases hf : fqL A with
    | none => rw [goL_leaf hf]; simp
    | some i =>
      obtain ⟨f1, f2, f3⟩ := fqL_some hf
      obtain ⟨q1, q2⟩ := mem_lexP.1 hQ
      have qi := q2 i (by omega)
      obtain ⟨c1, c2⟩ := contB_iff.1 hc
      rw [goL_node hf]
      have hx : XtL A (A.set i (Q.getD i 0)) := .setL f1 f2
      have hu := hx.uns_lt f1 (by omega) (by rw [set_getD f1, if_pos rfl]; exact qi.1)
      have hmem : Q.getD i 0 ∈ chL ls A i (S.getD i 0) := mem_chL.2 ⟨(Q.getD i 0).toNat, by omega, by omega, fits_all fun l hl => by
        have hv := List.all_eq_true.1 hW l hl
        simp only [decide_eq_true_eq] at hv
        have w1 := hw.i l hl
        have w2 := hw.j l hl
        unfold linkFit
        rw [Int.toNat_of_nonneg qi.1]
        split
        · rename_i h
          rw [h.1, h.2, Int.toNat_natCast] at hv
          simpa using hv
        · split
          · rename_i h
            rw [h.1, Int.toNat_natCast] at hv
            rw [← c2 l.j.toNat (by omega) h.2]
            simpa using hv
          · split
            · rename_i h
              rw [h.1, Int.toNat_natCast] at hv
              rw [← c2 l.i.toNat (by omega) h.2]
              simpa using hv
            · rfl⟩
      have hr := goL_some hw hQ hW n (A.set i (Q.getD i 0)) (by simpa using hA) (by omega) (contB_iff.2 ⟨by simpa using c1, fun j hj h1 => by
        rw [set_getD f1] at h1 ⊢
        by_cases q : j = i
        · rw [if_pos q, q]
        · rw [if_neg q] at h1 ⊢; exact c2 j (by simpa using hj) h1⟩)
      intro h
      exact hr (List.flatMap_eq_nil_iff.1 h _ hmem)
def CoL (ls : List Link) (A : List Int) : Prop := ∀ l ∈ ls, 0 ≤ A.getD l.i.toNat 0 → 0 ≤ A.getD l.j.toNat 0 → l.left.getD (A.getD l.i.toNat 0).toNat 0 = l.right.getD (A.getD l.j.toNat 0).toNat 0
theorem CoL.set (hw : LinksW S ls) (hA : A.length = S.length) (hi : i < A.length) (h : CoL ls A) {u : Nat} (hu : fitsL ls A i u = true) : CoL ls (A.set i (u : Int)) := fun l hl h1 h2 => by
  have hf := fits_get hu hl
  have w1 := hw.i l hl
  have w2 := hw.j l hl
  rw [set_getD hi] at h1 h2 ⊢
  rw [set_getD hi]
  unfold linkFit at hf
  by_cases c1 : l.i.toNat = i
  · have e1 : l.i = i := by omega
    rw [if_pos c1]
    by_cases c2 : l.j.toNat = i
    · have e2 : l.j = i := by omega
      rw [if_pos c2]
      rw [if_pos ⟨e1, e2⟩] at hf
      simpa using hf
    · rw [if_neg c2] at h2 ⊢
      rw [if_neg (fun q => c2 (by omega)), if_pos ⟨e1, h2⟩] at hf
      simpa using hf
  · rw [if_neg c1] at h1 ⊢
    by_cases c2 : l.j.toNat = i
    · have e2 : l.j = i := by omega
      rw [if_pos c2]
      rw [if_neg (fun q => c1 (by omega)), if_neg (fun q => c1 (by omega)), if_pos ⟨e2, h1⟩] at hf
      simpa using hf
    · rw [if_neg c2] at h2 ⊢
      exact h l hl h1 h2
theorem goL_ext (hw : LinksW S ls) : ∀ (n : Nat) (A : List Int), RngL S A → uns A < n → CoL ls A → goL ls S n A = extW (okLk ls) S A
  | 0, _, _, hn, _ => by omega
  | n + 1, A, hA, hn, hc => by
    cases hf : fqL A with
    | none =>
      have hfull : ∀ j, j < A.length → 0 ≤ A.getD j 0 := fun j hj => by
        have h1 := fqL_none.1 hf j hj
        have h2 := (hA.2 j hj).1
        omega
      rw [goL_leaf hf, extW_full hA.1 fun j hj => ⟨hfull j hj, (hA.2 j hj).2⟩, if_pos]
      refine List.all_eq_true.2 fun l hl => ?_
      have w1 := hw.i l hl
      have w2 := hw.j l hl
      have := hA.1
      simpa using hc l hl (hfull _ (by omega)) (hfull _ (by omega))
    | some i =>
      obtain ⟨f1, f2, f3⟩ := fqL_some hf
      rw [goL_node hf, extW_branch hA.1 f1 (fun j hj => by
        have h1 := f3 j hj
        have h2 := (hA.2 j (by omega)).1
        omega) (by omega)]
      unfold chL
      rw [List.flatMap_map]
      have key : ∀ m, m ≤ S.getD i 0 → (((List.range m).filter fun e : Nat => fitsL ls A i e).flatMap fun e : Nat => goL ls S n (A.set i (e : Int))) = (List.range m).flatMap fun u : Nat => extW (okLk ls) S (A.set i (u : Int)) := by
        intro m
        induction m with
        | zero => intro _; rfl
        | succ m ih =>
          intro hm
          rw [List.range_succ, List.filter_append, List.flatMap_append, List.flatMap_append, ih (by omega)]
          congr 1
          have hrg := hA.set (e := (m : Int)) f1 ⟨by omega, by omega⟩
          by_cases hfit : fitsL ls A i m = true
          · rw [List.filter_cons_of_pos (p := fun e : Nat => fitsL ls A i e) hfit, List.filter_nil, List.flatMap_cons, List.flatMap_nil, List.append_nil, List.flatMap_cons, List.flatMap_nil, List.append_nil]
            have hu := (XtL.setL (e := (m : Int)) f1 f2).uns_lt f1 (by omega) (by rw [set_getD f1, if_pos rfl]; omega)
            exact goL_ext hw n _ hrg (by omega) (hc.set hw hA.1 f1 hfit)
          · rw [List.filter_cons_of_neg (p := fun e : Nat => fitsL ls A i e) hfit, List.filter_nil, List.flatMap_nil, List.flatMap_cons, List.flatMap_nil, List.append_nil]
            symm
            refine extW_nil fun Q hQ hW hcQ => hfit (fits_all fun l hl => ?_)
            have hv := List.all_eq_true.1 hW l hl
            simp only [decide_eq_true_eq] at hv
            have w1 := hw.i l hl
            have w2 := hw.j l hl
            have hAl := hA.1
            obtain ⟨c1, c2⟩ := contB_iff.1 hcQ
            have qi := c2 i (by simpa using f1) (by rw [set_getD f1, if_pos rfl]; omega)
            rw [set_getD f1, if_pos rfl] at qi
            have hk : ∀ j, j < A.length → j ≠ i → 0 ≤ A.getD j 0 → Q.getD j 0 = A.getD j 0 := fun j hj hne h0 => by
              have := c2 j (by simpa using hj) (by rw [set_getD f1, if_neg hne]; exact h0)
              rwa [set_getD f1, if_neg hne] at this
            unfold linkFit
            split
            · rename_i h
              rw [h.1, h.2, Int.toNat_natCast, qi] at hv
              simpa using hv
            · rename_i hnb
              split
              · rename_i h
                rw [h.1, Int.toNat_natCast, qi, hk l.j.toNat (by omega) (fun q => hnb ⟨h.1, by omega⟩) h.2] at hv
                simpa using hv
              · split
                · rename_i h
                  rw [h.1, Int.toNat_natCast, qi, hk l.i.toNat (by omega) (fun q => hnb ⟨by omega, h.1⟩) h.2] at hv
                  simpa using hv
                · rfl
      have := key (S.getD i 0) (Nat.le_refl _)
      exact this
end
end Go.Cats
end
section
namespace Go.Cats
abbrev Tr := Nat × Nat × Nat
def ruleT (acts : List (List Int)) (t : Tr) : Rule := ⟨t.1, t.2.2, acts.getD t.2.1 []⟩
def linkT (acts : List (List Int)) (S : List Nat) (t : Tr) : Link := ⟨t.1, t.2.2, acts.getD t.2.1 [], nums (S.getD t.2.2 0)⟩
structure TrW (S : List Nat) (acts : List (List Int)) (T : List Tr) : Prop where
  fr : ∀ t ∈ T, t.1 < S.length
  to : ∀ t ∈ T, t.2.2 < S.length
  len : ∀ t ∈ T, (acts.getD t.2.1 []).length = S.getD t.1 0
  val : ∀ t ∈ T, ∀ e : Nat, e < S.getD t.1 0 → 0 ≤ (acts.getD t.2.1 []).getD e 0 ∧ (acts.getD t.2.1 []).getD e 0 < S.getD t.2.2 0
  arr : ∀ t ∈ T, t.2.1 < acts.length
variable {S : List Nat} {acts : List (List Int)} {T : List Tr}
end Go.Cats
end
section
namespace Go.Cats
def Rises (l : List Int) : Prop := ∀ i, i + 1 < l.length → l.getD i 0 < l.getD (i + 1) 0
structure IsSieve (c : Cat) (x : Int) (s : List Int) : Prop where
  up : Rises s
  wi : Within s c.fr.length
  at_ : ∀ i, i < s.length → c.F (s.getD i 0) = x
  cl : ∀ i, i < s.length → ∀ b : Nat, b < c.fr.length → c.fr.getD b 0 = c.T (s.getD i 0) → c.C (s.getD i 0) b ∈ s
def trS (c : Cat) (s : List Int) (i b : Nat) : Tr := (i, b, (idxOf s (c.C (s.getD i 0) b)).toNat)
def famR (c : Cat) (s : List Int) (i n : Nat) : List Tr := (outN c (c.T (s.getD i 0)).toNat n).map (trS c s i)
def famT (c : Cat) (s : List Int) (k : Nat) : List Tr := (List.range k).flatMap fun i => famR c s i c.fr.length
section
variable {c : Cat} {s : List Int} {k n i b : Nat} {x : Int} {f : SF}
theorem famT_zero : famT c s 0 = [] := rfl
def famS (f : SF) (s : List Int) : List Int := s.map fun a => f.sizes.getD (f.shape.T a).toNat 0
theorem famS_zero : famS f [] = [] := rfl
end
end Go.Cats
end
section
namespace Go.Cats
def pI : Option Nat → Int | none => -1 | some x => x
def bkL (A : List Int) (i : Nat) : Option Nat := suf A.length (fqI A) i
theorem bkL_zero {A : List Int} : bkL A 0 = none := rfl
theorem bkL_all {A : List Int} : bkL A A.length = fqL A := suf_all
theorem bkL_hit {A : List Int} {i : Nat} (h : A.getD (A.length - 1 - i) 0 = -1) : bkL A (i + 1) = some (A.length - 1 - i) := by
  unfold bkL
  rw [suf_succ, show fqI A _ = some _ from if_pos h]
  rfl
theorem bkL_miss {A : List Int} {i : Nat} (h : ¬ A.getD (A.length - 1 - i) 0 = -1) : bkL A (i + 1) = bkL A i := by
  unfold bkL
  rw [suf_succ, show fqI A _ = none from if_neg h]
  rfl
def chB (ls : List Link) (A : List Int) (S : List Nat) : Option Nat → List Int | none => [] | some x => chL ls A x (S.getD x 0)
def belQ (ls : List Link) (S : List Nat) (n x : Nat) (A C : List Int) : List (List Int) := C.flatMap fun u => goL ls S n (A.set x u)
theorem belQ_zero {ls : List Link} {S : List Nat} {n x : Nat} {A C : List Int} : belQ ls S n x A (C.take 0) = [] := by rw [List.take_zero]; rfl
theorem belQ_succ {ls : List Link} {S : List Nat} {n x k : Nat} {A C : List Int} (h : k < C.length) : belQ ls S n x A (C.take (k + 1)) = belQ ls S n x A (C.take k) ++ goL ls S n (A.set x (C.getD k 0)) := by
  unfold belQ
  rw [List.take_add_one, List.getElem?_eq_getElem h, Option.toList_some, List.flatMap_append, List.getD_eq_getElem?_getD, List.getElem?_eq_getElem h]
  simp
theorem takeQ {α : Type} (A B C : List α) (k : Nat) : ((A ++ B).take k ++ C).take k = (A ++ (B ++ C)).take k := by
  rw [← List.append_assoc, List.take_append, List.take_append (l₁ := A ++ B), List.take_take, Nat.min_self, List.length_take]
  by_cases h : k ≤ (A ++ B).length
  · rw [Nat.min_eq_left h, Nat.sub_self, Nat.sub_eq_zero_of_le h]
  · rw [Nat.min_eq_right (by omega)]
theorem fullQ {α : Type} (A B : List α) {k : Nat} (h : ¬ (A.take k).length < k) : (A ++ B).take k = A.take k := by
  rw [List.length_take] at h
  rw [List.take_append, show k - A.length = 0 by omega, List.take_zero, List.append_nil]
theorem chL_get {ls : List Link} {A : List Int} {n m k : Nat} (h : k < (chL ls A n m).length) : ∃ u : Nat, (chL ls A n m).getD k 0 = u ∧ u < m := by
  have : (chL ls A n m).getD k 0 ∈ chL ls A n m := by rw [List.getD_eq_getElem?_getD, List.getElem?_eq_getElem h]; exact List.getElem_mem h
  obtain ⟨e, h1, h2, _⟩ := mem_chL.1 this
  exact ⟨e, h1, h2⟩
end Go.Cats
end
section
namespace Go.Cats
def tabK (ls : List Link) (m k : Nat) : List (List Int) := (List.range m).map fun i => (atL ls i k).map fun q : Nat => (q : Int)
def pairsK (ls : List Link) : List (List Int) := ls.map fun l => [l.i, l.j]
section
variable {ls : List Link} {m k n : Nat}
theorem tabK_len : (tabK ls m k).length = m := by simp [tabK]
theorem tabK_at (h : n < m) : (tabK ls m k).getD n [] = (atL ls n k).map fun q : Nat => (q : Int) := by
  simp [tabK, List.getD_eq_getElem?_getD, h]
theorem tabK_zero : tabK ls m 0 = List.replicate m [] := by
  unfold tabK atL
  simp only [List.range_zero, List.filter_nil, List.map_nil]
  rw [List.map_const', List.length_range]
theorem atL_yes (h : (ls.getD k default).i = n ∨ (ls.getD k default).j = n) : atL ls n (k + 1) = atL ls n k ++ [k] := by
  unfold atL
  rw [List.range_succ, List.filter_append, List.filter_cons_of_pos (by simpa using h), List.filter_nil]
theorem atL_no (h : ¬ ((ls.getD k default).i = n ∨ (ls.getD k default).j = n)) : atL ls n (k + 1) = atL ls n k := by
  unfold atL
  rw [List.range_succ, List.filter_append, List.filter_cons_of_neg (by simpa using h), List.filter_nil, List.append_nil]
theorem ext_rows {A B : List (List Int)} (hl : A.length = B.length) (h : ∀ i, i < A.length → A.getD i [] = B.getD i []) : A = B := by
  refine List.ext_getElem hl fun i h1 h2 => ?_
  have := h i h1
  rwa [List.getD_eq_getElem?_getD, List.getElem?_eq_getElem h1, List.getD_eq_getElem?_getD, List.getElem?_eq_getElem h2] at this
theorem set_row {A : List (List Int)} {i j : Nat} {r : List Int} (hi : i < A.length) : (A.set i r).getD j [] = if j = i then r else A.getD j [] := by
  rw [List.getD_eq_getElem?_getD, List.getElem?_set]
  by_cases h : j = i
  · subst h; rw [if_pos rfl, if_pos hi, if_pos rfl]; rfl
  · rw [if_neg (fun q => h q.symm), if_neg h, List.getD_eq_getElem?_getD]
theorem tabK_same {i : Nat} (hi : i < m) (h1 : (ls.getD k default).i = i) (h2 : (ls.getD k default).j = i) : tabK ls m (k + 1) = (tabK ls m k).set i ((tabK ls m k).getD i [] ++ [(k : Int)]) := by
  refine ext_rows (by simp [tabK]) fun n hn => ?_
  rw [tabK_len] at hn
  rw [set_row (by rw [tabK_len]; exact hi), tabK_at hn, tabK_at hn, tabK_at hi]
  by_cases q : n = i
  · subst q
    rw [if_pos rfl, atL_yes (.inl h1), List.map_append]; rfl
  · rw [if_neg q, atL_no (by omega)]
theorem tabK_two {i j : Nat} (hi : i < m) (hj : j < m) (hne : i ≠ j) (h1 : (ls.getD k default).i = i) (h2 : (ls.getD k default).j = j) :
    tabK ls m (k + 1) = ((tabK ls m k).set i ((tabK ls m k).getD i [] ++ [(k : Int)])).set j (((tabK ls m k).set i ((tabK ls m k).getD i [] ++ [(k : Int)])).getD j [] ++ [(k : Int)]) := by
  refine ext_rows (by simp [tabK]) fun n hn => ?_
  rw [tabK_len] at hn
  rw [set_row (by rw [List.length_set, tabK_len]; exact hj), set_row (by rw [tabK_len]; exact hi), set_row (by rw [tabK_len]; exact hi), tabK_at hn, tabK_at hn, tabK_at hi, tabK_at hj]
  by_cases q : n = j
  · subst q
    rw [if_pos rfl, if_neg (fun q => hne q.symm), atL_yes (.inr h2), List.map_append]; rfl
  · rw [if_neg q]
    by_cases p : n = i
    · subst p
      rw [if_pos rfl, atL_yes (.inl h1), List.map_append]; rfl
    · rw [if_neg p, atL_no (by omega)]
theorem pairs_len : (pairsK ls).length = ls.length := by simp [pairsK]
theorem pairs_succ (h : k < ls.length) : pairsK (ls.take (k + 1)) = pairsK (ls.take k) ++ [[(ls.getD k default).i, (ls.getD k default).j]] := by
  unfold pairsK
  rw [List.take_add_one, List.getElem?_eq_getElem h, Option.toList_some, List.map_append, List.getD_eq_getElem?_getD, List.getElem?_eq_getElem h]
  rfl
theorem pairs_at (h : k < ls.length) : (pairsK ls).getD k [] = [(ls.getD k default).i, (ls.getD k default).j] := by
  simp [pairsK, List.getD_eq_getElem?_getD, h]
end
end Go.Cats
end
