/- Several texts in one: M01, M02, M03, N02, N03, N04, N05, N06, N07, N08, N09, M04, N10, N11, N12, N13, N14, N24, M05, M06, M07, M08, M09, M10, M11, M12, N25, N26, N27, N28, N39, N43, N45, N46, N47, N48, N15, N16, N33, N36, N44, N01, N49, N50. -/
set_option linter.unusedSimpArgs false
set_option linter.unusedVariables false
set_option linter.unusedSectionVars false
section
namespace Go.Cats
noncomputable def dec (P : Prop) : Bool := @decide P (Classical.propDecidable P)
theorem dec_t {P : Prop} (h : P) : dec P = true := by simp [dec, h]
theorem dec_f {P : Prop} (h : ¬ P) : dec P = false := by simp [dec, h]
theorem dec_iff {P : Prop} : dec P = true ↔ P := by simp [dec]
theorem dec_not {P : Prop} : dec P = false ↔ ¬ P := by simp [dec]
theorem dec_congr {P Q : Prop} (h : P ↔ Q) : dec P = dec Q := by
  by_cases p : P
  · rw [dec_t p, dec_t (h.1 p)]
  · rw [dec_f p, dec_f fun q => p (h.2 q)]
theorem dec_eq {P : Prop} [Decidable P] : dec P = decide P := by by_cases h : P <;> simp [dec, h]
/-! ### Scans -/
def scan {α : Type} (n : Nat) (p : Nat → Option α) : Option α := (List.range n).findSome? p
theorem scan_succ {α : Type} (n : Nat) (p : Nat → Option α) : scan (n + 1) p = (scan n p).or (p n) := by
  unfold scan
  rw [List.range_succ, List.findSome?_append]
  simp [List.findSome?]
  cases p n <;> rfl
theorem scan_next {α : Type} {n : Nat} {p : Nat → Option α} (h : scan n p = none) (k : p n = none) : scan (n + 1) p = none := by
  rw [scan_succ, h, k]; rfl
theorem scan_none {α : Type} {n : Nat} {p : Nat → Option α} : scan n p = none ↔ ∀ i, i < n → p i = none := by
  simp [scan, List.findSome?_eq_none_iff]
theorem scan_hit {α : Type} {n i : Nat} {p : Nat → Option α} {r : α} (hi : i < n) (h : scan i p = none) (k : p i = some r) : scan n p = some r := by
  induction n with
  | zero => omega
  | succ n ih =>
    rw [scan_succ]
    by_cases e : i = n
    · subst e; rw [h, k]; rfl
    · rw [ih (by omega)]; rfl
theorem scan_some {α : Type} {n : Nat} {p : Nat → Option α} {r : α} (h : scan n p = some r) : ∃ i, i < n ∧ p i = some r := by
  unfold scan at h
  obtain ⟨i, hi, k⟩ := List.exists_of_findSome?_eq_some h
  exact ⟨i, by simpa using hi, k⟩
theorem all_succ {P : Nat → Prop} {n : Nat} (h : ∀ i, i < n → P i) (k : P n) : ∀ i, i < n + 1 → P i := fun i hi => by
  by_cases e : i = n
  · subst e; exact k
  · exact h i (by omega)
def coll {α : Type} (n : Nat) (f : Nat → List α) : List α := (List.range n).flatMap f
theorem coll_zero {α : Type} (f : Nat → List α) : coll 0 f = [] := rfl
theorem coll_succ {α : Type} (n : Nat) (f : Nat → List α) : coll (n + 1) f = coll n f ++ f n := by
  simp [coll, List.range_succ]
theorem coll_congr {α : Type} {n : Nat} {f g : Nat → List α} (h : ∀ i, i < n → f i = g i) : coll n f = coll n g := by
  unfold coll
  induction n with
  | zero => rfl
  | succ n ih =>
    simp only [List.range_succ, List.flatMap_append, List.flatMap_cons, List.flatMap_nil, List.append_nil]
    rw [ih fun i hi => h i (by omega), h n (by omega)]
theorem mem_coll {α : Type} {n : Nat} {f : Nat → List α} {x : α} : x ∈ coll n f ↔ ∃ i, i < n ∧ x ∈ f i := by
  simp [coll, List.mem_flatMap]
theorem coll_length_le {α : Type} {n k : Nat} {f : Nat → List α} (h : ∀ i, i < n → (f i).length ≤ k) : (coll n f).length ≤ n * k := by
  induction n with
  | zero => simp [coll]
  | succ n ih =>
    rw [coll_succ, List.length_append, Nat.succ_mul]
    have := ih fun i hi => h i (by omega)
    have := h n (by omega)
    omega
theorem getD_mem {α : Type} {l : List α} {i : Nat} {d : α} (h : i < l.length) : l.getD i d ∈ l := by
  simp [List.getD_eq_getElem?_getD, h]
def Within (l : List Int) (n : Int) : Prop := ∀ i, i < l.length → 0 ≤ l.getD i 0 ∧ l.getD i 0 < n
/-! ### Categories -/
structure Cat where
  ob : Int
  fr : List Int
  to : List Int
  id : List Int
  co : List (List Int)
def Cat.nil : Cat := ⟨0, [], [], [], []⟩
abbrev Cat.F (c : Cat) (f : Int) : Int := c.fr.getD f.toNat 0
abbrev Cat.T (c : Cat) (f : Int) : Int := c.to.getD f.toNat 0
abbrev Cat.I (c : Cat) (x : Int) : Int := c.id.getD x.toNat 0
abbrev Cat.C (c : Cat) (f g : Int) : Int := (c.co.getD f.toNat []).getD g.toNat 0
structure CatB (c : Cat) : Prop where
  ob1 : -9223372036854775808 ≤ c.ob
  ob2 : c.ob ≤ 9223372036854775807
  fr : c.fr.length ≤ 1048576
  to : c.to.length ≤ 1048576
  id : c.id.length ≤ 1048576
  co : c.co.length ≤ 1048576
  row : ∀ f, f < c.co.length → (c.co.getD f []).length ≤ 1048576
def Cat.Entry (c : Cat) (f g : Nat) : Prop :=
  (c.to.getD f 0 = c.fr.getD g 0 ∧ (0 ≤ c.C f g ∧ c.C f g < c.fr.length) ∧ c.F (c.C f g) = c.fr.getD f 0 ∧ c.T (c.C f g) = c.to.getD g 0) ∨
  (c.to.getD f 0 ≠ c.fr.getD g 0 ∧ c.C f g = -1)
structure Shape (c : Cat) : Prop where
  ob0 : 0 ≤ c.ob
  ob8 : c.ob ≤ 8
  m40 : c.fr.length ≤ 40
  tol : c.to.length = c.fr.length
  frw : Within c.fr c.ob
  tow : Within c.to c.ob
  idl : (c.id.length : Int) = c.ob
  idw : Within c.id c.fr.length
  col : c.co.length = c.fr.length
  ide : ∀ x, x < c.id.length → c.F (c.id.getD x 0) = x ∧ c.T (c.id.getD x 0) = x
  coe : ∀ f, f < c.fr.length → (c.co.getD f []).length = c.fr.length ∧ ∀ g, g < c.fr.length → c.Entry f g
def Cat.fault1 (c : Cat) (f : Nat) : Option (Int × Int × Int × Int) :=
  if c.C (c.I (c.F f)) f ≠ f ∨ c.C f (c.I (c.T f)) ≠ f then some (1, f, 0, 0) else none
def Cat.fault2 (c : Cat) (f g h : Nat) : Option (Int × Int × Int × Int) :=
  if 0 ≤ c.C g h ∧ c.C (c.C f g) h ≠ c.C f (c.C g h) then some (2, f, g, h) else none
def Cat.fault2g (c : Cat) (f g : Nat) : Option (Int × Int × Int × Int) :=
  if c.C f g < 0 then none else scan c.fr.length fun h => c.fault2 f g h
def Cat.fault (c : Cat) : Int × Int × Int × Int :=
  ((scan c.fr.length c.fault1).or (scan c.fr.length fun f => scan c.fr.length fun g => c.fault2g f g)).getD (0, 0, 0, 0)
structure IsCat (c : Cat) : Prop extends Shape c where
  unl : ∀ f : Nat, f < c.fr.length → c.C (c.I (c.F f)) f = f
  unr : ∀ f : Nat, f < c.fr.length → c.C f (c.I (c.T f)) = f
  ass : ∀ f g h : Nat, f < c.fr.length → g < c.fr.length → h < c.fr.length → c.T f = c.F g → c.T g = c.F h → c.C (c.C f g) h = c.C f (c.C g h)
theorem Shape.neg {c : Cat} (s : Shape c) {f g : Nat} (hf : f < c.fr.length) (hg : g < c.fr.length) : c.C f g < 0 ↔ c.T f ≠ c.F g := by
  have := (s.coe f hf).2 g hg
  unfold Cat.Entry at this
  simp only [Cat.T, Cat.F, Int.toNat_natCast]
  rcases this with ⟨h1, h2, h3⟩ | ⟨h1, h2⟩
  · constructor
    · intro h; omega
    · intro h; exact absurd h1 h
  · constructor
    · intro _; exact h1
    · intro _; omega
theorem Shape.fault_zero {c : Cat} (s : Shape c) : c.fault.1 = 0 ↔ IsCat c := by
  unfold Cat.fault
  constructor
  · intro h
    cases h1 : scan c.fr.length c.fault1 with
    | some r =>
      obtain ⟨i, hi, k⟩ := scan_some h1
      unfold Cat.fault1 at k
      split at k
      · simp at k; subst k; simp [h1] at h
      · cases k
    | none =>
      rw [h1] at h
      cases h2 : (scan c.fr.length fun f => scan c.fr.length fun g => c.fault2g f g) with
      | some r =>
        obtain ⟨i, hi, k⟩ := scan_some h2
        obtain ⟨j, hj, k⟩ := scan_some k
        unfold Cat.fault2g at k
        split at k
        · cases k
        · obtain ⟨l, hl, k⟩ := scan_some k
          unfold Cat.fault2 at k
          split at k
          · simp at k; subst k; simp [h2] at h
          · cases k
      | none =>
        rw [scan_none] at h1 h2
        refine ⟨s, fun f hf => ?_, fun f hf => ?_, fun f g h hf hg hh e1 e2 => ?_⟩
        · have := h1 f hf
          unfold Cat.fault1 at this
          split at this
          · cases this
          · rename_i n; exact Classical.byContradiction fun q => n (.inl q)
        · have := h1 f hf
          unfold Cat.fault1 at this
          split at this
          · cases this
          · rename_i n; exact Classical.byContradiction fun q => n (.inr q)
        · have := h2 f hf
          rw [scan_none] at this
          have := this g hg
          unfold Cat.fault2g at this
          rw [if_neg (by rw [s.neg hf hg]; exact fun q => q e1), scan_none] at this
          have := this h hh
          unfold Cat.fault2 at this
          split at this
          · cases this
          · rename_i n
            refine Classical.byContradiction fun q => n ⟨?_, q⟩
            have := (s.neg hg hh)
            exact Int.not_lt.1 fun q => this.1 q e2
  · intro h
    have h1 : scan c.fr.length c.fault1 = none := scan_none.2 fun f hf => by
      unfold Cat.fault1
      rw [if_neg]
      rintro (q | q)
      · exact q (h.unl f hf)
      · exact q (h.unr f hf)
    have h2 : (scan c.fr.length fun f => scan c.fr.length fun g => c.fault2g f g) = none := scan_none.2 fun f hf => scan_none.2 fun g hg => by
      unfold Cat.fault2g
      split
      · rfl
      · rename_i n1
        refine scan_none.2 fun h' hh => ?_
        unfold Cat.fault2
        rw [if_neg]
        rintro ⟨q1, q2⟩
        have e1 := s.neg hf hg
        have e2 := s.neg hg hh
        exact q2 (h.ass f g h' hf hg hh (Classical.byContradiction fun q => n1 (e1.2 q)) (Classical.byContradiction fun q => by have := e2.2 q; omega))
    rw [h1, h2]; rfl
theorem Cat.fault1_t {c : Cat} {f : Nat} (h : c.C (c.I (c.F f)) f ≠ f ∨ c.C f (c.I (c.T f)) ≠ f) : c.fault1 f = some ((1 : Int), (f : Int), (0 : Int), (0 : Int)) := if_pos h
theorem Cat.fault1_f {c : Cat} {f : Nat} (h : c.C (c.I (c.F f)) f = f) (k : c.C f (c.I (c.T f)) = f) : c.fault1 f = none := if_neg fun q => q.elim (fun q => q h) fun q => q k
theorem Cat.fault2_t {c : Cat} {f g h : Nat} (a : 0 ≤ c.C g h) (b : c.C (c.C f g) h ≠ c.C f (c.C g h)) : c.fault2 f g h = some ((2 : Int), (f : Int), (g : Int), (h : Int)) := if_pos ⟨a, b⟩
theorem Cat.fault2_f {c : Cat} {f g h : Nat} (a : 0 ≤ c.C g h → c.C (c.C f g) h = c.C f (c.C g h)) : c.fault2 f g h = none := if_neg fun q => q.2 (a q.1)
theorem Cat.fault2g_f {c : Cat} {f g : Nat} (a : c.C f g < 0) : c.fault2g f g = none := if_pos a
theorem Cat.fault2g_t {c : Cat} {f g : Nat} (a : ¬ c.C f g < 0) : c.fault2g f g = scan c.fr.length fun h => c.fault2 f g h := if_neg a
theorem Cat.fault_1 {c : Cat} {f : Nat} {r : Int × Int × Int × Int} (h : scan f c.fault1 = none) (hf : f < c.fr.length) (k : c.fault1 f = some r) : c.fault = r := by
  unfold Cat.fault
  rw [scan_hit hf h k]; rfl
theorem Cat.fault_2 {c : Cat} {f g h : Nat} {r : Int × Int × Int × Int} (a : scan c.fr.length c.fault1 = none) (h1 : scan f (fun f => scan c.fr.length fun g => c.fault2g f g) = none) (hf : f < c.fr.length)
    (h2 : scan g (fun g => c.fault2g f g) = none) (hg : g < c.fr.length) (n : ¬ c.C f g < 0) (h3 : scan h (fun h => c.fault2 f g h) = none) (hh : h < c.fr.length) (k : c.fault2 f g h = some r) : c.fault = r := by
  unfold Cat.fault
  rw [a, scan_hit hf h1 (scan_hit hg h2 (by rw [Cat.fault2g_t n]; exact scan_hit hh h3 k))]; rfl
theorem Cat.fault_0 {c : Cat} (a : scan c.fr.length c.fault1 = none) (h1 : scan c.fr.length (fun f => scan c.fr.length fun g => c.fault2g f g) = none) : c.fault = (0, 0, 0, 0) := by
  unfold Cat.fault
  rw [a, h1]; rfl
def Cat.homI (c : Cat) (x y : Int) (i : Nat) : List Int := coll i fun f => if c.fr.getD f 0 = x ∧ c.to.getD f 0 = y then [(f : Int)] else []
def Cat.hom (c : Cat) (x y : Int) : List Int := c.homI x y c.fr.length
theorem Cat.homI_zero (c : Cat) (x y : Int) : c.homI x y 0 = [] := rfl
theorem Cat.homI_succ (c : Cat) (x y : Int) (i : Nat) : c.homI x y (i + 1) = c.homI x y i ++ if c.fr.getD i 0 = x ∧ c.to.getD i 0 = y then [(i : Int)] else [] := coll_succ _ _
theorem Cat.homI_len (c : Cat) (x y : Int) (i : Nat) : (c.homI x y i).length ≤ i := by
  have := coll_length_le (n := i) (k := 1) (f := fun f => if c.fr.getD f 0 = x ∧ c.to.getD f 0 = y then [(f : Int)] else []) fun j _ => by split <;> simp
  simpa [Cat.homI] using this
theorem Cat.mem_hom {c : Cat} {x y f : Int} : f ∈ c.hom x y ↔ 0 ≤ f ∧ f < c.fr.length ∧ c.F f = x ∧ c.T f = y := by
  unfold Cat.hom Cat.homI
  rw [mem_coll]
  constructor
  · rintro ⟨i, hi, h⟩
    split at h
    · rename_i e; simp at h; subst h
      simp only [Cat.F, Cat.T, Int.toNat_natCast]
      exact ⟨by omega, by omega, e.1, e.2⟩
    · simp at h
  · rintro ⟨h1, h2, h3, h4⟩
    refine ⟨f.toNat, by omega, ?_⟩
    rw [if_pos ⟨h3, h4⟩]
    simp; omega
/-! ### Functors -/
structure Fun where
  src : Cat
  tgt : Cat
  obs : List Int
  ars : List Int
def Fun.nil : Fun := ⟨.nil, .nil, [], []⟩
abbrev Fun.O (f : Fun) (x : Int) : Int := f.obs.getD x.toNat 0
abbrev Fun.A (f : Fun) (a : Int) : Int := f.ars.getD a.toNat 0
structure Fits (f : Fun) : Prop where
  obl : (f.obs.length : Int) = f.src.ob
  arl : f.ars.length = f.src.fr.length
  obw : Within f.obs f.tgt.ob
  arw : Within f.ars f.tgt.fr.length
  endf : ∀ a, a < f.ars.length → f.tgt.F (f.ars.getD a 0) = f.O (f.src.F a) ∧ f.tgt.T (f.ars.getD a 0) = f.O (f.src.T a)
  unit : ∀ x, x < f.src.id.length → f.A (f.src.id.getD x 0) = f.tgt.I (f.O x)
  comp : ∀ a b : Nat, a < f.src.fr.length → b < f.src.fr.length → 0 ≤ f.src.C a b → f.A (f.src.C a b) = f.tgt.C (f.A a) (f.A b)
structure IsFun (f : Fun) : Prop where
  src : IsCat f.src
  tgt : IsCat f.tgt
  fits : Fits f
/-! ### Set functors -/
structure SF where
  shape : Cat
  sizes : List Int
  acts : List (List Int)
structure SM where
  src : SF
  tgt : SF
  parts : List (List Int)
def SF.nil : SF := ⟨.nil, [], []⟩
def SM.nil : SM := ⟨.nil, .nil, []⟩
end Go.Cats
end
section
namespace Go.Cats
theorem scan_end {α : Type} {p : Nat → Option α} {i n : Nat} (h : scan i p = none) (a : i ≤ n) (b : n ≤ i) : scan n p = none := by
  have : i = n := by omega
  rw [← this]; exact h
theorem take_snoc {α : Type} {a b : List α} {d : α} {i : Nat} (h : a.take i = b.take i) (ha : i < a.length) (hb : i < b.length) (e : a.getD i d = b.getD i d) : a.take (i + 1) = b.take (i + 1) := by
  have e1 : a.getD i d = a[i] := by simp [List.getD_eq_getElem?_getD, ha]
  have e2 : b.getD i d = b[i] := by simp [List.getD_eq_getElem?_getD, hb]
  rw [e1, e2] at e
  rw [List.take_succ_eq_append_getElem ha, List.take_succ_eq_append_getElem hb, h, e]
theorem take_end {α : Type} {a b : List α} {i : Nat} (h : a.take i = b.take i) (ha : a.length ≤ i) (hb : b.length ≤ i) : a = b := by
  rwa [List.take_of_length_le ha, List.take_of_length_le hb] at h
theorem take_getD {α : Type} {a : List α} {d : α} {i : Nat} (ha : i < a.length) : a.take (i + 1) = a.take i ++ [a.getD i d] := by
  rw [List.take_succ_eq_append_getElem ha]
  simp [List.getD_eq_getElem?_getD, ha]
theorem Cat.eq {c d : Cat} (h1 : c.ob = d.ob) (h2 : c.fr = d.fr) (h3 : c.to = d.to) (h4 : c.id = d.id) (h5 : c.co = d.co) : c = d := by
  cases c; cases d; simp_all
end Go.Cats
end
section
namespace Go.Cats
structure SFB (f : SF) : Prop where
  shape : CatB f.shape
  sizes : f.sizes.length ≤ 1048576
  acts : f.acts.length ≤ 1048576
  row : ∀ a, a < f.acts.length → (f.acts.getD a []).length ≤ 1048576
abbrev SF.act (f : SF) (a : Nat) : List Int := f.acts.getD a []
structure SFShape (f : SF) : Prop where
  cat : IsCat f.shape
  szl : (f.sizes.length : Int) = f.shape.ob
  szw : Within f.sizes 17
  acl : f.acts.length = f.shape.fr.length
  act : ∀ a, a < f.acts.length → ((f.acts.getD a []).length : Int) = f.sizes.getD (f.shape.fr.getD a 0).toNat 0 ∧ Within (f.acts.getD a []) (f.sizes.getD (f.shape.to.getD a 0).toNat 0)
def SF.fault1 (f : SF) (x e : Nat) : Option (Int × Int × Int × Int) :=
  if (f.acts.getD (f.shape.id.getD x 0).toNat []).getD e 0 ≠ e then some ((1 : Int), (x : Int), (e : Int), (0 : Int)) else none
def SF.fault1x (f : SF) (x : Nat) : Option (Int × Int × Int × Int) := scan (f.acts.getD (f.shape.id.getD x 0).toNat []).length fun e => f.fault1 x e
def SF.fault2 (f : SF) (a b e : Nat) : Option (Int × Int × Int × Int) :=
  if (f.acts.getD ((f.shape.co.getD a []).getD b 0).toNat []).getD e 0 ≠ (f.acts.getD b []).getD ((f.acts.getD a []).getD e 0).toNat 0 then some ((2 : Int), (a : Int), (b : Int), (e : Int)) else none
def SF.fault2b (f : SF) (a b : Nat) : Option (Int × Int × Int × Int) :=
  if (f.shape.co.getD a []).getD b 0 < 0 then none else scan (f.acts.getD a []).length fun e => f.fault2 a b e
def SF.fault2a (f : SF) (a : Nat) : Option (Int × Int × Int × Int) := scan (f.shape.co.getD a []).length fun b => f.fault2b a b
def SF.fault (f : SF) : Int × Int × Int × Int :=
  ((scan f.shape.id.length f.fault1x).or (scan f.shape.co.length f.fault2a)).getD (0, 0, 0, 0)
structure IsSF (f : SF) : Prop extends SFShape f where
  unit : ∀ x, x < f.shape.id.length → ∀ e, e < (f.acts.getD (f.shape.id.getD x 0).toNat []).length → (f.acts.getD (f.shape.id.getD x 0).toNat []).getD e 0 = e
  comp : ∀ a b, a < f.shape.fr.length → b < f.shape.fr.length → 0 ≤ (f.shape.co.getD a []).getD b 0 → ∀ e, e < (f.acts.getD a []).length →
    (f.acts.getD ((f.shape.co.getD a []).getD b 0).toNat []).getD e 0 = (f.acts.getD b []).getD ((f.acts.getD a []).getD e 0).toNat 0
/-! ### Natural maps -/
structure SMB (m : SM) : Prop where
  src : SFB m.src
  tgt : SFB m.tgt
  parts : m.parts.length ≤ 1048576
  row : ∀ x, x < m.parts.length → (m.parts.getD x []).length ≤ 1048576
structure SMFits (m : SM) : Prop where
  len : m.parts.length = m.src.sizes.length
  map : ∀ x, x < m.parts.length → ((m.parts.getD x []).length : Int) = m.src.sizes.getD x 0 ∧ Within (m.parts.getD x []) (m.tgt.sizes.getD x 0)
structure SMShape (m : SM) : Prop where
  src : IsSF m.src
  tgt : IsSF m.tgt
  same : m.src.shape = m.tgt.shape
  fits : SMFits m
structure IsSM (m : SM) : Prop extends SMShape m where
  nat : ∀ a, a < m.src.shape.fr.length → ∀ e, e < (m.src.acts.getD a []).length →
    (m.parts.getD (m.src.shape.to.getD a 0).toNat []).getD ((m.src.acts.getD a []).getD e 0).toNat 0 = (m.tgt.acts.getD a []).getD ((m.parts.getD (m.src.shape.fr.getD a 0).toNat []).getD e 0).toNat 0
end Go.Cats
end
section
namespace Go.Cats
abbrev pv (P : List (List Int)) (y i : Nat) : Int := (P.getD y []).getD i 0
def pset (P : List (List Int)) (y i : Nat) (k : Int) : List (List Int) := P.set y ((P.getD y []).set i k)
section
variable (f g : SF) (once : Bool)
abbrev SF.av (f : SF) (a : Nat) (e : Nat) : Int := (f.acts.getD a []).getD e 0
abbrev SF.ty (f : SF) (a : Nat) : Nat := (f.shape.to.getD a 0).toNat
abbrev SF.fx (f : SF) (a : Nat) : Nat := (f.shape.fr.getD a 0).toNat
def stepS (e u : Nat) (P : List (List Int)) (a : Nat) : Option (List (List Int)) :=
  if 0 ≤ pv P (f.ty a) (f.av a e).toNat then (if pv P (f.ty a) (f.av a e).toNat = g.av a u then some P else none)
  else if once = true ∧ g.av a u ∈ P.getD (f.ty a) [] then none else some (pset P (f.ty a) (f.av a e).toNat (g.av a u))
def setN (x e u : Nat) (P : List (List Int)) : Nat → Option (List (List Int))
  | 0 => some P
  | n + 1 => (setN x e u P n).bind fun Q => if f.shape.fr.getD n 0 = x then stepS f g once e u Q n else some Q
def setS (x e u : Nat) (P : List (List Int)) : Option (List (List Int)) := setN f g once x e u P f.shape.fr.length
structure Good (P : List (List Int)) : Prop where
  len : P.length = f.sizes.length
  row : ∀ y, y < P.length → ((P.getD y []).length : Int) = f.sizes.getD y 0
  rng : ∀ y i, y < P.length → i < (P.getD y []).length → -1 ≤ pv P y i ∧ pv P y i < g.sizes.getD y 0
  cl : ∀ b i, b < f.shape.fr.length → i < (P.getD (f.fx b) []).length → 0 ≤ pv P (f.fx b) i → pv P (f.ty b) (f.av b i).toNat = g.av b (pv P (f.fx b) i).toNat
  inj : once = true → ∀ y i j, y < P.length → i < (P.getD y []).length → j < (P.getD y []).length → 0 ≤ pv P y i → pv P y i = pv P y j → i = j
def Ext' (P Q : List (List Int)) : Prop := P.length = Q.length ∧ (∀ y, (P.getD y []).length = (Q.getD y []).length) ∧ ∀ y i, y < P.length → i < (P.getD y []).length → 0 ≤ pv P y i → pv Q y i = pv P y i
end
variable {f g : SF} {once : Bool} {x e u : Nat} {P Q : List (List Int)}
structure SPair (f g : SF) : Prop where
  src : IsSF f
  tgt : IsSF g
  one : f.shape = g.shape
structure Gd (f g : SF) (once : Bool) (P : List (List Int)) : Prop where
  len : P.length = f.sizes.length
  row : ∀ y, y < P.length → ((P.getD y []).length : Int) = f.sizes.getD y 0
  rng : ∀ y i, y < P.length → i < (P.getD y []).length → -1 ≤ pv P y i ∧ pv P y i < g.sizes.getD y 0
  inj : once = true → ∀ y i j, y < P.length → i < (P.getD y []).length → j < (P.getD y []).length → 0 ≤ pv P y i → pv P y i = pv P y j → i = j
end Go.Cats
end
section
namespace Go.Cats
section
variable (f g : SF) (once : Bool)
end
variable {f g : SF} {once : Bool} {x e u : Nat} {P Q : List (List Int)}
end Go.Cats
end
section
namespace Go.Cats
section
variable (f g : SF) (once : Bool)
def newS (e : Nat) (P : List (List Int)) (a : Nat) : Prop := ¬ 0 ≤ pv P (f.ty a) (f.av a e).toNat
instance (e : Nat) (P : List (List Int)) (a : Nat) : Decidable (newS f e P a) := by unfold newS; infer_instance
end
variable {f g : SF} {once : Bool} {x e u : Nat} {P Q : List (List Int)}
def undo (P : List (List Int)) (N : List (Int × Int)) : List (List Int) := N.foldl (fun P p => pset P p.1.toNat p.2.toNat (-1)) P
end Go.Cats
end
section
namespace Go.Cats
end Go.Cats
end
section
namespace Go.Cats
section
variable (f g : SF) (once : Bool)
end
variable {f g : SF} {once : Bool} {x e u j a : Nat} {P Q : List (List Int)} {N : List (Int × Int)}
variable {y i k : Int}
end Go.Cats
end
section
namespace Go.Cats
section
variable (f g : SF) (once : Bool)
def refQ (x e u : Nat) (P : List (List Int)) (a : Nat) : List (List Int) := (setN f g once x e u P a).getD P
end
variable {f g : SF} {once : Bool} {x e u a : Nat} {P Q : List (List Int)}
section
variable (h : setN f g once x e u P a = some (refQ f g once x e u P a)) (ha : a < f.shape.fr.length) (hx : f.shape.fr.getD a 0 = x)
include h ha hx
end
end Go.Cats
end
section
namespace Go.Cats
section
variable (f g : SF) (once : Bool)
end
variable {f g : SF} {once : Bool} {x e n : Nat} {P Q : List (List Int)}
end Go.Cats
end
section
namespace Go.Cats
section
variable (f g : SF) (once : Bool)
end
variable {f g : SF} {once : Bool} {n x e u : Nat} {P Q : List (List Int)}
end Go.Cats
end
section
namespace Go.Cats
theorem Cat.hom_len (c : Cat) (x y : Int) : (c.hom x y).length ≤ c.fr.length := c.homI_len x y _
end Go.Cats
end
section
namespace Go.Cats
section
variable (f g : SF) (once : Bool)
end
variable {f g : SF} {once : Bool} {n x e u : Nat} {P Q : List (List Int)}
end Go.Cats
end
section
namespace Go.Cats
/-! ### Results, taken up one by one -/
section
variable {α β : Type} (s : α → β → Bool × α)
def eat : α → List β → Bool × α
  | o, [] => (true, o)
  | o, q :: D => if (s o q).1 = true then eat (s o q).2 D else (false, (s o q).2)
end
section
variable {α β : Type} {s : α → β → Bool × α} {o : α} {D E : List β} {q : β}
end
/-! ### The way back -/
variable {f g : SF} {once : Bool} {x e u n : Nat} {P Q : List (List Int)} {N : List (Int × Int)}
structure ChF (f g : SF) (once : Bool) (x e u : Nat) (P Q : List (List Int)) (N : List (Int × Int)) (ok : Bool) : Prop where
  len : Q.length = P.length
  row : ∀ y, (Q.getD y []).length = (P.getD y []).length
  nl : N.length ≤ 4096
  at1 : ∀ i, i < N.length → 0 ≤ (N.getD i (0, 0)).1 ∧ (N.getD i (0, 0)).1.toNat < P.length ∧ 0 ≤ (N.getD i (0, 0)).2 ∧ (N.getD i (0, 0)).2.toNat < (P.getD (N.getD i (0, 0)).1.toNat []).length
  back : undo Q N = P
  yes : ok = true → setS f g once x e u P = some Q
  no : ok = false → setS f g once x e u P = none
end Go.Cats
end
section
namespace Go.Cats
def lexP : List Nat → List (List Int)
  | [] => [[]]
  | s :: S => (List.range s).flatMap fun v : Nat => (lexP S).map fun l => (v : Int) :: l
def contB : List Int → List Int → Bool
  | [], [] => true
  | a :: A, q :: Q => (decide (a < 0) || decide (q = a)) && contB A Q
  | _, _ => false
def extW (W : List Int → Bool) (S : List Nat) (A : List Int) : List (List Int) := (lexP S).filter fun Q => contB A Q && W Q
theorem flat_one {β : Type} {s : Nat} {a : Int} {g : Nat → List β} : ((List.range s).flatMap fun v : Nat => if (v : Int) = a then g v else []) = if 0 ≤ a ∧ a < s then g a.toNat else [] := by
  induction s with
  | zero => rw [if_neg (by omega)]; rfl
  | succ s ih =>
    rw [List.range_succ, List.flatMap_append, ih, List.flatMap_cons, List.flatMap_nil, List.append_nil]
    by_cases h : (s : Int) = a
    · subst h
      rw [if_neg (by omega), if_pos rfl, if_pos (by omega), List.nil_append, Int.toNat_natCast]
    · rw [if_neg h, List.append_nil]
      by_cases h1 : 0 ≤ a ∧ a < s
      · rw [if_pos h1, if_pos (by omega)]
      · rw [if_neg h1, if_neg (by omega)]
theorem extW_cons {W : List Int → Bool} {s : Nat} {S : List Nat} {a : Int} {A : List Int} :
    extW W (s :: S) (a :: A) = (List.range s).flatMap fun v : Nat => if a < 0 ∨ (v : Int) = a then (extW (fun Q => W ((v : Int) :: Q)) S A).map fun l => (v : Int) :: l else [] := by
  unfold extW
  rw [lexP, List.filter_flatMap]
  congr 1
  funext v
  rw [List.filter_map]
  by_cases h : a < 0 ∨ (v : Int) = a
  · rw [if_pos h]
    congr 1
    refine List.filter_congr fun Q _ => ?_
    have : (decide (a < 0) || decide ((v : Int) = a)) = true := by simpa using h
    simp only [Function.comp, contB, this, Bool.true_and]
  · rw [if_neg h]
    have : (decide (a < 0) || decide ((v : Int) = a)) = false := by simpa using h
    have e : ((fun Q => contB (a :: A) Q && W Q) ∘ fun l => (v : Int) :: l) = fun _ => false := by
      funext Q
      simp only [Function.comp, contB, this, Bool.false_and]
    rw [e]
    simp
theorem extW_set {W : List Int → Bool} {s : Nat} {S : List Nat} {a : Int} {A : List Int} (h : 0 ≤ a) : extW W (s :: S) (a :: A) = if a < s then (extW (fun Q => W (a :: Q)) S A).map fun l => a :: l else [] := by
  rw [extW_cons]
  have : (fun v : Nat => if a < 0 ∨ (v : Int) = a then (extW (fun Q => W ((v : Int) :: Q)) S A).map (fun l => (v : Int) :: l) else []) = fun v : Nat => if (v : Int) = a then (extW (fun Q => W ((v : Int) :: Q)) S A).map (fun l => (v : Int) :: l) else [] := by
    funext v
    by_cases h1 : (v : Int) = a
    · rw [if_pos (.inr h1), if_pos h1]
    · rw [if_neg (by omega), if_neg h1]
  rw [this, flat_one]
  by_cases h1 : a < s
  · rw [if_pos ⟨h, h1⟩, if_pos h1, Int.toNat_of_nonneg h]
  · rw [if_neg (by omega), if_neg h1]
theorem extW_full : ∀ {W : List Int → Bool} {S : List Nat} {A : List Int}, A.length = S.length → (∀ j, j < A.length → 0 ≤ A.getD j 0 ∧ A.getD j 0 < S.getD j 0) → extW W S A = if W A = true then [A] else []
  | W, [], A, hl, _ => by
    have : A = [] := List.length_eq_zero_iff.1 hl
    subst this
    cases h : W [] <;> simp [extW, lexP, contB, h]
  | W, s :: S, [], hl, _ => by simp at hl
  | W, s :: S, a :: A, hl, h => by
    have h0 := h 0 (by simp)
    simp only [List.getD_cons_zero] at h0
    rw [extW_set h0.1, if_pos h0.2, extW_full (by simpa using hl) (fun j hj => by have := h (j + 1) (by simp; omega); simpa using this)]
    split <;> simp_all
end Go.Cats
end
section
namespace Go.Cats
structure Rule where
  fr : Int
  to : Int
  by_ : List Int
instance : Inhabited Rule := ⟨⟨0, 0, []⟩⟩
def rulesAt (rs : List Rule) (i : Nat) : List Rule := rs.filter fun r => decide (r.fr = i)
def okW (rs : List Rule) (Q : List Int) : Bool := rs.all fun r => decide (Q.getD r.to.toNat 0 = r.by_.getD (Q.getD r.fr.toNat 0).toNat 0)
structure RulesW (S : List Nat) (rs : List Rule) : Prop where
  fr : ∀ r ∈ rs, 0 ≤ r.fr ∧ r.fr < S.length
  to : ∀ r ∈ rs, 0 ≤ r.to ∧ r.to < S.length
  len : ∀ r ∈ rs, r.by_.length = S.getD r.fr.toNat 0
  val : ∀ r ∈ rs, ∀ e : Nat, e < S.getD r.fr.toNat 0 → 0 ≤ r.by_.getD e 0 ∧ r.by_.getD e 0 < S.getD r.to.toNat 0
abbrev St := Bool × List Int × List Int
section
variable {f : Nat → Int → List Int → List Int → St} {e : Int} {r : Rule} {l m : List Rule} {A B C N Q : List Int} {rs : List Rule} {S : List Nat} {n i : Nat}
def XtL (A B : List Int) : Prop := A.length = B.length ∧ ∀ j, j < A.length → 0 ≤ A.getD j 0 → B.getD j 0 = A.getD j 0
def uns (A : List Int) : Nat := (A.filter fun v => decide (v < 0)).length
theorem set_getD {i j : Nat} {k : Int} (hi : i < A.length) : (A.set i k).getD j 0 = if j = i then k else A.getD j 0 := by
  rw [List.getD_eq_getElem?_getD, List.getElem?_set]
  by_cases h : j = i
  · subst h; rw [if_pos rfl, if_pos hi, if_pos rfl]; rfl
  · rw [if_neg (fun q => h q.symm), if_neg h, List.getD_eq_getElem?_getD]
def RngL (S : List Nat) (A : List Int) : Prop := A.length = S.length ∧ ∀ j, j < A.length → -1 ≤ A.getD j 0 ∧ A.getD j 0 < S.getD j 0
def ClF (rs : List Rule) (A B : List Int) : Prop := ∀ j, j < A.length → A.getD j 0 < 0 → 0 ≤ B.getD j 0 → ∀ r ∈ rulesAt rs j, B.getD r.to.toNat 0 = r.by_.getD (B.getD j 0).toNat 0
def undoL (A N : List Int) : List Int := N.foldl (fun A k => A.set k.toNat (-1)) A
structure Fct (S : List Nat) (A N : List Int) (t : St) : Prop where
  ext : XtL A t.2.1
  rng : RngL S t.2.1
  und : undoL t.2.1 t.2.2 = undoL A N
  nts : ∀ k ∈ t.2.2, k ∈ N ∨ (0 ≤ k ∧ k.toNat < A.length)
  cnt : t.2.2.length + uns t.2.1 ≤ N.length + uns A
def ClL (rs : List Rule) (A : List Int) : Prop := ∀ j, j < A.length → 0 ≤ A.getD j 0 → ∀ r ∈ rulesAt rs j, A.getD r.to.toNat 0 = r.by_.getD (A.getD j 0).toNat 0
end
end Go.Cats
end
section
namespace Go.Cats
def stL {β : Type} (M : Nat) (o : List β) (q : β) : Bool × List β := (decide (o.length + 1 ≤ M), o ++ [q])
section
variable {f : Nat → Int → List Int → List Int → St} {e : Int} {l : List Rule} {A N : List Int} {k : Nat}
end
structure TryF (rs : List Rule) (S : List Nat) (A : List Int) (i u : Nat) (T : St) : Prop where
  len : T.2.1.length = A.length
  nl : T.2.2.length ≤ A.length
  at1 : ∀ j, j < T.2.2.length → 0 ≤ T.2.2.getD j 0 ∧ (T.2.2.getD j 0).toNat < A.length
  back : undoL T.2.1 T.2.2 = A
  yes : T.1 = true → RngL S T.2.1 ∧ ClL rs T.2.1 ∧ uns T.2.1 < uns A ∧ extW (okW rs) S (A.set i (u : Int)) = extW (okW rs) S T.2.1
  no : T.1 = false → extW (okW rs) S (A.set i (u : Int)) = []
end Go.Cats
end
section
namespace Go.Cats
abbrev Fs := Bool × Bool × List Int
abbrev Cat.cp (c : Cat) (a b : Nat) : Int := (c.co.getD a []).getD b 0
section
variable {c d : Cat} {a b m n k : Nat} {s t u : Fs} {O A B Q : List Int} {g : Bool}
structure VA (c d : Cat) (O A : List Int) : Prop where
  len : A.length = c.fr.length
  lo : ∀ f : Nat, f < A.length → -1 ≤ A.getD f 0
  hi : ∀ f : Nat, f < A.length → 0 ≤ A.getD f 0 → A.getD f 0 < d.fr.length ∧ d.fr.getD (A.getD f 0).toNat 0 = O.getD (c.fr.getD f 0).toNat 0 ∧ d.to.getD (A.getD f 0).toNat 0 = O.getD (c.to.getD f 0).toNat 0
def Cmp (c d : Cat) (Q : List Int) : Prop := ∀ a b : Nat, a < c.fr.length → b < c.fr.length → 0 ≤ c.cp a b → Q.getD (c.cp a b).toNat 0 = d.C (Q.getD a 0) (Q.getD b 0)
structure Ff (c d : Cat) (O A : List Int) (g : Bool) (t : Fs) : Prop where
  va : VA c d O t.2.2
  ext : XtL A t.2.2
  keep : t.2.1 = false → g = false ∧ t.2.2 = A
  prog : t.2.1 = true → g = true ∨ uns t.2.2 < uns A
  snd : ∀ Q, Cmp c d Q → contB A Q = true → t.1 = true ∧ contB t.2.2 Q = true
def Clo (c d : Cat) (A : List Int) (a b : Nat) : Prop := 0 ≤ c.cp a b → 0 ≤ A.getD a 0 → 0 ≤ A.getD b 0 → A.getD (c.cp a b).toNat 0 = d.C (A.getD a 0) (A.getD b 0)
structure Fo (c d : Cat) (O A : List Int) (t : Bool × List Int) : Prop where
  va : VA c d O t.2
  ext : XtL A t.2
  clo : t.1 = true → ∀ a, a < c.fr.length → ∀ b, b < c.fr.length → Clo c d t.2 a b
  snd : ∀ Q, Cmp c d Q → contB A Q = true → t.1 = true ∧ contB t.2 Q = true
def NdI (A : List Int) : Prop := ∀ i j : Nat, i < j → j < A.length → 0 ≤ A.getD i 0 → A.getD i 0 ≠ A.getD j 0
noncomputable def WA (c d : Cat) (b : Bool) (O Q : List Int) : Bool := dec (Fits ⟨c, d, O, Q⟩ ∧ (b = true → NdI O ∧ NdI Q))
structure Sp (c d : Cat) (b : Bool) (O A : List Int) (t : Bool × List Int) : Prop where
  va : VA c d O t.2
  ext : XtL A t.2
  clo : t.1 = true → ∀ a, a < c.fr.length → ∀ b, b < c.fr.length → Clo c d t.2 a b
  nd : t.1 = true → b = true → NdI t.2
  snd : ∀ Q, WA c d b O Q = true → contB A Q = true → t.1 = true ∧ contB t.2 Q = true
end
end Go.Cats
end
section
namespace Go.Cats
end Go.Cats
end
section
namespace Go.Cats
end Go.Cats
end
section
namespace Go.Cats
theorem Shape.comp_lt {c : Cat} (s : Shape c) {f g : Nat} (hf : f < c.fr.length) (hg : g < c.fr.length) (h : 0 ≤ (c.co.getD f []).getD g 0) : (c.co.getD f []).getD g 0 < c.fr.length ∧ c.to.getD f 0 = c.fr.getD g 0 := by
  rcases (s.coe f hf).2 g hg with ⟨h1, h2, _⟩ | ⟨_, h2⟩
  · have e : c.C f g = (c.co.getD f []).getD g 0 := by simp [Cat.C]
    rw [e] at h2
    exact ⟨h2.2, h1⟩
  · have e : c.C f g = (c.co.getD f []).getD g 0 := by simp [Cat.C]
    rw [e] at h2
    omega
theorem Shape.comp_nn {c : Cat} (s : Shape c) {f g : Nat} (hf : f < c.fr.length) (hg : g < c.fr.length) (h : c.to.getD f 0 = c.fr.getD g 0) : 0 ≤ (c.co.getD f []).getD g 0 := by
  rcases (s.coe f hf).2 g hg with ⟨_, h2, _⟩ | ⟨h2, _⟩
  · have e : c.C f g = (c.co.getD f []).getD g 0 := by simp [Cat.C]
    rw [e] at h2; exact h2.1
  · exact absurd h h2
theorem Shape.comp_row {c : Cat} (s : Shape c) {f : Int} (h0 : 0 ≤ f) (h1 : f < c.fr.length) : (c.co.getD f.toNat []).length = c.fr.length := (s.coe f.toNat (by omega)).1
end Go.Cats
end
section
namespace Go.Cats
def cH (f g : Fun) (a b : Nat) : List Int := f.tgt.hom (f.obs.getD a 0) (g.obs.getD b 0)
def cO (f g : Fun) (a b k : Nat) : List (List Int) :=
  (coll a fun a => coll g.obs.length fun b => (cH f g a b).map fun h => [(a : Int), (b : Int), h]) ++ (coll b fun b => (cH f g a b).map fun h => [(a : Int), (b : Int), h]) ++ ((cH f g a b).take k).map fun h => [(a : Int), (b : Int), h]
def cObj (f g : Fun) : List (List Int) := cO f g f.obs.length 0 0
theorem cO_zero (f g : Fun) : cO f g 0 0 0 = [] := by simp [cO, coll]
theorem cO_k {f g : Fun} {a b k : Nat} (h : k < (cH f g a b).length) : cO f g a b (k + 1) = cO f g a b k ++ [[(a : Int), (b : Int), (cH f g a b).getD k 0]] := by
  unfold cO
  have e : (cH f g a b).getD k 0 = (cH f g a b)[k] := by simp [List.getD_eq_getElem?_getD, h]
  rw [List.take_succ_eq_append_getElem h, List.map_append, e]
  simp only [List.append_assoc]; rfl
theorem cO_b {f g : Fun} {a b k : Nat} (h : (cH f g a b).length ≤ k) : cO f g a (b + 1) 0 = cO f g a b k := by
  unfold cO
  rw [List.take_of_length_le h, coll_succ, List.take_zero]
  simp only [List.append_assoc, List.map_nil, List.append_nil]
theorem cO_a {f g : Fun} {a : Nat} : cO f g (a + 1) 0 0 = cO f g a g.obs.length 0 := by
  unfold cO
  rw [coll_succ, List.take_zero, List.take_zero, coll_zero]
  simp only [List.append_assoc, List.map_nil, List.append_nil]
theorem cH_len (f g : Fun) (a b : Nat) : (cH f g a b).length ≤ f.tgt.fr.length := Cat.hom_len _ _ _
theorem cO_len (f g : Fun) (a b k n : Nat) (hn : f.tgt.fr.length ≤ n) : (cO f g a b k).length ≤ a * (g.obs.length * n) + b * n + n := by
  unfold cO
  have hc : ∀ a b, ((cH f g a b).map fun h => [(a : Int), (b : Int), h]).length ≤ n := fun a b => by
    rw [List.length_map]; exact Nat.le_trans (cH_len f g a b) hn
  have h1 := coll_length_le (n := a) (k := g.obs.length * n) (f := fun a => coll g.obs.length fun b => (cH f g a b).map fun h => [(a : Int), (b : Int), h]) fun i _ => coll_length_le fun j _ => hc i j
  have h2 := coll_length_le (n := b) (k := n) (f := fun b => (cH f g a b).map fun h => [(a : Int), (b : Int), h]) fun j _ => hc a j
  have h3 : (((cH f g a b).take k).map fun h => [(a : Int), (b : Int), h]).length ≤ n := by
    rw [List.length_map, List.length_take]; have := cH_len f g a b; omega
  simp only [List.length_append]
  omega
def colN (l : List (List Int)) (k n : Nat) : List Int := (l.take n).map fun r => r.getD k 0
theorem colN_zero (l : List (List Int)) (k : Nat) : colN l k 0 = [] := rfl
theorem colN_succ {l : List (List Int)} {k n : Nat} (h : n < l.length) : colN l k (n + 1) = colN l k n ++ [(l.getD n []).getD k 0] := by
  unfold colN
  have e : l.getD n [] = l[n] := by simp [List.getD_eq_getElem?_getD, h]
  rw [List.take_succ_eq_append_getElem h, List.map_append, e]; rfl
theorem colN_len (l : List (List Int)) (k n : Nat) : (colN l k n).length = min n l.length := by simp [colN]
end Go.Cats
end
section
namespace Go.Cats
abbrev rw' (O : List (List Int)) (p k : Nat) : Int := (O.getD p []).getD k 0
def cU (f : Fun) (k : Nat) (O : List (List Int)) (s t : Nat) : List Int := f.src.hom (rw' O s k) (rw' O t k)
def cC (f e : Fun) (O : List (List Int)) (s t : Nat) (u v : Int) : Prop := f.tgt.C (f.A u) (rw' O t 2) = f.tgt.C (rw' O s 2) (e.A v)
open Classical in
noncomputable def cE (f e : Fun) (O : List (List Int)) (s t i j : Nat) : List (List Int) :=
  if cC f e O s t ((cU f 0 O s t).getD i 0) ((cU e 1 O s t).getD j 0) then [[(s : Int), (t : Int), (cU f 0 O s t).getD i 0, (cU e 1 O s t).getD j 0]] else []
noncomputable def cRow (f e : Fun) (O : List (List Int)) (s t i : Nat) : List (List Int) := coll (cU e 1 O s t).length fun j => cE f e O s t i j
noncomputable def cCell (f e : Fun) (O : List (List Int)) (s t : Nat) : List (List Int) := coll (cU f 0 O s t).length fun i => cRow f e O s t i
noncomputable def cA (f e : Fun) (O : List (List Int)) (s t i j : Nat) : List (List Int) :=
  (coll s fun s => coll O.length fun t => cCell f e O s t) ++ (coll t fun t => cCell f e O s t) ++ (coll i fun i => cRow f e O s t i) ++ (coll j fun j => cE f e O s t i j)
noncomputable def cArr (f e : Fun) (O : List (List Int)) : List (List Int) := cA f e O O.length 0 0 0
variable {f e : Fun} {O : List (List Int)} {s t i j : Nat}
theorem cA_zero : cA f e O 0 0 0 0 = [] := by simp [cA, coll]
theorem cA_t (h : cC f e O s t ((cU f 0 O s t).getD i 0) ((cU e 1 O s t).getD j 0)) : cA f e O s t i (j + 1) = cA f e O s t i j ++ [[(s : Int), (t : Int), (cU f 0 O s t).getD i 0, (cU e 1 O s t).getD j 0]] := by
  unfold cA
  rw [coll_succ, cE, if_pos h]
  simp only [List.append_assoc]
theorem cA_f (h : ¬ cC f e O s t ((cU f 0 O s t).getD i 0) ((cU e 1 O s t).getD j 0)) : cA f e O s t i (j + 1) = cA f e O s t i j := by
  unfold cA
  rw [coll_succ, cE, if_neg h, List.append_nil]
theorem cA_i (h : j = (cU e 1 O s t).length) : cA f e O s t (i + 1) 0 = cA f e O s t i j := by
  unfold cA
  rw [coll_succ, coll_zero, h]
  simp only [List.append_assoc, List.append_nil]; rfl
theorem cA_tt (h : i = (cU f 0 O s t).length) : cA f e O s (t + 1) 0 0 = cA f e O s t i 0 := by
  unfold cA
  rw [coll_succ, coll_zero, coll_zero, coll_zero, h]
  simp only [List.append_assoc, List.append_nil]; rfl
theorem cA_s (h : t = O.length) : cA f e O (s + 1) 0 0 0 = cA f e O s t 0 0 := by
  unfold cA
  rw [coll_succ, coll_zero, coll_zero, coll_zero, coll_zero, coll_zero, h]
  simp only [List.append_assoc, List.append_nil]
theorem cE_len (f e : Fun) (O : List (List Int)) (s t i j : Nat) : (cE f e O s t i j).length ≤ 1 := by unfold cE; split <;> simp
theorem cU_len (f : Fun) (k : Nat) (O : List (List Int)) (s t : Nat) : (cU f k O s t).length ≤ f.src.fr.length := Cat.hom_len _ _ _
theorem cRow_len (f e : Fun) (O : List (List Int)) (s t i : Nat) (h : e.src.fr.length ≤ 40) : (cRow f e O s t i).length ≤ 40 := by
  have := coll_length_le (n := (cU e 1 O s t).length) (k := 1) (f := fun j => cE f e O s t i j) fun j _ => cE_len ..
  have := cU_len e 1 O s t
  unfold cRow; omega
theorem cCell_len (f e : Fun) (O : List (List Int)) (s t : Nat) (h1 : f.src.fr.length ≤ 40) (h : e.src.fr.length ≤ 40) : (cCell f e O s t).length ≤ 1600 := by
  have := coll_length_le (n := (cU f 0 O s t).length) (k := 40) (f := fun i => cRow f e O s t i) fun i _ => cRow_len f e O s t i h
  have := cU_len f 0 O s t
  unfold cCell; omega
theorem cA_len (h1 : f.src.fr.length ≤ 40) (h : e.src.fr.length ≤ 40) (hO : O.length ≤ 8) : (cA f e O s t i j).length ≤ s * 12800 + t * 1600 + i * 40 + j := by
  have a1 := coll_length_le (n := s) (k := 12800) (f := fun s => coll O.length fun t => cCell f e O s t) fun s _ => by
    have := coll_length_le (n := O.length) (k := 1600) (f := fun t => cCell f e O s t) fun t _ => cCell_len f e O s t h1 h
    omega
  have a2 := coll_length_le (n := t) (k := 1600) (f := fun t => cCell f e O s t) fun t _ => cCell_len f e O s t h1 h
  have a3 := coll_length_le (n := i) (k := 40) (f := fun i => cRow f e O s t i) fun i _ => cRow_len f e O s t i h
  have a4 := coll_length_le (n := j) (k := 1) (f := fun j => cE f e O s t i j) fun j _ => cE_len ..
  unfold cA
  simp only [List.length_append]
  omega
structure ObjR (f e : Fun) (r : List Int) : Prop where
  len : r.length = 3
  lo : 0 ≤ r.getD 0 0
  lh : r.getD 0 0 < f.src.ob
  ro : 0 ≤ r.getD 1 0
  rh : r.getD 1 0 < e.src.ob
  ao : 0 ≤ r.getD 2 0
  ah : r.getD 2 0 < f.tgt.fr.length
  frm : f.tgt.F (r.getD 2 0) = f.O (r.getD 0 0)
  to : f.tgt.T (r.getD 2 0) = e.O (r.getD 1 0)
def ObjOK (f e : Fun) (O : List (List Int)) : Prop := ∀ p, p < O.length → ObjR f e (O.getD p [])
theorem mem_cU {k : Nat} {u : Int} : u ∈ cU f k O s t ↔ 0 ≤ u ∧ u < f.src.fr.length ∧ f.src.F u = rw' O s k ∧ f.src.T u = rw' O t k := Cat.mem_hom
theorem cU_at {k i : Nat} (h : i < (cU f k O s t).length) : 0 ≤ (cU f k O s t).getD i 0 ∧ (cU f k O s t).getD i 0 < f.src.fr.length ∧ f.src.F ((cU f k O s t).getD i 0) = rw' O s k ∧ f.src.T ((cU f k O s t).getD i 0) = rw' O t k := by
  refine mem_cU.1 ?_
  rw [List.getD_eq_getElem?_getD, List.getElem?_eq_getElem h, Option.getD_some]
  exact List.getElem_mem h
theorem cObj_ok (hf : IsFun f) (he : IsFun e) (hT : f.tgt = e.tgt) : ObjOK f e (cObj f e) := fun p hp => by
  have h1 : (cObj f e).getD p [] ∈ cObj f e := by
    rw [List.getD_eq_getElem?_getD, List.getElem?_eq_getElem hp, Option.getD_some]
    exact List.getElem_mem hp
  generalize (cObj f e).getD p [] = r at h1
  unfold cObj cO at h1
  simp only [coll_zero, List.take_zero, List.map_nil, List.append_nil, List.mem_append, mem_coll, List.mem_map, List.not_mem_nil, or_false] at h1
  obtain ⟨a, ha, b, hb, h, hh, rfl⟩ := h1
  have h2 := Cat.mem_hom.1 hh
  have f1 := hf.fits.obl
  have e1 := he.fits.obl
  refine ⟨rfl, ?_, ?_, ?_, ?_, ?_, ?_, ?_, ?_⟩ <;> simp <;> (first | omega | simpa using h2.2.2.1 | simpa using h2.2.2.2)
def fndO (l : List (List Int)) (r : List Int) (i : Nat) : Option Int := if l.getD i [] = r then some (i : Int) else none
def fnd (l : List (List Int)) (r : List Int) : Int := (scan l.length (fndO l r)).getD (-1)
theorem fndO_f {l : List (List Int)} {r : List Int} {i : Nat} (h : ¬ l.getD i [] = r) : fndO l r i = none := if_neg h
theorem fnd_hit {l : List (List Int)} {r : List Int} {i : Nat} (h : scan i (fndO l r) = none) (hi : i < l.length) (e : l.getD i [] = r) : fnd l r = i := by
  unfold fnd
  rw [scan_hit hi h (show fndO l r i = some (i : Int) from if_pos e)]; rfl
theorem fnd_none {l : List (List Int)} {r : List Int} (h : scan l.length (fndO l r) = none) : fnd l r = -1 := by unfold fnd; rw [h]; rfl
end Go.Cats
end
section
namespace Go.Cats
def tb {α : Type} (n : Nat) (F : Nat → α) : List α := (List.range n).map F
theorem tb_zero {α : Type} (F : Nat → α) : tb 0 F = [] := rfl
theorem tb_succ {α : Type} (n : Nat) (F : Nat → α) : tb (n + 1) F = tb n F ++ [F n] := by simp [tb, List.range_succ]
theorem tb_len {α : Type} (n : Nat) (F : Nat → α) : (tb n F).length = n := by simp [tb]
theorem tb_at {α : Type} (n : Nat) (F : Nat → α) (d : α) {i : Nat} (h : i < n) : (tb n F).getD i d = F i := by simp [tb, h]
def bId (A : List (List Int)) (a b : Cat) (L R : List Int) (x : Nat) : Int := fnd A [(x : Int), (x : Int), a.id.getD (L.getD x 0).toNat 0, b.id.getD (R.getD x 0).toNat 0]
def bKey (A : List (List Int)) (a b : Cat) (i j : Nat) : List Int := [rw' A i 0, rw' A j 1, a.C (rw' A i 2) (rw' A j 2), b.C (rw' A i 3) (rw' A j 3)]
def bEnt (A : List (List Int)) (a b : Cat) (i j : Nat) : Int := if rw' A i 1 = rw' A j 0 then fnd A (bKey A a b i j) else -1
def bCat (N : Nat) (A : List (List Int)) (a b : Cat) (L R : List Int) (k : Nat) : Cat :=
  ⟨N, colN A 0 A.length, colN A 1 A.length, tb N (bId A a b L R), tb k fun i => tb A.length (bEnt A a b i)⟩
theorem bEnt_t {A : List (List Int)} {a b : Cat} {i j : Nat} (h : rw' A i 1 = rw' A j 0) : bEnt A a b i j = fnd A (bKey A a b i j) := if_pos h
theorem bEnt_f {A : List (List Int)} {a b : Cat} {i j : Nat} (h : ¬ rw' A i 1 = rw' A j 0) : bEnt A a b i j = -1 := if_neg h
structure ArrR (a b : Cat) (r : List Int) : Prop where
  len : r.length = 4
  ul : 0 ≤ r.getD 2 0
  uh : r.getD 2 0 < a.fr.length
  vl : 0 ≤ r.getD 3 0
  vh : r.getD 3 0 < b.fr.length
def ArrOK (a b : Cat) (A : List (List Int)) : Prop := ∀ i, i < A.length → ArrR a b (A.getD i [])
theorem memL_getD {l : List (List Int)} {i : Nat} (h : i < l.length) : l.getD i [] ∈ l := by
  rw [List.getD_eq_getElem?_getD, List.getElem?_eq_getElem h, Option.getD_some]; exact List.getElem_mem h
theorem mem_getI {l : List Int} {i : Nat} (h : i < l.length) : l.getD i 0 ∈ l := by
  rw [List.getD_eq_getElem?_getD, List.getElem?_eq_getElem h, Option.getD_some]; exact List.getElem_mem h
theorem colN_at {l : List (List Int)} {k n i : Nat} (h : i < n) (hn : n ≤ l.length) : (colN l k n).getD i 0 = (l.getD i []).getD k 0 := by
  have hi : i < l.length := by omega
  unfold colN
  simp only [List.getD_eq_getElem?_getD, List.getElem?_map, List.getElem?_take_of_lt h, List.getElem?_eq_getElem hi, Option.map_some, Option.getD_some]
theorem mem_cArr {f e : Fun} {O : List (List Int)} {r : List Int} : r ∈ cArr f e O ↔ ∃ s t u v, s < O.length ∧ t < O.length ∧ u ∈ cU f 0 O s t ∧ v ∈ cU e 1 O s t ∧ cC f e O s t u v ∧ r = [(s : Int), (t : Int), u, v] := by
  unfold cArr cA cCell cRow
  simp only [coll_zero, List.append_nil, mem_coll]
  constructor
  · rintro ⟨s, hs, t, ht, i, hi, j, hj, h⟩
    unfold cE at h
    split at h
    · next hc => exact ⟨s, t, _, _, hs, ht, mem_getI hi, mem_getI hj, hc, by simpa using h⟩
    · simp at h
  · rintro ⟨s, t, u, v, hs, ht, hu, hv, hc, rfl⟩
    obtain ⟨i, hi, rfl⟩ := List.getElem_of_mem hu
    obtain ⟨j, hj, rfl⟩ := List.getElem_of_mem hv
    have e1 : (cU f 0 O s t).getD i 0 = (cU f 0 O s t)[i] := by simp [List.getD_eq_getElem?_getD, hi]
    have e2 : (cU e 1 O s t).getD j 0 = (cU e 1 O s t)[j] := by simp [List.getD_eq_getElem?_getD, hj]
    refine ⟨s, hs, t, ht, i, hi, j, hj, ?_⟩
    unfold cE
    rw [e1, e2, if_pos hc]
    simp
theorem cArr_ok (f e : Fun) (O : List (List Int)) : ArrOK f.src e.src (cArr f e O) := fun i hi => by
  obtain ⟨s, t, u, v, _, _, hu, hv, _, h⟩ := mem_cArr.1 (memL_getD hi)
  rw [h]
  have h1 := mem_cU.1 hu
  have h2 := mem_cU.1 hv
  exact ⟨rfl, h1.1, h1.2.1, h2.1, h2.2.1⟩
theorem cArr_len {f e : Fun} {O : List (List Int)} (h1 : f.src.fr.length ≤ 40) (h : e.src.fr.length ≤ 40) (hO : O.length ≤ 8) : (cArr f e O).length ≤ 102400 := by
  have := cA_len (s := O.length) (t := 0) (i := 0) (j := 0) h1 h hO
  unfold cArr; omega
theorem col_lo {f e : Fun} {O : List (List Int)} (h : ObjOK f e O) : Within (colN O 0 O.length) f.src.ob := fun i hi => by
  rw [colN_len] at hi
  rw [colN_at (by omega) (by omega)]
  exact ⟨(h i (by omega)).lo, (h i (by omega)).lh⟩
theorem col_ro {f e : Fun} {O : List (List Int)} (h : ObjOK f e O) : Within (colN O 1 O.length) e.src.ob := fun i hi => by
  rw [colN_len] at hi
  rw [colN_at (by omega) (by omega)]
  exact ⟨(h i (by omega)).ro, (h i (by omega)).rh⟩
noncomputable def cmA (f e : Fun) : List (List Int) := cArr f e (cObj f e)
noncomputable def cmC (f e : Fun) (k : Nat) : Cat := bCat (cObj f e).length (cmA f e) f.src e.src (colN (cObj f e) 0 (cObj f e).length) (colN (cObj f e) 1 (cObj f e).length) k
end Go.Cats
end
section
namespace Go.Cats
theorem coll_mono {α : Type} {n m : Nat} {f : Nat → List α} (h : n ≤ m) : (coll n f).length ≤ (coll m f).length := by
  induction m with
  | zero => rw [show n = 0 by omega]; exact Nat.le_refl _
  | succ m ih =>
    by_cases e : n = m + 1
    · subst e; exact Nat.le_refl _
    · rw [coll_succ, List.length_append]; have := ih (by omega); omega
variable {f e : Fun} {O : List (List Int)} {s t i j : Nat}
theorem cA_le1 (h : j ≤ (cU e 1 O s t).length) : (cA f e O s t i j).length ≤ (cA f e O s t (i + 1) 0).length := by
  rw [cA_i (f := f) (e := e) (O := O) (s := s) (t := t) (i := i) rfl]
  unfold cA
  simp only [List.length_append]
  have := coll_mono (f := fun j => cE f e O s t i j) h
  omega
theorem cA_le2 (h : i ≤ (cU f 0 O s t).length) : (cA f e O s t i 0).length ≤ (cA f e O s (t + 1) 0 0).length := by
  rw [cA_tt (f := f) (e := e) (O := O) (s := s) (t := t) rfl]
  unfold cA
  simp only [List.length_append, coll_zero, List.length_nil]
  have := coll_mono (f := fun i => cRow f e O s t i) h
  omega
theorem cA_le3 (h : t ≤ O.length) : (cA f e O s t 0 0).length ≤ (cA f e O (s + 1) 0 0 0).length := by
  rw [cA_s (f := f) (e := e) (O := O) (s := s) rfl]
  unfold cA
  simp only [List.length_append, coll_zero, List.length_nil]
  have := coll_mono (f := fun t => cCell f e O s t) h
  omega
theorem cA_le4 (h : s ≤ O.length) : (cA f e O s 0 0 0).length ≤ (cArr f e O).length := by
  unfold cArr cA
  simp only [List.length_append, coll_zero, List.length_nil]
  have := coll_mono (f := fun s => coll O.length fun t => cCell f e O s t) h
  omega
theorem cA_cell (hi : i < (cU f 0 O s t).length) (hj : j ≤ (cU e 1 O s t).length) : (cA f e O s t i j).length ≤ (cA f e O s (t + 1) 0 0).length :=
  Nat.le_trans (cA_le1 hj) (cA_le2 (by omega))
theorem cA_all (hs : s < O.length) (ht : t < O.length) : (cA f e O s (t + 1) 0 0).length ≤ (cArr f e O).length :=
  Nat.le_trans (cA_le3 (by omega)) (cA_le4 (by omega))
end Go.Cats
end
section
namespace Go.Cats
theorem coll_nodup {α : Type} {n : Nat} {f : Nat → List α} (h1 : ∀ i, i < n → (f i).Nodup) (h2 : ∀ i j x, i < n → j < n → x ∈ f i → x ∈ f j → i = j) : (coll n f).Nodup := by
  unfold coll List.Nodup
  rw [List.pairwise_flatMap]
  refine ⟨fun a ha => h1 a (List.mem_range.1 ha), ?_⟩
  refine List.Pairwise.imp_of_mem ?_ (List.pairwise_lt_range (n := n))
  intro a b ha hb hab x hx y hy e
  subst e
  have := h2 a b x (List.mem_range.1 ha) (List.mem_range.1 hb) hx hy
  omega
theorem Cat.hom_nodup (c : Cat) (x y : Int) : (c.hom x y).Nodup := by
  unfold Cat.hom Cat.homI
  refine coll_nodup (fun i _ => by split <;> simp) fun i j z _ _ hi hj => ?_
  split at hi
  · split at hj
    · simp at hi hj; omega
    · simp at hj
  · simp at hi
theorem nodup_get {l : List Int} (h : l.Nodup) {i j : Nat} (hi : i < l.length) (hj : j < l.length) (e : l.getD i 0 = l.getD j 0) : i = j := by
  rw [List.getD_eq_getElem?_getD, List.getD_eq_getElem?_getD, List.getElem?_eq_getElem hi, List.getElem?_eq_getElem hj, Option.getD_some, Option.getD_some] at e
  unfold List.Nodup at h
  rw [List.pairwise_iff_getElem] at h
  rcases Nat.lt_trichotomy i j with hl | hl | hl
  · exact absurd e (h i j hi hj hl)
  · exact hl
  · exact absurd e.symm (h j i hj hi hl)
variable {f e : Fun} {O : List (List Int)} {s t i j : Nat}
theorem mem_cE {x : List Int} (h : x ∈ cE f e O s t i j) : x = [(s : Int), (t : Int), (cU f 0 O s t).getD i 0, (cU e 1 O s t).getD j 0] := by
  unfold cE at h
  split at h
  · simpa using h
  · simp at h
theorem mem_cRow {x : List Int} (h : x ∈ cRow f e O s t i) : ∃ j, j < (cU e 1 O s t).length ∧ x = [(s : Int), (t : Int), (cU f 0 O s t).getD i 0, (cU e 1 O s t).getD j 0] := by
  unfold cRow at h
  obtain ⟨j, hj, hx⟩ := mem_coll.1 h
  exact ⟨j, hj, mem_cE hx⟩
theorem mem_cCell {x : List Int} (h : x ∈ cCell f e O s t) : x.getD 0 0 = s ∧ x.getD 1 0 = t := by
  unfold cCell at h
  obtain ⟨i, _, hx⟩ := mem_coll.1 h
  obtain ⟨j, _, rfl⟩ := mem_cRow hx
  exact ⟨rfl, rfl⟩
theorem cArr_nodup (f e : Fun) (O : List (List Int)) : (cArr f e O).Nodup := by
  unfold cArr cA
  simp only [coll_zero, List.append_nil]
  refine coll_nodup (fun s _ => coll_nodup (fun t _ => coll_nodup (fun i hi => coll_nodup (fun j hj => ?_) ?_) ?_) ?_) ?_
  · unfold cE; split <;> simp
  · intro j j' x hj hj' hx hx'
    have := (mem_cE hx).symm.trans (mem_cE hx')
    simp only [List.cons.injEq, and_true, true_and] at this
    exact nodup_get (Cat.hom_nodup _ _ _) hj hj' this
  · intro i i' x hi hi' hx hx'
    obtain ⟨j, _, e1⟩ := mem_cRow hx
    obtain ⟨j', _, e2⟩ := mem_cRow hx'
    have := e1.symm.trans e2
    simp only [List.cons.injEq, and_true, true_and] at this
    exact nodup_get (Cat.hom_nodup _ _ _) hi hi' this.1
  · intro t t' x _ _ hx hx'
    have h1 := (mem_cCell hx).2
    have h2 := (mem_cCell hx').2
    omega
  · intro s s' x _ _ hx hx'
    obtain ⟨t, _, hx⟩ := mem_coll.1 hx
    obtain ⟨t', _, hx'⟩ := mem_coll.1 hx'
    have h1 := (mem_cCell hx).1
    have h2 := (mem_cCell hx').1
    omega
theorem fnd_mem {l : List (List Int)} {r : List Int} (h : r ∈ l) : ∃ i : Nat, i < l.length ∧ l.getD i [] = r ∧ fnd l r = i := by
  cases hs : scan l.length (fndO l r) with
  | none =>
    exfalso
    obtain ⟨i, hi, rfl⟩ := List.getElem_of_mem h
    have := scan_none.1 hs i hi
    unfold fndO at this
    rw [if_pos (by rw [List.getD_eq_getElem?_getD, List.getElem?_eq_getElem hi]; rfl)] at this
    cases this
  | some x =>
    obtain ⟨i, hi, k⟩ := scan_some hs
    unfold fndO at k
    split at k
    · rename_i e
      cases k
      exact ⟨i, hi, e, by unfold fnd; rw [hs]; rfl⟩
    · cases k
/-! ### Identities and composites -/
theorem IsCat.unlI {c : Cat} (h : IsCat c) {f : Int} (h0 : 0 ≤ f) (h1 : f < c.fr.length) : c.C (c.I (c.F f)) f = f := by
  have := h.unl f.toNat (by omega)
  rwa [Int.toNat_of_nonneg h0] at this
theorem IsCat.unrI {c : Cat} (h : IsCat c) {f : Int} (h0 : 0 ≤ f) (h1 : f < c.fr.length) : c.C f (c.I (c.T f)) = f := by
  have := h.unr f.toNat (by omega)
  rwa [Int.toNat_of_nonneg h0] at this
theorem IsCat.assI {c : Cat} (k : IsCat c) {f g h : Int} (f0 : 0 ≤ f) (f1 : f < c.fr.length) (g0 : 0 ≤ g) (g1 : g < c.fr.length) (h0 : 0 ≤ h) (h1 : h < c.fr.length) (e1 : c.T f = c.F g) (e2 : c.T g = c.F h) : c.C (c.C f g) h = c.C f (c.C g h) := by
  have := k.ass f.toNat g.toNat h.toNat (by omega) (by omega) (by omega)
  rw [Int.toNat_of_nonneg f0, Int.toNat_of_nonneg g0, Int.toNat_of_nonneg h0] at this
  exact this e1 e2
theorem IsCat.compI {c : Cat} (k : IsCat c) {f g : Int} (f0 : 0 ≤ f) (f1 : f < c.fr.length) (g0 : 0 ≤ g) (g1 : g < c.fr.length) (e1 : c.T f = c.F g) : 0 ≤ c.C f g ∧ c.C f g < c.fr.length ∧ c.F (c.C f g) = c.F f ∧ c.T (c.C f g) = c.T g := by
  have h := (k.coe f.toNat (by omega)).2 g.toNat (by omega)
  unfold Cat.Entry at h
  rw [Int.toNat_of_nonneg f0, Int.toNat_of_nonneg g0] at h
  rcases h with ⟨_, h2, h3, h4⟩ | ⟨h2, _⟩
  · exact ⟨h2.1, h2.2, h3, h4⟩
  · exact absurd e1 h2
theorem IsCat.idI {c : Cat} (k : IsCat c) {x : Int} (h0 : 0 ≤ x) (h1 : x < c.ob) : 0 ≤ c.I x ∧ c.I x < c.fr.length ∧ c.F (c.I x) = x ∧ c.T (c.I x) = x := by
  have hl := k.idl
  have h2 := k.idw x.toNat (by omega)
  have h3 := k.ide x.toNat (by omega)
  rw [Int.toNat_of_nonneg h0] at h3
  exact ⟨h2.1, h2.2, h3.1, h3.2⟩
theorem IsFun.arI {f : Fun} (k : IsFun f) {a : Int} (h0 : 0 ≤ a) (h1 : a < f.src.fr.length) : 0 ≤ f.A a ∧ f.A a < f.tgt.fr.length ∧ f.tgt.F (f.A a) = f.O (f.src.F a) ∧ f.tgt.T (f.A a) = f.O (f.src.T a) := by
  have hl := k.fits.arl
  have h2 := k.fits.arw a.toNat (by omega)
  have h3 := k.fits.endf a.toNat (by omega)
  have e1 : f.src.F (a.toNat : Int) = f.src.F a := by rw [Int.toNat_of_nonneg h0]
  have e2 : f.src.T (a.toNat : Int) = f.src.T a := by rw [Int.toNat_of_nonneg h0]
  rw [e1, e2] at h3
  exact ⟨h2.1, h2.2, h3.1, h3.2⟩
theorem IsFun.unI {f : Fun} (k : IsFun f) {x : Int} (h0 : 0 ≤ x) (h1 : x < f.src.ob) : f.A (f.src.I x) = f.tgt.I (f.O x) := by
  have hl := k.src.idl
  have := k.fits.unit x.toNat (by omega)
  rwa [Int.toNat_of_nonneg h0] at this
theorem IsFun.coI {f : Fun} (k : IsFun f) {a b : Int} (a0 : 0 ≤ a) (a1 : a < f.src.fr.length) (b0 : 0 ≤ b) (b1 : b < f.src.fr.length) (e : f.src.T a = f.src.F b) : f.A (f.src.C a b) = f.tgt.C (f.A a) (f.A b) := by
  have h := k.fits.comp a.toNat b.toNat (by omega) (by omega)
  rw [Int.toNat_of_nonneg a0, Int.toNat_of_nonneg b0] at h
  exact h (k.src.compI a0 a1 b0 b1 e).1
theorem cArr_id (hf : IsFun f) (he : IsFun e) (hT : f.tgt = e.tgt) (hO : ObjOK f e O) {p : Nat} (hp : p < O.length) : [(p : Int), (p : Int), f.src.I (rw' O p 0), e.src.I (rw' O p 1)] ∈ cArr f e O := by
  obtain ⟨_, l0, l1, r0, r1, a0, a1, hF, hTo⟩ := hO p hp
  obtain ⟨u1, u2, u3, u4⟩ := hf.src.idI l0 l1
  obtain ⟨v1, v2, v3, v4⟩ := he.src.idI r0 r1
  refine mem_cArr.2 ⟨p, p, _, _, hp, hp, mem_cU.2 ⟨u1, u2, u3, u4⟩, mem_cU.2 ⟨v1, v2, v3, v4⟩, ?_, rfl⟩
  unfold cC
  rw [hf.unI l0 l1, he.unI r0 r1, ← hT]
  show f.tgt.C (f.tgt.I (f.O ((O.getD p []).getD 0 0))) ((O.getD p []).getD 2 0) = f.tgt.C ((O.getD p []).getD 2 0) (f.tgt.I (e.O ((O.getD p []).getD 1 0)))
  rw [← hF, ← hTo, hf.tgt.unlI a0 a1, hf.tgt.unrI a0 a1]
theorem cArr_comp (hf : IsFun f) (he : IsFun e) (hT : f.tgt = e.tgt) (hO : ObjOK f e O) {s t w : Nat} {u v u' v' : Int} (hs : s < O.length) (ht : t < O.length) (hw : w < O.length)
    (hu : u ∈ cU f 0 O s t) (hv : v ∈ cU e 1 O s t) (hc : cC f e O s t u v) (hu' : u' ∈ cU f 0 O t w) (hv' : v' ∈ cU e 1 O t w) (hc' : cC f e O t w u' v') :
    [(s : Int), (w : Int), f.src.C u u', e.src.C v v'] ∈ cArr f e O := by
  obtain ⟨u1, u2, u3, u4⟩ := mem_cU.1 hu
  obtain ⟨v1, v2, v3, v4⟩ := mem_cU.1 hv
  obtain ⟨x1, x2, x3, x4⟩ := mem_cU.1 hu'
  obtain ⟨y1, y2, y3, y4⟩ := mem_cU.1 hv'
  have eu : f.src.T u = f.src.F u' := u4.trans x3.symm
  have ev : e.src.T v = e.src.F v' := v4.trans y3.symm
  obtain ⟨m1, m2, m3, m4⟩ := hf.src.compI u1 u2 x1 x2 eu
  obtain ⟨n1, n2, n3, n4⟩ := he.src.compI v1 v2 y1 y2 ev
  refine mem_cArr.2 ⟨s, w, _, _, hs, hw, mem_cU.2 ⟨m1, m2, m3.trans u3, m4.trans x4⟩, mem_cU.2 ⟨n1, n2, n3.trans v3, n4.trans y4⟩, ?_, rfl⟩
  obtain ⟨_, _, _, _, _, sa0, sa1, sF, sT⟩ := hO s hs
  obtain ⟨_, _, _, _, _, ta0, ta1, tF, tT⟩ := hO t ht
  obtain ⟨_, _, _, _, _, wa0, wa1, wF, wT⟩ := hO w hw
  obtain ⟨fu0, fu1, fuF, fuT⟩ := hf.arI u1 u2
  obtain ⟨fx0, fx1, fxF, fxT⟩ := hf.arI x1 x2
  obtain ⟨ev0, ev1, evF, evT⟩ := he.arI v1 v2
  obtain ⟨ey0, ey1, eyF, eyT⟩ := he.arI y1 y2
  rw [← hT] at ev1 evF evT ey1 eyF eyT
  rw [u3] at fuF; rw [u4] at fuT; rw [x3] at fxF; rw [x4] at fxT
  rw [v3] at evF; rw [v4] at evT; rw [y3] at eyF; rw [y4] at eyT
  unfold cC at hc hc' ⊢
  rw [hf.coI u1 u2 x1 x2 eu, he.coI v1 v2 y1 y2 ev, ← hT]
  rw [hf.tgt.assI fu0 fu1 fx0 fx1 wa0 wa1 (fuT.trans fxF.symm) (fxT.trans wF.symm), hc']
  rw [← hf.tgt.assI fu0 fu1 ta0 ta1 ey0 ey1 (fuT.trans tF.symm) (tT.trans eyF.symm), hc]
  rw [hf.tgt.assI sa0 sa1 ev0 ev1 ey0 ey1 (sT.trans evF.symm) (evT.trans eyF.symm)]
end Go.Cats
end
section
namespace Go.Cats
structure XOK (c d : Cat) (b : Bool) (X : List Int) : Prop where
  len : (X.length : Int) = c.ob
  wi : Within X d.ob
  nd : b = true → NdI X
structure NX (c d : Cat) (b : Bool) (X A : List Int) : Prop where
  va : VA c d X A
  clo : ∀ a, a < c.fr.length → ∀ b, b < c.fr.length → Clo c d A a b
  nd : b = true → NdI A
  un : ∀ x : Nat, x < c.id.length → A.getD (c.id.getD x 0).toNat 0 = d.id.getD (X.getD x 0).toNat 0
abbrev sA (c d : Cat) : List Nat := List.replicate c.fr.length d.fr.length
section
variable {c d : Cat} {b : Bool} {X A Q L : List Int} {i k : Nat} {v : Int} {W : List Int → Bool} {S : List Nat}
structure TryN (c d : Cat) (b : Bool) (X A : List Int) (E : List (List Int)) (t : Bool × List Int) : Prop where
  va : VA c d X t.2
  ext : XtL A t.2
  yes : t.1 = true → NX c d b X t.2 ∧ E = extW (WA c d b X) (sA c d) t.2
  no : t.1 = false → E = []
end
end Go.Cats
end
section
namespace Go.Cats
section
variable {c d : Cat} {b : Bool} {X A Q L : List Int} {i k : Nat} {v : Int}
end
end Go.Cats
end
section
namespace Go.Cats
def lessL : List Int → List Int → Bool
  | [], [] => false
  | [], _ :: _ => true
  | _ :: _, [] => false
  | a :: A, b :: B => if a = b then lessL A B else decide (a < b)
section
variable {S R L : List (List Int)} {x : List Int} {k : Nat}
end
end Go.Cats
end
section
namespace Go.Cats
structure IsoQ (c d : Cat) (O Q : List Int) : Prop where
  hc : IsCat c
  hd : IsCat d
  fit : Fits ⟨c, d, O, Q⟩
  no : NdI O
  nq : NdI Q
  ob : c.ob = d.ob
  ar : c.fr.length = d.fr.length
section
variable {c d : Cat} {O Q A B cc dd : List Int} {f g : Nat}
theorem fnd_at {L : List (List Int)} (h : L.Nodup) {i : Nat} (hi : i < L.length) : fnd L (L.getD i []) = i := by
  obtain ⟨j, h1, h2, h3⟩ := fnd_mem (getD_mem (d := []) hi)
  rw [h3]
  have : j = i := by
    rw [List.getD_eq_getElem?_getD, List.getD_eq_getElem?_getD, List.getElem?_eq_getElem h1, List.getElem?_eq_getElem hi, Option.getD_some, Option.getD_some] at h2
    unfold List.Nodup at h
    rw [List.pairwise_iff_getElem] at h
    rcases Nat.lt_trichotomy j i with q | q | q
    · exact absurd h2 (h j i h1 hi q)
    · exact q
    · exact absurd h2.symm (h i j hi h1 q)
  omega
end
end Go.Cats
end
section
namespace Go.Cats
structure TabOK (n : Nat) (A : List (List Int)) (U : Nat → List Int) (cp : List Int → List Int → List Int) : Prop where
  n8 : n ≤ 8
  a40 : A.length ≤ 40
  nd : A.Nodup
  e0 : ∀ r ∈ A, 0 ≤ r.getD 0 0 ∧ r.getD 0 0 < n
  e1 : ∀ r ∈ A, 0 ≤ r.getD 1 0 ∧ r.getD 1 0 < n
  um : ∀ i, i < n → U i ∈ A ∧ (U i).getD 0 0 = i ∧ (U i).getD 1 0 = i
  cm : ∀ r ∈ A, ∀ s ∈ A, r.getD 1 0 = s.getD 0 0 → cp r s ∈ A ∧ (cp r s).getD 0 0 = r.getD 0 0 ∧ (cp r s).getD 1 0 = s.getD 1 0
  ul : ∀ r ∈ A, cp (U (r.getD 0 0).toNat) r = r
  ur : ∀ r ∈ A, cp r (U (r.getD 1 0).toNat) = r
  as : ∀ r ∈ A, ∀ s ∈ A, ∀ q ∈ A, r.getD 1 0 = s.getD 0 0 → s.getD 1 0 = q.getD 0 0 → cp (cp r s) q = cp r (cp s q)
def tabR (A : List (List Int)) (cp : List Int → List Int → List Int) (a n : Nat) : List Int := (List.range n).map fun b => if (A.getD a []).getD 1 0 = (A.getD b []).getD 0 0 then fnd A (cp (A.getD a []) (A.getD b [])) else -1
def tabC (n : Nat) (A : List (List Int)) (U : Nat → List Int) (cp : List Int → List Int → List Int) : Cat :=
  ⟨n, A.map fun r => r.getD 0 0, A.map fun r => r.getD 1 0, (List.range n).map fun i => fnd A (U i), (List.range A.length).map fun a => tabR A cp a A.length⟩
section
variable {n : Nat} {A : List (List Int)} {U : Nat → List Int} {cp : List Int → List Int → List Int} {a b i : Nat}
theorem rowsMap_at {f : List Int → Int} (h : a < A.length) : (A.map f).getD a 0 = f (A.getD a []) := by
  rw [List.getD_eq_getElem?_getD, List.getElem?_map, List.getElem?_eq_getElem h, List.getD_eq_getElem?_getD (l := A), List.getElem?_eq_getElem h]; rfl
theorem tab_fr (h : a < A.length) : (tabC n A U cp).fr.getD a 0 = (A.getD a []).getD 0 0 := rowsMap_at (f := fun r => r.getD 0 0) h
theorem tab_to (h : a < A.length) : (tabC n A U cp).to.getD a 0 = (A.getD a []).getD 1 0 := rowsMap_at (f := fun r => r.getD 1 0) h
theorem tab_m : (tabC n A U cp).fr.length = A.length := by show (A.map _).length = _; rw [List.length_map]
theorem tab_id (h : i < n) : (tabC n A U cp).id.getD i 0 = fnd A (U i) := by
  show ((List.range n).map _).getD i 0 = _
  rw [List.getD_eq_getElem?_getD, List.getElem?_map, List.getElem?_range h]; rfl
theorem tab_row (h : a < A.length) : (tabC n A U cp).co.getD a [] = tabR A cp a A.length := by
  show ((List.range A.length).map _).getD a [] = _
  rw [List.getD_eq_getElem?_getD, List.getElem?_map, List.getElem?_range h]; rfl
theorem tab_C (ha : a < A.length) (hb : b < A.length) : (tabC n A U cp).C a b = if (A.getD a []).getD 1 0 = (A.getD b []).getD 0 0 then fnd A (cp (A.getD a []) (A.getD b [])) else -1 := by
  show ((tabC n A U cp).co.getD (a : Int).toNat []).getD (b : Int).toNat 0 = _
  rw [Int.toNat_natCast, Int.toNat_natCast, tab_row ha]
  unfold tabR
  rw [List.getD_eq_getElem?_getD, List.getElem?_map, List.getElem?_range hb]; rfl
theorem TabOK.mem (ha : a < A.length) : A.getD a [] ∈ A := getD_mem ha
theorem TabOK.C (h : TabOK n A U cp) (ha : a < A.length) (hb : b < A.length) (e : (A.getD a []).getD 1 0 = (A.getD b []).getD 0 0) : ∃ k : Nat, k < A.length ∧ A.getD k [] = cp (A.getD a []) (A.getD b []) ∧ (tabC n A U cp).C a b = k := by
  have hm := (h.cm _ (TabOK.mem ha) _ (TabOK.mem hb) e).1
  obtain ⟨k, h1, h2, h3⟩ := fnd_mem hm
  exact ⟨k, h1, h2, by rw [tab_C ha hb, if_pos e, h3]⟩
theorem TabOK.I (h : TabOK n A U cp) (hi : i < n) : ∃ k : Nat, k < A.length ∧ A.getD k [] = U i ∧ (tabC n A U cp).id.getD i 0 = k := by
  obtain ⟨k, h1, h2, h3⟩ := fnd_mem (h.um i hi).1
  exact ⟨k, h1, h2, by rw [tab_id hi, h3]⟩
theorem TabOK.inj (h : TabOK n A U cp) (ha : a < A.length) (hb : b < A.length) (e : A.getD a [] = A.getD b []) : a = b := by
  have h1 := fnd_at h.nd ha
  have h2 := fnd_at h.nd hb
  rw [e, h2] at h1
  omega
theorem tab_F (ha : a < A.length) : (tabC n A U cp).F (a : Int) = (A.getD a []).getD 0 0 := by
  show (tabC n A U cp).fr.getD (a : Int).toNat 0 = _
  rw [Int.toNat_natCast, tab_fr ha]
theorem tab_T (ha : a < A.length) : (tabC n A U cp).T (a : Int) = (A.getD a []).getD 1 0 := by
  show (tabC n A U cp).to.getD (a : Int).toNat 0 = _
  rw [Int.toNat_natCast, tab_to ha]
theorem TabOK.shape (h : TabOK n A U cp) : Shape (tabC n A U cp) := by
  have hm := tab_m (n := n) (A := A) (U := U) (cp := cp)
  refine ⟨Int.natCast_nonneg n, ?_, by rw [hm]; exact h.a40, ?_, fun a ha => ?_, fun a ha => ?_, ?_, fun i hi => ?_, ?_, fun i hi => ?_, fun a ha => ⟨?_, fun b hb => ?_⟩⟩
  · show (n : Int) ≤ 8; have := h.n8; omega
  · show (A.map _).length = (A.map _).length; rw [List.length_map, List.length_map]
  · rw [hm] at ha; rw [tab_fr ha]; exact h.e0 _ (TabOK.mem ha)
  · have ha : a < A.length := by have e : (tabC n A U cp).to.length = A.length := by show (A.map _).length = _; rw [List.length_map]
                                 exact e ▸ ha
    rw [tab_to ha]; exact h.e1 _ (TabOK.mem ha)
  · show (((List.range n).map _).length : Int) = n; rw [List.length_map, List.length_range]
  · have hi : i < n := by have e : (tabC n A U cp).id.length = n := by show ((List.range n).map _).length = _; rw [List.length_map, List.length_range]
                          exact e ▸ hi
    obtain ⟨k, k1, k2, k3⟩ := h.I hi
    rw [k3, hm]; omega
  · show ((List.range A.length).map _).length = (A.map _).length; rw [List.length_map, List.length_range, List.length_map]
  · have hi : i < n := by have e : (tabC n A U cp).id.length = n := by show ((List.range n).map _).length = _; rw [List.length_map, List.length_range]
                          exact e ▸ hi
    obtain ⟨k, k1, k2, k3⟩ := h.I hi
    rw [k3, tab_F k1, tab_T k1, k2]
    exact (h.um i hi).2
  · rw [hm] at ha ⊢
    rw [tab_row ha]; unfold tabR; rw [List.length_map, List.length_range]
  · rw [hm] at ha hb
    unfold Cat.Entry
    rw [tab_to ha, tab_fr hb, tab_fr ha, tab_to hb, hm]
    by_cases e : (A.getD a []).getD 1 0 = (A.getD b []).getD 0 0
    · obtain ⟨k, k1, k2, k3⟩ := h.C ha hb e
      have hc := (h.cm _ (TabOK.mem ha) _ (TabOK.mem hb) e).2
      refine .inl ⟨e, by rw [k3]; omega, ?_, ?_⟩
      · rw [k3, tab_F k1, k2]; exact hc.1
      · rw [k3, tab_T k1, k2]; exact hc.2
    · exact .inr ⟨e, by rw [tab_C ha hb, if_neg e]⟩
theorem TabOK.cat (h : TabOK n A U cp) : IsCat (tabC n A U cp) := by
  have hm := tab_m (n := n) (A := A) (U := U) (cp := cp)
  refine ⟨h.shape, fun f hf => ?_, fun f hf => ?_, fun f g q hf hg hq e1 e2 => ?_⟩
  · rw [hm] at hf
    have he := h.e0 _ (TabOK.mem hf)
    rw [tab_F hf]
    obtain ⟨k, k1, k2, k3⟩ := h.I (i := ((A.getD f []).getD 0 0).toNat) (by omega)
    have hI : (tabC n A U cp).I ((A.getD f []).getD 0 0) = k := k3
    have hu := (h.um ((A.getD f []).getD 0 0).toNat (by omega)).2.2
    rw [hI]
    obtain ⟨j, j1, j2, j3⟩ := h.C k1 hf (by rw [k2, hu]; omega)
    rw [j3]
    rw [k2, h.ul _ (TabOK.mem hf)] at j2
    rw [h.inj j1 hf j2]
  · rw [hm] at hf
    have he := h.e1 _ (TabOK.mem hf)
    rw [tab_T hf]
    obtain ⟨k, k1, k2, k3⟩ := h.I (i := ((A.getD f []).getD 1 0).toNat) (by omega)
    have hI : (tabC n A U cp).I ((A.getD f []).getD 1 0) = k := k3
    have hu := (h.um ((A.getD f []).getD 1 0).toNat (by omega)).2.1
    rw [hI]
    obtain ⟨j, j1, j2, j3⟩ := h.C hf k1 (by rw [k2, hu]; omega)
    rw [j3]
    rw [k2, h.ur _ (TabOK.mem hf)] at j2
    rw [h.inj j1 hf j2]
  · rw [hm] at hf hg hq
    rw [tab_T hf, tab_F hg] at e1
    rw [tab_T hg, tab_F hq] at e2
    obtain ⟨j, j1, j2, j3⟩ := h.C hf hg e1
    obtain ⟨k, k1, k2, k3⟩ := h.C hg hq e2
    have c1 := (h.cm _ (TabOK.mem hf) _ (TabOK.mem hg) e1).2
    have c2 := (h.cm _ (TabOK.mem hg) _ (TabOK.mem hq) e2).2
    rw [j3, k3]
    obtain ⟨x, x1, x2, x3⟩ := h.C j1 hq (by rw [j2, c1.2]; exact e2)
    obtain ⟨y, y1, y2, y3⟩ := h.C hf k1 (by rw [k2, c2.1]; exact e1)
    rw [x3, y3, h.inj x1 y1 (by rw [x2, y2, j2, k2]; exact h.as _ (TabOK.mem hf) _ (TabOK.mem hg) _ (TabOK.mem hq) e1 e2)]
end
end Go.Cats
end
section
namespace Go.Cats
def mE (R : List (List Int)) (i j : Nat) : Int := (R.getD i []).getD j 0
def poRow (R : List (List Int)) (i : Nat) : Nat → List (List Int)
  | 0 => []
  | k + 1 => if mE R i k = 1 then poRow R i k ++ [[(i : Int), (k : Int)]] else poRow R i k
def poA (R : List (List Int)) (n : Nat) : Nat → List (List Int)
  | 0 => []
  | i + 1 => poA R n i ++ poRow R i n
structure PoOK (R : List (List Int)) (n : Nat) : Prop where
  n6 : n ≤ 6
  rf : ∀ i, i < n → mE R i i = 1
  tr : ∀ i j k, i < n → j < n → k < n → mE R i j = 1 → mE R j k = 1 → mE R i k = 1
def poU (i : Nat) : List Int := [(i : Int), (i : Int)]
def poP (r s : List Int) : List Int := [r.getD 0 0, s.getD 1 0]
def poC (R : List (List Int)) (n : Nat) : Cat := tabC n (poA R n n) poU poP
def poN (R : List (List Int)) (n i k : Nat) : Int := (((poA R n i).length + (poRow R i k).length : Nat) : Int)
section
variable {R : List (List Int)} {n m i j k : Nat} {x : List Int}
theorem poRow_yes (h : mE R i k = 1) : poRow R i (k + 1) = poRow R i k ++ [[(i : Int), (k : Int)]] := by rw [poRow, if_pos h]
theorem poRow_no (h : ¬ mE R i k = 1) : poRow R i (k + 1) = poRow R i k := by rw [poRow, if_neg h]
theorem poRow_le : ∀ k, (poRow R i k).length ≤ k
  | 0 => Nat.le_refl 0
  | k + 1 => by
    have := poRow_le k
    unfold poRow
    split
    · rw [List.length_append]; simp; omega
    · omega
theorem poA_le : ∀ m, (poA R n m).length ≤ m * n
  | 0 => by simp [poA]
  | m + 1 => by
    have h1 := poA_le m
    have h2 := poRow_le (R := R) (i := m) n
    unfold poA
    rw [List.length_append, Nat.succ_mul]
    omega
theorem mem_poRow : ∀ k, x ∈ poRow R i k ↔ ∃ j, j < k ∧ mE R i j = 1 ∧ x = [(i : Int), (j : Int)]
  | 0 => by simp [poRow]
  | k + 1 => by
    have ih := mem_poRow k
    by_cases h : mE R i k = 1
    · rw [poRow_yes h, List.mem_append, ih, List.mem_singleton]
      constructor
      · rintro (⟨j, h1, h2, h3⟩ | h1)
        · exact ⟨j, by omega, h2, h3⟩
        · exact ⟨k, by omega, h, h1⟩
      · rintro ⟨j, h1, h2, h3⟩
        rcases Nat.lt_or_ge j k with hj | hj
        · exact .inl ⟨j, hj, h2, h3⟩
        · exact .inr (by rw [h3, show j = k by omega])
    · rw [poRow_no h, ih]
      constructor
      · rintro ⟨j, h1, h2, h3⟩; exact ⟨j, by omega, h2, h3⟩
      · rintro ⟨j, h1, h2, h3⟩
        rcases Nat.lt_or_ge j k with hj | hj
        · exact ⟨j, hj, h2, h3⟩
        · exact absurd h2 (by rw [show j = k by omega]; exact h)
theorem mem_poA : ∀ m, x ∈ poA R n m ↔ ∃ i j, i < m ∧ j < n ∧ mE R i j = 1 ∧ x = [(i : Int), (j : Int)]
  | 0 => by simp [poA]
  | m + 1 => by
    have ih := mem_poA m
    rw [poA, List.mem_append, ih, mem_poRow]
    constructor
    · rintro (⟨i, j, h1, h2⟩ | ⟨j, h1, h2⟩)
      · exact ⟨i, j, by omega, h2⟩
      · exact ⟨m, j, by omega, h1, h2⟩
    · rintro ⟨i, j, h1, h2, h3⟩
      rcases Nat.lt_or_ge i m with hi | hi
      · exact .inl ⟨i, j, hi, h2, h3⟩
      · exact .inr ⟨j, h2, by rw [← show i = m by omega]; exact h3⟩
theorem poRow_nd : ∀ k, (poRow R i k).Nodup
  | 0 => List.nodup_nil
  | k + 1 => by
    have ih := poRow_nd k
    by_cases h : mE R i k = 1
    · rw [poRow_yes h, List.nodup_append]
      refine ⟨ih, by simp, fun a ha b hb e => ?_⟩
      rw [List.mem_singleton] at hb
      subst e hb
      obtain ⟨j, h1, _, h3⟩ := (mem_poRow k).1 ha
      simp at h3; omega
    · rw [poRow_no h]; exact ih
theorem poA_nd : ∀ m, (poA R n m).Nodup
  | 0 => List.nodup_nil
  | m + 1 => by
    rw [poA, List.nodup_append]
    refine ⟨poA_nd m, poRow_nd n, fun a ha b hb e => ?_⟩
    subst e
    obtain ⟨i, j, h1, _, _, h3⟩ := (mem_poA m).1 ha
    obtain ⟨j', _, _, h4⟩ := (mem_poRow n).1 hb
    rw [h3] at h4
    simp at h4; omega
theorem poRow_pre : ∀ k, j < k → mE R i j = 1 → ∃ r, poRow R i k = poRow R i j ++ [[(i : Int), (j : Int)]] ++ r
  | 0, h, _ => absurd h (Nat.not_lt_zero j)
  | k + 1, h, hj => by
    rcases Nat.lt_or_ge j k with h1 | h1
    · obtain ⟨r, e⟩ := poRow_pre k h1 hj
      by_cases hk : mE R i k = 1
      · exact ⟨r ++ [[(i : Int), (k : Int)]], by rw [poRow_yes hk, e, List.append_assoc]⟩
      · exact ⟨r, by rw [poRow_no hk, e]⟩
    · obtain rfl : j = k := by omega
      exact ⟨[], by rw [poRow_yes hj, List.append_nil]⟩
theorem poA_pre : ∀ m, i < m → ∃ r, poA R n m = poA R n i ++ poRow R i n ++ r
  | 0, h => absurd h (Nat.not_lt_zero i)
  | m + 1, h => by
    rcases Nat.lt_or_ge i m with h1 | h1
    · obtain ⟨r, e⟩ := poA_pre m h1
      exact ⟨r ++ poRow R m n, by rw [poA, e, List.append_assoc]⟩
    · obtain rfl : i = m := by omega
      exact ⟨[], by rw [poA, List.append_nil]⟩
theorem poN_fnd (hi : i < n) (hj : j < n) (h : mE R i j = 1) : fnd (poA R n n) [(i : Int), (j : Int)] = poN R n i j := by
  obtain ⟨r, e1⟩ := poA_pre n hi
  obtain ⟨q, e2⟩ := poRow_pre n hj h
  have e : poA R n n = (poA R n i ++ poRow R i j) ++ [(i : Int), (j : Int)] :: (q ++ r) := by rw [e1, e2]; simp
  have hl : (poA R n i ++ poRow R i j).length < (poA R n n).length := by rw [e, List.length_append]; simp
  have h1 := fnd_at (poA_nd (R := R) (n := n) n) hl
  have h2 : (poA R n n).getD (poA R n i ++ poRow R i j).length [] = [(i : Int), (j : Int)] := by
    rw [List.getD_eq_getElem?_getD, e, List.getElem?_append_right (Nat.le_refl _), Nat.sub_self]; rfl
  rw [h2] at h1
  rw [h1, List.length_append]; rfl
theorem PoOK.tab (h : PoOK R n) : TabOK n (poA R n n) poU poP := by
  have h6 := h.n6
  have hl := poA_le (R := R) (n := n) n
  have hnn : n * n ≤ 6 * 6 := Nat.mul_le_mul h6 h6
  refine ⟨by omega, by omega, poA_nd n, fun r hr => ?_, fun r hr => ?_, fun i hi => ⟨?_, rfl, rfl⟩, fun r hr s hs e => ?_, fun r hr => ?_, fun r hr => ?_, fun r hr s hs q hq e1 e2 => rfl⟩
  · obtain ⟨i, j, h1, h2, h3, rfl⟩ := (mem_poA n).1 hr
    show (0 : Int) ≤ i ∧ (i : Int) < n; omega
  · obtain ⟨i, j, h1, h2, h3, rfl⟩ := (mem_poA n).1 hr
    show (0 : Int) ≤ j ∧ (j : Int) < n; omega
  · exact (mem_poA n).2 ⟨i, i, hi, hi, h.rf i hi, rfl⟩
  · obtain ⟨i, j, h1, h2, h3, rfl⟩ := (mem_poA n).1 hr
    obtain ⟨i', k, h4, h5, h7, rfl⟩ := (mem_poA n).1 hs
    have e' : (j : Int) = i' := e
    obtain rfl : j = i' := by omega
    exact ⟨(mem_poA n).2 ⟨i, k, h1, h5, h.tr i j k h1 h2 h5 h3 h7, rfl⟩, rfl, rfl⟩
  · obtain ⟨i, j, h1, h2, h3, rfl⟩ := (mem_poA n).1 hr
    show [(((i : Int).toNat : Nat) : Int), (j : Int)] = _
    rw [Int.toNat_natCast]
  · obtain ⟨i, j, h1, h2, h3, rfl⟩ := (mem_poA n).1 hr
    show [(i : Int), (((j : Int).toNat : Nat) : Int)] = _
    rw [Int.toNat_natCast]
theorem PoOK.cat (h : PoOK R n) : IsCat (poC R n) := h.tab.cat
theorem PoOK.len (h : PoOK R n) : (poA R n n).length ≤ 36 := by
  have hl := poA_le (R := R) (n := n) n
  have hnn : n * n ≤ 6 * 6 := Nat.mul_le_mul h.n6 h.n6
  omega
end
end Go.Cats
end
section
namespace Go.Cats
def shI (m : Nat) (h : Int) : Int := if 0 ≤ h then h + m else h
def smC (c d : Cat) : Cat := ⟨c.ob + d.ob, c.fr ++ d.fr.map (· + c.ob), c.to ++ d.to.map (· + c.ob), c.id ++ d.id.map (· + (c.fr.length : Int)),
  c.co.map (fun r => r ++ List.replicate d.fr.length (-1)) ++ d.co.map (fun r => List.replicate c.fr.length (-1) ++ r.map (shI c.fr.length))⟩
section
variable {c d : Cat} {x y : Int}
theorem app_l {l k : List Int} (h0 : 0 ≤ x) (h1 : x < l.length) : (l ++ k).getD x.toNat 0 = l.getD x.toNat 0 := by
  rw [List.getD_eq_getElem?_getD, List.getElem?_append_left (by omega), ← List.getD_eq_getElem?_getD]
theorem app_r {l k : List Int} {g : Int → Int} (h0 : 0 ≤ y) (h1 : y < k.length) : (l ++ k.map g).getD ((l.length : Int) + y).toNat 0 = g (k.getD y.toNat 0) := by
  have e : ((l.length : Int) + y).toNat = l.length + y.toNat := by omega
  rw [e, List.getD_eq_getElem?_getD, List.getElem?_append_right (by omega), Nat.add_sub_cancel_left, List.getElem?_map, List.getElem?_eq_getElem (by omega), List.getD_eq_getElem?_getD, List.getElem?_eq_getElem (by omega)]
  rfl
theorem rep_at {n k : Nat} (h : k < n) : (List.replicate n (-1 : Int)).getD k 0 = -1 := by
  rw [List.getD_eq_getElem?_getD, List.getElem?_replicate, if_pos h]; rfl
theorem sm_m : (smC c d).fr.length = c.fr.length + d.fr.length := by unfold smC; rw [List.length_append, List.length_map]
theorem sm_F0 (h0 : 0 ≤ x) (h1 : x < c.fr.length) : (smC c d).F x = c.F x := app_l h0 h1
theorem sm_F1 (h0 : 0 ≤ y) (h1 : y < d.fr.length) : (smC c d).F ((c.fr.length : Int) + y) = d.F y + c.ob := app_r (g := (· + c.ob)) h0 h1
theorem sm_T0 (sc : Shape c) (h0 : 0 ≤ x) (h1 : x < c.fr.length) : (smC c d).T x = c.T x := app_l h0 (by rw [sc.tol]; exact h1)
theorem sm_T1 (sc : Shape c) (sd : Shape d) (h0 : 0 ≤ y) (h1 : y < d.fr.length) : (smC c d).T ((c.fr.length : Int) + y) = d.T y + c.ob := by
  have := app_r (l := c.to) (k := d.to) (g := (· + c.ob)) h0 (by rw [sd.tol]; exact h1)
  rw [sc.tol] at this
  exact this
theorem sm_I0 (sc : Shape c) (h0 : 0 ≤ x) (h1 : x < c.ob) : (smC c d).I x = c.I x := app_l h0 (by rw [sc.idl]; exact h1)
theorem sm_I1 (sc : Shape c) (sd : Shape d) (h0 : 0 ≤ y) (h1 : y < d.ob) : (smC c d).I (c.ob + y) = d.I y + c.fr.length := by
  have := app_r (l := c.id) (k := d.id) (g := (· + (c.fr.length : Int))) h0 (by rw [sd.idl]; exact h1)
  rw [sc.idl] at this
  exact this
theorem sm_r0 (sc : Shape c) (h0 : 0 ≤ x) (h1 : x < c.fr.length) : (smC c d).co.getD x.toNat [] = c.co.getD x.toNat [] ++ List.replicate d.fr.length (-1) := by
  have hl : x.toNat < c.co.length := by rw [sc.col]; omega
  unfold smC
  rw [List.getD_eq_getElem?_getD, List.getElem?_append_left (by rw [List.length_map]; exact hl), List.getElem?_map, List.getElem?_eq_getElem hl, List.getD_eq_getElem?_getD, List.getElem?_eq_getElem hl]; rfl
theorem sm_r1 (sc : Shape c) (sd : Shape d) (h0 : 0 ≤ y) (h1 : y < d.fr.length) : (smC c d).co.getD ((c.fr.length : Int) + y).toNat [] = List.replicate c.fr.length (-1) ++ (d.co.getD y.toNat []).map (shI c.fr.length) := by
  have hl : y.toNat < d.co.length := by rw [sd.col]; omega
  have e : ((c.fr.length : Int) + y).toNat = c.fr.length + y.toNat := by omega
  unfold smC
  rw [e, List.getD_eq_getElem?_getD, List.getElem?_append_right (by rw [List.length_map, sc.col]; omega), List.length_map, sc.col, Nat.add_sub_cancel_left, List.getElem?_map, List.getElem?_eq_getElem hl, List.getD_eq_getElem?_getD, List.getElem?_eq_getElem hl]; rfl
theorem sm_C00 (sc : Shape c) (h0 : 0 ≤ x) (h1 : x < c.fr.length) (k0 : 0 ≤ y) (k1 : y < c.fr.length) : (smC c d).C x y = c.C x y := by
  have h := (sc.coe x.toNat (by omega)).1
  show (((smC c d).co.getD x.toNat []).getD y.toNat 0) = _
  rw [sm_r0 sc h0 h1]
  exact app_l k0 (by rw [h]; exact k1)
theorem sm_C01 (sc : Shape c) (h0 : 0 ≤ x) (h1 : x < c.fr.length) (k0 : 0 ≤ y) (k1 : y < d.fr.length) : (smC c d).C x ((c.fr.length : Int) + y) = -1 := by
  have h := (sc.coe x.toNat (by omega)).1
  show (((smC c d).co.getD x.toNat []).getD _ 0) = _
  have e : ((c.fr.length : Int) + y).toNat = c.fr.length + y.toNat := by omega
  rw [sm_r0 sc h0 h1, e, List.getD_eq_getElem?_getD, List.getElem?_append_right (by omega), h, Nat.add_sub_cancel_left, ← List.getD_eq_getElem?_getD, rep_at (by omega)]
theorem sm_C10 (sc : Shape c) (sd : Shape d) (h0 : 0 ≤ x) (h1 : x < d.fr.length) (k0 : 0 ≤ y) (k1 : y < c.fr.length) : (smC c d).C ((c.fr.length : Int) + x) y = -1 := by
  show (((smC c d).co.getD _ []).getD y.toNat 0) = _
  rw [sm_r1 sc sd h0 h1, List.getD_eq_getElem?_getD, List.getElem?_append_left (by rw [List.length_replicate]; omega), ← List.getD_eq_getElem?_getD, rep_at (by omega)]
theorem sm_C11 (sc : Shape c) (sd : Shape d) (h0 : 0 ≤ x) (h1 : x < d.fr.length) (k0 : 0 ≤ y) (k1 : y < d.fr.length) : (smC c d).C ((c.fr.length : Int) + x) ((c.fr.length : Int) + y) = shI c.fr.length (d.C x y) := by
  have h := (sd.coe x.toNat (by omega)).1
  show (((smC c d).co.getD _ []).getD _ 0) = _
  rw [sm_r1 sc sd h0 h1]
  have := app_r (y := y) (l := List.replicate c.fr.length (-1)) (k := d.co.getD x.toNat []) (g := shI c.fr.length) k0 (by rw [h]; exact k1)
  rw [List.length_replicate] at this
  exact this
theorem sm_split {f : Nat} (h : f < c.fr.length + d.fr.length) : (0 ≤ (f : Int) ∧ (f : Int) < c.fr.length) ∨ ∃ y : Int, 0 ≤ y ∧ y < d.fr.length ∧ (f : Int) = (c.fr.length : Int) + y := by
  rcases Nat.lt_or_ge f c.fr.length with h1 | h1
  · exact .inl ⟨by omega, by omega⟩
  · exact .inr ⟨(f : Int) - c.fr.length, by omega, by omega, by omega⟩
theorem smC_cat (hc : IsCat c) (hd : IsCat d) (h8 : c.ob + d.ob ≤ 8) (h40 : c.fr.length + d.fr.length ≤ 40) : IsCat (smC c d) := by
  have sc := hc.toShape
  have sd := hd.toShape
  have e1 := sc.idl
  have e2 := sd.idl
  have o1 := sc.ob0
  have o2 := sd.ob0
  have cF : ∀ z : Int, 0 ≤ z → z < c.fr.length → 0 ≤ c.F z ∧ c.F z < c.ob := fun z h0 h1 => sc.frw z.toNat (by omega)
  have cT : ∀ z : Int, 0 ≤ z → z < c.fr.length → 0 ≤ c.T z ∧ c.T z < c.ob := fun z h0 h1 => sc.tow z.toNat (by rw [sc.tol]; omega)
  have dF : ∀ z : Int, 0 ≤ z → z < d.fr.length → 0 ≤ d.F z ∧ d.F z < d.ob := fun z h0 h1 => sd.frw z.toNat (by omega)
  have dT : ∀ z : Int, 0 ≤ z → z < d.fr.length → 0 ≤ d.T z ∧ d.T z < d.ob := fun z h0 h1 => sd.tow z.toNat (by rw [sd.tol]; omega)
  have hid : (smC c d).id.length = c.id.length + d.id.length := by unfold smC; rw [List.length_append, List.length_map]
  have hto : (smC c d).to.length = c.fr.length + d.fr.length := by unfold smC; rw [List.length_append, List.length_map, sc.tol, sd.tol]
  have sI : ∀ i : Nat, i < (smC c d).id.length → (0 ≤ (i : Int) ∧ (i : Int) < c.ob) ∨ ∃ y : Int, 0 ≤ y ∧ y < d.ob ∧ (i : Int) = c.ob + y := fun i hi => by
    rw [hid] at hi
    rcases Nat.lt_or_ge i c.id.length with h1 | h1
    · exact .inl ⟨by omega, by omega⟩
    · exact .inr ⟨(i : Int) - c.ob, by omega, by omega, by omega⟩
  have shp : Shape (smC c d) := by
    refine ⟨by show 0 ≤ c.ob + d.ob; omega, h8, by rw [sm_m]; exact h40, by rw [sm_m, hto], fun f hf => ?_, fun f hf => ?_, ?_, fun i hi => ?_, ?_, fun i hi => ?_, fun f hf => ⟨?_, fun g hg => ?_⟩⟩
    · rw [sm_m] at hf
      show 0 ≤ (smC c d).F (f : Int) ∧ (smC c d).F (f : Int) < c.ob + d.ob
      rcases sm_split hf with ⟨h0, h1⟩ | ⟨y, h0, h1, e⟩
      · rw [sm_F0 h0 h1]; have := cF _ h0 h1; omega
      · rw [e, sm_F1 h0 h1]; have := dF _ h0 h1; omega
    · rw [hto] at hf
      show 0 ≤ (smC c d).T (f : Int) ∧ (smC c d).T (f : Int) < c.ob + d.ob
      rcases sm_split hf with ⟨h0, h1⟩ | ⟨y, h0, h1, e⟩
      · rw [sm_T0 sc h0 h1]; have := cT _ h0 h1; omega
      · rw [e, sm_T1 sc sd h0 h1]; have := dT _ h0 h1; omega
    · rw [hid]; show _ = c.ob + d.ob; omega
    · show 0 ≤ (smC c d).I (i : Int) ∧ (smC c d).I (i : Int) < _
      rw [sm_m]
      rcases sI i hi with ⟨h0, h1⟩ | ⟨y, h0, h1, e⟩
      · rw [sm_I0 sc h0 h1]; have := hc.idI h0 h1; omega
      · rw [e, sm_I1 sc sd h0 h1]; have := hd.idI h0 h1; omega
    · rw [sm_m]
      unfold smC
      rw [List.length_append, List.length_map, List.length_map, sc.col, sd.col]
    · show (smC c d).F ((smC c d).I (i : Int)) = i ∧ (smC c d).T ((smC c d).I (i : Int)) = i
      rcases sI i hi with ⟨h0, h1⟩ | ⟨y, h0, h1, e⟩
      · obtain ⟨a1, a2, a3, a4⟩ := hc.idI h0 h1
        rw [sm_I0 sc h0 h1, sm_F0 a1 a2, sm_T0 sc a1 a2]; exact ⟨a3, a4⟩
      · obtain ⟨a1, a2, a3, a4⟩ := hd.idI h0 h1
        rw [e, sm_I1 sc sd h0 h1, Int.add_comm (d.I y), sm_F1 a1 a2, sm_T1 sc sd a1 a2, a3, a4]; omega
    · rw [sm_m] at hf ⊢
      show ((smC c d).co.getD (f : Int).toNat []).length = _
      rcases sm_split hf with ⟨h0, h1⟩ | ⟨y, h0, h1, e⟩
      · have h := (sc.coe f (by omega)).1
        rw [sm_r0 sc h0 h1, List.length_append, List.length_replicate, Int.toNat_natCast, h]
      · have h := (sd.coe y.toNat (by omega)).1
        rw [e, sm_r1 sc sd h0 h1, List.length_append, List.length_replicate, List.length_map, h]
    · rw [sm_m] at hf hg
      show ((smC c d).T (f : Int) = (smC c d).F (g : Int) ∧ (0 ≤ (smC c d).C f g ∧ (smC c d).C f g < _) ∧ (smC c d).F ((smC c d).C f g) = (smC c d).F (f : Int) ∧ (smC c d).T ((smC c d).C f g) = (smC c d).T (g : Int)) ∨ ((smC c d).T (f : Int) ≠ (smC c d).F (g : Int) ∧ (smC c d).C f g = -1)
      rw [sm_m]
      rcases sm_split hf with ⟨h0, h1⟩ | ⟨y, h0, h1, e⟩
      · rcases sm_split hg with ⟨k0, k1⟩ | ⟨z, k0, k1, e'⟩
        · rw [sm_T0 sc h0 h1, sm_F0 k0 k1, sm_C00 sc h0 h1 k0 k1]
          by_cases h : c.T f = c.F g
          · obtain ⟨p1, p2, p3, p4⟩ := hc.compI h0 h1 k0 k1 h
            exact .inl ⟨h, ⟨p1, by omega⟩, by rw [sm_F0 p1 p2, sm_F0 h0 h1, p3], by rw [sm_T0 sc p1 p2, sm_T0 sc k0 k1, p4]⟩
          · rcases (sc.coe f (by omega)).2 g (by omega) with q | q
            · exact absurd q.1 h
            · exact .inr ⟨h, q.2⟩
        · rw [e', sm_T0 sc h0 h1, sm_F1 k0 k1, sm_C01 sc h0 h1 k0 k1]
          have := cT _ h0 h1
          have := dF _ k0 k1
          exact .inr ⟨by omega, rfl⟩
      · rcases sm_split hg with ⟨k0, k1⟩ | ⟨z, k0, k1, e'⟩
        · rw [e, sm_T1 sc sd h0 h1, sm_F0 k0 k1, sm_C10 sc sd h0 h1 k0 k1]
          have := dT _ h0 h1
          have := cF _ k0 k1
          exact .inr ⟨by omega, rfl⟩
        · rw [e, e', sm_T1 sc sd h0 h1, sm_F1 k0 k1, sm_C11 sc sd h0 h1 k0 k1]
          by_cases h : d.T y = d.F z
          · obtain ⟨p1, p2, p3, p4⟩ := hd.compI h0 h1 k0 k1 h
            have es : shI c.fr.length (d.C y z) = (c.fr.length : Int) + d.C y z := by unfold shI; rw [if_pos p1]; omega
            exact .inl ⟨by omega, by rw [es]; omega, by rw [es, sm_F1 p1 p2, sm_F1 h0 h1, p3], by rw [es, sm_T1 sc sd p1 p2, sm_T1 sc sd k0 k1, p4]⟩
          · have hn : d.C y z = -1 := by
              rcases (sd.coe y.toNat (by omega)).2 z.toNat (by omega) with q | q
              · exact absurd q.1 h
              · have := q.2
                rwa [Int.toNat_of_nonneg h0, Int.toNat_of_nonneg k0] at this
            exact .inr ⟨by omega, by rw [hn]; rfl⟩
  have comp1 : ∀ {y z : Int}, 0 ≤ y → y < d.fr.length → 0 ≤ z → z < d.fr.length → d.T y = d.F z → (smC c d).C ((c.fr.length : Int) + y) ((c.fr.length : Int) + z) = (c.fr.length : Int) + d.C y z := fun h0 h1 k0 k1 h => by
    have p1 := (hd.compI h0 h1 k0 k1 h).1
    rw [sm_C11 sc sd h0 h1 k0 k1]; unfold shI; rw [if_pos p1]; omega
  refine ⟨shp, fun f hf => ?_, fun f hf => ?_, fun f g q hf hg hq m1 m2 => ?_⟩
  · rw [sm_m] at hf
    rcases sm_split hf with ⟨h0, h1⟩ | ⟨y, h0, h1, e⟩
    · obtain ⟨a1, a2, a3, a4⟩ := hc.idI (cF _ h0 h1).1 (cF _ h0 h1).2
      rw [sm_F0 h0 h1, sm_I0 sc (cF _ h0 h1).1 (cF _ h0 h1).2, sm_C00 sc a1 a2 h0 h1, hc.unlI h0 h1]
    · obtain ⟨a1, a2, a3, a4⟩ := hd.idI (dF _ h0 h1).1 (dF _ h0 h1).2
      rw [e, sm_F1 h0 h1, Int.add_comm (d.F y), sm_I1 sc sd (dF _ h0 h1).1 (dF _ h0 h1).2, Int.add_comm (d.I _), comp1 a1 a2 h0 h1 a4, hd.unlI h0 h1]
  · rw [sm_m] at hf
    rcases sm_split hf with ⟨h0, h1⟩ | ⟨y, h0, h1, e⟩
    · obtain ⟨a1, a2, a3, a4⟩ := hc.idI (cT _ h0 h1).1 (cT _ h0 h1).2
      rw [sm_T0 sc h0 h1, sm_I0 sc (cT _ h0 h1).1 (cT _ h0 h1).2, sm_C00 sc h0 h1 a1 a2, hc.unrI h0 h1]
    · obtain ⟨a1, a2, a3, a4⟩ := hd.idI (dT _ h0 h1).1 (dT _ h0 h1).2
      rw [e, sm_T1 sc sd h0 h1, Int.add_comm (d.T y), sm_I1 sc sd (dT _ h0 h1).1 (dT _ h0 h1).2, Int.add_comm (d.I _), comp1 h0 h1 a1 a2 a3.symm, hd.unrI h0 h1]
  · rw [sm_m] at hf hg hq
    rcases sm_split hf with ⟨h0, h1⟩ | ⟨y, h0, h1, e⟩
    · rcases sm_split hg with ⟨k0, k1⟩ | ⟨z, k0, k1, e'⟩
      · rcases sm_split hq with ⟨l0, l1⟩ | ⟨u, l0, l1, e2⟩
        · rw [sm_T0 sc h0 h1, sm_F0 k0 k1] at m1
          rw [sm_T0 sc k0 k1, sm_F0 l0 l1] at m2
          obtain ⟨p1, p2, p3, p4⟩ := hc.compI h0 h1 k0 k1 m1
          obtain ⟨r1, r2, r3, r4⟩ := hc.compI k0 k1 l0 l1 m2
          rw [sm_C00 sc h0 h1 k0 k1, sm_C00 sc k0 k1 l0 l1, sm_C00 sc p1 p2 l0 l1, sm_C00 sc h0 h1 r1 r2, hc.assI h0 h1 k0 k1 l0 l1 m1 m2]
        · rw [e2, sm_T0 sc k0 k1, sm_F1 l0 l1] at m2
          have := cT _ k0 k1
          have := dF _ l0 l1
          omega
      · rw [e', sm_T0 sc h0 h1, sm_F1 k0 k1] at m1
        have := cT _ h0 h1
        have := dF _ k0 k1
        omega
    · rcases sm_split hg with ⟨k0, k1⟩ | ⟨z, k0, k1, e'⟩
      · rw [e, sm_T1 sc sd h0 h1, sm_F0 k0 k1] at m1
        have := dT _ h0 h1
        have := cF _ k0 k1
        omega
      · rcases sm_split hq with ⟨l0, l1⟩ | ⟨u, l0, l1, e2⟩
        · rw [e', sm_T1 sc sd k0 k1, sm_F0 l0 l1] at m2
          have := dT _ k0 k1
          have := cF _ l0 l1
          omega
        · rw [e, e', sm_T1 sc sd h0 h1, sm_F1 k0 k1] at m1
          rw [e', e2, sm_T1 sc sd k0 k1, sm_F1 l0 l1] at m2
          have n1 : d.T y = d.F z := by omega
          have n2 : d.T z = d.F u := by omega
          obtain ⟨p1, p2, p3, p4⟩ := hd.compI h0 h1 k0 k1 n1
          obtain ⟨r1, r2, r3, r4⟩ := hd.compI k0 k1 l0 l1 n2
          rw [e, e', e2, comp1 h0 h1 k0 k1 n1, comp1 k0 k1 l0 l1 n2, comp1 p1 p2 l0 l1 (p4.trans n2), comp1 h0 h1 r1 r2 (n1.trans r3.symm), hd.assI h0 h1 k0 k1 l0 l1 n1 n2]
end
end Go.Cats
end
section
namespace Go.Cats
instance (c : Cat) (f g : Nat) : Decidable (c.Entry f g) := by unfold Cat.Entry; infer_instance
def withB (l : List Int) (n : Int) : Bool := l.all fun x => decide (0 ≤ x) && decide (x < n)
def catB (c : Cat) : Bool :=
  decide (0 ≤ c.ob) && decide (c.ob ≤ 8) && decide (c.fr.length ≤ 40) && decide (c.to.length = c.fr.length) && decide ((c.id.length : Int) = c.ob) && decide (c.co.length = c.fr.length) &&
  withB c.fr c.ob && withB c.to c.ob && withB c.id c.fr.length &&
  ((List.range c.id.length).all fun x => decide (c.F (c.id.getD x 0) = x) && decide (c.T (c.id.getD x 0) = x)) &&
  ((List.range c.fr.length).all fun f => decide ((c.co.getD f []).length = c.fr.length) && (List.range c.fr.length).all fun g => decide (c.Entry f g)) &&
  ((List.range c.fr.length).all fun f => decide (c.C (c.I (c.F f)) f = f) && decide (c.C f (c.I (c.T f)) = f)) &&
  ((List.range c.fr.length).all fun f => (List.range c.fr.length).all fun g => !decide (c.T f = c.F g) || (List.range c.fr.length).all fun h => !decide (c.T g = c.F h) || decide (c.C (c.C f g) h = c.C f (c.C g h)))
theorem withB_ok {l : List Int} {n : Int} (h : withB l n = true) : Within l n := fun i hi => by
  have h1 := List.all_eq_true.1 h (l.getD i 0) (getD_mem hi)
  simp only [Bool.and_eq_true, decide_eq_true_eq] at h1
  exact h1
theorem catB_ok {c : Cat} (h : catB c = true) : IsCat c := by
  unfold catB at h
  simp only [Bool.and_eq_true, decide_eq_true_eq, List.all_eq_true, List.mem_range, Bool.or_eq_true, Bool.not_eq_true', decide_eq_false_iff_not] at h
  obtain ⟨⟨⟨⟨⟨⟨⟨⟨⟨⟨⟨⟨h1, h2⟩, h3⟩, h4⟩, h5⟩, h6⟩, h7⟩, h8⟩, h9⟩, h10⟩, h11⟩, h12⟩, h13⟩ := h
  refine ⟨⟨h1, h2, h3, h4, withB_ok h7, withB_ok h8, h5, withB_ok h9, h6, h10, h11⟩, fun f hf => (h12 f hf).1, fun f hf => (h12 f hf).2, fun f g q hf hg hq e1 e2 => ?_⟩
  rcases h13 f hf g hg with k | k
  · exact absurd e1 k
  · rcases k q hq with k | k
    · exact absurd e2 k
    · exact k
def moC (t : List (List Int)) : Cat := ⟨1, List.replicate t.length 0, List.replicate t.length 0, [0], t⟩
def moT : Nat → List (List Int)
  | 0 => [[0]]
  | 1 => [[0, 1], [1, 0]]
  | 2 => [[0, 1], [1, 1]]
  | 3 => [[0, 1, 2], [1, 2, 0], [2, 0, 1]]
  | 4 => [[0, 1, 2], [1, 1, 2], [2, 2, 2]]
  | 5 => [[0, 1, 2], [1, 1, 2], [2, 1, 2]]
  | 6 => [[0, 1, 2, 3], [1, 0, 2, 3], [2, 3, 2, 3], [3, 2, 2, 3]]
  | _ => [[0, 1, 2], [1, 2, 2], [2, 2, 2]]
def opR (c : Cat) (f k : Nat) : List Int := (List.range k).map fun g : Nat => c.C (g : Int) (f : Int)
def opC (c : Cat) : Cat := ⟨c.ob, c.to, c.fr, c.id, (List.range c.fr.length).map fun f => opR c f c.fr.length⟩
def jnF (n k : Nat) : List Int := (List.range k).map fun k => ((k / n : Nat) : Int)
def jnT (o : Int) (n k : Nat) : List Int := (List.range k).map fun k => o + ((k % n : Nat) : Int)
def jnE (s : Cat) (o p : Int) (fr to : List Int) (f g : Nat) : Int :=
  if to.getD f 0 ≠ fr.getD g 0 then -1 else if f < s.fr.length ∧ g < s.fr.length then s.C f g else (s.fr.length : Int) + fr.getD f 0 * p + to.getD g 0 - o
def jnW (s : Cat) (o p : Int) (fr to : List Int) (f k : Nat) : List Int := (List.range k).map (jnE s o p fr to f)
def jnC (c d : Cat) : Cat :=
  let fr := (smC c d).fr ++ jnF d.ob.toNat (c.ob.toNat * d.ob.toNat)
  let to := (smC c d).to ++ jnT c.ob d.ob.toNat (c.ob.toNat * d.ob.toNat)
  ⟨(smC c d).ob, fr, to, (smC c d).id, (List.range fr.length).map fun f => jnW (smC c d) c.ob d.ob fr to f fr.length⟩
def one1 : Cat := poC [[1]] 1
def splC : Cat := ⟨2, [0, 1, 0, 0, 1], [0, 1, 0, 1, 0], [0, 1], [[0, -1, 2, 3, -1], [-1, 1, -1, -1, 4], [2, -1, 2, 3, -1], [-1, 3, -1, -1, 2], [4, -1, 4, 1, -1]]⟩
theorem moT_cases (P : List (List Int) → Prop) (h : ∀ i, i < 8 → P (moT i)) (k : Nat) : P (moT k) := by
  rcases Nat.lt_or_ge k 8 with h1 | h1
  · exact h k h1
  · have e : moT k = moT 7 := by
      match k, h1 with
      | k + 8, _ => rfl
    rw [e]; exact h 7 (by decide)
theorem mo_cat (k : Nat) : IsCat (moC (moT k)) := moT_cases (fun t => IsCat (moC t)) (fun i hi => catB_ok (by
  have : ((List.range 8).all fun i => catB (moC (moT i))) = true := by decide +kernel
  exact List.all_eq_true.1 this i (List.mem_range.2 hi))) k
theorem jn_cat (k : Nat) : IsCat (jnC (moC (moT k)) one1) := moT_cases (fun t => IsCat (jnC (moC t) one1)) (fun i hi => catB_ok (by
  have : ((List.range 8).all fun i => catB (jnC (moC (moT i)) one1)) = true := by decide +kernel
  exact List.all_eq_true.1 this i (List.mem_range.2 hi))) k
theorem opjn_cat (k : Nat) : IsCat (opC (jnC (moC (moT k)) one1)) := moT_cases (fun t => IsCat (opC (jnC (moC t) one1))) (fun i hi => catB_ok (by
  have : ((List.range 8).all fun i => catB (opC (jnC (moC (moT i)) one1))) = true := by decide +kernel
  exact List.all_eq_true.1 this i (List.mem_range.2 hi))) k
theorem spl_cat : IsCat splC := catB_ok (by decide +kernel)
end Go.Cats
end
section
namespace Go.Cats
def wS (R : List (List Int)) (k i j : Nat) : List (List Int) := if mE R i k = 1 ∧ mE R k j = 1 then R.set i ((R.getD i []).set j 1) else R
def wJ (R : List (List Int)) (k i : Nat) : Nat → List (List Int)
  | 0 => R
  | j + 1 => wS (wJ R k i j) k i j
def wI (R : List (List Int)) (n k : Nat) : Nat → List (List Int)
  | 0 => R
  | i + 1 => wJ (wI R n k i) k i n
def wK (R : List (List Int)) (n : Nat) : Nat → List (List Int)
  | 0 => R
  | k + 1 => wI (wK R n k) n k n
def poB (R : List (List Int)) (n : Nat) : Bool :=
  decide (n ≤ 6) && ((List.range n).all fun i => decide (mE R i i = 1)) && ((List.range n).all fun i => (List.range n).all fun j => (List.range n).all fun k => !(decide (mE R i j = 1) && decide (mE R j k = 1)) || decide (mE R i k = 1))
theorem poB_ok {R : List (List Int)} {n : Nat} (h : poB R n = true) : PoOK R n := by
  unfold poB at h
  simp only [Bool.and_eq_true, decide_eq_true_eq, List.all_eq_true, List.mem_range, Bool.or_eq_true, Bool.not_eq_true', Bool.and_eq_false_iff, decide_eq_false_iff_not] at h
  obtain ⟨⟨h1, h2⟩, h3⟩ := h
  refine ⟨h1, h2, fun i j k hi hj hk a b => ?_⟩
  rcases h3 i hi j hj k hk with (q | q) | q
  · exact absurd a q
  · exact absurd b q
  · exact q
def RowOk (n i : Nat) (r : List Int) : Prop := r.length = n ∧ ∀ j, j < n → (j < i → r.getD j 0 = 0) ∧ (j = i → r.getD j 0 = 1) ∧ (i < j → r.getD j 0 = 0 ∨ r.getD j 0 = 1)
structure RelOk (n : Nat) (R : List (List Int)) : Prop where
  len : R.length = n
  row : ∀ i, i < n → RowOk n i (R.getD i [])
def rowsB (n i : Nat) : Nat → List (List Int)
  | 0 => [[]]
  | k + 1 => (rowsB n i k).flatMap fun r => if k < i then [r ++ [0]] else if k = i then [r ++ [1]] else [r ++ [0], r ++ [1]]
def relsB (n : Nat) : Nat → List (List (List Int))
  | 0 => [[]]
  | i + 1 => (relsB n i).flatMap fun R => (rowsB n i n).map fun r => R ++ [r]
def relX (n : Nat) (R : List (List Int)) : Option Nat → List (List Int)
  | none => R
  | some x => R.set (n - 1) ((R.getD (n - 1) []).set x 1)
theorem snoc_eq {α : Type} {l : List α} {k : Nat} {d : α} (h : l.length = k + 1) : l = l.take k ++ [l.getD k d] := by
  have e := List.take_succ_eq_append_getElem (l := l) (i := k) (by omega)
  rw [List.take_of_length_le (by omega)] at e
  rw [List.getD_eq_getElem?_getD, List.getElem?_eq_getElem (by omega)]
  exact e
theorem rowsB_mem {n i : Nat} : ∀ (k : Nat) (r : List Int), r.length = k → (∀ j, j < k → (j < i → r.getD j 0 = 0) ∧ (j = i → r.getD j 0 = 1) ∧ (i < j → r.getD j 0 = 0 ∨ r.getD j 0 = 1)) → r ∈ rowsB n i k
  | 0, r, h, _ => by rw [List.length_eq_zero_iff.1 h]; simp [rowsB]
  | k + 1, r, h, hr => by
    have e := snoc_eq (d := 0) h
    have hl : (r.take k).length = k := by rw [List.length_take]; omega
    have ih := rowsB_mem (n := n) (i := i) k (r.take k) hl fun j hj => by
      have := hr j (by omega)
      have e2 : (r.take k).getD j 0 = r.getD j 0 := by rw [List.getD_eq_getElem?_getD, List.getElem?_take, if_pos hj, ← List.getD_eq_getElem?_getD]
      rw [e2]; exact this
    have hk := hr k (by omega)
    rw [rowsB, List.mem_flatMap]
    refine ⟨_, ih, ?_⟩
    split
    · rename_i h1
      rw [List.mem_singleton, ← hk.1 h1]; exact e
    · split
      · rename_i h1
        rw [List.mem_singleton]
        have := hk.2.1 h1
        rw [this] at e; exact e
      · have := hk.2.2 (by omega)
        rcases this with h0 | h0
        · rw [h0] at e; exact List.mem_cons.2 (.inl e)
        · rw [h0] at e; exact List.mem_cons.2 (.inr (List.mem_singleton.2 e))
theorem relsB_mem {n : Nat} : ∀ (k : Nat) (R : List (List Int)), k ≤ n → R.length = k → (∀ i, i < k → RowOk n i (R.getD i [])) → R ∈ relsB n k
  | 0, R, _, h, _ => by rw [List.length_eq_zero_iff.1 h]; simp [relsB]
  | k + 1, R, hn, h, hr => by
    have e := snoc_eq (d := []) h
    have hl : (R.take k).length = k := by rw [List.length_take]; omega
    have ih := relsB_mem (n := n) k (R.take k) (by omega) hl fun i hi => by
      have := hr i (by omega)
      have e2 : (R.take k).getD i [] = R.getD i [] := by rw [List.getD_eq_getElem?_getD, List.getElem?_take, if_pos hi, ← List.getD_eq_getElem?_getD]
      rw [e2]; exact this
    have hk := hr k (by omega)
    rw [relsB, List.mem_flatMap]
    exact ⟨_, ih, List.mem_map.2 ⟨_, rowsB_mem n _ hk.1 hk.2, e.symm⟩⟩
theorem rels_all : ((List.range 5).all fun n => (relsB n n).all fun R => poB (wK R n n) n && (List.range n).all fun x => poB (wK (relX n R (some x)) n n) n) = true := by decide +kernel
theorem rel_po {n : Nat} {R : List (List Int)} {x : Option Nat} (hn : n < 5) (h : RelOk n R) (hx : ∀ y, x = some y → y < n) : PoOK (wK (relX n R x) n n) n := by
  have h1 := List.all_eq_true.1 (List.all_eq_true.1 rels_all n (List.mem_range.2 hn)) R (relsB_mem n R (Nat.le_refl n) h.len h.row)
  simp only [Bool.and_eq_true, List.all_eq_true, List.mem_range] at h1
  cases x with
  | none => exact poB_ok h1.1
  | some y => exact poB_ok (h1.2 y (hx y rfl))
def allOne (n : Nat) : List (List Int) := List.replicate n (List.replicate n 1)
theorem allOne_po {n : Nat} (hn : n < 5) : PoOK (allOne n) n := poB_ok (by
  have : ((List.range 5).all fun n => poB (allOne n) n) = true := by decide +kernel
  exact List.all_eq_true.1 this n (List.mem_range.2 hn))
theorem po1 : PoOK [[1]] 1 := poB_ok (by decide)
theorem po2 : PoOK [[1, 1], [0, 1]] 2 := poB_ok (by decide)
theorem po3 : PoOK [[1, 1, 1], [0, 1, 0], [0, 0, 1]] 3 := poB_ok (by decide)
end Go.Cats
end
section
namespace Go.Cats
abbrev Pth := Int × Int × List Int
def pth0 : Pth := (0, 0, [])
def bfE (fr to : List Int) (p : Pth) : Nat → List Pth
  | 0 => []
  | e + 1 => if fr.getD e 0 = p.2.1 then bfE fr to p e ++ [(p.1, to.getD e 0, p.2.2 ++ [(e : Int)])] else bfE fr to p e
def bf0 (n : Nat) : List Pth := (List.range n).map fun x : Nat => ((x : Int), (x : Int), [])
def bfK (fr to : List Int) : Nat → List Pth → Nat → List Pth
  | 0, L, _ => L
  | q + 1, L, k => if k < L.length ∧ L.length ≤ 40 then bfK fr to q (L ++ bfE fr to (L.getD k pth0) fr.length) (k + 1) else L
def pLess (a b : Pth) : Bool := if a.1 ≠ b.1 then decide (a.1 < b.1) else if a.2.1 ≠ b.2.1 then decide (a.2.1 < b.2.1) else lessL a.2.2 b.2.2
def swP (L : List Pth) (k : Nat) : List Pth := (L.set (k + 1) (L.getD k pth0)).set k (L.getD (k + 1) pth0)
def dnP (L : List Pth) : Nat → List Pth
  | 0 => L
  | k + 1 => if pLess (L.getD (k + 1) pth0) (L.getD k pth0) then dnP (swP L k) k else L
def stP (L : List Pth) : Nat → List Pth
  | 0 => L
  | i + 1 => dnP (stP L i) i
def allP (n : Nat) (fr to : List Int) : List Pth := let L := bfK fr to 64 (bf0 n) 0; stP L L.length
def idP (n : Nat) (A : List Pth) : Nat → List Int
  | 0 => List.replicate n 0
  | i + 1 => if (A.getD i pth0).2.2 = [] then (idP n A i).set (A.getD i pth0).1.toNat (i : Int) else idP n A i
def lastP (A : List Pth) (f : Int) (b : List Int) : Nat → Int
  | 0 => -1
  | k + 1 => if (A.getD k pth0).1 = f ∧ (A.getD k pth0).2.2 = b then (k : Int) else lastP A f b k
def coP (A : List Pth) (i j : Nat) : Int := if (A.getD i pth0).2.1 = (A.getD j pth0).1 then lastP A (A.getD i pth0).1 ((A.getD i pth0).2.2 ++ (A.getD j pth0).2.2) A.length else -1
def cwP (A : List Pth) (i k : Nat) : List Int := (List.range k).map (coP A i)
def ptC (n : Nat) (A : List Pth) : Cat := ⟨n, A.map (·.1), A.map (·.2.1), idP n A A.length, (List.range A.length).map fun i => cwP A i A.length⟩
structure GrOk (n : Nat) (fr to : List Int) : Prop where
  n2 : n = 2 ∨ n = 3
  len : fr.length ≤ 3
  tol : to.length = fr.length
  edge : ∀ e, e < fr.length → 0 ≤ fr.getD e 0 ∧ fr.getD e 0 < to.getD e 0 ∧ to.getD e 0 < n
def egs (n : Nat) : List (Int × Int) := if n = 2 then [(0, 1)] else [(0, 1), (0, 2), (1, 2)]
def grs (n : Nat) : Nat → List (List Int × List Int)
  | 0 => [([], [])]
  | k + 1 => (grs n k).flatMap fun g => (egs n).map fun e => (g.1 ++ [e.1], g.2 ++ [e.2])
theorem lst_snoc {l : List Int} {k : Nat} (h : l.length = k + 1) : l = l.take k ++ [l.getD k 0] := by
  have e := List.take_succ_eq_append_getElem (l := l) (i := k) (by omega)
  rw [List.take_of_length_le (by omega)] at e
  rw [List.getD_eq_getElem?_getD, List.getElem?_eq_getElem (by omega)]
  exact e
theorem take_at {l : List Int} {k e : Nat} (h : e < k) : (l.take k).getD e 0 = l.getD e 0 := by
  rw [List.getD_eq_getElem?_getD, List.getElem?_take, if_pos h, ← List.getD_eq_getElem?_getD]
theorem grs_mem {n : Nat} (hn : n = 2 ∨ n = 3) : ∀ (k : Nat) (fr to : List Int), fr.length = k → to.length = k → (∀ e, e < k → 0 ≤ fr.getD e 0 ∧ fr.getD e 0 < to.getD e 0 ∧ to.getD e 0 < n) → (fr, to) ∈ grs n k
  | 0, fr, to, h1, h2, _ => by rw [List.length_eq_zero_iff.1 h1, List.length_eq_zero_iff.1 h2]; simp [grs]
  | k + 1, fr, to, h1, h2, h => by
    have e1 := lst_snoc h1
    have e2 := lst_snoc h2
    have ih := grs_mem hn k (fr.take k) (to.take k) (by rw [List.length_take]; omega) (by rw [List.length_take]; omega) fun e he => by
      rw [take_at he, take_at he]; exact h e (by omega)
    have hk := h k (by omega)
    rw [grs, List.mem_flatMap]
    refine ⟨_, ih, List.mem_map.2 ⟨(fr.getD k 0, to.getD k 0), ?_, by rw [← e1, ← e2]⟩⟩
    generalize fr.getD k 0 = a at hk
    generalize to.getD k 0 = b at hk
    unfold egs
    rcases hn with rfl | rfl
    · obtain rfl : a = 0 := by omega
      obtain rfl : b = 1 := by omega
      simp
    · rw [if_neg (by decide)]
      have ha : a = 0 ∨ a = 1 := by omega
      rcases ha with rfl | rfl
      · have hb : b = 1 ∨ b = 2 := by omega
        rcases hb with rfl | rfl <;> simp
      · obtain rfl : b = 2 := by omega
        simp
def ptB (n : Nat) (fr to : List Int) : Bool :=
  let L := bfK fr to 64 (bf0 n) 0
  decide (L.length ≤ 40) && catB (ptC n (allP n fr to))
theorem grs_all : ((List.range 4).all fun k => (grs 2 k).all fun g => ptB 2 g.1 g.2) = true := by decide +kernel
theorem grs_all3 : ((List.range 4).all fun k => (grs 3 k).all fun g => ptB 3 g.1 g.2) = true := by decide +kernel
theorem GrOk.b {n : Nat} {fr to : List Int} (h : GrOk n fr to) : ptB n fr to = true := by
  have hm := grs_mem h.n2 fr.length fr to rfl h.tol h.edge
  have hl := h.len
  rcases h.n2 with rfl | rfl
  · exact List.all_eq_true.1 (List.all_eq_true.1 grs_all fr.length (List.mem_range.2 (by omega))) _ hm
  · exact List.all_eq_true.1 (List.all_eq_true.1 grs_all3 fr.length (List.mem_range.2 (by omega))) _ hm
theorem GrOk.cat {n : Nat} {fr to : List Int} (h : GrOk n fr to) : IsCat (ptC n (allP n fr to)) := by
  have := h.b
  unfold ptB at this
  simp only [Bool.and_eq_true] at this
  exact catB_ok this.2
end Go.Cats
end
section
namespace Go.Cats
structure Link where
  i : Int
  j : Int
  left : List Int
  right : List Int
instance : Inhabited Link := ⟨⟨0, 0, [], []⟩⟩
structure LinksW (S : List Nat) (ls : List Link) : Prop where
  i : ∀ l ∈ ls, 0 ≤ l.i ∧ l.i < S.length
  j : ∀ l ∈ ls, 0 ≤ l.j ∧ l.j < S.length
  left : ∀ l ∈ ls, l.left.length = S.getD l.i.toNat 0
  right : ∀ l ∈ ls, l.right.length = S.getD l.j.toNat 0
def linkFit (A : List Int) (n : Nat) (e : Int) (l : Link) : Bool :=
  if l.i = n ∧ l.j = n then decide (l.left.getD e.toNat 0 = l.right.getD e.toNat 0)
  else if l.i = n ∧ 0 ≤ A.getD l.j.toNat 0 then decide (l.left.getD e.toNat 0 = l.right.getD (A.getD l.j.toNat 0).toNat 0)
  else if l.j = n ∧ 0 ≤ A.getD l.i.toNat 0 then decide (l.left.getD (A.getD l.i.toNat 0).toNat 0 = l.right.getD e.toNat 0)
  else true
def atL (ls : List Link) (n : Nat) (m : Nat) : List Nat := (List.range m).filter fun k => decide ((ls.getD k default).i = n) || decide ((ls.getD k default).j = n)
def fitsL (ls : List Link) (A : List Int) (n : Nat) (e : Int) : Bool := (atL ls n ls.length).all fun k => linkFit A n e (ls.getD k default)
section
variable {ls : List Link} {S : List Nat} {A B Q : List Int} {n i m : Nat} {e : Int} {l : Link}
def CoL (ls : List Link) (A : List Int) : Prop := ∀ l ∈ ls, 0 ≤ A.getD l.i.toNat 0 → 0 ≤ A.getD l.j.toNat 0 → l.left.getD (A.getD l.i.toNat 0).toNat 0 = l.right.getD (A.getD l.j.toNat 0).toNat 0
end
end Go.Cats
end
section
namespace Go.Cats
end Go.Cats
end
section
namespace Go.Cats
structure ChW (W : List Int → Bool) (S : List Nat) (ch : List Int → Nat → List Int) (Co : List Int → Prop) : Prop where
  out : ∀ A (i : Nat), A.length = S.length → i < A.length → ∃ p : Nat → Bool, ch A i = ((List.range (S.getD i 0)).filter p).map fun e : Nat => (e : Int)
  mono : ∀ A B (i : Nat) u, A.length = S.length → XtL A B → i < A.length → u ∈ ch B i → u ∈ ch A i
  comp : ∀ Q A (i : Nat), Q ∈ lexP S → W Q = true → A.length = S.length → (∀ j, j < A.length → j ≠ i → 0 ≤ A.getD j 0 → Q.getD j 0 = A.getD j 0) → i < A.length → Q.getD i 0 ∈ ch A i
  leaf : ∀ A : List Int, A.length = S.length → (∀ j, j < A.length → 0 ≤ A.getD j 0 ∧ A.getD j 0 < S.getD j 0) → Co A → W A = true
  step : ∀ A (i : Nat) u, A.length = S.length → i < A.length → A.getD i 0 = -1 → Co A → u ∈ ch A i → Co (A.set i u)
section
variable {W : List Int → Bool} {S : List Nat} {ch : List Int → Nat → List Int} {Co : List Int → Prop} {A B Q C : List Int} {n i k x : Nat} {u : Int}
end
/-! ### Transformations -/
def SqP (f g : Fun) (A : List Int) (a : Nat) : Prop := f.tgt.C (f.ars.getD a 0) (A.getD (f.src.to.getD a 0).toNat 0) = f.tgt.C (A.getD (f.src.fr.getD a 0).toNat 0) (g.ars.getD a 0)
structure NatP (f g : Fun) (A : List Int) : Prop where
  end_ : ∀ x, x < A.length → A.getD x 0 ∈ f.tgt.hom (f.obs.getD x 0) (g.obs.getD x 0)
  sq : ∀ a, a < f.src.fr.length → SqP f g A a
structure Par (f g : Fun) : Prop where
  src : IsCat f.src
  tgt : IsCat f.tgt
  fit : Fits f
  fit2 : Fits g
  es : g.src = f.src
  et : g.tgt = f.tgt
section
variable {f g : Fun} {A B P Q X C : List Int} {a x r k n : Nat} {b u : Int}
structure NatK (f g : Fun) (X : List Int) : Prop where
  end_ : ∀ x, x < X.length → X.getD x 0 ∈ f.tgt.hom (f.obs.getD x 0) (g.obs.getD x 0)
  sq : ∀ a, a < f.src.fr.length → (f.src.fr.getD a 0).toNat < X.length → (f.src.to.getD a 0).toNat < X.length → SqP f g X a
/-! ### The program's search -/
def SqX (f g : Fun) (P : List Int) (x : Nat) : Prop := ∀ a, a < f.src.fr.length → max (f.src.fr.getD a 0) (f.src.to.getD a 0) = x → SqP f g P a
abbrev NSt := Bool × List (List Int) × List Int
open Classical in
noncomputable def stepN (f g : Fun) (run : List Int → List (List Int) → NSt) (x : Nat) (s : NSt) (b : Int) : NSt :=
  if s.1 = true then (if SqX f g (s.2.2.set x b) x then run (s.2.2.set x b) s.2.1 else (true, s.2.1, s.2.2.set x b)) else s
noncomputable def natRun (f g : Fun) (M : Nat) : Nat → List Int → List (List Int) → NSt
  | 0, P, F => ((stL M F P).1, (stL M F P).2, P)
  | r + 1, P, F => (f.tgt.hom (f.obs.getD (f.src.ob.toNat - (r + 1)) 0) (g.obs.getD (f.src.ob.toNat - (r + 1)) 0)).foldl (stepN f g (natRun f g M r) (f.src.ob.toNat - (r + 1))) (true, F, P)
variable {run : List Int → List (List Int) → NSt} {s : NSt} {F : List (List Int)} {M : Nat}
structure RunW (f g : Fun) (M r : Nat) (X P : List Int) (F : List (List Int)) (s : NSt) (L : List (List Int)) : Prop where
  ok : s.1 = (eat (stL M) F L).1
  out : s.2.1 = (eat (stL M) F L).2
  len : s.2.2.length = P.length
  pre : s.2.2.take X.length = X
structure StW (f g : Fun) (M r x : Nat) (P : List Int) (F : List (List Int)) (C : List Int) (st : Nat → NSt) : Prop where
  zero : st 0 = (true, F, P)
  all : natRun f g M (r + 1) P F = st C.length
  yes : ∀ k, k < C.length → (st k).1 = true → SqX f g ((st k).2.2.set x (C.getD k 0)) x → st (k + 1) = natRun f g M r ((st k).2.2.set x (C.getD k 0)) (st k).2.1
  no : ∀ k, k < C.length → (st k).1 = true → ¬ SqX f g ((st k).2.2.set x (C.getD k 0)) x → st (k + 1) = (true, (st k).2.1, (st k).2.2.set x (C.getD k 0))
  stop : ∀ k, k < C.length → (st (k + 1)).1 = false → st C.length = st (k + 1)
  len : ∀ k, k ≤ C.length → (st k).2.2.length = f.src.ob.toNat
  few : ∀ k, k ≤ C.length → (st k).1 = true → (st k).2.1.length ≤ M
  rng : ∀ k, k < C.length → ∀ i, i ≤ x → 0 ≤ ((st k).2.2.set x (C.getD k 0)).getD i 0 ∧ ((st k).2.2.set x (C.getD k 0)).getD i 0 < f.tgt.fr.length
  good : ∀ k, k < C.length → SqX f g ((st k).2.2.set x (C.getD k 0)) x → NatK f g (((st k).2.2.set x (C.getD k 0)).take (x + 1))
end
end Go.Cats
end
section
namespace Go.Cats
def pq (n : Nat) (x y : List Int) (w : Int) (k : Nat) : List Int := (List.range k).map fun k => x.getD (k / n) 0 * w + y.getD (k % n) 0
section
variable {n k i j : Nat} {x y : List Int} {w : Int}
theorem pq_zero (n x y w) : pq n x y w 0 = [] := rfl
theorem pq_len : (pq n x y w k).length = k := by unfold pq; rw [List.length_map, List.length_range]
theorem pair_div (hj : j < n) : (i * n + j) / n = i := by
  have h0 : 0 < n := by omega
  rw [Nat.add_comm, Nat.add_mul_div_right _ _ h0, Nat.div_eq_of_lt hj, Nat.zero_add]
theorem pair_mod (hj : j < n) : (i * n + j) % n = j := by
  rw [Nat.add_comm, Nat.add_mul_mod_self_right, Nat.mod_eq_of_lt hj]
theorem pair_lt {m : Nat} (hi : i < m) (hj : j < n) : i * n + j < m * n := by
  have : (i + 1) * n ≤ m * n := Nat.mul_le_mul_right n hi
  rw [Nat.succ_mul] at this
  omega
theorem pq_succ (hj : j < n) : pq n x y w (i * n + (j + 1)) = pq n x y w (i * n + j) ++ [x.getD i 0 * w + y.getD j 0] := by
  rw [← Nat.add_assoc]
  unfold pq
  rw [List.range_succ, List.map_append, List.map_singleton, pair_div hj, pair_mod hj]
theorem pq_at {m : Nat} (h : k < m) : (pq n x y w m).getD k 0 = x.getD (k / n) 0 * w + y.getD (k % n) 0 := by
  unfold pq; rw [List.getD_eq_getElem?_getD, List.getElem?_map, List.getElem?_range h]; rfl
theorem pq_pair {m : Nat} (hi : i < m) (hj : j < n) : (pq n x y w (m * n)).getD (i * n + j) 0 = x.getD i 0 * w + y.getD j 0 := by
  rw [pq_at (pair_lt hi hj), pair_div hj, pair_mod hj]
theorem div_mod_lt {m : Nat} (h : k < m * n) : k / n < m ∧ k % n < n := by
  have h0 : 0 < n := by
    rcases Nat.eq_zero_or_pos n with e | e
    · subst e; omega
    · exact e
  exact ⟨Nat.div_lt_of_lt_mul (by rw [Nat.mul_comm]; exact h), Nat.mod_lt _ h0⟩
end
def prE (c d : Cat) (k l : Nat) : Int :=
  if 0 ≤ c.C (k / d.fr.length : Nat) (l / d.fr.length : Nat) ∧ 0 ≤ d.C (k % d.fr.length : Nat) (l % d.fr.length : Nat) then
    c.C (k / d.fr.length : Nat) (l / d.fr.length : Nat) * d.fr.length + d.C (k % d.fr.length : Nat) (l % d.fr.length : Nat) else -1
def prW (c d : Cat) (k l : Nat) : List Int := (List.range l).map (prE c d k)
def prT (c d : Cat) (k : Nat) : List (List Int) := (List.range k).map fun k => prW c d k (c.fr.length * d.fr.length)
def prC (c d : Cat) : Cat := ⟨c.ob * d.ob, pq d.fr.length c.fr d.fr d.ob (c.fr.length * d.fr.length), pq d.fr.length c.to d.to d.ob (c.fr.length * d.fr.length), pq d.id.length c.id d.id d.fr.length (c.id.length * d.id.length), prT c d (c.fr.length * d.fr.length)⟩
section
variable {c d : Cat} {i j k l a b : Nat}
theorem prW_zero (c d k) : prW c d k 0 = [] := rfl
theorem prT_zero (c d) : prT c d 0 = [] := rfl
theorem prW_len : (prW c d k l).length = l := by unfold prW; rw [List.length_map, List.length_range]
theorem prT_len : (prT c d k).length = k := by unfold prT; rw [List.length_map, List.length_range]
theorem prE_pair (hj : j < d.fr.length) (hb : b < d.fr.length) : prE c d (i * d.fr.length + j) (a * d.fr.length + b) = if 0 ≤ c.C i a ∧ 0 ≤ d.C j b then c.C i a * d.fr.length + d.C j b else -1 := by
  unfold prE; rw [pair_div hj, pair_mod hj, pair_div hb, pair_mod hb]
theorem prW_succ (hj : j < d.fr.length) (hb : b < d.fr.length) : prW c d (i * d.fr.length + j) (a * d.fr.length + (b + 1)) = prW c d (i * d.fr.length + j) (a * d.fr.length + b) ++ [if 0 ≤ c.C i a ∧ 0 ≤ d.C j b then c.C i a * d.fr.length + d.C j b else -1] := by
  rw [← Nat.add_assoc, ← prE_pair hj hb]
  unfold prW
  rw [List.range_succ, List.map_append, List.map_singleton]
theorem prT_succ : prT c d (i * d.fr.length + (j + 1)) = prT c d (i * d.fr.length + j) ++ [prW c d (i * d.fr.length + j) (c.fr.length * d.fr.length)] := by
  rw [← Nat.add_assoc]; unfold prT; rw [List.range_succ, List.map_append, List.map_singleton]
theorem two_eq {x x' n y y' : Int} (h0 : 0 ≤ y) (h1 : y < n) (h2 : 0 ≤ y') (h3 : y' < n) : x * n + y = x' * n + y' ↔ x = x' ∧ y = y' := by
  constructor
  · intro h
    have hx : x = x' := by
      have e1 : (x * n + y) / n = x := by rw [Int.add_comm, Int.add_mul_ediv_right _ _ (by omega), Int.ediv_eq_zero_of_lt h0 h1]; omega
      have e2 : (x' * n + y') / n = x' := by rw [Int.add_comm, Int.add_mul_ediv_right _ _ (by omega), Int.ediv_eq_zero_of_lt h2 h3]; omega
      rw [← e1, ← e2, h]
    subst hx
    exact ⟨rfl, by omega⟩
  · rintro ⟨rfl, rfl⟩; rfl
end
def fxO (d : Cat) (f : Fun) (i : Int) (k : Nat) : List Int := (List.range k).map fun (j : Nat) => f.obs.getD (i * d.ob + (j : Int)).toNat 0
def fxA (c d : Cat) (f : Fun) (i : Int) (k : Nat) : List Int := (List.range k).map fun (b : Nat) => f.ars.getD (c.I i * d.fr.length + (b : Int)).toNat 0
def fxF (c d : Cat) (f : Fun) (i : Int) : Fun := ⟨d, f.tgt, fxO d f i d.ob.toNat, fxA c d f i d.fr.length⟩
section
variable {c d : Cat} {f : Fun} {i : Int} {k j a : Nat}
end
abbrev go2 (d : Cat) (f : Fun) (x y : Int) : Int := f.obs.getD (x * d.ob + y).toNat 0
abbrev ga2 (d : Cat) (f : Fun) (x y : Int) : Int := f.ars.getD (x * d.fr.length + y).toNat 0
structure TwoF (c d : Cat) (f : Fun) : Prop where
  sc : IsCat c
  sd : IsCat d
  tg : IsCat f.tgt
  obl : f.obs.length = c.ob.toNat * d.ob.toNat
  arl : f.ars.length = c.fr.length * d.fr.length
  obw : Within f.obs f.tgt.ob
  arw : Within f.ars f.tgt.fr.length
  ends : ∀ i j : Nat, i < c.fr.length → j < d.fr.length → f.tgt.F (ga2 d f i j) = go2 d f (c.fr.getD i 0) (d.fr.getD j 0) ∧ f.tgt.T (ga2 d f i j) = go2 d f (c.to.getD i 0) (d.to.getD j 0)
  unit : ∀ p q : Nat, p < c.id.length → q < d.id.length → ga2 d f (c.id.getD p 0) (d.id.getD q 0) = f.tgt.I (go2 d f p q)
  comp : ∀ i j a b : Nat, i < c.fr.length → j < d.fr.length → a < c.fr.length → b < d.fr.length → c.to.getD i 0 = c.fr.getD a 0 → d.to.getD j 0 = d.fr.getD b 0 → ga2 d f (c.C i a) (d.C j b) = f.tgt.C (ga2 d f i j) (ga2 d f a b)
section
variable {c d : Cat} {f : Fun} {i a : Nat}
end
end Go.Cats
end
section
namespace Go.Cats
theorem two_lt {a b A B : Int} (h0 : 0 ≤ a) (h1 : a < A) (h2 : 0 ≤ b) (h3 : b < B) : 0 ≤ a * B + b ∧ a * B + b < A * B := by
  have k1 : (a + 1) * B ≤ A * B := Int.mul_le_mul_of_nonneg_right (by omega) (by omega)
  have k2 : 0 ≤ a * B := Int.mul_nonneg h0 (by omega)
  rw [Int.add_mul, Int.one_mul] at k1
  exact ⟨by omega, by omega⟩
theorem toNat_pair {x y : Int} {m : Nat} (h0 : 0 ≤ x) (h2 : 0 ≤ y) : (x * m + y).toNat = x.toNat * m + y.toNat := by
  obtain ⟨a, rfl⟩ := Int.eq_ofNat_of_zero_le h0
  obtain ⟨b, rfl⟩ := Int.eq_ofNat_of_zero_le h2
  rw [← Int.natCast_mul, ← Int.natCast_add, Int.toNat_natCast, Int.toNat_natCast, Int.toNat_natCast]
section
variable {c d : Cat} {x y x' y' : Int} {f g : Nat}
theorem pr_m : (prC c d).fr.length = c.fr.length * d.fr.length := pq_len
theorem pr_tm : (prC c d).to.length = c.fr.length * d.fr.length := pq_len
theorem pr_idm : (prC c d).id.length = c.id.length * d.id.length := pq_len
theorem pr_F (h0 : 0 ≤ x) (h1 : x < c.fr.length) (h2 : 0 ≤ y) (h3 : y < d.fr.length) : (prC c d).F (x * d.fr.length + y) = c.F x * d.ob + d.F y := by
  unfold Cat.F
  rw [toNat_pair h0 h2]
  exact pq_pair (by omega) (by omega)
theorem pr_T (h0 : 0 ≤ x) (h1 : x < c.fr.length) (h2 : 0 ≤ y) (h3 : y < d.fr.length) : (prC c d).T (x * d.fr.length + y) = c.T x * d.ob + d.T y := by
  unfold Cat.T
  rw [toNat_pair h0 h2]
  exact pq_pair (by omega) (by omega)
theorem pr_I (sc : Shape c) (sd : Shape d) (h0 : 0 ≤ x) (h1 : x < c.ob) (h2 : 0 ≤ y) (h3 : y < d.ob) : (prC c d).I (x * d.ob + y) = c.I x * d.fr.length + d.I y := by
  have e1 := sc.idl
  have e2 := sd.idl
  unfold Cat.I
  rw [← e2, toNat_pair h0 h2]
  exact pq_pair (by omega) (by omega)
theorem pr_C (sc : Shape c) (sd : Shape d) (h0 : 0 ≤ x) (h1 : x < c.fr.length) (h2 : 0 ≤ y) (h3 : y < d.fr.length) (k0 : 0 ≤ x') (k1 : x' < c.fr.length) (k2 : 0 ≤ y') (k3 : y' < d.fr.length) :
    (prC c d).C (x * d.fr.length + y) (x' * d.fr.length + y') = if c.T x = c.F x' ∧ d.T y = d.F y' then c.C x x' * d.fr.length + d.C y y' else -1 := by
  have b1 : x.toNat < c.fr.length := by omega
  have b2 : y.toNat < d.fr.length := by omega
  have b3 : x'.toNat < c.fr.length := by omega
  have b4 : y'.toNat < d.fr.length := by omega
  have hk := pair_lt b1 b2
  have hl := pair_lt b3 b4
  have n1 := sc.neg b1 b3
  have n2 := sd.neg b2 b4
  rw [Int.toNat_of_nonneg h0, Int.toNat_of_nonneg k0] at n1
  rw [Int.toNat_of_nonneg h2, Int.toNat_of_nonneg k2] at n2
  have e : (prC c d).C (x * d.fr.length + y) (x' * d.fr.length + y') = prE c d (x.toNat * d.fr.length + y.toNat) (x'.toNat * d.fr.length + y'.toNat) := by
    show ((prT c d (c.fr.length * d.fr.length)).getD (x * d.fr.length + y).toNat []).getD (x' * d.fr.length + y').toNat 0 = _
    rw [toNat_pair h0 h2, toNat_pair k0 k2]
    unfold prT
    rw [List.getD_eq_getElem?_getD (l := List.map _ _) (i := x.toNat * d.fr.length + y.toNat), List.getElem?_map, List.getElem?_range hk]
    show (prW c d _ _).getD _ 0 = _
    unfold prW
    rw [List.getD_eq_getElem?_getD, List.getElem?_map, List.getElem?_range hl]; rfl
  rw [e, prE_pair b2 b4, Int.toNat_of_nonneg h0, Int.toNat_of_nonneg h2, Int.toNat_of_nonneg k0, Int.toNat_of_nonneg k2]
  by_cases h : c.T x = c.F x' ∧ d.T y = d.F y'
  · rw [if_pos h, if_pos]
    exact ⟨Int.not_lt.1 fun q => (n1.1 q) h.1, Int.not_lt.1 fun q => (n2.1 q) h.2⟩
  · rw [if_neg h, if_neg]
    rintro ⟨q1, q2⟩
    refine h ⟨Classical.byContradiction fun q => ?_, Classical.byContradiction fun q => ?_⟩
    · have := n1.2 q; omega
    · have := n2.2 q; omega
theorem pr_split (h : f < c.fr.length * d.fr.length) : ∃ x y : Int, 0 ≤ x ∧ x < c.fr.length ∧ 0 ≤ y ∧ y < d.fr.length ∧ (f : Int) = x * d.fr.length + y := by
  obtain ⟨h1, h2⟩ := div_mod_lt h
  refine ⟨((f / d.fr.length : Nat) : Int), ((f % d.fr.length : Nat) : Int), Int.natCast_nonneg _, by omega, Int.natCast_nonneg _, by omega, ?_⟩
  rw [← Int.natCast_mul, ← Int.natCast_add, Nat.mul_comm, Nat.div_add_mod]
theorem prC_cat (hc : IsCat c) (hd : IsCat d) (h8 : c.ob * d.ob ≤ 8) (h40 : c.fr.length * d.fr.length ≤ 40) : IsCat (prC c d) := by
  have sc := hc.toShape
  have sd := hd.toShape
  have e1 := sc.idl
  have e2 := sd.idl
  have cF : ∀ z : Int, 0 ≤ z → z < c.fr.length → 0 ≤ c.F z ∧ c.F z < c.ob := fun z h0 h1 => sc.frw z.toNat (by omega)
  have cT : ∀ z : Int, 0 ≤ z → z < c.fr.length → 0 ≤ c.T z ∧ c.T z < c.ob := fun z h0 h1 => sc.tow z.toNat (by rw [sc.tol]; omega)
  have dF : ∀ z : Int, 0 ≤ z → z < d.fr.length → 0 ≤ d.F z ∧ d.F z < d.ob := fun z h0 h1 => sd.frw z.toNat (by omega)
  have dT : ∀ z : Int, 0 ≤ z → z < d.fr.length → 0 ≤ d.T z ∧ d.T z < d.ob := fun z h0 h1 => sd.tow z.toNat (by rw [sd.tol]; omega)
  have bigI : ∀ f : Nat, f < (prC c d).id.length → ∃ x y : Int, 0 ≤ x ∧ x < c.ob ∧ 0 ≤ y ∧ y < d.ob ∧ (f : Int) = x * d.ob + y := fun f hf => by
    rw [pr_idm] at hf
    obtain ⟨h1, h2⟩ := div_mod_lt hf
    refine ⟨((f / d.id.length : Nat) : Int), ((f % d.id.length : Nat) : Int), Int.natCast_nonneg _, by omega, Int.natCast_nonneg _, by omega, ?_⟩
    rw [← e2, ← Int.natCast_mul, ← Int.natCast_add, Nat.mul_comm, Nat.div_add_mod]
  have meet : ∀ {x y x' y' : Int}, 0 ≤ x → x < c.fr.length → 0 ≤ y → y < d.fr.length → 0 ≤ x' → x' < c.fr.length → 0 ≤ y' → y' < d.fr.length → ((prC c d).T (x * d.fr.length + y) = (prC c d).F (x' * d.fr.length + y') ↔ c.T x = c.F x' ∧ d.T y = d.F y') := fun h0 h1 h2 h3 k0 k1 k2 k3 => by
    rw [pr_T h0 h1 h2 h3, pr_F k0 k1 k2 k3]
    exact two_eq (dT _ h2 h3).1 (dT _ h2 h3).2 (dF _ k2 k3).1 (dF _ k2 k3).2
  have shp : Shape (prC c d) := by
    refine ⟨Int.mul_nonneg sc.ob0 sd.ob0, h8, by rw [pr_m]; exact h40, by rw [pr_m, pr_tm], fun f hf => ?_, fun f hf => ?_, ?_, fun i hi => ?_, ?_, fun i hi => ?_, fun f hf => ⟨?_, fun g hg => ?_⟩⟩
    · rw [pr_m] at hf
      obtain ⟨x, y, h0, h1, h2, h3, e⟩ := pr_split hf
      have := pr_F h0 h1 h2 h3
      rw [← e] at this
      show 0 ≤ (prC c d).F (f : Int) ∧ (prC c d).F (f : Int) < c.ob * d.ob
      rw [this]
      exact two_lt (cF x h0 h1).1 (cF x h0 h1).2 (dF y h2 h3).1 (dF y h2 h3).2
    · rw [pr_tm] at hf
      obtain ⟨x, y, h0, h1, h2, h3, e⟩ := pr_split hf
      have := pr_T h0 h1 h2 h3
      rw [← e] at this
      show 0 ≤ (prC c d).T (f : Int) ∧ (prC c d).T (f : Int) < c.ob * d.ob
      rw [this]
      exact two_lt (cT x h0 h1).1 (cT x h0 h1).2 (dT y h2 h3).1 (dT y h2 h3).2
    · rw [pr_idm, Int.natCast_mul, e1, e2]; rfl
    · obtain ⟨x, y, h0, h1, h2, h3, e⟩ := bigI i hi
      have := pr_I sc sd h0 h1 h2 h3
      rw [← e] at this
      show 0 ≤ (prC c d).I (i : Int) ∧ (prC c d).I (i : Int) < _
      rw [this, pr_m, Int.natCast_mul]
      obtain ⟨a1, a2, _⟩ := hc.idI h0 h1
      obtain ⟨b1, b2, _⟩ := hd.idI h2 h3
      exact two_lt a1 a2 b1 b2
    · show (prT c d _).length = _
      rw [prT_len, pr_m]
    · obtain ⟨x, y, h0, h1, h2, h3, e⟩ := bigI i hi
      have := pr_I sc sd h0 h1 h2 h3
      rw [← e] at this
      obtain ⟨a1, a2, a3, a4⟩ := hc.idI h0 h1
      obtain ⟨b1, b2, b3, b4⟩ := hd.idI h2 h3
      show (prC c d).F ((prC c d).I (i : Int)) = i ∧ (prC c d).T ((prC c d).I (i : Int)) = i
      rw [this, pr_F a1 a2 b1 b2, pr_T a1 a2 b1 b2, a3, a4, b3, b4, e]
      exact ⟨rfl, rfl⟩
    · rw [pr_m] at hf ⊢
      show ((prT c d _).getD f []).length = _
      unfold prT
      rw [List.getD_eq_getElem?_getD, List.getElem?_map, List.getElem?_range hf]
      exact prW_len
    · rw [pr_m] at hf hg
      obtain ⟨x, y, h0, h1, h2, h3, ef⟩ := pr_split hf
      obtain ⟨x', y', k0, k1, k2, k3, eg⟩ := pr_split hg
      have hC := pr_C sc sd h0 h1 h2 h3 k0 k1 k2 k3
      have hM := meet h0 h1 h2 h3 k0 k1 k2 k3
      rw [← ef, ← eg] at hC hM
      show ((prC c d).T (f : Int) = (prC c d).F (g : Int) ∧ _ ∧ (prC c d).F _ = (prC c d).F (f : Int) ∧ (prC c d).T _ = (prC c d).T (g : Int)) ∨ ((prC c d).T (f : Int) ≠ (prC c d).F (g : Int) ∧ _)
      by_cases h : c.T x = c.F x' ∧ d.T y = d.F y'
      · rw [if_pos h] at hC
        obtain ⟨p1, p2, p3, p4⟩ := hc.compI h0 h1 k0 k1 h.1
        obtain ⟨q1, q2, q3, q4⟩ := hd.compI h2 h3 k2 k3 h.2
        refine .inl ⟨hM.2 h, ?_, ?_, ?_⟩
        · rw [hC, pr_m, Int.natCast_mul]; exact two_lt p1 p2 q1 q2
        · rw [hC, pr_F p1 p2 q1 q2, p3, q3, ef, pr_F h0 h1 h2 h3]
        · rw [hC, pr_T p1 p2 q1 q2, p4, q4, eg, pr_T k0 k1 k2 k3]
      · rw [if_neg h] at hC
        exact .inr ⟨fun q => h (hM.1 q), hC⟩
  refine ⟨shp, fun f hf => ?_, fun f hf => ?_, fun f g q hf hg hq m1 m2 => ?_⟩
  · rw [pr_m] at hf
    obtain ⟨x, y, h0, h1, h2, h3, e⟩ := pr_split hf
    obtain ⟨a1, a2, a3, a4⟩ := hc.idI (cF x h0 h1).1 (cF x h0 h1).2
    obtain ⟨b1, b2, b3, b4⟩ := hd.idI (dF y h2 h3).1 (dF y h2 h3).2
    rw [e, pr_F h0 h1 h2 h3, pr_I sc sd (cF x h0 h1).1 (cF x h0 h1).2 (dF y h2 h3).1 (dF y h2 h3).2, pr_C sc sd a1 a2 b1 b2 h0 h1 h2 h3, if_pos ⟨a4, b4⟩, hc.unlI h0 h1, hd.unlI h2 h3]
  · rw [pr_m] at hf
    obtain ⟨x, y, h0, h1, h2, h3, e⟩ := pr_split hf
    obtain ⟨a1, a2, a3, a4⟩ := hc.idI (cT x h0 h1).1 (cT x h0 h1).2
    obtain ⟨b1, b2, b3, b4⟩ := hd.idI (dT y h2 h3).1 (dT y h2 h3).2
    rw [e, pr_T h0 h1 h2 h3, pr_I sc sd (cT x h0 h1).1 (cT x h0 h1).2 (dT y h2 h3).1 (dT y h2 h3).2, pr_C sc sd h0 h1 h2 h3 a1 a2 b1 b2, if_pos ⟨a3.symm, b3.symm⟩, hc.unrI h0 h1, hd.unrI h2 h3]
  · rw [pr_m] at hf hg hq
    obtain ⟨x, y, h0, h1, h2, h3, ef⟩ := pr_split hf
    obtain ⟨x', y', k0, k1, k2, k3, eg⟩ := pr_split hg
    obtain ⟨x2, y2, l0, l1, l2, l3, eq⟩ := pr_split hq
    rw [ef, eg] at m1
    rw [eg, eq] at m2
    have M1 := (meet h0 h1 h2 h3 k0 k1 k2 k3).1 m1
    have M2 := (meet k0 k1 k2 k3 l0 l1 l2 l3).1 m2
    obtain ⟨p1, p2, p3, p4⟩ := hc.compI h0 h1 k0 k1 M1.1
    obtain ⟨q1, q2, q3, q4⟩ := hd.compI h2 h3 k2 k3 M1.2
    obtain ⟨r1, r2, r3, r4⟩ := hc.compI k0 k1 l0 l1 M2.1
    obtain ⟨s1, s2, s3, s4⟩ := hd.compI k2 k3 l2 l3 M2.2
    rw [ef, eg, eq, pr_C sc sd h0 h1 h2 h3 k0 k1 k2 k3, if_pos M1, pr_C sc sd k0 k1 k2 k3 l0 l1 l2 l3, if_pos M2, pr_C sc sd p1 p2 q1 q2 l0 l1 l2 l3, if_pos ⟨p4.trans M2.1, q4.trans M2.2⟩,
      pr_C sc sd h0 h1 h2 h3 r1 r2 s1 s2, if_pos ⟨M1.1.trans r3.symm, M1.2.trans s3.symm⟩, hc.assI h0 h1 k0 k1 l0 l1 M1.1 M2.1, hd.assI h2 h3 k2 k3 l2 l3 M1.2 M2.2]
end
end Go.Cats
end
section
namespace Go.Cats
def nums (n : Nat) : List Int := (List.range n).map fun i : Nat => (i : Int)
theorem nums_zero : nums 0 = [] := rfl
theorem nums_len (n : Nat) : (nums n).length = n := by simp [nums]
theorem nums_succ (n : Nat) : nums (n + 1) = nums n ++ [(n : Int)] := by simp [nums, List.range_succ]
theorem nums_at {n i : Nat} (h : i < n) : (nums n).getD i 0 = i := by simp [nums, h]
theorem numsI {n : Nat} {y : Int} (h0 : 0 ≤ y) (h1 : y < n) : (nums n).getD y.toNat 0 = y := by
  rw [nums_at (by omega)]; omega
def oneC : Cat := ⟨1, [0], [0], [0], [[0]]⟩
theorem oneC_cat : IsCat oneC := by
  have z : ∀ {i : Nat}, i < 1 → i = 0 := fun h => by omega
  have w : Within [0] 1 := fun i hi => by
    have : i = 0 := z (by simpa using hi)
    subst this; simp
  refine ⟨⟨by decide, by decide, by decide, by decide, w, w, by decide, w, by decide, fun x hx => ?_, fun f hf => ⟨?_, fun g hg => ?_⟩⟩, fun f hf => ?_, fun f hf => ?_, fun f g h hf hg hh _ _ => ?_⟩
  · have : x = 0 := z hx
    subst this; decide
  · have : f = 0 := z hf
    subst this; decide
  · have h1 : f = 0 := z hf
    have h2 : g = 0 := z hg
    subst h1; subst h2
    left
    exact ⟨rfl, ⟨by decide, by decide⟩, by decide, by decide⟩
  · have h1 : f = 0 := z hf
    subst h1; decide
  · have h1 : f = 0 := z hf
    subst h1; decide
  · have h1 : f = 0 := z hf
    have h2 : g = 0 := z hg
    have h3 : h = 0 := z hh
    subst h1; subst h2; subst h3; decide
def selfF (c : Cat) : Fun := ⟨c, c, nums c.ob.toNat, nums c.fr.length⟩
def pointF (c : Cat) (x : Int) : Fun := ⟨oneC, c, [x], [c.I x]⟩
theorem selfF_fun {c : Cat} (h : IsCat c) : IsFun (selfF c) := by
  have h0 := h.ob0
  have hO : ∀ {y : Int}, 0 ≤ y → y < c.ob → (selfF c).O y = y := fun a b => numsI a (by omega)
  have hA : ∀ {y : Int}, 0 ≤ y → y < c.fr.length → (selfF c).A y = y := fun a b => numsI a (by omega)
  refine ⟨h, h, ⟨?_, ?_, fun i hi => ?_, fun i hi => ?_, fun a ha => ?_, fun x hx => ?_, fun a b ha hb hc => ?_⟩⟩
  · simp only [selfF, nums_len]; omega
  · simp only [selfF, nums_len]
  · simp only [selfF, nums_len] at hi ⊢
    rw [nums_at hi]; omega
  · simp only [selfF, nums_len] at hi ⊢
    rw [nums_at hi]; omega
  · have ha' : a < c.fr.length := by simpa [selfF, nums_len] using ha
    have e : (selfF c).ars.getD a 0 = a := nums_at ha'
    rw [e]
    have f1 := h.frw a ha'
    have f2 := h.tow a (by have := h.tol; omega)
    refine ⟨?_, ?_⟩
    · exact (hO (y := c.F a) (by simpa using f1.1) (by simpa using f1.2)).symm
    · exact (hO (y := c.T a) (by simpa using f2.1) (by simpa using f2.2)).symm
  · have hx' : x < c.id.length := hx
    have w := h.idw x hx'
    have hl := h.idl
    rw [show (selfF c).src.id.getD x 0 = c.id.getD x 0 from rfl, hA w.1 w.2, hO (by omega) (by omega)]
    simp [selfF]
  · have ha' : a < c.fr.length := ha
    have hb' : b < c.fr.length := hb
    have e := (h.coe a ha').2 b hb'
    unfold Cat.Entry at e
    have hc' : 0 ≤ c.C a b := hc
    have hlt : c.C a b < c.fr.length := by
      rcases e with ⟨_, e2, _⟩ | ⟨_, e2⟩
      · exact e2.2
      · omega
    rw [show (selfF c).src.C a b = c.C a b from rfl, hA hc' hlt, hA (by omega) (by omega), hA (by omega) (by omega)]
    rfl
theorem pointF_fun {c : Cat} {x : Int} (h : IsCat c) (h0 : 0 ≤ x) (h1 : x < c.ob) : IsFun (pointF c x) := by
  obtain ⟨i1, i2, i3, i4⟩ := h.idI h0 h1
  have z : ∀ {i : Nat}, i < 1 → i = 0 := fun h => by omega
  refine ⟨oneC_cat, h, ⟨rfl, rfl, fun i hi => ?_, fun i hi => ?_, fun a ha => ?_, fun y hy => ?_, fun a b ha hb hc => ?_⟩⟩
  · have : i = 0 := z hi
    subst this; exact ⟨h0, h1⟩
  · have : i = 0 := z hi
    subst this; exact ⟨i1, i2⟩
  · have : a = 0 := z ha
    subst this; exact ⟨i3, i4⟩
  · have : y = 0 := z hy
    subst this; rfl
  · have e1 : a = 0 := z ha
    have e2 : b = 0 := z hb
    subst e1; subst e2
    have := h.unlI i1 i2
    rw [i3] at this
    exact this.symm
end Go.Cats
end
section
namespace Go.Cats
section
variable {n : Nat} {A : List (List Int)} {U : Nat → List Int} {cp : List Int → List Int → List Int} {d : Cat} {P : Nat → Int} {k : Nat}
end
section
variable {f e : Fun}
noncomputable def cmU (f e : Fun) (i : Nat) : List Int := [(i : Int), (i : Int), f.src.I (rw' (cObj f e) i 0), e.src.I (rw' (cObj f e) i 1)]
def cmP (f e : Fun) (r s : List Int) : List Int := [r.getD 0 0, s.getD 1 0, f.src.C (r.getD 2 0) (s.getD 2 0), e.src.C (r.getD 3 0) (s.getD 3 0)]
theorem colN_map (l : List (List Int)) (k : Nat) : colN l k l.length = l.map fun r => r.getD k 0 := by unfold colN; rw [List.take_length]
theorem cm_tab : cmC f e (cmA f e).length = tabC (cObj f e).length (cmA f e) (cmU f e) (cmP f e) := by
  unfold cmC bCat tabC
  rw [colN_map, colN_map]
  refine congr (congr rfl ?_) rfl
  unfold tb
  refine List.map_congr_left fun i hi => ?_
  have hi := List.mem_range.1 hi
  unfold bId cmU
  rw [colN_at hi (Nat.le_refl _), colN_at hi (Nat.le_refl _)]
theorem cm_mem {r : List Int} (h : r ∈ cmA f e) : ∃ s t u v, s < (cObj f e).length ∧ t < (cObj f e).length ∧ u ∈ cU f 0 (cObj f e) s t ∧ v ∈ cU e 1 (cObj f e) s t ∧ cC f e (cObj f e) s t u v ∧ r = [(s : Int), (t : Int), u, v] := mem_cArr.1 h
theorem cm_ok (hf : IsFun f) (he : IsFun e) (hT : f.tgt = e.tgt) (h8 : (cObj f e).length ≤ 8) (h40 : (cmA f e).length ≤ 40) : TabOK (cObj f e).length (cmA f e) (cmU f e) (cmP f e) := by
  have hO := cObj_ok hf he hT
  refine ⟨h8, h40, cArr_nodup f e _, fun r hr => ?_, fun r hr => ?_, fun i hi => ⟨cArr_id hf he hT hO hi, rfl, rfl⟩, fun r hr q hq hE => ?_, fun r hr => ?_, fun r hr => ?_, fun r hr q hq z hz h1 h2 => ?_⟩
  · obtain ⟨s, t, u, v, hs, ht, _, _, _, rfl⟩ := cm_mem hr
    exact ⟨Int.natCast_nonneg s, by show (s : Int) < _; omega⟩
  · obtain ⟨s, t, u, v, hs, ht, _, _, _, rfl⟩ := cm_mem hr
    exact ⟨Int.natCast_nonneg t, by show (t : Int) < _; omega⟩
  · obtain ⟨s, t, u, v, hs, ht, hu, hv, hc, rfl⟩ := cm_mem hr
    obtain ⟨t', w, u', v', ht', hw, hu', hv', hc', rfl⟩ := cm_mem hq
    obtain rfl : t = t' := by have hE : (t : Int) = t' := hE
                              omega
    exact ⟨cArr_comp hf he hT hO hs ht hw hu hv hc hu' hv' hc', rfl, rfl⟩
  · obtain ⟨s, t, u, v, hs, ht, hu, hv, _, rfl⟩ := cm_mem hr
    obtain ⟨u1, u2, u3, u4⟩ := mem_cU.1 hu
    obtain ⟨v1, v2, v3, v4⟩ := mem_cU.1 hv
    show [((s : Int).toNat : Int), (t : Int), f.src.C (f.src.I (rw' (cObj f e) (s : Int).toNat 0)) u, e.src.C (e.src.I (rw' (cObj f e) (s : Int).toNat 1)) v] = [(s : Int), (t : Int), u, v]
    rw [Int.toNat_natCast, ← u3, ← v3, hf.src.unlI u1 u2, he.src.unlI v1 v2]
  · obtain ⟨s, t, u, v, hs, ht, hu, hv, _, rfl⟩ := cm_mem hr
    obtain ⟨u1, u2, u3, u4⟩ := mem_cU.1 hu
    obtain ⟨v1, v2, v3, v4⟩ := mem_cU.1 hv
    show [(s : Int), ((t : Int).toNat : Int), f.src.C u (f.src.I (rw' (cObj f e) (t : Int).toNat 0)), e.src.C v (e.src.I (rw' (cObj f e) (t : Int).toNat 1))] = [(s : Int), (t : Int), u, v]
    rw [Int.toNat_natCast, ← u4, ← v4, hf.src.unrI u1 u2, he.src.unrI v1 v2]
  · obtain ⟨s, t, u, v, hs, ht, hu, hv, _, rfl⟩ := cm_mem hr
    obtain ⟨t', w, u', v', ht', hw, hu', hv', _, rfl⟩ := cm_mem hq
    obtain ⟨w', y, u'', v'', hw', hy, hu'', hv'', _, rfl⟩ := cm_mem hz
    obtain rfl : t = t' := by have h1 : (t : Int) = t' := h1
                              omega
    obtain rfl : w = w' := by have h2 : (w : Int) = w' := h2
                              omega
    obtain ⟨u1, u2, u3, u4⟩ := mem_cU.1 hu
    obtain ⟨v1, v2, v3, v4⟩ := mem_cU.1 hv
    obtain ⟨x1, x2, x3, x4⟩ := mem_cU.1 hu'
    obtain ⟨y1, y2, y3, y4⟩ := mem_cU.1 hv'
    obtain ⟨z1, z2, z3, z4⟩ := mem_cU.1 hu''
    obtain ⟨p1, p2, p3, p4⟩ := mem_cU.1 hv''
    show [(s : Int), (y : Int), f.src.C (f.src.C u u') u'', e.src.C (e.src.C v v') v''] = [(s : Int), (y : Int), f.src.C u (f.src.C u' u''), e.src.C v (e.src.C v' v'')]
    rw [hf.src.assI u1 u2 x1 x2 z1 z2 (u4.trans x3.symm) (x4.trans z3.symm), he.src.assI v1 v2 y1 y2 p1 p2 (v4.trans y3.symm) (y4.trans p3.symm)]
theorem cm_cat (hf : IsFun f) (he : IsFun e) (hT : f.tgt = e.tgt) (h8 : (cObj f e).length ≤ 8) (h40 : (cmA f e).length ≤ 40) : IsCat (cmC f e (cmA f e).length) := by
  rw [cm_tab]; exact (cm_ok hf he hT h8 h40).cat
end
/-! ### Terminal objects -/
def TrmP (c : Cat) (x : Nat) : Prop := ∀ y, y < c.ob.toNat → (c.hom y x).length = 1
open Classical in
noncomputable def trmI (c : Cat) (n : Nat) : List Int := coll n fun x => if TrmP c x then [(x : Int)] else []
noncomputable def trmL (c : Cat) : List Int := trmI c c.ob.toNat
theorem mem_trm {c : Cat} {n : Nat} {z : Int} : z ∈ trmI c n ↔ ∃ x : Nat, x < n ∧ TrmP c x ∧ z = x := by
  unfold trmI
  rw [mem_coll]
  constructor
  · rintro ⟨x, hx, h⟩
    split at h
    · exact ⟨x, hx, by assumption, by simpa using h⟩
    · simp at h
  · rintro ⟨x, hx, hp, rfl⟩
    exact ⟨x, hx, by rw [if_pos hp]; simp⟩
theorem one_len {l : List Int} {a : Int} (hn : l.Nodup) (ha : a ∈ l) (h : ∀ b ∈ l, b = a) : l.length = 1 := by
  match l, hn, ha, h with
  | [], _, ha, _ => cases ha
  | [_], _, _, _ => rfl
  | x :: y :: r, hn, _, h =>
    have h1 := h x (by simp)
    have h2 := h y (by simp)
    rw [h1, h2] at hn
    simp at hn
theorem slice_trm {c : Cat} {x : Int} (hc : IsCat c) (h0 : 0 ≤ x) (h1 : x < c.ob) (h8 : (cObj (selfF c) (pointF c x)).length ≤ 8) (h40 : (cmA (selfF c) (pointF c x)).length ≤ 40) :
    ∃ p : Nat, p < (cObj (selfF c) (pointF c x)).length ∧ TrmP (cmC (selfF c) (pointF c x) (cmA (selfF c) (pointF c x)).length) p ∧ rw' (cObj (selfF c) (pointF c x)) p 0 = x := by
  have hf := selfF_fun hc
  have he := pointF_fun hc h0 h1
  have hT : (selfF c).tgt = (pointF c x).tgt := rfl
  have hO := cObj_ok hf he hT
  obtain ⟨i1, i2, i3, i4⟩ := hc.idI h0 h1
  have nx : (nums c.ob.toNat).getD x.toNat 0 = x := numsI h0 (by omega)
  have hm : [x, 0, c.I x] ∈ cObj (selfF c) (pointF c x) := by
    unfold cObj cO
    simp only [coll_zero, List.take_zero, List.map_nil, List.append_nil, List.mem_append, mem_coll, List.mem_map, List.not_mem_nil, or_false]
    refine ⟨x.toNat, ?_, 0, by show 0 < ([x] : List Int).length; simp, c.I x, ?_, ?_⟩
    · show x.toNat < (nums c.ob.toNat).length; rw [nums_len]; omega
    · refine Cat.mem_hom.2 ⟨i1, i2, ?_, ?_⟩
      · show c.F (c.I x) = (nums c.ob.toNat).getD x.toNat 0; rw [nx, i3]
      · show c.T (c.I x) = ([x] : List Int).getD 0 0; rw [i4]; rfl
    · rw [Int.toNat_of_nonneg h0]; rfl
  obtain ⟨p, p1, p2⟩ := List.getElem_of_mem hm
  have p3 : (cObj (selfF c) (pointF c x)).getD p [] = [x, 0, c.I x] := by rw [List.getD_eq_getElem?_getD, List.getElem?_eq_getElem p1, p2]; rfl
  have ok := cm_ok hf he hT h8 h40
  have hx : rw' (cObj (selfF c) (pointF c x)) p 0 = x := by unfold rw'; rw [p3]; rfl
  have hx1 : rw' (cObj (selfF c) (pointF c x)) p 1 = 0 := by unfold rw'; rw [p3]; rfl
  have hx2 : rw' (cObj (selfF c) (pointF c x)) p 2 = c.I x := by unfold rw'; rw [p3]; rfl
  refine ⟨p, p1, fun y hy => ?_, hx⟩
  have hy : y < (cObj (selfF c) (pointF c x)).length := hy
  obtain ⟨_, l0, l1, r0, r1, a0, a1, hF, hTo⟩ := hO y hy
  have l1 : rw' (cObj (selfF c) (pointF c x)) y 0 < c.ob := l1
  have r1 : rw' (cObj (selfF c) (pointF c x)) y 1 < 1 := r1
  have a1 : rw' (cObj (selfF c) (pointF c x)) y 2 < c.fr.length := a1
  have ez : rw' (cObj (selfF c) (pointF c x)) y 1 = 0 := by have r0 : 0 ≤ rw' (cObj (selfF c) (pointF c x)) y 1 := r0
                                                            omega
  have hF : c.F (rw' (cObj (selfF c) (pointF c x)) y 2) = (nums c.ob.toNat).getD (rw' (cObj (selfF c) (pointF c x)) y 0).toNat 0 := hF
  have hTo : c.T (rw' (cObj (selfF c) (pointF c x)) y 2) = ([x] : List Int).getD (rw' (cObj (selfF c) (pointF c x)) y 1).toNat 0 := hTo
  rw [numsI (y := rw' (cObj (selfF c) (pointF c x)) y 0) l0 (by omega)] at hF
  rw [ez] at hTo
  have hTo : c.T (rw' (cObj (selfF c) (pointF c x)) y 2) = x := hTo
  have an : ∀ u : Int, 0 ≤ u → u < c.fr.length → (selfF c).A u = u := fun u h0 h1 => numsI h0 h1
  have cc : ∀ u v : Int, 0 ≤ u → u < c.fr.length → v = 0 → (cC (selfF c) (pointF c x) (cObj (selfF c) (pointF c x)) y p u v ↔ c.C u (c.I x) = c.C (rw' (cObj (selfF c) (pointF c x)) y 2) (c.I x)) := fun u v h0 h1 hv => by
    unfold cC
    rw [an u h0 h1, hx2, hv]; rfl
  have hm2 : [(y : Int), (p : Int), rw' (cObj (selfF c) (pointF c x)) y 2, 0] ∈ cmA (selfF c) (pointF c x) :=
    mem_cArr.2 ⟨y, p, _, _, hy, p1, mem_cU.2 ⟨a0, a1, hF, hTo.trans hx.symm⟩, mem_cU.2 ⟨Int.le_refl 0, by show (0 : Int) < 1; decide, by rw [ez]; rfl, by rw [hx1]; rfl⟩, (cc _ _ a0 a1 rfl).2 rfl, rfl⟩
  obtain ⟨j, j1, j2, _⟩ := fnd_mem hm2
  have hml : (cmC (selfF c) (pointF c x) (cmA (selfF c) (pointF c x)).length).fr.length = (cmA (selfF c) (pointF c x)).length := by rw [cm_tab]; exact tab_m
  refine one_len (Cat.hom_nodup _ _ _) (a := (j : Int)) (Cat.mem_hom.2 ⟨Int.natCast_nonneg j, by rw [hml]; omega, ?_, ?_⟩) fun b hb => ?_
  · rw [cm_tab, tab_F j1, j2]; rfl
  · rw [cm_tab, tab_T j1, j2]; rfl
  · obtain ⟨b0, b1, b2, b3⟩ := Cat.mem_hom.1 hb
    rw [hml] at b1
    obtain ⟨k, rfl⟩ : ∃ k : Nat, b = k := ⟨b.toNat, by omega⟩
    have hk : k < (cmA (selfF c) (pointF c x)).length := by omega
    rw [cm_tab, tab_F hk] at b2
    rw [cm_tab, tab_T hk] at b3
    obtain ⟨s, t, u, v, hs, ht, hu, hv, hcc, hr⟩ := cm_mem (TabOK.mem hk)
    rw [hr] at b2 b3
    have b2 : (s : Int) = y := b2
    have b3 : (t : Int) = p := b3
    obtain rfl : s = y := by omega
    obtain rfl : t = p := by omega
    obtain ⟨u1, u2, u3, u4⟩ := mem_cU.1 hu
    obtain ⟨v1, v2, v3, v4⟩ := mem_cU.1 hv
    have v2 : v < 1 := v2
    have hv0 : v = 0 := by omega
    have u4 : c.T u = x := u4.trans hx
    have h5 := (cc u v u1 u2 hv0).1 hcc
    have h6 := hc.unrI (f := u) u1 u2
    have h7 := hc.unrI a0 a1
    rw [u4] at h6
    rw [hTo] at h7
    rw [h6, h7] at h5
    have : k = j := ok.inj hk j1 (by rw [hr, j2, h5, hv0])
    omega
end Go.Cats
end
section
namespace Go.Cats
theorem map_coll {α β : Type} (g : α → β) (f : Nat → List α) : ∀ n, (coll n f).map g = coll n fun i => (f i).map g
  | 0 => rfl
  | n + 1 => by rw [coll_succ, coll_succ, List.map_append, map_coll g f n]
theorem nums_nd (n : Nat) : (nums n).Nodup := by
  unfold nums
  refine List.Pairwise.map _ (fun a b h => ?_) (List.nodup_range (n := n))
  intro e; apply h; exact Int.ofNat.inj e
theorem mem_nums {n : Nat} {z : Int} : z ∈ nums n ↔ 0 ≤ z ∧ z < n := by
  unfold nums
  rw [List.mem_map]
  constructor
  · rintro ⟨i, hi, rfl⟩
    have := List.mem_range.1 hi
    omega
  · rintro ⟨h0, h1⟩
    exact ⟨z.toNat, List.mem_range.2 (by omega), by omega⟩
theorem nd_len {l m : List Int} (h1 : l.Nodup) (h2 : m.Nodup) (h : ∀ z, z ∈ l ↔ z ∈ m) : l.length = m.length := ((List.perm_ext_iff_of_nodup h1 h2).2 h).length_eq
theorem arrow_objs {c : Cat} (h : Shape c) : (cObj (selfF c) (selfF c)).length = c.fr.length := by
  have e : (cObj (selfF c) (selfF c)).map (fun r => r.getD 2 0) = coll c.ob.toNat fun a => coll c.ob.toNat fun b => c.hom a b := by
    unfold cObj cO
    simp only [coll_zero, List.take_zero, List.map_nil, List.append_nil, map_coll, List.map_map]
    have l1 : (selfF c).obs.length = c.ob.toNat := nums_len _
    rw [l1]
    refine coll_congr fun a ha => coll_congr fun b hb => ?_
    unfold cH
    have e1 : (selfF c).obs.getD a 0 = a := nums_at ha
    have e2 : (selfF c).obs.getD b 0 = b := nums_at hb
    rw [e1, e2]
    show (c.hom a b).map (fun h => h) = c.hom a b
    exact List.map_id' _
  have e2 := congrArg List.length e
  rw [List.length_map] at e2
  rw [e2, ← nums_len c.fr.length]
  refine nd_len (coll_nodup (fun a ha => coll_nodup (fun b hb => Cat.hom_nodup _ _ _) fun b b' x hb hb' h1 h2 => ?_) fun a a' x ha ha' h1 h2 => ?_) (nums_nd _) fun z => ?_
  · have q1 := (Cat.mem_hom.1 h1).2.2.2
    have q2 := (Cat.mem_hom.1 h2).2.2.2
    omega
  · obtain ⟨b, _, h1⟩ := mem_coll.1 h1
    obtain ⟨b', _, h2⟩ := mem_coll.1 h2
    have q1 := (Cat.mem_hom.1 h1).2.2.1
    have q2 := (Cat.mem_hom.1 h2).2.2.1
    omega
  · rw [mem_nums, mem_coll]
    constructor
    · rintro ⟨a, ha, hz⟩
      obtain ⟨b, hb, hz⟩ := mem_coll.1 hz
      exact ⟨(Cat.mem_hom.1 hz).1, (Cat.mem_hom.1 hz).2.1⟩
    · rintro ⟨h0, h1⟩
      have hF := h.frw z.toNat (by omega)
      have hT := h.tow z.toNat (by have := h.tol; omega)
      refine ⟨(c.F z).toNat, by show (c.fr.getD z.toNat 0).toNat < _; omega, mem_coll.2 ⟨(c.T z).toNat, by show (c.to.getD z.toNat 0).toNat < _; omega, Cat.mem_hom.2 ⟨h0, h1, ?_, ?_⟩⟩⟩
      · show c.fr.getD z.toNat 0 = ((c.fr.getD z.toNat 0).toNat : Int); omega
      · show c.to.getD z.toNat 0 = ((c.to.getD z.toNat 0).toNat : Int); omega
end Go.Cats
end
