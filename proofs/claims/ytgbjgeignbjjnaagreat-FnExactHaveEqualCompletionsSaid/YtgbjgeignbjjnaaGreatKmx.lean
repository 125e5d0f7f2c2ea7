/- Several texts in one: M01, M02, M03, N02, N03, N04, N05, N06, N07, N08, N09, M04, N10, N11, N12, N13, N14, N24, M05, M06, M07, M08, M09, M10, M11, M12, N25, N26, N27, N28, N39, N15, N16, N33, N01, N18, N19, N20, N31, N32, N29, N30. -/
set_option linter.unusedSimpArgs false
set_option linter.unusedVariables false
set_option linter.unusedSectionVars false
section
namespace Go.Cats
noncomputable def dec (P : Prop) : Bool:=@decide P (Classical.propDecidable P)
theorem dec_t {P : Prop} (h : P) : dec P = true:=by simp [dec,h]
theorem dec_f {P : Prop} (h : ¬ P) : dec P = false:=by simp [dec,h]
theorem dec_iff {P : Prop} : dec P = true ↔ P:=by simp [dec]
theorem dec_not {P : Prop} : dec P = false ↔ ¬ P:=by simp [dec]
theorem dec_congr {P Q : Prop} (h : P ↔ Q) : dec P = dec Q:=by
  by_cases p : P
  · rw [dec_t p,dec_t (h.1 p)]
  · rw [dec_f p,dec_f fun q=>p (h.2 q)]
theorem dec_eq {P : Prop} [Decidable P] : dec P = decide P:=by by_cases h : P <;> simp [dec,h]
/-! ### Scans -/
def scan {α : Type} (n : Nat) (p : Nat → Option α) : Option α:=(List.range n).findSome? p
theorem scan_succ {α : Type} (n : Nat) (p : Nat → Option α) : scan (n + 1) p = (scan n p).or (p n):=by
  unfold scan
  rw [List.range_succ,List.findSome?_append]
  simp [List.findSome?]
  cases p n <;> rfl
theorem scan_next {α : Type} {n : Nat} {p : Nat → Option α} (h : scan n p = none) (k : p n = none) : scan (n + 1) p = none:=by
  rw [scan_succ,h,k];rfl
theorem scan_none {α : Type} {n : Nat} {p : Nat → Option α} : scan n p = none ↔ ∀ i,i < n → p i = none:=by
  simp [scan,List.findSome?_eq_none_iff]
theorem scan_hit {α : Type} {n i : Nat} {p : Nat → Option α} {r : α} (hi : i < n) (h : scan i p = none) (k : p i = some r) : scan n p = some r:=by
  induction n with
  | zero=>omega
  | succ n ih =>
    rw [scan_succ]
    by_cases e : i = n
    · subst e;rw [h,k];rfl
    · rw [ih (by omega)];rfl
theorem scan_some {α : Type} {n : Nat} {p : Nat → Option α} {r : α} (h : scan n p = some r) : ∃ i,i < n ∧ p i = some r:=by
  unfold scan at h
  obtain ⟨i,hi,k⟩:=List.exists_of_findSome?_eq_some h
  exact ⟨i,by simpa using hi,k⟩
theorem all_succ {P : Nat → Prop} {n : Nat} (h : ∀ i,i < n → P i) (k : P n) : ∀ i,i < n + 1 → P i:=fun i hi=>by
  by_cases e : i = n
  · subst e;exact k
  · exact h i (by omega)
def coll {α : Type} (n : Nat) (f : Nat → List α) : List α:=(List.range n).flatMap f
theorem coll_zero {α : Type} (f : Nat → List α) : coll 0 f = []:=rfl
theorem coll_succ {α : Type} (n : Nat) (f : Nat → List α) : coll (n + 1) f = coll n f ++ f n:=by
  simp [coll,List.range_succ]
theorem mem_coll {α : Type} {n : Nat} {f : Nat → List α} {x : α} : x ∈ coll n f ↔ ∃ i,i < n ∧ x ∈ f i:=by
  simp [coll,List.mem_flatMap]
theorem coll_length_le {α : Type} {n k : Nat} {f : Nat → List α} (h : ∀ i,i < n → (f i).length ≤ k) : (coll n f).length ≤ n * k:=by
  induction n with
  | zero=>simp [coll]
  | succ n ih =>
    rw [coll_succ,List.length_append,Nat.succ_mul]
    have:=ih fun i hi=>h i (by omega)
    have:=h n (by omega)
    omega
theorem getD_mem {α : Type} {l : List α} {i : Nat} {d : α} (h : i < l.length) : l.getD i d ∈ l:=by
  simp [List.getD_eq_getElem?_getD,h]
theorem mem_getD {α : Type} {l : List α} {x d : α} (h : x ∈ l) : ∃ i,i < l.length ∧ l.getD i d = x:=by
  obtain ⟨i,hi,e⟩:=List.getElem_of_mem h
  exact ⟨i,hi,by simp [List.getD_eq_getElem?_getD,hi,e]⟩
def Within (l : List Int) (n : Int) : Prop:=∀ i,i < l.length → 0 ≤ l.getD i 0 ∧ l.getD i 0 < n
/-! ### Categories -/
structure Cat where
  ob : Int
  fr : List Int
  to : List Int
  id : List Int
  co : List (List Int)
def Cat.nil : Cat:=⟨0,[],[],[],[]⟩
abbrev Cat.F (c : Cat) (f : Int) : Int:=c.fr.getD f.toNat 0
abbrev Cat.T (c : Cat) (f : Int) : Int:=c.to.getD f.toNat 0
abbrev Cat.I (c : Cat) (x : Int) : Int:=c.id.getD x.toNat 0
abbrev Cat.C (c : Cat) (f g : Int) : Int:=(c.co.getD f.toNat []).getD g.toNat 0
structure CatB (c : Cat) : Prop where
  ob1 : -9223372036854775808 ≤ c.ob
  ob2 : c.ob ≤ 9223372036854775807
  fr : c.fr.length ≤ 1048576
  to : c.to.length ≤ 1048576
  id : c.id.length ≤ 1048576
  co : c.co.length ≤ 1048576
  row : ∀ f,f < c.co.length → (c.co.getD f []).length ≤ 1048576
def Cat.Entry (c : Cat) (f g : Nat) : Prop :=
  (c.to.getD f 0 = c.fr.getD g 0 ∧ (0 ≤ c.C f g ∧ c.C f g < c.fr.length) ∧ c.F (c.C f g) = c.fr.getD f 0 ∧ c.T (c.C f g) = c.to.getD g 0) ∨
  (c.to.getD f 0 ≠ c.fr.getD g 0 ∧ c.C f g = -1)
structure Shape (c : Cat) : Prop where
  ob0 : 0 ≤ c.ob
  ob8 : c.ob ≤ 8
  m40 : c.fr.length ≤ 40
  tol : c.to.length = c.fr.length
  frw : Within c.fr c.ob
  tow : Within c.to c.ob
  idl : (c.id.length : Int) = c.ob
  idw : Within c.id c.fr.length
  col : c.co.length = c.fr.length
  ide : ∀ x,x < c.id.length → c.F (c.id.getD x 0) = x ∧ c.T (c.id.getD x 0) = x
  coe : ∀ f,f < c.fr.length → (c.co.getD f []).length = c.fr.length ∧ ∀ g,g < c.fr.length → c.Entry f g
def Cat.fault1 (c : Cat) (f : Nat) : Option (Int × Int × Int × Int) :=
  if c.C (c.I (c.F f)) f ≠ f ∨ c.C f (c.I (c.T f)) ≠ f then some (1,f,0,0) else none
def Cat.fault2 (c : Cat) (f g h : Nat) : Option (Int × Int × Int × Int) :=
  if 0 ≤ c.C g h ∧ c.C (c.C f g) h ≠ c.C f (c.C g h) then some (2,f,g,h) else none
def Cat.fault2g (c : Cat) (f g : Nat) : Option (Int × Int × Int × Int) :=
  if c.C f g < 0 then none else scan c.fr.length fun h=>c.fault2 f g h
def Cat.fault (c : Cat) : Int × Int × Int × Int :=
  ((scan c.fr.length c.fault1).or (scan c.fr.length fun f=>scan c.fr.length fun g=>c.fault2g f g)).getD (0,0,0,0)
structure IsCat (c : Cat) : Prop extends Shape c where
  unl : ∀ f : Nat,f < c.fr.length → c.C (c.I (c.F f)) f = f
  unr : ∀ f : Nat,f < c.fr.length → c.C f (c.I (c.T f)) = f
  ass : ∀ f g h : Nat,f < c.fr.length → g < c.fr.length → h < c.fr.length → c.T f = c.F g → c.T g = c.F h → c.C (c.C f g) h = c.C f (c.C g h)
theorem Shape.neg {c : Cat} (s : Shape c) {f g : Nat} (hf : f < c.fr.length) (hg : g < c.fr.length) : c.C f g < 0 ↔ c.T f ≠ c.F g:=by
  have:=(s.coe f hf).2 g hg
  unfold Cat.Entry at this
  simp only [Cat.T,Cat.F,Int.toNat_natCast]
  rcases this with ⟨h1,h2,h3⟩|⟨h1,h2⟩
  · constructor
    · intro h;omega
    · intro h;exact absurd h1 h
  · constructor
    · intro _;exact h1
    · intro _;omega
theorem Shape.fault_zero {c : Cat} (s : Shape c) : c.fault.1 = 0 ↔ IsCat c:=by
  unfold Cat.fault
  constructor
  · intro h
    cases h1 : scan c.fr.length c.fault1 with
    | some r =>
      obtain ⟨i,hi,k⟩:=scan_some h1
      unfold Cat.fault1 at k
      split at k
      · simp at k;subst k;simp [h1] at h
      · cases k
    | none =>
      rw [h1] at h
      cases h2 : (scan c.fr.length fun f=>scan c.fr.length fun g=>c.fault2g f g) with
      | some r =>
        obtain ⟨i,hi,k⟩:=scan_some h2
        obtain ⟨j,hj,k⟩:=scan_some k
        unfold Cat.fault2g at k
        split at k
        · cases k
        · obtain ⟨l,hl,k⟩:=scan_some k
          unfold Cat.fault2 at k
          split at k
          · simp at k;subst k;simp [h2] at h
          · cases k
      | none =>
        rw [scan_none] at h1 h2
        refine ⟨s,fun f hf=>?_,fun f hf=>?_,fun f g h hf hg hh e1 e2=>?_⟩
        · have:=h1 f hf
          unfold Cat.fault1 at this
          split at this
          · cases this
          · rename_i n;exact Classical.byContradiction fun q=>n (.inl q)
        · have:=h1 f hf
          unfold Cat.fault1 at this
          split at this
          · cases this
          · rename_i n;exact Classical.byContradiction fun q=>n (.inr q)
        · have:=h2 f hf
          rw [scan_none] at this
          have:=this g hg
          unfold Cat.fault2g at this
          rw [if_neg (by rw [s.neg hf hg];exact fun q=>q e1),scan_none] at this
          have:=this h hh
          unfold Cat.fault2 at this
          split at this
          · cases this
          · rename_i n
            refine Classical.byContradiction fun q=>n ⟨?_,q⟩
            have:=(s.neg hg hh)
            exact Int.not_lt.1 fun q=>this.1 q e2
  · intro h
    have h1 : scan c.fr.length c.fault1 = none:=scan_none.2 fun f hf=>by
      unfold Cat.fault1
      rw [if_neg]
      rintro (q | q)
      · exact q (h.unl f hf)
      · exact q (h.unr f hf)
    have h2 : (scan c.fr.length fun f=>scan c.fr.length fun g=>c.fault2g f g) = none:=scan_none.2 fun f hf=>scan_none.2 fun g hg=>by
      unfold Cat.fault2g
      split
      · rfl
      · rename_i n1
        refine scan_none.2 fun h' hh=>?_
        unfold Cat.fault2
        rw [if_neg]
        rintro ⟨q1,q2⟩
        have e1:=s.neg hf hg
        have e2:=s.neg hg hh
        exact q2 (h.ass f g h' hf hg hh (Classical.byContradiction fun q=>n1 (e1.2 q)) (Classical.byContradiction fun q=>by have:=e2.2 q;omega))
    rw [h1,h2];rfl
theorem Cat.fault1_t {c : Cat} {f : Nat} (h : c.C (c.I (c.F f)) f ≠ f ∨ c.C f (c.I (c.T f)) ≠ f) : c.fault1 f = some ((1 : Int),(f : Int),(0 : Int),(0 : Int)):=if_pos h
theorem Cat.fault1_f {c : Cat} {f : Nat} (h : c.C (c.I (c.F f)) f = f) (k : c.C f (c.I (c.T f)) = f) : c.fault1 f = none:=if_neg fun q=>q.elim (fun q=>q h) fun q=>q k
theorem Cat.fault2_t {c : Cat} {f g h : Nat} (a : 0 ≤ c.C g h) (b : c.C (c.C f g) h ≠ c.C f (c.C g h)) : c.fault2 f g h = some ((2 : Int),(f : Int),(g : Int),(h : Int)):=if_pos ⟨a,b⟩
theorem Cat.fault2_f {c : Cat} {f g h : Nat} (a : 0 ≤ c.C g h → c.C (c.C f g) h = c.C f (c.C g h)) : c.fault2 f g h = none:=if_neg fun q=>q.2 (a q.1)
theorem Cat.fault2g_f {c : Cat} {f g : Nat} (a : c.C f g < 0) : c.fault2g f g = none:=if_pos a
theorem Cat.fault2g_t {c : Cat} {f g : Nat} (a : ¬ c.C f g < 0) : c.fault2g f g = scan c.fr.length fun h=>c.fault2 f g h:=if_neg a
theorem Cat.fault_1 {c : Cat} {f : Nat} {r : Int × Int × Int × Int} (h : scan f c.fault1 = none) (hf : f < c.fr.length) (k : c.fault1 f = some r) : c.fault = r:=by
  unfold Cat.fault
  rw [scan_hit hf h k];rfl
theorem Cat.fault_2 {c : Cat} {f g h : Nat} {r : Int × Int × Int × Int} (a : scan c.fr.length c.fault1 = none) (h1 : scan f (fun f=>scan c.fr.length fun g=>c.fault2g f g) = none) (hf : f < c.fr.length)
    (h2 : scan g (fun g=>c.fault2g f g) = none) (hg : g < c.fr.length) (n : ¬ c.C f g < 0) (h3 : scan h (fun h=>c.fault2 f g h) = none) (hh : h < c.fr.length) (k : c.fault2 f g h = some r) : c.fault = r:=by
  unfold Cat.fault
  rw [a,scan_hit hf h1 (scan_hit hg h2 (by rw [Cat.fault2g_t n];exact scan_hit hh h3 k))];rfl
theorem Cat.fault_0 {c : Cat} (a : scan c.fr.length c.fault1 = none) (h1 : scan c.fr.length (fun f=>scan c.fr.length fun g=>c.fault2g f g) = none) : c.fault = (0,0,0,0):=by
  unfold Cat.fault
  rw [a,h1];rfl
def Cat.homI (c : Cat) (x y : Int) (i : Nat) : List Int:=coll i fun f=>if c.fr.getD f 0 = x ∧ c.to.getD f 0 = y then [(f : Int)] else []
def Cat.hom (c : Cat) (x y : Int) : List Int:=c.homI x y c.fr.length
theorem Cat.homI_zero (c : Cat) (x y : Int) : c.homI x y 0 = []:=rfl
theorem Cat.homI_succ (c : Cat) (x y : Int) (i : Nat) : c.homI x y (i + 1) = c.homI x y i ++ if c.fr.getD i 0 = x ∧ c.to.getD i 0 = y then [(i : Int)] else []:=coll_succ _ _
theorem Cat.homI_len (c : Cat) (x y : Int) (i : Nat) : (c.homI x y i).length ≤ i:=by
  have:=coll_length_le (n:=i) (k:=1) (f:=fun f=>if c.fr.getD f 0 = x ∧ c.to.getD f 0 = y then [(f : Int)] else []) fun j _=>by split <;> simp
  simpa [Cat.homI] using this
theorem Cat.mem_hom {c : Cat} {x y f : Int} : f ∈ c.hom x y ↔ 0 ≤ f ∧ f < c.fr.length ∧ c.F f = x ∧ c.T f = y:=by
  unfold Cat.hom Cat.homI
  rw [mem_coll]
  constructor
  · rintro ⟨i,hi,h⟩
    split at h
    · rename_i e;simp at h;subst h
      simp only [Cat.F,Cat.T,Int.toNat_natCast]
      exact ⟨by omega,by omega,e.1,e.2⟩
    · simp at h
  · rintro ⟨h1,h2,h3,h4⟩
    refine ⟨f.toNat,by omega,?_⟩
    rw [if_pos ⟨h3,h4⟩]
    simp;omega
/-! ### Functors -/
structure Fun where
  src : Cat
  tgt : Cat
  obs : List Int
  ars : List Int
def Fun.nil : Fun:=⟨.nil,.nil,[],[]⟩
abbrev Fun.O (f : Fun) (x : Int) : Int:=f.obs.getD x.toNat 0
abbrev Fun.A (f : Fun) (a : Int) : Int:=f.ars.getD a.toNat 0
structure Fits (f : Fun) : Prop where
  obl : (f.obs.length : Int) = f.src.ob
  arl : f.ars.length = f.src.fr.length
  obw : Within f.obs f.tgt.ob
  arw : Within f.ars f.tgt.fr.length
  endf : ∀ a,a < f.ars.length → f.tgt.F (f.ars.getD a 0) = f.O (f.src.F a) ∧ f.tgt.T (f.ars.getD a 0) = f.O (f.src.T a)
  unit : ∀ x,x < f.src.id.length → f.A (f.src.id.getD x 0) = f.tgt.I (f.O x)
  comp : ∀ a b : Nat,a < f.src.fr.length → b < f.src.fr.length → 0 ≤ f.src.C a b → f.A (f.src.C a b) = f.tgt.C (f.A a) (f.A b)
structure IsFun (f : Fun) : Prop where
  src : IsCat f.src
  tgt : IsCat f.tgt
  fits : Fits f
/-! ### Set functors -/
structure SF where
  shape : Cat
  sizes : List Int
  acts : List (List Int)
structure SM where
  src : SF
  tgt : SF
  parts : List (List Int)
def SF.nil : SF:=⟨.nil,[],[]⟩
def SM.nil : SM:=⟨.nil,.nil,[]⟩
end Go.Cats
end
section
namespace Go.Cats
theorem scan_end {α : Type} {p : Nat → Option α} {i n : Nat} (h : scan i p = none) (a : i ≤ n) (b : n ≤ i) : scan n p = none:=by
  have : i = n:=by omega
  rw [← this];exact h
theorem take_snoc {α : Type} {a b : List α} {d : α} {i : Nat} (h : a.take i = b.take i) (ha : i < a.length) (hb : i < b.length) (e : a.getD i d = b.getD i d) : a.take (i + 1) = b.take (i + 1):=by
  have e1 : a.getD i d = a[i]:=by simp [List.getD_eq_getElem?_getD,ha]
  have e2 : b.getD i d = b[i]:=by simp [List.getD_eq_getElem?_getD,hb]
  rw [e1,e2] at e
  rw [List.take_succ_eq_append_getElem ha,List.take_succ_eq_append_getElem hb,h,e]
theorem take_end {α : Type} {a b : List α} {i : Nat} (h : a.take i = b.take i) (ha : a.length ≤ i) (hb : b.length ≤ i) : a = b:=by
  rwa [List.take_of_length_le ha,List.take_of_length_le hb] at h
theorem take_getD {α : Type} {a : List α} {d : α} {i : Nat} (ha : i < a.length) : a.take (i + 1) = a.take i ++ [a.getD i d]:=by
  rw [List.take_succ_eq_append_getElem ha]
  simp [List.getD_eq_getElem?_getD,ha]
theorem Cat.eq {c d : Cat} (h1 : c.ob = d.ob) (h2 : c.fr = d.fr) (h3 : c.to = d.to) (h4 : c.id = d.id) (h5 : c.co = d.co) : c = d:=by
  cases c;cases d;simp_all
end Go.Cats
end
section
namespace Go.Cats
structure SFB (f : SF) : Prop where
  shape : CatB f.shape
  sizes : f.sizes.length ≤ 1048576
  acts : f.acts.length ≤ 1048576
  row : ∀ a,a < f.acts.length → (f.acts.getD a []).length ≤ 1048576
abbrev SF.act (f : SF) (a : Nat) : List Int:=f.acts.getD a []
structure SFShape (f : SF) : Prop where
  cat : IsCat f.shape
  szl : (f.sizes.length : Int) = f.shape.ob
  szw : Within f.sizes 17
  acl : f.acts.length = f.shape.fr.length
  act : ∀ a,a < f.acts.length → ((f.acts.getD a []).length : Int) = f.sizes.getD (f.shape.fr.getD a 0).toNat 0 ∧ Within (f.acts.getD a []) (f.sizes.getD (f.shape.to.getD a 0).toNat 0)
def SF.fault1 (f : SF) (x e : Nat) : Option (Int × Int × Int × Int) :=
  if (f.acts.getD (f.shape.id.getD x 0).toNat []).getD e 0 ≠ e then some ((1 : Int),(x : Int),(e : Int),(0 : Int)) else none
def SF.fault1x (f : SF) (x : Nat) : Option (Int × Int × Int × Int):=scan (f.acts.getD (f.shape.id.getD x 0).toNat []).length fun e=>f.fault1 x e
def SF.fault2 (f : SF) (a b e : Nat) : Option (Int × Int × Int × Int) :=
  if (f.acts.getD ((f.shape.co.getD a []).getD b 0).toNat []).getD e 0 ≠ (f.acts.getD b []).getD ((f.acts.getD a []).getD e 0).toNat 0 then some ((2 : Int),(a : Int),(b : Int),(e : Int)) else none
def SF.fault2b (f : SF) (a b : Nat) : Option (Int × Int × Int × Int) :=
  if (f.shape.co.getD a []).getD b 0 < 0 then none else scan (f.acts.getD a []).length fun e=>f.fault2 a b e
def SF.fault2a (f : SF) (a : Nat) : Option (Int × Int × Int × Int):=scan (f.shape.co.getD a []).length fun b=>f.fault2b a b
def SF.fault (f : SF) : Int × Int × Int × Int :=
  ((scan f.shape.id.length f.fault1x).or (scan f.shape.co.length f.fault2a)).getD (0,0,0,0)
structure IsSF (f : SF) : Prop extends SFShape f where
  unit : ∀ x,x < f.shape.id.length → ∀ e,e < (f.acts.getD (f.shape.id.getD x 0).toNat []).length → (f.acts.getD (f.shape.id.getD x 0).toNat []).getD e 0 = e
  comp : ∀ a b,a < f.shape.fr.length → b < f.shape.fr.length → 0 ≤ (f.shape.co.getD a []).getD b 0 → ∀ e,e < (f.acts.getD a []).length →
    (f.acts.getD ((f.shape.co.getD a []).getD b 0).toNat []).getD e 0 = (f.acts.getD b []).getD ((f.acts.getD a []).getD e 0).toNat 0
/-! ### Natural maps -/
structure SMB (m : SM) : Prop where
  src : SFB m.src
  tgt : SFB m.tgt
  parts : m.parts.length ≤ 1048576
  row : ∀ x,x < m.parts.length → (m.parts.getD x []).length ≤ 1048576
structure SMFits (m : SM) : Prop where
  len : m.parts.length = m.src.sizes.length
  map : ∀ x,x < m.parts.length → ((m.parts.getD x []).length : Int) = m.src.sizes.getD x 0 ∧ Within (m.parts.getD x []) (m.tgt.sizes.getD x 0)
structure SMShape (m : SM) : Prop where
  src : IsSF m.src
  tgt : IsSF m.tgt
  same : m.src.shape = m.tgt.shape
  fits : SMFits m
structure IsSM (m : SM) : Prop extends SMShape m where
  nat : ∀ a,a < m.src.shape.fr.length → ∀ e,e < (m.src.acts.getD a []).length →
    (m.parts.getD (m.src.shape.to.getD a 0).toNat []).getD ((m.src.acts.getD a []).getD e 0).toNat 0 = (m.tgt.acts.getD a []).getD ((m.parts.getD (m.src.shape.fr.getD a 0).toNat []).getD e 0).toNat 0
end Go.Cats
end
section
namespace Go.Cats
abbrev pv (P : List (List Int)) (y i : Nat) : Int:=(P.getD y []).getD i 0
def pset (P : List (List Int)) (y i : Nat) (k : Int) : List (List Int):=P.set y ((P.getD y []).set i k)
section
variable (f g : SF) (once : Bool)
abbrev SF.av (f : SF) (a : Nat) (e : Nat) : Int:=(f.acts.getD a []).getD e 0
abbrev SF.ty (f : SF) (a : Nat) : Nat:=(f.shape.to.getD a 0).toNat
abbrev SF.fx (f : SF) (a : Nat) : Nat:=(f.shape.fr.getD a 0).toNat
def stepS (e u : Nat) (P : List (List Int)) (a : Nat) : Option (List (List Int)) :=
  if 0 ≤ pv P (f.ty a) (f.av a e).toNat then (if pv P (f.ty a) (f.av a e).toNat = g.av a u then some P else none)
  else if once = true ∧ g.av a u ∈ P.getD (f.ty a) [] then none else some (pset P (f.ty a) (f.av a e).toNat (g.av a u))
def setN (x e u : Nat) (P : List (List Int)) : Nat → Option (List (List Int))
  | 0=>some P
  | n + 1=>(setN x e u P n).bind fun Q=>if f.shape.fr.getD n 0 = x then stepS f g once e u Q n else some Q
def setS (x e u : Nat) (P : List (List Int)) : Option (List (List Int)):=setN f g once x e u P f.shape.fr.length
structure Good (P : List (List Int)) : Prop where
  len : P.length = f.sizes.length
  row : ∀ y,y < P.length → ((P.getD y []).length : Int) = f.sizes.getD y 0
  rng : ∀ y i,y < P.length → i < (P.getD y []).length → -1 ≤ pv P y i ∧ pv P y i < g.sizes.getD y 0
  cl : ∀ b i,b < f.shape.fr.length → i < (P.getD (f.fx b) []).length → 0 ≤ pv P (f.fx b) i → pv P (f.ty b) (f.av b i).toNat = g.av b (pv P (f.fx b) i).toNat
  inj : once = true → ∀ y i j,y < P.length → i < (P.getD y []).length → j < (P.getD y []).length → 0 ≤ pv P y i → pv P y i = pv P y j → i = j
def Ext' (P Q : List (List Int)) : Prop:=P.length = Q.length ∧ (∀ y,(P.getD y []).length = (Q.getD y []).length) ∧ ∀ y i,y < P.length → i < (P.getD y []).length → 0 ≤ pv P y i → pv Q y i = pv P y i
end
variable {f g : SF} {once : Bool} {x e u : Nat} {P Q : List (List Int)}
structure SPair (f g : SF) : Prop where
  src : IsSF f
  tgt : IsSF g
  one : f.shape = g.shape
structure Gd (f g : SF) (once : Bool) (P : List (List Int)) : Prop where
  len : P.length = f.sizes.length
  row : ∀ y,y < P.length → ((P.getD y []).length : Int) = f.sizes.getD y 0
  rng : ∀ y i,y < P.length → i < (P.getD y []).length → -1 ≤ pv P y i ∧ pv P y i < g.sizes.getD y 0
  inj : once = true → ∀ y i j,y < P.length → i < (P.getD y []).length → j < (P.getD y []).length → 0 ≤ pv P y i → pv P y i = pv P y j → i = j
end Go.Cats
end
section
namespace Go.Cats
def fuI (P : List (List Int)) (y : Nat) (i : Nat) : Option (Nat × Nat):=if pv P y i < 0 then some (y,i) else none
def fuR (P : List (List Int)) (y : Nat) : Option (Nat × Nat):=scan (P.getD y []).length (fuI P y)
def fuP (P : List (List Int)) : Option (Nat × Nat):=scan P.length (fuR P)
section
variable (f g : SF) (once : Bool)
def dfs : Nat → List (List Int) → List (List (List Int))
  | 0,_=>[]
  | n + 1,P=>match fuP P with
    | none=>[P]
    | some (x,e)=>(List.range (g.sizes.getD x 0).toNat).flatMap fun u=>match setS f g once x e u P with
      | none=>[]
      | some Q=>dfs n Q
end
variable {f g : SF} {once : Bool} {x e u : Nat} {P Q : List (List Int)}
theorem filt_le : ∀ {r s : List Int},r.length = s.length → (∀ i,i < r.length → 0 ≤ r.getD i 0 → s.getD i 0 = r.getD i 0) → (s.filter fun v=>decide (v < 0)).length ≤ (r.filter fun v=>decide (v < 0)).length
  | [],[],_,_=>Nat.le_refl _
  | [],_ :: _,h,_=>by simp at h
  | _ :: _,[],h,_=>by simp at h
  | a :: r,b :: s,hl,h=>by
    have ih:=filt_le (r:=r) (s:=s) (by simpa using hl) (fun i hi h0=>by
      have:=h (i + 1) (by simp;omega) (by simpa using h0)
      simpa using this)
    have h0:=h 0 (by simp)
    simp only [List.getD_cons_zero] at h0
    simp only [List.filter_cons]
    by_cases ha : a < 0
    · by_cases hb : b < 0
      · simp [ha,hb];exact ih
      · simp [ha,hb];omega
    · have:=h0 (by omega)
      subst this
      simp [ha];exact ih
theorem filt_lt : ∀ {r s : List Int},r.length = s.length → (∀ i,i < r.length → 0 ≤ r.getD i 0 → s.getD i 0 = r.getD i 0) → ∀ j,j < r.length → r.getD j 0 < 0 → 0 ≤ s.getD j 0 → (s.filter fun v=>decide (v < 0)).length < (r.filter fun v=>decide (v < 0)).length
  | [],_,_,_,j,hj,_,_=>by simp at hj
  | _ :: _,[],h,_,_,_,_,_=>by simp at h
  | a :: r,b :: s,hl,h,j,hj,h1,h2=>by
    have hl' : r.length = s.length:=by simpa using hl
    have hs : ∀ i,i < r.length → 0 ≤ r.getD i 0 → s.getD i 0 = r.getD i 0:=fun i hi h0=>by
      have:=h (i + 1) (by simp;omega) (by simpa using h0)
      simpa using this
    have h0:=h 0 (by simp)
    simp only [List.getD_cons_zero] at h0
    simp only [List.filter_cons]
    cases j with
    | zero =>
      have ha : a < 0:=by simpa using h1
      have hb : ¬ b < 0 := by have : 0 ≤ b := by simpa using h2
                              omega
      have:=filt_le hl' hs
      simp [ha,hb];omega
    | succ j =>
      have ih:=filt_lt hl' hs j (by simpa using hj) (by simpa using h1) (by simpa using h2)
      by_cases ha : a < 0
      · by_cases hb : b < 0
        · simp [ha,hb];exact ih
        · simp [ha,hb];omega
      · have:=h0 (by omega)
        subst this
        simp [ha];exact ih
end Go.Cats
end
section
namespace Go.Cats
section
variable (f g : SF) (once : Bool)
def newS (e : Nat) (P : List (List Int)) (a : Nat) : Prop:=¬ 0 ≤ pv P (f.ty a) (f.av a e).toNat
instance (e : Nat) (P : List (List Int)) (a : Nat) : Decidable (newS f e P a):=by unfold newS;infer_instance
def outN (c : Cat) (x : Nat) (n : Nat) : List Nat:=(List.range n).filter fun a=>decide (c.fr.getD a 0 = x)
end
variable {f g : SF} {once : Bool} {x e u : Nat} {P Q : List (List Int)}
def undo (P : List (List Int)) (N : List (Int × Int)) : List (List Int):=N.foldl (fun P p=>pset P p.1.toNat p.2.toNat (-1)) P
end Go.Cats
end
section
namespace Go.Cats
def sumI (l : List Int) : Nat → Int
  | 0=>0
  | n + 1=>sumI l n + l.getD n 0
theorem sumI_zero (l : List Int) : sumI l 0 = 0:=rfl
def SF.elems (f : SF) : Int:=sumI f.sizes f.sizes.length
def outI (c : Cat) (x n : Nat) : List Int:=(outN c x n).map fun a : Nat=>(a : Int)
theorem outI_zero (c : Cat) (x : Nat) : outI c x 0 = []:=rfl
theorem has_hit {l : List Int} {n : Int} {i : Nat} (hi : i < l.length) (h : l.getD i 0 = n) : n ∈ l:=by
  rw [← h,List.getD_eq_getElem?_getD,List.getElem?_eq_getElem hi];exact List.getElem_mem hi
theorem has_none {l : List Int} {n : Int} {i : Nat} (h : ∀ j,j < i → ¬ l.getD j 0 = n) (hi : l.length ≤ i) : ¬ n ∈ l:=by
  intro hm
  obtain ⟨j,hj,e⟩:=List.getElem_of_mem hm
  refine h j (by omega) ?_
  rw [List.getD_eq_getElem?_getD,List.getElem?_eq_getElem hj];exact e
end Go.Cats
end
section
namespace Go.Cats
section
variable (f g : SF) (once : Bool)
end
variable {f g : SF} {once : Bool} {x e u j a : Nat} {P Q : List (List Int)} {N : List (Int × Int)}
variable {y i k : Int}
end Go.Cats
end
section
namespace Go.Cats
section
variable (f g : SF) (once : Bool)
def refQ (x e u : Nat) (P : List (List Int)) (a : Nat) : List (List Int):=(setN f g once x e u P a).getD P
end
variable {f g : SF} {once : Bool} {x e u a : Nat} {P Q : List (List Int)}
section
variable (h : setN f g once x e u P a = some (refQ f g once x e u P a)) (ha : a < f.shape.fr.length) (hx : f.shape.fr.getD a 0 = x)
include h ha hx
end
end Go.Cats
end
section
namespace Go.Cats
section
variable (f g : SF) (once : Bool)
end
variable {f g : SF} {once : Bool} {x e n : Nat} {P Q : List (List Int)}
end Go.Cats
end
section
namespace Go.Cats
section
variable (f g : SF) (once : Bool)
end
variable {f g : SF} {once : Bool} {n x e u : Nat} {P Q : List (List Int)}
theorem take_take (A B C : List (List (List Int))) (k : Nat) : ((A ++ B).take k ++ C).take k = (A ++ (B ++ C)).take k:=by
  rw [← List.append_assoc,List.take_append,List.take_append (l₁:=A ++ B),List.take_take,Nat.min_self,List.length_take]
  by_cases h : k ≤ (A ++ B).length
  · rw [Nat.min_eq_left h,Nat.sub_self,Nat.sub_eq_zero_of_le h]
  · rw [Nat.min_eq_right (by omega)]
end Go.Cats
end
section
namespace Go.Cats
def idxO (l : List Int) (n : Int) (i : Nat) : Option Int:=if l.getD i 0 = n then some (i : Int) else none
def idxOf (l : List Int) (n : Int) : Int:=(scan l.length (idxO l n)).getD (-1)
theorem idxOf_hit {l : List Int} {n : Int} {i : Nat} (h : scan i (idxO l n) = none) (hi : i < l.length) (k : l.getD i 0 = n) : idxOf l n = i:=by
  unfold idxOf
  rw [scan_hit hi h (show idxO l n i = some (i : Int) from if_pos k)];rfl
theorem idxOf_none {l : List Int} {n : Int} (h : scan l.length (idxO l n) = none) : idxOf l n = -1:=by
  unfold idxOf
  rw [h];rfl
theorem idxO_f {l : List Int} {n : Int} {i : Nat} (k : ¬ l.getD i 0 = n) : idxO l n i = none:=if_neg k
theorem idxOf_of {l : List Int} {n : Int} (h : idxOf l n ≠ -1) : 0 ≤ idxOf l n ∧ idxOf l n < l.length ∧ l.getD (idxOf l n).toNat 0 = n:=by
  unfold idxOf at h ⊢
  cases hs : scan l.length (idxO l n) with
  | none=>rw [hs] at h;exact absurd rfl h
  | some r =>
    obtain ⟨i,hi,k⟩:=scan_some hs
    unfold idxO at k
    split at k
    · rename_i q;simp at k;subst k
      simp only [Option.getD_some,Int.toNat_natCast]
      exact ⟨by omega,by omega,q⟩
    · cases k
theorem idxOf_mem {l : List Int} {n : Int} (h : n ∈ l) : 0 ≤ idxOf l n ∧ idxOf l n < l.length ∧ l.getD (idxOf l n).toNat 0 = n:=by
  refine idxOf_of fun e=>?_
  unfold idxOf at e
  cases hs : scan l.length (idxO l n) with
  | none =>
    obtain ⟨i,hi,k⟩:=mem_getD (d:=0) h
    have:=scan_none.1 hs i hi
    unfold idxO at this
    rw [if_pos k] at this
    cases this
  | some r =>
    rw [hs] at e
    obtain ⟨i,hi,k⟩:=scan_some hs
    unfold idxO at k
    split at k
    · simp at k;subst k;simp at e
    · cases k
def Cat.small (c : Cat) (x : Int) : Prop:=∀ y : Nat,(y : Int) < c.ob → (c.hom x y).length ≤ 16
theorem Cat.hom_len (c : Cat) (x y : Int) : (c.hom x y).length ≤ c.fr.length:=c.homI_len x y _
end Go.Cats
end
section
namespace Go.Cats
section
variable (f g : SF) (once : Bool)
end
variable {f g : SF} {once : Bool} {n x e u : Nat} {P Q : List (List Int)}
end Go.Cats
end
section
namespace Go.Cats
/-! ### Results, taken up one by one -/
section
variable {α β : Type} (s : α → β → Bool × α)
def eat : α → List β → Bool × α
  | o,[]=>(true,o)
  | o,q :: D=>if (s o q).1 = true then eat (s o q).2 D else (false,(s o q).2)
end
section
variable {α β : Type} {s : α → β → Bool × α} {o : α} {D E : List β} {q : β}
theorem eat_nil : eat s o [] = (true,o):=rfl
theorem eat_t (h : (s o q).1 = true) : eat s o (q :: D) = eat s (s o q).2 D:=by rw [eat];exact if_pos h
theorem eat_f (h : (s o q).1 = false) : eat s o (q :: D) = (false,(s o q).2):=by rw [eat];exact if_neg (by rw [h];simp)
theorem eat_one : eat s o [q] = s o q:=by
  cases h : (s o q).1 with
  | true=>rw [eat_t h,eat_nil,← h]
  | false=>rw [eat_f h,← h]
theorem eat_go : ∀ {D : List β} {o : α},(eat s o D).1 = true → eat s o (D ++ E) = eat s (eat s o D).2 E
  | [],o,_=>rfl
  | q :: D,o,h=>by
    cases hq : (s o q).1 with
    | true =>
      rw [eat_t hq] at h
      rw [List.cons_append,eat_t hq,eat_t hq,eat_go h]
    | false=>rw [eat_f hq] at h;cases h
theorem eat_stop : ∀ {D : List β} {o : α},(eat s o D).1 = false → eat s o (D ++ E) = eat s o D
  | [],o,h=>by cases h
  | q :: D,o,h=>by
    cases hq : (s o q).1 with
    | true =>
      rw [eat_t hq] at h
      rw [List.cons_append,eat_t hq,eat_t hq,eat_stop h]
    | false=>rw [List.cons_append,eat_f hq,eat_f hq]
end
/-! ### The way back -/
variable {f g : SF} {once : Bool} {x e u n : Nat} {P Q : List (List Int)} {N : List (Int × Int)}
structure ChF (f g : SF) (once : Bool) (x e u : Nat) (P Q : List (List Int)) (N : List (Int × Int)) (ok : Bool) : Prop where
  len : Q.length = P.length
  row : ∀ y,(Q.getD y []).length = (P.getD y []).length
  nl : N.length ≤ 4096
  at1 : ∀ i,i < N.length → 0 ≤ (N.getD i (0,0)).1 ∧ (N.getD i (0,0)).1.toNat < P.length ∧ 0 ≤ (N.getD i (0,0)).2 ∧ (N.getD i (0,0)).2.toNat < (P.getD (N.getD i (0,0)).1.toNat []).length
  back : undo Q N = P
  yes : ok = true → setS f g once x e u P = some Q
  no : ok = false → setS f g once x e u P = none
end Go.Cats
end
section
namespace Go.Cats
def lexP : List Nat → List (List Int)
  | []=>[[]]
  | s :: S=>(List.range s).flatMap fun v : Nat=>(lexP S).map fun l=>(v : Int) :: l
def contB : List Int → List Int → Bool
  | [],[]=>true
  | a :: A,q :: Q=>(decide (a < 0) || decide (q = a)) && contB A Q
  | _,_=>false
def extW (W : List Int → Bool) (S : List Nat) (A : List Int) : List (List Int):=(lexP S).filter fun Q=>contB A Q && W Q
theorem mem_lexP : ∀ {S : List Nat} {Q : List Int},Q ∈ lexP S ↔ Q.length = S.length ∧ ∀ i,i < Q.length → 0 ≤ Q.getD i 0 ∧ Q.getD i 0 < S.getD i 0
  | [],Q=>by
    simp only [lexP,List.mem_singleton,List.length_nil]
    constructor
    · rintro rfl;exact ⟨rfl,fun i hi=>by simp at hi⟩
    · rintro ⟨h,_⟩;exact List.length_eq_zero_iff.1 h
  | s :: S,Q=>by
    simp only [lexP,List.mem_flatMap,List.mem_range,List.mem_map]
    constructor
    · rintro ⟨v,hv,l,hl,rfl⟩
      obtain ⟨h1,h2⟩:=mem_lexP.1 hl
      refine ⟨by simp [h1],fun i hi=>?_⟩
      cases i with
      | zero=>simpa using hv
      | succ i=>simpa using h2 i (by simpa using hi)
    · rintro ⟨h1,h2⟩
      cases Q with
      | nil=>simp at h1
      | cons q Q =>
        have h0:=h2 0 (by simp)
        simp only [List.getD_cons_zero] at h0
        refine ⟨q.toNat,by omega,Q,mem_lexP.2 ⟨by simpa using h1,fun i hi=>by have:=h2 (i + 1) (by simp;omega);simpa using this⟩,?_⟩
        rw [Int.toNat_of_nonneg h0.1]
theorem contB_iff : ∀ {A Q : List Int},contB A Q = true ↔ A.length = Q.length ∧ ∀ i,i < A.length → 0 ≤ A.getD i 0 → Q.getD i 0 = A.getD i 0
  | [],[]=>by simp [contB]
  | [],_ :: _=>by simp [contB]
  | _ :: _,[]=>by simp [contB]
  | a :: A,q :: Q=>by
    simp only [contB,Bool.and_eq_true,Bool.or_eq_true,decide_eq_true_eq,contB_iff (A:=A) (Q:=Q),List.length_cons,Nat.add_right_cancel_iff]
    constructor
    · rintro ⟨h0,h1,h2⟩
      refine ⟨h1,fun i hi h=>?_⟩
      cases i with
      | zero=>simp only [List.getD_cons_zero] at h ⊢;omega
      | succ i=>simp only [List.getD_cons_succ] at h ⊢;exact h2 i (by omega) h
    · rintro ⟨h1,h2⟩
      refine ⟨?_,h1,fun i hi h=>?_⟩
      · have:=h2 0 (by omega)
        simp only [List.getD_cons_zero] at this
        omega
      · have:=h2 (i + 1) (by omega)
        simpa using this (by simpa using h)
theorem mem_extW {W : List Int → Bool} {S : List Nat} {A Q : List Int} : Q ∈ extW W S A ↔ Q ∈ lexP S ∧ contB A Q = true ∧ W Q = true:=by
  unfold extW
  rw [List.mem_filter,Bool.and_eq_true]
theorem extW_congr {W : List Int → Bool} {S : List Nat} {A B : List Int} (h : ∀ Q,Q ∈ lexP S → W Q = true → (contB A Q = true ↔ contB B Q = true)) : extW W S A = extW W S B:=by
  unfold extW
  refine List.filter_congr fun Q hQ=>?_
  cases hW : W Q with
  | false=>rw [Bool.and_false,Bool.and_false]
  | true =>
    rw [Bool.and_true,Bool.and_true]
    have:=h Q hQ hW
    cases h1 : contB A Q <;> cases h2 : contB B Q <;> simp_all
theorem extW_nil {W : List Int → Bool} {S : List Nat} {A : List Int} (h : ∀ Q,Q ∈ lexP S → W Q = true → contB A Q = true → False) : extW W S A = []:=by
  rw [List.eq_nil_iff_forall_not_mem]
  intro Q hQ
  obtain ⟨h1,h2,h3⟩:=mem_extW.1 hQ
  exact h Q h1 h3 h2
theorem flat_one {β : Type} {s : Nat} {a : Int} {g : Nat → List β} : ((List.range s).flatMap fun v : Nat=>if (v : Int) = a then g v else []) = if 0 ≤ a ∧ a < s then g a.toNat else []:=by
  induction s with
  | zero=>rw [if_neg (by omega)];rfl
  | succ s ih =>
    rw [List.range_succ,List.flatMap_append,ih,List.flatMap_cons,List.flatMap_nil,List.append_nil]
    by_cases h : (s : Int) = a
    · subst h
      rw [if_neg (by omega),if_pos rfl,if_pos (by omega),List.nil_append,Int.toNat_natCast]
    · rw [if_neg h,List.append_nil]
      by_cases h1 : 0 ≤ a ∧ a < s
      · rw [if_pos h1,if_pos (by omega)]
      · rw [if_neg h1,if_neg (by omega)]
theorem extW_cons {W : List Int → Bool} {s : Nat} {S : List Nat} {a : Int} {A : List Int} :
    extW W (s :: S) (a :: A) = (List.range s).flatMap fun v : Nat=>if a < 0 ∨ (v : Int) = a then (extW (fun Q=>W ((v : Int) :: Q)) S A).map fun l=>(v : Int) :: l else []:=by
  unfold extW
  rw [lexP,List.filter_flatMap]
  congr 1
  funext v
  rw [List.filter_map]
  by_cases h : a < 0 ∨ (v : Int) = a
  · rw [if_pos h]
    congr 1
    refine List.filter_congr fun Q _=>?_
    have : (decide (a < 0) || decide ((v : Int) = a)) = true:=by simpa using h
    simp only [Function.comp,contB,this,Bool.true_and]
  · rw [if_neg h]
    have : (decide (a < 0) || decide ((v : Int) = a)) = false:=by simpa using h
    have e : ((fun Q=>contB (a :: A) Q && W Q) ∘ fun l=>(v : Int) :: l) = fun _=>false:=by
      funext Q
      simp only [Function.comp,contB,this,Bool.false_and]
    rw [e]
    simp
theorem extW_set {W : List Int → Bool} {s : Nat} {S : List Nat} {a : Int} {A : List Int} (h : 0 ≤ a) : extW W (s :: S) (a :: A) = if a < s then (extW (fun Q=>W (a :: Q)) S A).map fun l=>a :: l else []:=by
  rw [extW_cons]
  have : (fun v : Nat=>if a < 0 ∨ (v : Int) = a then (extW (fun Q=>W ((v : Int) :: Q)) S A).map (fun l=>(v : Int) :: l) else []) = fun v : Nat=>if (v : Int) = a then (extW (fun Q=>W ((v : Int) :: Q)) S A).map (fun l=>(v : Int) :: l) else []:=by
    funext v
    by_cases h1 : (v : Int) = a
    · rw [if_pos (.inr h1),if_pos h1]
    · rw [if_neg (by omega),if_neg h1]
  rw [this,flat_one]
  by_cases h1 : a < s
  · rw [if_pos ⟨h,h1⟩,if_pos h1,Int.toNat_of_nonneg h]
  · rw [if_neg (by omega),if_neg h1]
theorem extW_branch : ∀ {W : List Int → Bool} {S : List Nat} {A : List Int} {i : Nat},A.length = S.length → i < A.length → (∀ j,j < i → 0 ≤ A.getD j 0) → A.getD i 0 < 0 →
    extW W S A = (List.range (S.getD i 0)).flatMap fun u : Nat=>extW W S (A.set i (u : Int))
  | W,[],A,i,hl,hi,_,_=>by simp at hl;subst hl;simp at hi
  | W,s :: S,[],i,hl,hi,_,_=>by simp at hi
  | W,s :: S,a :: A,0,hl,hi,_,h0=>by
    simp only [List.getD_cons_zero] at h0 ⊢
    rw [extW_cons]
    rw [List.flatMap_def,List.flatMap_def]
    congr 1
    refine List.map_congr_left fun u hu=>?_
    have hu:=List.mem_range.1 hu
    rw [List.set_cons_zero,extW_set (by omega),if_pos (Or.inl h0),if_pos (show (u : Int) < s by omega)]
  | W,s :: S,a :: A,i + 1,hl,hi,hlt,h0=>by
    have ha:=hlt 0 (by omega)
    simp only [List.getD_cons_zero,List.getD_cons_succ] at ha h0 ⊢
    have ih:=extW_branch (W:=fun Q=>W (a :: Q)) (S:=S) (A:=A) (i:=i) (by simpa using hl) (by simpa using hi) (fun j hj=>by have:=hlt (j + 1) (by omega);simpa using this) h0
    rw [extW_set ha]
    have : (fun u : Nat=>extW W (s :: S) ((a :: A).set (i + 1) (u : Int))) = fun u : Nat=>if a < s then (extW (fun Q=>W (a :: Q)) S (A.set i (u : Int))).map (fun l=>a :: l) else []:=by
      funext u
      rw [List.set_cons_succ,extW_set ha]
    rw [this]
    by_cases h1 : a < s
    · rw [if_pos h1,ih,List.map_flatMap]
      simp only [if_pos h1]
    · rw [if_neg h1]
      simp only [if_neg h1]
      simp
theorem extW_full : ∀ {W : List Int → Bool} {S : List Nat} {A : List Int},A.length = S.length → (∀ j,j < A.length → 0 ≤ A.getD j 0 ∧ A.getD j 0 < S.getD j 0) → extW W S A = if W A = true then [A] else []
  | W,[],A,hl,_=>by
    have : A = []:=List.length_eq_zero_iff.1 hl
    subst this
    cases h : W [] <;> simp [extW,lexP,contB,h]
  | W,s :: S,[],hl,_=>by simp at hl
  | W,s :: S,a :: A,hl,h=>by
    have h0:=h 0 (by simp)
    simp only [List.getD_cons_zero] at h0
    rw [extW_set h0.1,if_pos h0.2,extW_full (by simpa using hl) (fun j hj=>by have:=h (j + 1) (by simp;omega);simpa using this)]
    split <;> simp_all
end Go.Cats
end
section
namespace Go.Cats
structure Rule where
  fr : Int
  to : Int
  by_ : List Int
instance : Inhabited Rule:=⟨⟨0,0,[]⟩⟩
def rulesAt (rs : List Rule) (i : Nat) : List Rule:=rs.filter fun r=>decide (r.fr = i)
def okW (rs : List Rule) (Q : List Int) : Bool:=rs.all fun r=>decide (Q.getD r.to.toNat 0 = r.by_.getD (Q.getD r.fr.toNat 0).toNat 0)
structure RulesW (S : List Nat) (rs : List Rule) : Prop where
  fr : ∀ r ∈ rs,0 ≤ r.fr ∧ r.fr < S.length
  to : ∀ r ∈ rs,0 ≤ r.to ∧ r.to < S.length
  len : ∀ r ∈ rs,r.by_.length = S.getD r.fr.toNat 0
  val : ∀ r ∈ rs,∀ e : Nat,e < S.getD r.fr.toNat 0 → 0 ≤ r.by_.getD e 0 ∧ r.by_.getD e 0 < S.getD r.to.toNat 0
abbrev St:=Bool × List Int × List Int
section
variable {f : Nat → Int → List Int → List Int → St} {e : Int} {r : Rule} {l m : List Rule} {A B C N Q : List Int} {rs : List Rule} {S : List Nat} {n i : Nat}
def XtL (A B : List Int) : Prop:=A.length = B.length ∧ ∀ j,j < A.length → 0 ≤ A.getD j 0 → B.getD j 0 = A.getD j 0
theorem XtL.refl (A : List Int) : XtL A A:=⟨rfl,fun _ _ _=>rfl⟩
theorem XtL.trans (h : XtL A B) (k : XtL B C) : XtL A C:=⟨h.1.trans k.1,fun j hj h0=>by
  have e1:=h.2 j hj h0
  rw [k.2 j (by rw [← h.1];exact hj) (by rw [e1];exact h0),e1]⟩
def uns (A : List Int) : Nat:=(A.filter fun v=>decide (v < 0)).length
theorem XtL.uns (h : XtL A B) : uns B ≤ uns A:=filt_le h.1 h.2
theorem XtL.uns_lt (h : XtL A B) {j : Nat} (hj : j < A.length) (h0 : A.getD j 0 < 0) (h1 : 0 ≤ B.getD j 0) : Cats.uns B < Cats.uns A:=filt_lt h.1 h.2 j hj h0 h1
theorem set_getD {i j : Nat} {k : Int} (hi : i < A.length) : (A.set i k).getD j 0 = if j = i then k else A.getD j 0:=by
  rw [List.getD_eq_getElem?_getD,List.getElem?_set]
  by_cases h : j = i
  · subst h;rw [if_pos rfl,if_pos hi,if_pos rfl];rfl
  · rw [if_neg (fun q=>h q.symm),if_neg h,List.getD_eq_getElem?_getD]
theorem XtL.set (hi : i < A.length) (h : ¬ 0 ≤ A.getD i 0) : XtL A (A.set i e):=⟨by simp,fun j hj h0=>by
  rw [set_getD hi,if_neg (fun q=>h (by rw [← q];exact h0))]⟩
theorem XtL.cont (h : XtL A B) (k : contB B Q = true) : contB A Q = true:=by
  rw [contB_iff] at k ⊢
  refine ⟨h.1.trans k.1,fun j hj h0=>?_⟩
  have e1:=h.2 j hj h0
  rw [k.2 j (by rw [← h.1];exact hj) (by rw [e1];exact h0),e1]
def RngL (S : List Nat) (A : List Int) : Prop:=A.length = S.length ∧ ∀ j,j < A.length → -1 ≤ A.getD j 0 ∧ A.getD j 0 < S.getD j 0
def ClF (rs : List Rule) (A B : List Int) : Prop:=∀ j,j < A.length → A.getD j 0 < 0 → 0 ≤ B.getD j 0 → ∀ r ∈ rulesAt rs j,B.getD r.to.toNat 0 = r.by_.getD (B.getD j 0).toNat 0
def undoL (A N : List Int) : List Int:=N.foldl (fun A k=>A.set k.toNat (-1)) A
structure Fct (S : List Nat) (A N : List Int) (t : St) : Prop where
  ext : XtL A t.2.1
  rng : RngL S t.2.1
  und : undoL t.2.1 t.2.2 = undoL A N
  nts : ∀ k ∈ t.2.2,k ∈ N ∨ (0 ≤ k ∧ k.toNat < A.length)
  cnt : t.2.2.length + uns t.2.1 ≤ N.length + uns A
def ClL (rs : List Rule) (A : List Int) : Prop:=∀ j,j < A.length → 0 ≤ A.getD j 0 → ∀ r ∈ rulesAt rs j,A.getD r.to.toNat 0 = r.by_.getD (A.getD j 0).toNat 0
end
end Go.Cats
end
section
namespace Go.Cats
def stL {β : Type} (M : Nat) (o : List β) (q : β) : Bool × List β:=(decide (o.length + 1 ≤ M),o ++ [q])
theorem eat_L {β : Type} {M : Nat} : ∀ (D o : List β),o.length ≤ M → eat (stL M) o D = (decide ((o ++ D).length ≤ M),(o ++ D).take (M + 1))
  | [],o,h=>by
    rw [eat_nil,List.append_nil,List.take_of_length_le (by omega),decide_eq_true h]
  | q :: D,o,h=>by
    by_cases h1 : o.length + 1 ≤ M
    · rw [eat_t (decide_eq_true h1),show (stL M o q).2 = o ++ [q] from rfl,eat_L D _ (by simp;omega)]
      simp
    · rw [eat_f (decide_eq_false h1),show (stL M o q).2 = o ++ [q] from rfl]
      have e1 : o.length = M:=by omega
      have e2 : decide ((o ++ q :: D).length ≤ M) = false:=decide_eq_false (by simp;omega)
      rw [e2,← e1,List.take_append,List.take_of_length_le (by omega),show o.length + 1 - o.length = 1 by omega]
      simp
theorem eat_Llen {β : Type} {M : Nat} {D o : List β} (h : o.length ≤ M) (h1 : (eat (stL M) o D).1 = true) : (eat (stL M) o D).2.length ≤ M:=by
  rw [eat_L _ _ h] at h1 ⊢
  simp only [decide_eq_true_eq] at h1
  simp only [List.length_take]
  omega
section
variable {f : Nat → Int → List Int → List Int → St} {e : Int} {l : List Rule} {A N : List Int} {k : Nat}
end
/-! ### The search -/
theorem scan_first {α : Type} {p : Nat → Option α} {r : α} : ∀ {n : Nat},scan n p = some r → ∃ i,i < n ∧ p i = some r ∧ scan i p = none
  | 0,h=>by cases h
  | n + 1,h=>by
    rw [scan_succ] at h
    cases hs : scan n p with
    | none=>rw [hs] at h;exact ⟨n,Nat.lt_succ_self _,h,hs⟩
    | some q =>
      rw [hs] at h
      obtain ⟨i,h1,h2,h3⟩:=scan_first hs
      have : q = r:=Option.some.inj h
      subst this
      exact ⟨i,by omega,h2,h3⟩
theorem idx_first {S : List Nat} {A : List Int} (hA : RngL S A) : (idxOf A (-1) = -1 ∧ ∀ j,j < A.length → 0 ≤ A.getD j 0) ∨ ∃ i : Nat,idxOf A (-1) = i ∧ i < A.length ∧ A.getD i 0 = -1 ∧ ∀ j,j < i → 0 ≤ A.getD j 0:=by
  have hne : ∀ j,j < A.length → idxO A (-1) j = none → 0 ≤ A.getD j 0:=fun j hj h=>by
    have h1:=(hA.2 j hj).1
    unfold idxO at h
    split at h
    · cases h
    · omega
  cases hs : scan A.length (idxO A (-1)) with
  | none=>exact .inl ⟨idxOf_none hs,fun j hj=>hne j hj (scan_none.1 hs j hj)⟩
  | some r =>
    obtain ⟨i,h1,h2,h3⟩:=scan_first hs
    have h4 : A.getD i 0 = -1:=by
      unfold idxO at h2
      split at h2
      · assumption
      · cases h2
    exact .inr ⟨i,idxOf_hit h3 h1 h4,h1,h4,fun j hj=>hne j (by omega) (scan_none.1 h3 j hj)⟩
theorem uns_le (A : List Int) : uns A ≤ A.length:=List.length_filter_le _ _
structure TryF (rs : List Rule) (S : List Nat) (A : List Int) (i u : Nat) (T : St) : Prop where
  len : T.2.1.length = A.length
  nl : T.2.2.length ≤ A.length
  at1 : ∀ j,j < T.2.2.length → 0 ≤ T.2.2.getD j 0 ∧ (T.2.2.getD j 0).toNat < A.length
  back : undoL T.2.1 T.2.2 = A
  yes : T.1 = true → RngL S T.2.1 ∧ ClL rs T.2.1 ∧ uns T.2.1 < uns A ∧ extW (okW rs) S (A.set i (u : Int)) = extW (okW rs) S T.2.1
  no : T.1 = false → extW (okW rs) S (A.set i (u : Int)) = []
end Go.Cats
end
section
namespace Go.Cats
abbrev Fs:=Bool × Bool × List Int
abbrev Cat.cp (c : Cat) (a b : Nat) : Int:=(c.co.getD a []).getD b 0
def stF (c d : Cat) (a b : Nat) (s : Fs) : Fs :=
  if c.cp a b < 0 ∨ s.2.2.getD a 0 < 0 ∨ s.2.2.getD b 0 < 0 then s
  else if s.2.2.getD (c.cp a b).toNat 0 < 0 then (true,true,s.2.2.set (c.cp a b).toNat (d.C (s.2.2.getD a 0) (s.2.2.getD b 0)))
  else (decide (s.2.2.getD (c.cp a b).toNat 0 = d.C (s.2.2.getD a 0) (s.2.2.getD b 0)),s.2.1,s.2.2)
def rowF (c d : Cat) (a : Nat) : Nat → Fs → Fs
  | 0,s=>s
  | b + 1,s=>if (rowF c d a b s).1 = true then stF c d a b (rowF c d a b s) else rowF c d a b s
def passF (c d : Cat) (m : Nat) : Nat → Fs → Fs
  | 0,s=>s
  | a + 1,s=>if (passF c d m a s).1 = true then rowF c d a m (passF c d m a s) else passF c d m a s
def forceF (c d : Cat) : Nat → List Int → Bool × List Int
  | 0,A=>(false,A)
  | k + 1,A=>if (passF c d c.fr.length c.fr.length (true,false,A)).1 = true then
      (if (passF c d c.fr.length c.fr.length (true,false,A)).2.1 = true then forceF c d k (passF c d c.fr.length c.fr.length (true,false,A)).2.2 else (true,(passF c d c.fr.length c.fr.length (true,false,A)).2.2))
      else (false,(passF c d c.fr.length c.fr.length (true,false,A)).2.2)
section
variable {c d : Cat} {a b m n k : Nat} {s t u : Fs} {O A B Q : List Int} {g : Bool}
theorem stF_skip (h : c.cp a b < 0 ∨ s.2.2.getD a 0 < 0 ∨ s.2.2.getD b 0 < 0) : stF c d a b s = s:=if_pos h
theorem stF_set (h : ¬ (c.cp a b < 0 ∨ s.2.2.getD a 0 < 0 ∨ s.2.2.getD b 0 < 0)) (k : s.2.2.getD (c.cp a b).toNat 0 < 0) : stF c d a b s = (true,true,s.2.2.set (c.cp a b).toNat (d.C (s.2.2.getD a 0) (s.2.2.getD b 0))):=by
  unfold stF;rw [if_neg h,if_pos k]
theorem stF_has (h : ¬ (c.cp a b < 0 ∨ s.2.2.getD a 0 < 0 ∨ s.2.2.getD b 0 < 0)) (k : ¬ s.2.2.getD (c.cp a b).toNat 0 < 0) : stF c d a b s = (decide (s.2.2.getD (c.cp a b).toNat 0 = d.C (s.2.2.getD a 0) (s.2.2.getD b 0)),s.2.1,s.2.2):=by
  unfold stF;rw [if_neg h,if_neg k]
theorem rowF_zero : rowF c d a 0 s = s:=rfl
theorem rowF_go (h : (rowF c d a b s).1 = true) : rowF c d a (b + 1) s = stF c d a b (rowF c d a b s):=by rw [rowF];exact if_pos h
theorem rowF_no (h : (rowF c d a b s).1 = false) : rowF c d a (b + 1) s = rowF c d a b s:=by rw [rowF];exact if_neg (by rw [h];simp)
theorem rowF_stop (h : (rowF c d a b s).1 = false) : ∀ {n : Nat},b ≤ n → rowF c d a n s = rowF c d a b s
  | 0,hn=>by rw [show b = 0 by omega]
  | n + 1,hn=>by
    by_cases e : b = n + 1
    · rw [e]
    · have ih:=rowF_stop h (n:=n) (by omega)
      rw [rowF_no (by rw [ih];exact h),ih]
theorem passF_zero : passF c d m 0 s = s:=rfl
theorem passF_go (h : (passF c d m a s).1 = true) : passF c d m (a + 1) s = rowF c d a m (passF c d m a s):=by rw [passF];exact if_pos h
theorem passF_no (h : (passF c d m a s).1 = false) : passF c d m (a + 1) s = passF c d m a s:=by rw [passF];exact if_neg (by rw [h];simp)
theorem passF_stop (h : (passF c d m a s).1 = false) : ∀ {n : Nat},a ≤ n → passF c d m n s = passF c d m a s
  | 0,hn=>by rw [show a = 0 by omega]
  | n + 1,hn=>by
    by_cases e : a = n + 1
    · rw [e]
    · have ih:=passF_stop h (n:=n) (by omega)
      rw [passF_no (by rw [ih];exact h),ih]
structure VA (c d : Cat) (O A : List Int) : Prop where
  len : A.length = c.fr.length
  lo : ∀ f : Nat,f < A.length → -1 ≤ A.getD f 0
  hi : ∀ f : Nat,f < A.length → 0 ≤ A.getD f 0 → A.getD f 0 < d.fr.length ∧ d.fr.getD (A.getD f 0).toNat 0 = O.getD (c.fr.getD f 0).toNat 0 ∧ d.to.getD (A.getD f 0).toNat 0 = O.getD (c.to.getD f 0).toNat 0
theorem comp_ent (hc : Shape c) (ha : a < c.fr.length) (hb : b < c.fr.length) (h0 : 0 ≤ c.cp a b) : c.to.getD a 0 = c.fr.getD b 0 ∧ (c.cp a b).toNat < c.fr.length ∧ c.fr.getD (c.cp a b).toNat 0 = c.fr.getD a 0 ∧ c.to.getD (c.cp a b).toNat 0 = c.to.getD b 0:=by
  have:=(hc.coe a ha).2 b hb
  unfold Cat.Entry at this
  simp only [Cat.F,Cat.T,Cat.C,Int.toNat_natCast] at this
  rcases this with ⟨h1,h2,h3,h4⟩|⟨h1,h2⟩
  · exact ⟨h1,by show ((c.co.getD a []).getD b 0).toNat < _;omega,h3,h4⟩
  · exact absurd h0 (by show ¬ 0 ≤ (c.co.getD a []).getD b 0;omega)
theorem comp_val (hd : Shape d) (ha : a < d.fr.length) (hb : b < d.fr.length) (h : d.to.getD a 0 = d.fr.getD b 0) : 0 ≤ d.cp a b ∧ d.cp a b < d.fr.length ∧ d.fr.getD (d.cp a b).toNat 0 = d.fr.getD a 0 ∧ d.to.getD (d.cp a b).toNat 0 = d.to.getD b 0:=by
  have:=(hd.coe a ha).2 b hb
  unfold Cat.Entry at this
  simp only [Cat.F,Cat.T,Cat.C,Int.toNat_natCast] at this
  rcases this with ⟨h1,h2,h3,h4⟩|⟨h1,h2⟩
  · exact ⟨h2.1,h2.2,h3,h4⟩
  · exact absurd h h1
theorem VA.comp (hc : Shape c) (hd : Shape d) (h : VA c d O A) (ha : a < c.fr.length) (hb : b < c.fr.length) (h0 : 0 ≤ c.cp a b) (a0 : 0 ≤ A.getD a 0) (b0 : 0 ≤ A.getD b 0) :
    0 ≤ d.C (A.getD a 0) (A.getD b 0) ∧ d.C (A.getD a 0) (A.getD b 0) < d.fr.length ∧ d.fr.getD (d.C (A.getD a 0) (A.getD b 0)).toNat 0 = O.getD (c.fr.getD (c.cp a b).toNat 0).toNat 0 ∧ d.to.getD (d.C (A.getD a 0) (A.getD b 0)).toNat 0 = O.getD (c.to.getD (c.cp a b).toNat 0).toNat 0:=by
  obtain ⟨e1,e2,e3,e4⟩:=comp_ent hc ha hb h0
  obtain ⟨p1,p2,p3⟩:=h.hi a (by rw [h.len];exact ha) a0
  obtain ⟨q1,q2,q3⟩:=h.hi b (by rw [h.len];exact hb) b0
  obtain ⟨r1,r2,r3,r4⟩:=comp_val hd (a:=(A.getD a 0).toNat) (b:=(A.getD b 0).toNat) (by omega) (by omega) (by rw [p3,q2,e1])
  exact ⟨r1,r2,by rw [e3,← p2];exact r3,by rw [e4,← q3];exact r4⟩
theorem VA.set (h : VA c d O A) {i : Nat} {v : Int} (hi : i < A.length) (v0 : 0 ≤ v) (v1 : v < d.fr.length) (v2 : d.fr.getD v.toNat 0 = O.getD (c.fr.getD i 0).toNat 0) (v3 : d.to.getD v.toNat 0 = O.getD (c.to.getD i 0).toNat 0) : VA c d O (A.set i v):=by
  refine ⟨by simp [h.len],fun f hf=>?_,fun f hf=>?_⟩
  · rw [set_getD hi]
    by_cases e : f = i
    · rw [if_pos e];omega
    · rw [if_neg e];exact h.lo f (by simpa using hf)
  · rw [set_getD hi]
    by_cases e : f = i
    · subst e;rw [if_pos rfl];exact fun _=>⟨v1,v2,v3⟩
    · rw [if_neg e];exact h.hi f (by simpa using hf)
theorem VA.rng (h : VA c d O A) : RngL (List.replicate c.fr.length d.fr.length) A:=⟨by rw [List.length_replicate];exact h.len,fun j hj=>by
  have h1:=h.lo j hj
  have h2:=h.hi j hj
  have h3:=h.len
  have e : (List.replicate c.fr.length d.fr.length).getD j 0 = d.fr.length:=by
    rw [List.getD_eq_getElem?_getD,List.getElem?_replicate,if_pos (by omega)];rfl
  rw [e]
  by_cases h0 : 0 ≤ A.getD j 0
  · exact ⟨h1,(h2 h0).1⟩
  · exact ⟨h1,by omega⟩⟩
def Cmp (c d : Cat) (Q : List Int) : Prop:=∀ a b : Nat,a < c.fr.length → b < c.fr.length → 0 ≤ c.cp a b → Q.getD (c.cp a b).toNat 0 = d.C (Q.getD a 0) (Q.getD b 0)
structure Ff (c d : Cat) (O A : List Int) (g : Bool) (t : Fs) : Prop where
  va : VA c d O t.2.2
  ext : XtL A t.2.2
  keep : t.2.1 = false → g = false ∧ t.2.2 = A
  prog : t.2.1 = true → g = true ∨ uns t.2.2 < uns A
  snd : ∀ Q,Cmp c d Q → contB A Q = true → t.1 = true ∧ contB t.2.2 Q = true
theorem Ff.refl (h : VA c d O A) : Ff c d O A g (true,g,A):=⟨h,.refl _,fun e=>⟨e,rfl⟩,fun e=>.inl e,fun _ _ h=>⟨rfl,h⟩⟩
theorem Ff.trans (h : Ff c d O A g t) (k : Ff c d O t.2.2 t.2.1 u) : Ff c d O A g u:=by
  refine ⟨k.va,h.ext.trans k.ext,fun e=>?_,fun e=>?_,fun Q hq hA=>k.snd Q hq (h.snd Q hq hA).2⟩
  · obtain ⟨e1,e2⟩:=k.keep e
    obtain ⟨e3,e4⟩:=h.keep e1
    exact ⟨e3,e2.trans e4⟩
  · have u1:=h.ext.uns
    have u2:=k.ext.uns
    rcases k.prog e with e1 | e1
    · rcases h.prog e1 with e2 | e2
      · exact .inl e2
      · exact .inr (by omega)
    · exact .inr (by omega)
theorem stF_facts (hc : Shape c) (hd : Shape d) (h : VA c d O s.2.2) (ha : a < c.fr.length) (hb : b < c.fr.length) (h1 : s.1 = true) : Ff c d O s.2.2 s.2.1 (stF c d a b s):=by
  have es : s = (true,s.2.1,s.2.2):=by rw [← h1]
  by_cases hk : c.cp a b < 0 ∨ s.2.2.getD a 0 < 0 ∨ s.2.2.getD b 0 < 0
  · rw [stF_skip hk,es]
    exact .refl h
  · have c0 : 0 ≤ c.cp a b:=by omega
    have a0 : 0 ≤ s.2.2.getD a 0:=by omega
    have b0 : 0 ≤ s.2.2.getD b 0:=by omega
    obtain ⟨v0,v1,v2,v3⟩:=h.comp hc hd ha hb c0 a0 b0
    have hh:=(comp_ent hc ha hb c0).2.1
    have hl:=h.len
    have hQ : ∀ Q,Cmp c d Q → contB s.2.2 Q = true → Q.getD (c.cp a b).toNat 0 = d.C (s.2.2.getD a 0) (s.2.2.getD b 0):=fun Q hq hA=>by
      have e1:=(contB_iff.1 hA).2 a (by omega) a0
      have e2:=(contB_iff.1 hA).2 b (by omega) b0
      rw [hq a b ha hb c0,e1,e2]
    by_cases hn : s.2.2.getD (c.cp a b).toNat 0 < 0
    · rw [stF_set hk hn]
      refine ⟨h.set (by omega) v0 v1 v2 v3,.set (by omega) (by omega),fun e=>(Bool.noConfusion e),fun _=>.inr ?_,fun Q hq hA=>⟨rfl,?_⟩⟩
      · refine (XtL.set (e:=d.C (s.2.2.getD a 0) (s.2.2.getD b 0)) (A:=s.2.2) (i:=(c.cp a b).toNat) (by omega) (by omega)).uns_lt (j:=(c.cp a b).toNat) (by omega) hn ?_
        rw [set_getD (by omega),if_pos rfl];exact v0
      · have e:=hQ Q hq hA
        rw [contB_iff] at hA ⊢
        refine ⟨by simpa using hA.1,fun j hj h1=>?_⟩
        show Q.getD j 0 = (s.2.2.set _ _).getD j 0
        have h1 : 0 ≤ (s.2.2.set _ _).getD j 0:=h1
        rw [set_getD (by omega)] at h1 ⊢
        by_cases q : j = (c.cp a b).toNat
        · rw [if_pos q,q];exact e
        · rw [if_neg q] at h1 ⊢;exact hA.2 j (by simpa using hj) h1
    · rw [stF_has hk hn]
      refine ⟨h,.refl _,fun e=>⟨e,rfl⟩,fun e=>.inl e,fun Q hq hA=>⟨?_,hA⟩⟩
      have e:=hQ Q hq hA
      rw [(contB_iff.1 hA).2 _ (by omega) (by omega)] at e
      exact decide_eq_true e
theorem rowF_facts (hc : Shape c) (hd : Shape d) (h : VA c d O s.2.2) (ha : a < c.fr.length) (h1 : s.1 = true) : ∀ {n : Nat},n ≤ c.fr.length → Ff c d O s.2.2 s.2.1 (rowF c d a n s)
  | 0,_=>by
    have es : s = (true,s.2.1,s.2.2):=by rw [← h1]
    rw [rowF_zero]
    rw [es]
    exact .refl h
  | n + 1,hn=>by
    have ih:=rowF_facts hc hd h ha h1 (n:=n) (by omega)
    cases hr : (rowF c d a n s).1 with
    | true=>rw [rowF_go hr];exact ih.trans (stF_facts hc hd ih.va ha (by omega) hr)
    | false=>rw [rowF_no hr];exact ih
theorem passF_facts (hc : Shape c) (hd : Shape d) (h : VA c d O s.2.2) (h1 : s.1 = true) : ∀ {n : Nat},n ≤ c.fr.length → Ff c d O s.2.2 s.2.1 (passF c d c.fr.length n s)
  | 0,_=>by
    have es : s = (true,s.2.1,s.2.2):=by rw [← h1]
    rw [passF_zero]
    rw [es]
    exact .refl h
  | n + 1,hn=>by
    have ih:=passF_facts hc hd h h1 (n:=n) (by omega)
    cases hr : (passF c d c.fr.length n s).1 with
    | true=>rw [passF_go hr];exact ih.trans (rowF_facts hc hd ih.va (by omega) hr (Nat.le_refl _))
    | false=>rw [passF_no hr];exact ih
def Clo (c d : Cat) (A : List Int) (a b : Nat) : Prop:=0 ≤ c.cp a b → 0 ≤ A.getD a 0 → 0 ≤ A.getD b 0 → A.getD (c.cp a b).toNat 0 = d.C (A.getD a 0) (A.getD b 0)
theorem stF_clo (h1 : (stF c d a b s).1 = true) (h2 : (stF c d a b s).2.1 = false) : Clo c d s.2.2 a b ∧ (stF c d a b s).2.2 = s.2.2 ∧ s.2.1 = false:=by
  by_cases hk : c.cp a b < 0 ∨ s.2.2.getD a 0 < 0 ∨ s.2.2.getD b 0 < 0
  · rw [stF_skip hk] at h2 ⊢
    exact ⟨fun _ _ _=>by omega,rfl,h2⟩
  · by_cases hn : s.2.2.getD (c.cp a b).toNat 0 < 0
    · rw [stF_set hk hn] at h2;cases h2
    · rw [stF_has hk hn] at h1 h2 ⊢
      exact ⟨fun _ _ _=>by simpa using h1,rfl,h2⟩
theorem rowF_clo : ∀ {n : Nat},(rowF c d a n s).1 = true → (rowF c d a n s).2.1 = false → (∀ b,b < n → Clo c d s.2.2 a b) ∧ (rowF c d a n s).2.2 = s.2.2 ∧ s.2.1 = false
  | 0,_,h2=>⟨fun b hb=>by omega,rfl,h2⟩
  | n + 1,h1,h2=>by
    cases hr : (rowF c d a n s).1 with
    | true =>
      rw [rowF_go hr] at h1 h2 ⊢
      obtain ⟨e1,e2,e3⟩:=stF_clo h1 h2
      obtain ⟨i1,i2,i3⟩:=rowF_clo hr e3
      rw [i2] at e1 e2
      exact ⟨all_succ i1 e1,e2,i3⟩
    | false=>rw [rowF_no hr,hr] at h1;cases h1
theorem passF_clo : ∀ {n : Nat},(passF c d m n s).1 = true → (passF c d m n s).2.1 = false → (∀ a,a < n → ∀ b,b < m → Clo c d s.2.2 a b) ∧ (passF c d m n s).2.2 = s.2.2 ∧ s.2.1 = false
  | 0,_,h2=>⟨fun b hb=>by omega,rfl,h2⟩
  | n + 1,h1,h2=>by
    cases hr : (passF c d m n s).1 with
    | true =>
      rw [passF_go hr] at h1 h2 ⊢
      obtain ⟨e1,e2,e3⟩:=rowF_clo h1 h2
      obtain ⟨i1,i2,i3⟩:=passF_clo hr e3
      rw [i2] at e1 e2
      exact ⟨all_succ i1 e1,e2,i3⟩
    | false=>rw [passF_no hr,hr] at h1;cases h1
theorem forceF_go (h1 : (passF c d c.fr.length c.fr.length (true,false,A)).1 = true) (h2 : (passF c d c.fr.length c.fr.length (true,false,A)).2.1 = true) : forceF c d (k + 1) A = forceF c d k (passF c d c.fr.length c.fr.length (true,false,A)).2.2:=by
  rw [forceF,if_pos h1,if_pos h2]
theorem forceF_end (h1 : (passF c d c.fr.length c.fr.length (true,false,A)).1 = true) (h2 : (passF c d c.fr.length c.fr.length (true,false,A)).2.1 = false) : forceF c d (k + 1) A = (true,(passF c d c.fr.length c.fr.length (true,false,A)).2.2):=by
  rw [forceF,if_pos h1,if_neg (by rw [h2];simp)]
theorem forceF_no (h1 : (passF c d c.fr.length c.fr.length (true,false,A)).1 = false) : forceF c d (k + 1) A = (false,(passF c d c.fr.length c.fr.length (true,false,A)).2.2):=by
  rw [forceF,if_neg (by rw [h1];simp)]
structure Fo (c d : Cat) (O A : List Int) (t : Bool × List Int) : Prop where
  va : VA c d O t.2
  ext : XtL A t.2
  clo : t.1 = true → ∀ a,a < c.fr.length → ∀ b,b < c.fr.length → Clo c d t.2 a b
  snd : ∀ Q,Cmp c d Q → contB A Q = true → t.1 = true ∧ contB t.2 Q = true
theorem forceF_facts (hc : Shape c) (hd : Shape d) : ∀ {k : Nat} {A : List Int},VA c d O A → uns A < k → Fo c d O A (forceF c d k A)
  | 0,A,_,h=>by omega
  | k + 1,A,h,hk=>by
    have f:=passF_facts (s:=(true,false,A)) hc hd h rfl (Nat.le_refl _)
    cases h1 : (passF c d c.fr.length c.fr.length (true,false,A)).1 with
    | false =>
      rw [forceF_no h1]
      exact ⟨f.va,f.ext,fun e=>Bool.noConfusion e,fun Q hq hA=>by have:=(f.snd Q hq hA).1;rw [h1] at this;cases this⟩
    | true =>
      cases h2 : (passF c d c.fr.length c.fr.length (true,false,A)).2.1 with
      | true =>
        rw [forceF_go h1 h2]
        have hu : uns (passF c d c.fr.length c.fr.length (true,false,A)).2.2 < uns A:=by
          rcases f.prog h2 with e | e
          · cases e
          · exact e
        have ih:=forceF_facts hc hd (k:=k) f.va (by omega)
        exact ⟨ih.va,f.ext.trans ih.ext,ih.clo,fun Q hq hA=>ih.snd Q hq (f.snd Q hq hA).2⟩
      | false =>
        rw [forceF_end h1 h2]
        obtain ⟨g1,g2,_⟩:=passF_clo h1 h2
        have g2 : (passF c d c.fr.length c.fr.length (true,false,A)).2.2 = A:=g2
        exact ⟨f.va,f.ext,fun _=>by rw [g2];exact g1,fun Q hq hA=>⟨rfl,(f.snd Q hq hA).2⟩⟩
def NdI (A : List Int) : Prop:=∀ i j : Nat,i < j → j < A.length → 0 ≤ A.getD i 0 → A.getD i 0 ≠ A.getD j 0
theorem NdI.of_cont (h : NdI Q) (k : contB A Q = true) : NdI A:=fun i j hij hj h0 e=>by
  rw [contB_iff] at k
  have e1:=k.2 i (by omega) h0
  have e2:=k.2 j hj (by omega)
  exact h i j hij (by omega) (by omega) (by omega)
noncomputable def spreadF (c d : Cat) (b : Bool) (A : List Int) : Bool × List Int:=((forceF c d (c.fr.length + 1) A).1 && (!b || dec (NdI (forceF c d (c.fr.length + 1) A).2)),(forceF c d (c.fr.length + 1) A).2)
noncomputable def WA (c d : Cat) (b : Bool) (O Q : List Int) : Bool:=dec (Fits ⟨c,d,O,Q⟩ ∧ (b = true → NdI O ∧ NdI Q))
theorem WA_iff {b : Bool} : WA c d b O Q = true ↔ Fits ⟨c,d,O,Q⟩ ∧ (b = true → NdI O ∧ NdI Q):=dec_iff
theorem Fits.cmp (h : Fits ⟨c,d,O,Q⟩) : Cmp c d Q:=fun a b ha hb h0=>by
  have:=h.comp a b ha hb (by simpa only [Cat.C,Int.toNat_natCast] using h0)
  simpa only [Cat.C,Fun.A,Int.toNat_natCast] using this
structure Sp (c d : Cat) (b : Bool) (O A : List Int) (t : Bool × List Int) : Prop where
  va : VA c d O t.2
  ext : XtL A t.2
  clo : t.1 = true → ∀ a,a < c.fr.length → ∀ b,b < c.fr.length → Clo c d t.2 a b
  nd : t.1 = true → b = true → NdI t.2
  snd : ∀ Q,WA c d b O Q = true → contB A Q = true → t.1 = true ∧ contB t.2 Q = true
theorem spreadF_facts {b : Bool} (hc : Shape c) (hd : Shape d) (h : VA c d O A) : Sp c d b O A (spreadF c d b A):=by
  have f:=forceF_facts hc hd (k:=c.fr.length + 1) h (by have:=uns_le A;have:=h.len;omega)
  unfold spreadF
  refine ⟨f.va,f.ext,fun e=>f.clo ?_,fun e hb=>?_,fun Q hQ hA=>?_⟩
  · simp only [Bool.and_eq_true] at e;exact e.1
  · subst hb
    simp only [Bool.and_eq_true,Bool.not_true,Bool.false_or] at e
    exact dec_iff.1 e.2
  · obtain ⟨w1,w2⟩:=WA_iff.1 hQ
    obtain ⟨s1,s2⟩:=f.snd Q w1.cmp hA
    refine ⟨?_,s2⟩
    simp only [Bool.and_eq_true]
    refine ⟨s1,?_⟩
    cases b with
    | false=>rfl
    | true=>simp only [Bool.not_true,Bool.false_or];exact dec_iff.2 ((w2 rfl).2.of_cont s2)
end
end Go.Cats
end
section
namespace Go.Cats
end Go.Cats
end
section
namespace Go.Cats
end Go.Cats
end
section
namespace Go.Cats
theorem Shape.comp_nn {c : Cat} (s : Shape c) {f g : Nat} (hf : f < c.fr.length) (hg : g < c.fr.length) (h : c.to.getD f 0 = c.fr.getD g 0) : 0 ≤ (c.co.getD f []).getD g 0:=by
  rcases (s.coe f hf).2 g hg with ⟨_,h2,_⟩|⟨h2,_⟩
  · have e : c.C f g = (c.co.getD f []).getD g 0:=by simp [Cat.C]
    rw [e] at h2;exact h2.1
  · exact absurd h h2
end Go.Cats
end
section
namespace Go.Cats
def cH (f g : Fun) (a b : Nat) : List Int:=f.tgt.hom (f.obs.getD a 0) (g.obs.getD b 0)
def cO (f g : Fun) (a b k : Nat) : List (List Int) :=
  (coll a fun a=>coll g.obs.length fun b=>(cH f g a b).map fun h=>[(a : Int),(b : Int),h]) ++ (coll b fun b=>(cH f g a b).map fun h=>[(a : Int),(b : Int),h]) ++ ((cH f g a b).take k).map fun h=>[(a : Int),(b : Int),h]
def cObj (f g : Fun) : List (List Int):=cO f g f.obs.length 0 0
theorem cO_zero (f g : Fun) : cO f g 0 0 0 = []:=by simp [cO,coll]
def colN (l : List (List Int)) (k n : Nat) : List Int:=(l.take n).map fun r=>r.getD k 0
theorem colN_zero (l : List (List Int)) (k : Nat) : colN l k 0 = []:=rfl
theorem colN_succ {l : List (List Int)} {k n : Nat} (h : n < l.length) : colN l k (n + 1) = colN l k n ++ [(l.getD n []).getD k 0]:=by
  unfold colN
  have e : l.getD n [] = l[n]:=by simp [List.getD_eq_getElem?_getD,h]
  rw [List.take_succ_eq_append_getElem h,List.map_append,e];rfl
theorem colN_len (l : List (List Int)) (k n : Nat) : (colN l k n).length = min n l.length:=by simp [colN]
end Go.Cats
end
section
namespace Go.Cats
abbrev rw' (O : List (List Int)) (p k : Nat) : Int:=(O.getD p []).getD k 0
def cU (f : Fun) (k : Nat) (O : List (List Int)) (s t : Nat) : List Int:=f.src.hom (rw' O s k) (rw' O t k)
def cC (f e : Fun) (O : List (List Int)) (s t : Nat) (u v : Int) : Prop:=f.tgt.C (f.A u) (rw' O t 2) = f.tgt.C (rw' O s 2) (e.A v)
open Classical in
noncomputable def cE (f e : Fun) (O : List (List Int)) (s t i j : Nat) : List (List Int) :=
  if cC f e O s t ((cU f 0 O s t).getD i 0) ((cU e 1 O s t).getD j 0) then [[(s : Int),(t : Int),(cU f 0 O s t).getD i 0,(cU e 1 O s t).getD j 0]] else []
noncomputable def cRow (f e : Fun) (O : List (List Int)) (s t i : Nat) : List (List Int):=coll (cU e 1 O s t).length fun j=>cE f e O s t i j
noncomputable def cCell (f e : Fun) (O : List (List Int)) (s t : Nat) : List (List Int):=coll (cU f 0 O s t).length fun i=>cRow f e O s t i
noncomputable def cA (f e : Fun) (O : List (List Int)) (s t i j : Nat) : List (List Int) :=
  (coll s fun s=>coll O.length fun t=>cCell f e O s t) ++ (coll t fun t=>cCell f e O s t) ++ (coll i fun i=>cRow f e O s t i) ++ (coll j fun j=>cE f e O s t i j)
noncomputable def cArr (f e : Fun) (O : List (List Int)) : List (List Int):=cA f e O O.length 0 0 0
variable {f e : Fun} {O : List (List Int)} {s t i j : Nat}
theorem cA_zero : cA f e O 0 0 0 0 = []:=by simp [cA,coll]
structure ObjR (f e : Fun) (r : List Int) : Prop where
  len : r.length = 3
  lo : 0 ≤ r.getD 0 0
  lh : r.getD 0 0 < f.src.ob
  ro : 0 ≤ r.getD 1 0
  rh : r.getD 1 0 < e.src.ob
  ao : 0 ≤ r.getD 2 0
  ah : r.getD 2 0 < f.tgt.fr.length
  frm : f.tgt.F (r.getD 2 0) = f.O (r.getD 0 0)
  to : f.tgt.T (r.getD 2 0) = e.O (r.getD 1 0)
def fndO (l : List (List Int)) (r : List Int) (i : Nat) : Option Int:=if l.getD i [] = r then some (i : Int) else none
def fnd (l : List (List Int)) (r : List Int) : Int:=(scan l.length (fndO l r)).getD (-1)
theorem fndO_f {l : List (List Int)} {r : List Int} {i : Nat} (h : ¬ l.getD i [] = r) : fndO l r i = none:=if_neg h
theorem fnd_hit {l : List (List Int)} {r : List Int} {i : Nat} (h : scan i (fndO l r) = none) (hi : i < l.length) (e : l.getD i [] = r) : fnd l r = i:=by
  unfold fnd
  rw [scan_hit hi h (show fndO l r i = some (i : Int) from if_pos e)];rfl
theorem fnd_none {l : List (List Int)} {r : List Int} (h : scan l.length (fndO l r) = none) : fnd l r = -1:=by unfold fnd;rw [h];rfl
end Go.Cats
end
section
namespace Go.Cats
def tb {α : Type} (n : Nat) (F : Nat → α) : List α:=(List.range n).map F
theorem tb_zero {α : Type} (F : Nat → α) : tb 0 F = []:=rfl
theorem tb_len {α : Type} (n : Nat) (F : Nat → α) : (tb n F).length = n:=by simp [tb]
theorem tb_at {α : Type} (n : Nat) (F : Nat → α) (d : α) {i : Nat} (h : i < n) : (tb n F).getD i d = F i:=by simp [tb,h]
def bId (A : List (List Int)) (a b : Cat) (L R : List Int) (x : Nat) : Int:=fnd A [(x : Int),(x : Int),a.id.getD (L.getD x 0).toNat 0,b.id.getD (R.getD x 0).toNat 0]
def bKey (A : List (List Int)) (a b : Cat) (i j : Nat) : List Int:=[rw' A i 0,rw' A j 1,a.C (rw' A i 2) (rw' A j 2),b.C (rw' A i 3) (rw' A j 3)]
def bEnt (A : List (List Int)) (a b : Cat) (i j : Nat) : Int:=if rw' A i 1 = rw' A j 0 then fnd A (bKey A a b i j) else -1
def bCat (N : Nat) (A : List (List Int)) (a b : Cat) (L R : List Int) (k : Nat) : Cat :=
  ⟨N,colN A 0 A.length,colN A 1 A.length,tb N (bId A a b L R),tb k fun i=>tb A.length (bEnt A a b i)⟩
structure ArrR (a b : Cat) (r : List Int) : Prop where
  len : r.length = 4
  ul : 0 ≤ r.getD 2 0
  uh : r.getD 2 0 < a.fr.length
  vl : 0 ≤ r.getD 3 0
  vh : r.getD 3 0 < b.fr.length
noncomputable def cmA (f e : Fun) : List (List Int):=cArr f e (cObj f e)
noncomputable def cmC (f e : Fun) (k : Nat) : Cat:=bCat (cObj f e).length (cmA f e) f.src e.src (colN (cObj f e) 0 (cObj f e).length) (colN (cObj f e) 1 (cObj f e).length) k
end Go.Cats
end
section
namespace Go.Cats
variable {f e : Fun} {O : List (List Int)} {s t i j : Nat}
end Go.Cats
end
section
namespace Go.Cats
theorem coll_nodup {α : Type} {n : Nat} {f : Nat → List α} (h1 : ∀ i,i < n → (f i).Nodup) (h2 : ∀ i j x,i < n → j < n → x ∈ f i → x ∈ f j → i = j) : (coll n f).Nodup:=by
  unfold coll List.Nodup
  rw [List.pairwise_flatMap]
  refine ⟨fun a ha=>h1 a (List.mem_range.1 ha),?_⟩
  refine List.Pairwise.imp_of_mem ?_ (List.pairwise_lt_range (n:=n))
  intro a b ha hb hab x hx y hy e
  subst e
  have:=h2 a b x (List.mem_range.1 ha) (List.mem_range.1 hb) hx hy
  omega
theorem Cat.hom_nodup (c : Cat) (x y : Int) : (c.hom x y).Nodup:=by
  unfold Cat.hom Cat.homI
  refine coll_nodup (fun i _=>by split <;> simp) fun i j z _ _ hi hj=>?_
  split at hi
  · split at hj
    · simp at hi hj;omega
    · simp at hj
  · simp at hi
variable {f e : Fun} {O : List (List Int)} {s t i j : Nat}
theorem fnd_mem {l : List (List Int)} {r : List Int} (h : r ∈ l) : ∃ i : Nat,i < l.length ∧ l.getD i [] = r ∧ fnd l r = i:=by
  cases hs : scan l.length (fndO l r) with
  | none =>
    exfalso
    obtain ⟨i,hi,rfl⟩:=List.getElem_of_mem h
    have:=scan_none.1 hs i hi
    unfold fndO at this
    rw [if_pos (by rw [List.getD_eq_getElem?_getD,List.getElem?_eq_getElem hi];rfl)] at this
    cases this
  | some x =>
    obtain ⟨i,hi,k⟩:=scan_some hs
    unfold fndO at k
    split at k
    · rename_i e
      cases k
      exact ⟨i,hi,e,by unfold fnd;rw [hs];rfl⟩
    · cases k
/-! ### Identities and composites -/
theorem IsCat.unlI {c : Cat} (h : IsCat c) {f : Int} (h0 : 0 ≤ f) (h1 : f < c.fr.length) : c.C (c.I (c.F f)) f = f:=by
  have:=h.unl f.toNat (by omega)
  rwa [Int.toNat_of_nonneg h0] at this
theorem IsCat.unrI {c : Cat} (h : IsCat c) {f : Int} (h0 : 0 ≤ f) (h1 : f < c.fr.length) : c.C f (c.I (c.T f)) = f:=by
  have:=h.unr f.toNat (by omega)
  rwa [Int.toNat_of_nonneg h0] at this
theorem IsCat.assI {c : Cat} (k : IsCat c) {f g h : Int} (f0 : 0 ≤ f) (f1 : f < c.fr.length) (g0 : 0 ≤ g) (g1 : g < c.fr.length) (h0 : 0 ≤ h) (h1 : h < c.fr.length) (e1 : c.T f = c.F g) (e2 : c.T g = c.F h) : c.C (c.C f g) h = c.C f (c.C g h):=by
  have:=k.ass f.toNat g.toNat h.toNat (by omega) (by omega) (by omega)
  rw [Int.toNat_of_nonneg f0,Int.toNat_of_nonneg g0,Int.toNat_of_nonneg h0] at this
  exact this e1 e2
end Go.Cats
end
section
namespace Go.Cats
structure XOK (c d : Cat) (b : Bool) (X : List Int) : Prop where
  len : (X.length : Int) = c.ob
  wi : Within X d.ob
  nd : b = true → NdI X
structure NX (c d : Cat) (b : Bool) (X A : List Int) : Prop where
  va : VA c d X A
  clo : ∀ a,a < c.fr.length → ∀ b,b < c.fr.length → Clo c d A a b
  nd : b = true → NdI A
  un : ∀ x : Nat,x < c.id.length → A.getD (c.id.getD x 0).toNat 0 = d.id.getD (X.getD x 0).toNat 0
abbrev sA (c d : Cat) : List Nat:=List.replicate c.fr.length d.fr.length
def startI (c d : Cat) (X : List Int) : Nat → List Int
  | 0=>List.replicate c.fr.length (-1)
  | y + 1=>(startI c d X y).set (c.id.getD y 0).toNat (d.id.getD (X.getD y 0).toNat 0)
def startA (c d : Cat) (X : List Int) : List Int:=startI c d X c.id.length
noncomputable def funA (c d : Cat) (b : Bool) (X : List Int) : List (List Int):=extW (WA c d b X) (sA c d) (List.replicate c.fr.length (-1))
noncomputable def funX (c d : Cat) (b : Bool) : Nat → List Int → List Fun
  | 0,X=>(funA c d b X).map fun Q=>⟨c,d,X,Q⟩
  | r + 1,X=>(List.range d.ob.toNat).flatMap fun y : Nat=>funX c d b r (X ++ [(y : Int)])
def belowH (W : List Int → Bool) (S : List Nat) (A : List Int) (i : Nat) (L : List Int) : List (List Int):=L.flatMap fun v=>extW W S (A.set i v)
section
variable {c d : Cat} {b : Bool} {X A Q L : List Int} {i k : Nat} {v : Int} {W : List Int → Bool} {S : List Nat}
theorem sA_getD (h : i < c.fr.length) : (sA c d).getD i 0 = d.fr.length:=by
  rw [List.getD_eq_getElem?_getD,List.getElem?_replicate,if_pos h];rfl
theorem NX.leaf (hX : XOK c d b X) (h : NX c d b X A) (hf : ∀ j,j < A.length → 0 ≤ A.getD j 0) : extW (WA c d b X) (sA c d) A = [A]:=by
  have hr:=h.va.rng
  rw [extW_full hr.1 fun j hj=>⟨hf j hj,(hr.2 j hj).2⟩,if_pos]
  have hl:=h.va.len
  refine WA_iff.2 ⟨⟨hX.len,hl,hX.wi,fun i hi=>⟨hf i hi,(h.va.hi i hi (hf i hi)).1⟩,fun a ha=>?_,fun x hx=>?_,fun a b ha hb h0=>?_⟩,fun e=>⟨hX.nd e,h.nd e⟩⟩
  · have:=h.va.hi a ha (hf a ha)
    simp only [Cat.F,Cat.T,Fun.O,Int.toNat_natCast]
    exact this.2
  · have:=h.un x hx
    simp only [Cat.I,Fun.A,Fun.O,Int.toNat_natCast]
    exact this
  · have h0 : 0 ≤ c.cp a b:=by simpa only [Cat.C,Int.toNat_natCast] using h0
    have:=h.clo a ha b hb h0 (hf a (by rw [hl];exact ha)) (hf b (by rw [hl];exact hb))
    simp only [Cat.C,Fun.A,Int.toNat_natCast]
    exact this
theorem belowH_nil : belowH W S A i [] = []:=rfl
theorem belowH_take (h : k < L.length) : belowH W S A i (L.take (k + 1)) = belowH W S A i (L.take k) ++ extW W S (A.set i (L.getD k 0)):=by
  unfold belowH
  rw [List.take_add_one,List.getElem?_eq_getElem h,List.flatMap_append,List.getD_eq_getElem?_getD,List.getElem?_eq_getElem h]
  simp
theorem belowH_split (h : k < L.length) : ∃ R,belowH W S A i L = belowH W S A i (L.take (k + 1)) ++ R:=by
  refine ⟨belowH W S A i (L.drop (k + 1)),?_⟩
  unfold belowH
  rw [← List.flatMap_append,List.take_append_drop]
theorem hom_try (h : VA c d X A) (hi : i < A.length) (hv : v ∈ d.hom (X.getD (c.fr.getD i 0).toNat 0) (X.getD (c.to.getD i 0).toNat 0)) : VA c d X (A.set i v):=by
  obtain ⟨h1,h2,h3,h4⟩:=Cat.mem_hom.1 hv
  exact h.set hi h1 h2 h3 h4
theorem branch_hom (h : VA c d X A) (hi : i < A.length) (h0 : A.getD i 0 = -1) (hlt : ∀ j,j < i → 0 ≤ A.getD j 0) :
    extW (WA c d b X) (sA c d) A = belowH (WA c d b X) (sA c d) A i (d.hom (X.getD (c.fr.getD i 0).toNat 0) (X.getD (c.to.getD i 0).toNat 0)):=by
  have hl:=h.len
  rw [extW_branch h.rng.1 hi hlt (by omega),sA_getD (by omega)]
  unfold belowH Cat.hom Cat.homI coll
  rw [List.flatMap_assoc,List.flatMap_def,List.flatMap_def]
  congr 1
  refine List.map_congr_left fun u hu=>?_
  have hu:=List.mem_range.1 hu
  by_cases e : d.fr.getD u 0 = X.getD (c.fr.getD i 0).toNat 0 ∧ d.to.getD u 0 = X.getD (c.to.getD i 0).toNat 0
  · rw [if_pos e];simp
  · rw [if_neg e,List.flatMap_nil]
    refine extW_nil fun Q hQ hW hc=>e ?_
    have e1:=(contB_iff.1 hc).2 i (by simpa using hi) (by rw [set_getD hi,if_pos rfl];omega)
    rw [set_getD hi,if_pos rfl] at e1
    obtain ⟨w1,_⟩:=WA_iff.1 hW
    have:=w1.endf i (by show i < Q.length;rw [← (contB_iff.1 hc).1];simpa using hi)
    simp only [Cat.F,Cat.T,Fun.O,Int.toNat_natCast,e1] at this
    exact this
theorem id_ok (hc : Shape c) {x : Nat} (hx : x < c.id.length) : (c.id.getD x 0).toNat < c.fr.length ∧ 0 ≤ c.id.getD x 0 ∧ c.fr.getD (c.id.getD x 0).toNat 0 = x ∧ c.to.getD (c.id.getD x 0).toNat 0 = x:=by
  have h1:=hc.idw x hx
  have h2:=hc.ide x hx
  exact ⟨by omega,h1.1,h2.1,h2.2⟩
theorem unit_ok (hc : Shape c) (hd : Shape d) (hX : XOK c d b X) {x : Nat} (hx : x < c.id.length) : 0 ≤ X.getD x 0 ∧ (X.getD x 0).toNat < d.id.length ∧ 0 ≤ d.id.getD (X.getD x 0).toNat 0 ∧ d.id.getD (X.getD x 0).toNat 0 < d.fr.length ∧ d.fr.getD (d.id.getD (X.getD x 0).toNat 0).toNat 0 = X.getD x 0 ∧ d.to.getD (d.id.getD (X.getD x 0).toNat 0).toNat 0 = X.getD x 0:=by
  have h1:=hX.len
  have h2:=hc.idl
  have h3:=hX.wi x (by omega)
  have h4:=hd.idl
  have hx' : (X.getD x 0).toNat < d.id.length:=by omega
  have h5:=hd.idw _ hx'
  have h6:=hd.ide _ hx'
  refine ⟨h3.1,hx',h5.1,h5.2,?_,?_⟩
  · have:=h6.1;simp only [Cat.F] at this;rw [this];omega
  · have:=h6.2;simp only [Cat.T] at this;rw [this];omega
structure TryN (c d : Cat) (b : Bool) (X A : List Int) (E : List (List Int)) (t : Bool × List Int) : Prop where
  va : VA c d X t.2
  ext : XtL A t.2
  yes : t.1 = true → NX c d b X t.2 ∧ E = extW (WA c d b X) (sA c d) t.2
  no : t.1 = false → E = []
theorem spread_try (hc : Shape c) (hd : Shape d) (hX : XOK c d b X) (hA : VA c d X A) (hu : ∀ x : Nat,x < c.id.length → A.getD (c.id.getD x 0).toNat 0 = d.id.getD (X.getD x 0).toNat 0) : TryN c d b X A (extW (WA c d b X) (sA c d) A) (spreadF c d b A):=by
  have f:=spreadF_facts (b:=b) hc hd hA
  refine ⟨f.va,f.ext,fun e=>⟨⟨f.va,f.clo e,f.nd e,fun x hx=>?_⟩,?_⟩,fun e=>?_⟩
  · have h1:=id_ok hc hx
    have h2:=unit_ok hc hd hX hx
    rw [f.ext.2 _ (by rw [hA.len];exact h1.1) (by rw [hu x hx];exact h2.2.2.1),hu x hx]
  · exact extW_congr fun Q hQ hW=>⟨fun k=>(f.snd Q hW k).2,fun k=>f.ext.cont k⟩
  · exact extW_nil fun Q hQ hW k=>by have:=(f.snd Q hW k).1;rw [e] at this;cases this
theorem NX.try_ (hc : Shape c) (hd : Shape d) (hX : XOK c d b X) (h : NX c d b X A) (hi : i < A.length) (h0 : A.getD i 0 = -1) (hv : v ∈ d.hom (X.getD (c.fr.getD i 0).toNat 0) (X.getD (c.to.getD i 0).toNat 0)) :
    TryN c d b X (A.set i v) (extW (WA c d b X) (sA c d) (A.set i v)) (spreadF c d b (A.set i v)) ∧ uns (spreadF c d b (A.set i v)).2 < uns A:=by
  have t:=spread_try (b:=b) (X:=X) (A:=A.set i v) hc hd hX (hom_try h.va hi hv) fun x hx=>by
    have h1:=h.un x hx
    have h2:=unit_ok hc hd hX hx
    rw [set_getD hi,if_neg,h1]
    intro e
    rw [e,h0] at h1
    omega
  have hv0:=(Cat.mem_hom.1 hv).1
  refine ⟨t,?_⟩
  have x1 : XtL A (A.set i v):=.set hi (by omega)
  have e1:=t.ext.2 i (by simpa using hi) (by rw [set_getD hi,if_pos rfl];exact hv0)
  rw [set_getD hi,if_pos rfl] at e1
  exact (x1.trans t.ext).uns_lt hi (by omega) (by rw [e1];exact hv0)
theorem startI_len : ∀ k,(startI c d X k).length = c.fr.length
  | 0=>by simp [startI]
  | k + 1=>by rw [startI,List.length_set,startI_len k]
theorem rep_neg {n j : Nat} : (List.replicate n (-1 : Int)).getD j 0 = if j < n then -1 else 0:=by
  rw [List.getD_eq_getElem?_getD,List.getElem?_replicate]
  split <;> rfl
theorem startI_va (hc : Shape c) (hd : Shape d) (hX : XOK c d b X) : ∀ {k : Nat},k ≤ c.id.length → VA c d X (startI c d X k)
  | 0,_=>by
    refine ⟨by simp [startI],fun f hf=>?_,fun f hf h0=>?_⟩
    · have hf : f < c.fr.length:=by simpa [startI] using hf
      rw [startI,rep_neg,if_pos hf];omega
    · have hf : f < c.fr.length:=by simpa [startI] using hf
      rw [startI,rep_neg,if_pos hf] at h0;omega
  | k + 1,hk=>by
    have ih:=startI_va hc hd hX (k:=k) (by omega)
    have h1:=id_ok hc (x:=k) (by omega)
    have h2:=unit_ok hc hd hX (x:=k) (by omega)
    rw [startI]
    exact ih.set (by rw [startI_len];exact h1.1) h2.2.2.1 h2.2.2.2.1 (by rw [h2.2.2.2.2.1,h1.2.2.1,Int.toNat_natCast]) (by rw [h2.2.2.2.2.2,h1.2.2.2,Int.toNat_natCast])
theorem startI_at (hc : Shape c) : ∀ {k : Nat},k ≤ c.id.length → ∀ x : Nat,x < k → (startI c d X k).getD (c.id.getD x 0).toNat 0 = d.id.getD (X.getD x 0).toNat 0
  | 0,_,x,hx=>by omega
  | k + 1,hk,x,hx=>by
    have h1:=id_ok hc (x:=k) (by omega)
    have h2:=id_ok hc (x:=x) (by omega)
    rw [startI,set_getD (by rw [startI_len];exact h1.1)]
    by_cases e : x = k
    · rw [e,if_pos rfl]
    · rw [if_neg]
      · exact startI_at hc (by omega) x (by omega)
      · intro q
        have a1:=h1.2.2.1
        have a2:=h2.2.2.1
        rw [q] at a2
        omega
theorem startI_cont (hc : Shape c) (hQ : Fits ⟨c,d,X,Q⟩) : ∀ {k : Nat},k ≤ c.id.length → contB (startI c d X k) Q = true
  | 0,_=>by
    rw [contB_iff]
    refine ⟨by rw [startI,List.length_replicate];exact hQ.arl.symm,fun i hi h0=>?_⟩
    have hi : i < c.fr.length:=by simpa [startI] using hi
    rw [startI,rep_neg,if_pos hi] at h0
    omega
  | k + 1,hk=>by
    have ih:=startI_cont hc hQ (k:=k) (by omega)
    have h1:=id_ok hc (x:=k) (by omega)
    rw [contB_iff] at ih ⊢
    rw [startI]
    refine ⟨by simpa using ih.1,fun i hi h0=>?_⟩
    rw [set_getD (by rw [startI_len];exact h1.1)] at h0 ⊢
    by_cases e : i = (c.id.getD k 0).toNat
    · rw [if_pos e,e]
      have:=hQ.unit k (by show k < c.id.length;omega)
      simpa only [Cat.I,Fun.A,Fun.O,Int.toNat_natCast] using this
    · rw [if_neg e] at h0 ⊢
      exact ih.2 i (by simpa using hi) h0
theorem start_try (hc : Shape c) (hd : Shape d) (hX : XOK c d b X) : TryN c d b X (startA c d X) (funA c d b X) (spreadF c d b (startA c d X)):=by
  have hva:=startI_va hc hd hX (Nat.le_refl _)
  have t:=spread_try (b:=b) (X:=X) (A:=startA c d X) hc hd hX hva fun x hx=>startI_at hc (Nat.le_refl _) x hx
  have e : funA c d b X = extW (WA c d b X) (sA c d) (startA c d X):=by
    unfold funA
    refine extW_congr fun Q hQ hW=>⟨fun _=>startI_cont hc (WA_iff.1 hW).1 (Nat.le_refl _),fun k=>?_⟩
    rw [contB_iff] at k ⊢
    refine ⟨by rw [← k.1,List.length_replicate];exact (startI_len _).symm,fun i hi h0=>?_⟩
    rw [List.length_replicate] at hi
    rw [rep_neg,if_pos hi] at h0
    omega
  rw [e];exact t
/-! ### Objects -/
theorem mem_funX : ∀ {r : Nat} {X : List Int} {g : Fun},g ∈ funX c d b r X → g.src = c ∧ g.tgt = d ∧ g.obs.take X.length = X ∧ WA c d b g.obs g.ars = true
  | 0,X,g,h=>by
    rw [funX] at h
    obtain ⟨Q,hQ,rfl⟩:=List.mem_map.1 h
    exact ⟨rfl,rfl,List.take_length,(mem_extW.1 hQ).2.2⟩
  | r + 1,X,g,h=>by
    rw [funX] at h
    obtain ⟨y,hy,hg⟩:=List.mem_flatMap.1 h
    obtain ⟨h1,h2,h3,h4⟩:=mem_funX hg
    refine ⟨h1,h2,?_,h4⟩
    have:=congrArg (List.take X.length) h3
    rw [List.take_take,List.length_append,List.length_singleton,Nat.min_eq_left (by omega),List.take_append_of_le_length (Nat.le_refl _),List.take_length] at this
    exact this
theorem funX_nil {r : Nat} (h : ∀ O Q : List Int,O.take X.length = X → WA c d b O Q = true → False) : funX c d b r X = []:=by
  rw [List.eq_nil_iff_forall_not_mem]
  intro g hg
  obtain ⟨h1,h2,h3,h4⟩:=mem_funX hg
  exact h _ _ h3 h4
theorem nodup_sub : ∀ {L M : List Int},L.Nodup → (∀ x ∈ L,x ∈ M) → L.length ≤ M.length
  | [],M,_,_=>Nat.zero_le _
  | a :: L,M,hn,hs=>by
    have ha:=hs a (List.mem_cons_self ..)
    have hn':=List.nodup_cons.1 hn
    have:=nodup_sub (L:=L) (M:=M.erase a) hn'.2 fun x hx=>by
      have hne : x ≠ a:=fun e=>hn'.1 (e ▸ hx)
      exact (List.mem_erase_of_ne hne).2 (hs x (List.mem_cons_of_mem _ hx))
    rw [List.length_erase_of_mem ha] at this
    have hp : 0 < M.length:=List.length_pos_of_mem ha
    simp only [List.length_cons]
    omega
def Need (c : Cat) (b : Bool) (p q : Int) : Nat:=if b = true then (c.hom p q).length else 1
def PlF (c d : Cat) (b : Bool) (X : List Int) (x : Nat) (f : Nat) : Prop:=c.fr.getD f 0 ≤ x → c.to.getD f 0 ≤ x → (c.fr.getD f 0 = x ∨ c.to.getD f 0 = x) → Need c b (c.fr.getD f 0) (c.to.getD f 0) ≤ (d.hom (X.getD (c.fr.getD f 0).toNat 0) (X.getD (c.to.getD f 0).toNat 0)).length
def Placed (c d : Cat) (b : Bool) (X : List Int) (x : Nat) : Prop:=∀ f,f < c.fr.length → PlF c d b X x f
theorem fits_need {O : List Int} {f : Nat} (h : WA c d b O Q = true) (hf : f < c.fr.length) : Need c b (c.fr.getD f 0) (c.to.getD f 0) ≤ (d.hom (O.getD (c.fr.getD f 0).toNat 0) (O.getD (c.to.getD f 0).toNat 0)).length:=by
  obtain ⟨w1,w2⟩:=WA_iff.1 h
  have hm : ∀ g : Nat,g < c.fr.length → c.fr.getD g 0 = c.fr.getD f 0 → c.to.getD g 0 = c.to.getD f 0 → Q.getD g 0 ∈ d.hom (O.getD (c.fr.getD f 0).toNat 0) (O.getD (c.to.getD f 0).toNat 0):=fun g hg e1 e2=>by
    have a1 : Q.length = c.fr.length:=w1.arl
    have a2:=w1.arw g (by show g < Q.length;omega)
    have a3:=w1.endf g (by show g < Q.length;omega)
    simp only [Cat.F,Cat.T,Fun.O,Int.toNat_natCast,e1,e2] at a3
    exact Cat.mem_hom.2 ⟨a2.1,a2.2,a3.1,a3.2⟩
  unfold Need
  split
  · rename_i hb
    have hn:=(w2 hb).2
    have e : ((c.hom (c.fr.getD f 0) (c.to.getD f 0)).map fun g=>Q.getD g.toNat 0).length = (c.hom (c.fr.getD f 0) (c.to.getD f 0)).length:=List.length_map ..
    rw [← e]
    refine nodup_sub ?_ fun x hx=>?_
    · unfold List.Nodup
      rw [List.pairwise_map]
      refine List.Pairwise.imp_of_mem ?_ (Cat.hom_nodup c (c.fr.getD f 0) (c.to.getD f 0))
      intro g g' hg hg' hne e
      obtain ⟨g1,g2,g3,g4⟩:=Cat.mem_hom.1 hg
      obtain ⟨k1,k2,k3,k4⟩:=Cat.mem_hom.1 hg'
      have a1 : Q.length = c.fr.length:=w1.arl
      have a2:=w1.arw g.toNat (by show _ < Q.length;omega)
      have a3:=w1.arw g'.toNat (by show _ < Q.length;omega)
      simp only at a2 a3
      rcases Nat.lt_trichotomy g.toNat g'.toNat with q | q | q
      · exact hn _ _ q (by omega) a2.1 e
      · exact hne (by omega)
      · exact hn _ _ q (by omega) a3.1 e.symm
    · obtain ⟨g,hg,rfl⟩:=List.mem_map.1 hx
      obtain ⟨g1,g2,g3,g4⟩:=Cat.mem_hom.1 hg
      exact hm g.toNat (by omega) g3 g4
  · exact List.length_pos_of_mem (hm f hf rfl rfl)
theorem getD_take {l m : List Int} {n i : Nat} (h : l.take n = m) (hi : i < m.length) : l.getD i 0 = m.getD i 0:=by
  subst h
  rw [List.length_take] at hi
  rw [List.getD_eq_getElem?_getD,List.getD_eq_getElem?_getD,List.getElem?_take,if_pos (by omega)]
theorem placed_no {r : Nat} {x : Nat} (hc : Shape c) (hx : X.length = x + 1) (h : ¬ Placed c d b X x) : funX c d b r X = []:=by
  refine funX_nil fun O Q hO hW=>h fun f hf h1 h2 _=>?_
  have:=fits_need hW hf
  have f1:=hc.frw f hf
  have f2:=hc.tow f (by rw [hc.tol];exact hf)
  rw [getD_take hO (by omega),getD_take hO (by omega)] at this
  exact this
theorem once_no {r y : Nat} (h : (y : Int) ∈ X) : funX c d true r (X ++ [(y : Int)]) = []:=by
  refine funX_nil fun O Q hO hW=>?_
  have hn:=((WA_iff.1 hW).2 rfl).1
  obtain ⟨i,hi,e⟩:=mem_getD (d:=0) h
  have hl : X.length < O.length:=by
    have:=congrArg List.length hO
    simp only [List.length_take,List.length_append,List.length_singleton] at this
    omega
  have e1 : O.getD i 0 = y:=by
    rw [getD_take hO (by simp;omega),List.getD_eq_getElem?_getD,List.getElem?_append_left hi,← List.getD_eq_getElem?_getD,e]
  have e2 : O.getD X.length 0 = y:=by
    rw [getD_take hO (by simp),List.getD_eq_getElem?_getD,List.getElem?_append_right (Nat.le_refl _)]
    simp
  exact hn i X.length hi hl (by omega) (by rw [e1,e2])
noncomputable def belowX (c d : Cat) (b : Bool) (r : Nat) (X : List Int) (y : Nat) : List Fun:=(List.range y).flatMap fun v : Nat=>funX c d b r (X ++ [(v : Int)])
theorem belowX_zero {r : Nat} : belowX c d b r X 0 = []:=rfl
theorem belowX_succ {r y : Nat} : belowX c d b r X (y + 1) = belowX c d b r X y ++ funX c d b r (X ++ [(y : Int)]):=by
  unfold belowX
  rw [List.range_succ,List.flatMap_append]
  simp
theorem belowX_split {r y K : Nat} (h : y < K) : ∃ R,belowX c d b r X K = belowX c d b r X (y + 1) ++ R:=by
  induction K with
  | zero=>omega
  | succ K ih =>
    by_cases hu : y = K
    · subst hu;exact ⟨[],(List.append_nil _).symm⟩
    · obtain ⟨R,hR⟩:=ih (by omega)
      exact ⟨R ++ funX c d b r (X ++ [(K : Int)]),by rw [belowX_succ,hR,List.append_assoc]⟩
theorem funX_all {r : Nat} : funX c d b (r + 1) X = belowX c d b r X d.ob.toNat:=rfl
end
end Go.Cats
end
section
namespace Go.Cats
section
variable {c d : Cat} {b : Bool} {X A Q L : List Int} {i k : Nat} {v : Int}
theorem unit_cp (hc : IsCat c) {x : Nat} (hx : x < c.id.length) : c.cp (c.id.getD x 0).toNat (c.id.getD x 0).toNat = c.id.getD x 0:=by
  have h1:=id_ok hc.toShape hx
  have h2:=hc.unl (c.id.getD x 0).toNat h1.1
  simp only [Cat.C,Cat.I,Cat.F,Int.toNat_natCast] at h2
  rw [h1.2.2.1,Int.toNat_natCast] at h2
  show (c.co.getD _ []).getD _ 0 = _
  rw [h2];omega
theorem startI_some (hc : Shape c) {j : Nat} (hj : j < c.fr.length) : ∀ {k : Nat},k ≤ c.id.length → 0 ≤ (startI c d X k).getD j 0 → ∃ x,x < k ∧ j = (c.id.getD x 0).toNat
  | 0,_,h0=>by rw [startI,rep_neg,if_pos hj] at h0;omega
  | k + 1,hk,h0=>by
    have h1:=id_ok hc (x:=k) (by omega)
    rw [startI,set_getD (by rw [startI_len];exact h1.1)] at h0
    by_cases e : j = (c.id.getD k 0).toNat
    · exact ⟨k,by omega,e⟩
    · rw [if_neg e] at h0
      obtain ⟨x,h2,h3⟩:=startI_some hc hj (by omega) h0
      exact ⟨x,by omega,h3⟩
theorem start_clo (hc : IsCat c) (hd : IsCat d) (hX : XOK c d b X) : ∀ a,a < c.fr.length → ∀ b,b < c.fr.length → Clo c d (startA c d X) a b:=fun p hp q hq h0 a0 b0=>by
  obtain ⟨x,hx,e1⟩:=startI_some hc.toShape hp (Nat.le_refl _) a0
  obtain ⟨y,hy,e2⟩:=startI_some hc.toShape hq (Nat.le_refl _) b0
  obtain ⟨g1,_,_,_⟩:=comp_ent hc.toShape hp hq h0
  have i1:=id_ok hc.toShape hx
  have i2:=id_ok hc.toShape hy
  rw [e1,e2,i1.2.2.2,i2.2.2.1] at g1
  have e : x = y:=by omega
  subst e
  have u1:=unit_cp hc hx
  have s1:=startI_at (d:=d) (X:=X) hc.toShape (Nat.le_refl c.id.length) x hx
  have u2:=unit_ok hc.toShape hd.toShape hX hx
  subst e1 e2
  rw [u1]
  unfold startA
  rw [s1]
  have u3:=unit_cp hd (x:=(X.getD x 0).toNat) u2.2.1
  exact u3.symm
theorem funA_start (hc : Shape c) : funA c d b X = extW (WA c d b X) (sA c d) (startA c d X):=by
  unfold funA
  refine extW_congr fun Q hQ hW=>⟨fun _=>startI_cont hc (WA_iff.1 hW).1 (Nat.le_refl _),fun k=>?_⟩
  rw [contB_iff] at k ⊢
  refine ⟨by rw [← k.1,List.length_replicate];exact (startI_len _).symm,fun i hi h0=>?_⟩
  rw [List.length_replicate] at hi
  rw [rep_neg,if_pos hi] at h0
  omega
theorem take_tk {α : Type} {A B C : List α} {n : Nat} : ((A ++ B).take n ++ C).take n = (A ++ (B ++ C)).take n:=by
  rw [← List.append_assoc]
  by_cases h : (A ++ B).length ≤ n
  · rw [List.take_of_length_le h]
  · have hl : ((A ++ B).take n).length = n:=by rw [List.length_take];omega
    rw [List.take_append_of_le_length (l₁:=(A ++ B).take n) (by omega),List.take_take,Nat.min_self,List.take_append_of_le_length (l₁:=A ++ B) (by omega)]
end
end Go.Cats
end
section
namespace Go.Cats
def lessL : List Int → List Int → Bool
  | [],[]=>false
  | [],_ :: _=>true
  | _ :: _,[]=>false
  | a :: A,b :: B=>if a = b then lessL A B else decide (a < b)
theorem lessL_asym : ∀ {a b : List Int},lessL a b = true → lessL b a = false
  | [],[],h=>rfl
  | [],_ :: _,h=>rfl
  | _ :: _,[],h=>by cases h
  | a :: A,b :: B,h=>by
    rw [lessL] at h ⊢
    by_cases e : a = b
    · rw [if_pos e] at h;rw [if_pos e.symm];exact lessL_asym h
    · rw [if_neg e] at h;rw [if_neg fun q=>e q.symm]
      simp only [decide_eq_true_eq,decide_eq_false_iff_not] at h ⊢;omega
theorem lessL_tot : ∀ {a b : List Int},lessL a b = false → lessL b a = false → a = b
  | [],[],_,_=>rfl
  | [],_ :: _,h,_=>by cases h
  | _ :: _,[],_,h=>by cases h
  | a :: A,b :: B,h,k=>by
    rw [lessL] at h k
    by_cases e : a = b
    · rw [if_pos e] at h;rw [if_pos e.symm] at k;rw [e,lessL_tot h k]
    · rw [if_neg e] at h;rw [if_neg fun q=>e q.symm] at k
      simp only [decide_eq_false_iff_not] at h k;omega
theorem lessL_trans : ∀ {a b c : List Int},lessL b a = false → lessL c b = false → lessL c a = false
  | [],[],[],_,_=>rfl
  | [],[],_ :: _,_,_=>rfl
  | [],_ :: _,[],_,h=>by cases h
  | [],_ :: _,_ :: _,_,_=>rfl
  | _ :: _,[],_,h,_=>by cases h
  | _ :: _,_ :: _,[],_,h=>by cases h
  | a :: A,b :: B,c :: C,h,k=>by
    rw [lessL] at h k ⊢
    by_cases e : b = a
    · rw [if_pos e] at h
      by_cases f : c = b
      · rw [if_pos f] at k;rw [if_pos (f.trans e)];exact lessL_trans h k
      · rw [if_neg f] at k;rw [if_neg (by omega)];simp only [decide_eq_false_iff_not] at k ⊢;omega
    · rw [if_neg e] at h
      simp only [decide_eq_false_iff_not] at h
      by_cases f : c = b
      · rw [if_neg (by omega)];simp only [decide_eq_false_iff_not];omega
      · rw [if_neg f] at k
        simp only [decide_eq_false_iff_not] at k
        rw [if_neg (by omega)];simp only [decide_eq_false_iff_not];omega
def leL (a b : List Int) : Bool:=!lessL b a
theorem leL_iff {a b : List Int} : leL a b = true ↔ lessL b a = false:=by unfold leL;simp
theorem leL_trans (a b c : List Int) (h : leL a b = true) (k : leL b c = true) : leL a c = true:=leL_iff.2 (lessL_trans (leL_iff.1 h) (leL_iff.1 k))
theorem leL_total (a b : List Int) : (leL a b || leL b a) = true:=by
  cases h : lessL a b with
  | true=>have:=lessL_asym h;simp [leL,this]
  | false=>simp [leL,h]
theorem leL_anti {a b : List Int} (h : leL a b = true) (k : leL b a = true) : a = b:=lessL_tot (leL_iff.1 k) (leL_iff.1 h)
def srt (L : List (List Int)) : List (List Int):=L.mergeSort leL
theorem srt_perm (L : List (List Int)) : (srt L).Perm L:=List.mergeSort_perm L leL
theorem srt_sorted (L : List (List Int)) : (srt L).Pairwise fun a b=>leL a b = true:=List.pairwise_mergeSort leL_trans leL_total L
theorem srt_of {L M : List (List Int)} (h : L.Perm M) (k : M.Pairwise fun a b=>leL a b = true) : srt L = M :=
  List.Perm.eq_of_pairwise (fun a b _ _=>leL_anti) (srt_sorted L) k ((srt_perm L).trans h)
theorem srt_congr {L M : List (List Int)} (h : L.Perm M) : srt L = srt M:=srt_of (h.trans (srt_perm M).symm) (srt_sorted M)
theorem srt_nil : srt [] = []:=srt_of (List.Perm.refl _) List.Pairwise.nil
theorem srt_len (L : List (List Int)) : (srt L).length = L.length:=(srt_perm L).length_eq
section
variable {S R L : List (List Int)} {x : List Int} {k : Nat}
def insAt (S : List (List Int)) (x : List Int) (k : Nat) (R : List (List Int)) : List (List Int):=S.take k ++ x :: (S.drop k ++ R)
theorem ins_start : insAt S x S.length R = S ++ x :: R:=by
  unfold insAt
  rw [List.take_length,List.drop_length,List.nil_append]
theorem ins_at (hk : k ≤ S.length) : (insAt S x k R).getD k [] = x:=by
  unfold insAt
  rw [List.getD_eq_getElem?_getD,List.getElem?_append_right (by rw [List.length_take];omega),List.length_take,Nat.min_eq_left hk,Nat.sub_self]
  rfl
theorem ins_before (hk : k < S.length) : (insAt S x (k + 1) R).getD k [] = S.getD k []:=by
  unfold insAt
  rw [List.getD_eq_getElem?_getD,List.getElem?_append_left (by rw [List.length_take];omega),List.getElem?_take,if_pos (by omega),← List.getD_eq_getElem?_getD]
theorem ins_step (hk : k < S.length) : ((insAt S x (k + 1) R).set (k + 1) (S.getD k [])).set k x = insAt S x k R:=by
  unfold insAt
  have e1 : S.take (k + 1) = S.take k ++ [S.getD k []]:=by
    rw [List.take_add_one,List.getElem?_eq_getElem hk,List.getD_eq_getElem?_getD,List.getElem?_eq_getElem hk];rfl
  have e2 : S.drop k = S.getD k [] :: S.drop (k + 1):=by
    rw [List.drop_eq_getElem_cons hk,List.getD_eq_getElem?_getD,List.getElem?_eq_getElem hk];rfl
  have l1 : (S.take k).length = k:=by rw [List.length_take];omega
  rw [e1,e2,List.append_assoc,List.set_append_right _ _ (by omega),l1,show k + 1 - k = 1 by omega]
  simp only [List.singleton_append,List.set_cons_succ,List.set_cons_zero]
  rw [List.set_append_right _ _ (by omega),l1,Nat.sub_self,List.set_cons_zero]
  rfl
theorem ins_done (hS : S.Pairwise fun a b=>leL a b = true) (hk : k ≤ S.length) (h : ∀ y ∈ S.drop k,lessL x y = true) (h2 : k = 0 ∨ lessL x (S.getD (k - 1) []) = false) : (S.take k ++ x :: S.drop k).Pairwise fun a b=>leL a b = true:=by
  have hS' : (S.take k ++ S.drop k).Pairwise fun a b=>leL a b = true:=by rw [List.take_append_drop];exact hS
  rw [List.pairwise_append] at hS' ⊢
  obtain ⟨p1,p2,p3⟩:=hS'
  refine ⟨p1,List.pairwise_cons.2 ⟨fun y hy=>leL_iff.2 (lessL_asym (h y hy)),p2⟩,fun a ha b hb=>?_⟩
  rcases List.mem_cons.1 hb with rfl | hb
  · rcases h2 with rfl | h2
    · simp at ha
    · obtain ⟨k',rfl⟩ : ∃ k',k = k' + 1:=⟨k - 1,by
        rcases Nat.eq_zero_or_pos k with rfl | q
        · simp at ha
        · omega⟩
      simp only [Nat.add_sub_cancel] at h2
      have hx : leL (S.getD k' []) b = true:=leL_iff.2 h2
      obtain ⟨i,hi,e⟩:=mem_getD (d:=[]) ha
      rw [List.length_take] at hi
      rw [List.getD_eq_getElem?_getD,List.getElem?_take,if_pos (by omega)] at e
      by_cases q : i = k'
      · subst q;rw [← e,← List.getD_eq_getElem?_getD];exact hx
      · refine leL_trans _ _ _ ?_ hx
        have:=List.pairwise_iff_getElem.1 hS i k' (by omega) (by omega) (by omega)
        rw [List.getElem?_eq_getElem (by omega)] at e
        rw [← e,List.getD_eq_getElem?_getD,List.getElem?_eq_getElem (show k' < S.length by omega)]
        exact this
  · exact p3 a ha b hb
theorem ins_perm : (S ++ [x]).Perm (S.take k ++ x :: S.drop k):=by
  have h1 : (S.take k ++ x :: S.drop k).Perm (x :: (S.take k ++ S.drop k)):=List.perm_middle
  rw [List.take_append_drop] at h1
  exact (List.perm_append_singleton x S).trans h1.symm
theorem srt_ins {i : Nat} (hi : i < L.length) (hk : k ≤ i) (h : ∀ y ∈ (srt (L.take i)).drop k,lessL (L.getD i []) y = true) (h2 : k = 0 ∨ lessL (L.getD i []) ((srt (L.take i)).getD (k - 1) []) = false) : insAt (srt (L.take i)) (L.getD i []) k (L.drop (i + 1)) = srt (L.take (i + 1)) ++ L.drop (i + 1):=by
  have hl : (srt (L.take i)).length = i:=by rw [srt_len,List.length_take];omega
  have e1 : L.take (i + 1) = L.take i ++ [L.getD i []]:=by
    rw [List.take_add_one,List.getElem?_eq_getElem hi,List.getD_eq_getElem?_getD,List.getElem?_eq_getElem hi];rfl
  have e2 : srt (L.take (i + 1)) = (srt (L.take i)).take k ++ L.getD i [] :: (srt (L.take i)).drop k:=by
    refine srt_of ?_ (ins_done (srt_sorted _) (by omega) h h2)
    rw [e1]
    exact (List.Perm.append_right _ (srt_perm _).symm).trans ins_perm
  rw [e2]
  unfold insAt
  simp
end
end Go.Cats
end
section
namespace Go.Cats
structure IsoQ (c d : Cat) (O Q : List Int) : Prop where
  hc : IsCat c
  hd : IsCat d
  fit : Fits ⟨c,d,O,Q⟩
  no : NdI O
  nq : NdI Q
  ob : c.ob = d.ob
  ar : c.fr.length = d.fr.length
section
variable {c d : Cat} {O Q A B cc dd : List Int} {f g : Nat}
theorem NdI.inj (h : NdI A) (h0 : ∀ i,i < A.length → 0 ≤ A.getD i 0) {i j : Nat} (hi : i < A.length) (hj : j < A.length) (e : A.getD i 0 = A.getD j 0) : i = j:=by
  rcases Nat.lt_trichotomy i j with q | q | q
  · exact absurd e (h i j q hj (h0 i hi))
  · exact q
  · exact absurd e.symm (h j i q hi (h0 j hj))
theorem IsoQ.len (h : IsoQ c d O Q) : Q.length = c.fr.length:=h.fit.arl
theorem IsoQ.rng (h : IsoQ c d O Q) (hf : f < c.fr.length) : 0 ≤ Q.getD f 0 ∧ Q.getD f 0 < d.fr.length:=h.fit.arw f (by show f < Q.length;rw [h.len];exact hf)
theorem IsoQ.nat (h : IsoQ c d O Q) (hf : f < c.fr.length) : (Q.getD f 0).toNat < d.fr.length:=by have:=h.rng hf;omega
theorem IsoQ.inj (h : IsoQ c d O Q) (hf : f < c.fr.length) (hg : g < c.fr.length) (e : Q.getD f 0 = Q.getD g 0) : f = g :=
  h.nq.inj (fun i hi=>(h.rng (by rw [← h.len];exact hi)).1) (by rw [h.len];exact hf) (by rw [h.len];exact hg) e
theorem IsoQ.perm (h : IsoQ c d O Q) : ((List.range c.fr.length).map fun f=>(Q.getD f 0).toNat).Perm (List.range d.fr.length):=by
  have hn : ((List.range c.fr.length).map fun f=>(Q.getD f 0).toNat).Nodup:=by
    unfold List.Nodup
    rw [List.pairwise_map]
    refine List.Pairwise.imp_of_mem ?_ (List.pairwise_lt_range (n:=c.fr.length))
    intro a b ha hb hab e
    have ha:=List.mem_range.1 ha
    have hb:=List.mem_range.1 hb
    have h1:=h.rng ha
    have h2:=h.rng hb
    have:=h.inj ha hb (by omega)
    omega
  have hs : ∀ x ∈ (List.range c.fr.length).map fun f=>(Q.getD f 0).toNat,x ∈ List.range d.fr.length:=fun x hx=>by
    obtain ⟨f,hf,rfl⟩:=List.mem_map.1 hx
    exact List.mem_range.2 (h.nat (List.mem_range.1 hf))
  rw [List.perm_ext_iff_of_nodup hn List.nodup_range]
  intro x
  refine ⟨hs x,fun hx=>Classical.byContradiction fun hno=>?_⟩
  have hsub : ∀ y ∈ (List.range c.fr.length).map fun f=>(Q.getD f 0).toNat,y ∈ (List.range d.fr.length).erase x:=fun y hy=>by
    have hne : y ≠ x:=fun e=>hno (e ▸ hy)
    exact (List.mem_erase_of_ne hne).2 (hs y hy)
  have h1:=List.Nodup.length_le_of_subset hn hsub
  rw [List.length_map,List.length_range,List.length_erase_of_mem hx,List.length_range] at h1
  have h2:=List.mem_range.1 hx
  have h3:=h.ar
  omega
theorem IsoQ.surj (h : IsoQ c d O Q) {g : Nat} (hg : g < d.fr.length) : ∃ f,f < c.fr.length ∧ Q.getD f 0 = g:=by
  have:=(h.perm.mem_iff (a:=g)).2 (List.mem_range.2 hg)
  obtain ⟨f,hf,e⟩:=List.mem_map.1 this
  have hf:=List.mem_range.1 hf
  exact ⟨f,hf,by have:=h.rng hf;omega⟩
theorem IsoQ.fr (h : IsoQ c d O Q) (hf : f < c.fr.length) : d.fr.getD (Q.getD f 0).toNat 0 = O.getD (c.fr.getD f 0).toNat 0 ∧ d.to.getD (Q.getD f 0).toNat 0 = O.getD (c.to.getD f 0).toNat 0:=by
  have:=h.fit.endf f (by show f < Q.length;rw [h.len];exact hf)
  simpa only [Cat.F,Cat.T,Fun.O,Int.toNat_natCast] using this
theorem IsoQ.oinj (h : IsoQ c d O Q) {p q : Int} (hp : 0 ≤ p ∧ p < c.ob) (hq : 0 ≤ q ∧ q < c.ob) (e : O.getD p.toNat 0 = O.getD q.toNat 0) : p = q:=by
  have hl : (O.length : Int) = c.ob:=h.fit.obl
  have:=h.no.inj (fun i hi=>(h.fit.obw i hi).1) (by omega : p.toNat < O.length) (by omega : q.toNat < O.length) e
  omega
theorem IsoQ.cp (h : IsoQ c d O Q) (hf : f < c.fr.length) (hg : g < c.fr.length) : (0 ≤ c.cp f g ↔ 0 ≤ d.cp (Q.getD f 0).toNat (Q.getD g 0).toNat) ∧ (0 ≤ c.cp f g → (c.cp f g).toNat < c.fr.length ∧ d.cp (Q.getD f 0).toNat (Q.getD g 0).toNat = Q.getD (c.cp f g).toNat 0):=by
  have key : 0 ≤ c.cp f g → (c.cp f g).toNat < c.fr.length ∧ d.cp (Q.getD f 0).toNat (Q.getD g 0).toNat = Q.getD (c.cp f g).toNat 0:=fun h0=>by
    have:=h.fit.cmp f g hf hg h0
    exact ⟨(comp_ent h.hc.toShape hf hg h0).2.1,this.symm⟩
  refine ⟨⟨fun h0=>?_,fun h0=>?_⟩,key⟩
  · obtain ⟨k1,k2⟩:=key h0
    rw [k2];exact (h.rng k1).1
  · have e:=(comp_ent h.hd.toShape (h.nat hf) (h.nat hg) h0).1
    rw [(h.fr hf).2,(h.fr hg).1] at e
    have:=h.oinj (by have:=h.hc.tow f (by rw [h.hc.tol];exact hf);exact this) (h.hc.frw g hg) e
    exact h.hc.toShape.comp_nn hf hg this
theorem IsoQ.hom (h : IsoQ c d O Q) {p q : Int} (hp : 0 ≤ p ∧ p < c.ob) (hq : 0 ≤ q ∧ q < c.ob) : (c.hom p q).length = (d.hom (O.getD p.toNat 0) (O.getD q.toNat 0)).length:=by
  have hmap : ∀ f ∈ c.hom p q,Q.getD f.toNat 0 ∈ d.hom (O.getD p.toNat 0) (O.getD q.toNat 0):=fun f hf=>by
    obtain ⟨h1,h2,h3,h4⟩:=Cat.mem_hom.1 hf
    have hf' : f.toNat < c.fr.length:=by omega
    have e:=h.fr hf'
    have r:=h.rng hf'
    have h3 : c.fr.getD f.toNat 0 = p:=h3
    have h4 : c.to.getD f.toNat 0 = q:=h4
    rw [h3,h4] at e
    exact Cat.mem_hom.2 ⟨r.1,r.2,e.1,e.2⟩
  refine Nat.le_antisymm ?_ ?_
  · have e : ((c.hom p q).map fun g=>Q.getD g.toNat 0).length = (c.hom p q).length:=List.length_map ..
    rw [← e]
    refine nodup_sub ?_ fun x hx=>?_
    · unfold List.Nodup
      rw [List.pairwise_map]
      refine List.Pairwise.imp_of_mem ?_ (Cat.hom_nodup c p q)
      intro g g' hg hg' hne e
      obtain ⟨g1,g2,g3,g4⟩:=Cat.mem_hom.1 hg
      obtain ⟨k1,k2,k3,k4⟩:=Cat.mem_hom.1 hg'
      have:=h.inj (by omega) (by omega) e
      exact hne (by omega)
    · obtain ⟨g,hg,rfl⟩:=List.mem_map.1 hx
      exact hmap g hg
  · have e : ((c.hom p q).map fun g=>Q.getD g.toNat 0).length = (c.hom p q).length:=List.length_map ..
    rw [← e]
    refine nodup_sub (Cat.hom_nodup _ _ _) fun x hx=>?_
    obtain ⟨h1,h2,h3,h4⟩:=Cat.mem_hom.1 hx
    obtain ⟨f,hf,e⟩:=h.surj (g:=x.toNat) (by omega)
    have k:=h.fr hf
    rw [e,Int.toNat_natCast] at k
    have h3 : d.fr.getD x.toNat 0 = O.getD p.toNat 0:=h3
    have h4 : d.to.getD x.toNat 0 = O.getD q.toNat 0:=h4
    rw [h3,h4] at k
    have e1:=h.oinj hp (h.hc.frw f hf) k.1
    have e2:=h.oinj hq (by have:=h.hc.tow f (by rw [h.hc.tol];exact hf);exact this) k.2
    refine List.mem_map.2 ⟨(f : Int),Cat.mem_hom.2 ⟨by omega,by omega,?_,?_⟩,?_⟩
    · show c.fr.getD (f : Int).toNat 0 = p;rw [Int.toNat_natCast];exact e1.symm
    · show c.to.getD (f : Int).toNat 0 = q;rw [Int.toNat_natCast];exact e2.symm
    · rw [Int.toNat_natCast,e];omega
/-! ### Colours -/
def whi (h f g : Int) : Int:=(if h = f then 1 else 0) + (if h = g then 2 else 0)
def lookE (c : Cat) (col : List Int) (f g : Nat) : List (List Int) :=
  (if 0 ≤ c.cp f g then [[0,col.getD g 0,col.getD (c.cp f g).toNat 0,whi (c.cp f g) f g]] else []) ++ (if 0 ≤ c.cp g f then [[1,col.getD g 0,col.getD (c.cp g f).toNat 0,whi (c.cp g f) f g]] else [])
def look (c : Cat) (col : List Int) (f : Nat) : List Int:=col.getD f 0 :: (srt (coll c.fr.length (lookE c col f))).flatten
def Keep (c d : Cat) (cc dd : List Int) : Prop:=∀ O Q,IsoQ c d O Q → ∀ f,f < c.fr.length → cc.getD f 0 = dd.getD (Q.getD f 0).toNat 0
theorem whi_iso (h : IsoQ c d O Q) {k : Nat} (hk : k < c.fr.length) (hf : f < c.fr.length) (hg : g < c.fr.length) : whi (Q.getD k 0) ((Q.getD f 0).toNat : Int) ((Q.getD g 0).toNat : Int) = whi k f g:=by
  have a:=h.rng hk
  have b:=h.rng hf
  have c:=h.rng hg
  rw [Int.toNat_of_nonneg b.1,Int.toNat_of_nonneg c.1]
  unfold whi
  have e1 : Q.getD k 0 = Q.getD f 0 ↔ (k : Int) = (f : Int):=⟨fun e=>by rw [h.inj hk hf e],fun e=>by rw [show k = f by omega]⟩
  have e2 : Q.getD k 0 = Q.getD g 0 ↔ (k : Int) = (g : Int):=⟨fun e=>by rw [h.inj hk hg e],fun e=>by rw [show k = g by omega]⟩
  simp only [e1,e2]
theorem lookE_iso (h : IsoQ c d O Q) (hk : ∀ f,f < c.fr.length → cc.getD f 0 = dd.getD (Q.getD f 0).toNat 0) (hf : f < c.fr.length) (hg : g < c.fr.length) : lookE d dd (Q.getD f 0).toNat (Q.getD g 0).toNat = lookE c cc f g:=by
  unfold lookE
  obtain ⟨p1,p2⟩:=h.cp hf hg
  obtain ⟨q1,q2⟩:=h.cp hg hf
  congr 1
  · by_cases h0 : 0 ≤ c.cp f g
    · obtain ⟨r1,r2⟩:=p2 h0
      have r3:=h.rng r1
      rw [if_pos h0,if_pos (p1.1 h0),r2,← hk g hg,← hk _ r1,whi_iso h r1 hf hg,Int.toNat_of_nonneg h0]
    · rw [if_neg h0,if_neg fun q=>h0 (p1.2 q)]
  · by_cases h0 : 0 ≤ c.cp g f
    · obtain ⟨r1,r2⟩:=q2 h0
      have r3:=h.rng r1
      rw [if_pos h0,if_pos (q1.1 h0),r2,← hk g hg,← hk _ r1,whi_iso h r1 hf hg,Int.toNat_of_nonneg h0]
    · rw [if_neg h0,if_neg fun q=>h0 (q1.2 q)]
theorem look_iso (h : IsoQ c d O Q) (hk : ∀ f,f < c.fr.length → cc.getD f 0 = dd.getD (Q.getD f 0).toNat 0) (hf : f < c.fr.length) : look c cc f = look d dd (Q.getD f 0).toNat:=by
  unfold look
  rw [hk f hf]
  congr 2
  refine srt_congr ?_
  unfold coll
  have e : (List.range c.fr.length).flatMap (lookE c cc f) = ((List.range c.fr.length).map fun g=>(Q.getD g 0).toNat).flatMap (lookE d dd (Q.getD f 0).toNat):=by
    rw [List.flatMap_map,List.flatMap_def,List.flatMap_def]
    congr 1
    exact List.map_congr_left fun g hg=>(lookE_iso h hk hf (List.mem_range.1 hg)).symm
  rw [e]
  exact h.perm.flatMap_right _
def lookAll (c d : Cat) (cc dd : List Int) : List (List Int):=(List.range c.fr.length).map (look c cc) ++ (List.range d.fr.length).map (look d dd)
def kindsN (L : List (List Int)) : Nat → List (List Int)
  | 0=>[]
  | k + 1=>if fnd (kindsN L k) (L.getD k []) < 0 then kindsN L k ++ [L.getD k []] else kindsN L k
def kindsA (c d : Cat) (cc dd : List Int) : List (List Int):=kindsN (lookAll c d cc dd) (lookAll c d cc dd).length
def colA (c d : Cat) (cc dd : List Int) : List Int:=(List.range c.fr.length).map fun f=>fnd (kindsA c d cc dd) (look c cc f)
def colB (c d : Cat) (cc dd : List Int) : List Int:=(List.range d.fr.length).map fun f=>fnd (kindsA c d cc dd) (look d dd f)
def colF (c d : Cat) : Nat → List Int → List Int → Nat → List Int × List Int
  | 0,cc,dd,_=>(cc,dd)
  | k + 1,cc,dd,n=>if (kindsA c d cc dd).length = n then (colA c d cc dd,colB c d cc dd) else colF c d k (colA c d cc dd) (colB c d cc dd) (kindsA c d cc dd).length
def col0 (c : Cat) : List Int:=(List.range c.fr.length).map fun f=>if c.id.getD (c.fr.getD f 0).toNat 0 = f then 1 else 0
theorem map_range_at {α : Type} {n i : Nat} {k : Nat → α} {x : α} (h : i < n) : ((List.range n).map k).getD i x = k i:=by
  rw [List.getD_eq_getElem?_getD,List.getElem?_map,List.getElem?_range h];rfl
theorem keep0 : Keep c d (col0 c) (col0 d):=fun O Q h f hf=>by
  unfold col0
  rw [map_range_at hf,map_range_at (h.nat hf)]
  have hfr:=h.hc.frw f hf
  have hx : (c.fr.getD f 0).toNat < c.id.length:=by have:=h.hc.idl;omega
  have i1:=id_ok h.hc.toShape hx
  have hu:=h.fit.unit (c.fr.getD f 0).toNat hx
  simp only [Cat.I,Fun.A,Fun.O,Int.toNat_natCast] at hu
  have e : d.id.getD (d.fr.getD (Q.getD f 0).toNat 0).toNat 0 = Q.getD (c.id.getD (c.fr.getD f 0).toNat 0).toNat 0:=by
    rw [(h.fr hf).1];exact hu.symm
  rw [e]
  have r1:=h.rng hf
  have r2:=h.rng i1.1
  rw [Int.toNat_of_nonneg r1.1]
  by_cases q : c.id.getD (c.fr.getD f 0).toNat 0 = f
  · rw [if_pos q,if_pos (by rw [q,Int.toNat_natCast])]
  · rw [if_neg q,if_neg fun q'=>q (by have:=h.inj i1.1 hf q';omega)]
theorem keep_step (h : Keep c d cc dd) : Keep c d (colA c d cc dd) (colB c d cc dd):=fun O Q hi f hf=>by
  unfold colA colB
  rw [map_range_at hf,map_range_at (hi.nat hf),look_iso hi (h O Q hi) hf]
theorem keepF : ∀ {k : Nat} {cc dd : List Int} {n : Nat},Keep c d cc dd → Keep c d (colF c d k cc dd n).1 (colF c d k cc dd n).2
  | 0,_,_,_,h=>h
  | k + 1,_,_,_,h=>by
    rw [colF]
    split
    · exact keep_step h
    · exact keepF (keep_step h)
theorem colA_len : (colA c d cc dd).length = c.fr.length:=by simp [colA]
theorem colB_len : (colB c d cc dd).length = d.fr.length:=by simp [colB]
theorem kindsN_le (L : List (List Int)) : ∀ k,(kindsN L k).length ≤ k
  | 0=>Nat.le_refl _
  | k + 1=>by
    have:=kindsN_le L k
    rw [kindsN]
    split
    · simp;omega
    · omega
theorem kindsN_mem {L : List (List Int)} : ∀ {k j : Nat},j < k → L.getD j [] ∈ kindsN L k
  | 0,j,h=>by omega
  | k + 1,j,h=>by
    rw [kindsN]
    by_cases e : j = k
    · subst e
      split
      · simp
      · rename_i hn
        refine Classical.byContradiction fun hno=>hn ?_
        have : scan (kindsN L j).length (fndO (kindsN L j) (L.getD j [])) = none:=scan_none.2 fun i hi=>by
          refine fndO_f fun e=>hno ?_
          rw [← e];exact getD_mem hi
        rw [fnd_none this];decide
    · have ih:=kindsN_mem (L:=L) (k:=k) (j:=j) (by omega)
      split
      · exact List.mem_append_left _ ih
      · exact ih
theorem kindsN_src {L : List (List Int)} : ∀ {k : Nat} {r : List Int},r ∈ kindsN L k → ∃ j,j < k ∧ L.getD j [] = r
  | 0,r,h=>by simp [kindsN] at h
  | k + 1,r,h=>by
    rw [kindsN] at h
    split at h
    · rcases List.mem_append.1 h with h | h
      · obtain ⟨j,h1,h2⟩:=kindsN_src h;exact ⟨j,by omega,h2⟩
      · exact ⟨k,by omega,(List.mem_singleton.1 h).symm⟩
    · obtain ⟨j,h1,h2⟩:=kindsN_src h;exact ⟨j,by omega,h2⟩
theorem kindsN_nd {L : List (List Int)} : ∀ (k : Nat),(kindsN L k).Nodup
  | 0=>List.nodup_nil
  | k + 1=>by
    have ih:=kindsN_nd (L:=L) k
    rw [kindsN]
    split
    · rename_i hn
      rw [List.nodup_append]
      refine ⟨ih,by simp,fun a ha b hb e=>?_⟩
      rw [List.mem_singleton.1 hb] at e
      subst e
      obtain ⟨i,h1,h2,h3⟩:=fnd_mem ha
      omega
    · exact ih
theorem fnd_at {L : List (List Int)} (h : L.Nodup) {i : Nat} (hi : i < L.length) : fnd L (L.getD i []) = i:=by
  obtain ⟨j,h1,h2,h3⟩:=fnd_mem (getD_mem (d:=[]) hi)
  rw [h3]
  have : j = i:=by
    rw [List.getD_eq_getElem?_getD,List.getD_eq_getElem?_getD,List.getElem?_eq_getElem h1,List.getElem?_eq_getElem hi,Option.getD_some,Option.getD_some] at h2
    unfold List.Nodup at h
    rw [List.pairwise_iff_getElem] at h
    rcases Nat.lt_trichotomy j i with q | q | q
    · exact absurd h2 (h j i h1 hi q)
    · exact q
    · exact absurd h2.symm (h i j hi h1 q)
  omega
def Cov (c d : Cat) (cc dd : List Int) (n : Nat) : Prop:=∀ v : Nat,v < n → (∃ f,f < c.fr.length ∧ cc.getD f 0 = v) ∨ ∃ f,f < d.fr.length ∧ dd.getD f 0 = v
theorem lookAll_len : (lookAll c d cc dd).length = c.fr.length + d.fr.length:=by simp [lookAll]
theorem lookAll_a (hf : f < c.fr.length) : (lookAll c d cc dd).getD f [] = look c cc f:=by
  unfold lookAll
  rw [List.getD_eq_getElem?_getD,List.getElem?_append_left (by simpa using hf),← List.getD_eq_getElem?_getD,map_range_at hf]
theorem lookAll_b (hf : f < d.fr.length) : (lookAll c d cc dd).getD (c.fr.length + f) [] = look d dd f:=by
  unfold lookAll
  rw [List.getD_eq_getElem?_getD,List.getElem?_append_right (by simp),← List.getD_eq_getElem?_getD]
  simp only [List.length_map,List.length_range,Nat.add_sub_cancel_left]
  exact map_range_at hf
theorem kindsA_a (hf : f < c.fr.length) : look c cc f ∈ kindsA c d cc dd:=by
  rw [← lookAll_a (d:=d) (dd:=dd) hf]
  exact kindsN_mem (by rw [lookAll_len];omega)
theorem kindsA_b (hf : f < d.fr.length) : look d dd f ∈ kindsA c d cc dd:=by
  rw [← lookAll_b (c:=c) (cc:=cc) hf]
  exact kindsN_mem (by rw [lookAll_len];omega)
theorem kindsA_le : (kindsA c d cc dd).length ≤ c.fr.length + d.fr.length:=by
  have:=kindsN_le (lookAll c d cc dd) (lookAll c d cc dd).length
  rw [lookAll_len] at this
  unfold kindsA
  rw [lookAll_len]
  exact this
theorem cov_step : Cov c d (colA c d cc dd) (colB c d cc dd) (kindsA c d cc dd).length:=fun v hv=>by
  obtain ⟨j,hj,e⟩:=kindsN_src (getD_mem (d:=[]) hv)
  have e2:=fnd_at (kindsN_nd _) hv
  rw [lookAll_len] at hj
  by_cases h : j < c.fr.length
  · refine .inl ⟨j,h,?_⟩
    unfold colA
    rw [map_range_at h,← lookAll_a (d:=d) (dd:=dd) h,e]
    exact e2
  · refine .inr ⟨j - c.fr.length,by omega,?_⟩
    unfold colB
    have h' : j - c.fr.length < d.fr.length:=by omega
    rw [map_range_at h',← lookAll_b (c:=c) (cc:=cc) h',show c.fr.length + (j - c.fr.length) = j by omega,e]
    exact e2
theorem kinds_ge {n : Nat} (h : Cov c d cc dd n) : n ≤ (kindsA c d cc dd).length:=by
  have h1 : ∀ v ∈ List.range n,v ∈ (kindsA c d cc dd).map fun r=>(r.headD 0).toNat:=fun v hv=>by
    have hv:=List.mem_range.1 hv
    rcases h v hv with ⟨f,hf,e⟩|⟨f,hf,e⟩
    · exact List.mem_map.2 ⟨_,kindsA_a (d:=d) (dd:=dd) hf,by simp only [look,List.headD_cons,e];omega⟩
    · exact List.mem_map.2 ⟨_,kindsA_b (c:=c) (cc:=cc) hf,by simp only [look,List.headD_cons,e];omega⟩
  have:=List.Nodup.length_le_of_subset List.nodup_range h1
  simpa using this
/-! ### Each number as often -/
def AlikeP (a b : List Int) : Prop:=a.length = b.length ∧ ∀ k,k < a.length → a.count (a.getD k 0) = b.count (a.getD k 0)
theorem alike_iso (h : IsoQ c d O Q) (hk : Keep c d A B) (hA : A.length = c.fr.length) (hB : B.length = d.fr.length) : AlikeP A B:=by
  refine ⟨by rw [hA,hB,h.ar],fun k _=>?_⟩
  have eA : A = ((List.range c.fr.length).map fun f=>(Q.getD f 0).toNat).map fun j=>B.getD j 0:=by
    refine List.ext_getElem? fun i=>?_
    rw [List.map_map,List.getElem?_map]
    by_cases hi : i < c.fr.length
    · rw [List.getElem?_range hi,List.getElem?_eq_getElem (by omega)]
      have:=hk O Q h i hi
      rw [List.getD_eq_getElem?_getD,List.getElem?_eq_getElem (by omega)] at this
      simp only [Option.getD_some] at this
      simp only [Option.map_some,Function.comp,this]
    · rw [List.getElem?_eq_none (by omega),List.getElem?_eq_none (by simpa using hi)];rfl
  have eB : B = (List.range d.fr.length).map fun j=>B.getD j 0:=by
    refine List.ext_getElem? fun i=>?_
    rw [List.getElem?_map]
    by_cases hi : i < d.fr.length
    · rw [List.getElem?_range hi,Option.map_some,List.getD_eq_getElem?_getD,List.getElem?_eq_getElem (by omega)];rfl
    · rw [List.getElem?_eq_none (by omega),List.getElem?_eq_none (by simpa using hi)];rfl
  have hp : A.Perm B:=(List.Perm.of_eq eA).trans ((h.perm.map _).trans (List.Perm.of_eq eB.symm))
  exact hp.count_eq _
end
end Go.Cats
end
section
namespace Go.Cats
structure TabOK (n : Nat) (A : List (List Int)) (U : Nat → List Int) (cp : List Int → List Int → List Int) : Prop where
  n8 : n ≤ 8
  a40 : A.length ≤ 40
  nd : A.Nodup
  e0 : ∀ r ∈ A,0 ≤ r.getD 0 0 ∧ r.getD 0 0 < n
  e1 : ∀ r ∈ A,0 ≤ r.getD 1 0 ∧ r.getD 1 0 < n
  um : ∀ i,i < n → U i ∈ A ∧ (U i).getD 0 0 = i ∧ (U i).getD 1 0 = i
  cm : ∀ r ∈ A,∀ s ∈ A,r.getD 1 0 = s.getD 0 0 → cp r s ∈ A ∧ (cp r s).getD 0 0 = r.getD 0 0 ∧ (cp r s).getD 1 0 = s.getD 1 0
  ul : ∀ r ∈ A,cp (U (r.getD 0 0).toNat) r = r
  ur : ∀ r ∈ A,cp r (U (r.getD 1 0).toNat) = r
  as : ∀ r ∈ A,∀ s ∈ A,∀ q ∈ A,r.getD 1 0 = s.getD 0 0 → s.getD 1 0 = q.getD 0 0 → cp (cp r s) q = cp r (cp s q)
def tabR (A : List (List Int)) (cp : List Int → List Int → List Int) (a n : Nat) : List Int:=(List.range n).map fun b=>if (A.getD a []).getD 1 0 = (A.getD b []).getD 0 0 then fnd A (cp (A.getD a []) (A.getD b [])) else -1
def tabC (n : Nat) (A : List (List Int)) (U : Nat → List Int) (cp : List Int → List Int → List Int) : Cat :=
  ⟨n,A.map fun r=>r.getD 0 0,A.map fun r=>r.getD 1 0,(List.range n).map fun i=>fnd A (U i),(List.range A.length).map fun a=>tabR A cp a A.length⟩
section
variable {n : Nat} {A : List (List Int)} {U : Nat → List Int} {cp : List Int → List Int → List Int} {a b i : Nat}
theorem rowsMap_at {f : List Int → Int} (h : a < A.length) : (A.map f).getD a 0 = f (A.getD a []):=by
  rw [List.getD_eq_getElem?_getD,List.getElem?_map,List.getElem?_eq_getElem h,List.getD_eq_getElem?_getD (l:=A),List.getElem?_eq_getElem h];rfl
theorem tab_fr (h : a < A.length) : (tabC n A U cp).fr.getD a 0 = (A.getD a []).getD 0 0:=rowsMap_at (f:=fun r=>r.getD 0 0) h
theorem tab_to (h : a < A.length) : (tabC n A U cp).to.getD a 0 = (A.getD a []).getD 1 0:=rowsMap_at (f:=fun r=>r.getD 1 0) h
theorem tab_m : (tabC n A U cp).fr.length = A.length:=by show (A.map _).length = _;rw [List.length_map]
theorem tab_id (h : i < n) : (tabC n A U cp).id.getD i 0 = fnd A (U i):=by
  show ((List.range n).map _).getD i 0 = _
  rw [List.getD_eq_getElem?_getD,List.getElem?_map,List.getElem?_range h];rfl
theorem tab_row (h : a < A.length) : (tabC n A U cp).co.getD a [] = tabR A cp a A.length:=by
  show ((List.range A.length).map _).getD a [] = _
  rw [List.getD_eq_getElem?_getD,List.getElem?_map,List.getElem?_range h];rfl
theorem tab_C (ha : a < A.length) (hb : b < A.length) : (tabC n A U cp).C a b = if (A.getD a []).getD 1 0 = (A.getD b []).getD 0 0 then fnd A (cp (A.getD a []) (A.getD b [])) else -1:=by
  show ((tabC n A U cp).co.getD (a : Int).toNat []).getD (b : Int).toNat 0 = _
  rw [Int.toNat_natCast,Int.toNat_natCast,tab_row ha]
  unfold tabR
  rw [List.getD_eq_getElem?_getD,List.getElem?_map,List.getElem?_range hb];rfl
theorem TabOK.mem (ha : a < A.length) : A.getD a [] ∈ A:=getD_mem ha
theorem TabOK.C (h : TabOK n A U cp) (ha : a < A.length) (hb : b < A.length) (e : (A.getD a []).getD 1 0 = (A.getD b []).getD 0 0) : ∃ k : Nat,k < A.length ∧ A.getD k [] = cp (A.getD a []) (A.getD b []) ∧ (tabC n A U cp).C a b = k:=by
  have hm:=(h.cm _ (TabOK.mem ha) _ (TabOK.mem hb) e).1
  obtain ⟨k,h1,h2,h3⟩:=fnd_mem hm
  exact ⟨k,h1,h2,by rw [tab_C ha hb,if_pos e,h3]⟩
theorem TabOK.I (h : TabOK n A U cp) (hi : i < n) : ∃ k : Nat,k < A.length ∧ A.getD k [] = U i ∧ (tabC n A U cp).id.getD i 0 = k:=by
  obtain ⟨k,h1,h2,h3⟩:=fnd_mem (h.um i hi).1
  exact ⟨k,h1,h2,by rw [tab_id hi,h3]⟩
theorem TabOK.inj (h : TabOK n A U cp) (ha : a < A.length) (hb : b < A.length) (e : A.getD a [] = A.getD b []) : a = b:=by
  have h1:=fnd_at h.nd ha
  have h2:=fnd_at h.nd hb
  rw [e,h2] at h1
  omega
theorem tab_F (ha : a < A.length) : (tabC n A U cp).F (a : Int) = (A.getD a []).getD 0 0:=by
  show (tabC n A U cp).fr.getD (a : Int).toNat 0 = _
  rw [Int.toNat_natCast,tab_fr ha]
theorem tab_T (ha : a < A.length) : (tabC n A U cp).T (a : Int) = (A.getD a []).getD 1 0:=by
  show (tabC n A U cp).to.getD (a : Int).toNat 0 = _
  rw [Int.toNat_natCast,tab_to ha]
theorem TabOK.shape (h : TabOK n A U cp) : Shape (tabC n A U cp):=by
  have hm:=tab_m (n:=n) (A:=A) (U:=U) (cp:=cp)
  refine ⟨Int.natCast_nonneg n,?_,by rw [hm];exact h.a40,?_,fun a ha=>?_,fun a ha=>?_,?_,fun i hi=>?_,?_,fun i hi=>?_,fun a ha=>⟨?_,fun b hb=>?_⟩⟩
  · show (n : Int) ≤ 8;have:=h.n8;omega
  · show (A.map _).length = (A.map _).length;rw [List.length_map,List.length_map]
  · rw [hm] at ha;rw [tab_fr ha];exact h.e0 _ (TabOK.mem ha)
  · have ha : a < A.length := by have e : (tabC n A U cp).to.length = A.length := by show (A.map _).length = _; rw [List.length_map]
                                 exact e ▸ ha
    rw [tab_to ha];exact h.e1 _ (TabOK.mem ha)
  · show (((List.range n).map _).length : Int) = n;rw [List.length_map,List.length_range]
  · have hi : i < n := by have e : (tabC n A U cp).id.length = n := by show ((List.range n).map _).length = _; rw [List.length_map, List.length_range]
                          exact e ▸ hi
    obtain ⟨k,k1,k2,k3⟩:=h.I hi
    rw [k3,hm];omega
  · show ((List.range A.length).map _).length = (A.map _).length;rw [List.length_map,List.length_range,List.length_map]
  · have hi : i < n := by have e : (tabC n A U cp).id.length = n := by show ((List.range n).map _).length = _; rw [List.length_map, List.length_range]
                          exact e ▸ hi
    obtain ⟨k,k1,k2,k3⟩:=h.I hi
    rw [k3,tab_F k1,tab_T k1,k2]
    exact (h.um i hi).2
  · rw [hm] at ha ⊢
    rw [tab_row ha];unfold tabR;rw [List.length_map,List.length_range]
  · rw [hm] at ha hb
    unfold Cat.Entry
    rw [tab_to ha,tab_fr hb,tab_fr ha,tab_to hb,hm]
    by_cases e : (A.getD a []).getD 1 0 = (A.getD b []).getD 0 0
    · obtain ⟨k,k1,k2,k3⟩:=h.C ha hb e
      have hc:=(h.cm _ (TabOK.mem ha) _ (TabOK.mem hb) e).2
      refine .inl ⟨e,by rw [k3];omega,?_,?_⟩
      · rw [k3,tab_F k1,k2];exact hc.1
      · rw [k3,tab_T k1,k2];exact hc.2
    · exact .inr ⟨e,by rw [tab_C ha hb,if_neg e]⟩
theorem TabOK.cat (h : TabOK n A U cp) : IsCat (tabC n A U cp):=by
  have hm:=tab_m (n:=n) (A:=A) (U:=U) (cp:=cp)
  refine ⟨h.shape,fun f hf=>?_,fun f hf=>?_,fun f g q hf hg hq e1 e2=>?_⟩
  · rw [hm] at hf
    have he:=h.e0 _ (TabOK.mem hf)
    rw [tab_F hf]
    obtain ⟨k,k1,k2,k3⟩:=h.I (i:=((A.getD f []).getD 0 0).toNat) (by omega)
    have hI : (tabC n A U cp).I ((A.getD f []).getD 0 0) = k:=k3
    have hu:=(h.um ((A.getD f []).getD 0 0).toNat (by omega)).2.2
    rw [hI]
    obtain ⟨j,j1,j2,j3⟩:=h.C k1 hf (by rw [k2,hu];omega)
    rw [j3]
    rw [k2,h.ul _ (TabOK.mem hf)] at j2
    rw [h.inj j1 hf j2]
  · rw [hm] at hf
    have he:=h.e1 _ (TabOK.mem hf)
    rw [tab_T hf]
    obtain ⟨k,k1,k2,k3⟩:=h.I (i:=((A.getD f []).getD 1 0).toNat) (by omega)
    have hI : (tabC n A U cp).I ((A.getD f []).getD 1 0) = k:=k3
    have hu:=(h.um ((A.getD f []).getD 1 0).toNat (by omega)).2.1
    rw [hI]
    obtain ⟨j,j1,j2,j3⟩:=h.C hf k1 (by rw [k2,hu];omega)
    rw [j3]
    rw [k2,h.ur _ (TabOK.mem hf)] at j2
    rw [h.inj j1 hf j2]
  · rw [hm] at hf hg hq
    rw [tab_T hf,tab_F hg] at e1
    rw [tab_T hg,tab_F hq] at e2
    obtain ⟨j,j1,j2,j3⟩:=h.C hf hg e1
    obtain ⟨k,k1,k2,k3⟩:=h.C hg hq e2
    have c1:=(h.cm _ (TabOK.mem hf) _ (TabOK.mem hg) e1).2
    have c2:=(h.cm _ (TabOK.mem hg) _ (TabOK.mem hq) e2).2
    rw [j3,k3]
    obtain ⟨x,x1,x2,x3⟩:=h.C j1 hq (by rw [j2,c1.2];exact e2)
    obtain ⟨y,y1,y2,y3⟩:=h.C hf k1 (by rw [k2,c2.1];exact e1)
    rw [x3,y3,h.inj x1 y1 (by rw [x2,y2,j2,k2];exact h.as _ (TabOK.mem hf) _ (TabOK.mem hg) _ (TabOK.mem hq) e1 e2)]
end
end Go.Cats
end
section
namespace Go.Cats
structure Link where
  i : Int
  j : Int
  left : List Int
  right : List Int
instance : Inhabited Link:=⟨⟨0,0,[],[]⟩⟩
structure LinksW (S : List Nat) (ls : List Link) : Prop where
  i : ∀ l ∈ ls,0 ≤ l.i ∧ l.i < S.length
  j : ∀ l ∈ ls,0 ≤ l.j ∧ l.j < S.length
  left : ∀ l ∈ ls,l.left.length = S.getD l.i.toNat 0
  right : ∀ l ∈ ls,l.right.length = S.getD l.j.toNat 0
def okLk (ls : List Link) (Q : List Int) : Bool:=ls.all fun l=>decide (l.left.getD (Q.getD l.i.toNat 0).toNat 0 = l.right.getD (Q.getD l.j.toNat 0).toNat 0)
def linkFit (A : List Int) (n : Nat) (e : Int) (l : Link) : Bool :=
  if l.i = n ∧ l.j = n then decide (l.left.getD e.toNat 0 = l.right.getD e.toNat 0)
  else if l.i = n ∧ 0 ≤ A.getD l.j.toNat 0 then decide (l.left.getD e.toNat 0 = l.right.getD (A.getD l.j.toNat 0).toNat 0)
  else if l.j = n ∧ 0 ≤ A.getD l.i.toNat 0 then decide (l.left.getD (A.getD l.i.toNat 0).toNat 0 = l.right.getD e.toNat 0)
  else true
def atL (ls : List Link) (n : Nat) (m : Nat) : List Nat:=(List.range m).filter fun k=>decide ((ls.getD k default).i = n) || decide ((ls.getD k default).j = n)
def fitsL (ls : List Link) (A : List Int) (n : Nat) (e : Int) : Bool:=(atL ls n ls.length).all fun k=>linkFit A n e (ls.getD k default)
section
variable {ls : List Link} {S : List Nat} {A B Q : List Int} {n i m : Nat} {e : Int} {l : Link}
def CoL (ls : List Link) (A : List Int) : Prop:=∀ l ∈ ls,0 ≤ A.getD l.i.toNat 0 → 0 ≤ A.getD l.j.toNat 0 → l.left.getD (A.getD l.i.toNat 0).toNat 0 = l.right.getD (A.getD l.j.toNat 0).toNat 0
end
end Go.Cats
end
section
namespace Go.Cats
end Go.Cats
end
section
namespace Go.Cats
structure ChW (W : List Int → Bool) (S : List Nat) (ch : List Int → Nat → List Int) (Co : List Int → Prop) : Prop where
  out : ∀ A (i : Nat),A.length = S.length → i < A.length → ∃ p : Nat → Bool,ch A i = ((List.range (S.getD i 0)).filter p).map fun e : Nat=>(e : Int)
  mono : ∀ A B (i : Nat) u,A.length = S.length → XtL A B → i < A.length → u ∈ ch B i → u ∈ ch A i
  comp : ∀ Q A (i : Nat),Q ∈ lexP S → W Q = true → A.length = S.length → (∀ j,j < A.length → j ≠ i → 0 ≤ A.getD j 0 → Q.getD j 0 = A.getD j 0) → i < A.length → Q.getD i 0 ∈ ch A i
  leaf : ∀ A : List Int,A.length = S.length → (∀ j,j < A.length → 0 ≤ A.getD j 0 ∧ A.getD j 0 < S.getD j 0) → Co A → W A = true
  step : ∀ A (i : Nat) u,A.length = S.length → i < A.length → A.getD i 0 = -1 → Co A → u ∈ ch A i → Co (A.set i u)
section
variable {W : List Int → Bool} {S : List Nat} {ch : List Int → Nat → List Int} {Co : List Int → Prop} {A B Q C : List Int} {n i k x : Nat} {u : Int}
end
/-! ### Transformations -/
def SqP (f g : Fun) (A : List Int) (a : Nat) : Prop:=f.tgt.C (f.ars.getD a 0) (A.getD (f.src.to.getD a 0).toNat 0) = f.tgt.C (A.getD (f.src.fr.getD a 0).toNat 0) (g.ars.getD a 0)
structure NatP (f g : Fun) (A : List Int) : Prop where
  end_ : ∀ x,x < A.length → A.getD x 0 ∈ f.tgt.hom (f.obs.getD x 0) (g.obs.getD x 0)
  sq : ∀ a,a < f.src.fr.length → SqP f g A a
noncomputable def natW (f g : Fun) (A : List Int) : Bool:=dec (NatP f g A)
theorem natW_iff {f g : Fun} {A : List Int} : natW f g A = true ↔ NatP f g A:=dec_iff
abbrev sN (f : Fun) : List Nat:=List.replicate f.src.ob.toNat f.tgt.fr.length
noncomputable def natX (f g : Fun) (r : Nat) (X : List Int) : List (List Int):=extW (natW f g) (sN f) (X ++ List.replicate r (-1))
noncomputable def natA (f g : Fun) : List (List Int):=natX f g f.src.ob.toNat []
structure Par (f g : Fun) : Prop where
  src : IsCat f.src
  tgt : IsCat f.tgt
  fit : Fits f
  fit2 : Fits g
  es : g.src = f.src
  et : g.tgt = f.tgt
section
variable {f g : Fun} {A B P Q X C : List Int} {a x r k n : Nat} {b u : Int}
theorem sN_getD (h : x < f.src.ob.toNat) : (sN f).getD x 0 = f.tgt.fr.length:=by
  rw [List.getD_eq_getElem?_getD,List.getElem?_replicate,if_pos h];rfl
theorem sN_len : (sN f).length = f.src.ob.toNat:=by rw [List.length_replicate]
structure NatK (f g : Fun) (X : List Int) : Prop where
  end_ : ∀ x,x < X.length → X.getD x 0 ∈ f.tgt.hom (f.obs.getD x 0) (g.obs.getD x 0)
  sq : ∀ a,a < f.src.fr.length → (f.src.fr.getD a 0).toNat < X.length → (f.src.to.getD a 0).toNat < X.length → SqP f g X a
theorem rp_getD {i : Nat} : (List.replicate r (-1 : Int)).getD i 0 = if i < r then -1 else 0:=by
  rw [List.getD_eq_getElem?_getD,List.getElem?_replicate]
  split <;> rfl
/-! ### The program's search -/
def SqX (f g : Fun) (P : List Int) (x : Nat) : Prop:=∀ a,a < f.src.fr.length → max (f.src.fr.getD a 0) (f.src.to.getD a 0) = x → SqP f g P a
abbrev NSt:=Bool × List (List Int) × List Int
open Classical in
noncomputable def stepN (f g : Fun) (run : List Int → List (List Int) → NSt) (x : Nat) (s : NSt) (b : Int) : NSt :=
  if s.1 = true then (if SqX f g (s.2.2.set x b) x then run (s.2.2.set x b) s.2.1 else (true,s.2.1,s.2.2.set x b)) else s
noncomputable def natRun (f g : Fun) (M : Nat) : Nat → List Int → List (List Int) → NSt
  | 0,P,F=>((stL M F P).1,(stL M F P).2,P)
  | r + 1,P,F=>(f.tgt.hom (f.obs.getD (f.src.ob.toNat - (r + 1)) 0) (g.obs.getD (f.src.ob.toNat - (r + 1)) 0)).foldl (stepN f g (natRun f g M r) (f.src.ob.toNat - (r + 1))) (true,F,P)
variable {run : List Int → List (List Int) → NSt} {s : NSt} {F : List (List Int)} {M : Nat}
structure RunW (f g : Fun) (M r : Nat) (X P : List Int) (F : List (List Int)) (s : NSt) (L : List (List Int)) : Prop where
  ok : s.1 = (eat (stL M) F L).1
  out : s.2.1 = (eat (stL M) F L).2
  len : s.2.2.length = P.length
  pre : s.2.2.take X.length = X
structure StW (f g : Fun) (M r x : Nat) (P : List Int) (F : List (List Int)) (C : List Int) (st : Nat → NSt) : Prop where
  zero : st 0 = (true,F,P)
  all : natRun f g M (r + 1) P F = st C.length
  yes : ∀ k,k < C.length → (st k).1 = true → SqX f g ((st k).2.2.set x (C.getD k 0)) x → st (k + 1) = natRun f g M r ((st k).2.2.set x (C.getD k 0)) (st k).2.1
  no : ∀ k,k < C.length → (st k).1 = true → ¬ SqX f g ((st k).2.2.set x (C.getD k 0)) x → st (k + 1) = (true,(st k).2.1,(st k).2.2.set x (C.getD k 0))
  stop : ∀ k,k < C.length → (st (k + 1)).1 = false → st C.length = st (k + 1)
  len : ∀ k,k ≤ C.length → (st k).2.2.length = f.src.ob.toNat
  few : ∀ k,k ≤ C.length → (st k).1 = true → (st k).2.1.length ≤ M
  rng : ∀ k,k < C.length → ∀ i,i ≤ x → 0 ≤ ((st k).2.2.set x (C.getD k 0)).getD i 0 ∧ ((st k).2.2.set x (C.getD k 0)).getD i 0 < f.tgt.fr.length
  good : ∀ k,k < C.length → SqX f g ((st k).2.2.set x (C.getD k 0)) x → NatK f g (((st k).2.2.set x (C.getD k 0)).take (x + 1))
end
end Go.Cats
end
section
namespace Go.Cats
def nums (n : Nat) : List Int:=(List.range n).map fun i : Nat=>(i : Int)
theorem nums_zero : nums 0 = []:=rfl
theorem nums_len (n : Nat) : (nums n).length = n:=by simp [nums]
theorem nums_succ (n : Nat) : nums (n + 1) = nums n ++ [(n : Int)]:=by simp [nums,List.range_succ]
theorem nums_at {n i : Nat} (h : i < n) : (nums n).getD i 0 = i:=by simp [nums,h]
def oneC : Cat:=⟨1,[0],[0],[0],[[0]]⟩
def selfF (c : Cat) : Fun:=⟨c,c,nums c.ob.toNat,nums c.fr.length⟩
def pointF (c : Cat) (x : Int) : Fun:=⟨oneC,c,[x],[c.I x]⟩
end Go.Cats
end
section
namespace Go.Cats
abbrev Tr:=Nat × Nat × Nat
def ruleT (acts : List (List Int)) (t : Tr) : Rule:=⟨t.1,t.2.2,acts.getD t.2.1 []⟩
def linkT (acts : List (List Int)) (S : List Nat) (t : Tr) : Link:=⟨t.1,t.2.2,acts.getD t.2.1 [],nums (S.getD t.2.2 0)⟩
structure TrW (S : List Nat) (acts : List (List Int)) (T : List Tr) : Prop where
  fr : ∀ t ∈ T,t.1 < S.length
  to : ∀ t ∈ T,t.2.2 < S.length
  len : ∀ t ∈ T,(acts.getD t.2.1 []).length = S.getD t.1 0
  val : ∀ t ∈ T,∀ e : Nat,e < S.getD t.1 0 → 0 ≤ (acts.getD t.2.1 []).getD e 0 ∧ (acts.getD t.2.1 []).getD e 0 < S.getD t.2.2 0
  arr : ∀ t ∈ T,t.2.1 < acts.length
variable {S : List Nat} {acts : List (List Int)} {T : List Tr}
end Go.Cats
end
section
namespace Go.Cats
def Rises (l : List Int) : Prop:=∀ i,i + 1 < l.length → l.getD i 0 < l.getD (i + 1) 0
structure IsSieve (c : Cat) (x : Int) (s : List Int) : Prop where
  up : Rises s
  wi : Within s c.fr.length
  at_ : ∀ i,i < s.length → c.F (s.getD i 0) = x
  cl : ∀ i,i < s.length → ∀ b : Nat,b < c.fr.length → c.fr.getD b 0 = c.T (s.getD i 0) → c.C (s.getD i 0) b ∈ s
section
variable {c : Cat} {s : List Int} {k n i b : Nat} {x : Int} {f : SF}
end
end Go.Cats
end
section
namespace Go.Cats
section
variable {c : Cat} {o : Nat → Nat} {J : Nat → Nat → Nat} {k i n b : Nat} {f : SF}
structure GenW (c : Cat) (O : List Int) (J : Nat → Nat → Nat) : Prop where
  ob : ∀ i,i < O.length → 0 ≤ O.getD i 0 ∧ O.getD i 0 < c.ob
  nx : ∀ i b,i < O.length → b < c.fr.length → c.fr.getD b 0 = O.getD i 0 → J i b < O.length ∧ O.getD (J i b) 0 = c.to.getD b 0
end
section
variable {k : Fun} {y : Int} {n x : Nat}
structure SeatOK (k : Fun) (y : Int) (r : List Int) : Prop where
  len : r.length = 2
  x0 : 0 ≤ r.getD 0 0
  x1 : r.getD 0 0 < k.src.ob
  h0 : 0 ≤ r.getD 1 0
  h1 : r.getD 1 0 < k.tgt.fr.length
  hf : k.tgt.F (r.getD 1 0) = y
  ht : k.tgt.T (r.getD 1 0) = k.obs.getD (r.getD 0 0).toNat 0
end
end Go.Cats
end
section
namespace Go.Cats
structure UF (J : List Int) : Prop where
  lo : ∀ x,x < J.length → 0 ≤ J.getD x 0
  hi : ∀ x,x < J.length → J.getD x 0 ≤ x
def rtF (J : List Int) : Nat → Nat → Nat
  | 0,x=>x
  | k + 1,x=>if (J.getD x 0).toNat = x then x else rtF J k (J.getD x 0).toNat
def rt (J : List Int) (x : Nat) : Nat:=rtF J x x
section
variable {J : List Int} {x y k : Nat}
theorem UF.par (h : UF J) (hx : x < J.length) : (J.getD x 0).toNat ≤ x:=by have:=h.lo x hx;have:=h.hi x hx;omega
theorem rtF_enough (h : UF J) : ∀ (k l x : Nat),x < J.length → x ≤ k → x ≤ l → rtF J k x = rtF J l x
  | 0,0,x,_,_,_=>rfl
  | 0,l + 1,x,hx,h1,_=>by
    have : x = 0:=by omega
    subst this
    have:=h.par hx
    rw [rtF,rtF,if_pos (by omega)]
  | k + 1,0,x,hx,_,h2=>by
    have : x = 0:=by omega
    subst this
    have:=h.par hx
    rw [rtF,rtF,if_pos (by omega)]
  | k + 1,l + 1,x,hx,h1,h2=>by
    rw [rtF,rtF]
    have:=h.par hx
    split
    · rfl
    · exact rtF_enough h k l _ (by omega) (by omega) (by omega)
theorem rt_step (h : UF J) (hx : x < J.length) : rt J x = if (J.getD x 0).toNat = x then x else rt J (J.getD x 0).toNat:=by
  have hp:=h.par hx
  cases x with
  | zero=>rw [if_pos (by omega)];rfl
  | succ x =>
    unfold rt
    rw [rtF]
    split
    · rfl
    · exact rtF_enough h _ _ _ (by omega) (by omega) (Nat.le_refl _)
theorem rt_fix (h : UF J) (hx : x < J.length) (e : (J.getD x 0).toNat = x) : rt J x = x:=by rw [rt_step h hx,if_pos e]
theorem rt_par (h : UF J) (hx : x < J.length) : rt J (J.getD x 0).toNat = rt J x:=by
  rw [rt_step h hx]
  split
  · rename_i e;rw [e];exact rt_fix h hx e
  · rfl
theorem rt_le (h : UF J) : ∀ {x : Nat},x < J.length → rt J x ≤ x:=by
  intro x
  induction x using Nat.strongRecOn with
  | ind x ih =>
    intro hx
    have hp:=h.par hx
    rw [rt_step h hx]
    split
    · exact Nat.le_refl _
    · have:=ih _ (show (J.getD x 0).toNat < x by omega) (by omega);omega
theorem rt_root (h : UF J) : ∀ {x : Nat},x < J.length → (J.getD (rt J x) 0).toNat = rt J x:=by
  intro x
  induction x using Nat.strongRecOn with
  | ind x ih =>
    intro hx
    have hp:=h.par hx
    rw [rt_step h hx]
    split
    · rename_i e;exact e
    · exact ih _ (by omega) (by omega)
theorem rt_idem (h : UF J) (hx : x < J.length) : rt J (rt J x) = rt J x:=rt_fix h (by have:=rt_le h hx;omega) (rt_root h hx)
theorem getD_set {l : List Int} {i j : Nat} {v : Int} (hi : i < l.length) : (l.set i v).getD j 0 = if j = i then v else l.getD j 0:=by
  rw [List.getD_eq_getElem?_getD,List.getD_eq_getElem?_getD]
  by_cases e : j = i
  · subst e;rw [if_pos rfl,List.getElem?_set_self hi];rfl
  · rw [if_neg e,List.getElem?_set_ne (fun q=>e q.symm)]
theorem UF.set (h : UF J) (hx : x < J.length) {v : Int} (h0 : 0 ≤ v) (h1 : v ≤ x) : UF (J.set x v):=by
  refine ⟨fun y hy=>?_,fun y hy=>?_⟩ <;> rw [List.length_set] at hy <;> rw [getD_set hx] <;> split
  · exact h0
  · exact h.lo y hy
  · rename_i e;rw [e];exact h1
  · exact h.hi y hy
theorem rt_set (h : UF J) (hx : x < J.length) {v : Int} (h0 : 0 ≤ v) (h1 : v ≤ x) (hr : rt J v.toNat = rt J x) (hv : v.toNat = x → (J.getD x 0).toNat = x) : ∀ {y : Nat},y < J.length → rt (J.set x v) y = rt J y:=by
  have hu:=h.set hx h0 h1
  intro y
  induction y using Nat.strongRecOn with
  | ind y ih =>
    intro hy
    have hy' : y < (J.set x v).length:=by rw [List.length_set];exact hy
    rw [rt_step hu hy',getD_set hx]
    by_cases e : y = x
    · subst e
      rw [if_pos rfl]
      split
      · rename_i q;exact (rt_fix h hx (hv q)).symm
      · rw [ih v.toNat (by omega) (by omega),hr]
    · rw [if_neg e,rt_step h hy]
      split
      · rfl
      · have:=h.par hy
        exact ih _ (by omega) (by omega)
theorem rt_half (h : UF J) (hx : x < J.length) : UF (J.set x (J.getD (J.getD x 0).toNat 0)) ∧ ∀ {y : Nat},y < J.length → rt (J.set x (J.getD (J.getD x 0).toNat 0)) y = rt J y:=by
  have hp:=h.par hx
  have hpl : (J.getD x 0).toNat < J.length:=by omega
  have hq:=h.par hpl
  have q0:=h.lo _ hpl
  refine ⟨h.set hx q0 (by omega),rt_set h hx q0 (by omega) (by rw [rt_par h hpl,rt_par h hx]) fun e=>by omega⟩
def hvF : Nat → List Int → Nat → List Int
  | 0,J,_=>J
  | k + 1,J,x=>if (J.getD x 0).toNat = x then J else hvF k (J.set x (J.getD (J.getD x 0).toNat 0)) (J.getD (J.getD x 0).toNat 0).toNat
def hv (J : List Int) (x : Nat) : List Int:=hvF x J x
theorem hvF_ok : ∀ (k : Nat) (J : List Int) (x : Nat),UF J → x < J.length → UF (hvF k J x) ∧ (hvF k J x).length = J.length ∧ ∀ {y : Nat},y < J.length → rt (hvF k J x) y = rt J y
  | 0,J,x,h,_=>⟨h,rfl,fun _=>rfl⟩
  | k + 1,J,x,h,hx=>by
    rw [hvF]
    split
    · exact ⟨h,rfl,fun _=>rfl⟩
    · obtain ⟨h1,h2⟩:=rt_half h hx
      have hp:=h.par hx
      have hq:=h.par (x:=(J.getD x 0).toNat) (by omega)
      obtain ⟨g1,g2,g3⟩:=hvF_ok k _ (J.getD (J.getD x 0).toNat 0).toNat h1 (by rw [List.length_set];omega)
      rw [List.length_set] at g2 g3
      exact ⟨g1,g2,fun hy=>by rw [g3 hy,h2 hy]⟩
theorem rt_glue (h : UF J) {M m : Nat} (hM : M < J.length) (h1 : rt J M = M) (hm : m ≤ M) (h2 : rt J m = m) : UF (J.set M (m : Int)) ∧ ∀ {z : Nat},z < J.length → rt (J.set M (m : Int)) z = if rt J z = M then m else rt J z:=by
  have hu:=h.set hM (v:=(m : Int)) (by omega) (by omega)
  refine ⟨hu,?_⟩
  intro z
  induction z using Nat.strongRecOn with
  | ind z ih =>
    intro hz
    have hz' : z < (J.set M (m : Int)).length:=by rw [List.length_set];exact hz
    rw [rt_step hu hz',getD_set hM]
    by_cases e : z = M
    · subst e
      rw [if_pos rfl,h1,if_pos rfl,Int.toNat_natCast]
      split
      · rename_i q;exact q.symm
      · rename_i q
        rw [ih m (by omega) (by omega),h2,if_neg q]
    · rw [if_neg e]
      split
      · rename_i q
        rw [rt_fix h hz q,if_neg e]
      · rename_i q
        have:=h.par hz
        rw [ih _ (by omega) (by omega),rt_par h hz]
def jn (J : List Int) (x y : Nat) : List Int:=(hv (hv J x) y).set (max (rt J x) (rt J y)) ((min (rt J x) (rt J y) : Nat) : Int)
theorem jn_ok (h : UF J) (hx : x < J.length) (hy : y < J.length) : UF (jn J x y) ∧ (jn J x y).length = J.length ∧ ∀ {z : Nat},z < J.length → rt (jn J x y) z = if rt J z = max (rt J x) (rt J y) then min (rt J x) (rt J y) else rt J z:=by
  obtain ⟨h1,l1,r1⟩:=hvF_ok x J x h hx
  obtain ⟨h2,l2,r2⟩:=hvF_ok y (hv J x) y h1 (by show y < (hvF x J x).length;omega)
  have l3 : (hv (hv J x) y).length = J.length:=l2.trans l1
  have r3 : ∀ {z : Nat},z < J.length → rt (hv (hv J x) y) z = rt J z:=fun hz=>by
    show rt (hvF y (hv J x) y) _ = _
    rw [r2 (by show _ < (hvF x J x).length;omega)]
    exact r1 hz
  have ha:=rt_le h hx
  have hb:=rt_le h hy
  have ia:=rt_idem h hx
  have ib:=rt_idem h hy
  have hM : rt J (max (rt J x) (rt J y)) = max (rt J x) (rt J y):=by
    rcases Nat.le_total (rt J x) (rt J y) with q | q
    · rw [Nat.max_eq_right q];exact ib
    · rw [Nat.max_eq_left q];exact ia
  have hm : rt J (min (rt J x) (rt J y)) = min (rt J x) (rt J y):=by
    rcases Nat.le_total (rt J x) (rt J y) with q | q
    · rw [Nat.min_eq_left q];exact ia
    · rw [Nat.min_eq_right q];exact ib
  have hMl : max (rt J x) (rt J y) < J.length:=by omega
  obtain ⟨g1,g2⟩:=rt_glue (J:=hv (hv J x) y) (M:=max (rt J x) (rt J y)) (m:=min (rt J x) (rt J y)) h2 (by rw [l3];exact hMl) (by rw [r3 hMl];exact hM) (by omega) (by rw [r3 (by omega)];exact hm)
  refine ⟨g1,by unfold jn;rw [List.length_set];exact l3,fun hz=>?_⟩
  unfold jn
  rw [g2 (by rw [l3];exact hz),r3 hz]
end
end Go.Cats
end
section
namespace Go.Cats
/-! ### The first of a list with a property, -1 if there is none -/
open Classical in
noncomputable def fpO (p : Int → Prop) (l : List Int) (i : Nat) : Option Int:=if p (l.getD i 0) then some (l.getD i 0) else none
noncomputable def fndP (p : Int → Prop) (l : List Int) : Int:=(scan l.length (fpO p l)).getD (-1)
section
variable {p : Int → Prop} {l : List Int} {i : Nat}
theorem fpO_t (h : p (l.getD i 0)) : fpO p l i = some (l.getD i 0):=if_pos h
theorem fpO_f (h : ¬ p (l.getD i 0)) : fpO p l i = none:=if_neg h
theorem fndP_hit (h : scan i (fpO p l) = none) (hi : i < l.length) (k : p (l.getD i 0)) : fndP p l = l.getD i 0:=by
  unfold fndP;rw [scan_hit hi h (fpO_t k)];rfl
theorem fndP_none (h : scan l.length (fpO p l) = none) : fndP p l = -1:=by unfold fndP;rw [h];rfl
theorem fndP_cases (p : Int → Prop) (l : List Int) : (fndP p l = -1 ∧ ∀ v ∈ l,¬ p v) ∨ (fndP p l ∈ l ∧ p (fndP p l)):=by
  cases h : scan l.length (fpO p l) with
  | none =>
    refine .inl ⟨fndP_none h,fun v hv k=>?_⟩
    obtain ⟨i,hi,e⟩:=mem_getD (d:=0) hv
    have:=scan_none.1 h i hi
    rw [fpO_t (by rw [e];exact k)] at this
    cases this
  | some r =>
    obtain ⟨i,hi,k⟩:=scan_some h
    have e : fndP p l = r:=by unfold fndP;rw [h];rfl
    rw [e]
    by_cases q : p (l.getD i 0)
    · rw [fpO_t q] at k
      have : l.getD i 0 = r:=by simpa using k
      rw [← this]
      exact .inr ⟨getD_mem hi,q⟩
    · rw [fpO_f q] at k;cases k
theorem fndP_ge (h0 : ∀ v ∈ l,0 ≤ v) : 0 ≤ fndP p l ↔ ∃ v ∈ l,p v:=by
  rcases fndP_cases p l with ⟨h1,h2⟩|⟨h1,h2⟩
  · rw [h1]
    exact ⟨fun h=>by omega,fun ⟨v,hv,k⟩=>absurd k (h2 v hv)⟩
  · exact ⟨fun _=>⟨_,h1,h2⟩,fun _=>h0 _ h1⟩
end
/-! ### The numbers below n with a property, in order -/
open Classical in
noncomputable def selP (P : Nat → Prop) (n : Nat) : List Int:=coll n fun x=>if P x then [(x : Int)] else []
section
variable {P Q : Nat → Prop} {n x : Nat}
theorem selP_zero : selP P 0 = []:=rfl
theorem selP_yes (h : P n) : selP P (n + 1) = selP P n ++ [(n : Int)]:=by unfold selP;rw [coll_succ,if_pos h]
theorem selP_no (h : ¬ P n) : selP P (n + 1) = selP P n:=by unfold selP;rw [coll_succ,if_neg h,List.append_nil]
theorem mem_selP {v : Int} : v ∈ selP P n ↔ ∃ x : Nat,x < n ∧ P x ∧ v = x:=by
  unfold selP
  rw [mem_coll]
  constructor
  · rintro ⟨i,hi,h⟩
    split at h
    · rename_i k;exact ⟨i,hi,k,List.mem_singleton.1 h⟩
    · cases h
  · rintro ⟨i,hi,k,rfl⟩
    exact ⟨i,hi,by rw [if_pos k];exact List.mem_singleton.2 rfl⟩
theorem selP_len (P : Nat → Prop) : ∀ n,(selP P n).length ≤ n
  | 0=>Nat.le_refl _
  | n + 1=>by
    have:=selP_len P n
    by_cases k : P n
    · rw [selP_yes k,List.length_append];simp;omega
    · rw [selP_no k];omega
theorem selP_nd (P : Nat → Prop) : ∀ n,(selP P n).Nodup
  | 0=>List.nodup_nil
  | n + 1=>by
    have h:=selP_nd P n
    by_cases k : P n
    · rw [selP_yes k]
      refine List.nodup_append.2 ⟨h,by simp,fun a ha b hb=>?_⟩
      obtain ⟨x,hx,_,rfl⟩:=mem_selP.1 ha
      rw [List.mem_singleton.1 hb];omega
    · rw [selP_no k];exact h
theorem selP_pre (P : Nat → Prop) : ∀ {i j : Nat},i ≤ j → ∃ R,selP P j = selP P i ++ R
  | i,0,h=>⟨[],by rw [show i = 0 by omega,List.append_nil]⟩
  | i,j + 1,h=>by
    by_cases e : i = j + 1
    · exact ⟨[],by rw [e,List.append_nil]⟩
    · obtain ⟨R,hR⟩:=selP_pre P (show i ≤ j by omega)
      by_cases k : P j
      · exact ⟨R ++ [(j : Int)],by rw [selP_yes k,hR,List.append_assoc]⟩
      · exact ⟨R,by rw [selP_no k,hR]⟩
theorem selP_at (hx : x < n) (k : P x) : (selP P x).length < (selP P n).length ∧ (selP P n).getD (selP P x).length 0 = x:=by
  obtain ⟨R,hR⟩:=selP_pre P (show x + 1 ≤ n by omega)
  rw [hR,selP_yes k]
  refine ⟨by simp,?_⟩
  rw [List.append_assoc,List.getD_eq_getElem?_getD,List.getElem?_append_right (Nat.le_refl _),Nat.sub_self];rfl
end
/-! ### Places in lists without repetitions -/
theorem idxOf_nd {l : List Int} (h : l.Nodup) {i : Nat} (hi : i < l.length) : idxOf l (l.getD i 0) = i:=by
  obtain ⟨h0,h1,h2⟩:=idxOf_mem (getD_mem (d:=0) hi)
  have e : ∀ j,(hj : j < l.length) → l.getD j 0 = l[j]:=fun j hj=>by rw [List.getD_eq_getElem?_getD,List.getElem?_eq_getElem hj];rfl
  have hj : (idxOf l (l.getD i 0)).toNat < l.length:=by omega
  have h3 : l[(idxOf l (l.getD i 0)).toNat] = l[i]:=by rw [← e _ hj,← e _ hi,h2]
  rcases Nat.lt_trichotomy (idxOf l (l.getD i 0)).toNat i with q | q | q
  · exact absurd h3 (List.pairwise_iff_getElem.1 h _ _ hj hi q)
  · omega
  · exact absurd h3.symm (List.pairwise_iff_getElem.1 h _ _ hi hj q)
theorem idxOf_not {l : List Int} {v : Int} (h : v ∉ l) : idxOf l v = -1:=by
  refine Classical.byContradiction fun k=>h ?_
  obtain ⟨h0,h1,h2⟩:=idxOf_of k
  rw [← h2]
  exact getD_mem (by omega)
theorem idxOf_inj {l : List Int} {v w : Int} (hv : v ∈ l) (hw : w ∈ l) (e : idxOf l v = idxOf l w) : v = w:=by
  rw [← (idxOf_mem hv).2.2,← (idxOf_mem hw).2.2,e]
theorem selP_idx {P : Nat → Prop} {n x : Nat} (hx : x < n) (k : P x) : idxOf (selP P n) x = (selP P x).length:=by
  obtain ⟨h1,h2⟩:=selP_at hx k
  have:=idxOf_nd (selP_nd P n) h1
  rw [h2] at this
  exact this
/-! ### Categories by whole numbers -/
section
variable {c : Cat} {f g h x y z : Int}
theorem Shape.objF (s : Shape c) (h0 : 0 ≤ f) (h1 : f < c.fr.length) : 0 ≤ c.F f ∧ c.F f < c.ob:=s.frw f.toNat (by omega)
theorem Shape.objT (s : Shape c) (h0 : 0 ≤ f) (h1 : f < c.fr.length) : 0 ≤ c.T f ∧ c.T f < c.ob:=s.tow f.toNat (by have:=s.tol;omega)
theorem Shape.unitI (s : Shape c) (h0 : 0 ≤ x) (h1 : x < c.ob) : 0 ≤ c.I x ∧ c.I x < c.fr.length ∧ c.F (c.I x) = x ∧ c.T (c.I x) = x:=by
  have hl:=s.idl
  have hx : x.toNat < c.id.length:=by omega
  have a:=s.idw x.toNat hx
  have b:=s.ide x.toNat hx
  have e : ((x.toNat : Nat) : Int) = x:=by omega
  rw [e] at b
  exact ⟨a.1,a.2,b⟩
theorem Shape.compI (s : Shape c) (f0 : 0 ≤ f) (f1 : f < c.fr.length) (g0 : 0 ≤ g) (g1 : g < c.fr.length) (e : c.T f = c.F g) : 0 ≤ c.C f g ∧ c.C f g < c.fr.length ∧ c.F (c.C f g) = c.F f ∧ c.T (c.C f g) = c.T g:=by
  have:=(s.coe f.toNat (by omega)).2 g.toNat (by omega)
  unfold Cat.Entry at this
  simp only [Cat.C,Int.toNat_natCast] at this ⊢
  rcases this with ⟨_,h2,h3,h4⟩|⟨h1,_⟩
  · exact ⟨h2.1,h2.2,h3,h4⟩
  · exact absurd e h1
theorem Shape.compN (s : Shape c) (f0 : 0 ≤ f) (f1 : f < c.fr.length) (g0 : 0 ≤ g) (g1 : g < c.fr.length) (e : ¬ c.T f = c.F g) : c.C f g = -1:=by
  have:=(s.coe f.toNat (by omega)).2 g.toNat (by omega)
  unfold Cat.Entry at this
  simp only [Cat.C,Int.toNat_natCast] at this ⊢
  rcases this with ⟨h1,_⟩|⟨_,h1⟩
  · exact absurd h1 e
  · exact h1
/-! ### Inverses -/
def Cat.InvP (c : Cat) (f g : Int) : Prop:=c.C f g = c.I (c.F f) ∧ c.C g f = c.I (c.T f)
noncomputable def Cat.inv (c : Cat) (f : Int) : Int:=fndP (c.InvP f) (c.hom (c.T f) (c.F f))
theorem Cat.inv_ge : 0 ≤ c.inv f ↔ ∃ g ∈ c.hom (c.T f) (c.F f),c.InvP f g:=fndP_ge fun v hv=>(Cat.mem_hom.1 hv).1
def Cat.IsoO (c : Cat) (x y : Int) : Prop:=∃ f ∈ c.hom x y,0 ≤ c.inv f
theorem IsCat.iso_refl (s : IsCat c) (h0 : 0 ≤ x) (h1 : x < c.ob) : c.IsoO x x:=by
  obtain ⟨a,b,d,e⟩:=s.toShape.unitI h0 h1
  have hm : c.I x ∈ c.hom x x:=Cat.mem_hom.2 ⟨a,b,d,e⟩
  have hu:=s.unlI a b
  rw [d] at hu
  refine ⟨_,hm,Cat.inv_ge.2 ⟨c.I x,by rw [d,e];exact hm,?_,?_⟩⟩
  · rw [d];exact hu
  · rw [e];exact hu
theorem Cat.IsoO.symm (h : c.IsoO x y) : c.IsoO y x:=by
  obtain ⟨f,hf,hi⟩:=h
  obtain ⟨g,hg,h1,h2⟩:=Cat.inv_ge.1 hi
  obtain ⟨f0,f1,f2,f3⟩:=Cat.mem_hom.1 hf
  rw [f2,f3] at hg
  obtain ⟨g0,g1,g2,g3⟩:=Cat.mem_hom.1 hg
  refine ⟨g,hg,Cat.inv_ge.2 ⟨f,by rw [g2,g3];exact hf,?_,?_⟩⟩
  · rw [h2,f3,g2]
  · rw [h1,f2,g3]
theorem IsCat.iso_trans (s : IsCat c) (h : c.IsoO x y) (k : c.IsoO y z) : c.IsoO x z:=by
  obtain ⟨f,hf,hi⟩:=h
  obtain ⟨f',hf',hi'⟩:=k
  obtain ⟨g,hg,h1,h2⟩:=Cat.inv_ge.1 hi
  obtain ⟨g',hg',h1',h2'⟩:=Cat.inv_ge.1 hi'
  obtain ⟨f0,f1,f2,f3⟩:=Cat.mem_hom.1 hf
  obtain ⟨f0',f1',f2',f3'⟩:=Cat.mem_hom.1 hf'
  rw [f2,f3] at hg
  rw [f2',f3'] at hg'
  obtain ⟨g0,g1,g2,g3⟩:=Cat.mem_hom.1 hg
  obtain ⟨g0',g1',g2',g3'⟩:=Cat.mem_hom.1 hg'
  obtain ⟨a0,a1,a2,a3⟩:=s.toShape.compI f0 f1 f0' f1' (by rw [f3,f2'])
  obtain ⟨b0,b1,b2,b3⟩:=s.toShape.compI g0' g1' g0 g1 (by rw [g3',g2])
  have ug:=s.unlI g0 g1
  have uf:=s.unlI f0' f1'
  refine ⟨c.C f f',Cat.mem_hom.2 ⟨a0,a1,by rw [a2,f2],by rw [a3,f3']⟩,Cat.inv_ge.2 ⟨c.C g' g,Cat.mem_hom.2 ⟨b0,b1,by rw [b2,a3,g2',f3'],by rw [b3,a2,g3,f2]⟩,?_,?_⟩⟩
  · rw [s.assI f0 f1 f0' f1' b0 b1 (by rw [f3,f2']) (by rw [f3',b2,g2']),← s.assI f0' f1' g0' g1' g0 g1 (by rw [f3',g2']) (by rw [g3',g2]),h1',f2',← g2,ug,h1,a2]
  · rw [s.assI g0' g1' g0 g1 a0 a1 (by rw [g3',g2]) (by rw [g3,a2,f2]),← s.assI g0 g1 f0 f1 f0' f1' (by rw [g3,f2]) (by rw [f3,f2']),h2,f3,← f2',uf,h2',a3]
theorem IsCat.inv_unit (s : IsCat c) (f0 : 0 ≤ f) (f1 : f < c.fr.length) (hg : g ∈ c.hom (c.T f) (c.F f)) : (c.InvP f g ↔ c.I (c.F (c.C f g)) = c.C f g ∧ c.I (c.F (c.C g f)) = c.C g f):=by
  obtain ⟨g0,g1,g2,g3⟩:=Cat.mem_hom.1 hg
  obtain ⟨a0,a1,a2,a3⟩:=s.toShape.compI f0 f1 g0 g1 g2.symm
  obtain ⟨b0,b1,b2,b3⟩:=s.toShape.compI g0 g1 f0 f1 g3
  unfold Cat.InvP
  rw [a2,b2,g2]
  exact ⟨fun h=>⟨h.1.symm,h.2.symm⟩,fun h=>⟨h.1.symm,h.2.symm⟩⟩
end
/-! ### The subcategory of some arrows -/
noncomputable def obS (c : Cat) (A : List Int) (i : Nat) : List Int:=selP (fun x=>c.id.getD x 0 ∈ A) i
noncomputable def subC (c : Cat) (A : List Int) : Cat :=
  ⟨(obS c A c.ob.toNat).length,A.map fun f=>idxOf (obS c A c.ob.toNat) (c.F f),A.map fun f=>idxOf (obS c A c.ob.toNat) (c.T f),(obS c A c.ob.toNat).map fun x=>idxOf A (c.I x),A.map fun f=>A.map fun g=>idxOf A (c.C f g)⟩
structure SubA (c : Cat) (A : List Int) : Prop where
  nd : A.Nodup
  len : A.length ≤ c.fr.length
  rng : ∀ f ∈ A,0 ≤ f ∧ f < c.fr.length
  idf : ∀ f ∈ A,c.I (c.F f) ∈ A
  idt : ∀ f ∈ A,c.I (c.T f) ∈ A
  cmp : ∀ f ∈ A,∀ g ∈ A,c.T f = c.F g → c.C f g ∈ A
theorem map_at {α β : Type} {l : List α} {h : α → β} {i : Nat} {d : β} {e : α} (hi : i < l.length) : (l.map h).getD i d = h (l.getD i e):=by
  rw [List.getD_eq_getElem?_getD,List.getElem?_map,List.getD_eq_getElem?_getD,List.getElem?_eq_getElem hi];rfl
section
variable {c : Cat} {A : List Int}
theorem mem_obS (s : Shape c) {x : Int} : x ∈ obS c A c.ob.toNat ↔ 0 ≤ x ∧ x < c.ob ∧ c.I x ∈ A:=by
  unfold obS
  rw [mem_selP]
  constructor
  · rintro ⟨i,hi,k,rfl⟩
    exact ⟨by omega,by omega,by simpa using k⟩
  · rintro ⟨h0,h1,h2⟩
    exact ⟨x.toNat,by omega,h2,by omega⟩
theorem subC_cat (hc : IsCat c) (hA : SubA c A) : IsCat (subC c A):=by
  have s:=hc.toShape
  have hO:=fun (x : Int)=>mem_obS (A:=A) (x:=x) s
  have hOn : (obS c A c.ob.toNat).Nodup:=selP_nd _ _
  have hOl : (obS c A c.ob.toNat).length ≤ c.ob.toNat:=selP_len _ _
  have hob:=s.ob8
  have h40:=s.m40
  have hAl:=hA.len
  have mF : ∀ f ∈ A,c.F f ∈ obS c A c.ob.toNat:=fun f hf=>(hO _).2 ⟨(s.objF (hA.rng f hf).1 (hA.rng f hf).2).1,(s.objF (hA.rng f hf).1 (hA.rng f hf).2).2,hA.idf f hf⟩
  have mT : ∀ f ∈ A,c.T f ∈ obS c A c.ob.toNat:=fun f hf=>(hO _).2 ⟨(s.objT (hA.rng f hf).1 (hA.rng f hf).2).1,(s.objT (hA.rng f hf).1 (hA.rng f hf).2).2,hA.idt f hf⟩
  have eF : ∀ i,i < A.length → (subC c A).fr.getD i 0 = idxOf (obS c A c.ob.toNat) (c.F (A.getD i 0)):=fun i hi=>map_at hi
  have eT : ∀ i,i < A.length → (subC c A).to.getD i 0 = idxOf (obS c A c.ob.toNat) (c.T (A.getD i 0)):=fun i hi=>map_at hi
  have eI : ∀ i,i < (obS c A c.ob.toNat).length → (subC c A).id.getD i 0 = idxOf A (c.I ((obS c A c.ob.toNat).getD i 0)):=fun i hi=>map_at hi
  have eR : ∀ i,i < A.length → (subC c A).co.getD i [] = A.map fun g=>idxOf A (c.C (A.getD i 0) g):=fun i hi=>map_at hi
  have eC : ∀ i j,i < A.length → j < A.length → ((subC c A).co.getD i []).getD j 0 = idxOf A (c.C (A.getD i 0) (A.getD j 0)):=fun i j hi hj=>by rw [eR i hi];exact map_at hj
  have fl : (subC c A).fr.length = A.length:=List.length_map ..
  have tl : (subC c A).to.length = A.length:=List.length_map ..
  have il : (subC c A).id.length = (obS c A c.ob.toNat).length:=List.length_map ..
  have cl : (subC c A).co.length = A.length:=List.length_map ..
  have ol : (subC c A).ob = (obS c A c.ob.toNat).length:=rfl
  -- by members
  have gF : ∀ f ∈ A,(subC c A).F (idxOf A f) = idxOf (obS c A c.ob.toNat) (c.F f):=fun f hf=>by
    obtain ⟨a,b,e⟩:=idxOf_mem hf
    show (subC c A).fr.getD _ 0 = _
    rw [eF _ (by omega),e]
  have gT : ∀ f ∈ A,(subC c A).T (idxOf A f) = idxOf (obS c A c.ob.toNat) (c.T f):=fun f hf=>by
    obtain ⟨a,b,e⟩:=idxOf_mem hf
    show (subC c A).to.getD _ 0 = _
    rw [eT _ (by omega),e]
  have gI : ∀ x ∈ obS c A c.ob.toNat,(subC c A).I (idxOf (obS c A c.ob.toNat) x) = idxOf A (c.I x):=fun x hx=>by
    obtain ⟨a,b,e⟩:=idxOf_mem hx
    show (subC c A).id.getD _ 0 = _
    rw [eI _ (by omega),e]
  have gC : ∀ f ∈ A,∀ g ∈ A,(subC c A).C (idxOf A f) (idxOf A g) = idxOf A (c.C f g):=fun f hf g hg=>by
    obtain ⟨a,b,e⟩:=idxOf_mem hf
    obtain ⟨a',b',e'⟩:=idxOf_mem hg
    show ((subC c A).co.getD _ []).getD _ 0 = _
    rw [eC _ _ (by omega) (by omega),e,e']
  have nat : ∀ i,i < A.length → (i : Int) = idxOf A (A.getD i 0):=fun i hi=>(idxOf_nd hA.nd hi).symm
  have neg : (-1 : Int) ∉ A:=fun h=>by have:=hA.rng _ h;omega
  refine ⟨⟨by rw [ol];omega,by rw [ol];omega,by rw [fl];omega,by rw [fl,tl],fun i hi=>?_,fun i hi=>?_,by rw [il,ol],fun i hi=>?_,by rw [fl,cl],fun i hi=>?_,fun i hi=>?_⟩,fun i hi=>?_,fun i hi=>?_,fun i j k hi hj hk e1 e2=>?_⟩
  · rw [fl] at hi
    rw [eF i hi,ol]
    have:=idxOf_mem (mF _ (getD_mem (d:=0) hi));omega
  · rw [tl] at hi
    rw [eT i hi,ol]
    have:=idxOf_mem (mT _ (getD_mem (d:=0) hi));omega
  · rw [il] at hi
    rw [eI i hi,fl]
    have:=idxOf_mem (((hO _).1 (getD_mem (d:=0) hi)).2.2);omega
  · rw [il] at hi
    have hx:=(hO _).1 (getD_mem (d:=0) hi)
    obtain ⟨u0,u1,u2,u3⟩:=s.unitI hx.1 hx.2.1
    rw [eI i hi,gF _ hx.2.2,gT _ hx.2.2,u2,u3,idxOf_nd hOn hi]
    exact ⟨rfl,rfl⟩
  · rw [fl] at hi
    refine ⟨by rw [eR i hi,fl,List.length_map],fun j hj=>?_⟩
    rw [fl] at hj
    have hf:=getD_mem (d:=(0 : Int)) hi
    have hg:=getD_mem (d:=(0 : Int)) hj
    have hfr:=hA.rng _ hf
    have hgr:=hA.rng _ hg
    unfold Cat.Entry
    have e0 : (subC c A).C i j = idxOf A (c.C (A.getD i 0) (A.getD j 0)):=by
      rw [nat i hi,nat j hj,gC _ hf _ hg]
    rw [e0,eT i hi,eF j hj,eF i hi,eT j hj,fl]
    by_cases q : c.T (A.getD i 0) = c.F (A.getD j 0)
    · have hm:=hA.cmp _ hf _ hg q
      have hb:=idxOf_mem hm
      obtain ⟨v0,v1,v2,v3⟩:=s.compI hfr.1 hfr.2 hgr.1 hgr.2 q
      refine .inl ⟨by rw [q],⟨hb.1,hb.2.1⟩,?_,?_⟩
      · rw [gF _ hm,v2]
      · rw [gT _ hm,v3]
    · refine .inr ⟨fun r=>q (idxOf_inj (mT _ hf) (mF _ hg) r),?_⟩
      rw [s.compN hfr.1 hfr.2 hgr.1 hgr.2 q]
      exact idxOf_not neg
  · rw [fl] at hi
    have hf:=getD_mem (d:=(0 : Int)) hi
    have hfr:=hA.rng _ hf
    rw [nat i hi,gF _ hf,gI _ (mF _ hf),gC _ (hA.idf _ hf) _ hf,hc.unlI hfr.1 hfr.2]
  · rw [fl] at hi
    have hf:=getD_mem (d:=(0 : Int)) hi
    have hfr:=hA.rng _ hf
    rw [nat i hi,gT _ hf,gI _ (mT _ hf),gC _ hf _ (hA.idt _ hf),hc.unrI hfr.1 hfr.2]
  · rw [fl] at hi hj hk
    have hf:=getD_mem (d:=(0 : Int)) hi
    have hg:=getD_mem (d:=(0 : Int)) hj
    have hh:=getD_mem (d:=(0 : Int)) hk
    have hfr:=hA.rng _ hf
    have hgr:=hA.rng _ hg
    have hhr:=hA.rng _ hh
    rw [nat i hi,nat j hj,gT _ hf,gF _ hg] at e1
    rw [nat j hj,nat k hk,gT _ hg,gF _ hh] at e2
    have q1:=idxOf_inj (mT _ hf) (mF _ hg) e1
    have q2:=idxOf_inj (mT _ hg) (mF _ hh) e2
    rw [nat i hi,nat j hj,nat k hk,gC _ hf _ hg,gC _ hg _ hh,gC _ (hA.cmp _ hf _ hg q1) _ hh,gC _ hf _ (hA.cmp _ hg _ hh q2),hc.assI hfr.1 hfr.2 hgr.1 hgr.2 hhr.1 hhr.2 q1 q2]
/-! ### The arrows between some objects -/
noncomputable def fullI (c : Cat) (O : List Int) (i : Nat) : List Int:=selP (fun f=>c.fr.getD f 0 ∈ O ∧ c.to.getD f 0 ∈ O) i
noncomputable def fullS (c : Cat) (O : List Int) : List Int:=fullI c O c.fr.length
theorem mem_full {O : List Int} {f : Int} : f ∈ fullS c O ↔ 0 ≤ f ∧ f < c.fr.length ∧ c.F f ∈ O ∧ c.T f ∈ O:=by
  unfold fullS fullI
  rw [mem_selP]
  constructor
  · rintro ⟨i,hi,k,rfl⟩
    exact ⟨by omega,by omega,by simpa using k⟩
  · rintro ⟨h0,h1,h2⟩
    exact ⟨f.toNat,by omega,h2,by omega⟩
theorem full_sub (hc : IsCat c) (O : List Int) : SubA c (fullS c O):=by
  have s:=hc.toShape
  refine ⟨selP_nd _ _,selP_len _ _,fun f hf=>?_,fun f hf=>?_,fun f hf=>?_,fun f hf g hg e=>?_⟩
  · obtain ⟨h0,h1,_⟩:=mem_full.1 hf;exact ⟨h0,h1⟩
  · obtain ⟨h0,h1,h2,h3⟩:=mem_full.1 hf
    obtain ⟨a,b⟩:=s.objF h0 h1
    obtain ⟨u0,u1,u2,u3⟩:=s.unitI a b
    exact mem_full.2 ⟨u0,u1,by rw [u2];exact h2,by rw [u3];exact h2⟩
  · obtain ⟨h0,h1,h2,h3⟩:=mem_full.1 hf
    obtain ⟨a,b⟩:=s.objT h0 h1
    obtain ⟨u0,u1,u2,u3⟩:=s.unitI a b
    exact mem_full.2 ⟨u0,u1,by rw [u2];exact h3,by rw [u3];exact h3⟩
  · obtain ⟨h0,h1,h2,h3⟩:=mem_full.1 hf
    obtain ⟨g0,g1,g2,g3⟩:=mem_full.1 hg
    obtain ⟨v0,v1,v2,v3⟩:=s.compI h0 h1 g0 g1 e
    exact mem_full.2 ⟨v0,v1,by rw [v2];exact h2,by rw [v3];exact g3⟩
/-! ### The program's numbers -/
def numA (A : List Int) (m : Nat) : Nat → List Int
  | 0=>List.replicate m 0
  | i + 1=>(numA A m i).set (A.getD i 0).toNat i
theorem numA_len (A : List Int) (m : Nat) : ∀ i,(numA A m i).length = m
  | 0=>List.length_replicate
  | i + 1=>by rw [numA,List.length_set,numA_len A m i]
theorem numA_at {m : Nat} (hn : A.Nodup) (hr : ∀ f ∈ A,0 ≤ f ∧ f < m) : ∀ {i : Nat},i ≤ A.length → ∀ j,j < i → (numA A m i).getD (A.getD j 0).toNat 0 = j
  | 0,_,j,h=>by omega
  | i + 1,hi,j,hj=>by
    have hl:=numA_len A m i
    have ri:=hr _ (getD_mem (d:=0) (show i < A.length by omega))
    have rj:=hr _ (getD_mem (d:=0) (show j < A.length by omega))
    rw [numA,List.getD_eq_getElem?_getD]
    by_cases e : j = i
    · subst e
      rw [List.getElem?_set_self (by omega)];rfl
    · have hne : (A.getD i 0).toNat ≠ (A.getD j 0).toNat:=fun q=>by
        have q2 : A.getD i 0 = A.getD j 0:=by omega
        have a:=idxOf_nd hn (show i < A.length by omega)
        have b:=idxOf_nd hn (show j < A.length by omega)
        rw [q2,b] at a
        omega
      rw [List.getElem?_set_ne hne,← List.getD_eq_getElem?_getD,numA_at hn hr (by omega) j (by omega)]
theorem numA_idx (hA : SubA c A) {f : Int} (hf : f ∈ A) : (numA A c.fr.length A.length).getD f.toNat 0 = idxOf A f:=by
  obtain ⟨h0,h1,h2⟩:=idxOf_mem hf
  have:=numA_at hA.nd hA.rng (Nat.le_refl A.length) (idxOf A f).toNat (by omega)
  rw [h2] at this
  omega
open Classical in
noncomputable def plA (c : Cat) (A : List Int) : Nat → List Int
  | 0=>List.replicate c.ob.toNat 0
  | x + 1=>if c.id.getD x 0 ∈ A then (plA c A x).set x (obS c A x).length else plA c A x
theorem plA_yes {x : Nat} (h : c.id.getD x 0 ∈ A) : plA c A (x + 1) = (plA c A x).set x (obS c A x).length:=by rw [plA];exact if_pos h
theorem plA_no {x : Nat} (h : ¬ c.id.getD x 0 ∈ A) : plA c A (x + 1) = plA c A x:=by rw [plA];exact if_neg h
theorem plA_len : ∀ i,(plA c A i).length = c.ob.toNat
  | 0=>List.length_replicate
  | i + 1=>by
    by_cases h : c.id.getD i 0 ∈ A
    · rw [plA_yes h,List.length_set,plA_len i]
    · rw [plA_no h,plA_len i]
theorem plA_at : ∀ {i : Nat},i ≤ c.ob.toNat → ∀ x,x < i → c.id.getD x 0 ∈ A → (plA c A i).getD x 0 = (obS c A x).length
  | 0,_,x,h,_=>by omega
  | i + 1,hi,x,hx,k=>by
    have hl:=plA_len (c:=c) (A:=A) i
    by_cases h : c.id.getD i 0 ∈ A
    · rw [plA_yes h,List.getD_eq_getElem?_getD]
      by_cases e : x = i
      · subst e
        rw [List.getElem?_set_self (by omega)];rfl
      · rw [List.getElem?_set_ne (fun q=>e q.symm),← List.getD_eq_getElem?_getD,plA_at (by omega) x (by omega) k]
    · rw [plA_no h]
      exact plA_at (by omega) x (by
        rcases Nat.lt_or_ge x i with q | q
        · exact q
        · have : x = i:=by omega
          rw [this] at k;exact absurd k h) k
theorem plA_idx (s : Shape c) {x : Int} (h0 : 0 ≤ x) (h1 : x < c.ob) (k : c.I x ∈ A) : (plA c A c.ob.toNat).getD x.toNat 0 = idxOf (obS c A c.ob.toNat) x:=by
  rw [plA_at (Nat.le_refl _) x.toNat (by omega) k]
  have:=selP_idx (P:=fun x=>c.id.getD x 0 ∈ A) (n:=c.ob.toNat) (x:=x.toNat) (by omega) k
  rw [show ((x.toNat : Nat) : Int) = x by omega] at this
  exact this.symm
theorem num_comp (s : Shape c) (hA : SubA c A) {f g : Int} (hf : f ∈ A) (hg : g ∈ A) : (0 ≤ c.C f g → (numA A c.fr.length A.length).getD (c.C f g).toNat 0 = idxOf A (c.C f g) ∧ (c.C f g).toNat < c.fr.length) ∧ (c.C f g < 0 → c.C f g = idxOf A (c.C f g)):=by
  have rf:=hA.rng f hf
  have rg:=hA.rng g hg
  by_cases e : c.T f = c.F g
  · have hm:=hA.cmp f hf g hg e
    have hr:=hA.rng _ hm
    exact ⟨fun _=>⟨numA_idx hA hm,by omega⟩,fun h=>by omega⟩
  · have hn:=s.compN rf.1 rf.2 rg.1 rg.2 e
    rw [hn]
    exact ⟨fun h=>by omega,fun _=>(idxOf_not fun h=>by have:=hA.rng _ h;omega).symm⟩
def mkA (A : List Int) (m : Nat) : Nat → List Bool
  | 0=>List.replicate m false
  | i + 1=>(mkA A m i).set (A.getD i 0).toNat true
theorem mkA_len (A : List Int) (m : Nat) : ∀ i,(mkA A m i).length = m
  | 0=>List.length_replicate
  | i + 1=>by rw [mkA,List.length_set,mkA_len A m i]
theorem mkA_at {m : Nat} (hr : ∀ f ∈ A,0 ≤ f ∧ f < m) : ∀ {i : Nat},i ≤ A.length → ∀ v : Int,0 ≤ v → v < m → ((mkA A m i).getD v.toNat false = true ↔ v ∈ A.take i)
  | 0,_,v,h0,h1=>by
    rw [mkA,List.getD_eq_getElem?_getD,List.getElem?_replicate]
    split <;> simp
  | i + 1,hi,v,h0,h1=>by
    have hl:=mkA_len A m i
    have ri:=hr _ (getD_mem (d:=0) (show i < A.length by omega))
    have ih:=mkA_at hr (show i ≤ A.length by omega) v h0 h1
    rw [mkA,List.getD_eq_getElem?_getD]
    have et : A.take (i + 1) = A.take i ++ [A.getD i 0]:=by
      rw [List.take_succ_eq_append_getElem (show i < A.length by omega),List.getD_eq_getElem?_getD,List.getElem?_eq_getElem (by omega)];rfl
    rw [et,List.mem_append,List.mem_singleton,← ih]
    by_cases e : v = A.getD i 0
    · rw [e,List.getElem?_set_self (by omega)];simp
    · rw [List.getElem?_set_ne (fun q=>e (by omega)),← List.getD_eq_getElem?_getD]
      exact ⟨fun h=>.inl h,fun h=>h.elim id fun q=>absurd q e⟩
theorem mkA_mem (hA : SubA c A) {v : Int} (h0 : 0 ≤ v) (h1 : v < c.fr.length) : (mkA A c.fr.length A.length).getD v.toNat false = dec (v ∈ A):=by
  have:=mkA_at hA.rng (Nat.le_refl A.length) v h0 h1
  rw [List.take_length] at this
  cases h : (mkA A c.fr.length A.length).getD v.toNat false with
  | true=>exact (dec_t (this.1 h)).symm
  | false=>exact (dec_f fun k=>by rw [this.2 k] at h;cases h).symm
end
end Go.Cats
end
section
namespace Go.Cats
abbrev Ps:=List Int × List Int
open Classical in
noncomputable def rL (f : Ps → Ps) (c d : Cat) (b : Bool) (x : Nat) : Nat → Ps → Ps
  | 0,s=>s
  | y + 1,s=>if b = true ∧ (y : Int) ∈ (rL f c d b x y s).1.take x then rL f c d b x y s
      else if Placed c d b ((rL f c d b x y s).1.set x (y : Int)) x then f ((rL f c d b x y s).1.set x (y : Int),(rL f c d b x y s).2) else ((rL f c d b x y s).1.set x (y : Int),(rL f c d b x y s).2)
noncomputable def rG (c d : Cat) (b : Bool) : Nat → Ps → Ps
  | 0,s=>(s.1,(spreadF c d b (startA c d s.1)).2)
  | r + 1,s=>rL (rG c d b r) c d b (s.1.length - (r + 1)) d.ob.toNat s
section
variable {f : Ps → Ps} {c d : Cat} {b : Bool} {x y r : Nat} {s : Ps} {P A : List Int}
theorem rL_skip (h : b = true ∧ (y : Int) ∈ (rL f c d b x y s).1.take x) : rL f c d b x (y + 1) s = rL f c d b x y s:=by rw [rL,if_pos h]
theorem rL_no (h : ¬ (b = true ∧ (y : Int) ∈ (rL f c d b x y s).1.take x)) (k : ¬ Placed c d b ((rL f c d b x y s).1.set x (y : Int)) x) : rL f c d b x (y + 1) s = ((rL f c d b x y s).1.set x (y : Int),(rL f c d b x y s).2):=by rw [rL,if_neg h,if_neg k]
theorem rL_yes (h : ¬ (b = true ∧ (y : Int) ∈ (rL f c d b x y s).1.take x)) (k : Placed c d b ((rL f c d b x y s).1.set x (y : Int)) x) : rL f c d b x (y + 1) s = f ((rL f c d b x y s).1.set x (y : Int),(rL f c d b x y s).2):=by rw [rL,if_neg h,if_pos k]
def Keeps (n m x : Nat) (f : Ps → Ps) : Prop:=∀ s : Ps,s.1.length = n → s.2.length = m → (f s).1.length = n ∧ (f s).2.length = m ∧ (f s).1.take x = s.1.take x
theorem take_set_same {l : List Int} {x : Nat} {v : Int} : (l.set x v).take x = l.take x:=by
  rw [List.take_set]
  exact List.set_eq_of_length_le (by rw [List.length_take];omega)
theorem rL_keeps {n m : Nat} (hf : Keeps n m (x + 1) f) (h1 : s.1.length = n) (h2 : s.2.length = m) : ∀ y,(rL f c d b x y s).1.length = n ∧ (rL f c d b x y s).2.length = m ∧ (rL f c d b x y s).1.take x = s.1.take x
  | 0=>⟨h1,h2,rfl⟩
  | y + 1=>by
    obtain ⟨e1,e2,e3⟩:=rL_keeps hf h1 h2 y
    by_cases h : b = true ∧ (y : Int) ∈ (rL f c d b x y s).1.take x
    · rw [rL_skip h];exact ⟨e1,e2,e3⟩
    · by_cases k : Placed c d b ((rL f c d b x y s).1.set x (y : Int)) x
      · rw [rL_yes h k]
        obtain ⟨g1,g2,g3⟩:=hf ((rL f c d b x y s).1.set x (y : Int),(rL f c d b x y s).2) (by simpa using e1) e2
        refine ⟨g1,g2,?_⟩
        have g4:=congrArg (List.take x) g3
        rw [List.take_take,List.take_take,Nat.min_eq_left (by omega)] at g4
        rw [g4,take_set_same,e3]
      · rw [rL_no h k]
        exact ⟨by simpa using e1,e2,by rw [take_set_same,e3]⟩
theorem stF_alen {a q : Nat} {s : Fs} : (stF c d a q s).2.2.length = s.2.2.length:=by
  unfold stF
  split
  · rfl
  · split
    · simp
    · rfl
theorem rowF_alen {a : Nat} {s : Fs} : ∀ {q : Nat},(rowF c d a q s).2.2.length = s.2.2.length
  | 0=>rfl
  | q + 1=>by
    rw [rowF]
    split
    · rw [stF_alen,rowF_alen]
    · exact rowF_alen
theorem passF_alen {m : Nat} {s : Fs} : ∀ {a : Nat},(passF c d m a s).2.2.length = s.2.2.length
  | 0=>rfl
  | q + 1=>by
    rw [passF]
    split
    · rw [rowF_alen,passF_alen]
    · exact passF_alen
theorem forceF_alen : ∀ {k : Nat} {A : List Int},(forceF c d k A).2.length = A.length
  | 0,A=>rfl
  | k + 1,A=>by
    rw [forceF]
    split
    · split
      · rw [forceF_alen,passF_alen]
      · exact passF_alen
    · exact passF_alen
theorem rG_keeps : ∀ {r n : Nat},r ≤ n → Keeps n c.fr.length (n - r) (rG c d b r)
  | 0,n,_=>fun s h1 h2=>by
    refine ⟨h1,?_,rfl⟩
    show (spreadF c d b (startA c d s.1)).2.length = _
    unfold spreadF
    rw [forceF_alen]
    exact startI_len _
  | r + 1,n,hr=>fun s h1 h2=>by
    have ih:=@rG_keeps r n (by omega)
    have hx : s.1.length - (r + 1) + 1 = n - r:=by omega
    have:=rL_keeps (c:=c) (d:=d) (b:=b) (f:=rG c d b r) (x:=s.1.length - (r + 1)) (n:=n) (m:=c.fr.length) (s:=s) (by rw [hx];exact ih) h1 h2 d.ob.toNat
    rw [rG]
    rw [show n - (r + 1) = s.1.length - (r + 1) by omega]
    exact this
theorem take_set_next {l : List Int} {x : Nat} {v : Int} (hx : x < l.length) : (l.set x v).take (x + 1) = l.take x ++ [v]:=by
  rw [List.take_add_one,take_set_same,List.getElem?_set,if_pos rfl,if_pos hx];rfl
theorem placed_take (hc : Shape c) (hx : x < P.length) : Placed c d b (P.take (x + 1)) x ↔ Placed c d b P x:=by
  have e : ∀ i : Nat,i ≤ x → (P.take (x + 1)).getD i 0 = P.getD i 0:=fun i hi=>by
    rw [List.getD_eq_getElem?_getD,List.getElem?_take,if_pos (by omega),List.getD_eq_getElem?_getD]
  constructor
  · intro h f hf h1 h2 h3
    have f1:=hc.frw f hf
    have f2:=hc.tow f (by rw [hc.tol];exact hf)
    have:=h f hf h1 h2 h3
    rwa [e _ (by omega),e _ (by omega)] at this
  · intro h f hf h1 h2 h3
    have f1:=hc.frw f hf
    have f2:=hc.tow f (by rw [hc.tol];exact hf)
    have:=h f hf h1 h2 h3
    rwa [e _ (by omega),e _ (by omega)]
theorem within_snoc {l : List Int} {n : Int} {y : Nat} (h : Within l n) (hy : (y : Int) < n) : Within (l ++ [(y : Int)]) n:=fun i hi=>by
  rw [List.length_append,List.length_singleton] at hi
  by_cases q : i < l.length
  · rw [List.getD_eq_getElem?_getD,List.getElem?_append_left q,← List.getD_eq_getElem?_getD];exact h i q
  · rw [List.getD_eq_getElem?_getD,List.getElem?_append_right (by omega),show i - l.length = 0 by omega]
    simp only [List.getElem?_cons_zero,Option.getD_some];omega
theorem ndI_snoc {l : List Int} {v : Int} (h : NdI l) (hv : v ∉ l) : NdI (l ++ [v]):=fun i j hij hj h0=>by
  rw [List.length_append,List.length_singleton] at hj
  have ej : ∀ k,k < l.length → (l ++ [v]).getD k 0 = l.getD k 0:=fun k hk=>by rw [List.getD_eq_getElem?_getD,List.getElem?_append_left hk,← List.getD_eq_getElem?_getD]
  rw [ej i (by omega)] at h0 ⊢
  by_cases q : j < l.length
  · rw [ej j q]
    exact h i j hij q h0
  · have e : (l ++ [v]).getD j 0 = v:=by
      rw [List.getD_eq_getElem?_getD,List.getElem?_append_right (by omega),show j - l.length = 0 by omega];rfl
    rw [e]
    exact fun e=>hv (by rw [← e];exact getD_mem (by omega))
theorem eat_last {β : Type} {M : Nat} {z : β} : ∀ {D o : List β},(eat (stL M) o D).1 = false → ∃ q ∈ D,(eat (stL M) o D).2.getLastD z = q
  | [],o,h=>by cases h
  | q :: D,o,h=>by
    cases hq : (stL M o q).1 with
    | true =>
      rw [eat_t hq] at h ⊢
      obtain ⟨p,h1,h2⟩:=eat_last (D:=D) h
      exact ⟨p,List.mem_cons_of_mem _ h1,h2⟩
    | false =>
      rw [eat_f hq]
      exact ⟨q,List.mem_cons_self ..,by show (o ++ [q]).getLastD z = q;rw [List.getLastD_concat]⟩
theorem fillN {l : List Int} {i : Nat} {v : Int} (hi : i < l.length) : (List.replicate i v ++ l.drop i).set i v = List.replicate (i + 1) v ++ l.drop (i + 1):=by
  rw [List.set_append_right _ _ (by simp),List.length_replicate,Nat.sub_self,List.drop_eq_getElem_cons hi,List.set_cons_zero,List.replicate_succ',List.append_assoc]
  rfl
end
end Go.Cats
end
section
namespace Go.Cats
def FitP (c d : Cat) (A : List Int) (f : Nat) : Prop :=
  (∀ g,g < c.fr.length → 0 ≤ A.getD g 0 → (0 ≤ c.cp f g → 0 ≤ A.getD (c.cp f g).toNat 0 → d.C (A.getD f 0) (A.getD g 0) = A.getD (c.cp f g).toNat 0) ∧ (0 ≤ c.cp g f → 0 ≤ A.getD (c.cp g f).toNat 0 → d.C (A.getD g 0) (A.getD f 0) = A.getD (c.cp g f).toNat 0)) ∧
  ∀ g,g < c.fr.length → ∀ h,h < c.fr.length → 0 ≤ A.getD g 0 → 0 ≤ A.getD h 0 → c.cp g h = f → d.C (A.getD g 0) (A.getD h 0) = A.getD f 0
structure NY (c d : Cat) (X A : List Int) : Prop where
  va : VA c d X A
  clw : ∀ a,a < c.fr.length → ∀ b,b < c.fr.length → 0 ≤ c.cp a b → 0 ≤ A.getD a 0 → 0 ≤ A.getD b 0 → 0 ≤ A.getD (c.cp a b).toNat 0 → A.getD (c.cp a b).toNat 0 = d.C (A.getD a 0) (A.getD b 0)
  nd : NdI A
  un : ∀ x : Nat,x < c.id.length → A.getD (c.id.getD x 0).toNat 0 = d.id.getD (X.getD x 0).toNat 0
section
variable {c d : Cat} {X P A Q O : List Int} {i : Nat} {v : Int}
theorem NY.nx (hc : Shape c) (h : NY c d X A) (hf : ∀ j,j < A.length → 0 ≤ A.getD j 0) : NX c d true X A :=
  ⟨h.va,fun a ha b hb h0 a0 b0=>h.clw a ha b hb h0 a0 b0 (hf _ (by rw [h.va.len];exact (comp_ent hc ha hb h0).2.1)),fun _=>h.nd,h.un⟩
theorem NY.leaf (hc : Shape c) (hX : XOK c d true X) (h : NY c d X A) (hf : ∀ j,j < A.length → 0 ≤ A.getD j 0) : extW (WA c d true X) (sA c d) A = [A]:=(h.nx hc hf).leaf hX hf
theorem iso_of (hc : IsCat c) (hd : IsCat d) (ho : c.ob = d.ob) (ha : c.fr.length = d.fr.length) (h : WA c d true X Q = true) : IsoQ c d X Q:=by
  obtain ⟨w1,w2⟩:=WA_iff.1 h
  exact ⟨hc,hd,w1,(w2 rfl).1,(w2 rfl).2,ho,ha⟩
theorem set_cont (hi : i < A.length) (h : contB (A.set i v) Q = true) (h0 : 0 ≤ v) : Q.getD i 0 = v ∧ ∀ j,j < A.length → j ≠ i → 0 ≤ A.getD j 0 → Q.getD j 0 = A.getD j 0:=by
  rw [contB_iff] at h
  refine ⟨?_,fun j hj hne h1=>?_⟩
  · have:=h.2 i (by simpa using hi) (by rw [set_getD hi,if_pos rfl];exact h0)
    rwa [set_getD hi,if_pos rfl] at this
  · have:=h.2 j (by simpa using hj) (by rw [set_getD hi,if_neg hne];exact h1)
    rwa [set_getD hi,if_neg hne] at this
theorem has_no (hA : VA c d X A) (hi : i < A.length) (h1 : A.getD i 0 = -1) (h0 : 0 ≤ v) (hv : v ∈ A) : extW (WA c d true X) (sA c d) (A.set i v) = [] :=
  extW_nil fun Q hQ hW hk=>by
    obtain ⟨e1,e2⟩:=set_cont hi hk h0
    obtain ⟨j,hj,e⟩:=mem_getD (d:=0) hv
    have hne : j ≠ i:=fun q=>by rw [q,h1] at e;omega
    have e3:=e2 j hj hne (by omega)
    have hn:=((WA_iff.1 hW).2 rfl).2
    have hl:=(contB_iff.1 hk).1
    rw [List.length_set] at hl
    rcases Nat.lt_or_ge i j with q | q
    · exact hn i j q (by omega) (by omega) (by omega)
    · exact hn j i (by omega) (by omega) (by omega) (by omega)
theorem colour_no {cc dd : List Int} (hc : IsCat c) (hd : IsCat d) (ho : c.ob = d.ob) (ha : c.fr.length = d.fr.length) (hk : Keep c d cc dd) (hA : VA c d X A) (hi : i < A.length) (h0 : 0 ≤ v) (hv : cc.getD i 0 ≠ dd.getD v.toNat 0) : extW (WA c d true X) (sA c d) (A.set i v) = [] :=
  extW_nil fun Q hQ hW hq=>by
    obtain ⟨e1,_⟩:=set_cont hi hq h0
    have:=hk X Q (iso_of hc hd ho ha hW) i (by rw [← hA.len];exact hi)
    rw [e1] at this
    exact hv this
theorem fit_no (hc : Shape c) (hA : VA c d X A) (hi : i < A.length) (h0 : 0 ≤ v) (hv : ¬ FitP c d (A.set i v) i) : extW (WA c d true X) (sA c d) (A.set i v) = [] :=
  extW_nil fun Q hQ hW hq=>hv (by
    have hl:=hA.len
    have hcm:=(WA_iff.1 hW).1.cmp
    have hQ : ∀ j,j < c.fr.length → 0 ≤ (A.set i v).getD j 0 → Q.getD j 0 = (A.set i v).getD j 0:=fun j hj h1=>(contB_iff.1 hq).2 j (by rw [List.length_set];omega) h1
    have hi' : i < c.fr.length:=by omega
    have hii : 0 ≤ (A.set i v).getD i 0:=by rw [set_getD hi,if_pos rfl];exact h0
    refine ⟨fun g hg g0=>⟨fun k1 k2=>?_,fun k1 k2=>?_⟩,fun g hg h hh g0 hh0 e=>?_⟩
    · rw [← hQ i hi' hii,← hQ g hg g0,← hQ _ (comp_ent hc hi' hg k1).2.1 k2]
      exact (hcm i g hi' hg k1).symm
    · rw [← hQ i hi' hii,← hQ g hg g0,← hQ _ (comp_ent hc hg hi' k1).2.1 k2]
      exact (hcm g i hg hi' k1).symm
    · have:=hcm g h hg hh (by omega)
      rw [e,Int.toNat_natCast] at this
      rw [← hQ i hi' hii,← hQ g hg g0,← hQ h hh hh0]
      exact this.symm)
theorem NY.set (hc : Shape c) (hd : Shape d) (hX : XOK c d true X) (h : NY c d X A) (hi : i < A.length) (h1 : A.getD i 0 = -1) (hv : v ∈ d.hom (X.getD (c.fr.getD i 0).toNat 0) (X.getD (c.to.getD i 0).toNat 0)) (hn : v ∉ A) (hf : FitP c d (A.set i v) i) :
    NY c d X (A.set i v) ∧ uns (A.set i v) < uns A:=by
  have hl:=h.va.len
  have v0:=(Cat.mem_hom.1 hv).1
  have hg : ∀ j,(A.set i v).getD j 0 = if j = i then v else A.getD j 0:=fun j=>set_getD hi
  refine ⟨⟨hom_try h.va hi hv,fun a ha b hb c0 a0 b0 k0=>?_,fun p q hpq hq p0=>?_,fun x hx=>?_⟩,?_⟩
  · by_cases ea : a = i
    · subst ea;exact ((hf.1 b hb b0).1 c0 k0).symm
    · by_cases eb : b = i
      · subst eb;exact ((hf.1 a ha a0).2 c0 k0).symm
      · by_cases ec : (c.cp a b).toNat = i
        · rw [ec];exact (hf.2 a ha b hb a0 b0 (by omega)).symm
        · have ga : (A.set i v).getD a 0 = A.getD a 0:=by rw [hg,if_neg ea]
          have gb : (A.set i v).getD b 0 = A.getD b 0:=by rw [hg,if_neg eb]
          have gc : (A.set i v).getD (c.cp a b).toNat 0 = A.getD (c.cp a b).toNat 0:=by rw [hg,if_neg ec]
          rw [ga] at a0 ⊢
          rw [gb] at b0 ⊢
          rw [gc] at k0 ⊢
          exact h.clw a ha b hb c0 a0 b0 k0
  · rw [List.length_set] at hq
    rw [hg] at p0
    rw [hg,hg]
    by_cases ep : p = i
    · rw [if_pos ep,if_neg (by omega)]
      exact fun e=>hn (by rw [e];exact getD_mem hq)
    · rw [if_neg ep] at p0 ⊢
      by_cases eq : q = i
      · rw [if_pos eq];exact fun e=>hn (by rw [← e];exact getD_mem (by omega))
      · rw [if_neg eq];exact h.nd p q hpq hq p0
  · have k1:=h.un x hx
    have k2:=unit_ok hc hd hX hx
    rw [hg,if_neg,k1]
    intro e
    rw [e,h1] at k1
    omega
  · exact (XtL.set (e:=v) hi (by omega)).uns_lt hi (by omega) (by rw [hg,if_pos rfl];exact v0)
theorem start_nd (hc : Shape c) (hd : Shape d) (hX : XOK c d true X) : NdI (startA c d X):=fun i j hij hj h0 e=>by
  have hl : (startA c d X).length = c.fr.length:=startI_len _
  obtain ⟨x,hx,e1⟩:=startI_some hc (j:=i) (by omega) (Nat.le_refl _) h0
  have h1 : 0 ≤ (startA c d X).getD j 0:=by omega
  obtain ⟨y,hy,e2⟩:=startI_some hc (j:=j) (by omega) (Nat.le_refl _) h1
  have s1:=startI_at (d:=d) (X:=X) hc (Nat.le_refl c.id.length) x hx
  have s2:=startI_at (d:=d) (X:=X) hc (Nat.le_refl c.id.length) y hy
  have u1:=unit_ok hc hd hX hx
  have u2:=unit_ok hc hd hX hy
  have e3 : d.id.getD (X.getD x 0).toNat 0 = d.id.getD (X.getD y 0).toNat 0:=by
    rw [← s1,← s2,← e1,← e2];exact e
  have e4 : X.getD x 0 = X.getD y 0:=by
    have a1:=u1.2.2.2.2.1
    rw [e3,u2.2.2.2.2.1] at a1
    exact a1.symm
  have hxl:=hX.len
  have hil:=hc.idl
  have hn:=hX.nd rfl
  rcases Nat.lt_trichotomy x y with q | q | q
  · exact hn x y q (by omega) u1.1 e4
  · subst q;omega
  · exact hn y x q (by omega) u2.1 e4.symm
theorem start_ny (hc : IsCat c) (hd : IsCat d) (hX : XOK c d true X) : NY c d X (startA c d X) :=
  ⟨startI_va hc.toShape hd.toShape hX (Nat.le_refl _),fun a ha b hb h0 a0 b0 _=>start_clo hc hd hX a ha b hb h0 a0 b0,start_nd hc.toShape hd.toShape hX,fun x hx=>startI_at hc.toShape (Nat.le_refl _) x hx⟩
def SizeP (c d : Cat) (X : List Int) (n x : Nat) : Prop:=(c.hom x n).length = (d.hom (X.getD x 0) (X.getD n 0)).length ∧ (c.hom n x).length = (d.hom (X.getD n 0) (X.getD x 0)).length
theorem size_no {r n : Nat} (hc : IsCat c) (hd : IsCat d) (ho : c.ob = d.ob) (ha : c.fr.length = d.fr.length) (hX : X.length = n + 1) (hn : (n : Int) < c.ob) (h : ¬ ∀ x,x < n + 1 → SizeP c d X n x) : funX c d true r X = [] :=
  funX_nil fun O Q hO hW=>h fun x hx=>by
    have hi:=iso_of hc hd ho ha hW
    have e1 : O.getD x 0 = X.getD x 0:=getD_take hO (by omega)
    have e2 : O.getD n 0 = X.getD n 0:=getD_take hO (by omega)
    have h1:=hi.hom (p:=x) (q:=n) ⟨by omega,by omega⟩ ⟨by omega,by omega⟩
    have h2:=hi.hom (p:=n) (q:=x) ⟨by omega,by omega⟩ ⟨by omega,by omega⟩
    rw [Int.toNat_natCast,Int.toNat_natCast,e1,e2] at h1 h2
    exact ⟨h1,h2⟩
theorem alike_no {cc dd : List Int} (hc : IsCat c) (hd : IsCat d) (ho : c.ob = d.ob) (ha : c.fr.length = d.fr.length) (hk : Keep c d cc dd) (h1 : cc.length = c.fr.length) (h2 : dd.length = d.fr.length) (h : ¬ AlikeP cc dd) {r : Nat} : funX c d true r [] = [] :=
  funX_nil fun O Q hO hW=>h (alike_iso (iso_of hc hd ho ha hW) hk h1 h2)
end
end Go.Cats
end
