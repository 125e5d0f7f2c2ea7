/- Several texts in one: R16, R17, R18, R19, R20, R21, R22. -/
import Derived.Test.YtfinbajnalaomaaGreatKbbx
set_option linter.unusedSimpArgs false
set_option linter.unusedVariables false
set_option maxRecDepth 100000
set_option maxHeartbeats 16000000
section
namespace Go.Eng
open Go Go.Proofs Go.Cats
theorem sp_l02Is_v {c : Cat} {v : Bool} (hb : CatB c) (h : dec (IsCat c) = v) : Spec Tryz.prog 14 [catV c] [] (bv v) [] := by
  subst h
  exact sp_l02Is hb
def FcOut (c d K : Cat) (L : List Fun) (A : List (List Int)) (code : Int) : Prop :=
  (¬ (IsCat c ∧ IsCat d) ∧ K = Cat.nil ∧ L = [] ∧ A = [] ∧ code = 1) ∨ (IsCat c ∧ IsCat d ∧ ¬ FcY c d ∧ K = Cat.nil ∧ L = [] ∧ A = [] ∧ code = 3) ∨ (IsCat c ∧ IsCat d ∧ FcY c d ∧ K = fcK d (fcL c d) ∧ L = fcL c d ∧ A = fcA (fcL c d) ∧ code = 0)
end Go.Eng
end
section
namespace Go.Eng
open Go Go.Proofs Go.Cats
def evlO (L : List Fun) (x : Int) (i : Nat) : List Int := (L.take i).map fun f => f.obs.getD x.toNat 0
def evlA (A : List (List Int)) (x : Int) (a : Nat) : List Int := (A.take a).map fun t => t.getD (2 + x).toNat 0
noncomputable def evF (c d : Cat) (x : Int) : Fun := ⟨fcK d (fcL c d), d, evlO (fcL c d) x (fcL c d).length, evlA (fcA (fcL c d)) x (fcA (fcL c d)).length⟩
theorem evlO_zero (L x) : evlO L x 0 = [] := rfl
theorem evlA_zero (A x) : evlA A x 0 = [] := rfl
def EvOut (c d : Cat) (x : Int) (g : Fun) (code : Int) : Prop :=
  (¬ (IsCat c ∧ IsCat d) ∧ g = nilF ∧ code = 1) ∨ (IsCat c ∧ IsCat d ∧ ((¬ (0 ≤ x ∧ x < c.ob) ∧ g = nilF ∧ code = 2) ∨ ((0 ≤ x ∧ x < c.ob) ∧ ((¬ FcY c d ∧ g = nilF ∧ code = 3) ∨ (FcY c d ∧ g = evF c d x ∧ code = 0)))))
attribute [local go_sem] List.set_cons_zero List.set_cons_succ evlO_zero evlA_zero
end Go.Eng
end
section
namespace Go.Eng
open Go Go.Proofs Go.Cats
def kO (p q : List Int) : Lit := .string (keyS [p, q]).data.toList
def pmO (L : List Fun) : Nat → DataW Unit
  | 0 => .map []
  | i + 1 => (pmO L i).put (kO (L.getD i default).obs (L.getD i default).ars) (.lit (.int .i64 i))
theorem pmO_zero (L : List Fun) : pmO L 0 = .map [] := rfl
structure ObOK (L : List Fun) (p q : List Int) (i : Nat) : Prop where
  n8 : L.length ≤ 8
  lt : i < L.length
  ol : ∀ j, j < L.length → (L.getD j default).obs.length = p.length
  ob : ∀ j, j < L.length → ∀ x ∈ (L.getD j default).obs, 0 ≤ x ∧ x < 256
  ar : ∀ j, j < L.length → ∀ x ∈ (L.getD j default).ars, 0 ≤ x ∧ x < 256
  al : ∀ j, j < L.length → (L.getD j default).ars.length ≤ 64
  pl : p.length ≤ 64
  po : (L.getD i default).obs = p
  qo : (L.getD i default).ars = q
  un : ∀ j, j < L.length → (L.getD j default).obs = p → (L.getD j default).ars = q → j = i
attribute [local go_sem] List.set_cons_zero List.set_cons_succ pmO_zero
end Go.Eng
end
section
namespace Go.Eng
open Go Go.Proofs Go.Cats
open Classical in
noncomputable def fcAt (L : List Fun) (p q : List Int) : Nat := if h : ∃ i, i < L.length ∧ (L.getD i default).obs = p ∧ (L.getD i default).ars = q then h.choose else 0
theorem const_fits {c d : Cat} (sc : IsCat c) (sd : IsCat d) {y : Nat} (hy : (y : Int) < d.ob) : Fits ⟨c, d, List.replicate c.ob.toNat (y : Int), List.replicate c.fr.length (d.id.getD y 0)⟩ := by
  have c0 := sc.toShape.ob0
  have dil := sd.toShape.idl
  have hy2 : y < d.id.length := by omega
  have i1 := sd.toShape.idw y hy2
  have i2 := sd.toShape.ide y hy2
  have ro : ∀ x : Int, 0 ≤ x → x < c.ob → (List.replicate c.ob.toNat (y : Int)).getD x.toNat 0 = y := fun x h0 h1 => by
    rw [List.getD_eq_getElem?_getD, List.getElem?_replicate, if_pos (by omega)]; rfl
  have ra : ∀ x : Nat, x < c.fr.length → (List.replicate c.fr.length (d.id.getD y 0)).getD x 0 = d.id.getD y 0 := fun x h1 => by
    rw [List.getD_eq_getElem?_getD, List.getElem?_replicate, if_pos h1]; rfl
  refine ⟨?_, ?_, fun x hx => ?_, fun x hx => ?_, fun a ha => ?_, fun x hx => ?_, fun a b ha hb h0 => ?_⟩
  · show ((List.replicate c.ob.toNat (y : Int)).length : Int) = c.ob; rw [List.length_replicate]; omega
  · show (List.replicate c.fr.length (d.id.getD y 0)).length = c.fr.length; rw [List.length_replicate]
  · have hx : x < c.ob.toNat := by have : x < (List.replicate c.ob.toNat (y : Int)).length := hx; rwa [List.length_replicate] at this
    show 0 ≤ (List.replicate c.ob.toNat (y : Int)).getD x 0 ∧ (List.replicate c.ob.toNat (y : Int)).getD x 0 < d.ob
    rw [List.getD_eq_getElem?_getD, List.getElem?_replicate, if_pos hx]
    exact ⟨by simp, by simpa using hy⟩
  · have hx : x < c.fr.length := by have : x < (List.replicate c.fr.length (d.id.getD y 0)).length := hx; rwa [List.length_replicate] at this
    show 0 ≤ (List.replicate c.fr.length (d.id.getD y 0)).getD x 0 ∧ (List.replicate c.fr.length (d.id.getD y 0)).getD x 0 < d.fr.length
    rw [ra x hx]; exact i1
  · have ha : a < c.fr.length := by have : a < (List.replicate c.fr.length (d.id.getD y 0)).length := ha; rwa [List.length_replicate] at this
    have f1 := sc.toShape.frw a ha
    have f2 := sc.toShape.tow a (by rw [sc.toShape.tol]; exact ha)
    show d.F ((List.replicate c.fr.length (d.id.getD y 0)).getD a 0) = (List.replicate c.ob.toNat (y : Int)).getD (c.F (a : Int)).toNat 0 ∧ d.T ((List.replicate c.fr.length (d.id.getD y 0)).getD a 0) = (List.replicate c.ob.toNat (y : Int)).getD (c.T (a : Int)).toNat 0
    rw [ra a ha, ro _ (by simpa [Cat.F] using f1.1) (by simpa [Cat.F] using f1.2), ro _ (by simpa [Cat.T] using f2.1) (by simpa [Cat.T] using f2.2)]
    exact i2
  · have hx : x < c.id.length := hx
    have j1 := sc.toShape.idw x hx
    have cil := sc.toShape.idl
    show (List.replicate c.fr.length (d.id.getD y 0)).getD (c.id.getD x 0).toNat 0 = d.id.getD ((List.replicate c.ob.toNat (y : Int)).getD ((x : Int)).toNat 0).toNat 0
    rw [ra _ (by omega), ro _ (by omega) (by omega), Int.toNat_natCast]
  · have ha : a < c.fr.length := ha
    have hb : b < c.fr.length := hb
    have h0 : 0 ≤ c.C a b := h0
    have hc : c.C a b < c.fr.length := by
      have := (sc.toShape.coe a ha).2 b hb
      unfold Cat.Entry at this
      rcases this with ⟨_, h, _⟩ | ⟨_, h⟩
      · exact h.2
      · omega
    show (List.replicate c.fr.length (d.id.getD y 0)).getD (c.C a b).toNat 0 = d.C ((List.replicate c.fr.length (d.id.getD y 0)).getD ((a : Int)).toNat 0) ((List.replicate c.fr.length (d.id.getD y 0)).getD ((b : Int)).toNat 0)
    rw [ra _ (by omega), Int.toNat_natCast, Int.toNat_natCast, ra _ ha, ra _ hb]
    have := sd.unl (d.id.getD y 0).toNat (by omega)
    rw [Int.toNat_of_nonneg i1.1, i2.1] at this
    have e : d.I (y : Int) = d.id.getD y 0 := by show d.id.getD ((y : Int)).toNat 0 = _; rw [Int.toNat_natCast]
    rw [e] at this
    exact this.symm
end Go.Eng
end
section
namespace Go.Eng
open Go Go.Proofs Go.Cats
def cnO (c : Cat) (y : Nat) : List Int := List.replicate c.ob.toNat (y : Int)
def cnA (c d : Cat) (y : Nat) : List Int := List.replicate c.fr.length (d.id.getD y 0)
noncomputable def cnI (c d : Cat) (y : Nat) : Nat := fcAt (fcL c d) (cnO c y) (cnA c d y)
noncomputable def diO (c d : Cat) (y : Nat) : List Int := (List.range y).map fun y => (cnI c d y : Int)
noncomputable def diK (c d : Cat) (a : Nat) : List Int := (cnI c d (d.fr.getD a 0).toNat : Int) :: (cnI c d (d.to.getD a 0).toNat : Int) :: List.replicate c.ob.toNat (a : Int)
noncomputable def diA (c d : Cat) (a : Nat) : List Int := (List.range a).map fun a => fnd (fcA (fcL c d)) (diK c d a)
noncomputable def diF (c d : Cat) : Fun := ⟨d, fcK d (fcL c d), diO c d d.ob.toNat, diA c d d.fr.length⟩
section
variable {c d : Cat} {y a : Nat}
theorem diO_zero (c d) : diO c d 0 = [] := rfl
theorem diA_zero (c d) : diA c d 0 = [] := rfl
end
def DiOut (c d : Cat) (g : Fun) (code : Int) : Prop :=
  (¬ (IsCat c ∧ IsCat d) ∧ g = nilF ∧ code = 1) ∨ (IsCat c ∧ IsCat d ∧ ((¬ FcY c d ∧ g = nilF ∧ code = 3) ∨ (FcY c d ∧ g = diF c d ∧ code = 0)))
attribute [local go_sem] List.set_cons_zero List.set_cons_succ diO_zero diA_zero
theorem rep_snoc (x : Int) (n : Nat) : List.replicate (n + 1) x = List.replicate n x ++ [x] := List.replicate_succ'
theorem rep_nil (x : Int) : List.replicate 0 x = [] := rfl
attribute [local go_sem] rep_nil
theorem sp_l06Constant_g {c d : Cat} {y : Nat} (hc : CatB c) (hd : CatB d) (sc : Shape c) (sd : Shape d) (hy : (y : Int) < d.ob) : Spec Tryz.prog 88 [catV c, catV d, iv y] [] (.agg [iv (⟨c, d, cnO c y, cnA c d y⟩ : Fun).src.ob, .sl 0, .sl 1, .sl 2, .sl 3, iv (⟨c, d, cnO c y, cnA c d y⟩ : Fun).tgt.ob, .sl 4, .sl 5, .sl 6, .sl 7, .sl 8, .sl 9]) [(0, ⟨1, .arr (ints (⟨c, d, cnO c y, cnA c d y⟩ : Fun).src.fr)⟩), (1, ⟨1, .arr (ints (⟨c, d, cnO c y, cnA c d y⟩ : Fun).src.to)⟩), (2, ⟨1, .arr (ints (⟨c, d, cnO c y, cnA c d y⟩ : Fun).src.id)⟩), (3, ⟨1, .arr (intss (⟨c, d, cnO c y, cnA c d y⟩ : Fun).src.co)⟩), (4, ⟨1, .arr (ints (⟨c, d, cnO c y, cnA c d y⟩ : Fun).tgt.fr)⟩), (5, ⟨1, .arr (ints (⟨c, d, cnO c y, cnA c d y⟩ : Fun).tgt.to)⟩), (6, ⟨1, .arr (ints (⟨c, d, cnO c y, cnA c d y⟩ : Fun).tgt.id)⟩), (7, ⟨1, .arr (intss (⟨c, d, cnO c y, cnA c d y⟩ : Fun).tgt.co)⟩), (8, ⟨1, .arr (ints (⟨c, d, cnO c y, cnA c d y⟩ : Fun).obs)⟩), (9, ⟨1, .arr (ints (⟨c, d, cnO c y, cnA c d y⟩ : Fun).ars)⟩)] := by
  have c0 := sc.ob0
  have c8 := sc.ob8
  have c40 := sc.m40
  have dil := sd.idl
  have hmk := sp_l06Make (c := c) (d := d) (p := cnO c y) (q := cnA c d y) hc hd (by unfold cnO; rw [List.length_replicate]; omega) (by unfold cnA; rw [List.length_replicate]; omega)
  refine spec_of_V (E := TE) 0 Tryz.func88 rfl (by simp [Tryz.f88]) fun X hn hX => ?_
  repeat' (first | (with_reducible first | refine V_seq ?_ | refine V_block ?_ | refine V_skip ?_ | refine V_ret ?_ | refine V_exit ?_) | ((with_reducible refine V_cond ?_); simp only [go_sem, simprocAttr]) | ((refine V_region (by rw [hn]; rfl) ?_); intro K hK) | ((first | with_reducible refine evOps_n ?_ | ((with_reducible apply evOps_g); rfl)); intro K hK; simp (contextual := true) only [go_sem, simprocAttr]) | with_reducible refine evOps_nil ?_ | ((with_reducible refine hK _ ?_); clear hK K) | (with_reducible first | refine And.intro ?_ ?_ | refine nxt_n ?_ | refine nxt_r ?_ | refine nxt_e ?_ | refine blk_n ?_ | refine blk_r ?_ | refine blk_same ?_ | refine blk_other (by decide) ?_ | refine noG_n ?_ | refine noG_r ?_ | refine noG_e ?_ | refine inR_mk ?_ ?_) | (refine fun (hc : (_ : Bool) = _) => ?_; try simp only [hcS] at hc))
  all_goals try exact om_
  refine V_loopK (G := {x : Nat // x ≤ c.ob.toNat ∧ (True)}) (fun ⟨x, _⟩ => [(9, iv x), (7, .sl 3), (8, .sl 4)]) [2, 3, 4, 6] (fun ⟨x, _⟩ => [(3, ⟨1, .arr (ints (List.replicate x (y : Int)))⟩), (4, ⟨1, .arr (ints [])⟩)]) [3, 4] (fun zz => c.ob.toNat - zz.1) ⟨0, Nat.zero_le _, by first | trivial | simp⟩ ?_ ?_
  · exact Imp.au hX
  rintro ⟨x, hix, hwx⟩
  simp only [go_sem, simprocAttr]
  rcases Nat.lt_or_ge x c.ob.toNat with hlx | hgx
  · have e1 := rep_snoc (y : Int) x
    repeat' (first | (with_reducible first | refine V_seq ?_ | refine V_block ?_ | refine V_skip ?_ | refine V_ret ?_ | refine V_exit ?_) | ((with_reducible refine V_cond ?_); simp only [go_sem, simprocAttr]) | ((refine V_region (by rw [hn]; rfl) ?_); intro K hK) | ((first | with_reducible refine evOps_n ?_ | ((with_reducible apply evOps_g); rfl)); intro K hK; simp (contextual := true) only [go_sem, simprocAttr]) | with_reducible refine evOps_nil ?_ | ((with_reducible refine hK _ ?_); clear hK K) | (with_reducible first | refine And.intro ?_ ?_ | refine nxt_n ?_ | refine nxt_r ?_ | refine nxt_e ?_ | refine blk_n ?_ | refine blk_r ?_ | refine blk_same ?_ | refine blk_other (by decide) ?_ | refine noG_n ?_ | refine noG_r ?_ | refine noG_e ?_ | refine inR_mk ?_ ?_) | (refine fun (hc : (_ : Bool) = _) => ?_; try simp only [hcS] at hc))
    all_goals try exact om_
    · refine ⟨⟨x + 1, by omega, (by trivial)⟩, by simp only; omega, Imp.auto hX (by simp only [go_sem, simprocAttr, e1])⟩
  · have ex : x = c.ob.toNat := by omega
    subst ex
    rw [show List.replicate c.ob.toNat (y : Int) = cnO c y from rfl]
    repeat' (first | (with_reducible first | refine V_seq ?_ | refine V_block ?_ | refine V_skip ?_ | refine V_ret ?_ | refine V_exit ?_) | ((with_reducible refine V_cond ?_); simp only [go_sem, simprocAttr]) | ((refine V_region (by rw [hn]; rfl) ?_); intro K hK) | ((first | with_reducible refine evOps_n ?_ | ((with_reducible apply evOps_g); rfl)); intro K hK; simp (contextual := true) only [go_sem, simprocAttr]) | with_reducible refine evOps_nil ?_ | ((with_reducible refine hK _ ?_); clear hK K) | (with_reducible first | refine And.intro ?_ ?_ | refine nxt_n ?_ | refine nxt_r ?_ | refine nxt_e ?_ | refine blk_n ?_ | refine blk_r ?_ | refine blk_same ?_ | refine blk_other (by decide) ?_ | refine noG_n ?_ | refine noG_r ?_ | refine noG_e ?_ | refine inR_mk ?_ ?_) | (refine fun (hc : (_ : Bool) = _) => ?_; try simp only [hcS] at hc))
    all_goals try exact om_
    refine V_loopK (G := {a : Nat // a ≤ c.fr.length ∧ (True)}) (fun ⟨a, _⟩ => [(10, iv a), (7, .sl 3), (8, .sl 4)]) [2, 3, 4, 6] (fun ⟨a, _⟩ => [(3, ⟨1, .arr (ints (cnO c y))⟩), (4, ⟨1, .arr (ints (List.replicate a (d.id.getD y 0)))⟩)]) [3, 4] (fun zz => c.fr.length - zz.1) ⟨0, Nat.zero_le _, by first | trivial | simp⟩ ?_ ?_
    · exact Imp.au hX
    rintro ⟨a, hia, hwa⟩
    simp only [go_sem, simprocAttr]
    rcases Nat.lt_or_ge a c.fr.length with hla | hga
    · have e1 := rep_snoc (d.id.getD y 0) a
      repeat' (first | (with_reducible first | refine V_seq ?_ | refine V_block ?_ | refine V_skip ?_ | refine V_ret ?_ | refine V_exit ?_) | ((with_reducible refine V_cond ?_); simp only [go_sem, simprocAttr]) | ((refine V_region (by rw [hn]; rfl) ?_); intro K hK) | ((first | with_reducible refine evOps_n ?_ | ((with_reducible apply evOps_g); rfl)); intro K hK; simp (contextual := true) only [go_sem, simprocAttr]) | with_reducible refine evOps_nil ?_ | ((with_reducible refine hK _ ?_); clear hK K) | (with_reducible first | refine And.intro ?_ ?_ | refine nxt_n ?_ | refine nxt_r ?_ | refine nxt_e ?_ | refine blk_n ?_ | refine blk_r ?_ | refine blk_same ?_ | refine blk_other (by decide) ?_ | refine noG_n ?_ | refine noG_r ?_ | refine noG_e ?_ | refine inR_mk ?_ ?_) | (refine fun (hc : (_ : Bool) = _) => ?_; try simp only [hcS] at hc))
      all_goals try exact om_
      · refine ⟨⟨a + 1, by omega, (by trivial)⟩, by simp only; omega, Imp.auto hX (by simp only [go_sem, simprocAttr, e1])⟩
    · have ea : a = c.fr.length := by omega
      subst ea
      rw [show List.replicate c.fr.length (d.id.getD y 0) = cnA c d y from rfl]
      repeat' (first | (with_reducible first | refine V_seq ?_ | refine V_block ?_ | refine V_skip ?_ | refine V_ret ?_ | refine V_exit ?_) | ((with_reducible refine V_cond ?_); simp only [go_sem, simprocAttr]) | ((refine V_region (by rw [hn]; rfl) ?_); intro K hK) | ((first | with_reducible refine evOps_n ?_ | ((with_reducible apply evOps_g); rfl)); intro K hK; simp (contextual := true) only [go_sem, simprocAttr]) | with_reducible refine evOps_nil ?_ | ((with_reducible refine hK _ ?_); clear hK K) | (with_reducible first | refine And.intro ?_ ?_ | refine nxt_n ?_ | refine nxt_r ?_ | refine nxt_e ?_ | refine blk_n ?_ | refine blk_r ?_ | refine blk_same ?_ | refine blk_other (by decide) ?_ | refine noG_n ?_ | refine noG_r ?_ | refine noG_e ?_ | refine inR_mk ?_ ?_) | ((with_reducible refine evCall_at 36 ?_); refine EvCall.mk (hmk) cal_l06Make [(0,5),(1,6),(2,7),(3,8),(4,9),(5,10),(6,11),(7,12),(8,13),(9,14)] [3,4] (by simp [go_sem] <;> (repeat' (first | rfl | constructor))) (by simp [go_sem] <;> (repeat' (first | rfl | constructor))) ?_; all_goals try simp only [go_sem, simprocAttr]) | (refine fun (hc : (_ : Bool) = _) => ?_; try simp only [hcS] at hc))
      all_goals try exact om_
      · (first | refine ret_auto ?_ | refine ret_auto' ?_); simp only [go_sem, simprocAttr, Tryz.f88]
end Go.Eng
end
section
namespace Go.Eng
open Go Go.Proofs Go.Cats
def btO (pl : Nat → Nat) (i : Nat) : List Int := (List.range i).map fun i => (pl i : Int)
def btK (pl : Nat → Nat) (A : List (List Int)) (cm : Nat → List Int) (a : Nat) : List Int := (pl ((A.getD a []).getD 0 0).toNat : Int) :: (pl ((A.getD a []).getD 1 0).toNat : Int) :: cm a
def btA (pl : Nat → Nat) (A A2 : List (List Int)) (cm : Nat → List Int) (a : Nat) : List Int := (List.range a).map fun a => fnd A2 (btK pl A cm a)
section
variable {pl : Nat → Nat} {A A2 : List (List Int)} {cm : Nat → List Int} {i a n : Nat}
theorem btO_zero (pl) : btO pl 0 = [] := rfl
theorem btA_zero (pl A A2 cm) : btA pl A A2 cm 0 = [] := rfl
end
structure BtW (L L2 : List Fun) (A A2 : List (List Int)) (pl : Nat → Nat) (cm : Nat → List Int) (img : Nat → Fun) : Prop where
  ob : ∀ i, i < L.length → ObOK L2 (img i).obs (img i).ars (pl i)
  key : KeyOK A2
  mem : ∀ a, a < A.length → btK pl A cm a ∈ A2
  cl : ∀ a, a < A.length → (cm a).length ≤ 60
  a40 : A.length ≤ 40
  l8 : L.length ≤ 8
  ar : ∀ a, a < A.length → 2 ≤ (A.getD a []).length ∧ (A.getD a []).length ≤ 60 ∧ (0 ≤ (A.getD a []).getD 0 0 ∧ ((A.getD a []).getD 0 0).toNat < L.length) ∧ 0 ≤ (A.getD a []).getD 1 0 ∧ ((A.getD a []).getD 1 0).toNat < L.length
attribute [local go_sem] List.set_cons_zero List.set_cons_succ btO_zero btA_zero
end Go.Eng
end
section
namespace Go.Eng
open Go Go.Proofs Go.Cats
theorem fit_A {f : Fun} (hf : Fits f) {a : Int} (h0 : 0 ≤ a) (h1 : a < f.src.fr.length) : 0 ≤ f.A a ∧ f.A a < f.tgt.fr.length ∧ f.tgt.F (f.A a) = f.O (f.src.F a) ∧ f.tgt.T (f.A a) = f.O (f.src.T a) := by
  have l := hf.arl
  have w := hf.arw a.toNat (by omega)
  have e := hf.endf a.toNat (by omega)
  rw [Int.toNat_of_nonneg h0] at e
  exact ⟨w.1, w.2, e.1, e.2⟩
theorem thn_O {f g : Fun} (hf : Fits f) {x : Int} (h0 : 0 ≤ x) (h1 : x < f.src.ob) : (thF f g).O x = g.O (f.O x) := by
  have l := hf.obl
  exact thn_at (by omega)
theorem thn_A {f g : Fun} (hf : Fits f) {a : Int} (h0 : 0 ≤ a) (h1 : a < f.src.fr.length) : (thF f g).A a = g.A (f.A a) := by
  have l := hf.arl
  exact thn_at (by omega)
theorem comp_rng {c : Cat} (s : Shape c) {a b : Int} (a0 : 0 ≤ a) (a1 : a < c.fr.length) (b0 : 0 ≤ b) (b1 : b < c.fr.length) (e : c.T a = c.F b) : 0 ≤ c.C a b ∧ c.C a b < c.fr.length := by
  have := (s.coe a.toNat (by omega)).2 b.toNat (by omega)
  unfold Cat.Entry at this
  rw [Int.toNat_of_nonneg a0, Int.toNat_of_nonneg b0] at this
  rcases this with ⟨_, h, _⟩ | ⟨h, _⟩
  · exact h
  · exact absurd e h
theorem fit_C {f : Fun} (sc : Shape f.src) (hf : Fits f) {a b : Int} (a0 : 0 ≤ a) (a1 : a < f.src.fr.length) (b0 : 0 ≤ b) (b1 : b < f.src.fr.length) (e : f.src.T a = f.src.F b) : f.A (f.src.C a b) = f.tgt.C (f.A a) (f.A b) := by
  have h := comp_rng sc a0 a1 b0 b1 e
  have := hf.comp a.toNat b.toNat (by omega) (by omega)
  rw [Int.toNat_of_nonneg a0, Int.toNat_of_nonneg b0] at this
  exact this h.1
theorem thF_fits {f g : Fun} (sc : Shape f.src) (st : Shape f.tgt) (hf : Fits f) (hg : Fits g) (e : g.src = f.tgt) : Fits (thF f g) := by
  have sg : Shape g.src := by rw [e]; exact st
  have fo := hf.obl
  have fa := hf.arl
  have ga := hg.arl
  have go := hg.obl
  rw [e] at ga go
  have c0 := sc.ob0
  refine ⟨?_, ?_, ?_, ?_, fun a ha => ?_, fun x hx => ?_, fun a b ha hb h0 => ?_⟩
  · show ((thn f.obs g.obs).length : Int) = f.src.ob; rw [thn_len]; exact fo
  · show (thn f.ars g.ars).length = f.src.fr.length; rw [thn_len]; exact fa
  · exact thn_in (by rw [go]; exact hf.obw) hg.obw
  · exact thn_in (by rw [ga]; exact hf.arw) hg.arw
  · have ha : a < f.src.fr.length := by have : a < (thn f.ars g.ars).length := ha; rw [thn_len] at this; omega
    have f1 := sc.frw a ha
    have f2 := sc.tow a (by rw [sc.tol]; exact ha)
    have h1 := fit_A hf (a := (a : Int)) (by omega) (by omega)
    have h2 := fit_A hg (a := f.A (a : Int)) h1.1 (by rw [e]; exact h1.2.1)
    have e1 : (thF f g).ars.getD a 0 = g.A (f.A (a : Int)) := thn_at (by omega)
    rw [e1]
    have e2 : (thF f g).O ((thF f g).src.F (a : Int)) = g.O (f.O (f.src.F (a : Int))) := thn_O hf (x := f.src.F (a : Int)) (by simpa [Cat.F] using f1.1) (by simpa [Cat.F] using f1.2)
    have e3 : (thF f g).O ((thF f g).src.T (a : Int)) = g.O (f.O (f.src.T (a : Int))) := thn_O hf (x := f.src.T (a : Int)) (by simpa [Cat.T] using f2.1) (by simpa [Cat.T] using f2.2)
    rw [e2, e3]
    have e4 := h2.2.2.1
    have e5 := h2.2.2.2
    rw [e, h1.2.2.1] at e4
    rw [e, h1.2.2.2] at e5
    exact ⟨e4, e5⟩
  · have hx : x < f.src.id.length := hx
    have il := sc.idl
    have iw := sc.idw x hx
    have u1 := hf.unit x hx
    have ow := hf.obw x (by omega)
    have tl := st.idl
    have u2 := hg.unit (f.O (x : Int)).toNat (by rw [e]; have : f.O (x : Int) = f.obs.getD x 0 := by simp [Fun.O]
                                                 omega)
    have ox : 0 ≤ f.O (x : Int) := by have : f.O (x : Int) = f.obs.getD x 0 := by simp [Fun.O]
                                      omega
    rw [e, Int.toNat_of_nonneg ox] at u2
    show (thF f g).A (f.src.id.getD x 0) = g.tgt.I ((thF f g).O (x : Int))
    rw [thn_A hf iw.1 iw.2, u1, thn_O hf (by omega) (by omega)]
    exact u2
  · have ha : a < f.src.fr.length := ha
    have hb : b < f.src.fr.length := hb
    have h0 : 0 ≤ f.src.C a b := h0
    have hT : f.src.T a = f.src.F b := by
      have := sc.neg ha hb
      exact Classical.byContradiction fun q => by have := this.2 q; omega
    have hc := comp_rng sc (a := a) (b := b) (by omega) (by omega) (by omega) (by omega) hT
    have h1 := fit_A hf (a := (a : Int)) (by omega) (by omega)
    have h2 := fit_A hf (a := (b : Int)) (by omega) (by omega)
    show (thF f g).A (f.src.C a b) = g.tgt.C ((thF f g).A a) ((thF f g).A b)
    rw [thn_A hf hc.1 hc.2, thn_A hf (by omega) (by omega), thn_A hf (by omega) (by omega), fit_C sc hf (by omega) (by omega) (by omega) (by omega) hT]
    have := fit_C sg hg (a := f.A (a : Int)) (b := f.A (b : Int)) h1.1 (by rw [e]; exact h1.2.1) h2.1 (by rw [e]; exact h2.2.1) (by rw [e, h1.2.2.2, h2.2.2.1, hT])
    rw [e] at this
    exact this
end Go.Eng
end
