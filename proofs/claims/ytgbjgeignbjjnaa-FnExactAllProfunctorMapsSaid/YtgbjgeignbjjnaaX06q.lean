/- Maps between profunctors: the sizes, the rules: plain law. -/
import Derived.Test.YtgbjgeignbjjnaaX05q
import Derived.Test.YtgbjgeignbjjnaaEngPqq
import Derived.Test.YtgbjgeignbjjnaaB03q
set_option linter.unusedSimpArgs false
set_option linter.unusedVariables false
namespace Go.Eng
open Go Go.Proofs Go.Cats
theorem coll_pr {α : Type} {n i : Nat} {f : Nat → List α} (h : i ≤ n) : ∃ r, coll n f = coll i f ++ r := by
  induction n with
  | zero => exact ⟨[], by rw [List.append_nil, show i = 0 by omega]⟩
  | succ n ih =>
    by_cases e : i = n + 1
    · subst e; exact ⟨[], by rw [List.append_nil]⟩
    · obtain ⟨r, hr⟩ := ih (by omega)
      exact ⟨r ++ f n, by rw [coll_succ, hr, List.append_assoc]⟩
def _root_.Go.Cats.szR (p q : Prof) (x y : Nat) : List Int := coll y fun y => List.replicate (p.S x y).toNat (q.S x y)
def _root_.Go.Cats.szP (p q : Prof) (x y : Nat) : List Int := coll x (fun x => szR p q x p.tgt.ob.toNat) ++ szR p q x y
def _root_.Go.Cats.szA (p q : Prof) : List Int := szP p q p.src.ob.toNat 0
def _root_.Go.Cats.brr (p q : Prof) (a y e : Nat) : Rule := ⟨p.off (p.src.to.getD a 0).toNat y + e, p.off (p.src.fr.getD a 0).toNat y + (p.B a y).getD e 0, q.B a y⟩
def _root_.Go.Cats.hrr (p q : Prof) (b x e : Nat) : Rule := ⟨p.off x (p.tgt.fr.getD b 0).toNat + e, p.off x (p.tgt.to.getD b 0).toNat + (p.H b x).getD e 0, q.H b x⟩
def bLen (p : Prof) (a y : Nat) : Nat := (p.B a y).length
def hLen (p : Prof) (b x : Nat) : Nat := (p.H b x).length
def _root_.Go.Cats.ruA (p q : Prof) : List Rule := gP (brr p q) (bLen p) p.tgt.ob.toNat p.src.fr.length 0 ++ gP (hrr p q) (hLen p) p.src.ob.toNat p.tgt.fr.length 0
section
variable {p q : Prof} {x y a b e : Nat}
theorem szP_zero : szP p q 0 0 = [] := rfl
theorem szP_succ : szP p q x (y + 1) = szP p q x y ++ List.replicate (p.S x y).toNat (q.S x y) := by unfold szP szR; rw [coll_succ, List.append_assoc]
theorem szP_next : szP p q (x + 1) 0 = szP p q x p.tgt.ob.toNat := by unfold szP; rw [coll_succ, szR, szR, coll_zero, List.append_nil]
theorem szR_len (s : PrShape p) (hx : x < p.src.ob.toNat) : ∀ y, y ≤ p.tgt.ob.toNat → ((szR p q x y).length : Int) = rS (p.sz.getD x []) y
  | 0, _ => rfl
  | y + 1, hy => by
    have h1 := szR_len s hx y (by omega)
    have h2 := s.w.sin x y hx (by omega)
    unfold szR at h1 ⊢
    rw [coll_succ, List.length_append, List.length_replicate, rS]
    show _ = _ + p.S x y
    omega
theorem szC_len (s : PrShape p) : ∀ x, x ≤ p.src.ob.toNat → ((coll x fun x => szR p q x p.tgt.ob.toNat).length : Int) = rO p.sz p.tgt.ob.toNat x
  | 0, _ => rfl
  | x + 1, hx => by
    have h1 := szC_len s x (by omega)
    have h2 := szR_len (q := q) s (show x < p.src.ob.toNat from hx) p.tgt.ob.toNat (Nat.le_refl _)
    rw [coll_succ, List.length_append, rO]
    omega
theorem szP_len (s : PrShape p) (hx : x < p.src.ob.toNat) (hy : y ≤ p.tgt.ob.toNat) : ((szP p q x y).length : Int) = p.off x y := by
  have h1 := szC_len (q := q) s x (by omega)
  have h2 := szR_len (q := q) s hx y hy
  unfold szP Prof.off
  rw [List.length_append]
  omega
theorem szA_len (s : PrShape p) : ((szA p q).length : Int) = p.num := by
  have h1 := szC_len (q := q) s p.src.ob.toNat (Nat.le_refl _)
  unfold szA szP Prof.num
  rw [List.length_append, show (szR p q p.src.ob.toNat 0).length = 0 from rfl]
  omega
theorem szA_pre (hx : x < p.src.ob.toNat) (hy : y ≤ p.tgt.ob.toNat) : ∃ r, szA p q = szP p q x y ++ r := by
  obtain ⟨r1, h1⟩ := coll_pr (f := fun x => szR p q x p.tgt.ob.toNat) (show x + 1 ≤ p.src.ob.toNat from hx)
  obtain ⟨r2, h2⟩ := coll_pr (f := fun y => List.replicate (p.S x y).toNat (q.S x y)) hy
  refine ⟨r2 ++ r1, ?_⟩
  unfold szA szP
  rw [show szR p q p.src.ob.toNat 0 = [] from rfl, List.append_nil, h1, coll_succ]
  rw [show szR p q x p.tgt.ob.toNat = szR p q x y ++ r2 from h2]
  simp only [List.append_assoc]
theorem off_le (s : PrShape p) (hx : x < p.src.ob.toNat) (hy : y < p.tgt.ob.toNat) : p.off x y + p.S x y ≤ p.num := by
  obtain ⟨r, hr⟩ := szA_pre (p := p) (q := p) (x := x) (y := y + 1) hx hy
  have h1 := congrArg List.length hr
  have h2 := szA_len (q := p) s
  have h3 := szP_len (q := p) s hx (show y + 1 ≤ p.tgt.ob.toNat from hy)
  have h4 := off_y (p := p) (x := x) (y := y)
  rw [List.length_append] at h1
  show p.off x y + (p.sz.getD x []).getD y 0 ≤ _
  omega
theorem szA_at (s : PrShape p) (hx : x < p.src.ob.toNat) (hy : y < p.tgt.ob.toNat) {i : Int} (h0 : p.off x y ≤ i) (h1 : i < p.off x y + p.S x y) : (szA p q).getD i.toNat 0 = q.S x y := by
  obtain ⟨r, hr⟩ := szA_pre (p := p) (q := q) (x := x) (y := y + 1) hx hy
  have h3 := szP_len (q := q) s hx (show y ≤ p.tgt.ob.toNat by omega)
  have h5 := (off_bd s hx (show y ≤ p.tgt.ob.toNat by omega)).1
  rw [hr, szP_succ, List.getD_eq_getElem?_getD, List.append_assoc, List.getElem?_append_right (by omega), List.getElem?_append_left (by rw [List.length_replicate]; omega), List.getElem?_replicate, if_pos (by omega)]
  rfl
theorem szA_in (s : PrShape q) (e1 : p.src = q.src) (e2 : p.tgt = q.tgt) : ∀ i, i < (szA p q).length → 0 ≤ (szA p q).getD i 0 ∧ (szA p q).getD i 0 ≤ 1048576 := fun i hi => by
  have h1 : (szA p q).getD i 0 ∈ szA p q := by rw [List.getD_eq_getElem?_getD, List.getElem?_eq_getElem hi]; exact List.getElem_mem hi
  obtain ⟨v, hv⟩ : ∃ v, (szA p q).getD i 0 = v := ⟨_, rfl⟩
  rw [hv] at h1 ⊢
  unfold szA szP at h1
  rw [show szR p q p.src.ob.toNat 0 = [] from rfl, List.append_nil, mem_coll] at h1
  obtain ⟨x, hx, h1⟩ := h1
  unfold szR at h1
  obtain ⟨y, hy, h1⟩ := mem_coll.1 h1
  have h2 := (List.mem_replicate.1 h1).2
  rw [e1] at hx
  rw [e2] at hy
  have := s.w.sin x y hx hy
  omega
theorem bLen_le (s : PrShape p) (ha : a < p.src.fr.length) (hy : y < p.tgt.ob.toNat) : bLen p a y ≤ 64 := by
  have h1 := (s.w.b1 a y ha hy).1
  have h2 := s.src.toShape.tow a (by have := s.src.toShape.tol; omega)
  have h3 := s.w.sin (p.src.to.getD a 0).toNat y (by omega) hy
  unfold bLen; omega
theorem hLen_le (s : PrShape p) (hb : b < p.tgt.fr.length) (hx : x < p.src.ob.toNat) : hLen p b x ≤ 64 := by
  have h1 := (s.w.h1 b x hb hx).1
  have h2 := s.tgt.toShape.frw b hb
  have h3 := s.w.sin x (p.tgt.fr.getD b 0).toNat hx (by omega)
  unfold hLen; omega
theorem ruA_w (s : PrShape p) (t : PrShape q) (e1 : p.src = q.src) (e2 : p.tgt = q.tgt) : RulesW (natS (szA p q)) (ruA p q) := by
  have hsl : ((natS (szA p q)).length : Int) = p.num := by rw [natS_len]; exact szA_len s
  have hat := natS_at (Sz := szA p q) fun i hi => (szA_in t e1 e2 i hi).1
  have key : ∀ r ∈ ruA p q, ∃ x y x' y' : Nat, x < p.src.ob.toNat ∧ y < p.tgt.ob.toNat ∧ x' < p.src.ob.toNat ∧ y' < p.tgt.ob.toNat ∧ p.off x y ≤ r.fr ∧ r.fr < p.off x y + p.S x y ∧ p.off x' y' ≤ r.to ∧ r.to < p.off x' y' + p.S x' y' ∧
      r.by_.length = (q.S x y).toNat ∧ Within r.by_ (q.S x' y') := fun r hr => by
    unfold ruA at hr
    rcases List.mem_append.1 hr with hr | hr
    · obtain ⟨a, y, e, ha, hy, he, rfl⟩ := mem_gA.1 hr
      have f1 := s.src.toShape.frw a ha
      have f2 := s.src.toShape.tow a (by have := s.src.toShape.tol; omega)
      obtain ⟨b1, b2⟩ := s.w.b1 a y ha hy
      obtain ⟨c1, c2⟩ := t.w.b1 a y (by rw [← e1]; exact ha) (by rw [← e2]; exact hy)
      rw [← e1] at c1 c2
      unfold bLen at he
      have d1 := s.w.sin (p.src.to.getD a 0).toNat y (by omega) hy
      have d2 := b2 e he
      exact ⟨(p.src.to.getD a 0).toNat, y, (p.src.fr.getD a 0).toNat, y, by omega, hy, by omega, hy, by simp only [brr]; omega, by simp only [brr]; omega, by simp only [brr]; omega, by simp only [brr]; omega, c1, c2⟩
    · obtain ⟨b, x, e, hb, hx, he, rfl⟩ := mem_gA.1 hr
      have f1 := s.tgt.toShape.frw b hb
      have f2 := s.tgt.toShape.tow b (by have := s.tgt.toShape.tol; omega)
      obtain ⟨b1, b2⟩ := s.w.h1 b x hb hx
      obtain ⟨c1, c2⟩ := t.w.h1 b x (by rw [← e2]; exact hb) (by rw [← e1]; exact hx)
      rw [← e2] at c1 c2
      unfold hLen at he
      have d1 := s.w.sin x (p.tgt.fr.getD b 0).toNat hx (by omega)
      have d2 := b2 e he
      exact ⟨x, (p.tgt.fr.getD b 0).toNat, x, (p.tgt.to.getD b 0).toNat, hx, by omega, hx, by omega, by simp only [hrr]; omega, by simp only [hrr]; omega, by simp only [hrr]; omega, by simp only [hrr]; omega, c1, c2⟩
  refine ⟨fun r hr => ?_, fun r hr => ?_, fun r hr => ?_, fun r hr => ?_⟩
  all_goals
    obtain ⟨x, y, x', y', hx, hy, hx', hy', k1, k2, k3, k4, k5, k6⟩ := key r hr
    have o1 := (off_bd s hx (show y ≤ p.tgt.ob.toNat by omega)).1
    have o2 := (off_bd s hx' (show y' ≤ p.tgt.ob.toNat by omega)).1
    have l1 := off_le s hx hy
    have l2 := off_le s hx' hy'
  · omega
  · omega
  · have h1 := hat r.fr.toNat
    rw [szA_at s hx hy k1 k2] at h1
    omega
  · intro e he
    have h1 := hat r.fr.toNat
    rw [szA_at s hx hy k1 k2] at h1
    have h2 := hat r.to.toNat
    rw [szA_at s hx' hy' k3 k4] at h2
    have := k6 e (by omega)
    omega
theorem ruA_len (s : PrShape p) : (ruA p q).length ≤ 41984 := by
  have o8 := s.src.toShape.ob8
  have o4 := s.tgt.toShape.ob8
  have m1 := s.src.toShape.m40
  have m2 := s.tgt.toShape.m40
  unfold ruA
  rw [List.length_append]
  have h1 := gA_len (g := brr p q) (len := bLen p) (n := p.tgt.ob.toNat) (m := p.src.fr.length) (fun a ha y hy => bLen_le s ha hy) (by omega) m1
  have h2 := gA_len (g := hrr p q) (len := hLen p) (n := p.src.ob.toNat) (m := p.tgt.fr.length) (fun a ha y hy => hLen_le s ha hy) (by omega) m2
  omega
end
end Go.Eng
