/- Profunctors, by the program: actions, the laws. -/
import Derived.Test.YtgbjgeignbjjnaaX01q
import Derived.Test.YtgbjgeignbjjnaaKsx
import Derived.Test.YtgbjgeignbjjnaaKjx
set_option linter.unusedSimpArgs false
set_option linter.unusedVariables false
set_option maxRecDepth 100000
set_option maxHeartbeats 16000000
namespace Go.Eng
open Go Go.Proofs Go.Cats
def _root_.Go.Cats.IdP (p : Prof) (y x : Nat) : Prop := p.B (p.src.id.getD x 0).toNat y = nums (p.S x y).toNat ∧ p.H (p.tgt.id.getD y 0).toNat x = nums (p.S x y).toNat
def _root_.Go.Cats.C1P (p : Prof) (y a b : Nat) : Prop := 0 ≤ (p.src.co.getD a []).getD b 0 → p.B ((p.src.co.getD a []).getD b 0).toNat y = thn (p.B b y) (p.B a y)
def _root_.Go.Cats.C2P (p : Prof) (x a b : Nat) : Prop := 0 ≤ (p.tgt.co.getD a []).getD b 0 → p.H ((p.tgt.co.getD a []).getD b 0).toNat x = thn (p.H a x) (p.H b x)
def _root_.Go.Cats.BmP (p : Prof) (a b : Nat) : Prop := thn (p.B a (p.tgt.fr.getD b 0).toNat) (p.H b (p.src.fr.getD a 0).toNat) = thn (p.H b (p.src.to.getD a 0).toNat) (p.B a (p.tgt.to.getD b 0).toNat)
def _root_.Go.Cats.Ac1 (p : Prof) (y : Nat) : Prop := (∀ x, x < p.src.id.length → IdP p y x) ∧ ∀ a, a < p.src.co.length → ∀ b, b < (p.src.co.getD a []).length → C1P p y a b
def _root_.Go.Cats.Ac2 (p : Prof) (x : Nat) : Prop := ∀ a, a < p.tgt.co.length → ∀ b, b < (p.tgt.co.getD a []).length → C2P p x a b
structure _root_.Go.Cats.PrActs (p : Prof) : Prop where
  one : ∀ y, y < p.tgt.ob.toNat → Ac1 p y
  two : ∀ x, x < p.src.ob.toNat → Ac2 p x
structure _root_.Go.Cats.IsProf (p : Prof) : Prop where
  shape : PrShape p
  acts : PrActs p
  bim : ∀ a, a < p.bef.length → ∀ b, b < p.beh.length → BmP p a b
structure _root_.Go.Cats.PrW (p : Prof) : Prop where
  szl : ∀ x, x < p.src.ob.toNat → (p.sz.getD x []).length = p.tgt.ob.toNat
  sin : ∀ x y, x < p.src.ob.toNat → y < p.tgt.ob.toNat → 0 ≤ p.S x y ∧ p.S x y < 65
  bl : ∀ a, a < p.src.fr.length → (p.bef.getD a []).length = p.tgt.ob.toNat
  hl : ∀ b, b < p.tgt.fr.length → (p.beh.getD b []).length = p.src.ob.toNat
  b1 : ∀ a y, a < p.src.fr.length → y < p.tgt.ob.toNat → (p.B a y).length = (p.S (p.src.to.getD a 0).toNat y).toNat ∧ Within (p.B a y) (p.S (p.src.fr.getD a 0).toNat y)
  h1 : ∀ b x, b < p.tgt.fr.length → x < p.src.ob.toNat → (p.H b x).length = (p.S x (p.tgt.fr.getD b 0).toNat).toNat ∧ Within (p.H b x) (p.S x (p.tgt.to.getD b 0).toNat)
theorem _root_.Go.Cats.PrShape.w {p : Prof} (s : PrShape p) : PrW p := by
  have o1 := s.src.toShape.ob0
  have o2 := s.tgt.toShape.ob0
  have z1 := s.szl
  have z2 := s.bel
  have z3 := s.hel
  have w1 : ∀ x, x < p.src.ob.toNat → (p.sz.getD x []).length = p.tgt.ob.toNat := fun x hx => by have := (s.szr x (by omega)).1; omega
  have w2 : ∀ x y, x < p.src.ob.toNat → y < p.tgt.ob.toNat → 0 ≤ p.S x y ∧ p.S x y < 65 := fun x y hx hy => (s.szr x (by omega)).2 y (by rw [w1 x hx]; exact hy)
  have w3 : ∀ a, a < p.src.fr.length → (p.bef.getD a []).length = p.tgt.ob.toNat := fun a ha => by have := (s.ber a (by omega)).1; omega
  have w4 : ∀ b, b < p.tgt.fr.length → (p.beh.getD b []).length = p.src.ob.toNat := fun b hb => by have := (s.her b (by omega)).1; omega
  refine ⟨w1, w2, w3, w4, fun a y ha hy => ?_, fun b x hb hx => ?_⟩
  · obtain ⟨q1, q2⟩ := (s.ber a (by omega)).2 y (by rw [w3 a ha]; exact hy)
    exact ⟨by omega, q2⟩
  · obtain ⟨q1, q2⟩ := (s.her b (by omega)).2 x (by rw [w4 b hb]; exact hx)
    exact ⟨by omega, q2⟩
theorem sp_numbers_at {z : Int} (h0 : 0 ≤ z) (h1 : z < 65) : Spec Try.prog 81 [iv z] [] (.sl 0) [(0, ⟨1, .arr (ints (nums z.toNat))⟩)] := by
  have := sp_numbers (n := z.toNat) (by omega)
  rwa [Int.toNat_of_nonneg h0] at this
theorem nums_l (n : Nat) : (nums n).length = n := by unfold nums; rw [List.length_map, List.length_range]
theorem cal_Profunctor_acts : Callable Try.prog 63 := ⟨_, Try.func63, rfl, rfl⟩
theorem sp_Profunctor_acts {p : Prof} (s : PrShape p) : Spec Try.prog 63 [.bptr [] (profD p)] [] (bv (dec (PrActs p))) [] := by
  have o1 := s.src.toShape.ob0
  have o2 := s.tgt.toShape.ob0
  have o3 := s.src.toShape.ob8
  have o4 := s.tgt.toShape.ob8
  have c1 := s.src.toShape.col
  have c2 := s.tgt.toShape.col
  have i1 := s.src.toShape.idl
  have i2 := s.tgt.toShape.idl
  have m1 := s.src.toShape.m40
  have m2 := s.tgt.toShape.m40
  have z1 := s.szl
  have z2 := s.bel
  have z3 := s.hel
  have tl := s.src.toShape.tol
  have tl2 := s.tgt.toShape.tol
  obtain ⟨w1, w2, w3, w4, w5, w6⟩ := s.w
  refine spec_of_V (E := TE) 0 Try.func63 rfl (by simp [Try.f63]) fun X hn hX => ?_
  repeat' (first | (with_reducible first | refine V_seq ?_ | refine V_block ?_ | refine V_skip ?_ | refine V_ret ?_ | refine V_exit ?_) | ((with_reducible refine V_cond ?_); simp only [go_sem, simprocAttr]) | ((first | refine V_region (by rw [hn]; rfl) ?_ | refine V_drawn hmix (by rw [hn]; rfl) ?_); intro K hK) | ((first | with_reducible refine evOps_n ?_ | ((with_reducible apply evOps_g); rfl) | with_reducible refine evOpsD_n ?_ | ((with_reducible apply evOpsD_g); rfl)); intro K hK; simp (contextual := true) only [go_sem, simprocAttr]) | with_reducible refine evOps_nil ?_ | ((with_reducible refine evOpsD_nil ?_ ?_); kernel_rfl) | ((with_reducible refine hK _ ?_); clear hK K) | (with_reducible first | refine And.intro ?_ ?_ | refine nxt_n ?_ | refine nxt_r ?_ | refine nxt_e ?_ | refine blk_n ?_ | refine blk_r ?_ | refine blk_same ?_ | refine blk_other (by decide) ?_ | refine noG_n ?_ | refine noG_r ?_ | refine noG_e ?_ | refine inR_mk ?_ ?_) | (refine fun (hc : (_ : Bool) = _) => ?_; try simp only [hcS] at hc))
  all_goals try exact om_
  refine V_loopK (G := {y : Nat // y ≤ p.tgt.ob.toNat ∧ (∀ k, k < y → Ac1 p k)}) (fun ⟨y, _⟩ => [(5, iv y)]) [0, 3, 4] (fun ⟨y, _⟩ => []) [] (fun zz => p.tgt.ob.toNat - zz.1) ⟨0, Nat.zero_le _, by exact (fun k hk => absurd hk (Nat.not_lt_zero k))⟩ ?_ ?_
  · exact Imp.au hX
  rintro ⟨y, hiy, hwy⟩
  simp only [go_sem, simprocAttr]
  rcases Nat.lt_or_ge y p.tgt.ob.toNat with hly | hgy
  · repeat' (first | (with_reducible first | refine V_seq ?_ | refine V_block ?_ | refine V_skip ?_ | refine V_ret ?_ | refine V_exit ?_) | ((with_reducible refine V_cond ?_); simp only [go_sem, simprocAttr]) | ((first | refine V_region (by rw [hn]; rfl) ?_ | refine V_drawn hmix (by rw [hn]; rfl) ?_); intro K hK) | ((first | with_reducible refine evOps_n ?_ | ((with_reducible apply evOps_g); rfl) | with_reducible refine evOpsD_n ?_ | ((with_reducible apply evOpsD_g); rfl)); intro K hK; simp (contextual := true) only [go_sem, simprocAttr]) | with_reducible refine evOps_nil ?_ | ((with_reducible refine evOpsD_nil ?_ ?_); kernel_rfl) | ((with_reducible refine hK _ ?_); clear hK K) | (with_reducible first | refine And.intro ?_ ?_ | refine nxt_n ?_ | refine nxt_r ?_ | refine nxt_e ?_ | refine blk_n ?_ | refine blk_r ?_ | refine blk_same ?_ | refine blk_other (by decide) ?_ | refine noG_n ?_ | refine noG_r ?_ | refine noG_e ?_ | refine inR_mk ?_ ?_) | (refine fun (hc : (_ : Bool) = _) => ?_; try simp only [hcS] at hc))
    all_goals try exact om_
    refine V_loopK (G := {x : Nat // x ≤ p.src.id.length ∧ (∀ k, k < x → IdP p y k)}) (fun ⟨x, _⟩ => [(36, iv x), (5, iv y)]) [0, 3, 4, 34, 35] (fun ⟨x, _⟩ => []) [] (fun zz => p.src.id.length - zz.1) ⟨0, Nat.zero_le _, by exact (fun k hk => absurd hk (Nat.not_lt_zero k))⟩ ?_ ?_
    · exact Imp.au hX
    rintro ⟨x, hix, hwx⟩
    simp only [go_sem, simprocAttr]
    rcases Nat.lt_or_ge x p.src.id.length with hlx | hgx
    · have hx1 : x < p.src.ob.toNat := by omega
      have e1 := s.src.toShape.idw x (by omega)
      have e2 := s.tgt.toShape.idw y (by omega)
      obtain ⟨g1, g2⟩ := w2 x y hx1 hly
      have g3 := w1 x hx1
      have g4 := w3 (p.src.id.getD x 0).toNat (by omega)
      have g5 := w4 (p.tgt.id.getD y 0).toNat (by omega)
      have g6 := (w5 (p.src.id.getD x 0).toNat y (by omega) hly).1
      have g7 := (w6 (p.tgt.id.getD y 0).toNat x (by omega) hx1).1
      have u1 := (s.src.toShape.ide x (by omega)).2
      have u2 := (s.tgt.toShape.ide y (by omega)).1
      have u1 : p.src.to.getD (p.src.id.getD x 0).toNat 0 = x := u1
      have u2 : p.tgt.fr.getD (p.tgt.id.getD y 0).toNat 0 = y := u2
      rw [u1, Int.toNat_natCast] at g6
      rw [u2, Int.toNat_natCast] at g7
      have l1 : (p.B (p.src.id.getD x 0).toNat y).length ≤ 1048576 := by omega
      have l2 : (p.H (p.tgt.id.getD y 0).toNat x).length ≤ 1048576 := by omega
      have l3 : (nums (p.S x y).toNat).length ≤ 1048576 := by rw [nums_l]; omega
      repeat' (first | (with_reducible first | refine V_seq ?_ | refine V_block ?_ | refine V_skip ?_ | refine V_ret ?_ | refine V_exit ?_) | ((with_reducible refine V_cond ?_); simp only [go_sem, simprocAttr]) | ((first | refine V_region (by rw [hn]; rfl) ?_ | refine V_drawn hmix (by rw [hn]; rfl) ?_); intro K hK) | ((first | with_reducible refine evOps_n ?_ | ((with_reducible apply evOps_g); rfl) | with_reducible refine evOpsD_n ?_ | ((with_reducible apply evOpsD_g); rfl)); intro K hK; simp (contextual := true) only [go_sem, simprocAttr]) | with_reducible refine evOps_nil ?_ | ((with_reducible refine evOpsD_nil ?_ ?_); kernel_rfl) | ((with_reducible refine hK _ ?_); clear hK K) | (with_reducible first | refine And.intro ?_ ?_ | refine nxt_n ?_ | refine nxt_r ?_ | refine nxt_e ?_ | refine blk_n ?_ | refine blk_r ?_ | refine blk_same ?_ | refine blk_other (by decide) ?_ | refine noG_n ?_ | refine noG_r ?_ | refine noG_e ?_ | refine inR_mk ?_ ?_) | ((with_reducible refine evCall_at 81 ?_); refine EvCall.rq (a := (sp_numbers_at (by first | omega | assumption | rfl) (by first | omega | assumption | rfl))) (b := cal_numbers) (c := ?_); all_goals try simp only [go_sem, simprocAttr]) | ((with_reducible refine evCall_at 65 ?_); refine EvCall.rq (a := (sp_same ?_ ?_)) (b := cal_same) (c := ?_); all_goals try simp only [go_sem, simprocAttr]) | (refine fun (hc : (_ : Bool) = _) => ?_; try simp only [hcS] at hc))
      all_goals try exact om_
      all_goals try ((first | refine ret_auto ?_ | refine ret_auto' ?_); simp only [go_sem, simprocAttr, Try.f63]; exact bv_f (fun s => absurd ((s.one y hly).1 x hlx).1 (by assumption)))
      all_goals try ((first | refine ret_auto ?_ | refine ret_auto' ?_); simp only [go_sem, simprocAttr, Try.f63]; exact bv_f (fun s => absurd ((s.one y hly).1 x hlx).2 (by assumption)))
      refine ⟨⟨x + 1, by omega, (by exact all_s hwx ⟨by assumption, by assumption⟩)⟩, by simp only; omega, Imp.ao hX⟩
    · have ex : x = p.src.id.length := by omega
      subst ex
      repeat' (first | (with_reducible first | refine V_seq ?_ | refine V_block ?_ | refine V_skip ?_ | refine V_ret ?_ | refine V_exit ?_) | ((with_reducible refine V_cond ?_); simp only [go_sem, simprocAttr]) | ((first | refine V_region (by rw [hn]; rfl) ?_ | refine V_drawn hmix (by rw [hn]; rfl) ?_); intro K hK) | ((first | with_reducible refine evOps_n ?_ | ((with_reducible apply evOps_g); rfl) | with_reducible refine evOpsD_n ?_ | ((with_reducible apply evOpsD_g); rfl)); intro K hK; simp (contextual := true) only [go_sem, simprocAttr]) | with_reducible refine evOps_nil ?_ | ((with_reducible refine evOpsD_nil ?_ ?_); kernel_rfl) | ((with_reducible refine hK _ ?_); clear hK K) | (with_reducible first | refine And.intro ?_ ?_ | refine nxt_n ?_ | refine nxt_r ?_ | refine nxt_e ?_ | refine blk_n ?_ | refine blk_r ?_ | refine blk_same ?_ | refine blk_other (by decide) ?_ | refine noG_n ?_ | refine noG_r ?_ | refine noG_e ?_ | refine inR_mk ?_ ?_) | (refine fun (hc : (_ : Bool) = _) => ?_; try simp only [hcS] at hc))
      all_goals try exact om_
      refine V_loopK (G := {a : Nat // a ≤ p.src.co.length ∧ (∀ k, k < a → ∀ b, b < (p.src.co.getD k []).length → C1P p y k b)}) (fun ⟨a, _⟩ => [(101, iv a), (5, iv y)]) [0, 3, 4, 65, 66, 67, 68, 69, 70, 71, 72, 73, 74, 75, 76, 77, 78, 79, 80, 81, 82, 83, 84, 85, 86, 87, 88, 89, 90, 91, 92, 93, 99, 100] (fun ⟨a, _⟩ => []) [] (fun zz => p.src.co.length - zz.1) ⟨0, Nat.zero_le _, by exact (fun k hk => absurd hk (Nat.not_lt_zero k))⟩ ?_ ?_
      · exact Imp.au hX
      rintro ⟨a, hia, hwa⟩
      simp only [go_sem, simprocAttr]
      rcases Nat.lt_or_ge a p.src.co.length with hla | hga
      · repeat' (first | (with_reducible first | refine V_seq ?_ | refine V_block ?_ | refine V_skip ?_ | refine V_ret ?_ | refine V_exit ?_) | ((with_reducible refine V_cond ?_); simp only [go_sem, simprocAttr]) | ((first | refine V_region (by rw [hn]; rfl) ?_ | refine V_drawn hmix (by rw [hn]; rfl) ?_); intro K hK) | ((first | with_reducible refine evOps_n ?_ | ((with_reducible apply evOps_g); rfl) | with_reducible refine evOpsD_n ?_ | ((with_reducible apply evOpsD_g); rfl)); intro K hK; simp (contextual := true) only [go_sem, simprocAttr]) | with_reducible refine evOps_nil ?_ | ((with_reducible refine evOpsD_nil ?_ ?_); kernel_rfl) | ((with_reducible refine hK _ ?_); clear hK K) | (with_reducible first | refine And.intro ?_ ?_ | refine nxt_n ?_ | refine nxt_r ?_ | refine nxt_e ?_ | refine blk_n ?_ | refine blk_r ?_ | refine blk_same ?_ | refine blk_other (by decide) ?_ | refine noG_n ?_ | refine noG_r ?_ | refine noG_e ?_ | refine inR_mk ?_ ?_) | (refine fun (hc : (_ : Bool) = _) => ?_; try simp only [hcS] at hc))
        all_goals try exact om_
        refine V_loopK (G := {b : Nat // b ≤ (p.src.co.getD a []).length ∧ (∀ k, k < b → C1P p y a k)}) (fun ⟨b, _⟩ => [(108, iv b), (5, iv y), (8, iv a), (9, .bor [] (ints (p.src.co.getD a [])))]) [0, 3, 4, 65, 66, 67, 68, 69, 70, 71, 72, 73, 74, 75, 76, 77, 78, 79, 80, 81, 82, 83, 84, 85, 86, 87, 88, 89, 90, 91, 92, 93, 99, 100, 101, 106, 107] (fun ⟨b, _⟩ => []) [] (fun zz => (p.src.co.getD a []).length - zz.1) ⟨0, Nat.zero_le _, by exact (fun k hk => absurd hk (Nat.not_lt_zero k))⟩ ?_ ?_
        · exact Imp.au hX
        rintro ⟨b, hib, hwb⟩
        simp only [go_sem, simprocAttr]
        rcases Nat.lt_or_ge b (p.src.co.getD a []).length with hlb | hgb
        · obtain ⟨n1, n2⟩ := s.src.toShape.coe a (by omega)
          have n2 := n2 b (by omega)
          unfold Cat.Entry at n2
          by_cases hh : 0 ≤ (p.src.co.getD a []).getD b 0
          · have hc2 : p.src.C a b = (p.src.co.getD a []).getD b 0 := rfl
            rw [hc2] at n2
            obtain ⟨q1, ⟨q2, q3⟩, _⟩ : p.src.to.getD a 0 = p.src.fr.getD b 0 ∧ (0 ≤ (p.src.co.getD a []).getD b 0 ∧ (p.src.co.getD a []).getD b 0 < p.src.fr.length) ∧ True := by
              rcases n2 with ⟨n3, n4, _⟩ | ⟨_, n4⟩
              · exact ⟨n3, n4, trivial⟩
              · omega
            have g1 := w3 a (by omega)
            have g2 := w3 b (by omega)
            have g3 := w3 ((p.src.co.getD a []).getD b 0).toNat (by omega)
            have k1 := w5 a y (by omega) hly
            have k2 := w5 b y (by omega) hly
            have k3 := (w5 ((p.src.co.getD a []).getD b 0).toNat y (by omega) hly).1
            have f1 := s.src.toShape.frw b (by omega)
            have f2 := s.src.toShape.tow a (by omega)
            have f3 := s.src.toShape.tow b (by omega)
            have f4 := s.src.toShape.tow ((p.src.co.getD a []).getD b 0).toNat (by have := s.src.toShape.tol; omega)
            have d1 := w2 (p.src.to.getD a 0).toNat y (by omega) hly
            have d2 := w2 (p.src.to.getD b 0).toNat y (by omega) hly
            have d3 := w2 (p.src.to.getD ((p.src.co.getD a []).getD b 0).toNat 0).toNat y (by omega) hly
            have hth := sp_then (f := p.B b y) (g := p.B a y) (by omega) (by omega) (fun i hi => by
              have h1 := k2.2 i hi
              rw [← q1] at h1
              omega)
            have l1 : (p.B ((p.src.co.getD a []).getD b 0).toNat y).length ≤ 1048576 := by omega
            have l2 : (thn (p.B b y) (p.B a y)).length ≤ 1048576 := by rw [thn_len]; omega
            repeat' (first | (exfalso; omega) | (with_reducible first | refine V_seq ?_ | refine V_block ?_ | refine V_skip ?_ | refine V_ret ?_ | refine V_exit ?_) | ((with_reducible refine V_cond ?_); simp only [go_sem, simprocAttr]) | ((first | refine V_region (by rw [hn]; rfl) ?_ | refine V_drawn hmix (by rw [hn]; rfl) ?_); intro K hK) | ((first | with_reducible refine evOps_n ?_ | ((with_reducible apply evOps_g); rfl) | with_reducible refine evOpsD_n ?_ | ((with_reducible apply evOpsD_g); rfl)); intro K hK; simp (contextual := true) only [go_sem, simprocAttr]) | with_reducible refine evOps_nil ?_ | ((with_reducible refine evOpsD_nil ?_ ?_); kernel_rfl) | ((with_reducible refine hK _ ?_); clear hK K) | (with_reducible first | refine And.intro ?_ ?_ | refine nxt_n ?_ | refine nxt_r ?_ | refine nxt_e ?_ | refine blk_n ?_ | refine blk_r ?_ | refine blk_same ?_ | refine blk_other (by decide) ?_ | refine noG_n ?_ | refine noG_r ?_ | refine noG_e ?_ | refine inR_mk ?_ ?_) | ((with_reducible refine evCall_at 64 ?_); refine EvCall.mk (hth) cal_then [(0,0)] [] (by simp [go_sem] <;> (repeat' (first | rfl | constructor))) (by simp [go_sem] <;> (repeat' (first | rfl | constructor))) ?_; all_goals try simp only [go_sem, simprocAttr]) | ((with_reducible refine evCall_at 65 ?_); refine EvCall.rq (a := (sp_same ?_ ?_)) (b := cal_same) (c := ?_); all_goals try simp only [go_sem, simprocAttr]) | (refine fun (hc : (_ : Bool) = _) => ?_; try simp only [hcS] at hc))
            all_goals try exact om_
            all_goals try ((first | refine ret_auto ?_ | refine ret_auto' ?_); simp only [go_sem, simprocAttr, Try.f63]; exact bv_f (fun s => absurd ((s.one y hly).2 a hla b hlb hh) (by assumption)))
            refine ⟨⟨b + 1, by omega, (by exact all_s hwb (fun _ => by assumption))⟩, by simp only; omega, Imp.ao hX⟩
          · repeat' (first | (exfalso; omega) | (with_reducible first | refine V_seq ?_ | refine V_block ?_ | refine V_skip ?_ | refine V_ret ?_ | refine V_exit ?_) | ((with_reducible refine V_cond ?_); simp only [go_sem, simprocAttr]) | ((first | refine V_region (by rw [hn]; rfl) ?_ | refine V_drawn hmix (by rw [hn]; rfl) ?_); intro K hK) | ((first | with_reducible refine evOps_n ?_ | ((with_reducible apply evOps_g); rfl) | with_reducible refine evOpsD_n ?_ | ((with_reducible apply evOpsD_g); rfl)); intro K hK; simp (contextual := true) only [go_sem, simprocAttr]) | with_reducible refine evOps_nil ?_ | ((with_reducible refine evOpsD_nil ?_ ?_); kernel_rfl) | ((with_reducible refine hK _ ?_); clear hK K) | (with_reducible first | refine And.intro ?_ ?_ | refine nxt_n ?_ | refine nxt_r ?_ | refine nxt_e ?_ | refine blk_n ?_ | refine blk_r ?_ | refine blk_same ?_ | refine blk_other (by decide) ?_ | refine noG_n ?_ | refine noG_r ?_ | refine noG_e ?_ | refine inR_mk ?_ ?_) | (refine fun (hc : (_ : Bool) = _) => ?_; try simp only [hcS] at hc))
            all_goals try exact om_
            refine ⟨⟨b + 1, by omega, (by exact all_s hwb (fun h => absurd h hh))⟩, by simp only; omega, Imp.ao hX⟩
        · have eb : b = (p.src.co.getD a []).length := by omega
          subst eb
          repeat' (first | (with_reducible first | refine V_seq ?_ | refine V_block ?_ | refine V_skip ?_ | refine V_ret ?_ | refine V_exit ?_) | ((with_reducible refine V_cond ?_); simp only [go_sem, simprocAttr]) | ((first | refine V_region (by rw [hn]; rfl) ?_ | refine V_drawn hmix (by rw [hn]; rfl) ?_); intro K hK) | ((first | with_reducible refine evOps_n ?_ | ((with_reducible apply evOps_g); rfl) | with_reducible refine evOpsD_n ?_ | ((with_reducible apply evOpsD_g); rfl)); intro K hK; simp (contextual := true) only [go_sem, simprocAttr]) | with_reducible refine evOps_nil ?_ | ((with_reducible refine evOpsD_nil ?_ ?_); kernel_rfl) | ((with_reducible refine hK _ ?_); clear hK K) | (with_reducible first | refine And.intro ?_ ?_ | refine nxt_n ?_ | refine nxt_r ?_ | refine nxt_e ?_ | refine blk_n ?_ | refine blk_r ?_ | refine blk_same ?_ | refine blk_other (by decide) ?_ | refine noG_n ?_ | refine noG_r ?_ | refine noG_e ?_ | refine inR_mk ?_ ?_) | (refine fun (hc : (_ : Bool) = _) => ?_; try simp only [hcS] at hc))
          all_goals try exact om_
          refine ⟨⟨a + 1, by omega, (by exact all_s hwa hwb)⟩, by simp only; omega, Imp.ao hX⟩
      · have ea : a = p.src.co.length := by omega
        subst ea
        repeat' (first | (with_reducible first | refine V_seq ?_ | refine V_block ?_ | refine V_skip ?_ | refine V_ret ?_ | refine V_exit ?_) | ((with_reducible refine V_cond ?_); simp only [go_sem, simprocAttr]) | ((first | refine V_region (by rw [hn]; rfl) ?_ | refine V_drawn hmix (by rw [hn]; rfl) ?_); intro K hK) | ((first | with_reducible refine evOps_n ?_ | ((with_reducible apply evOps_g); rfl) | with_reducible refine evOpsD_n ?_ | ((with_reducible apply evOpsD_g); rfl)); intro K hK; simp (contextual := true) only [go_sem, simprocAttr]) | with_reducible refine evOps_nil ?_ | ((with_reducible refine evOpsD_nil ?_ ?_); kernel_rfl) | ((with_reducible refine hK _ ?_); clear hK K) | (with_reducible first | refine And.intro ?_ ?_ | refine nxt_n ?_ | refine nxt_r ?_ | refine nxt_e ?_ | refine blk_n ?_ | refine blk_r ?_ | refine blk_same ?_ | refine blk_other (by decide) ?_ | refine noG_n ?_ | refine noG_r ?_ | refine noG_e ?_ | refine inR_mk ?_ ?_) | (refine fun (hc : (_ : Bool) = _) => ?_; try simp only [hcS] at hc))
        all_goals try exact om_
        refine ⟨⟨y + 1, by omega, (by exact all_s hwy ⟨hwx, hwa⟩)⟩, by simp only; omega, Imp.ao hX⟩
  · have ey : y = p.tgt.ob.toNat := by omega
    subst ey
    repeat' (first | (with_reducible first | refine V_seq ?_ | refine V_block ?_ | refine V_skip ?_ | refine V_ret ?_ | refine V_exit ?_) | ((with_reducible refine V_cond ?_); simp only [go_sem, simprocAttr]) | ((first | refine V_region (by rw [hn]; rfl) ?_ | refine V_drawn hmix (by rw [hn]; rfl) ?_); intro K hK) | ((first | with_reducible refine evOps_n ?_ | ((with_reducible apply evOps_g); rfl) | with_reducible refine evOpsD_n ?_ | ((with_reducible apply evOpsD_g); rfl)); intro K hK; simp (contextual := true) only [go_sem, simprocAttr]) | with_reducible refine evOps_nil ?_ | ((with_reducible refine evOpsD_nil ?_ ?_); kernel_rfl) | ((with_reducible refine hK _ ?_); clear hK K) | (with_reducible first | refine And.intro ?_ ?_ | refine nxt_n ?_ | refine nxt_r ?_ | refine nxt_e ?_ | refine blk_n ?_ | refine blk_r ?_ | refine blk_same ?_ | refine blk_other (by decide) ?_ | refine noG_n ?_ | refine noG_r ?_ | refine noG_e ?_ | refine inR_mk ?_ ?_) | (refine fun (hc : (_ : Bool) = _) => ?_; try simp only [hcS] at hc))
    all_goals try exact om_
    refine V_loopK (G := {x : Nat // x ≤ p.src.ob.toNat ∧ (∀ k, k < x → Ac2 p k)}) (fun ⟨x, _⟩ => [(12, iv x)]) [0, 3, 4] (fun ⟨x, _⟩ => []) [] (fun zz => p.src.ob.toNat - zz.1) ⟨0, Nat.zero_le _, by exact (fun k hk => absurd hk (Nat.not_lt_zero k))⟩ ?_ ?_
    · exact Imp.au hX
    rintro ⟨x, hix, hwx⟩
    simp only [go_sem, simprocAttr]
    rcases Nat.lt_or_ge x p.src.ob.toNat with hlx | hgx
    · repeat' (first | (with_reducible first | refine V_seq ?_ | refine V_block ?_ | refine V_skip ?_ | refine V_ret ?_ | refine V_exit ?_) | ((with_reducible refine V_cond ?_); simp only [go_sem, simprocAttr]) | ((first | refine V_region (by rw [hn]; rfl) ?_ | refine V_drawn hmix (by rw [hn]; rfl) ?_); intro K hK) | ((first | with_reducible refine evOps_n ?_ | ((with_reducible apply evOps_g); rfl) | with_reducible refine evOpsD_n ?_ | ((with_reducible apply evOpsD_g); rfl)); intro K hK; simp (contextual := true) only [go_sem, simprocAttr]) | with_reducible refine evOps_nil ?_ | ((with_reducible refine evOpsD_nil ?_ ?_); kernel_rfl) | ((with_reducible refine hK _ ?_); clear hK K) | (with_reducible first | refine And.intro ?_ ?_ | refine nxt_n ?_ | refine nxt_r ?_ | refine nxt_e ?_ | refine blk_n ?_ | refine blk_r ?_ | refine blk_same ?_ | refine blk_other (by decide) ?_ | refine noG_n ?_ | refine noG_r ?_ | refine noG_e ?_ | refine inR_mk ?_ ?_) | (refine fun (hc : (_ : Bool) = _) => ?_; try simp only [hcS] at hc))
      all_goals try exact om_
      refine V_loopK (G := {a : Nat // a ≤ p.tgt.co.length ∧ (∀ k, k < a → ∀ b, b < (p.tgt.co.getD k []).length → C2P p x k b)}) (fun ⟨a, _⟩ => [(165, iv a), (12, iv x)]) [0, 3, 4, 163, 164] (fun ⟨a, _⟩ => []) [] (fun zz => p.tgt.co.length - zz.1) ⟨0, Nat.zero_le _, by exact (fun k hk => absurd hk (Nat.not_lt_zero k))⟩ ?_ ?_
      · exact Imp.au hX
      rintro ⟨a, hia, hwa⟩
      simp only [go_sem, simprocAttr]
      rcases Nat.lt_or_ge a p.tgt.co.length with hla | hga
      · repeat' (first | (with_reducible first | refine V_seq ?_ | refine V_block ?_ | refine V_skip ?_ | refine V_ret ?_ | refine V_exit ?_) | ((with_reducible refine V_cond ?_); simp only [go_sem, simprocAttr]) | ((first | refine V_region (by rw [hn]; rfl) ?_ | refine V_drawn hmix (by rw [hn]; rfl) ?_); intro K hK) | ((first | with_reducible refine evOps_n ?_ | ((with_reducible apply evOps_g); rfl) | with_reducible refine evOpsD_n ?_ | ((with_reducible apply evOpsD_g); rfl)); intro K hK; simp (contextual := true) only [go_sem, simprocAttr]) | with_reducible refine evOps_nil ?_ | ((with_reducible refine evOpsD_nil ?_ ?_); kernel_rfl) | ((with_reducible refine hK _ ?_); clear hK K) | (with_reducible first | refine And.intro ?_ ?_ | refine nxt_n ?_ | refine nxt_r ?_ | refine nxt_e ?_ | refine blk_n ?_ | refine blk_r ?_ | refine blk_same ?_ | refine blk_other (by decide) ?_ | refine noG_n ?_ | refine noG_r ?_ | refine noG_e ?_ | refine inR_mk ?_ ?_) | (refine fun (hc : (_ : Bool) = _) => ?_; try simp only [hcS] at hc))
        all_goals try exact om_
        refine V_loopK (G := {b : Nat // b ≤ (p.tgt.co.getD a []).length ∧ (∀ k, k < b → C2P p x a k)}) (fun ⟨b, _⟩ => [(172, iv b), (12, iv x), (13, iv a), (14, .bor [] (ints (p.tgt.co.getD a [])))]) [0, 3, 4, 163, 164, 165, 170, 171] (fun ⟨b, _⟩ => []) [] (fun zz => (p.tgt.co.getD a []).length - zz.1) ⟨0, Nat.zero_le _, by exact (fun k hk => absurd hk (Nat.not_lt_zero k))⟩ ?_ ?_
        · exact Imp.au hX
        rintro ⟨b, hib, hwb⟩
        simp only [go_sem, simprocAttr]
        rcases Nat.lt_or_ge b (p.tgt.co.getD a []).length with hlb | hgb
        · obtain ⟨n1, n2⟩ := s.tgt.toShape.coe a (by omega)
          have n2 := n2 b (by omega)
          unfold Cat.Entry at n2
          by_cases hh : 0 ≤ (p.tgt.co.getD a []).getD b 0
          · have hc2 : p.tgt.C a b = (p.tgt.co.getD a []).getD b 0 := rfl
            rw [hc2] at n2
            obtain ⟨q1, ⟨q2, q3⟩, _⟩ : p.tgt.to.getD a 0 = p.tgt.fr.getD b 0 ∧ (0 ≤ (p.tgt.co.getD a []).getD b 0 ∧ (p.tgt.co.getD a []).getD b 0 < p.tgt.fr.length) ∧ True := by
              rcases n2 with ⟨n3, n4, _⟩ | ⟨_, n4⟩
              · exact ⟨n3, n4, trivial⟩
              · omega
            have g1 := w4 a (by omega)
            have g2 := w4 b (by omega)
            have g3 := w4 ((p.tgt.co.getD a []).getD b 0).toNat (by omega)
            have k1 := w6 a x (by omega) hlx
            have k2 := w6 b x (by omega) hlx
            have k3 := (w6 ((p.tgt.co.getD a []).getD b 0).toNat x (by omega) hlx).1
            have f1 := s.tgt.toShape.frw a (by omega)
            have f2 := s.tgt.toShape.frw b (by omega)
            have f4 := s.tgt.toShape.frw ((p.tgt.co.getD a []).getD b 0).toNat (by omega)
            have d1 := w2 x (p.tgt.fr.getD a 0).toNat hlx (by omega)
            have d2 := w2 x (p.tgt.fr.getD b 0).toNat hlx (by omega)
            have d3 := w2 x (p.tgt.fr.getD ((p.tgt.co.getD a []).getD b 0).toNat 0).toNat hlx (by omega)
            have hth := sp_then (f := p.H a x) (g := p.H b x) (by omega) (by omega) (fun i hi => by
              have h1 := k1.2 i hi
              rw [q1] at h1
              omega)
            have l1 : (p.H ((p.tgt.co.getD a []).getD b 0).toNat x).length ≤ 1048576 := by omega
            have l2 : (thn (p.H a x) (p.H b x)).length ≤ 1048576 := by rw [thn_len]; omega
            repeat' (first | (exfalso; omega) | (with_reducible first | refine V_seq ?_ | refine V_block ?_ | refine V_skip ?_ | refine V_ret ?_ | refine V_exit ?_) | ((with_reducible refine V_cond ?_); simp only [go_sem, simprocAttr]) | ((first | refine V_region (by rw [hn]; rfl) ?_ | refine V_drawn hmix (by rw [hn]; rfl) ?_); intro K hK) | ((first | with_reducible refine evOps_n ?_ | ((with_reducible apply evOps_g); rfl) | with_reducible refine evOpsD_n ?_ | ((with_reducible apply evOpsD_g); rfl)); intro K hK; simp (contextual := true) only [go_sem, simprocAttr]) | with_reducible refine evOps_nil ?_ | ((with_reducible refine evOpsD_nil ?_ ?_); kernel_rfl) | ((with_reducible refine hK _ ?_); clear hK K) | (with_reducible first | refine And.intro ?_ ?_ | refine nxt_n ?_ | refine nxt_r ?_ | refine nxt_e ?_ | refine blk_n ?_ | refine blk_r ?_ | refine blk_same ?_ | refine blk_other (by decide) ?_ | refine noG_n ?_ | refine noG_r ?_ | refine noG_e ?_ | refine inR_mk ?_ ?_) | ((with_reducible refine evCall_at 64 ?_); refine EvCall.mk (hth) cal_then [(0,0)] [] (by simp [go_sem] <;> (repeat' (first | rfl | constructor))) (by simp [go_sem] <;> (repeat' (first | rfl | constructor))) ?_; all_goals try simp only [go_sem, simprocAttr]) | ((with_reducible refine evCall_at 65 ?_); refine EvCall.rq (a := (sp_same ?_ ?_)) (b := cal_same) (c := ?_); all_goals try simp only [go_sem, simprocAttr]) | (refine fun (hc : (_ : Bool) = _) => ?_; try simp only [hcS] at hc))
            all_goals try exact om_
            all_goals try ((first | refine ret_auto ?_ | refine ret_auto' ?_); simp only [go_sem, simprocAttr, Try.f63]; exact bv_f (fun s => absurd (s.two x hlx a hla b hlb hh) (by assumption)))
            refine ⟨⟨b + 1, by omega, (by exact all_s hwb (fun _ => by assumption))⟩, by simp only; omega, Imp.ao hX⟩
          · repeat' (first | (exfalso; omega) | (with_reducible first | refine V_seq ?_ | refine V_block ?_ | refine V_skip ?_ | refine V_ret ?_ | refine V_exit ?_) | ((with_reducible refine V_cond ?_); simp only [go_sem, simprocAttr]) | ((first | refine V_region (by rw [hn]; rfl) ?_ | refine V_drawn hmix (by rw [hn]; rfl) ?_); intro K hK) | ((first | with_reducible refine evOps_n ?_ | ((with_reducible apply evOps_g); rfl) | with_reducible refine evOpsD_n ?_ | ((with_reducible apply evOpsD_g); rfl)); intro K hK; simp (contextual := true) only [go_sem, simprocAttr]) | with_reducible refine evOps_nil ?_ | ((with_reducible refine evOpsD_nil ?_ ?_); kernel_rfl) | ((with_reducible refine hK _ ?_); clear hK K) | (with_reducible first | refine And.intro ?_ ?_ | refine nxt_n ?_ | refine nxt_r ?_ | refine nxt_e ?_ | refine blk_n ?_ | refine blk_r ?_ | refine blk_same ?_ | refine blk_other (by decide) ?_ | refine noG_n ?_ | refine noG_r ?_ | refine noG_e ?_ | refine inR_mk ?_ ?_) | (refine fun (hc : (_ : Bool) = _) => ?_; try simp only [hcS] at hc))
            all_goals try exact om_
            refine ⟨⟨b + 1, by omega, (by exact all_s hwb (fun h => absurd h hh))⟩, by simp only; omega, Imp.ao hX⟩
        · have eb : b = (p.tgt.co.getD a []).length := by omega
          subst eb
          repeat' (first | (with_reducible first | refine V_seq ?_ | refine V_block ?_ | refine V_skip ?_ | refine V_ret ?_ | refine V_exit ?_) | ((with_reducible refine V_cond ?_); simp only [go_sem, simprocAttr]) | ((first | refine V_region (by rw [hn]; rfl) ?_ | refine V_drawn hmix (by rw [hn]; rfl) ?_); intro K hK) | ((first | with_reducible refine evOps_n ?_ | ((with_reducible apply evOps_g); rfl) | with_reducible refine evOpsD_n ?_ | ((with_reducible apply evOpsD_g); rfl)); intro K hK; simp (contextual := true) only [go_sem, simprocAttr]) | with_reducible refine evOps_nil ?_ | ((with_reducible refine evOpsD_nil ?_ ?_); kernel_rfl) | ((with_reducible refine hK _ ?_); clear hK K) | (with_reducible first | refine And.intro ?_ ?_ | refine nxt_n ?_ | refine nxt_r ?_ | refine nxt_e ?_ | refine blk_n ?_ | refine blk_r ?_ | refine blk_same ?_ | refine blk_other (by decide) ?_ | refine noG_n ?_ | refine noG_r ?_ | refine noG_e ?_ | refine inR_mk ?_ ?_) | (refine fun (hc : (_ : Bool) = _) => ?_; try simp only [hcS] at hc))
          all_goals try exact om_
          refine ⟨⟨a + 1, by omega, (by exact all_s hwa hwb)⟩, by simp only; omega, Imp.ao hX⟩
      · have ea : a = p.tgt.co.length := by omega
        subst ea
        repeat' (first | (with_reducible first | refine V_seq ?_ | refine V_block ?_ | refine V_skip ?_ | refine V_ret ?_ | refine V_exit ?_) | ((with_reducible refine V_cond ?_); simp only [go_sem, simprocAttr]) | ((first | refine V_region (by rw [hn]; rfl) ?_ | refine V_drawn hmix (by rw [hn]; rfl) ?_); intro K hK) | ((first | with_reducible refine evOps_n ?_ | ((with_reducible apply evOps_g); rfl) | with_reducible refine evOpsD_n ?_ | ((with_reducible apply evOpsD_g); rfl)); intro K hK; simp (contextual := true) only [go_sem, simprocAttr]) | with_reducible refine evOps_nil ?_ | ((with_reducible refine evOpsD_nil ?_ ?_); kernel_rfl) | ((with_reducible refine hK _ ?_); clear hK K) | (with_reducible first | refine And.intro ?_ ?_ | refine nxt_n ?_ | refine nxt_r ?_ | refine nxt_e ?_ | refine blk_n ?_ | refine blk_r ?_ | refine blk_same ?_ | refine blk_other (by decide) ?_ | refine noG_n ?_ | refine noG_r ?_ | refine noG_e ?_ | refine inR_mk ?_ ?_) | (refine fun (hc : (_ : Bool) = _) => ?_; try simp only [hcS] at hc))
        all_goals try exact om_
        refine ⟨⟨x + 1, by omega, (by exact all_s hwx hwa)⟩, by simp only; omega, Imp.ao hX⟩
    · have ex : x = p.src.ob.toNat := by omega
      subst ex
      repeat' (first | (with_reducible first | refine V_seq ?_ | refine V_block ?_ | refine V_skip ?_ | refine V_ret ?_ | refine V_exit ?_) | ((with_reducible refine V_cond ?_); simp only [go_sem, simprocAttr]) | ((first | refine V_region (by rw [hn]; rfl) ?_ | refine V_drawn hmix (by rw [hn]; rfl) ?_); intro K hK) | ((first | with_reducible refine evOps_n ?_ | ((with_reducible apply evOps_g); rfl) | with_reducible refine evOpsD_n ?_ | ((with_reducible apply evOpsD_g); rfl)); intro K hK; simp (contextual := true) only [go_sem, simprocAttr]) | with_reducible refine evOps_nil ?_ | ((with_reducible refine evOpsD_nil ?_ ?_); kernel_rfl) | ((with_reducible refine hK _ ?_); clear hK K) | (with_reducible first | refine And.intro ?_ ?_ | refine nxt_n ?_ | refine nxt_r ?_ | refine nxt_e ?_ | refine blk_n ?_ | refine blk_r ?_ | refine blk_same ?_ | refine blk_other (by decide) ?_ | refine noG_n ?_ | refine noG_r ?_ | refine noG_e ?_ | refine inR_mk ?_ ?_) | (refine fun (hc : (_ : Bool) = _) => ?_; try simp only [hcS] at hc))
      all_goals try exact om_
      all_goals ((first | refine ret_auto ?_ | refine ret_auto' ?_); simp only [go_sem, simprocAttr, Try.f63]; exact bv_t ⟨hwy, hwx⟩)
theorem cal_Profunctor_isProfunctor : Callable Try.prog 45 := ⟨_, Try.func45, rfl, rfl⟩
theorem sp_Profunctor_isProfunctor {p : Prof} (hb : PrB p) : Spec Try.prog 45 [.bptr [] (profD p)] [] (bv (dec (IsProf p))) [] := by
  have v1 := sp_Profunctor_isShape hb
  by_cases s : PrShape p
  · rw [dec_t s] at v1
    have v2 := sp_Profunctor_acts s
    by_cases hac : PrActs p
    · rw [dec_t hac] at v2
      have o1 := s.src.toShape.ob0
      have o2 := s.tgt.toShape.ob0
      have o3 := s.src.toShape.ob8
      have o4 := s.tgt.toShape.ob8
      have m1 := s.src.toShape.m40
      have m2 := s.tgt.toShape.m40
      have z2 := s.bel
      have z3 := s.hel
      have tl := s.src.toShape.tol
      have tl2 := s.tgt.toShape.tol
      obtain ⟨w1, w2, w3, w4, w5, w6⟩ := s.w
      refine spec_of_V (E := TE) 0 Try.func45 rfl (by simp [Try.f45]) fun X hn hX => ?_
      repeat' (first | (with_reducible first | refine V_seq ?_ | refine V_block ?_ | refine V_skip ?_ | refine V_ret ?_ | refine V_exit ?_) | ((with_reducible refine V_cond ?_); simp only [go_sem, simprocAttr]) | ((first | refine V_region (by rw [hn]; rfl) ?_ | refine V_drawn hmix (by rw [hn]; rfl) ?_); intro K hK) | ((first | with_reducible refine evOps_n ?_ | ((with_reducible apply evOps_g); rfl) | with_reducible refine evOpsD_n ?_ | ((with_reducible apply evOpsD_g); rfl)); intro K hK; simp (contextual := true) only [go_sem, simprocAttr]) | with_reducible refine evOps_nil ?_ | ((with_reducible refine evOpsD_nil ?_ ?_); kernel_rfl) | ((with_reducible refine hK _ ?_); clear hK K) | (with_reducible first | refine And.intro ?_ ?_ | refine nxt_n ?_ | refine nxt_r ?_ | refine nxt_e ?_ | refine blk_n ?_ | refine blk_r ?_ | refine blk_same ?_ | refine blk_other (by decide) ?_ | refine noG_n ?_ | refine noG_r ?_ | refine noG_e ?_ | refine inR_mk ?_ ?_) | ((with_reducible refine evCall_at 62 ?_); refine EvCall.mk (v1) cal_Profunctor_isShape [] [] (by simp [go_sem] <;> (repeat' (first | rfl | constructor))) (by simp [go_sem] <;> (repeat' (first | rfl | constructor))) ?_; all_goals try simp only [go_sem, simprocAttr]) | ((with_reducible refine evCall_at 63 ?_); refine EvCall.mk (v2) cal_Profunctor_acts [] [] (by simp [go_sem] <;> (repeat' (first | rfl | constructor))) (by simp [go_sem] <;> (repeat' (first | rfl | constructor))) ?_; all_goals try simp only [go_sem, simprocAttr]) | (refine fun (hc : (_ : Bool) = _) => ?_; try simp only [hcS] at hc))
      all_goals try exact om_
      refine V_loopK (G := {a : Nat // a ≤ p.bef.length ∧ (∀ k, k < a → ∀ b, b < p.beh.length → BmP p k b)}) (fun ⟨a, _⟩ => [(28, iv a)]) [0, 3, 4, 27] (fun ⟨a, _⟩ => []) [] (fun zz => p.bef.length - zz.1) ⟨0, Nat.zero_le _, by exact (fun k hk => absurd hk (Nat.not_lt_zero k))⟩ ?_ ?_
      · exact Imp.au hX
      rintro ⟨a, hia, hwa⟩
      simp only [go_sem, simprocAttr]
      rcases Nat.lt_or_ge a p.bef.length with hla | hga
      · repeat' (first | (with_reducible first | refine V_seq ?_ | refine V_block ?_ | refine V_skip ?_ | refine V_ret ?_ | refine V_exit ?_) | ((with_reducible refine V_cond ?_); simp only [go_sem, simprocAttr]) | ((first | refine V_region (by rw [hn]; rfl) ?_ | refine V_drawn hmix (by rw [hn]; rfl) ?_); intro K hK) | ((first | with_reducible refine evOps_n ?_ | ((with_reducible apply evOps_g); rfl) | with_reducible refine evOpsD_n ?_ | ((with_reducible apply evOpsD_g); rfl)); intro K hK; simp (contextual := true) only [go_sem, simprocAttr]) | with_reducible refine evOps_nil ?_ | ((with_reducible refine evOpsD_nil ?_ ?_); kernel_rfl) | ((with_reducible refine hK _ ?_); clear hK K) | (with_reducible first | refine And.intro ?_ ?_ | refine nxt_n ?_ | refine nxt_r ?_ | refine nxt_e ?_ | refine blk_n ?_ | refine blk_r ?_ | refine blk_same ?_ | refine blk_other (by decide) ?_ | refine noG_n ?_ | refine noG_r ?_ | refine noG_e ?_ | refine inR_mk ?_ ?_) | (refine fun (hc : (_ : Bool) = _) => ?_; try simp only [hcS] at hc))
        all_goals try exact om_
        refine V_loopK (G := {b : Nat // b ≤ p.beh.length ∧ (∀ k, k < b → BmP p a k)}) (fun ⟨b, _⟩ => [(36, iv b), (5, iv a)]) [0, 3, 4, 27, 28, 35] (fun ⟨b, _⟩ => []) [] (fun zz => p.beh.length - zz.1) ⟨0, Nat.zero_le _, by exact (fun k hk => absurd hk (Nat.not_lt_zero k))⟩ ?_ ?_
        · exact Imp.au hX
        rintro ⟨b, hib, hwb⟩
        simp only [go_sem, simprocAttr]
        rcases Nat.lt_or_ge b p.beh.length with hlb | hgb
        · have f1 := s.src.toShape.frw a (by omega)
          have f2 := s.src.toShape.tow a (by omega)
          have f3 := s.tgt.toShape.frw b (by omega)
          have f4 := s.tgt.toShape.tow b (by omega)
          have g1 := w3 a (by omega)
          have g2 := w4 b (by omega)
          have k1 := w5 a (p.tgt.fr.getD b 0).toNat (by omega) (by omega)
          have k2 := w5 a (p.tgt.to.getD b 0).toNat (by omega) (by omega)
          have k3 := w6 b (p.src.fr.getD a 0).toNat (by omega) (by omega)
          have k4 := w6 b (p.src.to.getD a 0).toNat (by omega) (by omega)
          have d1 := w2 (p.src.fr.getD a 0).toNat (p.tgt.fr.getD b 0).toNat (by omega) (by omega)
          have d2 := w2 (p.src.to.getD a 0).toNat (p.tgt.fr.getD b 0).toNat (by omega) (by omega)
          have d3 := w2 (p.src.to.getD a 0).toNat (p.tgt.to.getD b 0).toNat (by omega) (by omega)
          have h1 := sp_then (f := p.B a (p.tgt.fr.getD b 0).toNat) (g := p.H b (p.src.fr.getD a 0).toNat) (by omega) (by omega) (fun i hi => by have := k1.2 i hi; omega)
          have h2 := sp_then (f := p.H b (p.src.to.getD a 0).toNat) (g := p.B a (p.tgt.to.getD b 0).toNat) (by omega) (by omega) (fun i hi => by have := k4.2 i hi; omega)
          have l1 := thn_len (p.B a (p.tgt.fr.getD b 0).toNat) (p.H b (p.src.fr.getD a 0).toNat)
          have l2 := thn_len (p.H b (p.src.to.getD a 0).toNat) (p.B a (p.tgt.to.getD b 0).toNat)
          have l3 : (thn (p.B a (p.tgt.fr.getD b 0).toNat) (p.H b (p.src.fr.getD a 0).toNat)).length ≤ 1048576 := by omega
          have l4 : (thn (p.H b (p.src.to.getD a 0).toNat) (p.B a (p.tgt.to.getD b 0).toNat)).length ≤ 1048576 := by omega
          repeat' (first | (with_reducible first | refine V_seq ?_ | refine V_block ?_ | refine V_skip ?_ | refine V_ret ?_ | refine V_exit ?_) | ((with_reducible refine V_cond ?_); simp only [go_sem, simprocAttr]) | ((first | refine V_region (by rw [hn]; rfl) ?_ | refine V_drawn hmix (by rw [hn]; rfl) ?_); intro K hK) | ((first | with_reducible refine evOps_n ?_ | ((with_reducible apply evOps_g); rfl) | with_reducible refine evOpsD_n ?_ | ((with_reducible apply evOpsD_g); rfl)); intro K hK; simp (contextual := true) only [go_sem, simprocAttr]) | with_reducible refine evOps_nil ?_ | ((with_reducible refine evOpsD_nil ?_ ?_); kernel_rfl) | ((with_reducible refine hK _ ?_); clear hK K) | (with_reducible first | refine And.intro ?_ ?_ | refine nxt_n ?_ | refine nxt_r ?_ | refine nxt_e ?_ | refine blk_n ?_ | refine blk_r ?_ | refine blk_same ?_ | refine blk_other (by decide) ?_ | refine noG_n ?_ | refine noG_r ?_ | refine noG_e ?_ | refine inR_mk ?_ ?_) | ((with_reducible refine (id ?_ : EvCall _ _ [.bor [] (ints (p.B a (p.tgt.fr.getD b 0).toNat)),_] _ _)); refine EvCall.mk (h1) cal_then [(0,0)] [] (by simp [go_sem] <;> (repeat' (first | rfl | constructor))) (by simp [go_sem] <;> (repeat' (first | rfl | constructor))) ?_; all_goals try simp only [go_sem, simprocAttr]) | ((with_reducible refine (id ?_ : EvCall _ _ [.bor [] (ints (p.H b (p.src.to.getD a 0).toNat)),_] _ _)); refine EvCall.mk (h2) cal_then [(0,1)] [] (by simp [go_sem] <;> (repeat' (first | rfl | constructor))) (by simp [go_sem] <;> (repeat' (first | rfl | constructor))) ?_; all_goals try simp only [go_sem, simprocAttr]) | ((with_reducible refine evCall_at 65 ?_); refine EvCall.rq (a := (sp_same ?_ ?_)) (b := cal_same) (c := ?_); all_goals try simp only [go_sem, simprocAttr]) | (refine fun (hc : (_ : Bool) = _) => ?_; try simp only [hcS] at hc))
          all_goals try exact om_
          all_goals try ((first | refine ret_auto ?_ | refine ret_auto' ?_); simp only [go_sem, simprocAttr, Try.f45]; exact bv_f (fun s => absurd (s.bim a hla b hlb) (by assumption)))
          refine ⟨⟨b + 1, by omega, (by exact all_s hwb (by assumption))⟩, by simp only; omega, Imp.ao hX⟩
        · have eb : b = p.beh.length := by omega
          subst eb
          repeat' (first | (with_reducible first | refine V_seq ?_ | refine V_block ?_ | refine V_skip ?_ | refine V_ret ?_ | refine V_exit ?_) | ((with_reducible refine V_cond ?_); simp only [go_sem, simprocAttr]) | ((first | refine V_region (by rw [hn]; rfl) ?_ | refine V_drawn hmix (by rw [hn]; rfl) ?_); intro K hK) | ((first | with_reducible refine evOps_n ?_ | ((with_reducible apply evOps_g); rfl) | with_reducible refine evOpsD_n ?_ | ((with_reducible apply evOpsD_g); rfl)); intro K hK; simp (contextual := true) only [go_sem, simprocAttr]) | with_reducible refine evOps_nil ?_ | ((with_reducible refine evOpsD_nil ?_ ?_); kernel_rfl) | ((with_reducible refine hK _ ?_); clear hK K) | (with_reducible first | refine And.intro ?_ ?_ | refine nxt_n ?_ | refine nxt_r ?_ | refine nxt_e ?_ | refine blk_n ?_ | refine blk_r ?_ | refine blk_same ?_ | refine blk_other (by decide) ?_ | refine noG_n ?_ | refine noG_r ?_ | refine noG_e ?_ | refine inR_mk ?_ ?_) | (refine fun (hc : (_ : Bool) = _) => ?_; try simp only [hcS] at hc))
          all_goals try exact om_
          refine ⟨⟨a + 1, by omega, (by exact all_s hwa hwb)⟩, by simp only; omega, Imp.ao hX⟩
      · have ea : a = p.bef.length := by omega
        subst ea
        repeat' (first | (with_reducible first | refine V_seq ?_ | refine V_block ?_ | refine V_skip ?_ | refine V_ret ?_ | refine V_exit ?_) | ((with_reducible refine V_cond ?_); simp only [go_sem, simprocAttr]) | ((first | refine V_region (by rw [hn]; rfl) ?_ | refine V_drawn hmix (by rw [hn]; rfl) ?_); intro K hK) | ((first | with_reducible refine evOps_n ?_ | ((with_reducible apply evOps_g); rfl) | with_reducible refine evOpsD_n ?_ | ((with_reducible apply evOpsD_g); rfl)); intro K hK; simp (contextual := true) only [go_sem, simprocAttr]) | with_reducible refine evOps_nil ?_ | ((with_reducible refine evOpsD_nil ?_ ?_); kernel_rfl) | ((with_reducible refine hK _ ?_); clear hK K) | (with_reducible first | refine And.intro ?_ ?_ | refine nxt_n ?_ | refine nxt_r ?_ | refine nxt_e ?_ | refine blk_n ?_ | refine blk_r ?_ | refine blk_same ?_ | refine blk_other (by decide) ?_ | refine noG_n ?_ | refine noG_r ?_ | refine noG_e ?_ | refine inR_mk ?_ ?_) | (refine fun (hc : (_ : Bool) = _) => ?_; try simp only [hcS] at hc))
        all_goals try exact om_
        all_goals ((first | refine ret_auto ?_ | refine ret_auto' ?_); simp only [go_sem, simprocAttr, Try.f45]; exact bv_t ⟨s, hac, hwa⟩)
    · rw [dec_f hac] at v2
      refine spec_of_V (E := TE) 0 Try.func45 rfl (by simp [Try.f45]) fun X hn hX => ?_
      repeat' (first | (with_reducible first | refine V_seq ?_ | refine V_block ?_ | refine V_skip ?_ | refine V_ret ?_ | refine V_exit ?_) | ((with_reducible refine V_cond ?_); simp only [go_sem, simprocAttr]) | ((first | refine V_region (by rw [hn]; rfl) ?_ | refine V_drawn hmix (by rw [hn]; rfl) ?_); intro K hK) | ((first | with_reducible refine evOps_n ?_ | ((with_reducible apply evOps_g); rfl) | with_reducible refine evOpsD_n ?_ | ((with_reducible apply evOpsD_g); rfl)); intro K hK; simp (contextual := true) only [go_sem, simprocAttr]) | with_reducible refine evOps_nil ?_ | ((with_reducible refine evOpsD_nil ?_ ?_); kernel_rfl) | ((with_reducible refine hK _ ?_); clear hK K) | (with_reducible first | refine And.intro ?_ ?_ | refine nxt_n ?_ | refine nxt_r ?_ | refine nxt_e ?_ | refine blk_n ?_ | refine blk_r ?_ | refine blk_same ?_ | refine blk_other (by decide) ?_ | refine noG_n ?_ | refine noG_r ?_ | refine noG_e ?_ | refine inR_mk ?_ ?_) | ((with_reducible refine evCall_at 62 ?_); refine EvCall.mk (v1) cal_Profunctor_isShape [] [] (by simp [go_sem] <;> (repeat' (first | rfl | constructor))) (by simp [go_sem] <;> (repeat' (first | rfl | constructor))) ?_; all_goals try simp only [go_sem, simprocAttr]) | ((with_reducible refine evCall_at 63 ?_); refine EvCall.mk (v2) cal_Profunctor_acts [] [] (by simp [go_sem] <;> (repeat' (first | rfl | constructor))) (by simp [go_sem] <;> (repeat' (first | rfl | constructor))) ?_; all_goals try simp only [go_sem, simprocAttr]) | (refine fun (hc : (_ : Bool) = _) => ?_; try simp only [hcS] at hc))
      all_goals try exact om_
      all_goals ((first | refine ret_auto ?_ | refine ret_auto' ?_); simp only [go_sem, simprocAttr, Try.f45]; exact bv_f fun q => hac q.acts)
  · rw [dec_f s] at v1
    refine spec_of_V (E := TE) 0 Try.func45 rfl (by simp [Try.f45]) fun X hn hX => ?_
    repeat' (first | (with_reducible first | refine V_seq ?_ | refine V_block ?_ | refine V_skip ?_ | refine V_ret ?_ | refine V_exit ?_) | ((with_reducible refine V_cond ?_); simp only [go_sem, simprocAttr]) | ((first | refine V_region (by rw [hn]; rfl) ?_ | refine V_drawn hmix (by rw [hn]; rfl) ?_); intro K hK) | ((first | with_reducible refine evOps_n ?_ | ((with_reducible apply evOps_g); rfl) | with_reducible refine evOpsD_n ?_ | ((with_reducible apply evOpsD_g); rfl)); intro K hK; simp (contextual := true) only [go_sem, simprocAttr]) | with_reducible refine evOps_nil ?_ | ((with_reducible refine evOpsD_nil ?_ ?_); kernel_rfl) | ((with_reducible refine hK _ ?_); clear hK K) | (with_reducible first | refine And.intro ?_ ?_ | refine nxt_n ?_ | refine nxt_r ?_ | refine nxt_e ?_ | refine blk_n ?_ | refine blk_r ?_ | refine blk_same ?_ | refine blk_other (by decide) ?_ | refine noG_n ?_ | refine noG_r ?_ | refine noG_e ?_ | refine inR_mk ?_ ?_) | ((with_reducible refine evCall_at 62 ?_); refine EvCall.mk (v1) cal_Profunctor_isShape [] [] (by simp [go_sem] <;> (repeat' (first | rfl | constructor))) (by simp [go_sem] <;> (repeat' (first | rfl | constructor))) ?_; all_goals try simp only [go_sem, simprocAttr]) | (refine fun (hc : (_ : Bool) = _) => ?_; try simp only [hcS] at hc))
    all_goals try exact om_
    all_goals ((first | refine ret_auto ?_ | refine ret_auto' ?_); simp only [go_sem, simprocAttr, Try.f45]; exact bv_f fun q => s q.shape)
end Go.Eng
