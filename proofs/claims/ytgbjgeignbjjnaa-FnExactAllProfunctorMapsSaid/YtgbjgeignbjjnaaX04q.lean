/- Profunctors, by the reference: the laws. -/
import Derived.Test.YtgbjgeignbjjnaaX03q
set_option linter.unusedSimpArgs false
set_option linter.unusedVariables false
set_option maxRecDepth 100000
set_option maxHeartbeats 16000000
namespace Go.Eng
open Go Go.Proofs Go.Cats
def _root_.Go.Cats.BmA (p : Prof) : Prop := ∀ a, a < p.src.fr.length → ∀ b, b < p.tgt.fr.length → BmP p a b
theorem cal_l22Laws : Callable Try.prog 56 := ⟨_, Try.func56, rfl, rfl⟩
theorem sp_l22Laws {p : Prof} (s : PrShape p) : Spec Try.prog 56 [profV p] [] (bv (dec (PrActs p ∧ BmA p))) [] := by
  have o1 := s.src.toShape.ob0
  have o2 := s.tgt.toShape.ob0
  have o3 := s.src.toShape.ob8
  have o4 := s.tgt.toShape.ob8
  have c1 := s.src.toShape.col
  have c2 := s.tgt.toShape.col
  have i1 := s.src.toShape.idl
  have i2 := s.tgt.toShape.idl
  have m1 := s.src.toShape.m40
  have m2 := s.tgt.toShape.m40
  have z1 := s.szl
  have z2 := s.bel
  have z3 := s.hel
  have tl := s.src.toShape.tol
  have tl2 := s.tgt.toShape.tol
  obtain ⟨w1, w2, w3, w4, w5, w6⟩ := s.w
  have cl1 : ∀ a, a < p.src.fr.length → (p.src.co.getD a []).length = p.src.fr.length := fun a ha => (s.src.toShape.coe a ha).1
  have cl2 : ∀ a, a < p.tgt.fr.length → (p.tgt.co.getD a []).length = p.tgt.fr.length := fun a ha => (s.tgt.toShape.coe a ha).1
  refine spec_of_V (E := TE) 0 Try.func56 rfl (by simp [Try.f56]) fun X hn hX => ?_
  repeat' (first | (with_reducible first | refine V_seq ?_ | refine V_block ?_ | refine V_skip ?_ | refine V_ret ?_ | refine V_exit ?_) | ((with_reducible refine V_cond ?_); simp only [go_sem, simprocAttr]) | ((first | refine V_region (by rw [hn]; rfl) ?_ | refine V_drawn hmix (by rw [hn]; rfl) ?_); intro K hK) | ((first | with_reducible refine evOps_n ?_ | ((with_reducible apply evOps_g); rfl) | with_reducible refine evOpsD_n ?_ | ((with_reducible apply evOpsD_g); rfl)); intro K hK; simp (contextual := true) only [go_sem, simprocAttr]) | with_reducible refine evOps_nil ?_ | ((with_reducible refine evOpsD_nil ?_ ?_); kernel_rfl) | ((with_reducible refine hK _ ?_); clear hK K) | (with_reducible first | refine And.intro ?_ ?_ | refine nxt_n ?_ | refine nxt_r ?_ | refine nxt_e ?_ | refine blk_n ?_ | refine blk_r ?_ | refine blk_same ?_ | refine blk_other (by decide) ?_ | refine noG_n ?_ | refine noG_r ?_ | refine noG_e ?_ | refine inR_mk ?_ ?_) | (refine fun (hc : (_ : Bool) = _) => ?_; try simp only [hcS] at hc))
  all_goals try exact om_
  refine V_loopK (G := {y : Nat // y ≤ p.tgt.ob.toNat ∧ (∀ k, k < y → Ac1 p k)}) (fun ⟨y, _⟩ => [(5, iv y)]) [1, 3, 4] (fun ⟨y, _⟩ => []) [] (fun zz => p.tgt.ob.toNat - zz.1) ⟨0, Nat.zero_le _, by exact (fun k hk => absurd hk (Nat.not_lt_zero k))⟩ ?_ ?_
  · exact Imp.au hX
  rintro ⟨y, hiy, hwy⟩
  simp only [go_sem, simprocAttr]
  rcases Nat.lt_or_ge y p.tgt.ob.toNat with hly | hgy
  · repeat' (first | (with_reducible first | refine V_seq ?_ | refine V_block ?_ | refine V_skip ?_ | refine V_ret ?_ | refine V_exit ?_) | ((with_reducible refine V_cond ?_); simp only [go_sem, simprocAttr]) | ((first | refine V_region (by rw [hn]; rfl) ?_ | refine V_drawn hmix (by rw [hn]; rfl) ?_); intro K hK) | ((first | with_reducible refine evOps_n ?_ | ((with_reducible apply evOps_g); rfl) | with_reducible refine evOpsD_n ?_ | ((with_reducible apply evOpsD_g); rfl)); intro K hK; simp (contextual := true) only [go_sem, simprocAttr]) | with_reducible refine evOps_nil ?_ | ((with_reducible refine evOpsD_nil ?_ ?_); kernel_rfl) | ((with_reducible refine hK _ ?_); clear hK K) | (with_reducible first | refine And.intro ?_ ?_ | refine nxt_n ?_ | refine nxt_r ?_ | refine nxt_e ?_ | refine blk_n ?_ | refine blk_r ?_ | refine blk_same ?_ | refine blk_other (by decide) ?_ | refine noG_n ?_ | refine noG_r ?_ | refine noG_e ?_ | refine inR_mk ?_ ?_) | (refine fun (hc : (_ : Bool) = _) => ?_; try simp only [hcS] at hc))
    all_goals try exact om_
    refine V_loopK (G := {x : Nat // x ≤ p.src.ob.toNat ∧ (∀ k, k < x → IdP p y k)}) (fun ⟨x, _⟩ => [(6, iv x), (5, iv y)]) [1, 3, 4] (fun ⟨x, _⟩ => []) [] (fun zz => p.src.ob.toNat - zz.1) ⟨0, Nat.zero_le _, by exact (fun k hk => absurd hk (Nat.not_lt_zero k))⟩ ?_ ?_
    · exact Imp.au hX
    rintro ⟨x, hix, hwx⟩
    simp only [go_sem, simprocAttr]
    rcases Nat.lt_or_ge x p.src.ob.toNat with hlx | hgx
    · have e1 := s.src.toShape.idw x (by omega)
      have e2 := s.tgt.toShape.idw y (by omega)
      obtain ⟨g1, g2⟩ := w2 x y hlx hly
      have g4 := w3 (p.src.id.getD x 0).toNat (by omega)
      have g5 := w4 (p.tgt.id.getD y 0).toNat (by omega)
      have g6 := (w5 (p.src.id.getD x 0).toNat y (by omega) hly).1
      have g7 := (w6 (p.tgt.id.getD y 0).toNat x (by omega) hlx).1
      have u1 := (s.src.toShape.ide x (by omega)).2
      have u2 := (s.tgt.toShape.ide y (by omega)).1
      have u1 : p.src.to.getD (p.src.id.getD x 0).toNat 0 = x := u1
      have u2 : p.tgt.fr.getD (p.tgt.id.getD y 0).toNat 0 = y := u2
      rw [u1, Int.toNat_natCast] at g6
      rw [u2, Int.toNat_natCast] at g7
      have n1 := calm_nums g6
      have n2 := calm_nums g7
      have h1 := sp_l22Calm (f := p.B (p.src.id.getD x 0).toNat y) (by omega)
      have h2 := sp_l22Calm (f := p.H (p.tgt.id.getD y 0).toNat x) (by omega)
      repeat' (first | (with_reducible first | refine V_seq ?_ | refine V_block ?_ | refine V_skip ?_ | refine V_ret ?_ | refine V_exit ?_) | ((with_reducible refine V_cond ?_); simp only [go_sem, simprocAttr]) | ((first | refine V_region (by rw [hn]; rfl) ?_ | refine V_drawn hmix (by rw [hn]; rfl) ?_); intro K hK) | ((first | with_reducible refine evOps_n ?_ | ((with_reducible apply evOps_g); rfl) | with_reducible refine evOpsD_n ?_ | ((with_reducible apply evOpsD_g); rfl)); intro K hK; simp (contextual := true) only [go_sem, simprocAttr]) | with_reducible refine evOps_nil ?_ | ((with_reducible refine evOpsD_nil ?_ ?_); kernel_rfl) | ((with_reducible refine hK _ ?_); clear hK K) | (with_reducible first | refine And.intro ?_ ?_ | refine nxt_n ?_ | refine nxt_r ?_ | refine nxt_e ?_ | refine blk_n ?_ | refine blk_r ?_ | refine blk_same ?_ | refine blk_other (by decide) ?_ | refine noG_n ?_ | refine noG_r ?_ | refine noG_e ?_ | refine inR_mk ?_ ?_) | ((with_reducible refine (id ?_ : EvCall _ _ [.bor [] (ints (p.B (p.src.id.getD x 0).toNat y))] _ _)); refine EvCall.mk (h1) cal_l22Calm [] [] (by simp [go_sem] <;> (repeat' (first | rfl | constructor))) (by simp [go_sem] <;> (repeat' (first | rfl | constructor))) ?_; all_goals try simp only [go_sem, simprocAttr]) | ((with_reducible refine (id ?_ : EvCall _ _ [.bor [] (ints (p.H (p.tgt.id.getD y 0).toNat x))] _ _)); refine EvCall.mk (h2) cal_l22Calm [] [] (by simp [go_sem] <;> (repeat' (first | rfl | constructor))) (by simp [go_sem] <;> (repeat' (first | rfl | constructor))) ?_; all_goals try simp only [go_sem, simprocAttr]) | (refine fun (hc : (_ : Bool) = _) => ?_; try simp only [hcS] at hc))
      all_goals try exact om_
      all_goals try ((first | refine ret_auto ?_ | refine ret_auto' ?_); simp only [go_sem, simprocAttr, Try.f56]; exact bv_f (fun q => absurd (n1.2 ((q.1.one y hly).1 x (by omega)).1) (by assumption)))
      all_goals try ((first | refine ret_auto ?_ | refine ret_auto' ?_); simp only [go_sem, simprocAttr, Try.f56]; exact bv_f (fun q => absurd (n2.2 ((q.1.one y hly).1 x (by omega)).2) (by assumption)))
      refine ⟨⟨x + 1, by omega, (by exact all_s hwx ⟨n1.1 (by assumption), n2.1 (by assumption)⟩)⟩, by simp only; omega, Imp.ao hX⟩
    · have ex : x = p.src.ob.toNat := by omega
      subst ex
      repeat' (first | (with_reducible first | refine V_seq ?_ | refine V_block ?_ | refine V_skip ?_ | refine V_ret ?_ | refine V_exit ?_) | ((with_reducible refine V_cond ?_); simp only [go_sem, simprocAttr]) | ((first | refine V_region (by rw [hn]; rfl) ?_ | refine V_drawn hmix (by rw [hn]; rfl) ?_); intro K hK) | ((first | with_reducible refine evOps_n ?_ | ((with_reducible apply evOps_g); rfl) | with_reducible refine evOpsD_n ?_ | ((with_reducible apply evOpsD_g); rfl)); intro K hK; simp (contextual := true) only [go_sem, simprocAttr]) | with_reducible refine evOps_nil ?_ | ((with_reducible refine evOpsD_nil ?_ ?_); kernel_rfl) | ((with_reducible refine hK _ ?_); clear hK K) | (with_reducible first | refine And.intro ?_ ?_ | refine nxt_n ?_ | refine nxt_r ?_ | refine nxt_e ?_ | refine blk_n ?_ | refine blk_r ?_ | refine blk_same ?_ | refine blk_other (by decide) ?_ | refine noG_n ?_ | refine noG_r ?_ | refine noG_e ?_ | refine inR_mk ?_ ?_) | (refine fun (hc : (_ : Bool) = _) => ?_; try simp only [hcS] at hc))
      all_goals try exact om_
      refine V_loopK (G := {a : Nat // a ≤ p.src.fr.length ∧ (∀ k, k < a → ∀ b, b < p.src.fr.length → C1P p y k b)}) (fun ⟨a, _⟩ => [(7, iv a), (5, iv y)]) [1, 3, 4, 49, 50, 51, 52, 53, 54, 55, 56, 57, 58, 59, 60, 61, 62] (fun ⟨a, _⟩ => []) [] (fun zz => p.src.fr.length - zz.1) ⟨0, Nat.zero_le _, by exact (fun k hk => absurd hk (Nat.not_lt_zero k))⟩ ?_ ?_
      · exact Imp.au hX
      rintro ⟨a, hia, hwa⟩
      simp only [go_sem, simprocAttr]
      rcases Nat.lt_or_ge a p.src.fr.length with hla | hga
      · have cla := cl1 a hla
        repeat' (first | (with_reducible first | refine V_seq ?_ | refine V_block ?_ | refine V_skip ?_ | refine V_ret ?_ | refine V_exit ?_) | ((with_reducible refine V_cond ?_); simp only [go_sem, simprocAttr]) | ((first | refine V_region (by rw [hn]; rfl) ?_ | refine V_drawn hmix (by rw [hn]; rfl) ?_); intro K hK) | ((first | with_reducible refine evOps_n ?_ | ((with_reducible apply evOps_g); rfl) | with_reducible refine evOpsD_n ?_ | ((with_reducible apply evOpsD_g); rfl)); intro K hK; simp (contextual := true) only [go_sem, simprocAttr]) | with_reducible refine evOps_nil ?_ | ((with_reducible refine evOpsD_nil ?_ ?_); kernel_rfl) | ((with_reducible refine hK _ ?_); clear hK K) | (with_reducible first | refine And.intro ?_ ?_ | refine nxt_n ?_ | refine nxt_r ?_ | refine nxt_e ?_ | refine blk_n ?_ | refine blk_r ?_ | refine blk_same ?_ | refine blk_other (by decide) ?_ | refine noG_n ?_ | refine noG_r ?_ | refine noG_e ?_ | refine inR_mk ?_ ?_) | (refine fun (hc : (_ : Bool) = _) => ?_; try simp only [hcS] at hc))
        all_goals try exact om_
        refine V_loopK (G := {b : Nat // b ≤ p.src.fr.length ∧ (∀ k, k < b → C1P p y a k)}) (fun ⟨b, _⟩ => [(8, iv b), (5, iv y), (7, iv a)]) [1, 3, 4, 49, 50, 51, 52, 53, 54, 55, 56, 57, 58, 59, 60, 61, 62] (fun ⟨b, _⟩ => []) [] (fun zz => p.src.fr.length - zz.1) ⟨0, Nat.zero_le _, by exact (fun k hk => absurd hk (Nat.not_lt_zero k))⟩ ?_ ?_
        · exact Imp.au hX
        rintro ⟨b, hib, hwb⟩
        simp only [go_sem, simprocAttr]
        rcases Nat.lt_or_ge b p.src.fr.length with hlb | hgb
        · obtain ⟨n1, n2⟩ := s.src.toShape.coe a (by omega)
          have n2 := n2 b (by omega)
          unfold Cat.Entry at n2
          by_cases hh : 0 ≤ (p.src.co.getD a []).getD b 0
          · have hc2 : p.src.C a b = (p.src.co.getD a []).getD b 0 := rfl
            rw [hc2] at n2
            obtain ⟨q1, ⟨q2, q3⟩, _⟩ : p.src.to.getD a 0 = p.src.fr.getD b 0 ∧ (0 ≤ (p.src.co.getD a []).getD b 0 ∧ (p.src.co.getD a []).getD b 0 < p.src.fr.length) ∧ True := by
              rcases n2 with ⟨n3, n4, _⟩ | ⟨_, n4⟩
              · exact ⟨n3, n4, trivial⟩
              · omega
            have g1 := w3 a (by omega)
            have g2 := w3 b (by omega)
            have g3 := w3 ((p.src.co.getD a []).getD b 0).toNat (by omega)
            have k1 := w5 a y (by omega) hly
            have k2 := w5 b y (by omega) hly
            have k3 := (w5 ((p.src.co.getD a []).getD b 0).toNat y (by omega) hly).1
            have f1 := s.src.toShape.frw b (by omega)
            have f2 := s.src.toShape.tow a (by omega)
            have f3 := s.src.toShape.tow b (by omega)
            have f4 := s.src.toShape.tow ((p.src.co.getD a []).getD b 0).toNat (by omega)
            have d1 := w2 (p.src.to.getD a 0).toNat y (by omega) hly
            have d2 := w2 (p.src.to.getD b 0).toNat y (by omega) hly
            have d3 := w2 (p.src.to.getD ((p.src.co.getD a []).getD b 0).toNat 0).toNat y (by omega) hly
            have hth := sp_l01Then (f := p.B b y) (g := p.B a y) (by omega) (by omega) (fun i hi => by
              have h1 := k2.2 i hi
              rw [← q1] at h1
              omega)
            have l1 : (p.B ((p.src.co.getD a []).getD b 0).toNat y).length ≤ 1048576 := by omega
            have l2 : (thn (p.B b y) (p.B a y)).length ≤ 1048576 := by rw [thn_len]; omega
            repeat' (first | (exfalso; omega) | (with_reducible first | refine V_seq ?_ | refine V_block ?_ | refine V_skip ?_ | refine V_ret ?_ | refine V_exit ?_) | ((with_reducible refine V_cond ?_); simp only [go_sem, simprocAttr]) | ((first | refine V_region (by rw [hn]; rfl) ?_ | refine V_drawn hmix (by rw [hn]; rfl) ?_); intro K hK) | ((first | with_reducible refine evOps_n ?_ | ((with_reducible apply evOps_g); rfl) | with_reducible refine evOpsD_n ?_ | ((with_reducible apply evOpsD_g); rfl)); intro K hK; simp (contextual := true) only [go_sem, simprocAttr]) | with_reducible refine evOps_nil ?_ | ((with_reducible refine evOpsD_nil ?_ ?_); kernel_rfl) | ((with_reducible refine hK _ ?_); clear hK K) | (with_reducible first | refine And.intro ?_ ?_ | refine nxt_n ?_ | refine nxt_r ?_ | refine nxt_e ?_ | refine blk_n ?_ | refine blk_r ?_ | refine blk_same ?_ | refine blk_other (by decide) ?_ | refine noG_n ?_ | refine noG_r ?_ | refine noG_e ?_ | refine inR_mk ?_ ?_) | ((with_reducible refine evCall_at 74 ?_); refine EvCall.mk (hth) cal_l01Then [(0,3)] [] (by simp [go_sem] <;> (repeat' (first | rfl | constructor))) (by simp [go_sem] <;> (repeat' (first | rfl | constructor))) ?_; all_goals try simp only [go_sem, simprocAttr]) | ((with_reducible refine evCall_at 57 ?_); refine EvCall.rq (a := (sp_l01Same ?_ ?_)) (b := cal_l01Same) (c := ?_); all_goals try simp only [go_sem, simprocAttr]) | (refine fun (hc : (_ : Bool) = _) => ?_; try simp only [hcS] at hc))
            all_goals try exact om_
            all_goals try ((first | refine ret_auto ?_ | refine ret_auto' ?_); simp only [go_sem, simprocAttr, Try.f56]; exact bv_f (fun q => absurd ((q.1.one y hly).2 a (by omega) b (by omega) hh) (by assumption)))
            refine ⟨⟨b + 1, by omega, (by exact all_s hwb (fun _ => by assumption))⟩, by simp only; omega, Imp.ao hX⟩
          · repeat' (first | (exfalso; omega) | (with_reducible first | refine V_seq ?_ | refine V_block ?_ | refine V_skip ?_ | refine V_ret ?_ | refine V_exit ?_) | ((with_reducible refine V_cond ?_); simp only [go_sem, simprocAttr]) | ((first | refine V_region (by rw [hn]; rfl) ?_ | refine V_drawn hmix (by rw [hn]; rfl) ?_); intro K hK) | ((first | with_reducible refine evOps_n ?_ | ((with_reducible apply evOps_g); rfl) | with_reducible refine evOpsD_n ?_ | ((with_reducible apply evOpsD_g); rfl)); intro K hK; simp (contextual := true) only [go_sem, simprocAttr]) | with_reducible refine evOps_nil ?_ | ((with_reducible refine evOpsD_nil ?_ ?_); kernel_rfl) | ((with_reducible refine hK _ ?_); clear hK K) | (with_reducible first | refine And.intro ?_ ?_ | refine nxt_n ?_ | refine nxt_r ?_ | refine nxt_e ?_ | refine blk_n ?_ | refine blk_r ?_ | refine blk_same ?_ | refine blk_other (by decide) ?_ | refine noG_n ?_ | refine noG_r ?_ | refine noG_e ?_ | refine inR_mk ?_ ?_) | (refine fun (hc : (_ : Bool) = _) => ?_; try simp only [hcS] at hc))
            all_goals try exact om_
            refine ⟨⟨b + 1, by omega, (by exact all_s hwb (fun h => absurd h hh))⟩, by simp only; omega, Imp.ao hX⟩
        · have eb : b = p.src.fr.length := by omega
          subst eb
          repeat' (first | (with_reducible first | refine V_seq ?_ | refine V_block ?_ | refine V_skip ?_ | refine V_ret ?_ | refine V_exit ?_) | ((with_reducible refine V_cond ?_); simp only [go_sem, simprocAttr]) | ((first | refine V_region (by rw [hn]; rfl) ?_ | refine V_drawn hmix (by rw [hn]; rfl) ?_); intro K hK) | ((first | with_reducible refine evOps_n ?_ | ((with_reducible apply evOps_g); rfl) | with_reducible refine evOpsD_n ?_ | ((with_reducible apply evOpsD_g); rfl)); intro K hK; simp (contextual := true) only [go_sem, simprocAttr]) | with_reducible refine evOps_nil ?_ | ((with_reducible refine evOpsD_nil ?_ ?_); kernel_rfl) | ((with_reducible refine hK _ ?_); clear hK K) | (with_reducible first | refine And.intro ?_ ?_ | refine nxt_n ?_ | refine nxt_r ?_ | refine nxt_e ?_ | refine blk_n ?_ | refine blk_r ?_ | refine blk_same ?_ | refine blk_other (by decide) ?_ | refine noG_n ?_ | refine noG_r ?_ | refine noG_e ?_ | refine inR_mk ?_ ?_) | (refine fun (hc : (_ : Bool) = _) => ?_; try simp only [hcS] at hc))
          all_goals try exact om_
          refine ⟨⟨a + 1, by omega, (by exact all_s hwa hwb)⟩, by simp only; omega, Imp.ao hX⟩
      · have ea : a = p.src.fr.length := by omega
        subst ea
        repeat' (first | (with_reducible first | refine V_seq ?_ | refine V_block ?_ | refine V_skip ?_ | refine V_ret ?_ | refine V_exit ?_) | ((with_reducible refine V_cond ?_); simp only [go_sem, simprocAttr]) | ((first | refine V_region (by rw [hn]; rfl) ?_ | refine V_drawn hmix (by rw [hn]; rfl) ?_); intro K hK) | ((first | with_reducible refine evOps_n ?_ | ((with_reducible apply evOps_g); rfl) | with_reducible refine evOpsD_n ?_ | ((with_reducible apply evOpsD_g); rfl)); intro K hK; simp (contextual := true) only [go_sem, simprocAttr]) | with_reducible refine evOps_nil ?_ | ((with_reducible refine evOpsD_nil ?_ ?_); kernel_rfl) | ((with_reducible refine hK _ ?_); clear hK K) | (with_reducible first | refine And.intro ?_ ?_ | refine nxt_n ?_ | refine nxt_r ?_ | refine nxt_e ?_ | refine blk_n ?_ | refine blk_r ?_ | refine blk_same ?_ | refine blk_other (by decide) ?_ | refine noG_n ?_ | refine noG_r ?_ | refine noG_e ?_ | refine inR_mk ?_ ?_) | (refine fun (hc : (_ : Bool) = _) => ?_; try simp only [hcS] at hc))
        all_goals try exact om_
        refine ⟨⟨y + 1, by omega, (by exact all_s hwy ⟨fun x hx => hwx x (by omega), fun a ha b hb => hwa a (by omega) b (by rw [cl1 a (by omega)] at hb; exact hb)⟩)⟩, by simp only; omega, Imp.ao hX⟩
  · have ey : y = p.tgt.ob.toNat := by omega
    subst ey
    repeat' (first | (with_reducible first | refine V_seq ?_ | refine V_block ?_ | refine V_skip ?_ | refine V_ret ?_ | refine V_exit ?_) | ((with_reducible refine V_cond ?_); simp only [go_sem, simprocAttr]) | ((first | refine V_region (by rw [hn]; rfl) ?_ | refine V_drawn hmix (by rw [hn]; rfl) ?_); intro K hK) | ((first | with_reducible refine evOps_n ?_ | ((with_reducible apply evOps_g); rfl) | with_reducible refine evOpsD_n ?_ | ((with_reducible apply evOpsD_g); rfl)); intro K hK; simp (contextual := true) only [go_sem, simprocAttr]) | with_reducible refine evOps_nil ?_ | ((with_reducible refine evOpsD_nil ?_ ?_); kernel_rfl) | ((with_reducible refine hK _ ?_); clear hK K) | (with_reducible first | refine And.intro ?_ ?_ | refine nxt_n ?_ | refine nxt_r ?_ | refine nxt_e ?_ | refine blk_n ?_ | refine blk_r ?_ | refine blk_same ?_ | refine blk_other (by decide) ?_ | refine noG_n ?_ | refine noG_r ?_ | refine noG_e ?_ | refine inR_mk ?_ ?_) | (refine fun (hc : (_ : Bool) = _) => ?_; try simp only [hcS] at hc))
    all_goals try exact om_
    refine V_loopK (G := {x : Nat // x ≤ p.src.ob.toNat ∧ (∀ k, k < x → Ac2 p k)}) (fun ⟨x, _⟩ => [(10, iv x)]) [1, 3, 4] (fun ⟨x, _⟩ => []) [] (fun zz => p.src.ob.toNat - zz.1) ⟨0, Nat.zero_le _, by exact (fun k hk => absurd hk (Nat.not_lt_zero k))⟩ ?_ ?_
    · exact Imp.au hX
    rintro ⟨x, hix, hwx⟩
    simp only [go_sem, simprocAttr]
    rcases Nat.lt_or_ge x p.src.ob.toNat with hlx | hgx
    · repeat' (first | (with_reducible first | refine V_seq ?_ | refine V_block ?_ | refine V_skip ?_ | refine V_ret ?_ | refine V_exit ?_) | ((with_reducible refine V_cond ?_); simp only [go_sem, simprocAttr]) | ((first | refine V_region (by rw [hn]; rfl) ?_ | refine V_drawn hmix (by rw [hn]; rfl) ?_); intro K hK) | ((first | with_reducible refine evOps_n ?_ | ((with_reducible apply evOps_g); rfl) | with_reducible refine evOpsD_n ?_ | ((with_reducible apply evOpsD_g); rfl)); intro K hK; simp (contextual := true) only [go_sem, simprocAttr]) | with_reducible refine evOps_nil ?_ | ((with_reducible refine evOpsD_nil ?_ ?_); kernel_rfl) | ((with_reducible refine hK _ ?_); clear hK K) | (with_reducible first | refine And.intro ?_ ?_ | refine nxt_n ?_ | refine nxt_r ?_ | refine nxt_e ?_ | refine blk_n ?_ | refine blk_r ?_ | refine blk_same ?_ | refine blk_other (by decide) ?_ | refine noG_n ?_ | refine noG_r ?_ | refine noG_e ?_ | refine inR_mk ?_ ?_) | (refine fun (hc : (_ : Bool) = _) => ?_; try simp only [hcS] at hc))
      all_goals try exact om_
      refine V_loopK (G := {a : Nat // a ≤ p.tgt.fr.length ∧ (∀ k, k < a → ∀ b, b < p.tgt.fr.length → C2P p x k b)}) (fun ⟨a, _⟩ => [(11, iv a), (10, iv x)]) [1, 3, 4] (fun ⟨a, _⟩ => []) [] (fun zz => p.tgt.fr.length - zz.1) ⟨0, Nat.zero_le _, by exact (fun k hk => absurd hk (Nat.not_lt_zero k))⟩ ?_ ?_
      · exact Imp.au hX
      rintro ⟨a, hia, hwa⟩
      simp only [go_sem, simprocAttr]
      rcases Nat.lt_or_ge a p.tgt.fr.length with hla | hga
      · have cla := cl2 a hla
        repeat' (first | (with_reducible first | refine V_seq ?_ | refine V_block ?_ | refine V_skip ?_ | refine V_ret ?_ | refine V_exit ?_) | ((with_reducible refine V_cond ?_); simp only [go_sem, simprocAttr]) | ((first | refine V_region (by rw [hn]; rfl) ?_ | refine V_drawn hmix (by rw [hn]; rfl) ?_); intro K hK) | ((first | with_reducible refine evOps_n ?_ | ((with_reducible apply evOps_g); rfl) | with_reducible refine evOpsD_n ?_ | ((with_reducible apply evOpsD_g); rfl)); intro K hK; simp (contextual := true) only [go_sem, simprocAttr]) | with_reducible refine evOps_nil ?_ | ((with_reducible refine evOpsD_nil ?_ ?_); kernel_rfl) | ((with_reducible refine hK _ ?_); clear hK K) | (with_reducible first | refine And.intro ?_ ?_ | refine nxt_n ?_ | refine nxt_r ?_ | refine nxt_e ?_ | refine blk_n ?_ | refine blk_r ?_ | refine blk_same ?_ | refine blk_other (by decide) ?_ | refine noG_n ?_ | refine noG_r ?_ | refine noG_e ?_ | refine inR_mk ?_ ?_) | (refine fun (hc : (_ : Bool) = _) => ?_; try simp only [hcS] at hc))
        all_goals try exact om_
        refine V_loopK (G := {b : Nat // b ≤ p.tgt.fr.length ∧ (∀ k, k < b → C2P p x a k)}) (fun ⟨b, _⟩ => [(12, iv b), (10, iv x), (11, iv a)]) [1, 3, 4] (fun ⟨b, _⟩ => []) [] (fun zz => p.tgt.fr.length - zz.1) ⟨0, Nat.zero_le _, by exact (fun k hk => absurd hk (Nat.not_lt_zero k))⟩ ?_ ?_
        · exact Imp.au hX
        rintro ⟨b, hib, hwb⟩
        simp only [go_sem, simprocAttr]
        rcases Nat.lt_or_ge b p.tgt.fr.length with hlb | hgb
        · obtain ⟨n1, n2⟩ := s.tgt.toShape.coe a (by omega)
          have n2 := n2 b (by omega)
          unfold Cat.Entry at n2
          by_cases hh : 0 ≤ (p.tgt.co.getD a []).getD b 0
          · have hc2 : p.tgt.C a b = (p.tgt.co.getD a []).getD b 0 := rfl
            rw [hc2] at n2
            obtain ⟨q1, ⟨q2, q3⟩, _⟩ : p.tgt.to.getD a 0 = p.tgt.fr.getD b 0 ∧ (0 ≤ (p.tgt.co.getD a []).getD b 0 ∧ (p.tgt.co.getD a []).getD b 0 < p.tgt.fr.length) ∧ True := by
              rcases n2 with ⟨n3, n4, _⟩ | ⟨_, n4⟩
              · exact ⟨n3, n4, trivial⟩
              · omega
            have g1 := w4 a (by omega)
            have g2 := w4 b (by omega)
            have g3 := w4 ((p.tgt.co.getD a []).getD b 0).toNat (by omega)
            have k1 := w6 a x (by omega) hlx
            have k2 := w6 b x (by omega) hlx
            have k3 := (w6 ((p.tgt.co.getD a []).getD b 0).toNat x (by omega) hlx).1
            have f1 := s.tgt.toShape.frw a (by omega)
            have f2 := s.tgt.toShape.frw b (by omega)
            have f4 := s.tgt.toShape.frw ((p.tgt.co.getD a []).getD b 0).toNat (by omega)
            have d1 := w2 x (p.tgt.fr.getD a 0).toNat hlx (by omega)
            have d2 := w2 x (p.tgt.fr.getD b 0).toNat hlx (by omega)
            have d3 := w2 x (p.tgt.fr.getD ((p.tgt.co.getD a []).getD b 0).toNat 0).toNat hlx (by omega)
            have hth := sp_l01Then (f := p.H a x) (g := p.H b x) (by omega) (by omega) (fun i hi => by
              have h1 := k1.2 i hi
              rw [q1] at h1
              omega)
            have l1 : (p.H ((p.tgt.co.getD a []).getD b 0).toNat x).length ≤ 1048576 := by omega
            have l2 : (thn (p.H a x) (p.H b x)).length ≤ 1048576 := by rw [thn_len]; omega
            repeat' (first | (exfalso; omega) | (with_reducible first | refine V_seq ?_ | refine V_block ?_ | refine V_skip ?_ | refine V_ret ?_ | refine V_exit ?_) | ((with_reducible refine V_cond ?_); simp only [go_sem, simprocAttr]) | ((first | refine V_region (by rw [hn]; rfl) ?_ | refine V_drawn hmix (by rw [hn]; rfl) ?_); intro K hK) | ((first | with_reducible refine evOps_n ?_ | ((with_reducible apply evOps_g); rfl) | with_reducible refine evOpsD_n ?_ | ((with_reducible apply evOpsD_g); rfl)); intro K hK; simp (contextual := true) only [go_sem, simprocAttr]) | with_reducible refine evOps_nil ?_ | ((with_reducible refine evOpsD_nil ?_ ?_); kernel_rfl) | ((with_reducible refine hK _ ?_); clear hK K) | (with_reducible first | refine And.intro ?_ ?_ | refine nxt_n ?_ | refine nxt_r ?_ | refine nxt_e ?_ | refine blk_n ?_ | refine blk_r ?_ | refine blk_same ?_ | refine blk_other (by decide) ?_ | refine noG_n ?_ | refine noG_r ?_ | refine noG_e ?_ | refine inR_mk ?_ ?_) | ((with_reducible refine evCall_at 74 ?_); refine EvCall.mk (hth) cal_l01Then [(0,3)] [] (by simp [go_sem] <;> (repeat' (first | rfl | constructor))) (by simp [go_sem] <;> (repeat' (first | rfl | constructor))) ?_; all_goals try simp only [go_sem, simprocAttr]) | ((with_reducible refine evCall_at 57 ?_); refine EvCall.rq (a := (sp_l01Same ?_ ?_)) (b := cal_l01Same) (c := ?_); all_goals try simp only [go_sem, simprocAttr]) | (refine fun (hc : (_ : Bool) = _) => ?_; try simp only [hcS] at hc))
            all_goals try exact om_
            all_goals try ((first | refine ret_auto ?_ | refine ret_auto' ?_); simp only [go_sem, simprocAttr, Try.f56]; exact bv_f (fun q => absurd (q.1.two x hlx a (by omega) b (by omega) hh) (by assumption)))
            refine ⟨⟨b + 1, by omega, (by exact all_s hwb (fun _ => by assumption))⟩, by simp only; omega, Imp.ao hX⟩
          · repeat' (first | (exfalso; omega) | (with_reducible first | refine V_seq ?_ | refine V_block ?_ | refine V_skip ?_ | refine V_ret ?_ | refine V_exit ?_) | ((with_reducible refine V_cond ?_); simp only [go_sem, simprocAttr]) | ((first | refine V_region (by rw [hn]; rfl) ?_ | refine V_drawn hmix (by rw [hn]; rfl) ?_); intro K hK) | ((first | with_reducible refine evOps_n ?_ | ((with_reducible apply evOps_g); rfl) | with_reducible refine evOpsD_n ?_ | ((with_reducible apply evOpsD_g); rfl)); intro K hK; simp (contextual := true) only [go_sem, simprocAttr]) | with_reducible refine evOps_nil ?_ | ((with_reducible refine evOpsD_nil ?_ ?_); kernel_rfl) | ((with_reducible refine hK _ ?_); clear hK K) | (with_reducible first | refine And.intro ?_ ?_ | refine nxt_n ?_ | refine nxt_r ?_ | refine nxt_e ?_ | refine blk_n ?_ | refine blk_r ?_ | refine blk_same ?_ | refine blk_other (by decide) ?_ | refine noG_n ?_ | refine noG_r ?_ | refine noG_e ?_ | refine inR_mk ?_ ?_) | (refine fun (hc : (_ : Bool) = _) => ?_; try simp only [hcS] at hc))
            all_goals try exact om_
            refine ⟨⟨b + 1, by omega, (by exact all_s hwb (fun h => absurd h hh))⟩, by simp only; omega, Imp.ao hX⟩
        · have eb : b = p.tgt.fr.length := by omega
          subst eb
          repeat' (first | (with_reducible first | refine V_seq ?_ | refine V_block ?_ | refine V_skip ?_ | refine V_ret ?_ | refine V_exit ?_) | ((with_reducible refine V_cond ?_); simp only [go_sem, simprocAttr]) | ((first | refine V_region (by rw [hn]; rfl) ?_ | refine V_drawn hmix (by rw [hn]; rfl) ?_); intro K hK) | ((first | with_reducible refine evOps_n ?_ | ((with_reducible apply evOps_g); rfl) | with_reducible refine evOpsD_n ?_ | ((with_reducible apply evOpsD_g); rfl)); intro K hK; simp (contextual := true) only [go_sem, simprocAttr]) | with_reducible refine evOps_nil ?_ | ((with_reducible refine evOpsD_nil ?_ ?_); kernel_rfl) | ((with_reducible refine hK _ ?_); clear hK K) | (with_reducible first | refine And.intro ?_ ?_ | refine nxt_n ?_ | refine nxt_r ?_ | refine nxt_e ?_ | refine blk_n ?_ | refine blk_r ?_ | refine blk_same ?_ | refine blk_other (by decide) ?_ | refine noG_n ?_ | refine noG_r ?_ | refine noG_e ?_ | refine inR_mk ?_ ?_) | (refine fun (hc : (_ : Bool) = _) => ?_; try simp only [hcS] at hc))
          all_goals try exact om_
          refine ⟨⟨a + 1, by omega, (by exact all_s hwa hwb)⟩, by simp only; omega, Imp.ao hX⟩
      · have ea : a = p.tgt.fr.length := by omega
        subst ea
        repeat' (first | (with_reducible first | refine V_seq ?_ | refine V_block ?_ | refine V_skip ?_ | refine V_ret ?_ | refine V_exit ?_) | ((with_reducible refine V_cond ?_); simp only [go_sem, simprocAttr]) | ((first | refine V_region (by rw [hn]; rfl) ?_ | refine V_drawn hmix (by rw [hn]; rfl) ?_); intro K hK) | ((first | with_reducible refine evOps_n ?_ | ((with_reducible apply evOps_g); rfl) | with_reducible refine evOpsD_n ?_ | ((with_reducible apply evOpsD_g); rfl)); intro K hK; simp (contextual := true) only [go_sem, simprocAttr]) | with_reducible refine evOps_nil ?_ | ((with_reducible refine evOpsD_nil ?_ ?_); kernel_rfl) | ((with_reducible refine hK _ ?_); clear hK K) | (with_reducible first | refine And.intro ?_ ?_ | refine nxt_n ?_ | refine nxt_r ?_ | refine nxt_e ?_ | refine blk_n ?_ | refine blk_r ?_ | refine blk_same ?_ | refine blk_other (by decide) ?_ | refine noG_n ?_ | refine noG_r ?_ | refine noG_e ?_ | refine inR_mk ?_ ?_) | (refine fun (hc : (_ : Bool) = _) => ?_; try simp only [hcS] at hc))
        all_goals try exact om_
        refine ⟨⟨x + 1, by omega, (by exact all_s hwx (fun a ha b hb => hwa a (by omega) b (by rw [cl2 a (by omega)] at hb; exact hb)))⟩, by simp only; omega, Imp.ao hX⟩
    · have ex : x = p.src.ob.toNat := by omega
      subst ex
      have hac : PrActs p := ⟨hwy, hwx⟩
      repeat' (first | (with_reducible first | refine V_seq ?_ | refine V_block ?_ | refine V_skip ?_ | refine V_ret ?_ | refine V_exit ?_) | ((with_reducible refine V_cond ?_); simp only [go_sem, simprocAttr]) | ((first | refine V_region (by rw [hn]; rfl) ?_ | refine V_drawn hmix (by rw [hn]; rfl) ?_); intro K hK) | ((first | with_reducible refine evOps_n ?_ | ((with_reducible apply evOps_g); rfl) | with_reducible refine evOpsD_n ?_ | ((with_reducible apply evOpsD_g); rfl)); intro K hK; simp (contextual := true) only [go_sem, simprocAttr]) | with_reducible refine evOps_nil ?_ | ((with_reducible refine evOpsD_nil ?_ ?_); kernel_rfl) | ((with_reducible refine hK _ ?_); clear hK K) | (with_reducible first | refine And.intro ?_ ?_ | refine nxt_n ?_ | refine nxt_r ?_ | refine nxt_e ?_ | refine blk_n ?_ | refine blk_r ?_ | refine blk_same ?_ | refine blk_other (by decide) ?_ | refine noG_n ?_ | refine noG_r ?_ | refine noG_e ?_ | refine inR_mk ?_ ?_) | (refine fun (hc : (_ : Bool) = _) => ?_; try simp only [hcS] at hc))
      all_goals try exact om_
      refine V_loopK (G := {a : Nat // a ≤ p.src.fr.length ∧ (∀ k, k < a → ∀ b, b < p.tgt.fr.length → BmP p k b)}) (fun ⟨a, _⟩ => [(14, iv a)]) [1, 3, 4] (fun ⟨a, _⟩ => []) [] (fun zz => p.src.fr.length - zz.1) ⟨0, Nat.zero_le _, by exact (fun k hk => absurd hk (Nat.not_lt_zero k))⟩ ?_ ?_
      · exact Imp.au hX
      rintro ⟨a, hia, hwa⟩
      simp only [go_sem, simprocAttr]
      rcases Nat.lt_or_ge a p.src.fr.length with hla | hga
      · repeat' (first | (with_reducible first | refine V_seq ?_ | refine V_block ?_ | refine V_skip ?_ | refine V_ret ?_ | refine V_exit ?_) | ((with_reducible refine V_cond ?_); simp only [go_sem, simprocAttr]) | ((first | refine V_region (by rw [hn]; rfl) ?_ | refine V_drawn hmix (by rw [hn]; rfl) ?_); intro K hK) | ((first | with_reducible refine evOps_n ?_ | ((with_reducible apply evOps_g); rfl) | with_reducible refine evOpsD_n ?_ | ((with_reducible apply evOpsD_g); rfl)); intro K hK; simp (contextual := true) only [go_sem, simprocAttr]) | with_reducible refine evOps_nil ?_ | ((with_reducible refine evOpsD_nil ?_ ?_); kernel_rfl) | ((with_reducible refine hK _ ?_); clear hK K) | (with_reducible first | refine And.intro ?_ ?_ | refine nxt_n ?_ | refine nxt_r ?_ | refine nxt_e ?_ | refine blk_n ?_ | refine blk_r ?_ | refine blk_same ?_ | refine blk_other (by decide) ?_ | refine noG_n ?_ | refine noG_r ?_ | refine noG_e ?_ | refine inR_mk ?_ ?_) | (refine fun (hc : (_ : Bool) = _) => ?_; try simp only [hcS] at hc))
        all_goals try exact om_
        refine V_loopK (G := {b : Nat // b ≤ p.tgt.fr.length ∧ (∀ k, k < b → BmP p a k)}) (fun ⟨b, _⟩ => [(15, iv b), (14, iv a)]) [1, 3, 4] (fun ⟨b, _⟩ => []) [] (fun zz => p.tgt.fr.length - zz.1) ⟨0, Nat.zero_le _, by exact (fun k hk => absurd hk (Nat.not_lt_zero k))⟩ ?_ ?_
        · exact Imp.au hX
        rintro ⟨b, hib, hwb⟩
        simp only [go_sem, simprocAttr]
        rcases Nat.lt_or_ge b p.tgt.fr.length with hlb | hgb
        · have f1 := s.src.toShape.frw a (by omega)
          have f2 := s.src.toShape.tow a (by omega)
          have f3 := s.tgt.toShape.frw b (by omega)
          have f4 := s.tgt.toShape.tow b (by omega)
          have g1 := w3 a (by omega)
          have g2 := w4 b (by omega)
          have k1 := w5 a (p.tgt.fr.getD b 0).toNat (by omega) (by omega)
          have k2 := w5 a (p.tgt.to.getD b 0).toNat (by omega) (by omega)
          have k3 := w6 b (p.src.fr.getD a 0).toNat (by omega) (by omega)
          have k4 := w6 b (p.src.to.getD a 0).toNat (by omega) (by omega)
          have d1 := w2 (p.src.fr.getD a 0).toNat (p.tgt.fr.getD b 0).toNat (by omega) (by omega)
          have d2 := w2 (p.src.to.getD a 0).toNat (p.tgt.fr.getD b 0).toNat (by omega) (by omega)
          have d3 := w2 (p.src.to.getD a 0).toNat (p.tgt.to.getD b 0).toNat (by omega) (by omega)
          have h1 := sp_l01Then (f := p.B a (p.tgt.fr.getD b 0).toNat) (g := p.H b (p.src.fr.getD a 0).toNat) (by omega) (by omega) (fun i hi => by have := k1.2 i hi; omega)
          have h2 := sp_l01Then (f := p.H b (p.src.to.getD a 0).toNat) (g := p.B a (p.tgt.to.getD b 0).toNat) (by omega) (by omega) (fun i hi => by have := k4.2 i hi; omega)
          have l1 := thn_len (p.B a (p.tgt.fr.getD b 0).toNat) (p.H b (p.src.fr.getD a 0).toNat)
          have l2 := thn_len (p.H b (p.src.to.getD a 0).toNat) (p.B a (p.tgt.to.getD b 0).toNat)
          have l3 : (thn (p.B a (p.tgt.fr.getD b 0).toNat) (p.H b (p.src.fr.getD a 0).toNat)).length ≤ 1048576 := by omega
          have l4 : (thn (p.H b (p.src.to.getD a 0).toNat) (p.B a (p.tgt.to.getD b 0).toNat)).length ≤ 1048576 := by omega
          repeat' (first | (with_reducible first | refine V_seq ?_ | refine V_block ?_ | refine V_skip ?_ | refine V_ret ?_ | refine V_exit ?_) | ((with_reducible refine V_cond ?_); simp only [go_sem, simprocAttr]) | ((first | refine V_region (by rw [hn]; rfl) ?_ | refine V_drawn hmix (by rw [hn]; rfl) ?_); intro K hK) | ((first | with_reducible refine evOps_n ?_ | ((with_reducible apply evOps_g); rfl) | with_reducible refine evOpsD_n ?_ | ((with_reducible apply evOpsD_g); rfl)); intro K hK; simp (contextual := true) only [go_sem, simprocAttr]) | with_reducible refine evOps_nil ?_ | ((with_reducible refine evOpsD_nil ?_ ?_); kernel_rfl) | ((with_reducible refine hK _ ?_); clear hK K) | (with_reducible first | refine And.intro ?_ ?_ | refine nxt_n ?_ | refine nxt_r ?_ | refine nxt_e ?_ | refine blk_n ?_ | refine blk_r ?_ | refine blk_same ?_ | refine blk_other (by decide) ?_ | refine noG_n ?_ | refine noG_r ?_ | refine noG_e ?_ | refine inR_mk ?_ ?_) | ((with_reducible refine (id ?_ : EvCall _ _ [.bor [] (ints (p.B a (p.tgt.fr.getD b 0).toNat)),_] _ _)); refine EvCall.mk (h1) cal_l01Then [(0,3)] [] (by simp [go_sem] <;> (repeat' (first | rfl | constructor))) (by simp [go_sem] <;> (repeat' (first | rfl | constructor))) ?_; all_goals try simp only [go_sem, simprocAttr]) | ((with_reducible refine (id ?_ : EvCall _ _ [.bor [] (ints (p.H b (p.src.to.getD a 0).toNat)),_] _ _)); refine EvCall.mk (h2) cal_l01Then [(0,4)] [] (by simp [go_sem] <;> (repeat' (first | rfl | constructor))) (by simp [go_sem] <;> (repeat' (first | rfl | constructor))) ?_; all_goals try simp only [go_sem, simprocAttr]) | ((with_reducible refine evCall_at 57 ?_); refine EvCall.rq (a := (sp_l01Same ?_ ?_)) (b := cal_l01Same) (c := ?_); all_goals try simp only [go_sem, simprocAttr]) | (refine fun (hc : (_ : Bool) = _) => ?_; try simp only [hcS] at hc))
          all_goals try exact om_
          all_goals try ((first | refine ret_auto ?_ | refine ret_auto' ?_); simp only [go_sem, simprocAttr, Try.f56]; exact bv_f (fun q => absurd (q.2 a hla b hlb) (by assumption)))
          refine ⟨⟨b + 1, by omega, (by exact all_s hwb (by assumption))⟩, by simp only; omega, Imp.ao hX⟩
        · have eb : b = p.tgt.fr.length := by omega
          subst eb
          repeat' (first | (with_reducible first | refine V_seq ?_ | refine V_block ?_ | refine V_skip ?_ | refine V_ret ?_ | refine V_exit ?_) | ((with_reducible refine V_cond ?_); simp only [go_sem, simprocAttr]) | ((first | refine V_region (by rw [hn]; rfl) ?_ | refine V_drawn hmix (by rw [hn]; rfl) ?_); intro K hK) | ((first | with_reducible refine evOps_n ?_ | ((with_reducible apply evOps_g); rfl) | with_reducible refine evOpsD_n ?_ | ((with_reducible apply evOpsD_g); rfl)); intro K hK; simp (contextual := true) only [go_sem, simprocAttr]) | with_reducible refine evOps_nil ?_ | ((with_reducible refine evOpsD_nil ?_ ?_); kernel_rfl) | ((with_reducible refine hK _ ?_); clear hK K) | (with_reducible first | refine And.intro ?_ ?_ | refine nxt_n ?_ | refine nxt_r ?_ | refine nxt_e ?_ | refine blk_n ?_ | refine blk_r ?_ | refine blk_same ?_ | refine blk_other (by decide) ?_ | refine noG_n ?_ | refine noG_r ?_ | refine noG_e ?_ | refine inR_mk ?_ ?_) | (refine fun (hc : (_ : Bool) = _) => ?_; try simp only [hcS] at hc))
          all_goals try exact om_
          refine ⟨⟨a + 1, by omega, (by exact all_s hwa hwb)⟩, by simp only; omega, Imp.ao hX⟩
      · have ea : a = p.src.fr.length := by omega
        subst ea
        repeat' (first | (with_reducible first | refine V_seq ?_ | refine V_block ?_ | refine V_skip ?_ | refine V_ret ?_ | refine V_exit ?_) | ((with_reducible refine V_cond ?_); simp only [go_sem, simprocAttr]) | ((first | refine V_region (by rw [hn]; rfl) ?_ | refine V_drawn hmix (by rw [hn]; rfl) ?_); intro K hK) | ((first | with_reducible refine evOps_n ?_ | ((with_reducible apply evOps_g); rfl) | with_reducible refine evOpsD_n ?_ | ((with_reducible apply evOpsD_g); rfl)); intro K hK; simp (contextual := true) only [go_sem, simprocAttr]) | with_reducible refine evOps_nil ?_ | ((with_reducible refine evOpsD_nil ?_ ?_); kernel_rfl) | ((with_reducible refine hK _ ?_); clear hK K) | (with_reducible first | refine And.intro ?_ ?_ | refine nxt_n ?_ | refine nxt_r ?_ | refine nxt_e ?_ | refine blk_n ?_ | refine blk_r ?_ | refine blk_same ?_ | refine blk_other (by decide) ?_ | refine noG_n ?_ | refine noG_r ?_ | refine noG_e ?_ | refine inR_mk ?_ ?_) | (refine fun (hc : (_ : Bool) = _) => ?_; try simp only [hcS] at hc))
        all_goals try exact om_
        all_goals ((first | refine ret_auto ?_ | refine ret_auto' ?_); simp only [go_sem, simprocAttr, Try.f56]; exact bv_t ⟨hac, hwa⟩)
theorem cal_l22Is : Callable Try.prog 38 := ⟨_, Try.func38, rfl, rfl⟩
theorem sp_l22Is {p : Prof} (hb : PrB p) : Spec Try.prog 38 [profV p] [] (bv (dec (IsProf p))) [] := by
  have v1 := sp_l02Is hb.src
  have v2 := sp_l02Is hb.tgt
  have v3 := sp_l22Sized hb
  by_cases c1 : IsCat p.src
  · by_cases c2 : IsCat p.tgt
    · by_cases c3 : SdP p
      · have v4 := sp_l22Maps hb c1 c2 c3
        by_cases c4 : MpP p
        · have sh : PrShape p := ⟨c1, c2, c3.szl, c3.szr, c3.bel, c4.ber, c3.hel, c4.her⟩
          have v5 := sp_l22Laws sh
          have e : dec (PrActs p ∧ BmA p) = dec (IsProf p) := dec_congr ⟨fun q => ⟨sh, q.1, fun a ha b hb => q.2 a (by have := c3.bel; omega) b (by have := c3.hel; omega)⟩, fun q => ⟨q.acts, fun a ha b hb => q.bim a (by have := c3.bel; omega) b (by have := c3.hel; omega)⟩⟩
          rw [e] at v5
          rw [dec_t c1] at v1
          rw [dec_t c2] at v2
          rw [dec_t c3] at v3
          rw [dec_t c4] at v4
          refine spec_of_V (E := TE) 0 Try.func38 rfl (by simp [Try.f38]) fun X hn hX => ?_
          repeat' (first | (with_reducible first | refine V_seq ?_ | refine V_skip ?_ | refine V_ret ?_) | ((with_reducible refine V_cond ?_); simp only [go_sem, simprocAttr]) | ((refine V_region (by rw [hn]; rfl) ?_); intro K hK) | ((first | with_reducible refine evOps_n ?_ | ((with_reducible apply evOps_g); rfl)); intro K hK; simp (contextual := true) only [go_sem, simprocAttr]) | with_reducible refine evOps_nil ?_ | ((with_reducible refine hK _ ?_); clear hK K) | (with_reducible first | refine And.intro ?_ ?_ | refine nxt_n ?_ | refine nxt_r ?_ | refine inR_mk ?_ ?_) | ((with_reducible refine (id ?_ : EvCall _ _ [.agg [iv p.src.ob,_,_,_,_]] _ _)); refine EvCall.mk (v1) cal_l02Is [] [] (by simp [go_sem] <;> (repeat' (first | rfl | constructor))) (by simp [go_sem] <;> (repeat' (first | rfl | constructor))) ?_; all_goals try simp only [go_sem, simprocAttr]) | ((with_reducible refine (id ?_ : EvCall _ _ [.agg [iv p.tgt.ob,_,_,_,_]] _ _)); refine EvCall.mk (v2) cal_l02Is [] [] (by simp [go_sem] <;> (repeat' (first | rfl | constructor))) (by simp [go_sem] <;> (repeat' (first | rfl | constructor))) ?_; all_goals try simp only [go_sem, simprocAttr]) | ((with_reducible refine evCall_at 54 ?_); refine EvCall.mk (v3) cal_l22Sized [] [] (by simp [go_sem] <;> (repeat' (first | rfl | constructor))) (by simp [go_sem] <;> (repeat' (first | rfl | constructor))) ?_; all_goals try simp only [go_sem, simprocAttr]) | ((with_reducible refine evCall_at 55 ?_); refine EvCall.mk (v4) cal_l22Maps [] [] (by simp [go_sem] <;> (repeat' (first | rfl | constructor))) (by simp [go_sem] <;> (repeat' (first | rfl | constructor))) ?_; all_goals try simp only [go_sem, simprocAttr]) | ((with_reducible refine evCall_at 56 ?_); refine EvCall.mk (v5) cal_l22Laws [] [] (by simp [go_sem] <;> (repeat' (first | rfl | constructor))) (by simp [go_sem] <;> (repeat' (first | rfl | constructor))) ?_; all_goals try simp only [go_sem, simprocAttr]) | (refine fun (hc : (_ : Bool) = _) => ?_; try simp only [hcS] at hc))
          all_goals try exact om_
          all_goals ((first | refine ret_auto ?_ | refine ret_auto' ?_); simp only [go_sem, simprocAttr, Try.f38])
        · rw [dec_t c1] at v1
          rw [dec_t c2] at v2
          rw [dec_t c3] at v3
          rw [dec_f c4] at v4
          refine spec_of_V (E := TE) 0 Try.func38 rfl (by simp [Try.f38]) fun X hn hX => ?_
          repeat' (first | (with_reducible first | refine V_seq ?_ | refine V_skip ?_ | refine V_ret ?_) | ((with_reducible refine V_cond ?_); simp only [go_sem, simprocAttr]) | ((refine V_region (by rw [hn]; rfl) ?_); intro K hK) | ((first | with_reducible refine evOps_n ?_ | ((with_reducible apply evOps_g); rfl)); intro K hK; simp (contextual := true) only [go_sem, simprocAttr]) | with_reducible refine evOps_nil ?_ | ((with_reducible refine hK _ ?_); clear hK K) | (with_reducible first | refine And.intro ?_ ?_ | refine nxt_n ?_ | refine nxt_r ?_ | refine inR_mk ?_ ?_) | ((with_reducible refine (id ?_ : EvCall _ _ [.agg [iv p.src.ob,_,_,_,_]] _ _)); refine EvCall.mk (v1) cal_l02Is [] [] (by simp [go_sem] <;> (repeat' (first | rfl | constructor))) (by simp [go_sem] <;> (repeat' (first | rfl | constructor))) ?_; all_goals try simp only [go_sem, simprocAttr]) | ((with_reducible refine (id ?_ : EvCall _ _ [.agg [iv p.tgt.ob,_,_,_,_]] _ _)); refine EvCall.mk (v2) cal_l02Is [] [] (by simp [go_sem] <;> (repeat' (first | rfl | constructor))) (by simp [go_sem] <;> (repeat' (first | rfl | constructor))) ?_; all_goals try simp only [go_sem, simprocAttr]) | ((with_reducible refine evCall_at 54 ?_); refine EvCall.mk (v3) cal_l22Sized [] [] (by simp [go_sem] <;> (repeat' (first | rfl | constructor))) (by simp [go_sem] <;> (repeat' (first | rfl | constructor))) ?_; all_goals try simp only [go_sem, simprocAttr]) | ((with_reducible refine evCall_at 55 ?_); refine EvCall.mk (v4) cal_l22Maps [] [] (by simp [go_sem] <;> (repeat' (first | rfl | constructor))) (by simp [go_sem] <;> (repeat' (first | rfl | constructor))) ?_; all_goals try simp only [go_sem, simprocAttr]) | (refine fun (hc : (_ : Bool) = _) => ?_; try simp only [hcS] at hc))
          all_goals try exact om_
          all_goals ((first | refine ret_auto ?_ | refine ret_auto' ?_); simp only [go_sem, simprocAttr, Try.f38]; exact bv_f fun q => c4 ⟨q.shape.ber, q.shape.her⟩)
      · rw [dec_t c1] at v1
        rw [dec_t c2] at v2
        rw [dec_f c3] at v3
        refine spec_of_V (E := TE) 0 Try.func38 rfl (by simp [Try.f38]) fun X hn hX => ?_
        repeat' (first | (with_reducible first | refine V_seq ?_ | refine V_skip ?_ | refine V_ret ?_) | ((with_reducible refine V_cond ?_); simp only [go_sem, simprocAttr]) | ((refine V_region (by rw [hn]; rfl) ?_); intro K hK) | ((first | with_reducible refine evOps_n ?_ | ((with_reducible apply evOps_g); rfl)); intro K hK; simp (contextual := true) only [go_sem, simprocAttr]) | with_reducible refine evOps_nil ?_ | ((with_reducible refine hK _ ?_); clear hK K) | (with_reducible first | refine And.intro ?_ ?_ | refine nxt_n ?_ | refine nxt_r ?_ | refine inR_mk ?_ ?_) | ((with_reducible refine (id ?_ : EvCall _ _ [.agg [iv p.src.ob,_,_,_,_]] _ _)); refine EvCall.mk (v1) cal_l02Is [] [] (by simp [go_sem] <;> (repeat' (first | rfl | constructor))) (by simp [go_sem] <;> (repeat' (first | rfl | constructor))) ?_; all_goals try simp only [go_sem, simprocAttr]) | ((with_reducible refine (id ?_ : EvCall _ _ [.agg [iv p.tgt.ob,_,_,_,_]] _ _)); refine EvCall.mk (v2) cal_l02Is [] [] (by simp [go_sem] <;> (repeat' (first | rfl | constructor))) (by simp [go_sem] <;> (repeat' (first | rfl | constructor))) ?_; all_goals try simp only [go_sem, simprocAttr]) | ((with_reducible refine evCall_at 54 ?_); refine EvCall.mk (v3) cal_l22Sized [] [] (by simp [go_sem] <;> (repeat' (first | rfl | constructor))) (by simp [go_sem] <;> (repeat' (first | rfl | constructor))) ?_; all_goals try simp only [go_sem, simprocAttr]) | (refine fun (hc : (_ : Bool) = _) => ?_; try simp only [hcS] at hc))
        all_goals try exact om_
        all_goals ((first | refine ret_auto ?_ | refine ret_auto' ?_); simp only [go_sem, simprocAttr, Try.f38]; exact bv_f fun q => c3 ⟨q.shape.szl, q.shape.bel, q.shape.hel, q.shape.szr⟩)
    · rw [dec_t c1] at v1
      rw [dec_f c2] at v2
      refine spec_of_V (E := TE) 0 Try.func38 rfl (by simp [Try.f38]) fun X hn hX => ?_
      repeat' (first | (with_reducible first | refine V_seq ?_ | refine V_skip ?_ | refine V_ret ?_) | ((with_reducible refine V_cond ?_); simp only [go_sem, simprocAttr]) | ((refine V_region (by rw [hn]; rfl) ?_); intro K hK) | ((first | with_reducible refine evOps_n ?_ | ((with_reducible apply evOps_g); rfl)); intro K hK; simp (contextual := true) only [go_sem, simprocAttr]) | with_reducible refine evOps_nil ?_ | ((with_reducible refine hK _ ?_); clear hK K) | (with_reducible first | refine And.intro ?_ ?_ | refine nxt_n ?_ | refine nxt_r ?_ | refine inR_mk ?_ ?_) | ((with_reducible refine (id ?_ : EvCall _ _ [.agg [iv p.src.ob,_,_,_,_]] _ _)); refine EvCall.mk (v1) cal_l02Is [] [] (by simp [go_sem] <;> (repeat' (first | rfl | constructor))) (by simp [go_sem] <;> (repeat' (first | rfl | constructor))) ?_; all_goals try simp only [go_sem, simprocAttr]) | ((with_reducible refine (id ?_ : EvCall _ _ [.agg [iv p.tgt.ob,_,_,_,_]] _ _)); refine EvCall.mk (v2) cal_l02Is [] [] (by simp [go_sem] <;> (repeat' (first | rfl | constructor))) (by simp [go_sem] <;> (repeat' (first | rfl | constructor))) ?_; all_goals try simp only [go_sem, simprocAttr]) | (refine fun (hc : (_ : Bool) = _) => ?_; try simp only [hcS] at hc))
      all_goals try exact om_
      all_goals ((first | refine ret_auto ?_ | refine ret_auto' ?_); simp only [go_sem, simprocAttr, Try.f38]; exact bv_f fun q => c2 q.shape.tgt)
  · rw [dec_f c1] at v1
    refine spec_of_V (E := TE) 0 Try.func38 rfl (by simp [Try.f38]) fun X hn hX => ?_
    repeat' (first | (with_reducible first | refine V_seq ?_ | refine V_skip ?_ | refine V_ret ?_) | ((with_reducible refine V_cond ?_); simp only [go_sem, simprocAttr]) | ((refine V_region (by rw [hn]; rfl) ?_); intro K hK) | ((first | with_reducible refine evOps_n ?_ | ((with_reducible apply evOps_g); rfl)); intro K hK; simp (contextual := true) only [go_sem, simprocAttr]) | with_reducible refine evOps_nil ?_ | ((with_reducible refine hK _ ?_); clear hK K) | (with_reducible first | refine And.intro ?_ ?_ | refine nxt_n ?_ | refine nxt_r ?_ | refine inR_mk ?_ ?_) | ((with_reducible refine (id ?_ : EvCall _ _ [.agg [iv p.src.ob,_,_,_,_]] _ _)); refine EvCall.mk (v1) cal_l02Is [] [] (by simp [go_sem] <;> (repeat' (first | rfl | constructor))) (by simp [go_sem] <;> (repeat' (first | rfl | constructor))) ?_; all_goals try simp only [go_sem, simprocAttr]) | (refine fun (hc : (_ : Bool) = _) => ?_; try simp only [hcS] at hc))
    all_goals try exact om_
    all_goals ((first | refine ret_auto ?_ | refine ret_auto' ?_); simp only [go_sem, simprocAttr, Try.f38]; exact bv_f fun q => c1 q.shape.src)
end Go.Eng
