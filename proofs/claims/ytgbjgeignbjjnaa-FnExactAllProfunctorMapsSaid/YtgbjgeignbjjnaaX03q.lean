/- Profunctors, by the reference. -/
import Derived.Test.YtgbjgeignbjjnaaX02q
set_option linter.unusedSimpArgs false
set_option linter.unusedVariables false
set_option maxRecDepth 100000
set_option maxHeartbeats 16000000
namespace Go.Eng
open Go Go.Proofs Go.Cats
structure _root_.Go.Cats.SdP (p : Prof) : Prop where
  szl : (p.sz.length : Int) = p.src.ob
  bel : p.bef.length = p.src.fr.length
  hel : p.beh.length = p.tgt.fr.length
  szr : ∀ x, x < p.sz.length → SzOK p x
structure _root_.Go.Cats.MpP (p : Prof) : Prop where
  ber : ∀ a, a < p.bef.length → BrOK p a
  her : ∀ b, b < p.beh.length → HrOK p b
def _root_.Go.Cats.CalmP (f : List Int) : Prop := ∀ i, i < f.length → f.getD i 0 = i
theorem _root_.Go.Cats.calm_nums {f : List Int} {n : Nat} (h : f.length = n) : CalmP f ↔ f = nums n := by
  constructor
  · intro k
    refine List.ext_getElem (by rw [nums_l]; exact h) fun i h1 h2 => ?_
    have := k i h1
    rw [List.getD_eq_getElem?_getD, List.getElem?_eq_getElem h1] at this
    have e : f[i] = i := this
    rw [e]
    simp [nums]
  · rintro rfl i hi
    rw [nums_l] at hi
    unfold nums
    rw [List.getD_eq_getElem?_getD, List.getElem?_map, List.getElem?_range hi]; rfl
theorem cal_l22Sized : Callable Try.prog 54 := ⟨_, Try.func54, rfl, rfl⟩
theorem sp_l22Sized {p : Prof} (hb : PrB p) : Spec Try.prog 54 [profV p] [] (bv (dec (SdP p))) [] := by
  obtain ⟨b1, b2, b3, b4, b5, b6⟩ := hb
  have b51 := b5.l1
  have b61 := b6.l1
  obtain ⟨c1, c2, c3, c4, c5, c6, c7⟩ := b1
  obtain ⟨d1, d2, d3, d4, d5, d6, d7⟩ := b2
  refine spec_of_V (E := TE) 0 Try.func54 rfl (by simp [Try.f54]) fun X hn hX => ?_
  repeat' (first | (with_reducible first | refine V_seq ?_ | refine V_block ?_ | refine V_skip ?_ | refine V_ret ?_ | refine V_exit ?_) | ((with_reducible refine V_cond ?_); simp only [go_sem, simprocAttr]) | ((first | refine V_region (by rw [hn]; rfl) ?_ | refine V_drawn hmix (by rw [hn]; rfl) ?_); intro K hK) | ((first | with_reducible refine evOps_n ?_ | ((with_reducible apply evOps_g); rfl) | with_reducible refine evOpsD_n ?_ | ((with_reducible apply evOpsD_g); rfl)); intro K hK; simp (contextual := true) only [go_sem, simprocAttr]) | with_reducible refine evOps_nil ?_ | ((with_reducible refine evOpsD_nil ?_ ?_); kernel_rfl) | ((with_reducible refine hK _ ?_); clear hK K) | (with_reducible first | refine And.intro ?_ ?_ | refine nxt_n ?_ | refine nxt_r ?_ | refine nxt_e ?_ | refine blk_n ?_ | refine blk_r ?_ | refine blk_same ?_ | refine blk_other (by decide) ?_ | refine noG_n ?_ | refine noG_r ?_ | refine noG_e ?_ | refine inR_mk ?_ ?_) | (refine fun (hc : (_ : Bool) = _) => ?_; try simp only [hcS] at hc))
  all_goals try exact om_
  all_goals try ((first | refine ret_auto ?_ | refine ret_auto' ?_); simp only [go_sem, simprocAttr, Try.f54]; exact bv_f (fun s => by obtain ⟨u1, u2, u3, u4⟩ := s; first | omega | contradiction))
  have z1 : (p.sz.length : Int) = p.src.ob := by assumption
  have z2 : p.bef.length = p.src.fr.length := by omega
  have z3 : p.beh.length = p.tgt.fr.length := by omega
  refine V_loopK (G := {x : Nat // x ≤ p.sz.length ∧ (∀ k, k < x → SzOK p k)}) (fun ⟨x, _⟩ => [(3, iv x)]) [1] (fun ⟨x, _⟩ => []) [] (fun zz => p.sz.length - zz.1) ⟨0, Nat.zero_le _, by exact (fun k hk => absurd hk (Nat.not_lt_zero k))⟩ ?_ ?_
  · exact Imp.au hX
  rintro ⟨x, hix, hwx⟩
  simp only [go_sem, simprocAttr]
  rcases Nat.lt_or_ge x p.sz.length with hlx | hgx
  · have l4 := b4 x hlx
    repeat' (first | (with_reducible first | refine V_seq ?_ | refine V_block ?_ | refine V_skip ?_ | refine V_ret ?_ | refine V_exit ?_) | ((with_reducible refine V_cond ?_); simp only [go_sem, simprocAttr]) | ((first | refine V_region (by rw [hn]; rfl) ?_ | refine V_drawn hmix (by rw [hn]; rfl) ?_); intro K hK) | ((first | with_reducible refine evOps_n ?_ | ((with_reducible apply evOps_g); rfl) | with_reducible refine evOpsD_n ?_ | ((with_reducible apply evOpsD_g); rfl)); intro K hK; simp (contextual := true) only [go_sem, simprocAttr]) | with_reducible refine evOps_nil ?_ | ((with_reducible refine evOpsD_nil ?_ ?_); kernel_rfl) | ((with_reducible refine hK _ ?_); clear hK K) | (with_reducible first | refine And.intro ?_ ?_ | refine nxt_n ?_ | refine nxt_r ?_ | refine nxt_e ?_ | refine blk_n ?_ | refine blk_r ?_ | refine blk_same ?_ | refine blk_other (by decide) ?_ | refine noG_n ?_ | refine noG_r ?_ | refine noG_e ?_ | refine inR_mk ?_ ?_) | (refine fun (hc : (_ : Bool) = _) => ?_; try simp only [hcS] at hc))
    all_goals try exact om_
    all_goals try ((first | refine ret_auto ?_ | refine ret_auto' ?_); simp only [go_sem, simprocAttr, Try.f54]; exact bv_f (fun s => by have := (s.szr x hlx).1; exact absurd this (by assumption)))
    have hrl : ((p.sz.getD x []).length : Int) = p.tgt.ob := by assumption
    refine V_loopK (G := {y : Nat // y ≤ (p.sz.getD x []).length ∧ (∀ k, k < y → 0 ≤ (p.sz.getD x []).getD k 0 ∧ (p.sz.getD x []).getD k 0 < 65)}) (fun ⟨y, _⟩ => [(4, iv y), (3, iv x)]) [1] (fun ⟨y, _⟩ => []) [] (fun zz => (p.sz.getD x []).length - zz.1) ⟨0, Nat.zero_le _, by exact (fun k hk => absurd hk (Nat.not_lt_zero k))⟩ ?_ ?_
    · exact Imp.au hX
    rintro ⟨y, hiy, hwy⟩
    simp only [go_sem, simprocAttr]
    rcases Nat.lt_or_ge y (p.sz.getD x []).length with hly | hgy
    · repeat' (first | (with_reducible first | refine V_seq ?_ | refine V_block ?_ | refine V_skip ?_ | refine V_ret ?_ | refine V_exit ?_) | ((with_reducible refine V_cond ?_); simp only [go_sem, simprocAttr]) | ((first | refine V_region (by rw [hn]; rfl) ?_ | refine V_drawn hmix (by rw [hn]; rfl) ?_); intro K hK) | ((first | with_reducible refine evOps_n ?_ | ((with_reducible apply evOps_g); rfl) | with_reducible refine evOpsD_n ?_ | ((with_reducible apply evOpsD_g); rfl)); intro K hK; simp (contextual := true) only [go_sem, simprocAttr]) | with_reducible refine evOps_nil ?_ | ((with_reducible refine evOpsD_nil ?_ ?_); kernel_rfl) | ((with_reducible refine hK _ ?_); clear hK K) | (with_reducible first | refine And.intro ?_ ?_ | refine nxt_n ?_ | refine nxt_r ?_ | refine nxt_e ?_ | refine blk_n ?_ | refine blk_r ?_ | refine blk_same ?_ | refine blk_other (by decide) ?_ | refine noG_n ?_ | refine noG_r ?_ | refine noG_e ?_ | refine inR_mk ?_ ?_) | ((with_reducible refine evCall_at 71 ?_); refine EvCall.rq (a := (sp_l01In)) (b := cal_l01In) (c := ?_); all_goals try simp only [go_sem, simprocAttr]) | (refine fun (hc : (_ : Bool) = _) => ?_; try simp only [hcS] at hc))
      all_goals try exact om_
      all_goals try ((first | refine ret_auto ?_ | refine ret_auto' ?_); simp only [go_sem, simprocAttr, Try.f54]; exact bv_f (fun s => by have := (s.szr x hlx).2 y hly; omega))
      refine ⟨⟨y + 1, by omega, (by exact all_s hwy (by omega))⟩, by simp only; omega, Imp.ao hX⟩
    · have ey : y = (p.sz.getD x []).length := by omega
      subst ey
      repeat' (first | (with_reducible first | refine V_seq ?_ | refine V_block ?_ | refine V_skip ?_ | refine V_ret ?_ | refine V_exit ?_) | ((with_reducible refine V_cond ?_); simp only [go_sem, simprocAttr]) | ((first | refine V_region (by rw [hn]; rfl) ?_ | refine V_drawn hmix (by rw [hn]; rfl) ?_); intro K hK) | ((first | with_reducible refine evOps_n ?_ | ((with_reducible apply evOps_g); rfl) | with_reducible refine evOpsD_n ?_ | ((with_reducible apply evOpsD_g); rfl)); intro K hK; simp (contextual := true) only [go_sem, simprocAttr]) | with_reducible refine evOps_nil ?_ | ((with_reducible refine evOpsD_nil ?_ ?_); kernel_rfl) | ((with_reducible refine hK _ ?_); clear hK K) | (with_reducible first | refine And.intro ?_ ?_ | refine nxt_n ?_ | refine nxt_r ?_ | refine nxt_e ?_ | refine blk_n ?_ | refine blk_r ?_ | refine blk_same ?_ | refine blk_other (by decide) ?_ | refine noG_n ?_ | refine noG_r ?_ | refine noG_e ?_ | refine inR_mk ?_ ?_) | (refine fun (hc : (_ : Bool) = _) => ?_; try simp only [hcS] at hc))
      all_goals try exact om_
      refine ⟨⟨x + 1, by omega, (by exact all_s hwx ⟨hrl, hwy⟩)⟩, by simp only; omega, Imp.ao hX⟩
  · have ex : x = p.sz.length := by omega
    subst ex
    repeat' (first | (with_reducible first | refine V_seq ?_ | refine V_block ?_ | refine V_skip ?_ | refine V_ret ?_ | refine V_exit ?_) | ((with_reducible refine V_cond ?_); simp only [go_sem, simprocAttr]) | ((first | refine V_region (by rw [hn]; rfl) ?_ | refine V_drawn hmix (by rw [hn]; rfl) ?_); intro K hK) | ((first | with_reducible refine evOps_n ?_ | ((with_reducible apply evOps_g); rfl) | with_reducible refine evOpsD_n ?_ | ((with_reducible apply evOpsD_g); rfl)); intro K hK; simp (contextual := true) only [go_sem, simprocAttr]) | with_reducible refine evOps_nil ?_ | ((with_reducible refine evOpsD_nil ?_ ?_); kernel_rfl) | ((with_reducible refine hK _ ?_); clear hK K) | (with_reducible first | refine And.intro ?_ ?_ | refine nxt_n ?_ | refine nxt_r ?_ | refine nxt_e ?_ | refine blk_n ?_ | refine blk_r ?_ | refine blk_same ?_ | refine blk_other (by decide) ?_ | refine noG_n ?_ | refine noG_r ?_ | refine noG_e ?_ | refine inR_mk ?_ ?_) | (refine fun (hc : (_ : Bool) = _) => ?_; try simp only [hcS] at hc))
    all_goals try exact om_
    all_goals ((first | refine ret_auto ?_ | refine ret_auto' ?_); simp only [go_sem, simprocAttr, Try.f54]; exact bv_t ⟨z1, z2, z3, hwx⟩)
theorem cal_l22Maps : Callable Try.prog 55 := ⟨_, Try.func55, rfl, rfl⟩
theorem sp_l22Maps {p : Prof} (hb : PrB p) (isC : IsCat p.src) (isD : IsCat p.tgt) (sd : SdP p) : Spec Try.prog 55 [profV p] [] (bv (dec (MpP p))) [] := by
  obtain ⟨b1, b2, b3, b4, b5, b6⟩ := hb
  have b51 := b5.l1
  have b61 := b6.l1
  obtain ⟨z1, z2, z3, zr⟩ := sd
  obtain ⟨s1, s2, s3, s4, s5, s6, s7, s8, s9, s10, s11⟩ := isC.toShape
  obtain ⟨t1, t2, t3, t4, t5, t6, t7, t8, t9, t10, t11⟩ := isD.toShape
  have hsl : ∀ k, k < p.sz.length → ((p.sz.getD k []).length : Int) = p.tgt.ob := fun k hk => (zr k hk).1
  have hsw : ∀ k, k < p.sz.length → ∀ y, y < (p.sz.getD k []).length → 0 ≤ p.S k y ∧ p.S k y < 65 := fun k hk => (zr k hk).2
  refine spec_of_V (E := TE) 0 Try.func55 rfl (by simp [Try.f55]) fun X hn hX => ?_
  repeat' (first | (with_reducible first | refine V_seq ?_ | refine V_block ?_ | refine V_skip ?_ | refine V_ret ?_ | refine V_exit ?_) | ((with_reducible refine V_cond ?_); simp only [go_sem, simprocAttr]) | ((first | refine V_region (by rw [hn]; rfl) ?_ | refine V_drawn hmix (by rw [hn]; rfl) ?_); intro K hK) | ((first | with_reducible refine evOps_n ?_ | ((with_reducible apply evOps_g); rfl) | with_reducible refine evOpsD_n ?_ | ((with_reducible apply evOpsD_g); rfl)); intro K hK; simp (contextual := true) only [go_sem, simprocAttr]) | with_reducible refine evOps_nil ?_ | ((with_reducible refine evOpsD_nil ?_ ?_); kernel_rfl) | ((with_reducible refine hK _ ?_); clear hK K) | (with_reducible first | refine And.intro ?_ ?_ | refine nxt_n ?_ | refine nxt_r ?_ | refine nxt_e ?_ | refine blk_n ?_ | refine blk_r ?_ | refine blk_same ?_ | refine blk_other (by decide) ?_ | refine noG_n ?_ | refine noG_r ?_ | refine noG_e ?_ | refine inR_mk ?_ ?_) | (refine fun (hc : (_ : Bool) = _) => ?_; try simp only [hcS] at hc))
  all_goals try exact om_
  refine V_loopK (G := {a : Nat // a ≤ p.bef.length ∧ (∀ k, k < a → BrOK p k)}) (fun ⟨a, _⟩ => [(5, iv a)]) [1, 3, 4] (fun ⟨a, _⟩ => []) [] (fun zz => p.bef.length - zz.1) ⟨0, Nat.zero_le _, by exact (fun k hk => absurd hk (Nat.not_lt_zero k))⟩ ?_ ?_
  · exact Imp.au hX
  rintro ⟨a, hia, hwa⟩
  simp only [go_sem, simprocAttr]
  rcases Nat.lt_or_ge a p.bef.length with hla | hga
  · have l5 := b5.l2 a hla
    have f1 := s5 a (by omega)
    have f2 := s6 a (by omega)
    repeat' (first | (with_reducible first | refine V_seq ?_ | refine V_block ?_ | refine V_skip ?_ | refine V_ret ?_ | refine V_exit ?_) | ((with_reducible refine V_cond ?_); simp only [go_sem, simprocAttr]) | ((first | refine V_region (by rw [hn]; rfl) ?_ | refine V_drawn hmix (by rw [hn]; rfl) ?_); intro K hK) | ((first | with_reducible refine evOps_n ?_ | ((with_reducible apply evOps_g); rfl) | with_reducible refine evOpsD_n ?_ | ((with_reducible apply evOpsD_g); rfl)); intro K hK; simp (contextual := true) only [go_sem, simprocAttr]) | with_reducible refine evOps_nil ?_ | ((with_reducible refine evOpsD_nil ?_ ?_); kernel_rfl) | ((with_reducible refine hK _ ?_); clear hK K) | (with_reducible first | refine And.intro ?_ ?_ | refine nxt_n ?_ | refine nxt_r ?_ | refine nxt_e ?_ | refine blk_n ?_ | refine blk_r ?_ | refine blk_same ?_ | refine blk_other (by decide) ?_ | refine noG_n ?_ | refine noG_r ?_ | refine noG_e ?_ | refine inR_mk ?_ ?_) | (refine fun (hc : (_ : Bool) = _) => ?_; try simp only [hcS] at hc))
    all_goals try exact om_
    all_goals try ((first | refine ret_auto ?_ | refine ret_auto' ?_); simp only [go_sem, simprocAttr, Try.f55]; exact bv_f (fun s => by have := s.ber a hla; exact absurd this.1 (by assumption)))
    have hrl : ((p.bef.getD a []).length : Int) = p.tgt.ob := by assumption
    refine V_loopK (G := {y : Nat // y ≤ (p.bef.getD a []).length ∧ (∀ k, k < y → BeOK p a k)}) (fun ⟨y, _⟩ => [(6, iv y), (5, iv a)]) [1, 3, 4] (fun ⟨y, _⟩ => []) [] (fun zz => (p.bef.getD a []).length - zz.1) ⟨0, Nat.zero_le _, by exact (fun k hk => absurd hk (Nat.not_lt_zero k))⟩ ?_ ?_
    · exact Imp.au hX
    rintro ⟨y, hiy, hwy⟩
    simp only [go_sem, simprocAttr]
    rcases Nat.lt_or_ge y (p.bef.getD a []).length with hly | hgy
    · have g1 := hsl (p.src.to.getD a 0).toNat (by omega)
      have g2 := hsl (p.src.fr.getD a 0).toNat (by omega)
      have g3 := hsw (p.src.to.getD a 0).toNat (by omega) y (by omega)
      have g4 := hsw (p.src.fr.getD a 0).toNat (by omega) y (by omega)
      have him := sp_l01Map (n := p.S (p.src.fr.getD a 0).toNat y) (l := p.B a y) (b5.l3 a hla y hly)
      repeat' (first | (with_reducible first | refine V_seq ?_ | refine V_block ?_ | refine V_skip ?_ | refine V_ret ?_ | refine V_exit ?_) | ((with_reducible refine V_cond ?_); simp only [go_sem, simprocAttr]) | ((first | refine V_region (by rw [hn]; rfl) ?_ | refine V_drawn hmix (by rw [hn]; rfl) ?_); intro K hK) | ((first | with_reducible refine evOps_n ?_ | ((with_reducible apply evOps_g); rfl) | with_reducible refine evOpsD_n ?_ | ((with_reducible apply evOpsD_g); rfl)); intro K hK; simp (contextual := true) only [go_sem, simprocAttr]) | with_reducible refine evOps_nil ?_ | ((with_reducible refine evOpsD_nil ?_ ?_); kernel_rfl) | ((with_reducible refine hK _ ?_); clear hK K) | (with_reducible first | refine And.intro ?_ ?_ | refine nxt_n ?_ | refine nxt_r ?_ | refine nxt_e ?_ | refine blk_n ?_ | refine blk_r ?_ | refine blk_same ?_ | refine blk_other (by decide) ?_ | refine noG_n ?_ | refine noG_r ?_ | refine noG_e ?_ | refine inR_mk ?_ ?_) | ((with_reducible refine evCall_at 72 ?_); refine EvCall.mk (him) cal_l01Map [] [] (by simp [go_sem] <;> (repeat' (first | rfl | constructor))) (by simp [go_sem] <;> (repeat' (first | rfl | constructor))) ?_; all_goals try simp only [go_sem, simprocAttr]) | (refine fun (hc : (_ : Bool) = _) => ?_; try simp only [hcS] at hc))
      all_goals try exact om_
      all_goals try ((first | refine ret_auto ?_ | refine ret_auto' ?_); simp only [go_sem, simprocAttr, Try.f55]; exact bv_f (fun s => by have := (s.ber a hla).2 y hly; exact absurd this.1 (by assumption)))
      all_goals try ((first | refine ret_auto ?_ | refine ret_auto' ?_); simp only [go_sem, simprocAttr, Try.f55]; exact bv_f (fun s => by have := (s.ber a hla).2 y hly; exact absurd this.2 (by assumption)))
      refine ⟨⟨y + 1, by omega, (by exact all_s hwy ⟨by assumption, by assumption⟩)⟩, by simp only; omega, Imp.ao hX⟩
    · have ey : y = (p.bef.getD a []).length := by omega
      subst ey
      repeat' (first | (with_reducible first | refine V_seq ?_ | refine V_block ?_ | refine V_skip ?_ | refine V_ret ?_ | refine V_exit ?_) | ((with_reducible refine V_cond ?_); simp only [go_sem, simprocAttr]) | ((first | refine V_region (by rw [hn]; rfl) ?_ | refine V_drawn hmix (by rw [hn]; rfl) ?_); intro K hK) | ((first | with_reducible refine evOps_n ?_ | ((with_reducible apply evOps_g); rfl) | with_reducible refine evOpsD_n ?_ | ((with_reducible apply evOpsD_g); rfl)); intro K hK; simp (contextual := true) only [go_sem, simprocAttr]) | with_reducible refine evOps_nil ?_ | ((with_reducible refine evOpsD_nil ?_ ?_); kernel_rfl) | ((with_reducible refine hK _ ?_); clear hK K) | (with_reducible first | refine And.intro ?_ ?_ | refine nxt_n ?_ | refine nxt_r ?_ | refine nxt_e ?_ | refine blk_n ?_ | refine blk_r ?_ | refine blk_same ?_ | refine blk_other (by decide) ?_ | refine noG_n ?_ | refine noG_r ?_ | refine noG_e ?_ | refine inR_mk ?_ ?_) | (refine fun (hc : (_ : Bool) = _) => ?_; try simp only [hcS] at hc))
      all_goals try exact om_
      refine ⟨⟨a + 1, by omega, (by exact all_s hwa ⟨hrl, hwy⟩)⟩, by simp only; omega, Imp.ao hX⟩
  · have ea : a = p.bef.length := by omega
    subst ea
    repeat' (first | (with_reducible first | refine V_seq ?_ | refine V_block ?_ | refine V_skip ?_ | refine V_ret ?_ | refine V_exit ?_) | ((with_reducible refine V_cond ?_); simp only [go_sem, simprocAttr]) | ((first | refine V_region (by rw [hn]; rfl) ?_ | refine V_drawn hmix (by rw [hn]; rfl) ?_); intro K hK) | ((first | with_reducible refine evOps_n ?_ | ((with_reducible apply evOps_g); rfl) | with_reducible refine evOpsD_n ?_ | ((with_reducible apply evOpsD_g); rfl)); intro K hK; simp (contextual := true) only [go_sem, simprocAttr]) | with_reducible refine evOps_nil ?_ | ((with_reducible refine evOpsD_nil ?_ ?_); kernel_rfl) | ((with_reducible refine hK _ ?_); clear hK K) | (with_reducible first | refine And.intro ?_ ?_ | refine nxt_n ?_ | refine nxt_r ?_ | refine nxt_e ?_ | refine blk_n ?_ | refine blk_r ?_ | refine blk_same ?_ | refine blk_other (by decide) ?_ | refine noG_n ?_ | refine noG_r ?_ | refine noG_e ?_ | refine inR_mk ?_ ?_) | (refine fun (hc : (_ : Bool) = _) => ?_; try simp only [hcS] at hc))
    all_goals try exact om_
    refine V_loopK (G := {b : Nat // b ≤ p.beh.length ∧ (∀ k, k < b → HrOK p k)}) (fun ⟨b, _⟩ => [(8, iv b)]) [1, 3, 4] (fun ⟨b, _⟩ => []) [] (fun zz => p.beh.length - zz.1) ⟨0, Nat.zero_le _, by exact (fun k hk => absurd hk (Nat.not_lt_zero k))⟩ ?_ ?_
    · exact Imp.au hX
    rintro ⟨b, hib, hwb⟩
    simp only [go_sem, simprocAttr]
    rcases Nat.lt_or_ge b p.beh.length with hlb | hgb
    · have l5 := b6.l2 b hlb
      have f1 := t5 b (by omega)
      have f2 := t6 b (by omega)
      repeat' (first | (with_reducible first | refine V_seq ?_ | refine V_block ?_ | refine V_skip ?_ | refine V_ret ?_ | refine V_exit ?_) | ((with_reducible refine V_cond ?_); simp only [go_sem, simprocAttr]) | ((first | refine V_region (by rw [hn]; rfl) ?_ | refine V_drawn hmix (by rw [hn]; rfl) ?_); intro K hK) | ((first | with_reducible refine evOps_n ?_ | ((with_reducible apply evOps_g); rfl) | with_reducible refine evOpsD_n ?_ | ((with_reducible apply evOpsD_g); rfl)); intro K hK; simp (contextual := true) only [go_sem, simprocAttr]) | with_reducible refine evOps_nil ?_ | ((with_reducible refine evOpsD_nil ?_ ?_); kernel_rfl) | ((with_reducible refine hK _ ?_); clear hK K) | (with_reducible first | refine And.intro ?_ ?_ | refine nxt_n ?_ | refine nxt_r ?_ | refine nxt_e ?_ | refine blk_n ?_ | refine blk_r ?_ | refine blk_same ?_ | refine blk_other (by decide) ?_ | refine noG_n ?_ | refine noG_r ?_ | refine noG_e ?_ | refine inR_mk ?_ ?_) | (refine fun (hc : (_ : Bool) = _) => ?_; try simp only [hcS] at hc))
      all_goals try exact om_
      all_goals try ((first | refine ret_auto ?_ | refine ret_auto' ?_); simp only [go_sem, simprocAttr, Try.f55]; exact bv_f (fun s => by have := s.her b hlb; exact absurd this.1 (by assumption)))
      have hrl : ((p.beh.getD b []).length : Int) = p.src.ob := by assumption
      refine V_loopK (G := {y : Nat // y ≤ (p.beh.getD b []).length ∧ (∀ k, k < y → HeOK p b k)}) (fun ⟨y, _⟩ => [(9, iv y), (8, iv b)]) [1, 3, 4] (fun ⟨y, _⟩ => []) [] (fun zz => (p.beh.getD b []).length - zz.1) ⟨0, Nat.zero_le _, by exact (fun k hk => absurd hk (Nat.not_lt_zero k))⟩ ?_ ?_
      · exact Imp.au hX
      rintro ⟨y, hiy, hwy⟩
      simp only [go_sem, simprocAttr]
      rcases Nat.lt_or_ge y (p.beh.getD b []).length with hly | hgy
      · have g1 := hsl y (by omega)
        have g3 := hsw y (by omega) (p.tgt.fr.getD b 0).toNat (by omega)
        have g4 := hsw y (by omega) (p.tgt.to.getD b 0).toNat (by omega)
        have him := sp_l01Map (n := p.S y (p.tgt.to.getD b 0).toNat) (l := p.H b y) (b6.l3 b hlb y hly)
        repeat' (first | (with_reducible first | refine V_seq ?_ | refine V_block ?_ | refine V_skip ?_ | refine V_ret ?_ | refine V_exit ?_) | ((with_reducible refine V_cond ?_); simp only [go_sem, simprocAttr]) | ((first | refine V_region (by rw [hn]; rfl) ?_ | refine V_drawn hmix (by rw [hn]; rfl) ?_); intro K hK) | ((first | with_reducible refine evOps_n ?_ | ((with_reducible apply evOps_g); rfl) | with_reducible refine evOpsD_n ?_ | ((with_reducible apply evOpsD_g); rfl)); intro K hK; simp (contextual := true) only [go_sem, simprocAttr]) | with_reducible refine evOps_nil ?_ | ((with_reducible refine evOpsD_nil ?_ ?_); kernel_rfl) | ((with_reducible refine hK _ ?_); clear hK K) | (with_reducible first | refine And.intro ?_ ?_ | refine nxt_n ?_ | refine nxt_r ?_ | refine nxt_e ?_ | refine blk_n ?_ | refine blk_r ?_ | refine blk_same ?_ | refine blk_other (by decide) ?_ | refine noG_n ?_ | refine noG_r ?_ | refine noG_e ?_ | refine inR_mk ?_ ?_) | ((with_reducible refine evCall_at 72 ?_); refine EvCall.mk (him) cal_l01Map [] [] (by simp [go_sem] <;> (repeat' (first | rfl | constructor))) (by simp [go_sem] <;> (repeat' (first | rfl | constructor))) ?_; all_goals try simp only [go_sem, simprocAttr]) | (refine fun (hc : (_ : Bool) = _) => ?_; try simp only [hcS] at hc))
        all_goals try exact om_
        all_goals try ((first | refine ret_auto ?_ | refine ret_auto' ?_); simp only [go_sem, simprocAttr, Try.f55]; exact bv_f (fun s => by have := (s.her b hlb).2 y hly; exact absurd this.1 (by assumption)))
        all_goals try ((first | refine ret_auto ?_ | refine ret_auto' ?_); simp only [go_sem, simprocAttr, Try.f55]; exact bv_f (fun s => by have := (s.her b hlb).2 y hly; exact absurd this.2 (by assumption)))
        refine ⟨⟨y + 1, by omega, (by exact all_s hwy ⟨by assumption, by assumption⟩)⟩, by simp only; omega, Imp.ao hX⟩
      · have ey : y = (p.beh.getD b []).length := by omega
        subst ey
        repeat' (first | (with_reducible first | refine V_seq ?_ | refine V_block ?_ | refine V_skip ?_ | refine V_ret ?_ | refine V_exit ?_) | ((with_reducible refine V_cond ?_); simp only [go_sem, simprocAttr]) | ((first | refine V_region (by rw [hn]; rfl) ?_ | refine V_drawn hmix (by rw [hn]; rfl) ?_); intro K hK) | ((first | with_reducible refine evOps_n ?_ | ((with_reducible apply evOps_g); rfl) | with_reducible refine evOpsD_n ?_ | ((with_reducible apply evOpsD_g); rfl)); intro K hK; simp (contextual := true) only [go_sem, simprocAttr]) | with_reducible refine evOps_nil ?_ | ((with_reducible refine evOpsD_nil ?_ ?_); kernel_rfl) | ((with_reducible refine hK _ ?_); clear hK K) | (with_reducible first | refine And.intro ?_ ?_ | refine nxt_n ?_ | refine nxt_r ?_ | refine nxt_e ?_ | refine blk_n ?_ | refine blk_r ?_ | refine blk_same ?_ | refine blk_other (by decide) ?_ | refine noG_n ?_ | refine noG_r ?_ | refine noG_e ?_ | refine inR_mk ?_ ?_) | (refine fun (hc : (_ : Bool) = _) => ?_; try simp only [hcS] at hc))
        all_goals try exact om_
        refine ⟨⟨b + 1, by omega, (by exact all_s hwb ⟨hrl, hwy⟩)⟩, by simp only; omega, Imp.ao hX⟩
    · have eb : b = p.beh.length := by omega
      subst eb
      repeat' (first | (with_reducible first | refine V_seq ?_ | refine V_block ?_ | refine V_skip ?_ | refine V_ret ?_ | refine V_exit ?_) | ((with_reducible refine V_cond ?_); simp only [go_sem, simprocAttr]) | ((first | refine V_region (by rw [hn]; rfl) ?_ | refine V_drawn hmix (by rw [hn]; rfl) ?_); intro K hK) | ((first | with_reducible refine evOps_n ?_ | ((with_reducible apply evOps_g); rfl) | with_reducible refine evOpsD_n ?_ | ((with_reducible apply evOpsD_g); rfl)); intro K hK; simp (contextual := true) only [go_sem, simprocAttr]) | with_reducible refine evOps_nil ?_ | ((with_reducible refine evOpsD_nil ?_ ?_); kernel_rfl) | ((with_reducible refine hK _ ?_); clear hK K) | (with_reducible first | refine And.intro ?_ ?_ | refine nxt_n ?_ | refine nxt_r ?_ | refine nxt_e ?_ | refine blk_n ?_ | refine blk_r ?_ | refine blk_same ?_ | refine blk_other (by decide) ?_ | refine noG_n ?_ | refine noG_r ?_ | refine noG_e ?_ | refine inR_mk ?_ ?_) | (refine fun (hc : (_ : Bool) = _) => ?_; try simp only [hcS] at hc))
      all_goals try exact om_
      all_goals ((first | refine ret_auto ?_ | refine ret_auto' ?_); simp only [go_sem, simprocAttr, Try.f55]; exact bv_t ⟨hwa, hwb⟩)
theorem cal_l22Calm : Callable Try.prog 73 := ⟨_, Try.func73, rfl, rfl⟩
theorem sp_l22Calm {f : List Int} (hl : f.length ≤ 1048576) : Spec Try.prog 73 [.bor [] (ints f)] [] (bv (dec (CalmP f))) [] := by
  refine spec_of_V (E := TE) 0 Try.func73 rfl (by simp [Try.f73]) fun X hn hX => ?_
  repeat' (first | (with_reducible first | refine V_seq ?_ | refine V_block ?_ | refine V_skip ?_ | refine V_ret ?_ | refine V_exit ?_) | ((with_reducible refine V_cond ?_); simp only [go_sem, simprocAttr]) | ((refine V_region (by rw [hn]; rfl) ?_); intro K hK) | ((first | with_reducible refine evOps_n ?_ | ((with_reducible apply evOps_g); rfl)); intro K hK; simp (contextual := true) only [go_sem, simprocAttr]) | with_reducible refine evOps_nil ?_ | ((with_reducible refine hK _ ?_); clear hK K) | (with_reducible first | refine And.intro ?_ ?_ | refine nxt_n ?_ | refine nxt_r ?_ | refine nxt_e ?_ | refine blk_n ?_ | refine blk_r ?_ | refine blk_same ?_ | refine blk_other (by decide) ?_ | refine noG_n ?_ | refine noG_r ?_ | refine noG_e ?_ | refine inR_mk ?_ ?_) | (refine fun (hc : (_ : Bool) = _) => ?_; try simp only [hcS] at hc))
  all_goals try exact om_
  refine V_loopK (G := {i : Nat // i ≤ f.length ∧ (∀ k, k < i → f.getD k 0 = k)}) (fun ⟨i, _⟩ => [(3, iv i)]) [0] (fun ⟨i, _⟩ => []) [] (fun zz => f.length - zz.1) ⟨0, Nat.zero_le _, by exact (fun k hk => absurd hk (Nat.not_lt_zero k))⟩ ?_ ?_
  · exact Imp.au hX
  rintro ⟨i, hii, hwi⟩
  simp only [go_sem, simprocAttr]
  rcases Nat.lt_or_ge i f.length with hli | hgi
  · repeat' (first | (with_reducible first | refine V_seq ?_ | refine V_block ?_ | refine V_skip ?_ | refine V_ret ?_ | refine V_exit ?_) | ((with_reducible refine V_cond ?_); simp only [go_sem, simprocAttr]) | ((refine V_region (by rw [hn]; rfl) ?_); intro K hK) | ((first | with_reducible refine evOps_n ?_ | ((with_reducible apply evOps_g); rfl)); intro K hK; simp (contextual := true) only [go_sem, simprocAttr]) | with_reducible refine evOps_nil ?_ | ((with_reducible refine hK _ ?_); clear hK K) | (with_reducible first | refine And.intro ?_ ?_ | refine nxt_n ?_ | refine nxt_r ?_ | refine nxt_e ?_ | refine blk_n ?_ | refine blk_r ?_ | refine blk_same ?_ | refine blk_other (by decide) ?_ | refine noG_n ?_ | refine noG_r ?_ | refine noG_e ?_ | refine inR_mk ?_ ?_) | (refine fun (hc : (_ : Bool) = _) => ?_; try simp only [hcS] at hc))
    all_goals try exact om_
    all_goals try ((first | refine ret_auto ?_ | refine ret_auto' ?_); simp only [go_sem, simprocAttr, Try.f73]; exact bv_f (fun s => absurd (s i hli) (by assumption)))
    refine ⟨⟨i + 1, by omega, (by exact all_s hwi (by assumption))⟩, by simp only; omega, Imp.ao hX⟩
  · have ei : i = f.length := by omega
    subst ei
    repeat' (first | (with_reducible first | refine V_seq ?_ | refine V_block ?_ | refine V_skip ?_ | refine V_ret ?_ | refine V_exit ?_) | ((with_reducible refine V_cond ?_); simp only [go_sem, simprocAttr]) | ((refine V_region (by rw [hn]; rfl) ?_); intro K hK) | ((first | with_reducible refine evOps_n ?_ | ((with_reducible apply evOps_g); rfl)); intro K hK; simp (contextual := true) only [go_sem, simprocAttr]) | with_reducible refine evOps_nil ?_ | ((with_reducible refine hK _ ?_); clear hK K) | (with_reducible first | refine And.intro ?_ ?_ | refine nxt_n ?_ | refine nxt_r ?_ | refine nxt_e ?_ | refine blk_n ?_ | refine blk_r ?_ | refine blk_same ?_ | refine blk_other (by decide) ?_ | refine noG_n ?_ | refine noG_r ?_ | refine noG_e ?_ | refine inR_mk ?_ ?_) | (refine fun (hc : (_ : Bool) = _) => ?_; try simp only [hcS] at hc))
    all_goals try exact om_
    all_goals ((first | refine ret_auto ?_ | refine ret_auto' ?_); simp only [go_sem, simprocAttr, Try.f73]; exact bv_t hwi)
end Go.Eng
