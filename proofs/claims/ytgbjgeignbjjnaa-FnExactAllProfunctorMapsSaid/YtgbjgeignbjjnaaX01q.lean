/- Profunctors, by the program: their sets and maps. -/
import Derived.Test.YtgbjgeignbjjnaaEngPrq
import Derived.Test.YtgbjgeignbjjnaaC02q
set_option linter.unusedSimpArgs false
set_option linter.unusedVariables false
set_option maxRecDepth 100000
set_option maxHeartbeats 16000000
namespace Go.Eng
open Go Go.Proofs Go.Cats
theorem all_s {P : Nat → Prop} {i : Nat} (h : ∀ k, k < i → P k) (hi : P i) : ∀ k, k < i + 1 → P k := fun k hk => by
  by_cases e : k = i
  · subst e; exact hi
  · exact h k (by omega)
theorem cal_Profunctor_isShape : Callable Try.prog 62 := ⟨_, Try.func62, rfl, rfl⟩
theorem sp_Profunctor_isShape {p : Prof} (hb : PrB p) : Spec Try.prog 62 [.bptr [] (profD p)] [] (bv (dec (PrShape p))) [] := by
  obtain ⟨b1, b2, b3, b4, b5, b6⟩ := hb
  have b51 := b5.l1
  have b61 := b6.l1
  by_cases hcc : IsCat p.src ∧ IsCat p.tgt
  · have v1 := sp_areCategories_two b1 b2
    rw [dec_t hcc] at v1
    obtain ⟨isC, isD⟩ := hcc
    obtain ⟨s1, s2, s3, s4, s5, s6, s7, s8, s9, s10, s11⟩ := isC.toShape
    obtain ⟨t1, t2, t3, t4, t5, t6, t7, t8, t9, t10, t11⟩ := isD.toShape
    refine spec_of_V (E := TE) 0 Try.func62 rfl (by simp [Try.f62]) fun X hn hX => ?_
    repeat' (first | (with_reducible first | refine V_seq ?_ | refine V_block ?_ | refine V_skip ?_ | refine V_ret ?_ | refine V_exit ?_) | ((with_reducible refine V_cond ?_); simp only [go_sem, simprocAttr]) | ((first | refine V_region (by rw [hn]; rfl) ?_ | refine V_drawn hmix (by rw [hn]; rfl) ?_); intro K hK) | ((first | with_reducible refine evOps_n ?_ | ((with_reducible apply evOps_g); rfl) | with_reducible refine evOpsD_n ?_ | ((with_reducible apply evOpsD_g); rfl)); intro K hK; simp (contextual := true) only [go_sem, simprocAttr]) | with_reducible refine evOps_nil ?_ | ((with_reducible refine evOpsD_nil ?_ ?_); kernel_rfl) | ((with_reducible refine hK _ ?_); clear hK K) | (with_reducible first | refine And.intro ?_ ?_ | refine nxt_n ?_ | refine nxt_r ?_ | refine nxt_e ?_ | refine blk_n ?_ | refine blk_r ?_ | refine blk_same ?_ | refine blk_other (by decide) ?_ | refine noG_n ?_ | refine noG_r ?_ | refine noG_e ?_ | refine inR_mk ?_ ?_) | ((with_reducible refine evCall_at 77 ?_); refine EvCall.mk (v1) cal_areCategories [] [0] (by simp [go_sem] <;> (repeat' (first | rfl | constructor))) (by simp [go_sem] <;> (repeat' (first | rfl | constructor))) ?_; all_goals try simp only [go_sem, simprocAttr]) | ((with_reducible refine evCall_at 78 ?_); refine EvCall.rq (a := (sp_Category_arrows (c:=p.src))) (b := cal_Category_arrows) (c := ?_); all_goals try simp only [go_sem, simprocAttr]) | ((with_reducible refine evCall_at 78 ?_); refine EvCall.rq (a := (sp_Category_arrows (c:=p.tgt))) (b := cal_Category_arrows) (c := ?_); all_goals try simp only [go_sem, simprocAttr]) | (refine fun (hc : (_ : Bool) = _) => ?_; try simp only [hcS] at hc))
    all_goals try exact om_
    all_goals try ((first | refine ret_auto ?_ | refine ret_auto' ?_); simp only [go_sem, simprocAttr, Try.f62]; exact bv_f (fun s => by obtain ⟨u1, u2, u3, u4, u5, u6, u7, u8⟩ := s; first | omega | contradiction))
    have z1 : (p.sz.length : Int) = p.src.ob := by assumption
    have z2 : p.bef.length = p.src.fr.length := by omega
    have z3 : p.beh.length = p.tgt.fr.length := by omega
    refine V_loopK (G := {x : Nat // x ≤ p.sz.length ∧ (∀ k, k < x → SzOK p k)}) (fun ⟨x, _⟩ => [(63, iv x), (23, .bsl 0 2)]) [0, 3, 4, 61, 62] (fun ⟨x, _⟩ => []) [] (fun zz => p.sz.length - zz.1) ⟨0, Nat.zero_le _, by exact (fun k hk => absurd hk (Nat.not_lt_zero k))⟩ ?_ ?_
    · exact Imp.au hX
    rintro ⟨x, hix, hwx⟩
    simp only [go_sem, simprocAttr]
    have l4 := b4 x
    rcases Nat.lt_or_ge x p.sz.length with hlx | hgx
    · repeat' (first | (with_reducible first | refine V_seq ?_ | refine V_block ?_ | refine V_skip ?_ | refine V_ret ?_ | refine V_exit ?_) | ((with_reducible refine V_cond ?_); simp only [go_sem, simprocAttr]) | ((first | refine V_region (by rw [hn]; rfl) ?_ | refine V_drawn hmix (by rw [hn]; rfl) ?_); intro K hK) | ((first | with_reducible refine evOps_n ?_ | ((with_reducible apply evOps_g); rfl) | with_reducible refine evOpsD_n ?_ | ((with_reducible apply evOpsD_g); rfl)); intro K hK; simp (contextual := true) only [go_sem, simprocAttr]) | with_reducible refine evOps_nil ?_ | ((with_reducible refine evOpsD_nil ?_ ?_); kernel_rfl) | ((with_reducible refine hK _ ?_); clear hK K) | (with_reducible first | refine And.intro ?_ ?_ | refine nxt_n ?_ | refine nxt_r ?_ | refine nxt_e ?_ | refine blk_n ?_ | refine blk_r ?_ | refine blk_same ?_ | refine blk_other (by decide) ?_ | refine noG_n ?_ | refine noG_r ?_ | refine noG_e ?_ | refine inR_mk ?_ ?_) | ((with_reducible refine evCall_at 79 ?_); refine EvCall.mk ((sp_within (l:=p.sz.getD x []) (n:=65) (by unfold inR; omega) (by omega))) cal_within [] [] (by simp [go_sem] <;> (repeat' (first | rfl | constructor))) (by simp [go_sem] <;> (repeat' (first | rfl | constructor))) ?_; all_goals try simp only [go_sem, simprocAttr]) | (refine fun (hc : (_ : Bool) = _) => ?_; try simp only [hcS] at hc))
      all_goals try exact om_
      all_goals try ((first | refine ret_auto ?_ | refine ret_auto' ?_); simp only [go_sem, simprocAttr, Try.f62]; exact bv_f (fun s => by have := s.szr x hlx; exact absurd this.1 (by assumption)))
      all_goals try ((first | refine ret_auto ?_ | refine ret_auto' ?_); simp only [go_sem, simprocAttr, Try.f62]; exact bv_f (fun s => by have := s.szr x hlx; exact absurd this.2 (by assumption)))
      refine ⟨⟨x + 1, by omega, (by exact all_s hwx ⟨by assumption, by assumption⟩)⟩, by simp only; omega, Imp.ao hX⟩
    · have ex : x = p.sz.length := by omega
      subst ex
      have hsl : ∀ k, k < p.sz.length → ((p.sz.getD k []).length : Int) = p.tgt.ob := fun k hk => (hwx k hk).1
      have hsw : ∀ k, k < p.sz.length → ∀ y, y < (p.sz.getD k []).length → 0 ≤ p.S k y ∧ p.S k y < 65 := fun k hk => (hwx k hk).2
      repeat' (first | (with_reducible first | refine V_seq ?_ | refine V_block ?_ | refine V_skip ?_ | refine V_ret ?_ | refine V_exit ?_) | ((with_reducible refine V_cond ?_); simp only [go_sem, simprocAttr]) | ((first | refine V_region (by rw [hn]; rfl) ?_ | refine V_drawn hmix (by rw [hn]; rfl) ?_); intro K hK) | ((first | with_reducible refine evOps_n ?_ | ((with_reducible apply evOps_g); rfl) | with_reducible refine evOpsD_n ?_ | ((with_reducible apply evOpsD_g); rfl)); intro K hK; simp (contextual := true) only [go_sem, simprocAttr]) | with_reducible refine evOps_nil ?_ | ((with_reducible refine evOpsD_nil ?_ ?_); kernel_rfl) | ((with_reducible refine hK _ ?_); clear hK K) | (with_reducible first | refine And.intro ?_ ?_ | refine nxt_n ?_ | refine nxt_r ?_ | refine nxt_e ?_ | refine blk_n ?_ | refine blk_r ?_ | refine blk_same ?_ | refine blk_other (by decide) ?_ | refine noG_n ?_ | refine noG_r ?_ | refine noG_e ?_ | refine inR_mk ?_ ?_) | (refine fun (hc : (_ : Bool) = _) => ?_; try simp only [hcS] at hc))
      all_goals try exact om_
      refine V_loopK (G := {a : Nat // a ≤ p.bef.length ∧ (∀ k, k < a → BrOK p k)}) (fun ⟨a, _⟩ => [(85, iv a), (23, .bsl 0 2)]) [0, 3, 4, 83, 84] (fun ⟨a, _⟩ => []) [] (fun zz => p.bef.length - zz.1) ⟨0, Nat.zero_le _, by exact (fun k hk => absurd hk (Nat.not_lt_zero k))⟩ ?_ ?_
      · exact Imp.au hX
      rintro ⟨a, hia, hwa⟩
      simp only [go_sem, simprocAttr]
      rcases Nat.lt_or_ge a p.bef.length with hla | hga
      · have l5 := b5.l2 a hla
        have f1 := s5 a (by omega)
        have f2 := s6 a (by omega)
        repeat' (first | (with_reducible first | refine V_seq ?_ | refine V_block ?_ | refine V_skip ?_ | refine V_ret ?_ | refine V_exit ?_) | ((with_reducible refine V_cond ?_); simp only [go_sem, simprocAttr]) | ((first | refine V_region (by rw [hn]; rfl) ?_ | refine V_drawn hmix (by rw [hn]; rfl) ?_); intro K hK) | ((first | with_reducible refine evOps_n ?_ | ((with_reducible apply evOps_g); rfl) | with_reducible refine evOpsD_n ?_ | ((with_reducible apply evOpsD_g); rfl)); intro K hK; simp (contextual := true) only [go_sem, simprocAttr]) | with_reducible refine evOps_nil ?_ | ((with_reducible refine evOpsD_nil ?_ ?_); kernel_rfl) | ((with_reducible refine hK _ ?_); clear hK K) | (with_reducible first | refine And.intro ?_ ?_ | refine nxt_n ?_ | refine nxt_r ?_ | refine nxt_e ?_ | refine blk_n ?_ | refine blk_r ?_ | refine blk_same ?_ | refine blk_other (by decide) ?_ | refine noG_n ?_ | refine noG_r ?_ | refine noG_e ?_ | refine inR_mk ?_ ?_) | (refine fun (hc : (_ : Bool) = _) => ?_; try simp only [hcS] at hc))
        all_goals try exact om_
        all_goals try ((first | refine ret_auto ?_ | refine ret_auto' ?_); simp only [go_sem, simprocAttr, Try.f62]; exact bv_f (fun s => by have := s.ber a hla; exact absurd this.1 (by assumption)))
        have hrl : ((p.bef.getD a []).length : Int) = p.tgt.ob := by assumption
        refine V_loopK (G := {y : Nat // y ≤ (p.bef.getD a []).length ∧ (∀ k, k < y → BeOK p a k)}) (fun ⟨y, _⟩ => [(99, iv y), (7, iv a), (8, .bor [] (intss (p.bef.getD a []))), (23, .bsl 0 2)]) [0, 3, 4, 83, 84, 85, 97, 98] (fun ⟨y, _⟩ => []) [] (fun zz => (p.bef.getD a []).length - zz.1) ⟨0, Nat.zero_le _, by exact (fun k hk => absurd hk (Nat.not_lt_zero k))⟩ ?_ ?_
        · exact Imp.au hX
        rintro ⟨y, hiy, hwy⟩
        simp only [go_sem, simprocAttr]
        rcases Nat.lt_or_ge y (p.bef.getD a []).length with hly | hgy
        · have g1 := hsl (p.src.to.getD a 0).toNat (by omega)
          have g2 := hsl (p.src.fr.getD a 0).toNat (by omega)
          have g3 := hsw (p.src.to.getD a 0).toNat (by omega) y (by omega)
          have g4 := hsw (p.src.fr.getD a 0).toNat (by omega) y (by omega)
          have him := sp_isMapOf (l := p.B a y) (m := p.S (p.src.to.getD a 0).toNat y) (n := p.S (p.src.fr.getD a 0).toNat y) (by unfold inR; omega) (b5.l3 a hla y hly)
          repeat' (first | (with_reducible first | refine V_seq ?_ | refine V_block ?_ | refine V_skip ?_ | refine V_ret ?_ | refine V_exit ?_) | ((with_reducible refine V_cond ?_); simp only [go_sem, simprocAttr]) | ((first | refine V_region (by rw [hn]; rfl) ?_ | refine V_drawn hmix (by rw [hn]; rfl) ?_); intro K hK) | ((first | with_reducible refine evOps_n ?_ | ((with_reducible apply evOps_g); rfl) | with_reducible refine evOpsD_n ?_ | ((with_reducible apply evOpsD_g); rfl)); intro K hK; simp (contextual := true) only [go_sem, simprocAttr]) | with_reducible refine evOps_nil ?_ | ((with_reducible refine evOpsD_nil ?_ ?_); kernel_rfl) | ((with_reducible refine hK _ ?_); clear hK K) | (with_reducible first | refine And.intro ?_ ?_ | refine nxt_n ?_ | refine nxt_r ?_ | refine nxt_e ?_ | refine blk_n ?_ | refine blk_r ?_ | refine blk_same ?_ | refine blk_other (by decide) ?_ | refine noG_n ?_ | refine noG_r ?_ | refine noG_e ?_ | refine inR_mk ?_ ?_) | ((with_reducible refine evCall_at 80 ?_); refine EvCall.mk (him) cal_isMapOf [] [] (by simp [go_sem] <;> (repeat' (first | rfl | constructor))) (by simp [go_sem] <;> (repeat' (first | rfl | constructor))) ?_; all_goals try simp only [go_sem, simprocAttr]) | (refine fun (hc : (_ : Bool) = _) => ?_; try simp only [hcS] at hc))
          all_goals try exact om_
          all_goals try ((first | refine ret_auto ?_ | refine ret_auto' ?_); simp only [go_sem, simprocAttr, Try.f62]; exact bv_f (fun s => by have := (s.ber a hla).2 y hly; exact absurd this (by assumption)))
          refine ⟨⟨y + 1, by omega, (by exact all_s hwy (by assumption))⟩, by simp only; omega, Imp.ao hX⟩
        · have ey : y = (p.bef.getD a []).length := by omega
          subst ey
          repeat' (first | (with_reducible first | refine V_seq ?_ | refine V_block ?_ | refine V_skip ?_ | refine V_ret ?_ | refine V_exit ?_) | ((with_reducible refine V_cond ?_); simp only [go_sem, simprocAttr]) | ((first | refine V_region (by rw [hn]; rfl) ?_ | refine V_drawn hmix (by rw [hn]; rfl) ?_); intro K hK) | ((first | with_reducible refine evOps_n ?_ | ((with_reducible apply evOps_g); rfl) | with_reducible refine evOpsD_n ?_ | ((with_reducible apply evOpsD_g); rfl)); intro K hK; simp (contextual := true) only [go_sem, simprocAttr]) | with_reducible refine evOps_nil ?_ | ((with_reducible refine evOpsD_nil ?_ ?_); kernel_rfl) | ((with_reducible refine hK _ ?_); clear hK K) | (with_reducible first | refine And.intro ?_ ?_ | refine nxt_n ?_ | refine nxt_r ?_ | refine nxt_e ?_ | refine blk_n ?_ | refine blk_r ?_ | refine blk_same ?_ | refine blk_other (by decide) ?_ | refine noG_n ?_ | refine noG_r ?_ | refine noG_e ?_ | refine inR_mk ?_ ?_) | (refine fun (hc : (_ : Bool) = _) => ?_; try simp only [hcS] at hc))
          all_goals try exact om_
          refine ⟨⟨a + 1, by omega, (by exact all_s hwa ⟨hrl, hwy⟩)⟩, by simp only; omega, Imp.ao hX⟩
      · have ea : a = p.bef.length := by omega
        subst ea
        repeat' (first | (with_reducible first | refine V_seq ?_ | refine V_block ?_ | refine V_skip ?_ | refine V_ret ?_ | refine V_exit ?_) | ((with_reducible refine V_cond ?_); simp only [go_sem, simprocAttr]) | ((first | refine V_region (by rw [hn]; rfl) ?_ | refine V_drawn hmix (by rw [hn]; rfl) ?_); intro K hK) | ((first | with_reducible refine evOps_n ?_ | ((with_reducible apply evOps_g); rfl) | with_reducible refine evOpsD_n ?_ | ((with_reducible apply evOpsD_g); rfl)); intro K hK; simp (contextual := true) only [go_sem, simprocAttr]) | with_reducible refine evOps_nil ?_ | ((with_reducible refine evOpsD_nil ?_ ?_); kernel_rfl) | ((with_reducible refine hK _ ?_); clear hK K) | (with_reducible first | refine And.intro ?_ ?_ | refine nxt_n ?_ | refine nxt_r ?_ | refine nxt_e ?_ | refine blk_n ?_ | refine blk_r ?_ | refine blk_same ?_ | refine blk_other (by decide) ?_ | refine noG_n ?_ | refine noG_r ?_ | refine noG_e ?_ | refine inR_mk ?_ ?_) | (refine fun (hc : (_ : Bool) = _) => ?_; try simp only [hcS] at hc))
        all_goals try exact om_
        refine V_loopK (G := {b : Nat // b ≤ p.beh.length ∧ (∀ k, k < b → HrOK p k)}) (fun ⟨b, _⟩ => [(146, iv b), (23, .bsl 0 2)]) [0, 3, 4, 144, 145] (fun ⟨b, _⟩ => []) [] (fun zz => p.beh.length - zz.1) ⟨0, Nat.zero_le _, by exact (fun k hk => absurd hk (Nat.not_lt_zero k))⟩ ?_ ?_
        · exact Imp.au hX
        rintro ⟨b, hib, hwb⟩
        simp only [go_sem, simprocAttr]
        rcases Nat.lt_or_ge b p.beh.length with hlb | hgb
        · have l5 := b6.l2 b hlb
          have f1 := t5 b (by omega)
          have f2 := t6 b (by omega)
          repeat' (first | (with_reducible first | refine V_seq ?_ | refine V_block ?_ | refine V_skip ?_ | refine V_ret ?_ | refine V_exit ?_) | ((with_reducible refine V_cond ?_); simp only [go_sem, simprocAttr]) | ((first | refine V_region (by rw [hn]; rfl) ?_ | refine V_drawn hmix (by rw [hn]; rfl) ?_); intro K hK) | ((first | with_reducible refine evOps_n ?_ | ((with_reducible apply evOps_g); rfl) | with_reducible refine evOpsD_n ?_ | ((with_reducible apply evOpsD_g); rfl)); intro K hK; simp (contextual := true) only [go_sem, simprocAttr]) | with_reducible refine evOps_nil ?_ | ((with_reducible refine evOpsD_nil ?_ ?_); kernel_rfl) | ((with_reducible refine hK _ ?_); clear hK K) | (with_reducible first | refine And.intro ?_ ?_ | refine nxt_n ?_ | refine nxt_r ?_ | refine nxt_e ?_ | refine blk_n ?_ | refine blk_r ?_ | refine blk_same ?_ | refine blk_other (by decide) ?_ | refine noG_n ?_ | refine noG_r ?_ | refine noG_e ?_ | refine inR_mk ?_ ?_) | (refine fun (hc : (_ : Bool) = _) => ?_; try simp only [hcS] at hc))
          all_goals try exact om_
          all_goals try ((first | refine ret_auto ?_ | refine ret_auto' ?_); simp only [go_sem, simprocAttr, Try.f62]; exact bv_f (fun s => by have := s.her b hlb; exact absurd this.1 (by assumption)))
          have hrl : ((p.beh.getD b []).length : Int) = p.src.ob := by assumption
          refine V_loopK (G := {y : Nat // y ≤ (p.beh.getD b []).length ∧ (∀ k, k < y → HeOK p b k)}) (fun ⟨y, _⟩ => [(160, iv y), (11, iv b), (12, .bor [] (intss (p.beh.getD b []))), (23, .bsl 0 2)]) [0, 3, 4, 144, 145, 146, 158, 159] (fun ⟨y, _⟩ => []) [] (fun zz => (p.beh.getD b []).length - zz.1) ⟨0, Nat.zero_le _, by exact (fun k hk => absurd hk (Nat.not_lt_zero k))⟩ ?_ ?_
          · exact Imp.au hX
          rintro ⟨y, hiy, hwy⟩
          simp only [go_sem, simprocAttr]
          rcases Nat.lt_or_ge y (p.beh.getD b []).length with hly | hgy
          · have g1 := hsl y (by omega)
            have g3 := hsw y (by omega) (p.tgt.fr.getD b 0).toNat (by omega)
            have g4 := hsw y (by omega) (p.tgt.to.getD b 0).toNat (by omega)
            have him := sp_isMapOf (l := p.H b y) (m := p.S y (p.tgt.fr.getD b 0).toNat) (n := p.S y (p.tgt.to.getD b 0).toNat) (by unfold inR; omega) (b6.l3 b hlb y hly)
            repeat' (first | (with_reducible first | refine V_seq ?_ | refine V_block ?_ | refine V_skip ?_ | refine V_ret ?_ | refine V_exit ?_) | ((with_reducible refine V_cond ?_); simp only [go_sem, simprocAttr]) | ((first | refine V_region (by rw [hn]; rfl) ?_ | refine V_drawn hmix (by rw [hn]; rfl) ?_); intro K hK) | ((first | with_reducible refine evOps_n ?_ | ((with_reducible apply evOps_g); rfl) | with_reducible refine evOpsD_n ?_ | ((with_reducible apply evOpsD_g); rfl)); intro K hK; simp (contextual := true) only [go_sem, simprocAttr]) | with_reducible refine evOps_nil ?_ | ((with_reducible refine evOpsD_nil ?_ ?_); kernel_rfl) | ((with_reducible refine hK _ ?_); clear hK K) | (with_reducible first | refine And.intro ?_ ?_ | refine nxt_n ?_ | refine nxt_r ?_ | refine nxt_e ?_ | refine blk_n ?_ | refine blk_r ?_ | refine blk_same ?_ | refine blk_other (by decide) ?_ | refine noG_n ?_ | refine noG_r ?_ | refine noG_e ?_ | refine inR_mk ?_ ?_) | ((with_reducible refine evCall_at 80 ?_); refine EvCall.mk (him) cal_isMapOf [] [] (by simp [go_sem] <;> (repeat' (first | rfl | constructor))) (by simp [go_sem] <;> (repeat' (first | rfl | constructor))) ?_; all_goals try simp only [go_sem, simprocAttr]) | (refine fun (hc : (_ : Bool) = _) => ?_; try simp only [hcS] at hc))
            all_goals try exact om_
            all_goals try ((first | refine ret_auto ?_ | refine ret_auto' ?_); simp only [go_sem, simprocAttr, Try.f62]; exact bv_f (fun s => by have := (s.her b hlb).2 y hly; exact absurd this (by assumption)))
            refine ⟨⟨y + 1, by omega, (by exact all_s hwy (by assumption))⟩, by simp only; omega, Imp.ao hX⟩
          · have ey : y = (p.beh.getD b []).length := by omega
            subst ey
            repeat' (first | (with_reducible first | refine V_seq ?_ | refine V_block ?_ | refine V_skip ?_ | refine V_ret ?_ | refine V_exit ?_) | ((with_reducible refine V_cond ?_); simp only [go_sem, simprocAttr]) | ((first | refine V_region (by rw [hn]; rfl) ?_ | refine V_drawn hmix (by rw [hn]; rfl) ?_); intro K hK) | ((first | with_reducible refine evOps_n ?_ | ((with_reducible apply evOps_g); rfl) | with_reducible refine evOpsD_n ?_ | ((with_reducible apply evOpsD_g); rfl)); intro K hK; simp (contextual := true) only [go_sem, simprocAttr]) | with_reducible refine evOps_nil ?_ | ((with_reducible refine evOpsD_nil ?_ ?_); kernel_rfl) | ((with_reducible refine hK _ ?_); clear hK K) | (with_reducible first | refine And.intro ?_ ?_ | refine nxt_n ?_ | refine nxt_r ?_ | refine nxt_e ?_ | refine blk_n ?_ | refine blk_r ?_ | refine blk_same ?_ | refine blk_other (by decide) ?_ | refine noG_n ?_ | refine noG_r ?_ | refine noG_e ?_ | refine inR_mk ?_ ?_) | (refine fun (hc : (_ : Bool) = _) => ?_; try simp only [hcS] at hc))
            all_goals try exact om_
            refine ⟨⟨b + 1, by omega, (by exact all_s hwb ⟨hrl, hwy⟩)⟩, by simp only; omega, Imp.ao hX⟩
        · have eb : b = p.beh.length := by omega
          subst eb
          repeat' (first | (with_reducible first | refine V_seq ?_ | refine V_block ?_ | refine V_skip ?_ | refine V_ret ?_ | refine V_exit ?_) | ((with_reducible refine V_cond ?_); simp only [go_sem, simprocAttr]) | ((first | refine V_region (by rw [hn]; rfl) ?_ | refine V_drawn hmix (by rw [hn]; rfl) ?_); intro K hK) | ((first | with_reducible refine evOps_n ?_ | ((with_reducible apply evOps_g); rfl) | with_reducible refine evOpsD_n ?_ | ((with_reducible apply evOpsD_g); rfl)); intro K hK; simp (contextual := true) only [go_sem, simprocAttr]) | with_reducible refine evOps_nil ?_ | ((with_reducible refine evOpsD_nil ?_ ?_); kernel_rfl) | ((with_reducible refine hK _ ?_); clear hK K) | (with_reducible first | refine And.intro ?_ ?_ | refine nxt_n ?_ | refine nxt_r ?_ | refine nxt_e ?_ | refine blk_n ?_ | refine blk_r ?_ | refine blk_same ?_ | refine blk_other (by decide) ?_ | refine noG_n ?_ | refine noG_r ?_ | refine noG_e ?_ | refine inR_mk ?_ ?_) | (refine fun (hc : (_ : Bool) = _) => ?_; try simp only [hcS] at hc))
          all_goals try exact om_
          all_goals ((first | refine ret_auto ?_ | refine ret_auto' ?_); simp only [go_sem, simprocAttr, Try.f62]; exact bv_t ⟨isC, isD, z1, hwx, z2, hwa, z3, hwb⟩)
  · have v1 := sp_areCategories_two b1 b2
    rw [dec_f hcc] at v1
    refine spec_of_V (E := TE) 0 Try.func62 rfl (by simp [Try.f62]) fun X hn hX => ?_
    repeat' (first | (with_reducible first | refine V_seq ?_ | refine V_block ?_ | refine V_skip ?_ | refine V_ret ?_ | refine V_exit ?_) | ((with_reducible refine V_cond ?_); simp only [go_sem, simprocAttr]) | ((first | refine V_region (by rw [hn]; rfl) ?_ | refine V_drawn hmix (by rw [hn]; rfl) ?_); intro K hK) | ((first | with_reducible refine evOps_n ?_ | ((with_reducible apply evOps_g); rfl) | with_reducible refine evOpsD_n ?_ | ((with_reducible apply evOpsD_g); rfl)); intro K hK; simp (contextual := true) only [go_sem, simprocAttr]) | with_reducible refine evOps_nil ?_ | ((with_reducible refine evOpsD_nil ?_ ?_); kernel_rfl) | ((with_reducible refine hK _ ?_); clear hK K) | (with_reducible first | refine And.intro ?_ ?_ | refine nxt_n ?_ | refine nxt_r ?_ | refine nxt_e ?_ | refine blk_n ?_ | refine blk_r ?_ | refine blk_same ?_ | refine blk_other (by decide) ?_ | refine noG_n ?_ | refine noG_r ?_ | refine noG_e ?_ | refine inR_mk ?_ ?_) | ((with_reducible refine evCall_at 77 ?_); refine EvCall.mk (v1) cal_areCategories [] [0] (by simp [go_sem] <;> (repeat' (first | rfl | constructor))) (by simp [go_sem] <;> (repeat' (first | rfl | constructor))) ?_; all_goals try simp only [go_sem, simprocAttr]) | (refine fun (hc : (_ : Bool) = _) => ?_; try simp only [hcS] at hc))
    all_goals try exact om_
    all_goals ((first | refine ret_auto ?_ | refine ret_auto' ?_); simp only [go_sem, simprocAttr, Try.f62]; exact bv_f fun s => hcc ⟨s.src, s.tgt⟩)
end Go.Eng
