/- Functors: what it is to be one, by the program and by the reference. -/
import Derived.Test.YtbflkfamigcncaaGreatKhx
set_option linter.unusedSimpArgs false
set_option linter.unusedVariables false
set_option maxRecDepth 100000
set_option maxHeartbeats 8000000
namespace Go.Eng
open Go Go.Proofs Go.Cats
theorem two_succ {P : Nat → Nat → Prop} {a : Nat} (h : ∀ p q, p < a → P p q) (k : ∀ q, P a q) : ∀ p q, p < a + 1 → P p q := fun p q hp => by
  by_cases e : p = a
  · subst e; exact k q
  · exact h p q (by omega)
structure FunB (f : Fun) : Prop where
  src : CatB f.src
  tgt : CatB f.tgt
  obs : f.obs.length ≤ 1048576
  ars : f.ars.length ≤ 1048576
theorem cal_l06Is : Callable Tryz.prog 225 := ⟨_, Tryz.func225, rfl, rfl⟩
theorem sp_l06Is {f : Fun} (hb : FunB f) : Spec Tryz.prog 225 [funV f] [] (bv (dec (IsFun f))) [] := by
  refine spec_of_V (E := TE) 0 Tryz.func225 rfl (by simp [Tryz.f225]) fun X hn hX => ?_
  obtain ⟨b1, b2, b3, b4⟩ := hb
  repeat' (first | with_reducible refine St.f ?_ | ((with_reducible refine V_cond ?_); simp only [go_sem, simprocAttr]) | ((first | refine V_rg ?_ | refine V_dr ?_); intro K hK) | ((first | with_reducible refine So.f ?_ | ((with_reducible apply evOps_g); rfl) | ((with_reducible apply evOpsD_g); rfl)); intro K hK; simp (contextual := true) only [go_sem, simprocAttr]) | ((with_reducible refine evOpsD_nil ?_ ?_); kernel_rfl) | ((with_reducible refine hK _ ?_); clear hK K) | (with_reducible first | refine And.intro ?_ ?_ | refine blk_other (by decide) ?_ | refine inR_mk ?_ ?_) | ((with_reducible refine evCall_at 78 ?_); refine EvCall.rq (a := (sp_l02Is ?_)) (b := cal_l02Is) (c := ?_); all_goals try simp only [go_sem, simprocAttr]) | ((with_reducible refine evCall_at 205 ?_); refine EvCall.rq (a := (sp_l01Map ?_)) (b := cal_l01Map) (c := ?_); all_goals try simp only [go_sem, simprocAttr]) | (refine fun (hc : (_ : Bool) = _) => ?_; try simp only [hcS] at hc))
  all_goals try exact om_
  all_goals try ((first | refine ret_auto ?_ | refine ret_auto' ?_); simp only [go_sem, simprocAttr, Tryz.f225]; exact bv_f (fun q => by obtain ⟨q8, q9, q1, q2, q3, q4, q5, q6, q7⟩ := q; first | omega | contradiction))
  have hs : IsCat f.src := by assumption
  have ht : IsCat f.tgt := by assumption
  have hs0 := hs.toShape
  have ⟨s1, s2, s3, s4, s5, s6, s7, s8, s9, s10, s11⟩ := hs.toShape
  have ht0 := ht.ob0
  have ht8 := ht.ob8
  have ht40 := ht.m40
  have hO : (f.obs.length : Int) = f.src.ob := by assumption
  have hA : (f.ars.length : Int) = f.src.fr.length := by assumption
  have hOw : Within f.obs f.tgt.ob := by assumption
  have hAw : Within f.ars f.tgt.fr.length := by assumption
  have htt := ht.tol
  refine V_loopK (G := {i : Nat // i ≤ f.src.fr.length ∧ (∀ a, a < i → f.tgt.F (f.ars.getD a 0) = f.O (f.src.F a) ∧ f.tgt.T (f.ars.getD a 0) = f.O (f.src.T a))}) (fun ⟨i, _⟩ => [(5, iv i)]) [1, 3, 4] (fun ⟨i, _⟩ => []) [] (fun zz => f.src.fr.length - zz.1) ⟨0, Nat.zero_le _, by omega⟩ ?_ ?_
  · exact Imp.au hX
  rintro ⟨i, hii, hwi⟩
  simp only [go_sem, simprocAttr]
  have w1 := hAw i
  have w2 := s5 i
  have w3 := s6 i
  repeat' (first | with_reducible refine St.f ?_ | ((with_reducible refine V_cond ?_); simp only [go_sem, simprocAttr]) | ((first | refine V_rg ?_ | refine V_dr ?_); intro K hK) | ((first | with_reducible refine So.f ?_ | ((with_reducible apply evOps_g); rfl) | ((with_reducible apply evOpsD_g); rfl)); intro K hK; simp (contextual := true) only [go_sem, simprocAttr]) | ((with_reducible refine evOpsD_nil ?_ ?_); kernel_rfl) | ((with_reducible refine hK _ ?_); clear hK K) | (with_reducible first | refine And.intro ?_ ?_ | refine blk_other (by decide) ?_ | refine inR_mk ?_ ?_) | (refine fun (hc : (_ : Bool) = _) => ?_; try simp only [hcS] at hc))
  all_goals try exact om_
  · (first | refine ret_auto ?_ | refine ret_auto' ?_); simp only [go_sem, simprocAttr, Tryz.f225]
    exact bv_f (fun q => hc (q.fits.endf i (by omega)).2)
  · refine ⟨⟨i + 1, by omega, (by exact all_succ hwi ⟨by assumption, hc⟩)⟩, by simp only; omega, Imp.ao hX⟩
  · (first | refine ret_auto ?_ | refine ret_auto' ?_); simp only [go_sem, simprocAttr, Tryz.f225]
    exact bv_f (fun q => hc (q.fits.endf i (by omega)).1)
  have he : ∀ a, a < f.ars.length → f.tgt.F (f.ars.getD a 0) = f.O (f.src.F a) ∧ f.tgt.T (f.ars.getD a 0) = f.O (f.src.T a) := fun a ha => hwi a (by omega)
  clear hwi w1 w2 w3
  refine V_loopK (G := {x : Nat // x ≤ f.src.ob.toNat ∧ (∀ y, y < x → f.A (f.src.id.getD y 0) = f.tgt.I (f.O y))}) (fun ⟨x, _⟩ => [(6, iv x)]) [1, 3, 4] (fun ⟨x, _⟩ => []) [] (fun zz => f.src.ob.toNat - zz.1) ⟨0, Nat.zero_le _, by omega⟩ ?_ ?_
  · exact Imp.au hX
  rintro ⟨x, hix, hwx⟩
  simp only [go_sem, simprocAttr]
  have w1 := s8 x
  have w2 := hAw (f.src.id.getD x 0).toNat
  have w3 := hOw x
  have w4 := ht.idl
  repeat' (first | with_reducible refine St.f ?_ | ((with_reducible refine V_cond ?_); simp only [go_sem, simprocAttr]) | ((first | refine V_rg ?_ | refine V_dr ?_); intro K hK) | ((first | with_reducible refine So.f ?_ | ((with_reducible apply evOps_g); rfl) | ((with_reducible apply evOpsD_g); rfl)); intro K hK; simp (contextual := true) only [go_sem, simprocAttr]) | ((with_reducible refine evOpsD_nil ?_ ?_); kernel_rfl) | ((with_reducible refine hK _ ?_); clear hK K) | (with_reducible first | refine And.intro ?_ ?_ | refine blk_other (by decide) ?_ | refine inR_mk ?_ ?_) | (refine fun (hc : (_ : Bool) = _) => ?_; try simp only [hcS] at hc))
  all_goals try exact om_
  · (first | refine ret_auto ?_ | refine ret_auto' ?_); simp only [go_sem, simprocAttr, Tryz.f225]
    exact bv_f (fun q => hc (q.fits.unit x (by omega)))
  · refine ⟨⟨x + 1, by omega, (by exact all_succ hwx hc)⟩, by simp only; omega, Imp.ao hX⟩
  have hu : ∀ y, y < f.src.id.length → f.A (f.src.id.getD y 0) = f.tgt.I (f.O y) := fun y hy => hwx y (by omega)
  clear hwx w1 w2 w3
  refine V_loopK (G := {a : Nat // a ≤ f.src.fr.length ∧ (∀ p q : Nat, p < a → q < f.src.fr.length → 0 ≤ f.src.C p q → f.A (f.src.C p q) = f.tgt.C (f.A p) (f.A q))}) (fun ⟨a, _⟩ => [(7, iv a)]) [1, 3, 4] (fun ⟨a, _⟩ => []) [] (fun zz => f.src.fr.length - zz.1) ⟨0, Nat.zero_le _, by omega⟩ ?_ ?_
  · exact Imp.au hX
  rintro ⟨a, hia, hwa⟩
  simp only [go_sem, simprocAttr]
  have v1 := s11 a
  have v2 := hAw a
  repeat' (first | with_reducible refine St.f ?_ | ((with_reducible refine V_cond ?_); simp only [go_sem, simprocAttr]) | ((first | refine V_rg ?_ | refine V_dr ?_); intro K hK) | ((first | with_reducible refine So.f ?_ | ((with_reducible apply evOps_g); rfl) | ((with_reducible apply evOpsD_g); rfl)); intro K hK; simp (contextual := true) only [go_sem, simprocAttr]) | ((with_reducible refine evOpsD_nil ?_ ?_); kernel_rfl) | ((with_reducible refine hK _ ?_); clear hK K) | (with_reducible first | refine And.intro ?_ ?_ | refine blk_other (by decide) ?_ | refine inR_mk ?_ ?_) | (refine fun (hc : (_ : Bool) = _) => ?_; try simp only [hcS] at hc))
  all_goals try exact om_
  refine V_loopK (G := {b : Nat // b ≤ f.src.fr.length ∧ (∀ q : Nat, q < b → 0 ≤ f.src.C a q → f.A (f.src.C a q) = f.tgt.C (f.A a) (f.A q))}) (fun ⟨b, _⟩ => [(8, iv b)]) [1, 3, 4, 7] (fun ⟨b, _⟩ => []) [] (fun zz => f.src.fr.length - zz.1) ⟨0, Nat.zero_le _, by omega⟩ ?_ ?_
  · exact Imp.au hX
  rintro ⟨b, hib, hwb⟩
  simp only [go_sem, simprocAttr]
  have v3 := hAw b
  have v4 := fun h1 h2 h3 => hs0.comp_lt (f := a) (g := b) h1 h2 h3
  have v5 := ht.toShape.col
  have v6 := fun h1 h2 => ht.toShape.comp_row (f := f.ars.getD a 0) h1 h2
  have v7 := fun h1 h2 h3 => hs0.comp_nn (f := a) (g := b) h1 h2 h3
  repeat' (first | with_reducible refine St.f ?_ | ((with_reducible refine V_cond ?_); simp only [go_sem, simprocAttr]) | ((first | refine V_rg ?_ | refine V_dr ?_); intro K hK) | ((first | with_reducible refine So.f ?_ | ((with_reducible apply evOps_g); rfl) | ((with_reducible apply evOpsD_g); rfl)); intro K hK; simp (contextual := true) only [go_sem, simprocAttr]) | ((with_reducible refine evOpsD_nil ?_ ?_); kernel_rfl) | ((with_reducible refine hK _ ?_); clear hK K) | (with_reducible first | refine And.intro ?_ ?_ | refine blk_other (by decide) ?_ | refine inR_mk ?_ ?_) | (refine fun (hc : (_ : Bool) = _) => ?_; try simp only [hcS] at hc))
  all_goals try exact om_
  all_goals try (first | exact v7 (by omega) (by omega) (by assumption) | (have := (v4 (by omega) (by omega) (v7 (by omega) (by omega) (by assumption))).1; omega) | (have := v2 (by omega); omega) | (have k2 := v2 (by omega); have := v6 k2.1 k2.2; have := v3 (by omega); omega))
  · (first | refine ret_auto ?_ | refine ret_auto' ?_); simp only [go_sem, simprocAttr, Tryz.f225]
    exact bv_f (fun q => hc (q.fits.comp a b (by omega) (by omega) (v7 (by omega) (by omega) (by assumption))))
  · refine ⟨⟨b + 1, by omega, (by exact all_succ hwb (fun _ => hc))⟩, by simp only; omega, Imp.ao hX⟩
  · refine ⟨⟨b + 1, by omega, (by exact all_succ hwb (fun h => absurd (v4 (by omega) (by omega) h).2 hc))⟩, by simp only; omega, Imp.ao hX⟩
  · refine ⟨⟨a + 1, by omega, (by exact two_succ hwa (fun q hq h => hwb q (by omega) h))⟩, by simp only; omega, Imp.ao hX⟩
  · (first | refine ret_auto ?_ | refine ret_auto' ?_); simp only [go_sem, simprocAttr, Tryz.f225]
    exact bv_t ⟨hs, ht, hO, by omega, hOw, hAw, he, hu, fun p q hp hq h => hwa p q (by omega) hq h⟩
end Go.Eng
