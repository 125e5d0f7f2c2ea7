/- Functions of the program: set functors. -/
import Derived.Test.YtjdjkmgjgghodaaGreatKmx
import Derived.Test.YtjdjkmgjgghodaaGreatKdx
import Derived.Test.YtjdjkmgjgghodaaGreatKgx
set_option linter.unusedSimpArgs false
set_option linter.unusedVariables false
set_option maxRecDepth 100000
set_option maxHeartbeats 8000000
namespace Go.Eng
open Go Go.Proofs Go.Cats
theorem cal_isMapOf : Callable Tryz.prog 110 := ⟨_, Tryz.func110, rfl, rfl⟩
theorem sp_isMapOf {l : List Int} {m n : Int} (hn' : inR (n - 1)) (hl : l.length ≤ 1048576) : Spec Tryz.prog 110 [.bor [] (ints l), iv m, iv n] [] (bv (dec ((l.length : Int) = m ∧ Within l n))) [] := by
  refine spec_of_V (E := TE) 0 Tryz.func110 rfl (by simp [Tryz.f110]) fun X hn hX => ?_
  have ⟨q1, q2⟩ := hn'
  repeat' (first | (with_reducible first | refine V_seq ?_ | refine V_skip ?_ | refine V_ret ?_) | ((with_reducible refine V_cond ?_); simp only [go_sem, simprocAttr]) | ((refine V_region (by rw [hn]; rfl) ?_); intro K hK) | ((first | with_reducible refine evOps_n ?_ | ((with_reducible apply evOps_g); rfl)); intro K hK; simp (contextual := true) only [go_sem, simprocAttr]) | with_reducible refine evOps_nil ?_ | ((with_reducible refine hK _ ?_); clear hK K) | (with_reducible first | refine And.intro ?_ ?_ | refine nxt_n ?_ | refine nxt_r ?_ | refine inR_mk ?_ ?_) | ((with_reducible refine evCall_at 109 ?_); refine EvCall.rq (a := (sp_within ?_ ?_)) (b := cal_within) (c := ?_); all_goals try simp only [go_sem, simprocAttr]) | (refine fun (hc : (_ : Bool) = _) => ?_; try simp only [hcS] at hc))
  all_goals try (first | (with_reducible assumption) | ((try simp only [Cat.F, Cat.T, Cat.I, Cat.C, Fun.O, Fun.A, Cat.Entry, Int.toNat_natCast] at *); omega))
  · (first | refine ret_auto ?_ | refine ret_auto' ?_); simp only [go_sem, simprocAttr, Tryz.f110]
    exact congrArg (fun b => Sv.v (.bool b)) (dec_congr ⟨fun h => ⟨hc, h⟩, fun h => h.2⟩)
  · (first | refine ret_auto ?_ | refine ret_auto' ?_); simp only [go_sem, simprocAttr, Tryz.f110]
    exact bv_f (fun h => hc h.1)
theorem cal_SetFunctor_isShape : Callable Tryz.prog 87 := ⟨_, Tryz.func87, rfl, rfl⟩
theorem sp_SetFunctor_isShape {f : SF} (hb : SFB f) : Spec Tryz.prog 87 [.bptr [] (sfD f)] [] (bv (dec (SFShape f))) [] := by
  refine spec_of_V (E := TE) 0 Tryz.func87 rfl (by simp [Tryz.f87]) fun X hn hX => ?_
  obtain ⟨b1, b2, b3, b4⟩ := hb
  repeat' (first | (with_reducible first | refine V_seq ?_ | refine V_block ?_ | refine V_skip ?_ | refine V_ret ?_ | refine V_exit ?_) | ((with_reducible refine V_cond ?_); simp only [go_sem, simprocAttr]) | ((first | refine V_region (by rw [hn]; rfl) ?_ | refine V_drawn hmix (by rw [hn]; rfl) ?_); intro K hK) | ((first | with_reducible refine evOps_n ?_ | ((with_reducible apply evOps_g); rfl) | with_reducible refine evOpsD_n ?_ | ((with_reducible apply evOpsD_g); rfl)); intro K hK; simp (contextual := true) only [go_sem, simprocAttr]) | with_reducible refine evOps_nil ?_ | ((with_reducible refine evOpsD_nil ?_ ?_); kernel_rfl) | ((with_reducible refine hK _ ?_); clear hK K) | (with_reducible first | refine And.intro ?_ ?_ | refine nxt_n ?_ | refine nxt_r ?_ | refine nxt_e ?_ | refine blk_n ?_ | refine blk_r ?_ | refine blk_same ?_ | refine blk_other (by decide) ?_ | refine noG_n ?_ | refine noG_r ?_ | refine noG_e ?_ | refine inR_mk ?_ ?_) | ((with_reducible refine evCall_at 107 ?_); refine EvCall.rq (a := (sp_Category_isCategory ?_)) (b := cal_Category_isCategory) (c := ?_); all_goals try simp only [go_sem, simprocAttr]) | ((with_reducible refine evCall_at 109 ?_); refine EvCall.rq (a := (sp_within ?_ ?_)) (b := cal_within) (c := ?_); all_goals try simp only [go_sem, simprocAttr]) | ((with_reducible refine evCall_at 108 ?_); refine EvCall.rq (a := (sp_Category_arrows)) (b := cal_Category_arrows) (c := ?_); all_goals try simp only [go_sem, simprocAttr]) | (refine fun (hc : (_ : Bool) = _) => ?_; try simp only [hcS] at hc))
  all_goals try (first | (with_reducible assumption) | ((try simp only [Cat.F, Cat.T, Cat.I, Cat.C, Fun.O, Fun.A, Cat.Entry, Int.toNat_natCast] at *); omega))
  all_goals try ((first | refine ret_auto ?_ | refine ret_auto' ?_); simp only [go_sem, simprocAttr, Tryz.f87]; exact bv_f (fun s => by obtain ⟨s1, s2, s3, s4, s5⟩ := s; first | omega | contradiction))
  have hC : IsCat f.shape := by assumption
  have hS : Within f.sizes 17 := by assumption
  obtain ⟨s1, s2, s3, s4, s5, s6, s7, s8, s9, s10, s11⟩ := hC.toShape
  refine V_loopK (G := {i : Nat // i ≤ f.acts.length ∧ (∀ a, a < i → ((f.acts.getD a []).length : Int) = f.sizes.getD (f.shape.fr.getD a 0).toNat 0 ∧ Within (f.acts.getD a []) (f.sizes.getD (f.shape.to.getD a 0).toNat 0))}) (fun ⟨i, _⟩ => [(47, iv i)]) [0, 3, 45, 46] (fun ⟨i, _⟩ => []) [] (fun zz => f.acts.length - zz.1) ⟨0, Nat.zero_le _, by omega⟩ ?_ ?_
  · exact Imp.auto hX (by simp [go_sem, simprocAttr])
  rintro ⟨i, hii, hwi⟩
  simp only [go_sem, simprocAttr]
  have h1 := s5 i
  have h2 := s6 i
  have h3 := hS (f.shape.to.getD i 0).toNat
  have h4 := b4 i
  repeat' (first | (with_reducible first | refine V_seq ?_ | refine V_block ?_ | refine V_skip ?_ | refine V_ret ?_ | refine V_exit ?_) | ((with_reducible refine V_cond ?_); simp only [go_sem, simprocAttr]) | ((first | refine V_region (by rw [hn]; rfl) ?_ | refine V_drawn hmix (by rw [hn]; rfl) ?_); intro K hK) | ((first | with_reducible refine evOps_n ?_ | ((with_reducible apply evOps_g); rfl) | with_reducible refine evOpsD_n ?_ | ((with_reducible apply evOpsD_g); rfl)); intro K hK; simp (contextual := true) only [go_sem, simprocAttr]) | with_reducible refine evOps_nil ?_ | ((with_reducible refine evOpsD_nil ?_ ?_); kernel_rfl) | ((with_reducible refine hK _ ?_); clear hK K) | (with_reducible first | refine And.intro ?_ ?_ | refine nxt_n ?_ | refine nxt_r ?_ | refine nxt_e ?_ | refine blk_n ?_ | refine blk_r ?_ | refine blk_same ?_ | refine blk_other (by decide) ?_ | refine noG_n ?_ | refine noG_r ?_ | refine noG_e ?_ | refine inR_mk ?_ ?_) | ((with_reducible refine evCall_at 110 ?_); refine EvCall.rq (a := (sp_isMapOf ?_ ?_)) (b := cal_isMapOf) (c := ?_); all_goals try simp only [go_sem, simprocAttr]) | (refine fun (hc : (_ : Bool) = _) => ?_; try simp only [hcS] at hc))
  all_goals try (first | (with_reducible assumption) | ((try simp only [Cat.F, Cat.T, Cat.I, Cat.C, Fun.O, Fun.A, Cat.Entry, Int.toNat_natCast] at *); omega))
  · (first | refine ret_auto ?_ | refine ret_auto' ?_); simp only [go_sem, simprocAttr, Tryz.f87]
    exact bv_f (fun s => hc (s.act i (by omega)))
  · refine ⟨⟨i + 1, by omega, (by exact all_succ hwi hc)⟩, by simp only; omega, Imp.auto hX (by simp only [go_sem, simprocAttr])⟩
  · (first | refine ret_auto ?_ | refine ret_auto' ?_); simp only [go_sem, simprocAttr, Tryz.f87]
    exact bv_t ⟨hC, by assumption, hS, by omega, fun a ha => hwi a (by omega)⟩
theorem cal_SetFunctor_fault : Callable Tryz.prog 88 := ⟨_, Tryz.func88, rfl, rfl⟩
theorem sp_SetFunctor_fault {f : SF} (s : SFShape f) : Spec Tryz.prog 88 [.bptr [] (sfD f)] [] (.tup [iv f.fault.1, iv f.fault.2.1, iv f.fault.2.2.1, iv f.fault.2.2.2]) [] := by
  refine spec_of_V (E := TE) 0 Tryz.func88 rfl (by simp [Tryz.f88]) fun X hn hX => ?_
  obtain ⟨hC, hz1, hS, hz2, hA⟩ := s
  obtain ⟨s1, s2, s3, s4, s5, s6, s7, s8, s9, s10, s11⟩ := hC.toShape
  have hlen : ∀ a, a < f.acts.length → (f.acts.getD a []).length < 17 := fun a ha => by
    have h1 := (hA a ha).1
    have h2 := hS (f.shape.fr.getD a 0).toNat (by have := s5 a (by omega); omega)
    omega
  repeat' (first | (with_reducible first | refine V_seq ?_ | refine V_block ?_ | refine V_skip ?_ | refine V_ret ?_ | refine V_exit ?_) | ((with_reducible refine V_cond ?_); simp only [go_sem, simprocAttr]) | ((first | refine V_region (by rw [hn]; rfl) ?_ | refine V_drawn hmix (by rw [hn]; rfl) ?_); intro K hK) | ((first | with_reducible refine evOps_n ?_ | ((with_reducible apply evOps_g); rfl) | with_reducible refine evOpsD_n ?_ | ((with_reducible apply evOpsD_g); rfl)); intro K hK; simp (contextual := true) only [go_sem, simprocAttr]) | with_reducible refine evOps_nil ?_ | ((with_reducible refine evOpsD_nil ?_ ?_); kernel_rfl) | ((with_reducible refine hK _ ?_); clear hK K) | (with_reducible first | refine And.intro ?_ ?_ | refine nxt_n ?_ | refine nxt_r ?_ | refine nxt_e ?_ | refine blk_n ?_ | refine blk_r ?_ | refine blk_same ?_ | refine blk_other (by decide) ?_ | refine noG_n ?_ | refine noG_r ?_ | refine noG_e ?_ | refine inR_mk ?_ ?_) | (refine fun (hc : (_ : Bool) = _) => ?_; try simp only [hcS] at hc))
  all_goals try (first | (with_reducible assumption) | ((try simp only [Cat.F, Cat.T, Cat.I, Cat.C, Fun.O, Fun.A, Cat.Entry, Int.toNat_natCast] at *); omega))
  refine V_loopK (G := {x : Nat // x ≤ f.shape.id.length ∧ (scan x f.fault1x = none)}) (fun ⟨x, _⟩ => [(25, iv x)]) [0, 6, 23, 24] (fun ⟨x, _⟩ => []) [] (fun zz => f.shape.id.length - zz.1) ⟨0, Nat.zero_le _, by rfl⟩ ?_ ?_
  · exact Imp.auto hX (by simp [go_sem, simprocAttr])
  rintro ⟨x, hix, hwx⟩
  simp only [go_sem, simprocAttr]
  have h1 := s8 x
  have h2 := hlen (f.shape.id.getD x 0).toNat
  repeat' (first | (with_reducible first | refine V_seq ?_ | refine V_block ?_ | refine V_skip ?_ | refine V_ret ?_ | refine V_exit ?_) | ((with_reducible refine V_cond ?_); simp only [go_sem, simprocAttr]) | ((first | refine V_region (by rw [hn]; rfl) ?_ | refine V_drawn hmix (by rw [hn]; rfl) ?_); intro K hK) | ((first | with_reducible refine evOps_n ?_ | ((with_reducible apply evOps_g); rfl) | with_reducible refine evOpsD_n ?_ | ((with_reducible apply evOpsD_g); rfl)); intro K hK; simp (contextual := true) only [go_sem, simprocAttr]) | with_reducible refine evOps_nil ?_ | ((with_reducible refine evOpsD_nil ?_ ?_); kernel_rfl) | ((with_reducible refine hK _ ?_); clear hK K) | (with_reducible first | refine And.intro ?_ ?_ | refine nxt_n ?_ | refine nxt_r ?_ | refine nxt_e ?_ | refine blk_n ?_ | refine blk_r ?_ | refine blk_same ?_ | refine blk_other (by decide) ?_ | refine noG_n ?_ | refine noG_r ?_ | refine noG_e ?_ | refine inR_mk ?_ ?_) | (refine fun (hc : (_ : Bool) = _) => ?_; try simp only [hcS] at hc))
  all_goals try (first | (with_reducible assumption) | ((try simp only [Cat.F, Cat.T, Cat.I, Cat.C, Fun.O, Fun.A, Cat.Entry, Int.toNat_natCast] at *); omega))
  refine V_loopK (G := {e : Nat // e ≤ (f.acts.getD (f.shape.id.getD x 0).toNat []).length ∧ ((scan e fun e => f.fault1 x e) = none)}) (fun ⟨e, _⟩ => [(38, iv e)]) [0, 6, 7, 23, 24, 25, 36, 37] (fun ⟨e, _⟩ => []) [] (fun zz => (f.acts.getD (f.shape.id.getD x 0).toNat []).length - zz.1) ⟨0, Nat.zero_le _, by rfl⟩ ?_ ?_
  · exact Imp.auto hX (by simp [go_sem, simprocAttr])
  rintro ⟨e, hie, hwe⟩
  simp only [go_sem, simprocAttr]
  repeat' (first | (with_reducible first | refine V_seq ?_ | refine V_block ?_ | refine V_skip ?_ | refine V_ret ?_ | refine V_exit ?_) | ((with_reducible refine V_cond ?_); simp only [go_sem, simprocAttr]) | ((first | refine V_region (by rw [hn]; rfl) ?_ | refine V_drawn hmix (by rw [hn]; rfl) ?_); intro K hK) | ((first | with_reducible refine evOps_n ?_ | ((with_reducible apply evOps_g); rfl) | with_reducible refine evOpsD_n ?_ | ((with_reducible apply evOpsD_g); rfl)); intro K hK; simp (contextual := true) only [go_sem, simprocAttr]) | with_reducible refine evOps_nil ?_ | ((with_reducible refine evOpsD_nil ?_ ?_); kernel_rfl) | ((with_reducible refine hK _ ?_); clear hK K) | (with_reducible first | refine And.intro ?_ ?_ | refine nxt_n ?_ | refine nxt_r ?_ | refine nxt_e ?_ | refine blk_n ?_ | refine blk_r ?_ | refine blk_same ?_ | refine blk_other (by decide) ?_ | refine noG_n ?_ | refine noG_r ?_ | refine noG_e ?_ | refine inR_mk ?_ ?_) | (refine fun (hc : (_ : Bool) = _) => ?_; try simp only [hcS] at hc))
  all_goals try (first | (with_reducible assumption) | ((try simp only [Cat.F, Cat.T, Cat.I, Cat.C, Fun.O, Fun.A, Cat.Entry, Int.toNat_natCast] at *); omega))
  · (first | refine ret_auto ?_ | refine ret_auto' ?_); simp only [go_sem, simprocAttr, Tryz.f88]
    rw [SF.fault_1 hwx (by omega) hwe (by omega) (SF.fault1_t hc)]
  · refine ⟨⟨e + 1, by omega, (by exact scan_next hwe (SF.fault1_f (by omega)))⟩, by simp only; omega, Imp.auto hX (by simp only [go_sem, simprocAttr])⟩
  · refine ⟨⟨x + 1, by omega, (by exact scan_next hwx (scan_end hwe hie (by omega)))⟩, by simp only; omega, Imp.auto hX (by simp only [go_sem, simprocAttr])⟩
  have h0 : scan f.shape.id.length f.fault1x = none := scan_end hwx hix (by omega)
  clear hwx h1 h2
  refine V_loopK (G := {a : Nat // a ≤ f.shape.co.length ∧ (scan a f.fault2a = none)}) (fun ⟨a, _⟩ => [(55, iv a)]) [0, 53, 54] (fun ⟨a, _⟩ => []) [] (fun zz => f.shape.co.length - zz.1) ⟨0, Nat.zero_le _, by rfl⟩ ?_ ?_
  · exact Imp.auto hX (by simp [go_sem, simprocAttr])
  rintro ⟨a, hia, hwa⟩
  simp only [go_sem, simprocAttr]
  have h1 := fun h => (s11 a h).1
  have h2 := hlen a
  have h3 := fun h => (hA a h).1
  have h4 := s6 a
  repeat' (first | (with_reducible first | refine V_seq ?_ | refine V_block ?_ | refine V_skip ?_ | refine V_ret ?_ | refine V_exit ?_) | ((with_reducible refine V_cond ?_); simp only [go_sem, simprocAttr]) | ((first | refine V_region (by rw [hn]; rfl) ?_ | refine V_drawn hmix (by rw [hn]; rfl) ?_); intro K hK) | ((first | with_reducible refine evOps_n ?_ | ((with_reducible apply evOps_g); rfl) | with_reducible refine evOpsD_n ?_ | ((with_reducible apply evOpsD_g); rfl)); intro K hK; simp (contextual := true) only [go_sem, simprocAttr]) | with_reducible refine evOps_nil ?_ | ((with_reducible refine evOpsD_nil ?_ ?_); kernel_rfl) | ((with_reducible refine hK _ ?_); clear hK K) | (with_reducible first | refine And.intro ?_ ?_ | refine nxt_n ?_ | refine nxt_r ?_ | refine nxt_e ?_ | refine blk_n ?_ | refine blk_r ?_ | refine blk_same ?_ | refine blk_other (by decide) ?_ | refine noG_n ?_ | refine noG_r ?_ | refine noG_e ?_ | refine inR_mk ?_ ?_) | (refine fun (hc : (_ : Bool) = _) => ?_; try simp only [hcS] at hc))
  all_goals try (first | (with_reducible assumption) | ((try simp only [Cat.F, Cat.T, Cat.I, Cat.C, Fun.O, Fun.A, Cat.Entry, Int.toNat_natCast] at *); omega))
  refine V_loopK (G := {b : Nat // b ≤ (f.shape.co.getD a []).length ∧ ((scan b fun b => f.fault2b a b) = none)}) (fun ⟨b, _⟩ => [(62, iv b)]) [0, 11, 53, 54, 55, 60, 61] (fun ⟨b, _⟩ => []) [] (fun zz => (f.shape.co.getD a []).length - zz.1) ⟨0, Nat.zero_le _, by rfl⟩ ?_ ?_
  · exact Imp.auto hX (by simp [go_sem, simprocAttr])
  rintro ⟨b, hib, hwb⟩
  simp only [go_sem, simprocAttr]
  have g1 := fun h => (s11 a h).2 b
  have g2 := s5 b
  repeat' (first | (with_reducible first | refine V_seq ?_ | refine V_block ?_ | refine V_skip ?_ | refine V_ret ?_ | refine V_exit ?_) | ((with_reducible refine V_cond ?_); simp only [go_sem, simprocAttr]) | ((first | refine V_region (by rw [hn]; rfl) ?_ | refine V_drawn hmix (by rw [hn]; rfl) ?_); intro K hK) | ((first | with_reducible refine evOps_n ?_ | ((with_reducible apply evOps_g); rfl) | with_reducible refine evOpsD_n ?_ | ((with_reducible apply evOpsD_g); rfl)); intro K hK; simp (contextual := true) only [go_sem, simprocAttr]) | with_reducible refine evOps_nil ?_ | ((with_reducible refine evOpsD_nil ?_ ?_); kernel_rfl) | ((with_reducible refine hK _ ?_); clear hK K) | (with_reducible first | refine And.intro ?_ ?_ | refine nxt_n ?_ | refine nxt_r ?_ | refine nxt_e ?_ | refine blk_n ?_ | refine blk_r ?_ | refine blk_same ?_ | refine blk_other (by decide) ?_ | refine noG_n ?_ | refine noG_r ?_ | refine noG_e ?_ | refine inR_mk ?_ ?_) | (refine fun (hc : (_ : Bool) = _) => ?_; try simp only [hcS] at hc))
  all_goals try (first | (with_reducible assumption) | ((try simp only [Cat.F, Cat.T, Cat.I, Cat.C, Fun.O, Fun.A, Cat.Entry, Int.toNat_natCast] at *); omega))
  · refine ⟨⟨b + 1, by omega, (by exact scan_next hwb (SF.fault2b_f hc))⟩, by simp only; omega, Imp.auto hX (by simp only [go_sem, simprocAttr])⟩
  have hb1 : 0 ≤ (f.shape.co.getD a []).getD b 0 := by assumption
  have hb2 : a < f.shape.fr.length := by omega
  have hb3 : b < f.shape.fr.length := by have := h1 hb2; omega
  have hE := g1 hb2 hb3
  have k1 := hA ((f.shape.co.getD a []).getD b 0).toNat
  have k2 := hA b (by omega)
  have k3 := hA a (by omega)
  have k4 : (f.acts.getD ((f.shape.co.getD a []).getD b 0).toNat []).length = (f.acts.getD a []).length := by
    simp only [Cat.Entry, Cat.F, Cat.T, Cat.C, Int.toNat_natCast] at hE
    have := k1 (by omega)
    rcases hE with ⟨_, q1, q2, _⟩ | ⟨_, q⟩
    · rw [q2] at this; omega
    · omega
  have k5 : f.shape.to.getD a 0 = f.shape.fr.getD b 0 := by
    simp only [Cat.Entry, Cat.F, Cat.T, Cat.C, Int.toNat_natCast] at hE
    rcases hE with ⟨q, _⟩ | ⟨_, q⟩
    · exact q
    · omega
  clear g1 g2 k1
  refine V_loopK (G := {e : Nat // e ≤ (f.acts.getD a []).length ∧ ((scan e fun e => f.fault2 a b e) = none)}) (fun ⟨e, _⟩ => [(77, iv e)]) [0, 11, 13, 14, 53, 54, 55, 60, 61, 62, 75, 76] (fun ⟨e, _⟩ => []) [] (fun zz => (f.acts.getD a []).length - zz.1) ⟨0, Nat.zero_le _, by rfl⟩ ?_ ?_
  · exact Imp.auto hX (by simp [go_sem, simprocAttr])
  rintro ⟨e, hie, hwe⟩
  simp only [go_sem, simprocAttr]
  have m1 := k3.2 e
  rw [k5] at m1
  have m2 := k2.1
  simp only [Cat.Entry, Cat.F, Cat.T, Cat.C, Int.toNat_natCast] at hE
  repeat' (first | (with_reducible first | refine V_seq ?_ | refine V_block ?_ | refine V_skip ?_ | refine V_ret ?_ | refine V_exit ?_) | ((with_reducible refine V_cond ?_); simp only [go_sem, simprocAttr]) | ((first | refine V_region (by rw [hn]; rfl) ?_ | refine V_drawn hmix (by rw [hn]; rfl) ?_); intro K hK) | ((first | with_reducible refine evOps_n ?_ | ((with_reducible apply evOps_g); rfl) | with_reducible refine evOpsD_n ?_ | ((with_reducible apply evOpsD_g); rfl)); intro K hK; simp (contextual := true) only [go_sem, simprocAttr]) | with_reducible refine evOps_nil ?_ | ((with_reducible refine evOpsD_nil ?_ ?_); kernel_rfl) | ((with_reducible refine hK _ ?_); clear hK K) | (with_reducible first | refine And.intro ?_ ?_ | refine nxt_n ?_ | refine nxt_r ?_ | refine nxt_e ?_ | refine blk_n ?_ | refine blk_r ?_ | refine blk_same ?_ | refine blk_other (by decide) ?_ | refine noG_n ?_ | refine noG_r ?_ | refine noG_e ?_ | refine inR_mk ?_ ?_) | (refine fun (hc : (_ : Bool) = _) => ?_; try simp only [hcS] at hc))
  all_goals try (first | (with_reducible assumption) | ((try simp only [Cat.F, Cat.T, Cat.I, Cat.C, Fun.O, Fun.A, Cat.Entry, Int.toNat_natCast] at *); omega))
  · (first | refine ret_auto ?_ | refine ret_auto' ?_); simp only [go_sem, simprocAttr, Tryz.f88]
    rw [SF.fault_2 h0 hwa (by omega) hwb (by omega) (by omega) hwe (by omega) (SF.fault2_t hc)]
  · refine ⟨⟨e + 1, by omega, (by exact scan_next hwe (SF.fault2_f hc))⟩, by simp only; omega, Imp.auto hX (by simp only [go_sem, simprocAttr])⟩
  · refine ⟨⟨b + 1, by omega, (by exact scan_next hwb (by rw [SF.fault2b_t (by omega)]; exact scan_end hwe hie (by omega)))⟩, by simp only; omega, Imp.auto hX (by simp only [go_sem, simprocAttr])⟩
  · refine ⟨⟨a + 1, by omega, (by exact scan_next hwa (scan_end hwb hib (by omega)))⟩, by simp only; omega, Imp.auto hX (by simp only [go_sem, simprocAttr])⟩
  · (first | refine ret_auto ?_ | refine ret_auto' ?_); simp only [go_sem, simprocAttr, Tryz.f88]
    rw [SF.fault_0 h0 (scan_end hwa hia (by omega))]
theorem cal_SetFunctor_isSetFunctor : Callable Tryz.prog 63 := ⟨_, Tryz.func63, rfl, rfl⟩
theorem sp_SetFunctor_isSetFunctor {f : SF} (hb : SFB f) : Spec Tryz.prog 63 [.bptr [] (sfD f)] [] (bv (dec (IsSF f))) [] := by
  refine spec_of_V (E := TE) 0 Tryz.func63 rfl (by simp [Tryz.f63]) fun X hn hX => ?_
  repeat' (first | (with_reducible first | refine V_seq ?_ | refine V_skip ?_ | refine V_ret ?_) | ((with_reducible refine V_cond ?_); simp only [go_sem, simprocAttr]) | ((refine V_region (by rw [hn]; rfl) ?_); intro K hK) | ((first | with_reducible refine evOps_n ?_ | ((with_reducible apply evOps_g); rfl)); intro K hK; simp (contextual := true) only [go_sem, simprocAttr]) | with_reducible refine evOps_nil ?_ | ((with_reducible refine hK _ ?_); clear hK K) | (with_reducible first | refine And.intro ?_ ?_ | refine nxt_n ?_ | refine nxt_r ?_ | refine inR_mk ?_ ?_) | ((with_reducible refine evCall_at 87 ?_); refine EvCall.rq (a := (sp_SetFunctor_isShape ?_)) (b := cal_SetFunctor_isShape) (c := ?_); all_goals try simp only [go_sem, simprocAttr]) | ((with_reducible refine evCall_at 88 ?_); refine EvCall.rq (a := (sp_SetFunctor_fault ?_)) (b := cal_SetFunctor_fault) (c := ?_); all_goals try simp only [go_sem, simprocAttr]) | (refine fun (hc : (_ : Bool) = _) => ?_; try simp only [hcS] at hc))
  all_goals try (first | (with_reducible assumption) | ((try simp only [Cat.F, Cat.T, Cat.I, Cat.C, Fun.O, Fun.A, Cat.Entry, Int.toNat_natCast] at *); omega))
  · (first | refine ret_auto ?_ | refine ret_auto' ?_); simp only [go_sem, simprocAttr, Tryz.f63]
    exact bv_f (fun s => hc s.toSFShape)
  · (first | refine ret_auto ?_ | refine ret_auto' ?_); simp only [go_sem, simprocAttr, Tryz.f63]
    rw [← dec_eq, dec_congr hc.fault_zero]
def sfPs (f0 : SF) (l : List SF) : Dt := .sl 1 (.pt (sfD f0)) (l.map fun f => .pt (sfD f))
@[go_sem] theorem sfPs_isSl (f0 l) : (sfPs f0 l).isSl = true := rfl
@[go_sem] theorem sfPs_sz (f0 l) : (sfPs f0 l).sz = 1 := rfl
@[go_sem] theorem sfPs_nc (f0) (l : List SF) : (sfPs f0 l).nc = l.length := by simp [sfPs, Dt.nc, Dt.cells]
@[go_sem] theorem sfPs_len (f0) (l : List SF) : (sfPs f0 l).len = l.length := by simp [sfPs, Dt.len, Dt.sz, Dt.nc, Dt.cells]
@[go_sem] theorem sfPs_at (f0) (l : List SF) (k : Nat) : (sfPs f0 l).at k = .pt (sfD (l.getD k f0)) := by
  simp only [sfPs, Dt.at, Dt.cells, Dt.df, List.getD_eq_getElem?_getD, List.getElem?_map]
  cases l[k]? <;> simp
theorem cal_areSetFunctors : Callable Tryz.prog 120 := ⟨_, Tryz.func120, rfl, rfl⟩
theorem sp_areSetFunctors {f0 : SF} {l : List SF} (hl : l.length ≤ 1048576) (hb : ∀ i, i < l.length → SFB (l.getD i f0)) : Spec Tryz.prog 120 [.bor [] (sfPs f0 l)] [] (bv (dec (∀ i, i < l.length → IsSF (l.getD i f0)))) [] := by
  refine spec_of_V (E := TE) 0 Tryz.func120 rfl (by simp [Tryz.f120]) fun X hn hX => ?_
  repeat' (first | (with_reducible first | refine V_seq ?_ | refine V_block ?_ | refine V_skip ?_ | refine V_ret ?_ | refine V_exit ?_) | ((with_reducible refine V_cond ?_); simp only [go_sem, simprocAttr]) | ((refine V_region (by rw [hn]; rfl) ?_); intro K hK) | ((first | with_reducible refine evOps_n ?_ | ((with_reducible apply evOps_g); rfl)); intro K hK; simp (contextual := true) only [go_sem, simprocAttr]) | with_reducible refine evOps_nil ?_ | ((with_reducible refine hK _ ?_); clear hK K) | (with_reducible first | refine And.intro ?_ ?_ | refine nxt_n ?_ | refine nxt_r ?_ | refine nxt_e ?_ | refine blk_n ?_ | refine blk_r ?_ | refine blk_same ?_ | refine blk_other (by decide) ?_ | refine noG_n ?_ | refine noG_r ?_ | refine noG_e ?_ | refine inR_mk ?_ ?_) | (refine fun (hc : (_ : Bool) = _) => ?_; try simp only [hcS] at hc))
  all_goals try (first | (with_reducible assumption) | ((try simp only [Cat.F, Cat.T, Cat.I, Cat.C, Fun.O, Fun.A, Cat.Entry, Int.toNat_natCast] at *); omega))
  refine V_loopK (G := {i : Nat // i ≤ l.length ∧ (∀ j, j < i → IsSF (l.getD j f0))}) (fun ⟨i, _⟩ => [(7, iv i)]) [5, 6] (fun ⟨i, _⟩ => []) [] (fun zz => l.length - zz.1) ⟨0, Nat.zero_le _, by omega⟩ ?_ ?_
  · exact Imp.auto hX (by simp [go_sem, simprocAttr])
  rintro ⟨i, hii, hwi⟩
  simp only [go_sem, simprocAttr]
  have h1 := hb i
  repeat' (first | (with_reducible first | refine V_seq ?_ | refine V_block ?_ | refine V_skip ?_ | refine V_ret ?_ | refine V_exit ?_) | ((with_reducible refine V_cond ?_); simp only [go_sem, simprocAttr]) | ((refine V_region (by rw [hn]; rfl) ?_); intro K hK) | ((first | with_reducible refine evOps_n ?_ | ((with_reducible apply evOps_g); rfl)); intro K hK; simp (contextual := true) only [go_sem, simprocAttr]) | with_reducible refine evOps_nil ?_ | ((with_reducible refine hK _ ?_); clear hK K) | (with_reducible first | refine And.intro ?_ ?_ | refine nxt_n ?_ | refine nxt_r ?_ | refine nxt_e ?_ | refine blk_n ?_ | refine blk_r ?_ | refine blk_same ?_ | refine blk_other (by decide) ?_ | refine noG_n ?_ | refine noG_r ?_ | refine noG_e ?_ | refine inR_mk ?_ ?_) | ((with_reducible refine evCall_at 63 ?_); refine EvCall.rq (a := (sp_SetFunctor_isSetFunctor ?_)) (b := cal_SetFunctor_isSetFunctor) (c := ?_); all_goals try simp only [go_sem, simprocAttr]) | (refine fun (hc : (_ : Bool) = _) => ?_; try simp only [hcS] at hc))
  all_goals try exact h1 (by omega)
  all_goals try (first | (with_reducible assumption) | ((try simp only [Cat.F, Cat.T, Cat.I, Cat.C, Fun.O, Fun.A, Cat.Entry, Int.toNat_natCast] at *); omega))
  · (first | refine ret_auto ?_ | refine ret_auto' ?_); simp only [go_sem, simprocAttr, Tryz.f120]
    exact bv_f (fun s => hc (s i (by omega)))
  · refine ⟨⟨i + 1, by omega, (by exact all_succ hwi hc)⟩, by simp only; omega, Imp.auto hX (by simp only [go_sem, simprocAttr])⟩
  · (first | refine ret_auto ?_ | refine ret_auto' ?_); simp only [go_sem, simprocAttr, Tryz.f120]
    exact bv_t (fun j hj => hwi j (by omega))
theorem sp_areSetFunctors_two {f g : SF} (hf : SFB f) (hg : SFB g) : Spec Tryz.prog 120 [.bor [] (.sl 1 (.pt (sfD f)) [.pt (sfD f), .pt (sfD g)])] [] (bv (dec (IsSF f ∧ IsSF g))) [] := by
  have := sp_areSetFunctors (f0 := f) (l := [f, g]) (by simp) (fun i hi => by
    have : i = 0 ∨ i = 1 := by simp at hi; omega
    rcases this with rfl | rfl
    · exact hf
    · exact hg)
  rw [dec_congr (Q := IsSF f ∧ IsSF g)] at this
  · exact this
  · constructor
    · intro h; exact ⟨h 0 (by simp), h 1 (by simp)⟩
    · intro h i hi
      have : i = 0 ∨ i = 1 := by simp at hi; omega
      rcases this with rfl | rfl
      · exact h.1
      · exact h.2
end Go.Eng
