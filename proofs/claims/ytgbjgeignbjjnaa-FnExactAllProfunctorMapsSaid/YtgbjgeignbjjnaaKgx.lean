/- Several texts in one: G01, G02, G03, G04. -/
import Derived.Test.YtgbjgeignbjjnaaKdx
import Derived.Test.YtgbjgeignbjjnaaTyq
import Derived.ChangeKeysEq
import Derived.KernelRfl
set_option linter.unusedSimpArgs false
set_option linter.unusedVariables false
set_option maxRecDepth 100000
set_option maxHeartbeats 8000000
section
namespace Go.Eng
open Go Go.Proofs Go.Cats
theorem hmix : TE.P.follows .mixedOrders = true := rfl
theorem cal_inRange : Callable Try.prog 87 := ⟨_, Try.func87, rfl, rfl⟩
theorem sp_inRange {n lo hi : Int} : Spec Try.prog 87 [iv n, iv lo, iv hi] [] (bv (dec (lo ≤ n ∧ n ≤ hi))) [] := by
  refine spec_of_V (E := TE) 0 Try.func87 rfl (by simp [Try.f87]) fun X hn hX => ?_
  repeat' (first | (with_reducible first | refine V_seq ?_ | refine V_skip ?_ | refine V_ret ?_) | ((with_reducible refine V_cond ?_); simp only [go_sem, simprocAttr]) | ((refine V_region (by rw [hn]; rfl) ?_); intro K hK) | ((first | with_reducible refine evOps_n ?_ | ((with_reducible apply evOps_g); rfl)); intro K hK; simp (contextual := true) only [go_sem, simprocAttr]) | with_reducible refine evOps_nil ?_ | ((with_reducible refine hK _ ?_); clear hK K) | (with_reducible first | refine And.intro ?_ ?_ | refine nxt_n ?_ | refine nxt_r ?_ | refine inR_mk ?_ ?_) | (refine fun (hc : (_ : Bool) = _) => ?_; try simp only [hcS] at hc))
  all_goals ((first | refine ret_auto ?_ | refine ret_auto' ?_); simp only [go_sem, simprocAttr, Try.f87])
  · rw [dec_eq, Bool.decide_and]; simp [hc]
  · rw [dec_f]; omega
theorem cal_within : Callable Try.prog 79 := ⟨_, Try.func79, rfl, rfl⟩
theorem sp_within {l : List Int} {n : Int} (hn' : inR (n - 1)) (hl : l.length ≤ 1048576) : Spec Try.prog 79 [.bor [] (ints l), iv n] [] (bv (dec (Within l n))) [] := by
  refine spec_of_V (E := TE) 0 Try.func79 rfl (by simp [Try.f79]) fun X hn hX => ?_
  repeat' (first | (with_reducible first | refine V_seq ?_ | refine V_block ?_ | refine V_skip ?_ | refine V_ret ?_ | refine V_exit ?_) | ((with_reducible refine V_cond ?_); simp only [go_sem, simprocAttr]) | ((refine V_region (by rw [hn]; rfl) ?_); intro K hK) | ((first | with_reducible refine evOps_n ?_ | ((with_reducible apply evOps_g); rfl)); intro K hK; simp (contextual := true) only [go_sem, simprocAttr]) | with_reducible refine evOps_nil ?_ | ((with_reducible refine hK _ ?_); clear hK K) | (with_reducible first | refine And.intro ?_ ?_ | refine nxt_n ?_ | refine nxt_r ?_ | refine nxt_e ?_ | refine blk_n ?_ | refine blk_r ?_ | refine blk_same ?_ | refine blk_other (by decide) ?_ | refine noG_n ?_ | refine noG_r ?_ | refine noG_e ?_ | refine inR_mk ?_ ?_) | (refine fun (hc : (_ : Bool) = _) => ?_; try simp only [hcS] at hc))
  refine V_loopK (G := {i : Nat // i ≤ l.length ∧ (∀ j, j < i → 0 ≤ l.getD j 0 ∧ l.getD j 0 < n)}) (fun ⟨i, _⟩ => [(9, iv i)]) [1, 7, 8] (fun ⟨i, _⟩ => []) [] (fun zz => l.length - zz.1) ⟨0, Nat.zero_le _, by omega⟩ ?_ ?_
  · exact Imp.au hX
  rintro ⟨i, hii, hwi⟩
  simp only [go_sem, simprocAttr]
  repeat' (first | (with_reducible first | refine V_seq ?_ | refine V_block ?_ | refine V_skip ?_ | refine V_ret ?_ | refine V_exit ?_) | ((with_reducible refine V_cond ?_); simp only [go_sem, simprocAttr]) | ((refine V_region (by rw [hn]; rfl) ?_); intro K hK) | ((first | with_reducible refine evOps_n ?_ | ((with_reducible apply evOps_g); rfl)); intro K hK; simp (contextual := true) only [go_sem, simprocAttr]) | with_reducible refine evOps_nil ?_ | ((with_reducible refine hK _ ?_); clear hK K) | (with_reducible first | refine And.intro ?_ ?_ | refine nxt_n ?_ | refine nxt_r ?_ | refine nxt_e ?_ | refine blk_n ?_ | refine blk_r ?_ | refine blk_same ?_ | refine blk_other (by decide) ?_ | refine noG_n ?_ | refine noG_r ?_ | refine noG_e ?_ | refine inR_mk ?_ ?_) | ((with_reducible refine evCall_at 87 ?_); refine EvCall.rq (a := (sp_inRange)) (b := cal_inRange) (c := ?_); all_goals try simp only [go_sem, simprocAttr]) | (refine fun (hc : (_ : Bool) = _) => ?_; try simp only [hcS] at hc))
  all_goals try (unfold inR at hn'; omega)
  · (first | refine ret_auto ?_ | refine ret_auto' ?_); simp only [go_sem, simprocAttr, Try.f79]
    rw [dec_f]
    intro h
    have := h i (by omega)
    omega
  · refine ⟨⟨i + 1, by omega, (by exact all_succ hwi (by omega))⟩, by simp only; omega, Imp.ao hX⟩
  · (first | refine ret_auto ?_ | refine ret_auto' ?_); simp only [go_sem, simprocAttr, Try.f79]
    rw [dec_t]
    intro j hj
    exact hwi j (by omega)
theorem cal_Category_ends : Callable Try.prog 90 := ⟨_, Try.func90, rfl, rfl⟩
theorem sp_Category_ends {c : Cat} {f : Int} (h0 : 0 ≤ f) (h1 : f < c.fr.length) (h2 : f < c.to.length) : Spec Try.prog 90 [.bptr [] (catD c), iv f] [] (.agg [iv (c.F f), iv (c.T f)]) [] := by
  refine spec_of_V (E := TE) 0 Try.func90 rfl (by simp [Try.f90]) fun X hn hX => ?_
  repeat' (first | (with_reducible first | refine V_seq ?_ | refine V_skip ?_ | refine V_ret ?_) | ((with_reducible refine V_cond ?_); simp only [go_sem, simprocAttr]) | ((first | refine V_region (by rw [hn]; rfl) ?_ | refine V_drawn hmix (by rw [hn]; rfl) ?_); intro K hK) | ((first | with_reducible refine evOps_n ?_ | ((with_reducible apply evOps_g); rfl) | with_reducible refine evOpsD_n ?_ | ((with_reducible apply evOpsD_g); rfl)); intro K hK; simp (contextual := true) only [go_sem, simprocAttr]) | with_reducible refine evOps_nil ?_ | ((with_reducible refine evOpsD_nil ?_ ?_); kernel_rfl) | ((with_reducible refine hK _ ?_); clear hK K) | (with_reducible first | refine And.intro ?_ ?_ | refine nxt_n ?_ | refine nxt_r ?_ | refine inR_mk ?_ ?_) | (refine fun (hc : (_ : Bool) = _) => ?_; try simp only [hcS] at hc))
  all_goals try omega
  (first | refine ret_auto ?_ | refine ret_auto' ?_); simp only [go_sem, simprocAttr, Try.f90]
theorem cal_Category_arrows : Callable Try.prog 78 := ⟨_, Try.func78, rfl, rfl⟩
theorem sp_Category_arrows {c : Cat} : Spec Try.prog 78 [.bptr [] (catD c)] [] (iv c.fr.length) [] := by
  refine spec_of_V (E := TE) 0 Try.func78 rfl (by simp [Try.f78]) fun X hn hX => ?_
  repeat' (first | (with_reducible first | refine V_seq ?_ | refine V_skip ?_ | refine V_ret ?_) | ((with_reducible refine V_cond ?_); simp only [go_sem, simprocAttr]) | ((refine V_region (by rw [hn]; rfl) ?_); intro K hK) | ((first | with_reducible refine evOps_n ?_ | ((with_reducible apply evOps_g); rfl)); intro K hK; simp (contextual := true) only [go_sem, simprocAttr]) | with_reducible refine evOps_nil ?_ | ((with_reducible refine hK _ ?_); clear hK K) | (with_reducible first | refine And.intro ?_ ?_ | refine nxt_n ?_ | refine nxt_r ?_ | refine inR_mk ?_ ?_) | (refine fun (hc : (_ : Bool) = _) => ?_; try simp only [hcS] at hc))
  (first | refine ret_auto ?_ | refine ret_auto' ?_); simp only [go_sem, simprocAttr, Try.f78]
theorem cal_Category_then : Callable Try.prog 91 := ⟨_, Try.func91, rfl, rfl⟩
theorem sp_Category_then {c : Cat} {f g : Int} (h0 : 0 ≤ f) (h1 : f < c.co.length) (h2 : 0 ≤ g) (h3 : g < (c.co.getD f.toNat []).length) : Spec Try.prog 91 [.bptr [] (catD c), iv f, iv g] [] (iv (c.C f g)) [] := by
  refine spec_of_V (E := TE) 0 Try.func91 rfl (by simp [Try.f91]) fun X hn hX => ?_
  repeat' (first | (with_reducible first | refine V_seq ?_ | refine V_skip ?_ | refine V_ret ?_) | ((with_reducible refine V_cond ?_); simp only [go_sem, simprocAttr]) | ((refine V_region (by rw [hn]; rfl) ?_); intro K hK) | ((first | with_reducible refine evOps_n ?_ | ((with_reducible apply evOps_g); rfl)); intro K hK; simp (contextual := true) only [go_sem, simprocAttr]) | with_reducible refine evOps_nil ?_ | ((with_reducible refine hK _ ?_); clear hK K) | (with_reducible first | refine And.intro ?_ ?_ | refine nxt_n ?_ | refine nxt_r ?_ | refine inR_mk ?_ ?_) | (refine fun (hc : (_ : Bool) = _) => ?_; try simp only [hcS] at hc))
  all_goals try omega
  (first | refine ret_auto ?_ | refine ret_auto' ?_); simp only [go_sem, simprocAttr, Try.f91]
end Go.Eng
end
section
namespace Go.Eng
open Go Go.Proofs Go.Cats
theorem eq_ends : EqP2 TE.P 112 := eqP2_mk Try.underlying112 (by decide) (by decide) Try.underlying2 (by first | exact Try.stoodInHeld112 | kernel_rfl) (by first | exact Try.eqGuardType112 | kernel_rfl) fun xs off w v h => run_part_plain (P := Try.prog) w (by kernel_rfl) h
theorem cal_Category_isShape : Callable Try.prog 88 := ⟨_, Try.func88, rfl, rfl⟩
theorem sp_Category_isShape {c : Cat} (hb : CatB c) : Spec Try.prog 88 [.bptr [] (catD c)] [] (bv (dec (Shape c))) [] := by
  refine spec_of_V (E := TE) 0 Try.func88 rfl (by simp [Try.f88]) fun X hn hX => ?_
  obtain ⟨b1, b2, b3, b4, b5, b6, b7⟩ := hb
  repeat' (first | (with_reducible first | refine V_seq ?_ | refine V_block ?_ | refine V_skip ?_ | refine V_ret ?_ | refine V_exit ?_) | ((with_reducible refine V_cond ?_); simp only [go_sem, simprocAttr]) | ((first | refine V_region (by rw [hn]; rfl) ?_ | refine V_drawn hmix (by rw [hn]; rfl) ?_); intro K hK) | ((first | with_reducible refine evOps_n ?_ | ((with_reducible apply evOps_g); rfl) | with_reducible refine evOpsD_n ?_ | ((with_reducible apply evOpsD_g); rfl)); intro K hK; simp (contextual := true) only [go_sem, simprocAttr]) | with_reducible refine evOps_nil ?_ | ((with_reducible refine evOpsD_nil ?_ ?_); kernel_rfl) | ((with_reducible refine hK _ ?_); clear hK K) | (with_reducible first | refine And.intro ?_ ?_ | refine nxt_n ?_ | refine nxt_r ?_ | refine nxt_e ?_ | refine blk_n ?_ | refine blk_r ?_ | refine blk_same ?_ | refine blk_other (by decide) ?_ | refine noG_n ?_ | refine noG_r ?_ | refine noG_e ?_ | refine inR_mk ?_ ?_) | ((with_reducible refine evCall_at 78 ?_); refine EvCall.rq (a := (sp_Category_arrows)) (b := cal_Category_arrows) (c := ?_); all_goals try simp only [go_sem, simprocAttr]) | ((with_reducible refine evCall_at 87 ?_); refine EvCall.rq (a := (sp_inRange)) (b := cal_inRange) (c := ?_); all_goals try simp only [go_sem, simprocAttr]) | ((with_reducible refine evCall_at 79 ?_); refine EvCall.rq (a := (sp_within ?_ ?_)) (b := cal_within) (c := ?_); all_goals try simp only [go_sem, simprocAttr]) | ((with_reducible refine evCall_at 90 ?_); refine EvCall.rq (a := (sp_Category_ends ?_ ?_ ?_)) (b := cal_Category_ends) (c := ?_); all_goals try simp only [go_sem, simprocAttr]) | (refine fun (hc : (_ : Bool) = _) => ?_; try simp only [hcS] at hc))
  all_goals try omega
  all_goals try ((first | refine ret_auto ?_ | refine ret_auto' ?_); simp only [go_sem, simprocAttr, Try.f88]; exact bv_f (fun s => by obtain ⟨s1, s2, s3, s4, s5, s6, s7, s8, s9, s10, s11⟩ := s; first | omega | contradiction | simp_all))
  have hI : Within c.id c.fr.length := by assumption
  have hF : Within c.fr c.ob := by assumption
  have hT : Within c.to c.ob := by assumption
  refine V_loopK (G := {i : Nat // i ≤ c.id.length ∧ (∀ x, x < i → c.F (c.id.getD x 0) = x ∧ c.T (c.id.getD x 0) = x)}) (fun ⟨i, _⟩ => [(88, iv i)]) [0, 3, 86, 87] (fun ⟨i, _⟩ => []) [] (fun zz => c.id.length - zz.1) ⟨0, Nat.zero_le _, by omega⟩ ?_ ?_
  · exact Imp.au hX
  rintro ⟨i, hii, hwi⟩
  simp only [go_sem, simprocAttr]
  have hIi := hI i
  repeat' (first | (with_reducible first | refine V_seq ?_ | refine V_block ?_ | refine V_skip ?_ | refine V_ret ?_ | refine V_exit ?_) | ((with_reducible refine V_cond ?_); simp only [go_sem, simprocAttr]) | ((first | refine V_region (by rw [hn]; rfl) ?_ | refine V_drawn hmix (by rw [hn]; rfl) ?_); intro K hK) | ((first | with_reducible refine evOps_n ?_ | ((with_reducible apply evOps_g); rfl) | with_reducible refine evOpsD_n ?_ | ((with_reducible apply evOpsD_g); rfl)); intro K hK; simp (contextual := true) only [go_sem, simprocAttr]) | with_reducible refine evOps_nil ?_ | ((with_reducible refine evOpsD_nil ?_ ?_); kernel_rfl) | ((with_reducible refine hK _ ?_); clear hK K) | (with_reducible first | refine And.intro ?_ ?_ | refine nxt_n ?_ | refine nxt_r ?_ | refine nxt_e ?_ | refine blk_n ?_ | refine blk_r ?_ | refine blk_same ?_ | refine blk_other (by decide) ?_ | refine noG_n ?_ | refine noG_r ?_ | refine noG_e ?_ | refine inR_mk ?_ ?_) | ((with_reducible refine evCall_at 78 ?_); refine EvCall.rq (a := (sp_Category_arrows)) (b := cal_Category_arrows) (c := ?_); all_goals try simp only [go_sem, simprocAttr]) | ((with_reducible refine evCall_at 87 ?_); refine EvCall.rq (a := (sp_inRange)) (b := cal_inRange) (c := ?_); all_goals try simp only [go_sem, simprocAttr]) | ((with_reducible refine evCall_at 79 ?_); refine EvCall.rq (a := (sp_within ?_ ?_)) (b := cal_within) (c := ?_); all_goals try simp only [go_sem, simprocAttr]) | ((with_reducible refine evCall_at 90 ?_); refine EvCall.rq (a := (sp_Category_ends ?_ ?_ ?_)) (b := cal_Category_ends) (c := ?_); all_goals try simp only [go_sem, simprocAttr]) | (refine hook_ne2 eq_ends (by simp only [go_sem, simprocAttr]; rfl) (by simp only [go_sem, simprocAttr]; rfl) ?_; simp only [go_sem, simprocAttr]) | (refine fun (hc : (_ : Bool) = _) => ?_; try simp only [hcS] at hc))
  all_goals try omega
  · (first | refine ret_auto ?_ | refine ret_auto' ?_); simp only [go_sem, simprocAttr, Try.f88]
    exact bv_f (fun s => by have h := s.ide i (by omega); ((try simp only [Cat.F, Cat.T, Cat.I, Cat.C, Fun.O, Fun.A, Cat.Entry, Int.toNat_natCast] at *); omega))
  · refine ⟨⟨i + 1, by omega, (by exact all_succ hwi hc)⟩, by simp only; omega, Imp.ao hX⟩
  have hide : ∀ x, x < c.id.length → c.F (c.id.getD x 0) = x ∧ c.T (c.id.getD x 0) = x := fun x hx => hwi x (by omega)
  clear hwi hIi
  refine V_loopK (G := {f : Nat // f ≤ c.co.length ∧ (∀ k, k < f → (c.co.getD k []).length = c.fr.length ∧ ∀ g, g < c.fr.length → c.Entry k g)}) (fun ⟨f, _⟩ => [(106, iv f)]) [0, 3, 104, 105] (fun ⟨f, _⟩ => []) [] (fun zz => c.co.length - zz.1) ⟨0, Nat.zero_le _, by omega⟩ ?_ ?_
  · exact Imp.au hX
  rintro ⟨f, hif, hwf⟩
  simp only [go_sem, simprocAttr]
  have b7f := b7 f
  repeat' (first | (with_reducible first | refine V_seq ?_ | refine V_block ?_ | refine V_skip ?_ | refine V_ret ?_ | refine V_exit ?_) | ((with_reducible refine V_cond ?_); simp only [go_sem, simprocAttr]) | ((first | refine V_region (by rw [hn]; rfl) ?_ | refine V_drawn hmix (by rw [hn]; rfl) ?_); intro K hK) | ((first | with_reducible refine evOps_n ?_ | ((with_reducible apply evOps_g); rfl) | with_reducible refine evOpsD_n ?_ | ((with_reducible apply evOpsD_g); rfl)); intro K hK; simp (contextual := true) only [go_sem, simprocAttr]) | with_reducible refine evOps_nil ?_ | ((with_reducible refine evOpsD_nil ?_ ?_); kernel_rfl) | ((with_reducible refine hK _ ?_); clear hK K) | (with_reducible first | refine And.intro ?_ ?_ | refine nxt_n ?_ | refine nxt_r ?_ | refine nxt_e ?_ | refine blk_n ?_ | refine blk_r ?_ | refine blk_same ?_ | refine blk_other (by decide) ?_ | refine noG_n ?_ | refine noG_r ?_ | refine noG_e ?_ | refine inR_mk ?_ ?_) | ((with_reducible refine evCall_at 78 ?_); refine EvCall.rq (a := (sp_Category_arrows)) (b := cal_Category_arrows) (c := ?_); all_goals try simp only [go_sem, simprocAttr]) | ((with_reducible refine evCall_at 87 ?_); refine EvCall.rq (a := (sp_inRange)) (b := cal_inRange) (c := ?_); all_goals try simp only [go_sem, simprocAttr]) | ((with_reducible refine evCall_at 79 ?_); refine EvCall.rq (a := (sp_within ?_ ?_)) (b := cal_within) (c := ?_); all_goals try simp only [go_sem, simprocAttr]) | ((with_reducible refine evCall_at 90 ?_); refine EvCall.rq (a := (sp_Category_ends ?_ ?_ ?_)) (b := cal_Category_ends) (c := ?_); all_goals try simp only [go_sem, simprocAttr]) | (refine fun (hc : (_ : Bool) = _) => ?_; try simp only [hcS] at hc))
  all_goals try omega
  · (first | refine ret_auto ?_ | refine ret_auto' ?_); simp only [go_sem, simprocAttr, Try.f88]
    exact bv_f (fun s => by have h := (s.coe f (by omega)).1; omega)
  refine V_loopK (G := {g : Nat // g ≤ (c.co.getD f []).length ∧ (∀ k, k < g → c.Entry f k)}) (fun ⟨g, _⟩ => [(117, iv g)]) [0, 3, 6, 104, 105, 106, 115, 116] (fun ⟨g, _⟩ => []) [] (fun zz => (c.co.getD f []).length - zz.1) ⟨0, Nat.zero_le _, by omega⟩ ?_ ?_
  · exact Imp.au hX
  rintro ⟨g, hig, hwg⟩
  simp only [go_sem, simprocAttr]
  repeat' (first | (with_reducible first | refine V_seq ?_ | refine V_block ?_ | refine V_skip ?_ | refine V_ret ?_ | refine V_exit ?_) | ((with_reducible refine V_cond ?_); simp only [go_sem, simprocAttr]) | ((first | refine V_region (by rw [hn]; rfl) ?_ | refine V_drawn hmix (by rw [hn]; rfl) ?_); intro K hK) | ((first | with_reducible refine evOps_n ?_ | ((with_reducible apply evOps_g); rfl) | with_reducible refine evOpsD_n ?_ | ((with_reducible apply evOpsD_g); rfl)); intro K hK; simp (contextual := true) only [go_sem, simprocAttr]) | with_reducible refine evOps_nil ?_ | ((with_reducible refine evOpsD_nil ?_ ?_); kernel_rfl) | ((with_reducible refine hK _ ?_); clear hK K) | (with_reducible first | refine And.intro ?_ ?_ | refine nxt_n ?_ | refine nxt_r ?_ | refine nxt_e ?_ | refine blk_n ?_ | refine blk_r ?_ | refine blk_same ?_ | refine blk_other (by decide) ?_ | refine noG_n ?_ | refine noG_r ?_ | refine noG_e ?_ | refine inR_mk ?_ ?_) | ((with_reducible refine evCall_at 78 ?_); refine EvCall.rq (a := (sp_Category_arrows)) (b := cal_Category_arrows) (c := ?_); all_goals try simp only [go_sem, simprocAttr]) | ((with_reducible refine evCall_at 87 ?_); refine EvCall.rq (a := (sp_inRange)) (b := cal_inRange) (c := ?_); all_goals try simp only [go_sem, simprocAttr]) | ((with_reducible refine evCall_at 79 ?_); refine EvCall.rq (a := (sp_within ?_ ?_)) (b := cal_within) (c := ?_); all_goals try simp only [go_sem, simprocAttr]) | ((with_reducible refine evCall_at 90 ?_); refine EvCall.rq (a := (sp_Category_ends ?_ ?_ ?_)) (b := cal_Category_ends) (c := ?_); all_goals try simp only [go_sem, simprocAttr]) | (refine hook_ne2 eq_ends (by simp only [go_sem, simprocAttr]; rfl) (by simp only [go_sem, simprocAttr]; rfl) ?_; simp only [go_sem, simprocAttr]) | (refine fun (hc : (_ : Bool) = _) => ?_; try simp only [hcS] at hc))
  all_goals try omega
  · (first | refine ret_auto ?_ | refine ret_auto' ?_); simp only [go_sem, simprocAttr, Try.f88]
    exact bv_f (fun s => by have h := (s.coe f (by omega)).2 g (by omega); ((try simp only [Cat.F, Cat.T, Cat.I, Cat.C, Fun.O, Fun.A, Cat.Entry, Int.toNat_natCast] at *); omega))
  · refine ⟨⟨g + 1, by omega, (by exact all_succ hwg (by ((try simp only [Cat.F, Cat.T, Cat.I, Cat.C, Fun.O, Fun.A, Cat.Entry, Int.toNat_natCast] at *); omega)))⟩, by simp only; omega, Imp.ao hX⟩
  · (first | refine ret_auto ?_ | refine ret_auto' ?_); simp only [go_sem, simprocAttr, Try.f88]
    exact bv_f (fun s => by have h := (s.coe f (by omega)).2 g (by omega); ((try simp only [Cat.F, Cat.T, Cat.I, Cat.C, Fun.O, Fun.A, Cat.Entry, Int.toNat_natCast] at *); omega))
  · refine ⟨⟨g + 1, by omega, (by exact all_succ hwg (by ((try simp only [Cat.F, Cat.T, Cat.I, Cat.C, Fun.O, Fun.A, Cat.Entry, Int.toNat_natCast] at *); omega)))⟩, by simp only; omega, Imp.ao hX⟩
  · (first | refine ret_auto ?_ | refine ret_auto' ?_); simp only [go_sem, simprocAttr, Try.f88]
    exact bv_f (fun s => by have h := (s.coe f (by omega)).2 g (by omega); ((try simp only [Cat.F, Cat.T, Cat.I, Cat.C, Fun.O, Fun.A, Cat.Entry, Int.toNat_natCast] at *); omega))
  · refine ⟨⟨f + 1, by omega, (by exact all_succ hwf ⟨by omega, fun k hk => hwg k (by omega)⟩)⟩, by simp only; omega, Imp.ao hX⟩
  · (first | refine ret_auto ?_ | refine ret_auto' ?_); simp only [go_sem, simprocAttr, Try.f88]
    exact bv_t ⟨by omega, by omega, by omega, by omega, hF, hT, by assumption, hI, by omega, hide, fun k hk => hwf k (by omega)⟩
end Go.Eng
end
section
namespace Go.Eng
open Go Go.Proofs Go.Cats
theorem cal_Category_fault : Callable Try.prog 89 := ⟨_, Try.func89, rfl, rfl⟩
theorem sp_Category_fault {c : Cat} (s : Shape c) : Spec Try.prog 89 [.bptr [] (catD c)] [] (.tup [iv c.fault.1, iv c.fault.2.1, iv c.fault.2.2.1, iv c.fault.2.2.2]) [] := by
  refine spec_of_V (E := TE) 0 Try.func89 rfl (by simp [Try.f89]) fun X hn hX => ?_
  have ⟨s1, s2, s3, s4, s5, s6, s7, s8, s9, s10, s11⟩ := s
  repeat' (first | (with_reducible first | refine V_seq ?_ | refine V_block ?_ | refine V_skip ?_ | refine V_ret ?_ | refine V_exit ?_) | ((with_reducible refine V_cond ?_); simp only [go_sem, simprocAttr]) | ((first | refine V_region (by rw [hn]; rfl) ?_ | refine V_drawn hmix (by rw [hn]; rfl) ?_); intro K hK) | ((first | with_reducible refine evOps_n ?_ | ((with_reducible apply evOps_g); rfl) | with_reducible refine evOpsD_n ?_ | ((with_reducible apply evOpsD_g); rfl)); intro K hK; simp (contextual := true) only [go_sem, simprocAttr]) | with_reducible refine evOps_nil ?_ | ((with_reducible refine evOpsD_nil ?_ ?_); kernel_rfl) | ((with_reducible refine hK _ ?_); clear hK K) | (with_reducible first | refine And.intro ?_ ?_ | refine nxt_n ?_ | refine nxt_r ?_ | refine nxt_e ?_ | refine blk_n ?_ | refine blk_r ?_ | refine blk_same ?_ | refine blk_other (by decide) ?_ | refine noG_n ?_ | refine noG_r ?_ | refine noG_e ?_ | refine inR_mk ?_ ?_) | ((with_reducible refine evCall_at 78 ?_); refine EvCall.rq (a := (sp_Category_arrows)) (b := cal_Category_arrows) (c := ?_); all_goals try simp only [go_sem, simprocAttr]) | (refine fun (hc : (_ : Bool) = _) => ?_; try simp only [hcS] at hc))
  refine V_loopK (G := {f : Nat // f ≤ c.fr.length ∧ (scan f c.fault1 = none)}) (fun ⟨f, _⟩ => [(7, iv f)]) [0, 6] (fun ⟨f, _⟩ => []) [] (fun zz => c.fr.length - zz.1) ⟨0, Nat.zero_le _, by rfl⟩ ?_ ?_
  · exact Imp.au hX
  rintro ⟨f, hif, hwf⟩
  simp only [go_sem, simprocAttr]
  have hF := s5 f
  have hT := s6 f
  have hI1 := s8 (c.fr.getD f 0).toNat
  have hI2 := s8 (c.to.getD f 0).toNat
  have hr1 := fun h => (s11 (c.id.getD (c.fr.getD f 0).toNat 0).toNat h).1
  have hr2 := fun h => (s11 f h).1
  repeat' (first | (with_reducible first | refine V_seq ?_ | refine V_block ?_ | refine V_skip ?_ | refine V_ret ?_ | refine V_exit ?_) | ((with_reducible refine V_cond ?_); simp only [go_sem, simprocAttr]) | ((first | refine V_region (by rw [hn]; rfl) ?_ | refine V_drawn hmix (by rw [hn]; rfl) ?_); intro K hK) | ((first | with_reducible refine evOps_n ?_ | ((with_reducible apply evOps_g); rfl) | with_reducible refine evOpsD_n ?_ | ((with_reducible apply evOpsD_g); rfl)); intro K hK; simp (contextual := true) only [go_sem, simprocAttr]) | with_reducible refine evOps_nil ?_ | ((with_reducible refine evOpsD_nil ?_ ?_); kernel_rfl) | ((with_reducible refine hK _ ?_); clear hK K) | (with_reducible first | refine And.intro ?_ ?_ | refine nxt_n ?_ | refine nxt_r ?_ | refine nxt_e ?_ | refine blk_n ?_ | refine blk_r ?_ | refine blk_same ?_ | refine blk_other (by decide) ?_ | refine noG_n ?_ | refine noG_r ?_ | refine noG_e ?_ | refine inR_mk ?_ ?_) | ((with_reducible refine evCall_at 91 ?_); refine EvCall.rq (a := (sp_Category_then ?_ ?_ ?_ ?_)) (b := cal_Category_then) (c := ?_); all_goals try simp only [go_sem, simprocAttr]) | (refine fun (hc : (_ : Bool) = _) => ?_; try simp only [hcS] at hc))
  all_goals try ((try simp only [Cat.F, Cat.T, Cat.I, Cat.C, Fun.O, Fun.A, Cat.Entry, Int.toNat_natCast] at *); omega)
  · (first | refine ret_auto ?_ | refine ret_auto' ?_); simp only [go_sem, simprocAttr, Try.f89]
    rw [Cat.fault_1 hwf (by omega) (Cat.fault1_t (.inr hc))]
  · refine ⟨⟨f + 1, by omega, (by exact scan_next hwf (Cat.fault1_f (by assumption) hc))⟩, by simp only; omega, Imp.ao hX⟩
  · (first | refine ret_auto ?_ | refine ret_auto' ?_); simp only [go_sem, simprocAttr, Try.f89]
    rw [Cat.fault_1 hwf (by omega) (Cat.fault1_t (.inl hc))]
  have h1 : scan c.fr.length c.fault1 = none := by have : f = c.fr.length := by omega
                                                   rw [← this]; exact hwf
  clear hwf hF hT hI1 hI2 hr1 hr2
  refine V_loopK (G := {f : Nat // f ≤ c.fr.length ∧ (scan f (fun f => scan c.fr.length fun g => c.fault2g f g) = none)}) (fun ⟨f, _⟩ => [(8, iv f)]) [0, 6] (fun ⟨f, _⟩ => []) [] (fun zz => c.fr.length - zz.1) ⟨0, Nat.zero_le _, by rfl⟩ ?_ ?_
  · exact Imp.au hX
  rintro ⟨f, hif, hwf⟩
  simp only [go_sem, simprocAttr]
  repeat' (first | (with_reducible first | refine V_seq ?_ | refine V_block ?_ | refine V_skip ?_ | refine V_ret ?_ | refine V_exit ?_) | ((with_reducible refine V_cond ?_); simp only [go_sem, simprocAttr]) | ((first | refine V_region (by rw [hn]; rfl) ?_ | refine V_drawn hmix (by rw [hn]; rfl) ?_); intro K hK) | ((first | with_reducible refine evOps_n ?_ | ((with_reducible apply evOps_g); rfl) | with_reducible refine evOpsD_n ?_ | ((with_reducible apply evOpsD_g); rfl)); intro K hK; simp (contextual := true) only [go_sem, simprocAttr]) | with_reducible refine evOps_nil ?_ | ((with_reducible refine evOpsD_nil ?_ ?_); kernel_rfl) | ((with_reducible refine hK _ ?_); clear hK K) | (with_reducible first | refine And.intro ?_ ?_ | refine nxt_n ?_ | refine nxt_r ?_ | refine nxt_e ?_ | refine blk_n ?_ | refine blk_r ?_ | refine blk_same ?_ | refine blk_other (by decide) ?_ | refine noG_n ?_ | refine noG_r ?_ | refine noG_e ?_ | refine inR_mk ?_ ?_) | (refine fun (hc : (_ : Bool) = _) => ?_; try simp only [hcS] at hc))
  all_goals try ((try simp only [Cat.F, Cat.T, Cat.I, Cat.C, Fun.O, Fun.A, Cat.Entry, Int.toNat_natCast] at *); omega)
  refine V_loopK (G := {g : Nat // g ≤ c.fr.length ∧ (scan g (fun g => c.fault2g f g) = none)}) (fun ⟨g, _⟩ => [(9, iv g)]) [0, 6, 8] (fun ⟨g, _⟩ => []) [] (fun zz => c.fr.length - zz.1) ⟨0, Nat.zero_le _, by rfl⟩ ?_ ?_
  · exact Imp.au hX
  rintro ⟨g, hig, hwg⟩
  simp only [go_sem, simprocAttr]
  have hr1 := fun h => (s11 f h).1
  have hr2 := fun h => (s11 f h).2 g
  have hr3 := fun h => (s11 g h).1
  have hr4 := fun h => (s11 ((c.co.getD f []).getD g 0).toNat h).1
  repeat' (first | (with_reducible first | refine V_seq ?_ | refine V_block ?_ | refine V_skip ?_ | refine V_ret ?_ | refine V_exit ?_) | ((with_reducible refine V_cond ?_); simp only [go_sem, simprocAttr]) | ((first | refine V_region (by rw [hn]; rfl) ?_ | refine V_drawn hmix (by rw [hn]; rfl) ?_); intro K hK) | ((first | with_reducible refine evOps_n ?_ | ((with_reducible apply evOps_g); rfl) | with_reducible refine evOpsD_n ?_ | ((with_reducible apply evOpsD_g); rfl)); intro K hK; simp (contextual := true) only [go_sem, simprocAttr]) | with_reducible refine evOps_nil ?_ | ((with_reducible refine evOpsD_nil ?_ ?_); kernel_rfl) | ((with_reducible refine hK _ ?_); clear hK K) | (with_reducible first | refine And.intro ?_ ?_ | refine nxt_n ?_ | refine nxt_r ?_ | refine nxt_e ?_ | refine blk_n ?_ | refine blk_r ?_ | refine blk_same ?_ | refine blk_other (by decide) ?_ | refine noG_n ?_ | refine noG_r ?_ | refine noG_e ?_ | refine inR_mk ?_ ?_) | ((with_reducible refine evCall_at 91 ?_); refine EvCall.rq (a := (sp_Category_then ?_ ?_ ?_ ?_)) (b := cal_Category_then) (c := ?_); all_goals try simp only [go_sem, simprocAttr]) | (refine fun (hc : (_ : Bool) = _) => ?_; try simp only [hcS] at hc))
  all_goals try ((try simp only [Cat.F, Cat.T, Cat.I, Cat.C, Fun.O, Fun.A, Cat.Entry, Int.toNat_natCast] at *); omega)
  · refine ⟨⟨g + 1, by omega, (by exact scan_next hwg (Cat.fault2g_f hc))⟩, by simp only; omega, Imp.ao hX⟩
  refine V_loopK (G := {h : Nat // h ≤ c.fr.length ∧ (scan h (fun h => c.fault2 f g h) = none)}) (fun ⟨h, _⟩ => [(10, iv h)]) [0, 6, 8, 9] (fun ⟨h, _⟩ => []) [] (fun zz => c.fr.length - zz.1) ⟨0, Nat.zero_le _, by rfl⟩ ?_ ?_
  · exact Imp.au hX
  rintro ⟨h, hih, hwh⟩
  simp only [go_sem, simprocAttr]
  have hr5 := fun q => (s11 g q).2 h
  repeat' (first | (with_reducible first | refine V_seq ?_ | refine V_block ?_ | refine V_skip ?_ | refine V_ret ?_ | refine V_exit ?_) | ((with_reducible refine V_cond ?_); simp only [go_sem, simprocAttr]) | ((first | refine V_region (by rw [hn]; rfl) ?_ | refine V_drawn hmix (by rw [hn]; rfl) ?_); intro K hK) | ((first | with_reducible refine evOps_n ?_ | ((with_reducible apply evOps_g); rfl) | with_reducible refine evOpsD_n ?_ | ((with_reducible apply evOpsD_g); rfl)); intro K hK; simp (contextual := true) only [go_sem, simprocAttr]) | with_reducible refine evOps_nil ?_ | ((with_reducible refine evOpsD_nil ?_ ?_); kernel_rfl) | ((with_reducible refine hK _ ?_); clear hK K) | (with_reducible first | refine And.intro ?_ ?_ | refine nxt_n ?_ | refine nxt_r ?_ | refine nxt_e ?_ | refine blk_n ?_ | refine blk_r ?_ | refine blk_same ?_ | refine blk_other (by decide) ?_ | refine noG_n ?_ | refine noG_r ?_ | refine noG_e ?_ | refine inR_mk ?_ ?_) | ((with_reducible refine evCall_at 91 ?_); refine EvCall.rq (a := (sp_Category_then ?_ ?_ ?_ ?_)) (b := cal_Category_then) (c := ?_); all_goals try simp only [go_sem, simprocAttr]) | (refine fun (hc : (_ : Bool) = _) => ?_; try simp only [hcS] at hc))
  all_goals try ((try simp only [Cat.F, Cat.T, Cat.I, Cat.C, Fun.O, Fun.A, Cat.Entry, Int.toNat_natCast] at *); omega)
  · (first | refine ret_auto ?_ | refine ret_auto' ?_); simp only [go_sem, simprocAttr, Try.f89]
    rw [Cat.fault_2 h1 hwf (by omega) hwg (by omega) (by omega) hwh (by omega) (Cat.fault2_t (by assumption) hc)]
  · refine ⟨⟨h + 1, by omega, (by exact scan_next hwh (Cat.fault2_f fun _ => hc))⟩, by simp only; omega, Imp.ao hX⟩
  · refine ⟨⟨h + 1, by omega, (by exact scan_next hwh (Cat.fault2_f fun _ => by omega))⟩, by simp only; omega, Imp.ao hX⟩
  · refine ⟨⟨g + 1, by omega, (by exact scan_next hwg (by rw [Cat.fault2g_t (by omega)]; exact scan_end hwh hih (by omega)))⟩, by simp only; omega, Imp.ao hX⟩
  · refine ⟨⟨f + 1, by omega, (by exact scan_next hwf (scan_end hwg hig (by omega)))⟩, by simp only; omega, Imp.ao hX⟩
  · (first | refine ret_auto ?_ | refine ret_auto' ?_); simp only [go_sem, simprocAttr, Try.f89]
    rw [Cat.fault_0 h1 (scan_end hwf hif (by omega))]
theorem cal_Category_isCategory : Callable Try.prog 86 := ⟨_, Try.func86, rfl, rfl⟩
theorem sp_Category_isCategory {c : Cat} (hb : CatB c) : Spec Try.prog 86 [.bptr [] (catD c)] [] (bv (dec (IsCat c))) [] := by
  refine spec_of_V (E := TE) 0 Try.func86 rfl (by simp [Try.f86]) fun X hn hX => ?_
  repeat' (first | (with_reducible first | refine V_seq ?_ | refine V_skip ?_ | refine V_ret ?_) | ((with_reducible refine V_cond ?_); simp only [go_sem, simprocAttr]) | ((refine V_region (by rw [hn]; rfl) ?_); intro K hK) | ((first | with_reducible refine evOps_n ?_ | ((with_reducible apply evOps_g); rfl)); intro K hK; simp (contextual := true) only [go_sem, simprocAttr]) | with_reducible refine evOps_nil ?_ | ((with_reducible refine hK _ ?_); clear hK K) | (with_reducible first | refine And.intro ?_ ?_ | refine nxt_n ?_ | refine nxt_r ?_ | refine inR_mk ?_ ?_) | ((with_reducible refine evCall_at 88 ?_); refine EvCall.rq (a := (sp_Category_isShape ?_)) (b := cal_Category_isShape) (c := ?_); all_goals try simp only [go_sem, simprocAttr]) | ((with_reducible refine evCall_at 89 ?_); refine EvCall.rq (a := (sp_Category_fault ?_)) (b := cal_Category_fault) (c := ?_); all_goals try simp only [go_sem, simprocAttr]) | (refine fun (hc : (_ : Bool) = _) => ?_; try simp only [hcS] at hc))
  all_goals try exact om_
  · (first | refine ret_auto ?_ | refine ret_auto' ?_); simp only [go_sem, simprocAttr, Try.f86]
    exact bv_f (fun s => hc s.toShape)
  · (first | refine ret_auto ?_ | refine ret_auto' ?_); simp only [go_sem, simprocAttr, Try.f86]
    rw [← dec_eq, dec_congr hc.fault_zero]
end Go.Eng
end
section
namespace Go.Eng
open Go Go.Proofs Go.Cats
def cmp : List Int → List Int → Int
  | [], [] => 0
  | [], _ :: _ => -1
  | _ :: _, [] => 1
  | a :: l, b :: m => if a = b then cmp l m else if a < b then -1 else 1
theorem cmp_zero : ∀ (a b : List Int), cmp a b = 0 ↔ a = b
  | [], [] => by simp [cmp]
  | [], _ :: _ => by simp [cmp]
  | _ :: _, [] => by simp [cmp]
  | a :: l, b :: m => by
    simp only [cmp, List.cons.injEq]
    split
    · rename_i h; rw [cmp_zero l m]; exact ⟨fun k => ⟨h, k⟩, fun k => k.2⟩
    · rename_i h; split <;> simp [h]
theorem cmp_drop : ∀ (a b : List Int) (i : Nat), a.take i = b.take i → i ≤ a.length → i ≤ b.length → cmp a b = cmp (a.drop i) (b.drop i)
  | _, _, 0, _, _, _ => rfl
  | [], _, i + 1, _, h, _ => by simp at h
  | _ :: _, [], i + 1, _, _, h => by simp at h
  | a :: l, b :: m, i + 1, h, k1, k2 => by
    simp only [List.take_succ_cons, List.cons.injEq] at h
    simp only [cmp, h.1, if_true, List.drop_succ_cons]
    exact cmp_drop l m i h.2 (by simpa using k1) (by simpa using k2)
theorem drop_cons (l : List Int) (i : Nat) (h : i < l.length) : l.drop i = l.getD i 0 :: l.drop (i + 1) := by
  rw [getD_get h]; exact List.drop_eq_getElem_cons h
theorem take_snoc_eq {a b : List Int} {i : Nat} (h : a.take i = b.take i) (ha : i < a.length) (hb : i < b.length) (e : a.getD i 0 = b.getD i 0) : a.take (i + 1) = b.take (i + 1) := by
  rw [getD_get ha, getD_get hb] at e
  rw [List.take_succ_eq_append_getElem ha, List.take_succ_eq_append_getElem hb, h, e]
theorem cal_compare : Callable Try.prog 82 := ⟨_, Try.func82, rfl, rfl⟩
theorem sp_compare {a b : List Int} (ha : a.length ≤ 1048576) (hb : b.length ≤ 1048576) : Spec Try.prog 82 [.bor [] (ints a), .bor [] (ints b)] [] (iv (cmp a b)) [] := by
  refine spec_of_V (E := TE) 0 Try.func82 rfl (by simp [Try.f82]) fun X hn hX => ?_
  repeat' (first | (with_reducible first | refine V_seq ?_ | refine V_block ?_ | refine V_skip ?_ | refine V_ret ?_ | refine V_exit ?_) | ((with_reducible refine V_cond ?_); simp only [go_sem, simprocAttr]) | ((first | refine V_region (by rw [hn]; rfl) ?_ | refine V_drawn hmix (by rw [hn]; rfl) ?_); intro K hK) | ((first | with_reducible refine evOps_n ?_ | ((with_reducible apply evOps_g); rfl) | with_reducible refine evOpsD_n ?_ | ((with_reducible apply evOpsD_g); rfl)); intro K hK; simp (contextual := true) only [go_sem, simprocAttr]) | with_reducible refine evOps_nil ?_ | ((with_reducible refine evOpsD_nil ?_ ?_); kernel_rfl) | ((with_reducible refine hK _ ?_); clear hK K) | (with_reducible first | refine And.intro ?_ ?_ | refine nxt_n ?_ | refine nxt_r ?_ | refine nxt_e ?_ | refine blk_n ?_ | refine blk_r ?_ | refine blk_same ?_ | refine blk_other (by decide) ?_ | refine noG_n ?_ | refine noG_r ?_ | refine noG_e ?_ | refine inR_mk ?_ ?_) | (refine fun (hc : (_ : Bool) = _) => ?_; try simp only [hcS] at hc))
  all_goals try exact om_
  refine V_loopK (G := {i : Nat // i ≤ a.length ∧ (i ≤ b.length ∧ a.take i = b.take i)}) (fun ⟨i, _⟩ => [(8, iv i)]) [0, 1, 7] (fun ⟨i, _⟩ => []) [] (fun zz => a.length - zz.1) ⟨0, Nat.zero_le _, by simp⟩ ?_ ?_
  · exact Imp.au hX
  rintro ⟨i, hii, hwi⟩
  simp only [go_sem, simprocAttr]
  repeat' (first | (with_reducible first | refine V_seq ?_ | refine V_block ?_ | refine V_skip ?_ | refine V_ret ?_ | refine V_exit ?_) | ((with_reducible refine V_cond ?_); simp only [go_sem, simprocAttr]) | ((first | refine V_region (by rw [hn]; rfl) ?_ | refine V_drawn hmix (by rw [hn]; rfl) ?_); intro K hK) | ((first | with_reducible refine evOps_n ?_ | ((with_reducible apply evOps_g); rfl) | with_reducible refine evOpsD_n ?_ | ((with_reducible apply evOpsD_g); rfl)); intro K hK; simp (contextual := true) only [go_sem, simprocAttr]) | with_reducible refine evOps_nil ?_ | ((with_reducible refine evOpsD_nil ?_ ?_); kernel_rfl) | ((with_reducible refine hK _ ?_); clear hK K) | (with_reducible first | refine And.intro ?_ ?_ | refine nxt_n ?_ | refine nxt_r ?_ | refine nxt_e ?_ | refine blk_n ?_ | refine blk_r ?_ | refine blk_same ?_ | refine blk_other (by decide) ?_ | refine noG_n ?_ | refine noG_r ?_ | refine noG_e ?_ | refine inR_mk ?_ ?_) | (refine fun (hc : (_ : Bool) = _) => ?_; try simp only [hcS] at hc))
  all_goals try exact om_
  · (first | refine ret_auto ?_ | refine ret_auto' ?_); simp only [go_sem, simprocAttr, Try.f82]
    rw [cmp_drop a b i hwi.2 hii hwi.1, drop_cons a i (by omega), List.drop_eq_nil_of_le (by omega : b.length ≤ i)]; rfl
  · (first | refine ret_auto ?_ | refine ret_auto' ?_); simp only [go_sem, simprocAttr, Try.f82]
    rw [cmp_drop a b i hwi.2 hii hwi.1, drop_cons a i (by omega), drop_cons b i (by omega)]; simp only [cmp]; rw [if_neg (by assumption), if_pos hc]
  · (first | refine ret_auto ?_ | refine ret_auto' ?_); simp only [go_sem, simprocAttr, Try.f82]
    rw [cmp_drop a b i hwi.2 hii hwi.1, drop_cons a i (by omega), drop_cons b i (by omega)]; simp only [cmp]; rw [if_neg (by assumption), if_neg (by omega)]
  · refine ⟨⟨i + 1, by omega, (by exact ⟨by omega, take_snoc_eq hwi.2 (by omega) (by omega) hc⟩)⟩, by simp only; omega, Imp.ao hX⟩
  · (first | refine ret_auto ?_ | refine ret_auto' ?_); simp only [go_sem, simprocAttr, Try.f82]
    rw [cmp_drop a b i hwi.2 hii hwi.1, List.drop_eq_nil_of_le (by omega : a.length ≤ i), drop_cons b i (by omega)]; rfl
  · (first | refine ret_auto ?_ | refine ret_auto' ?_); simp only [go_sem, simprocAttr, Try.f82]
    rw [cmp_drop a b i hwi.2 hii hwi.1, List.drop_eq_nil_of_le (by omega : a.length ≤ i), List.drop_eq_nil_of_le (by omega : b.length ≤ i)]; rfl
theorem cal_same : Callable Try.prog 65 := ⟨_, Try.func65, rfl, rfl⟩
theorem sp_same {a b : List Int} (ha : a.length ≤ 1048576) (hb : b.length ≤ 1048576) : Spec Try.prog 65 [.bor [] (ints a), .bor [] (ints b)] [] (bv (dec (a = b))) [] := by
  refine spec_of_V (E := TE) 0 Try.func65 rfl (by simp [Try.f65]) fun X hn hX => ?_
  repeat' (first | (with_reducible first | refine V_seq ?_ | refine V_skip ?_ | refine V_ret ?_) | ((with_reducible refine V_cond ?_); simp only [go_sem, simprocAttr]) | ((refine V_region (by rw [hn]; rfl) ?_); intro K hK) | ((first | with_reducible refine evOps_n ?_ | ((with_reducible apply evOps_g); rfl)); intro K hK; simp (contextual := true) only [go_sem, simprocAttr]) | with_reducible refine evOps_nil ?_ | ((with_reducible refine hK _ ?_); clear hK K) | (with_reducible first | refine And.intro ?_ ?_ | refine nxt_n ?_ | refine nxt_r ?_ | refine inR_mk ?_ ?_) | ((with_reducible refine evCall_at 82 ?_); refine EvCall.rq (a := (sp_compare ?_ ?_)) (b := cal_compare) (c := ?_); all_goals try simp only [go_sem, simprocAttr]) | (refine fun (hc : (_ : Bool) = _) => ?_; try simp only [hcS] at hc))
  all_goals try exact om_
  (first | refine ret_auto ?_ | refine ret_auto' ?_); simp only [go_sem, simprocAttr, Try.f65]
  rw [← dec_eq, dec_congr (cmp_zero a b)]
theorem cal_sameCategory : Callable Try.prog 46 := ⟨_, Try.func46, rfl, rfl⟩
theorem sp_sameCategory {c d : Cat} (hc0 : CatB c) (hd0 : CatB d) : Spec Try.prog 46 [.bptr [] (catD c), .bptr [] (catD d)] [] (bv (dec (c = d))) [] := by
  refine spec_of_V (E := TE) 0 Try.func46 rfl (by simp [Try.f46]) fun X hn hX => ?_
  obtain ⟨b1, b2, b3, b4, b5, b6, b7⟩ := hc0
  obtain ⟨d1, d2, d3, d4, d5, d6, d7⟩ := hd0
  repeat' (first | (with_reducible first | refine V_seq ?_ | refine V_block ?_ | refine V_skip ?_ | refine V_ret ?_ | refine V_exit ?_) | ((with_reducible refine V_cond ?_); simp only [go_sem, simprocAttr]) | ((first | refine V_region (by rw [hn]; rfl) ?_ | refine V_drawn hmix (by rw [hn]; rfl) ?_); intro K hK) | ((first | with_reducible refine evOps_n ?_ | ((with_reducible apply evOps_g); rfl) | with_reducible refine evOpsD_n ?_ | ((with_reducible apply evOpsD_g); rfl)); intro K hK; simp (contextual := true) only [go_sem, simprocAttr]) | with_reducible refine evOps_nil ?_ | ((with_reducible refine evOpsD_nil ?_ ?_); kernel_rfl) | ((with_reducible refine hK _ ?_); clear hK K) | (with_reducible first | refine And.intro ?_ ?_ | refine nxt_n ?_ | refine nxt_r ?_ | refine nxt_e ?_ | refine blk_n ?_ | refine blk_r ?_ | refine blk_same ?_ | refine blk_other (by decide) ?_ | refine noG_n ?_ | refine noG_r ?_ | refine noG_e ?_ | refine inR_mk ?_ ?_) | ((with_reducible refine evCall_at 65 ?_); refine EvCall.rq (a := (sp_same ?_ ?_)) (b := cal_same) (c := ?_); all_goals try simp only [go_sem, simprocAttr]) | (refine fun (hc : (_ : Bool) = _) => ?_; try simp only [hcS] at hc))
  all_goals try exact om_
  all_goals try ((first | refine ret_auto ?_ | refine ret_auto' ?_); simp only [go_sem, simprocAttr, Try.f46]; exact bv_f (fun s => by subst s; first | contradiction | omega))
  refine V_loopK (G := {i : Nat // i ≤ c.co.length ∧ (c.co.take i = d.co.take i)}) (fun ⟨i, _⟩ => [(69, iv i)]) [0, 1, 68] (fun ⟨i, _⟩ => []) [] (fun zz => c.co.length - zz.1) ⟨0, Nat.zero_le _, by simp⟩ ?_ ?_
  · exact Imp.au hX
  rintro ⟨i, hii, hwi⟩
  simp only [go_sem, simprocAttr]
  have h7 := b7 i
  have h8 := d7 i
  repeat' (first | (with_reducible first | refine V_seq ?_ | refine V_block ?_ | refine V_skip ?_ | refine V_ret ?_ | refine V_exit ?_) | ((with_reducible refine V_cond ?_); simp only [go_sem, simprocAttr]) | ((first | refine V_region (by rw [hn]; rfl) ?_ | refine V_drawn hmix (by rw [hn]; rfl) ?_); intro K hK) | ((first | with_reducible refine evOps_n ?_ | ((with_reducible apply evOps_g); rfl) | with_reducible refine evOpsD_n ?_ | ((with_reducible apply evOpsD_g); rfl)); intro K hK; simp (contextual := true) only [go_sem, simprocAttr]) | with_reducible refine evOps_nil ?_ | ((with_reducible refine evOpsD_nil ?_ ?_); kernel_rfl) | ((with_reducible refine hK _ ?_); clear hK K) | (with_reducible first | refine And.intro ?_ ?_ | refine nxt_n ?_ | refine nxt_r ?_ | refine nxt_e ?_ | refine blk_n ?_ | refine blk_r ?_ | refine blk_same ?_ | refine blk_other (by decide) ?_ | refine noG_n ?_ | refine noG_r ?_ | refine noG_e ?_ | refine inR_mk ?_ ?_) | ((with_reducible refine evCall_at 65 ?_); refine EvCall.rq (a := (sp_same ?_ ?_)) (b := cal_same) (c := ?_); all_goals try simp only [go_sem, simprocAttr]) | (refine fun (hc : (_ : Bool) = _) => ?_; try simp only [hcS] at hc))
  all_goals try exact om_
  · (first | refine ret_auto ?_ | refine ret_auto' ?_); simp only [go_sem, simprocAttr, Try.f46]
    exact bv_f (fun s => by subst s; exact hc rfl)
  · refine ⟨⟨i + 1, by omega, (by exact take_snoc hwi (by omega) (by omega) hc)⟩, by simp only; omega, Imp.ao hX⟩
  · (first | refine ret_auto ?_ | refine ret_auto' ?_); simp only [go_sem, simprocAttr, Try.f46]
    exact bv_t (Cat.eq (by assumption) (by assumption) (by assumption) (by assumption) (take_end hwi (by omega) (by omega)))
theorem cal_clone : Callable Try.prog 29 := ⟨_, Try.func29, rfl, rfl⟩
theorem sp_clone {l : List Int} (hl : l.length ≤ 1048576) : Spec Try.prog 29 [.bor [] (ints l)] [] (.sl 0) [(0, ⟨1, .arr (ints l)⟩)] := by
  refine spec_of_V (E := TE) 0 Try.func29 rfl (by simp [Try.f29]) fun X hn hX => ?_
  repeat' (first | (with_reducible first | refine V_seq ?_ | refine V_skip ?_ | refine V_ret ?_) | ((with_reducible refine V_cond ?_); simp only [go_sem, simprocAttr]) | ((refine V_region (by rw [hn]; rfl) ?_); intro K hK) | ((first | with_reducible refine evOps_n ?_ | ((with_reducible apply evOps_g); rfl)); intro K hK; simp (contextual := true) only [go_sem, simprocAttr]) | with_reducible refine evOps_nil ?_ | ((with_reducible refine hK _ ?_); clear hK K) | (with_reducible first | refine And.intro ?_ ?_ | refine nxt_n ?_ | refine nxt_r ?_ | refine inR_mk ?_ ?_) | (refine fun (hc : (_ : Bool) = _) => ?_; try simp only [hcS] at hc))
  all_goals try exact om_
  (first | refine ret_auto ?_ | refine ret_auto' ?_); simp only [go_sem, simprocAttr, Try.f29]
end Go.Eng
end
