/- Several texts in one: G01, G02, G03, G04. -/
import Derived.Test.YtnegknkhccfmfaaDoorKdx
import Derived.Test.YtnegknkhccfmfaaDoorTyq
import Derived.ChangeKeysEq
import Derived.KernelRfl
set_option linter.unusedSimpArgs false
set_option linter.unusedVariables false
set_option maxRecDepth 100000
set_option maxHeartbeats 8000000
section
namespace Go.Eng
open Go Go.Proofs Go.Cats
theorem hmix : TE.P.follows .mixedOrders = true := rfl
theorem cal_inRange : Callable Tryd.prog 62 := ⟨_, Tryd.func62, rfl, rfl⟩
theorem sp_inRange {n lo hi : Int} : Spec Tryd.prog 62 [iv n, iv lo, iv hi] [] (bv (dec (lo ≤ n ∧ n ≤ hi))) [] := by
  refine spec_of_V (E := TE) 0 Tryd.func62 rfl (by simp [Tryd.f62]) fun X hn hX => ?_
  repeat' (first | (with_reducible first | refine V_seq ?_ | refine V_skip ?_ | refine V_ret ?_) | ((with_reducible refine V_cond ?_); simp only [go_sem, simprocAttr]) | ((refine V_region (by rw [hn]; rfl) ?_); intro K hK) | ((first | with_reducible refine evOps_n ?_ | ((with_reducible apply evOps_g); rfl)); intro K hK; simp (contextual := true) only [go_sem, simprocAttr]) | with_reducible refine evOps_nil ?_ | ((with_reducible refine hK _ ?_); clear hK K) | (with_reducible first | refine And.intro ?_ ?_ | refine nxt_n ?_ | refine nxt_r ?_ | refine inR_mk ?_ ?_) | (refine fun (hc : (_ : Bool) = _) => ?_; try simp only [hcS] at hc))
  all_goals ((first | refine ret_auto ?_ | refine ret_auto' ?_); simp only [go_sem, simprocAttr, Tryd.f62])
  · rw [dec_eq, Bool.decide_and]; simp [hc]
  · rw [dec_f]; omega
theorem cal_within : Callable Tryd.prog 60 := ⟨_, Tryd.func60, rfl, rfl⟩
theorem sp_within {l : List Int} {n : Int} (hn' : inR (n - 1)) (hl : l.length ≤ 1048576) : Spec Tryd.prog 60 [.bor [] (ints l), iv n] [] (bv (dec (Within l n))) [] := by
  refine spec_of_V (E := TE) 0 Tryd.func60 rfl (by simp [Tryd.f60]) fun X hn hX => ?_
  repeat' (first | (with_reducible first | refine V_seq ?_ | refine V_block ?_ | refine V_skip ?_ | refine V_ret ?_ | refine V_exit ?_) | ((with_reducible refine V_cond ?_); simp only [go_sem, simprocAttr]) | ((refine V_region (by rw [hn]; rfl) ?_); intro K hK) | ((first | with_reducible refine evOps_n ?_ | ((with_reducible apply evOps_g); rfl)); intro K hK; simp (contextual := true) only [go_sem, simprocAttr]) | with_reducible refine evOps_nil ?_ | ((with_reducible refine hK _ ?_); clear hK K) | (with_reducible first | refine And.intro ?_ ?_ | refine nxt_n ?_ | refine nxt_r ?_ | refine nxt_e ?_ | refine blk_n ?_ | refine blk_r ?_ | refine blk_same ?_ | refine blk_other (by decide) ?_ | refine noG_n ?_ | refine noG_r ?_ | refine noG_e ?_ | refine inR_mk ?_ ?_) | (refine fun (hc : (_ : Bool) = _) => ?_; try simp only [hcS] at hc))
  refine V_loopK (G := {i : Nat // i ≤ l.length ∧ (∀ j, j < i → 0 ≤ l.getD j 0 ∧ l.getD j 0 < n)}) (fun ⟨i, _⟩ => [(9, iv i)]) [1, 7, 8] (fun ⟨i, _⟩ => []) [] (fun zz => l.length - zz.1) ⟨0, Nat.zero_le _, by omega⟩ ?_ ?_
  · exact Imp.au hX
  rintro ⟨i, hii, hwi⟩
  simp only [go_sem, simprocAttr]
  repeat' (first | (with_reducible first | refine V_seq ?_ | refine V_block ?_ | refine V_skip ?_ | refine V_ret ?_ | refine V_exit ?_) | ((with_reducible refine V_cond ?_); simp only [go_sem, simprocAttr]) | ((refine V_region (by rw [hn]; rfl) ?_); intro K hK) | ((first | with_reducible refine evOps_n ?_ | ((with_reducible apply evOps_g); rfl)); intro K hK; simp (contextual := true) only [go_sem, simprocAttr]) | with_reducible refine evOps_nil ?_ | ((with_reducible refine hK _ ?_); clear hK K) | (with_reducible first | refine And.intro ?_ ?_ | refine nxt_n ?_ | refine nxt_r ?_ | refine nxt_e ?_ | refine blk_n ?_ | refine blk_r ?_ | refine blk_same ?_ | refine blk_other (by decide) ?_ | refine noG_n ?_ | refine noG_r ?_ | refine noG_e ?_ | refine inR_mk ?_ ?_) | ((with_reducible refine evCall_at 62 ?_); refine EvCall.rq (a := (sp_inRange)) (b := cal_inRange) (c := ?_); all_goals try simp only [go_sem, simprocAttr]) | (refine fun (hc : (_ : Bool) = _) => ?_; try simp only [hcS] at hc))
  all_goals try (unfold inR at hn'; omega)
  · (first | refine ret_auto ?_ | refine ret_auto' ?_); simp only [go_sem, simprocAttr, Tryd.f60]
    rw [dec_f]
    intro h
    have := h i (by omega)
    omega
  · refine ⟨⟨i + 1, by omega, (by exact all_succ hwi (by omega))⟩, by simp only; omega, Imp.ao hX⟩
  · (first | refine ret_auto ?_ | refine ret_auto' ?_); simp only [go_sem, simprocAttr, Tryd.f60]
    rw [dec_t]
    intro j hj
    exact hwi j (by omega)
theorem cal_Category_ends : Callable Tryd.prog 63 := ⟨_, Tryd.func63, rfl, rfl⟩
theorem sp_Category_ends {c : Cat} {f : Int} (h0 : 0 ≤ f) (h1 : f < c.fr.length) (h2 : f < c.to.length) : Spec Tryd.prog 63 [.bptr [] (catD c), iv f] [] (.agg [iv (c.F f), iv (c.T f)]) [] := by
  refine spec_of_V (E := TE) 0 Tryd.func63 rfl (by simp [Tryd.f63]) fun X hn hX => ?_
  repeat' (first | (with_reducible first | refine V_seq ?_ | refine V_skip ?_ | refine V_ret ?_) | ((with_reducible refine V_cond ?_); simp only [go_sem, simprocAttr]) | ((first | refine V_region (by rw [hn]; rfl) ?_ | refine V_drawn hmix (by rw [hn]; rfl) ?_); intro K hK) | ((first | with_reducible refine evOps_n ?_ | ((with_reducible apply evOps_g); rfl) | with_reducible refine evOpsD_n ?_ | ((with_reducible apply evOpsD_g); rfl)); intro K hK; simp (contextual := true) only [go_sem, simprocAttr]) | with_reducible refine evOps_nil ?_ | ((with_reducible refine evOpsD_nil ?_ ?_); kernel_rfl) | ((with_reducible refine hK _ ?_); clear hK K) | (with_reducible first | refine And.intro ?_ ?_ | refine nxt_n ?_ | refine nxt_r ?_ | refine inR_mk ?_ ?_) | (refine fun (hc : (_ : Bool) = _) => ?_; try simp only [hcS] at hc))
  all_goals try omega
  (first | refine ret_auto ?_ | refine ret_auto' ?_); simp only [go_sem, simprocAttr, Tryd.f63]
theorem cal_Category_arrows : Callable Tryd.prog 59 := ⟨_, Tryd.func59, rfl, rfl⟩
theorem sp_Category_arrows {c : Cat} : Spec Tryd.prog 59 [.bptr [] (catD c)] [] (iv c.fr.length) [] := by
  refine spec_of_V (E := TE) 0 Tryd.func59 rfl (by simp [Tryd.f59]) fun X hn hX => ?_
  repeat' (first | (with_reducible first | refine V_seq ?_ | refine V_skip ?_ | refine V_ret ?_) | ((with_reducible refine V_cond ?_); simp only [go_sem, simprocAttr]) | ((refine V_region (by rw [hn]; rfl) ?_); intro K hK) | ((first | with_reducible refine evOps_n ?_ | ((with_reducible apply evOps_g); rfl)); intro K hK; simp (contextual := true) only [go_sem, simprocAttr]) | with_reducible refine evOps_nil ?_ | ((with_reducible refine hK _ ?_); clear hK K) | (with_reducible first | refine And.intro ?_ ?_ | refine nxt_n ?_ | refine nxt_r ?_ | refine inR_mk ?_ ?_) | (refine fun (hc : (_ : Bool) = _) => ?_; try simp only [hcS] at hc))
  (first | refine ret_auto ?_ | refine ret_auto' ?_); simp only [go_sem, simprocAttr, Tryd.f59]
theorem cal_Category_then : Callable Tryd.prog 61 := ⟨_, Tryd.func61, rfl, rfl⟩
theorem sp_Category_then {c : Cat} {f g : Int} (h0 : 0 ≤ f) (h1 : f < c.co.length) (h2 : 0 ≤ g) (h3 : g < (c.co.getD f.toNat []).length) : Spec Tryd.prog 61 [.bptr [] (catD c), iv f, iv g] [] (iv (c.C f g)) [] := by
  refine spec_of_V (E := TE) 0 Tryd.func61 rfl (by simp [Tryd.f61]) fun X hn hX => ?_
  repeat' (first | (with_reducible first | refine V_seq ?_ | refine V_skip ?_ | refine V_ret ?_) | ((with_reducible refine V_cond ?_); simp only [go_sem, simprocAttr]) | ((refine V_region (by rw [hn]; rfl) ?_); intro K hK) | ((first | with_reducible refine evOps_n ?_ | ((with_reducible apply evOps_g); rfl)); intro K hK; simp (contextual := true) only [go_sem, simprocAttr]) | with_reducible refine evOps_nil ?_ | ((with_reducible refine hK _ ?_); clear hK K) | (with_reducible first | refine And.intro ?_ ?_ | refine nxt_n ?_ | refine nxt_r ?_ | refine inR_mk ?_ ?_) | (refine fun (hc : (_ : Bool) = _) => ?_; try simp only [hcS] at hc))
  all_goals try omega
  (first | refine ret_auto ?_ | refine ret_auto' ?_); simp only [go_sem, simprocAttr, Tryd.f61]
end Go.Eng
end
section
namespace Go.Eng
open Go Go.Proofs Go.Cats
theorem eq_ends : EqP2 TE.P 85 := eqP2_mk Tryd.underlying85 (by decide) (by decide) Tryd.underlying2 (by first | exact Tryd.stoodInHeld85 | kernel_rfl) (by first | exact Tryd.eqGuardType85 | kernel_rfl) fun xs off w v h => run_part_plain (P := Tryd.prog) w (by kernel_rfl) h
theorem cal_Category_isShape : Callable Tryd.prog 54 := ⟨_, Tryd.func54, rfl, rfl⟩
theorem sp_Category_isShape {c : Cat} (hb : CatB c) : Spec Tryd.prog 54 [.bptr [] (catD c)] [] (bv (dec (Shape c))) [] := by
  refine spec_of_V (E := TE) 0 Tryd.func54 rfl (by simp [Tryd.f54]) fun X hn hX => ?_
  obtain ⟨b1, b2, b3, b4, b5, b6, b7⟩ := hb
  repeat' (first | (with_reducible first | refine V_seq ?_ | refine V_block ?_ | refine V_skip ?_ | refine V_ret ?_ | refine V_exit ?_) | ((with_reducible refine V_cond ?_); simp only [go_sem, simprocAttr]) | ((first | refine V_region (by rw [hn]; rfl) ?_ | refine V_drawn hmix (by rw [hn]; rfl) ?_); intro K hK) | ((first | with_reducible refine evOps_n ?_ | ((with_reducible apply evOps_g); rfl) | with_reducible refine evOpsD_n ?_ | ((with_reducible apply evOpsD_g); rfl)); intro K hK; simp (contextual := true) only [go_sem, simprocAttr]) | with_reducible refine evOps_nil ?_ | ((with_reducible refine evOpsD_nil ?_ ?_); kernel_rfl) | ((with_reducible refine hK _ ?_); clear hK K) | (with_reducible first | refine And.intro ?_ ?_ | refine nxt_n ?_ | refine nxt_r ?_ | refine nxt_e ?_ | refine blk_n ?_ | refine blk_r ?_ | refine blk_same ?_ | refine blk_other (by decide) ?_ | refine noG_n ?_ | refine noG_r ?_ | refine noG_e ?_ | refine inR_mk ?_ ?_) | ((with_reducible refine evCall_at 59 ?_); refine EvCall.rq (a := (sp_Category_arrows)) (b := cal_Category_arrows) (c := ?_); all_goals try simp only [go_sem, simprocAttr]) | ((with_reducible refine evCall_at 62 ?_); refine EvCall.rq (a := (sp_inRange)) (b := cal_inRange) (c := ?_); all_goals try simp only [go_sem, simprocAttr]) | ((with_reducible refine evCall_at 60 ?_); refine EvCall.rq (a := (sp_within ?_ ?_)) (b := cal_within) (c := ?_); all_goals try simp only [go_sem, simprocAttr]) | ((with_reducible refine evCall_at 63 ?_); refine EvCall.rq (a := (sp_Category_ends ?_ ?_ ?_)) (b := cal_Category_ends) (c := ?_); all_goals try simp only [go_sem, simprocAttr]) | (refine fun (hc : (_ : Bool) = _) => ?_; try simp only [hcS] at hc))
  all_goals try omega
  all_goals try ((first | refine ret_auto ?_ | refine ret_auto' ?_); simp only [go_sem, simprocAttr, Tryd.f54]; exact bv_f (fun s => by obtain ⟨s1, s2, s3, s4, s5, s6, s7, s8, s9, s10, s11⟩ := s; first | omega | contradiction | simp_all))
  have hI : Within c.id c.fr.length := by assumption
  have hF : Within c.fr c.ob := by assumption
  have hT : Within c.to c.ob := by assumption
  refine V_loopK (G := {i : Nat // i ≤ c.id.length ∧ (∀ x, x < i → c.F (c.id.getD x 0) = x ∧ c.T (c.id.getD x 0) = x)}) (fun ⟨i, _⟩ => [(88, iv i)]) [0, 3, 86, 87] (fun ⟨i, _⟩ => []) [] (fun zz => c.id.length - zz.1) ⟨0, Nat.zero_le _, by omega⟩ ?_ ?_
  · exact Imp.au hX
  rintro ⟨i, hii, hwi⟩
  simp only [go_sem, simprocAttr]
  have hIi := hI i
  repeat' (first | (with_reducible first | refine V_seq ?_ | refine V_block ?_ | refine V_skip ?_ | refine V_ret ?_ | refine V_exit ?_) | ((with_reducible refine V_cond ?_); simp only [go_sem, simprocAttr]) | ((first | refine V_region (by rw [hn]; rfl) ?_ | refine V_drawn hmix (by rw [hn]; rfl) ?_); intro K hK) | ((first | with_reducible refine evOps_n ?_ | ((with_reducible apply evOps_g); rfl) | with_reducible refine evOpsD_n ?_ | ((with_reducible apply evOpsD_g); rfl)); intro K hK; simp (contextual := true) only [go_sem, simprocAttr]) | with_reducible refine evOps_nil ?_ | ((with_reducible refine evOpsD_nil ?_ ?_); kernel_rfl) | ((with_reducible refine hK _ ?_); clear hK K) | (with_reducible first | refine And.intro ?_ ?_ | refine nxt_n ?_ | refine nxt_r ?_ | refine nxt_e ?_ | refine blk_n ?_ | refine blk_r ?_ | refine blk_same ?_ | refine blk_other (by decide) ?_ | refine noG_n ?_ | refine noG_r ?_ | refine noG_e ?_ | refine inR_mk ?_ ?_) | ((with_reducible refine evCall_at 59 ?_); refine EvCall.rq (a := (sp_Category_arrows)) (b := cal_Category_arrows) (c := ?_); all_goals try simp only [go_sem, simprocAttr]) | ((with_reducible refine evCall_at 62 ?_); refine EvCall.rq (a := (sp_inRange)) (b := cal_inRange) (c := ?_); all_goals try simp only [go_sem, simprocAttr]) | ((with_reducible refine evCall_at 60 ?_); refine EvCall.rq (a := (sp_within ?_ ?_)) (b := cal_within) (c := ?_); all_goals try simp only [go_sem, simprocAttr]) | ((with_reducible refine evCall_at 63 ?_); refine EvCall.rq (a := (sp_Category_ends ?_ ?_ ?_)) (b := cal_Category_ends) (c := ?_); all_goals try simp only [go_sem, simprocAttr]) | (refine hook_ne2 eq_ends (by simp only [go_sem, simprocAttr]; rfl) (by simp only [go_sem, simprocAttr]; rfl) ?_; simp only [go_sem, simprocAttr]) | (refine fun (hc : (_ : Bool) = _) => ?_; try simp only [hcS] at hc))
  all_goals try omega
  · (first | refine ret_auto ?_ | refine ret_auto' ?_); simp only [go_sem, simprocAttr, Tryd.f54]
    exact bv_f (fun s => by have h := s.ide i (by omega); ((try simp only [Cat.F, Cat.T, Cat.I, Cat.C, Fun.O, Fun.A, Cat.Entry, Int.toNat_natCast] at *); omega))
  · refine ⟨⟨i + 1, by omega, (by exact all_succ hwi hc)⟩, by simp only; omega, Imp.ao hX⟩
  have hide : ∀ x, x < c.id.length → c.F (c.id.getD x 0) = x ∧ c.T (c.id.getD x 0) = x := fun x hx => hwi x (by omega)
  clear hwi hIi
  refine V_loopK (G := {f : Nat // f ≤ c.co.length ∧ (∀ k, k < f → (c.co.getD k []).length = c.fr.length ∧ ∀ g, g < c.fr.length → c.Entry k g)}) (fun ⟨f, _⟩ => [(106, iv f)]) [0, 3, 104, 105] (fun ⟨f, _⟩ => []) [] (fun zz => c.co.length - zz.1) ⟨0, Nat.zero_le _, by omega⟩ ?_ ?_
  · exact Imp.au hX
  rintro ⟨f, hif, hwf⟩
  simp only [go_sem, simprocAttr]
  have b7f := b7 f
  repeat' (first | (with_reducible first | refine V_seq ?_ | refine V_block ?_ | refine V_skip ?_ | refine V_ret ?_ | refine V_exit ?_) | ((with_reducible refine V_cond ?_); simp only [go_sem, simprocAttr]) | ((first | refine V_region (by rw [hn]; rfl) ?_ | refine V_drawn hmix (by rw [hn]; rfl) ?_); intro K hK) | ((first | with_reducible refine evOps_n ?_ | ((with_reducible apply evOps_g); rfl) | with_reducible refine evOpsD_n ?_ | ((with_reducible apply evOpsD_g); rfl)); intro K hK; simp (contextual := true) only [go_sem, simprocAttr]) | with_reducible refine evOps_nil ?_ | ((with_reducible refine evOpsD_nil ?_ ?_); kernel_rfl) | ((with_reducible refine hK _ ?_); clear hK K) | (with_reducible first | refine And.intro ?_ ?_ | refine nxt_n ?_ | refine nxt_r ?_ | refine nxt_e ?_ | refine blk_n ?_ | refine blk_r ?_ | refine blk_same ?_ | refine blk_other (by decide) ?_ | refine noG_n ?_ | refine noG_r ?_ | refine noG_e ?_ | refine inR_mk ?_ ?_) | ((with_reducible refine evCall_at 59 ?_); refine EvCall.rq (a := (sp_Category_arrows)) (b := cal_Category_arrows) (c := ?_); all_goals try simp only [go_sem, simprocAttr]) | ((with_reducible refine evCall_at 62 ?_); refine EvCall.rq (a := (sp_inRange)) (b := cal_inRange) (c := ?_); all_goals try simp only [go_sem, simprocAttr]) | ((with_reducible refine evCall_at 60 ?_); refine EvCall.rq (a := (sp_within ?_ ?_)) (b := cal_within) (c := ?_); all_goals try simp only [go_sem, simprocAttr]) | ((with_reducible refine evCall_at 63 ?_); refine EvCall.rq (a := (sp_Category_ends ?_ ?_ ?_)) (b := cal_Category_ends) (c := ?_); all_goals try simp only [go_sem, simprocAttr]) | (refine fun (hc : (_ : Bool) = _) => ?_; try simp only [hcS] at hc))
  all_goals try omega
  · (first | refine ret_auto ?_ | refine ret_auto' ?_); simp only [go_sem, simprocAttr, Tryd.f54]
    exact bv_f (fun s => by have h := (s.coe f (by omega)).1; omega)
  refine V_loopK (G := {g : Nat // g ≤ (c.co.getD f []).length ∧ (∀ k, k < g → c.Entry f k)}) (fun ⟨g, _⟩ => [(117, iv g)]) [0, 3, 6, 104, 105, 106, 115, 116] (fun ⟨g, _⟩ => []) [] (fun zz => (c.co.getD f []).length - zz.1) ⟨0, Nat.zero_le _, by omega⟩ ?_ ?_
  · exact Imp.au hX
  rintro ⟨g, hig, hwg⟩
  simp only [go_sem, simprocAttr]
  repeat' (first | (with_reducible first | refine V_seq ?_ | refine V_block ?_ | refine V_skip ?_ | refine V_ret ?_ | refine V_exit ?_) | ((with_reducible refine V_cond ?_); simp only [go_sem, simprocAttr]) | ((first | refine V_region (by rw [hn]; rfl) ?_ | refine V_drawn hmix (by rw [hn]; rfl) ?_); intro K hK) | ((first | with_reducible refine evOps_n ?_ | ((with_reducible apply evOps_g); rfl) | with_reducible refine evOpsD_n ?_ | ((with_reducible apply evOpsD_g); rfl)); intro K hK; simp (contextual := true) only [go_sem, simprocAttr]) | with_reducible refine evOps_nil ?_ | ((with_reducible refine evOpsD_nil ?_ ?_); kernel_rfl) | ((with_reducible refine hK _ ?_); clear hK K) | (with_reducible first | refine And.intro ?_ ?_ | refine nxt_n ?_ | refine nxt_r ?_ | refine nxt_e ?_ | refine blk_n ?_ | refine blk_r ?_ | refine blk_same ?_ | refine blk_other (by decide) ?_ | refine noG_n ?_ | refine noG_r ?_ | refine noG_e ?_ | refine inR_mk ?_ ?_) | ((with_reducible refine evCall_at 59 ?_); refine EvCall.rq (a := (sp_Category_arrows)) (b := cal_Category_arrows) (c := ?_); all_goals try simp only [go_sem, simprocAttr]) | ((with_reducible refine evCall_at 62 ?_); refine EvCall.rq (a := (sp_inRange)) (b := cal_inRange) (c := ?_); all_goals try simp only [go_sem, simprocAttr]) | ((with_reducible refine evCall_at 60 ?_); refine EvCall.rq (a := (sp_within ?_ ?_)) (b := cal_within) (c := ?_); all_goals try simp only [go_sem, simprocAttr]) | ((with_reducible refine evCall_at 63 ?_); refine EvCall.rq (a := (sp_Category_ends ?_ ?_ ?_)) (b := cal_Category_ends) (c := ?_); all_goals try simp only [go_sem, simprocAttr]) | (refine hook_ne2 eq_ends (by simp only [go_sem, simprocAttr]; rfl) (by simp only [go_sem, simprocAttr]; rfl) ?_; simp only [go_sem, simprocAttr]) | (refine fun (hc : (_ : Bool) = _) => ?_; try simp only [hcS] at hc))
  all_goals try omega
  · (first | refine ret_auto ?_ | refine ret_auto' ?_); simp only [go_sem, simprocAttr, Tryd.f54]
    exact bv_f (fun s => by have h := (s.coe f (by omega)).2 g (by omega); ((try simp only [Cat.F, Cat.T, Cat.I, Cat.C, Fun.O, Fun.A, Cat.Entry, Int.toNat_natCast] at *); omega))
  · refine ⟨⟨g + 1, by omega, (by exact all_succ hwg (by ((try simp only [Cat.F, Cat.T, Cat.I, Cat.C, Fun.O, Fun.A, Cat.Entry, Int.toNat_natCast] at *); omega)))⟩, by simp only; omega, Imp.ao hX⟩
  · (first | refine ret_auto ?_ | refine ret_auto' ?_); simp only [go_sem, simprocAttr, Tryd.f54]
    exact bv_f (fun s => by have h := (s.coe f (by omega)).2 g (by omega); ((try simp only [Cat.F, Cat.T, Cat.I, Cat.C, Fun.O, Fun.A, Cat.Entry, Int.toNat_natCast] at *); omega))
  · refine ⟨⟨g + 1, by omega, (by exact all_succ hwg (by ((try simp only [Cat.F, Cat.T, Cat.I, Cat.C, Fun.O, Fun.A, Cat.Entry, Int.toNat_natCast] at *); omega)))⟩, by simp only; omega, Imp.ao hX⟩
  · (first | refine ret_auto ?_ | refine ret_auto' ?_); simp only [go_sem, simprocAttr, Tryd.f54]
    exact bv_f (fun s => by have h := (s.coe f (by omega)).2 g (by omega); ((try simp only [Cat.F, Cat.T, Cat.I, Cat.C, Fun.O, Fun.A, Cat.Entry, Int.toNat_natCast] at *); omega))
  · refine ⟨⟨f + 1, by omega, (by exact all_succ hwf ⟨by omega, fun k hk => hwg k (by omega)⟩)⟩, by simp only; omega, Imp.ao hX⟩
  · (first | refine ret_auto ?_ | refine ret_auto' ?_); simp only [go_sem, simprocAttr, Tryd.f54]
    exact bv_t ⟨by omega, by omega, by omega, by omega, hF, hT, by assumption, hI, by omega, hide, fun k hk => hwf k (by omega)⟩
end Go.Eng
end
section
namespace Go.Eng
open Go Go.Proofs Go.Cats
theorem cal_Category_fault : Callable Tryd.prog 55 := ⟨_, Tryd.func55, rfl, rfl⟩
theorem sp_Category_fault {c : Cat} (s : Shape c) : Spec Tryd.prog 55 [.bptr [] (catD c)] [] (.tup [iv c.fault.1, iv c.fault.2.1, iv c.fault.2.2.1, iv c.fault.2.2.2]) [] := by
  refine spec_of_V (E := TE) 0 Tryd.func55 rfl (by simp [Tryd.f55]) fun X hn hX => ?_
  have ⟨s1, s2, s3, s4, s5, s6, s7, s8, s9, s10, s11⟩ := s
  repeat' (first | (with_reducible first | refine V_seq ?_ | refine V_block ?_ | refine V_skip ?_ | refine V_ret ?_ | refine V_exit ?_) | ((with_reducible refine V_cond ?_); simp only [go_sem, simprocAttr]) | ((first | refine V_region (by rw [hn]; rfl) ?_ | refine V_drawn hmix (by rw [hn]; rfl) ?_); intro K hK) | ((first | with_reducible refine evOps_n ?_ | ((with_reducible apply evOps_g); rfl) | with_reducible refine evOpsD_n ?_ | ((with_reducible apply evOpsD_g); rfl)); intro K hK; simp (contextual := true) only [go_sem, simprocAttr]) | with_reducible refine evOps_nil ?_ | ((with_reducible refine evOpsD_nil ?_ ?_); kernel_rfl) | ((with_reducible refine hK _ ?_); clear hK K) | (with_reducible first | refine And.intro ?_ ?_ | refine nxt_n ?_ | refine nxt_r ?_ | refine nxt_e ?_ | refine blk_n ?_ | refine blk_r ?_ | refine blk_same ?_ | refine blk_other (by decide) ?_ | refine noG_n ?_ | refine noG_r ?_ | refine noG_e ?_ | refine inR_mk ?_ ?_) | ((with_reducible refine evCall_at 59 ?_); refine EvCall.rq (a := (sp_Category_arrows)) (b := cal_Category_arrows) (c := ?_); all_goals try simp only [go_sem, simprocAttr]) | (refine fun (hc : (_ : Bool) = _) => ?_; try simp only [hcS] at hc))
  refine V_loopK (G := {f : Nat // f ≤ c.fr.length ∧ (scan f c.fault1 = none)}) (fun ⟨f, _⟩ => [(7, iv f)]) [0, 6] (fun ⟨f, _⟩ => []) [] (fun zz => c.fr.length - zz.1) ⟨0, Nat.zero_le _, by rfl⟩ ?_ ?_
  · exact Imp.au hX
  rintro ⟨f, hif, hwf⟩
  simp only [go_sem, simprocAttr]
  have hF := s5 f
  have hT := s6 f
  have hI1 := s8 (c.fr.getD f 0).toNat
  have hI2 := s8 (c.to.getD f 0).toNat
  have hr1 := fun h => (s11 (c.id.getD (c.fr.getD f 0).toNat 0).toNat h).1
  have hr2 := fun h => (s11 f h).1
  repeat' (first | (with_reducible first | refine V_seq ?_ | refine V_block ?_ | refine V_skip ?_ | refine V_ret ?_ | refine V_exit ?_) | ((with_reducible refine V_cond ?_); simp only [go_sem, simprocAttr]) | ((first | refine V_region (by rw [hn]; rfl) ?_ | refine V_drawn hmix (by rw [hn]; rfl) ?_); intro K hK) | ((first | with_reducible refine evOps_n ?_ | ((with_reducible apply evOps_g); rfl) | with_reducible refine evOpsD_n ?_ | ((with_reducible apply evOpsD_g); rfl)); intro K hK; simp (contextual := true) only [go_sem, simprocAttr]) | with_reducible refine evOps_nil ?_ | ((with_reducible refine evOpsD_nil ?_ ?_); kernel_rfl) | ((with_reducible refine hK _ ?_); clear hK K) | (with_reducible first | refine And.intro ?_ ?_ | refine nxt_n ?_ | refine nxt_r ?_ | refine nxt_e ?_ | refine blk_n ?_ | refine blk_r ?_ | refine blk_same ?_ | refine blk_other (by decide) ?_ | refine noG_n ?_ | refine noG_r ?_ | refine noG_e ?_ | refine inR_mk ?_ ?_) | ((with_reducible refine evCall_at 61 ?_); refine EvCall.rq (a := (sp_Category_then ?_ ?_ ?_ ?_)) (b := cal_Category_then) (c := ?_); all_goals try simp only [go_sem, simprocAttr]) | (refine fun (hc : (_ : Bool) = _) => ?_; try simp only [hcS] at hc))
  all_goals try ((try simp only [Cat.F, Cat.T, Cat.I, Cat.C, Fun.O, Fun.A, Cat.Entry, Int.toNat_natCast] at *); omega)
  · (first | refine ret_auto ?_ | refine ret_auto' ?_); simp only [go_sem, simprocAttr, Tryd.f55]
    rw [Cat.fault_1 hwf (by omega) (Cat.fault1_t (.inr hc))]
  · refine ⟨⟨f + 1, by omega, (by exact scan_next hwf (Cat.fault1_f (by assumption) hc))⟩, by simp only; omega, Imp.ao hX⟩
  · (first | refine ret_auto ?_ | refine ret_auto' ?_); simp only [go_sem, simprocAttr, Tryd.f55]
    rw [Cat.fault_1 hwf (by omega) (Cat.fault1_t (.inl hc))]
  have h1 : scan c.fr.length c.fault1 = none := by have : f = c.fr.length := by omega
                                                   rw [← this]; exact hwf
  clear hwf hF hT hI1 hI2 hr1 hr2
  refine V_loopK (G := {f : Nat // f ≤ c.fr.length ∧ (scan f (fun f => scan c.fr.length fun g => c.fault2g f g) = none)}) (fun ⟨f, _⟩ => [(8, iv f)]) [0, 6] (fun ⟨f, _⟩ => []) [] (fun zz => c.fr.length - zz.1) ⟨0, Nat.zero_le _, by rfl⟩ ?_ ?_
  · exact Imp.au hX
  rintro ⟨f, hif, hwf⟩
  simp only [go_sem, simprocAttr]
  repeat' (first | (with_reducible first | refine V_seq ?_ | refine V_block ?_ | refine V_skip ?_ | refine V_ret ?_ | refine V_exit ?_) | ((with_reducible refine V_cond ?_); simp only [go_sem, simprocAttr]) | ((first | refine V_region (by rw [hn]; rfl) ?_ | refine V_drawn hmix (by rw [hn]; rfl) ?_); intro K hK) | ((first | with_reducible refine evOps_n ?_ | ((with_reducible apply evOps_g); rfl) | with_reducible refine evOpsD_n ?_ | ((with_reducible apply evOpsD_g); rfl)); intro K hK; simp (contextual := true) only [go_sem, simprocAttr]) | with_reducible refine evOps_nil ?_ | ((with_reducible refine evOpsD_nil ?_ ?_); kernel_rfl) | ((with_reducible refine hK _ ?_); clear hK K) | (with_reducible first | refine And.intro ?_ ?_ | refine nxt_n ?_ | refine nxt_r ?_ | refine nxt_e ?_ | refine blk_n ?_ | refine blk_r ?_ | refine blk_same ?_ | refine blk_other (by decide) ?_ | refine noG_n ?_ | refine noG_r ?_ | refine noG_e ?_ | refine inR_mk ?_ ?_) | (refine fun (hc : (_ : Bool) = _) => ?_; try simp only [hcS] at hc))
  all_goals try ((try simp only [Cat.F, Cat.T, Cat.I, Cat.C, Fun.O, Fun.A, Cat.Entry, Int.toNat_natCast] at *); omega)
  refine V_loopK (G := {g : Nat // g ≤ c.fr.length ∧ (scan g (fun g => c.fault2g f g) = none)}) (fun ⟨g, _⟩ => [(9, iv g)]) [0, 6, 8] (fun ⟨g, _⟩ => []) [] (fun zz => c.fr.length - zz.1) ⟨0, Nat.zero_le _, by rfl⟩ ?_ ?_
  · exact Imp.au hX
  rintro ⟨g, hig, hwg⟩
  simp only [go_sem, simprocAttr]
  have hr1 := fun h => (s11 f h).1
  have hr2 := fun h => (s11 f h).2 g
  have hr3 := fun h => (s11 g h).1
  have hr4 := fun h => (s11 ((c.co.getD f []).getD g 0).toNat h).1
  repeat' (first | (with_reducible first | refine V_seq ?_ | refine V_block ?_ | refine V_skip ?_ | refine V_ret ?_ | refine V_exit ?_) | ((with_reducible refine V_cond ?_); simp only [go_sem, simprocAttr]) | ((first | refine V_region (by rw [hn]; rfl) ?_ | refine V_drawn hmix (by rw [hn]; rfl) ?_); intro K hK) | ((first | with_reducible refine evOps_n ?_ | ((with_reducible apply evOps_g); rfl) | with_reducible refine evOpsD_n ?_ | ((with_reducible apply evOpsD_g); rfl)); intro K hK; simp (contextual := true) only [go_sem, simprocAttr]) | with_reducible refine evOps_nil ?_ | ((with_reducible refine evOpsD_nil ?_ ?_); kernel_rfl) | ((with_reducible refine hK _ ?_); clear hK K) | (with_reducible first | refine And.intro ?_ ?_ | refine nxt_n ?_ | refine nxt_r ?_ | refine nxt_e ?_ | refine blk_n ?_ | refine blk_r ?_ | refine blk_same ?_ | refine blk_other (by decide) ?_ | refine noG_n ?_ | refine noG_r ?_ | refine noG_e ?_ | refine inR_mk ?_ ?_) | ((with_reducible refine evCall_at 61 ?_); refine EvCall.rq (a := (sp_Category_then ?_ ?_ ?_ ?_)) (b := cal_Category_then) (c := ?_); all_goals try simp only [go_sem, simprocAttr]) | (refine fun (hc : (_ : Bool) = _) => ?_; try simp only [hcS] at hc))
  all_goals try ((try simp only [Cat.F, Cat.T, Cat.I, Cat.C, Fun.O, Fun.A, Cat.Entry, Int.toNat_natCast] at *); omega)
  · refine ⟨⟨g + 1, by omega, (by exact scan_next hwg (Cat.fault2g_f hc))⟩, by simp only; omega, Imp.ao hX⟩
  refine V_loopK (G := {h : Nat // h ≤ c.fr.length ∧ (scan h (fun h => c.fault2 f g h) = none)}) (fun ⟨h, _⟩ => [(10, iv h)]) [0, 6, 8, 9] (fun ⟨h, _⟩ => []) [] (fun zz => c.fr.length - zz.1) ⟨0, Nat.zero_le _, by rfl⟩ ?_ ?_
  · exact Imp.au hX
  rintro ⟨h, hih, hwh⟩
  simp only [go_sem, simprocAttr]
  have hr5 := fun q => (s11 g q).2 h
  repeat' (first | (with_reducible first | refine V_seq ?_ | refine V_block ?_ | refine V_skip ?_ | refine V_ret ?_ | refine V_exit ?_) | ((with_reducible refine V_cond ?_); simp only [go_sem, simprocAttr]) | ((first | refine V_region (by rw [hn]; rfl) ?_ | refine V_drawn hmix (by rw [hn]; rfl) ?_); intro K hK) | ((first | with_reducible refine evOps_n ?_ | ((with_reducible apply evOps_g); rfl) | with_reducible refine evOpsD_n ?_ | ((with_reducible apply evOpsD_g); rfl)); intro K hK; simp (contextual := true) only [go_sem, simprocAttr]) | with_reducible refine evOps_nil ?_ | ((with_reducible refine evOpsD_nil ?_ ?_); kernel_rfl) | ((with_reducible refine hK _ ?_); clear hK K) | (with_reducible first | refine And.intro ?_ ?_ | refine nxt_n ?_ | refine nxt_r ?_ | refine nxt_e ?_ | refine blk_n ?_ | refine blk_r ?_ | refine blk_same ?_ | refine blk_other (by decide) ?_ | refine noG_n ?_ | refine noG_r ?_ | refine noG_e ?_ | refine inR_mk ?_ ?_) | ((with_reducible refine evCall_at 61 ?_); refine EvCall.rq (a := (sp_Category_then ?_ ?_ ?_ ?_)) (b := cal_Category_then) (c := ?_); all_goals try simp only [go_sem, simprocAttr]) | (refine fun (hc : (_ : Bool) = _) => ?_; try simp only [hcS] at hc))
  all_goals try ((try simp only [Cat.F, Cat.T, Cat.I, Cat.C, Fun.O, Fun.A, Cat.Entry, Int.toNat_natCast] at *); omega)
  · (first | refine ret_auto ?_ | refine ret_auto' ?_); simp only [go_sem, simprocAttr, Tryd.f55]
    rw [Cat.fault_2 h1 hwf (by omega) hwg (by omega) (by omega) hwh (by omega) (Cat.fault2_t (by assumption) hc)]
  · refine ⟨⟨h + 1, by omega, (by exact scan_next hwh (Cat.fault2_f fun _ => hc))⟩, by simp only; omega, Imp.ao hX⟩
  · refine ⟨⟨h + 1, by omega, (by exact scan_next hwh (Cat.fault2_f fun _ => by omega))⟩, by simp only; omega, Imp.ao hX⟩
  · refine ⟨⟨g + 1, by omega, (by exact scan_next hwg (by rw [Cat.fault2g_t (by omega)]; exact scan_end hwh hih (by omega)))⟩, by simp only; omega, Imp.ao hX⟩
  · refine ⟨⟨f + 1, by omega, (by exact scan_next hwf (scan_end hwg hig (by omega)))⟩, by simp only; omega, Imp.ao hX⟩
  · (first | refine ret_auto ?_ | refine ret_auto' ?_); simp only [go_sem, simprocAttr, Tryd.f55]
    rw [Cat.fault_0 h1 (scan_end hwf hif (by omega))]
theorem cal_Category_isCategory : Callable Tryd.prog 42 := ⟨_, Tryd.func42, rfl, rfl⟩
theorem sp_Category_isCategory {c : Cat} (hb : CatB c) : Spec Tryd.prog 42 [.bptr [] (catD c)] [] (bv (dec (IsCat c))) [] := by
  refine spec_of_V (E := TE) 0 Tryd.func42 rfl (by simp [Tryd.f42]) fun X hn hX => ?_
  repeat' (first | (with_reducible first | refine V_seq ?_ | refine V_skip ?_ | refine V_ret ?_) | ((with_reducible refine V_cond ?_); simp only [go_sem, simprocAttr]) | ((refine V_region (by rw [hn]; rfl) ?_); intro K hK) | ((first | with_reducible refine evOps_n ?_ | ((with_reducible apply evOps_g); rfl)); intro K hK; simp (contextual := true) only [go_sem, simprocAttr]) | with_reducible refine evOps_nil ?_ | ((with_reducible refine hK _ ?_); clear hK K) | (with_reducible first | refine And.intro ?_ ?_ | refine nxt_n ?_ | refine nxt_r ?_ | refine inR_mk ?_ ?_) | ((with_reducible refine evCall_at 54 ?_); refine EvCall.rq (a := (sp_Category_isShape ?_)) (b := cal_Category_isShape) (c := ?_); all_goals try simp only [go_sem, simprocAttr]) | ((with_reducible refine evCall_at 55 ?_); refine EvCall.rq (a := (sp_Category_fault ?_)) (b := cal_Category_fault) (c := ?_); all_goals try simp only [go_sem, simprocAttr]) | (refine fun (hc : (_ : Bool) = _) => ?_; try simp only [hcS] at hc))
  all_goals try exact om_
  · (first | refine ret_auto ?_ | refine ret_auto' ?_); simp only [go_sem, simprocAttr, Tryd.f42]
    exact bv_f (fun s => hc s.toShape)
  · (first | refine ret_auto ?_ | refine ret_auto' ?_); simp only [go_sem, simprocAttr, Tryd.f42]
    rw [← dec_eq, dec_congr hc.fault_zero]
end Go.Eng
end
section
namespace Go.Eng
open Go Go.Proofs Go.Cats
theorem cal_clone : Callable Tryd.prog 47 := ⟨_, Tryd.func47, rfl, rfl⟩
theorem sp_clone {l : List Int} (hl : l.length ≤ 1048576) : Spec Tryd.prog 47 [.bor [] (ints l)] [] (.sl 0) [(0, ⟨1, .arr (ints l)⟩)] := by
  refine spec_of_V (E := TE) 0 Tryd.func47 rfl (by simp [Tryd.f47]) fun X hn hX => ?_
  repeat' (first | (with_reducible first | refine V_seq ?_ | refine V_skip ?_ | refine V_ret ?_) | ((with_reducible refine V_cond ?_); simp only [go_sem, simprocAttr]) | ((refine V_region (by rw [hn]; rfl) ?_); intro K hK) | ((first | with_reducible refine evOps_n ?_ | ((with_reducible apply evOps_g); rfl)); intro K hK; simp (contextual := true) only [go_sem, simprocAttr]) | with_reducible refine evOps_nil ?_ | ((with_reducible refine hK _ ?_); clear hK K) | (with_reducible first | refine And.intro ?_ ?_ | refine nxt_n ?_ | refine nxt_r ?_ | refine inR_mk ?_ ?_) | (refine fun (hc : (_ : Bool) = _) => ?_; try simp only [hcS] at hc))
  all_goals try exact om_
  (first | refine ret_auto ?_ | refine ret_auto' ?_); simp only [go_sem, simprocAttr, Tryd.f47]
theorem cal_clones : Callable Tryd.prog 58 := ⟨_, Tryd.func58, rfl, rfl⟩
theorem sp_clones {l : List (List Int)} (hl : l.length ≤ 1048576) (hr : ∀ i, i < l.length → (l.getD i []).length ≤ 1048576) : Spec Tryd.prog 58 [.bor [] (intss l)] [] (.sl 0) [(0, ⟨1, .arr (intss l)⟩)] := by
  refine spec_of_V (E := TE) 0 Tryd.func58 rfl (by simp [Tryd.f58]) fun X hn hX => ?_
  repeat' (first | (with_reducible first | refine V_seq ?_ | refine V_block ?_ | refine V_skip ?_ | refine V_ret ?_ | refine V_exit ?_) | ((with_reducible refine V_cond ?_); simp only [go_sem, simprocAttr]) | ((refine V_region (by rw [hn]; rfl) ?_); intro K hK) | ((first | with_reducible refine evOps_n ?_ | ((with_reducible apply evOps_g); rfl)); intro K hK; simp (contextual := true) only [go_sem, simprocAttr]) | with_reducible refine evOps_nil ?_ | ((with_reducible refine hK _ ?_); clear hK K) | (with_reducible first | refine And.intro ?_ ?_ | refine nxt_n ?_ | refine nxt_r ?_ | refine nxt_e ?_ | refine blk_n ?_ | refine blk_r ?_ | refine blk_same ?_ | refine blk_other (by decide) ?_ | refine noG_n ?_ | refine noG_r ?_ | refine noG_e ?_ | refine inR_mk ?_ ?_) | (refine fun (hc : (_ : Bool) = _) => ?_; try simp only [hcS] at hc))
  all_goals try exact om_
  refine V_loopK (G := {i : Nat // i ≤ l.length ∧ (True)}) (fun ⟨i, _⟩ => [(11, iv i), (3, .sl 0)]) [2, 9, 10] (fun ⟨i, _⟩ => [(0, ⟨1, .arr (intss (l.take i))⟩)]) [0] (fun zz => l.length - zz.1) ⟨0, Nat.zero_le _, by first | trivial | simp⟩ ?_ ?_
  · exact Imp.au hX
  rintro ⟨i, hii, hwi⟩
  simp only [go_sem, simprocAttr]
  have h1 := hr i
  have h2 : (l.take i).length ≤ i := by simp; omega
  repeat' (first | (with_reducible first | refine V_seq ?_ | refine V_block ?_ | refine V_skip ?_ | refine V_ret ?_ | refine V_exit ?_) | ((with_reducible refine V_cond ?_); simp only [go_sem, simprocAttr]) | ((refine V_region (by rw [hn]; rfl) ?_); intro K hK) | ((first | with_reducible refine evOps_n ?_ | ((with_reducible apply evOps_g); rfl)); intro K hK; simp (contextual := true) only [go_sem, simprocAttr]) | with_reducible refine evOps_nil ?_ | ((with_reducible refine hK _ ?_); clear hK K) | (with_reducible first | refine And.intro ?_ ?_ | refine nxt_n ?_ | refine nxt_r ?_ | refine nxt_e ?_ | refine blk_n ?_ | refine blk_r ?_ | refine blk_same ?_ | refine blk_other (by decide) ?_ | refine noG_n ?_ | refine noG_r ?_ | refine noG_e ?_ | refine inR_mk ?_ ?_) | ((with_reducible refine evCall_at 47 ?_); refine EvCall.rq (a := (sp_clone ?_)) (b := cal_clone) (c := ?_); all_goals try simp only [go_sem, simprocAttr]) | (refine fun (hc : (_ : Bool) = _) => ?_; try simp only [hcS] at hc))
  all_goals try exact om_
  · refine ⟨⟨i + 1, by omega, (by trivial)⟩, by simp only; omega, Imp.auto hX (by simp only [go_sem, simprocAttr, take_getD (d := []) (show i < l.length by omega)])⟩
  · (first | refine ret_auto ?_ | refine ret_auto' ?_); simp only [go_sem, simprocAttr, Tryd.f58]
    rw [List.take_of_length_le (by omega)]
end Go.Eng
end
