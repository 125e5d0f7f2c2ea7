/- Several texts in one: G01, G02, G03, G04. -/
import Derived.Test.YtbflkfamigcncaaGreatKdx
import Derived.Test.YtbflkfamigcncaaGreatTyq
import Derived.ChangeKeysEq
import Derived.KernelRfl
set_option linter.unusedSimpArgs false
set_option linter.unusedVariables false
set_option maxRecDepth 100000
set_option maxHeartbeats 8000000
section
namespace Go.Eng
open Go Go.Proofs Go.Cats
theorem hmix : TE.P.follows .mixedOrders = true := rfl
theorem cal_inRange : Callable Tryz.prog 92 := ⟨_, Tryz.func92, rfl, rfl⟩
theorem sp_inRange {n lo hi : Int} : Spec Tryz.prog 92 [iv n, iv lo, iv hi] [] (bv (dec (lo ≤ n ∧ n ≤ hi))) [] := by
  refine spec_of_V (E := TE) 0 Tryz.func92 rfl (by simp [Tryz.f92]) fun X hn hX => ?_
  repeat' (first | with_reducible refine St.f ?_ | ((with_reducible refine V_cond ?_); simp only [go_sem, simprocAttr]) | ((refine V_rg ?_); intro K hK) | ((first | with_reducible refine So.f ?_ | ((with_reducible apply evOps_g); rfl)); intro K hK; simp (contextual := true) only [go_sem, simprocAttr]) | ((with_reducible refine hK _ ?_); clear hK K) | (with_reducible first | refine And.intro ?_ ?_ | refine inR_mk ?_ ?_) | (refine fun (hc : (_ : Bool) = _) => ?_; try simp only [hcS] at hc))
  all_goals ((first | refine ret_auto ?_ | refine ret_auto' ?_); simp only [go_sem, simprocAttr, Tryz.f92])
  · rw [dec_eq, Bool.decide_and]; simp [hc]
  · rw [dec_f]; omega
theorem cal_within : Callable Tryz.prog 194 := ⟨_, Tryz.func194, rfl, rfl⟩
theorem sp_within {l : List Int} {n : Int} (hn' : inR (n - 1)) (hl : l.length ≤ 1048576) : Spec Tryz.prog 194 [.bor [] (ints l), iv n] [] (bv (dec (Within l n))) [] := by
  refine spec_of_V (E := TE) 0 Tryz.func194 rfl (by simp [Tryz.f194]) fun X hn hX => ?_
  repeat' (first | with_reducible refine St.f ?_ | ((with_reducible refine V_cond ?_); simp only [go_sem, simprocAttr]) | ((refine V_rg ?_); intro K hK) | ((first | with_reducible refine So.f ?_ | ((with_reducible apply evOps_g); rfl)); intro K hK; simp (contextual := true) only [go_sem, simprocAttr]) | ((with_reducible refine hK _ ?_); clear hK K) | (with_reducible first | refine And.intro ?_ ?_ | refine blk_other (by decide) ?_ | refine inR_mk ?_ ?_) | (refine fun (hc : (_ : Bool) = _) => ?_; try simp only [hcS] at hc))
  refine V_loopK (G := {i : Nat // i ≤ l.length ∧ (∀ j, j < i → 0 ≤ l.getD j 0 ∧ l.getD j 0 < n)}) (fun ⟨i, _⟩ => [(9, iv i)]) [1, 7, 8] (fun ⟨i, _⟩ => []) [] (fun zz => l.length - zz.1) ⟨0, Nat.zero_le _, by omega⟩ ?_ ?_
  · exact Imp.au hX
  rintro ⟨i, hii, hwi⟩
  simp only [go_sem, simprocAttr]
  repeat' (first | with_reducible refine St.f ?_ | ((with_reducible refine V_cond ?_); simp only [go_sem, simprocAttr]) | ((refine V_rg ?_); intro K hK) | ((first | with_reducible refine So.f ?_ | ((with_reducible apply evOps_g); rfl)); intro K hK; simp (contextual := true) only [go_sem, simprocAttr]) | ((with_reducible refine hK _ ?_); clear hK K) | (with_reducible first | refine And.intro ?_ ?_ | refine blk_other (by decide) ?_ | refine inR_mk ?_ ?_) | ((with_reducible refine evCall_at 92 ?_); refine EvCall.rq (a := (sp_inRange)) (b := cal_inRange) (c := ?_); all_goals try simp only [go_sem, simprocAttr]) | (refine fun (hc : (_ : Bool) = _) => ?_; try simp only [hcS] at hc))
  all_goals try (unfold inR at hn'; omega)
  · (first | refine ret_auto ?_ | refine ret_auto' ?_); simp only [go_sem, simprocAttr, Tryz.f194]
    rw [dec_f]
    intro h
    have := h i (by omega)
    omega
  · refine ⟨⟨i + 1, by omega, (by exact all_succ hwi (by omega))⟩, by simp only; omega, Imp.ao hX⟩
  · (first | refine ret_auto ?_ | refine ret_auto' ?_); simp only [go_sem, simprocAttr, Tryz.f194]
    rw [dec_t]
    intro j hj
    exact hwi j (by omega)
theorem cal_Category_ends : Callable Tryz.prog 206 := ⟨_, Tryz.func206, rfl, rfl⟩
theorem sp_Category_ends {c : Cat} {f : Int} (h0 : 0 ≤ f) (h1 : f < c.fr.length) (h2 : f < c.to.length) : Spec Tryz.prog 206 [.bptr [] (catD c), iv f] [] (.agg [iv (c.F f), iv (c.T f)]) [] := by
  refine spec_of_V (E := TE) 0 Tryz.func206 rfl (by simp [Tryz.f206]) fun X hn hX => ?_
  repeat' (first | with_reducible refine St.f ?_ | ((with_reducible refine V_cond ?_); simp only [go_sem, simprocAttr]) | ((first | refine V_rg ?_ | refine V_dr ?_); intro K hK) | ((first | with_reducible refine So.f ?_ | ((with_reducible apply evOps_g); rfl) | ((with_reducible apply evOpsD_g); rfl)); intro K hK; simp (contextual := true) only [go_sem, simprocAttr]) | ((with_reducible refine evOpsD_nil ?_ ?_); kernel_rfl) | ((with_reducible refine hK _ ?_); clear hK K) | (with_reducible first | refine And.intro ?_ ?_ | refine inR_mk ?_ ?_) | (refine fun (hc : (_ : Bool) = _) => ?_; try simp only [hcS] at hc))
  all_goals try omega
  (first | refine ret_auto ?_ | refine ret_auto' ?_); simp only [go_sem, simprocAttr, Tryz.f206]
theorem cal_Category_arrows : Callable Tryz.prog 84 := ⟨_, Tryz.func84, rfl, rfl⟩
theorem sp_Category_arrows {c : Cat} : Spec Tryz.prog 84 [.bptr [] (catD c)] [] (iv c.fr.length) [] := by
  refine spec_of_V (E := TE) 0 Tryz.func84 rfl (by simp [Tryz.f84]) fun X hn hX => ?_
  repeat' (first | with_reducible refine St.f ?_ | ((with_reducible refine V_cond ?_); simp only [go_sem, simprocAttr]) | ((refine V_rg ?_); intro K hK) | ((first | with_reducible refine So.f ?_ | ((with_reducible apply evOps_g); rfl)); intro K hK; simp (contextual := true) only [go_sem, simprocAttr]) | ((with_reducible refine hK _ ?_); clear hK K) | (with_reducible first | refine And.intro ?_ ?_ | refine inR_mk ?_ ?_) | (refine fun (hc : (_ : Bool) = _) => ?_; try simp only [hcS] at hc))
  (first | refine ret_auto ?_ | refine ret_auto' ?_); simp only [go_sem, simprocAttr, Tryz.f84]
theorem cal_Category_then : Callable Tryz.prog 139 := ⟨_, Tryz.func139, rfl, rfl⟩
theorem sp_Category_then {c : Cat} {f g : Int} (h0 : 0 ≤ f) (h1 : f < c.co.length) (h2 : 0 ≤ g) (h3 : g < (c.co.getD f.toNat []).length) : Spec Tryz.prog 139 [.bptr [] (catD c), iv f, iv g] [] (iv (c.C f g)) [] := by
  refine spec_of_V (E := TE) 0 Tryz.func139 rfl (by simp [Tryz.f139]) fun X hn hX => ?_
  repeat' (first | with_reducible refine St.f ?_ | ((with_reducible refine V_cond ?_); simp only [go_sem, simprocAttr]) | ((refine V_rg ?_); intro K hK) | ((first | with_reducible refine So.f ?_ | ((with_reducible apply evOps_g); rfl)); intro K hK; simp (contextual := true) only [go_sem, simprocAttr]) | ((with_reducible refine hK _ ?_); clear hK K) | (with_reducible first | refine And.intro ?_ ?_ | refine inR_mk ?_ ?_) | (refine fun (hc : (_ : Bool) = _) => ?_; try simp only [hcS] at hc))
  all_goals try omega
  (first | refine ret_auto ?_ | refine ret_auto' ?_); simp only [go_sem, simprocAttr, Tryz.f139]
theorem cal_Category_hom : Callable Tryz.prog 131 := ⟨_, Tryz.func131, rfl, rfl⟩
theorem sp_Category_hom {c : Cat} {x y : Int} (hl : c.fr.length ≤ 1048576) (ht : c.to.length = c.fr.length) : Spec Tryz.prog 131 [.bptr [] (catD c), iv x, iv y] [] (.sl 0) [(0, ⟨1, .arr (ints (c.hom x y))⟩)] := by
  refine spec_of_V (E := TE) 0 Tryz.func131 rfl (by simp [Tryz.f131]) fun X hn hX => ?_
  repeat' (first | with_reducible refine St.f ?_ | ((with_reducible refine V_cond ?_); simp only [go_sem, simprocAttr]) | ((refine V_rg ?_); intro K hK) | ((first | with_reducible refine So.f ?_ | ((with_reducible apply evOps_g); rfl)); intro K hK; simp (contextual := true) only [go_sem, simprocAttr]) | ((with_reducible refine hK _ ?_); clear hK K) | (with_reducible first | refine And.intro ?_ ?_ | refine blk_other (by decide) ?_ | refine inR_mk ?_ ?_) | (refine fun (hc : (_ : Bool) = _) => ?_; try simp only [hcS] at hc))
  all_goals try omega
  refine V_loopK (G := {i : Nat // i ≤ c.fr.length ∧ (True)}) (fun ⟨i, _⟩ => [(15, iv i), (7, .sl 0)]) [0, 1, 2, 6, 14] (fun ⟨i, _⟩ => [(0, ⟨1, .arr (ints (c.homI x y i))⟩)]) [0] (fun zz => c.fr.length - zz.1) ⟨0, Nat.zero_le _, by first | trivial | simp⟩ ?_ ?_
  · exact Imp.au hX
  rintro ⟨i, hii, hwi⟩
  simp only [go_sem, simprocAttr]
  have hlen := c.homI_len x y i
  repeat' (first | with_reducible refine St.f ?_ | ((with_reducible refine V_cond ?_); simp only [go_sem, simprocAttr]) | ((refine V_rg ?_); intro K hK) | ((first | with_reducible refine So.f ?_ | ((with_reducible apply evOps_g); rfl)); intro K hK; simp (contextual := true) only [go_sem, simprocAttr]) | ((with_reducible refine hK _ ?_); clear hK K) | (with_reducible first | refine And.intro ?_ ?_ | refine blk_other (by decide) ?_ | refine inR_mk ?_ ?_) | (refine fun (hc : (_ : Bool) = _) => ?_; try simp only [hcS] at hc))
  all_goals try omega
  · refine ⟨⟨i + 1, by omega, (by trivial)⟩, by simp only; omega, Imp.auto hX (by simp only [go_sem, simprocAttr, Cat.homI_succ, *])⟩
  · refine ⟨⟨i + 1, by omega, (by trivial)⟩, by simp only; omega, Imp.auto hX (by simp only [go_sem, simprocAttr, Cat.homI_succ, *])⟩
  · refine ⟨⟨i + 1, by omega, (by trivial)⟩, by simp only; omega, Imp.auto hX (by simp only [go_sem, simprocAttr, Cat.homI_succ, *])⟩
  · (first | refine ret_auto ?_ | refine ret_auto' ?_); simp only [go_sem, simprocAttr, Tryz.f131]
    have : i = c.fr.length := by omega
    subst this
    simp [Cat.hom]
end Go.Eng
end
section
namespace Go.Eng
open Go Go.Proofs Go.Cats
theorem eq_ends : EqP2 TE.P 238 := eqP2_mk Tryz.underlying238 (by decide) (by decide) Tryz.underlying2 (by first | exact Tryz.stoodInHeld238 | kernel_rfl) (by first | exact Tryz.eqGuardType238 | kernel_rfl) fun xs off w v h => run_part_plain (P := Tryz.prog) w (by kernel_rfl) h
theorem cal_Category_isShape : Callable Tryz.prog 143 := ⟨_, Tryz.func143, rfl, rfl⟩
theorem sp_Category_isShape {c : Cat} (hb : CatB c) : Spec Tryz.prog 143 [.bptr [] (catD c)] [] (bv (dec (Shape c))) [] := by
  refine spec_of_V (E := TE) 0 Tryz.func143 rfl (by simp [Tryz.f143]) fun X hn hX => ?_
  obtain ⟨b1, b2, b3, b4, b5, b6, b7⟩ := hb
  repeat' (first | with_reducible refine St.f ?_ | ((with_reducible refine V_cond ?_); simp only [go_sem, simprocAttr]) | ((first | refine V_rg ?_ | refine V_dr ?_); intro K hK) | ((first | with_reducible refine So.f ?_ | ((with_reducible apply evOps_g); rfl) | ((with_reducible apply evOpsD_g); rfl)); intro K hK; simp (contextual := true) only [go_sem, simprocAttr]) | ((with_reducible refine evOpsD_nil ?_ ?_); kernel_rfl) | ((with_reducible refine hK _ ?_); clear hK K) | (with_reducible first | refine And.intro ?_ ?_ | refine blk_other (by decide) ?_ | refine inR_mk ?_ ?_) | ((with_reducible refine evCall_at 84 ?_); refine EvCall.rq (a := (sp_Category_arrows)) (b := cal_Category_arrows) (c := ?_); all_goals try simp only [go_sem, simprocAttr]) | ((with_reducible refine evCall_at 92 ?_); refine EvCall.rq (a := (sp_inRange)) (b := cal_inRange) (c := ?_); all_goals try simp only [go_sem, simprocAttr]) | ((with_reducible refine evCall_at 194 ?_); refine EvCall.rq (a := (sp_within ?_ ?_)) (b := cal_within) (c := ?_); all_goals try simp only [go_sem, simprocAttr]) | ((with_reducible refine evCall_at 206 ?_); refine EvCall.rq (a := (sp_Category_ends ?_ ?_ ?_)) (b := cal_Category_ends) (c := ?_); all_goals try simp only [go_sem, simprocAttr]) | (refine fun (hc : (_ : Bool) = _) => ?_; try simp only [hcS] at hc))
  all_goals try omega
  all_goals try ((first | refine ret_auto ?_ | refine ret_auto' ?_); simp only [go_sem, simprocAttr, Tryz.f143]; exact bv_f (fun s => by obtain ⟨s1, s2, s3, s4, s5, s6, s7, s8, s9, s10, s11⟩ := s; first | omega | contradiction | simp_all))
  have hI : Within c.id c.fr.length := by assumption
  have hF : Within c.fr c.ob := by assumption
  have hT : Within c.to c.ob := by assumption
  refine V_loopK (G := {i : Nat // i ≤ c.id.length ∧ (∀ x, x < i → c.F (c.id.getD x 0) = x ∧ c.T (c.id.getD x 0) = x)}) (fun ⟨i, _⟩ => [(88, iv i)]) [0, 3, 86, 87] (fun ⟨i, _⟩ => []) [] (fun zz => c.id.length - zz.1) ⟨0, Nat.zero_le _, by omega⟩ ?_ ?_
  · exact Imp.au hX
  rintro ⟨i, hii, hwi⟩
  simp only [go_sem, simprocAttr]
  have hIi := hI i
  repeat' (first | with_reducible refine St.f ?_ | ((with_reducible refine V_cond ?_); simp only [go_sem, simprocAttr]) | ((first | refine V_rg ?_ | refine V_dr ?_); intro K hK) | ((first | with_reducible refine So.f ?_ | ((with_reducible apply evOps_g); rfl) | ((with_reducible apply evOpsD_g); rfl)); intro K hK; simp (contextual := true) only [go_sem, simprocAttr]) | ((with_reducible refine evOpsD_nil ?_ ?_); kernel_rfl) | ((with_reducible refine hK _ ?_); clear hK K) | (with_reducible first | refine And.intro ?_ ?_ | refine blk_other (by decide) ?_ | refine inR_mk ?_ ?_) | ((with_reducible refine evCall_at 84 ?_); refine EvCall.rq (a := (sp_Category_arrows)) (b := cal_Category_arrows) (c := ?_); all_goals try simp only [go_sem, simprocAttr]) | ((with_reducible refine evCall_at 92 ?_); refine EvCall.rq (a := (sp_inRange)) (b := cal_inRange) (c := ?_); all_goals try simp only [go_sem, simprocAttr]) | ((with_reducible refine evCall_at 194 ?_); refine EvCall.rq (a := (sp_within ?_ ?_)) (b := cal_within) (c := ?_); all_goals try simp only [go_sem, simprocAttr]) | ((with_reducible refine evCall_at 206 ?_); refine EvCall.rq (a := (sp_Category_ends ?_ ?_ ?_)) (b := cal_Category_ends) (c := ?_); all_goals try simp only [go_sem, simprocAttr]) | (refine hook_ne2 eq_ends (by simp only [go_sem, simprocAttr]; rfl) (by simp only [go_sem, simprocAttr]; rfl) ?_; simp only [go_sem, simprocAttr]) | (refine fun (hc : (_ : Bool) = _) => ?_; try simp only [hcS] at hc))
  all_goals try omega
  · (first | refine ret_auto ?_ | refine ret_auto' ?_); simp only [go_sem, simprocAttr, Tryz.f143]
    exact bv_f (fun s => by have h := s.ide i (by omega); ((try simp only [Cat.F, Cat.T, Cat.I, Cat.C, Fun.O, Fun.A, Cat.Entry, Int.toNat_natCast] at *); omega))
  · refine ⟨⟨i + 1, by omega, (by exact all_succ hwi hc)⟩, by simp only; omega, Imp.ao hX⟩
  have hide : ∀ x, x < c.id.length → c.F (c.id.getD x 0) = x ∧ c.T (c.id.getD x 0) = x := fun x hx => hwi x (by omega)
  clear hwi hIi
  refine V_loopK (G := {f : Nat // f ≤ c.co.length ∧ (∀ k, k < f → (c.co.getD k []).length = c.fr.length ∧ ∀ g, g < c.fr.length → c.Entry k g)}) (fun ⟨f, _⟩ => [(106, iv f)]) [0, 3, 104, 105] (fun ⟨f, _⟩ => []) [] (fun zz => c.co.length - zz.1) ⟨0, Nat.zero_le _, by omega⟩ ?_ ?_
  · exact Imp.au hX
  rintro ⟨f, hif, hwf⟩
  simp only [go_sem, simprocAttr]
  have b7f := b7 f
  repeat' (first | with_reducible refine St.f ?_ | ((with_reducible refine V_cond ?_); simp only [go_sem, simprocAttr]) | ((first | refine V_rg ?_ | refine V_dr ?_); intro K hK) | ((first | with_reducible refine So.f ?_ | ((with_reducible apply evOps_g); rfl) | ((with_reducible apply evOpsD_g); rfl)); intro K hK; simp (contextual := true) only [go_sem, simprocAttr]) | ((with_reducible refine evOpsD_nil ?_ ?_); kernel_rfl) | ((with_reducible refine hK _ ?_); clear hK K) | (with_reducible first | refine And.intro ?_ ?_ | refine blk_other (by decide) ?_ | refine inR_mk ?_ ?_) | ((with_reducible refine evCall_at 84 ?_); refine EvCall.rq (a := (sp_Category_arrows)) (b := cal_Category_arrows) (c := ?_); all_goals try simp only [go_sem, simprocAttr]) | ((with_reducible refine evCall_at 92 ?_); refine EvCall.rq (a := (sp_inRange)) (b := cal_inRange) (c := ?_); all_goals try simp only [go_sem, simprocAttr]) | ((with_reducible refine evCall_at 194 ?_); refine EvCall.rq (a := (sp_within ?_ ?_)) (b := cal_within) (c := ?_); all_goals try simp only [go_sem, simprocAttr]) | ((with_reducible refine evCall_at 206 ?_); refine EvCall.rq (a := (sp_Category_ends ?_ ?_ ?_)) (b := cal_Category_ends) (c := ?_); all_goals try simp only [go_sem, simprocAttr]) | (refine fun (hc : (_ : Bool) = _) => ?_; try simp only [hcS] at hc))
  all_goals try omega
  · (first | refine ret_auto ?_ | refine ret_auto' ?_); simp only [go_sem, simprocAttr, Tryz.f143]
    exact bv_f (fun s => by have h := (s.coe f (by omega)).1; omega)
  refine V_loopK (G := {g : Nat // g ≤ (c.co.getD f []).length ∧ (∀ k, k < g → c.Entry f k)}) (fun ⟨g, _⟩ => [(117, iv g)]) [0, 3, 6, 104, 105, 106, 115, 116] (fun ⟨g, _⟩ => []) [] (fun zz => (c.co.getD f []).length - zz.1) ⟨0, Nat.zero_le _, by omega⟩ ?_ ?_
  · exact Imp.au hX
  rintro ⟨g, hig, hwg⟩
  simp only [go_sem, simprocAttr]
  repeat' (first | with_reducible refine St.f ?_ | ((with_reducible refine V_cond ?_); simp only [go_sem, simprocAttr]) | ((first | refine V_rg ?_ | refine V_dr ?_); intro K hK) | ((first | with_reducible refine So.f ?_ | ((with_reducible apply evOps_g); rfl) | ((with_reducible apply evOpsD_g); rfl)); intro K hK; simp (contextual := true) only [go_sem, simprocAttr]) | ((with_reducible refine evOpsD_nil ?_ ?_); kernel_rfl) | ((with_reducible refine hK _ ?_); clear hK K) | (with_reducible first | refine And.intro ?_ ?_ | refine blk_other (by decide) ?_ | refine inR_mk ?_ ?_) | ((with_reducible refine evCall_at 84 ?_); refine EvCall.rq (a := (sp_Category_arrows)) (b := cal_Category_arrows) (c := ?_); all_goals try simp only [go_sem, simprocAttr]) | ((with_reducible refine evCall_at 92 ?_); refine EvCall.rq (a := (sp_inRange)) (b := cal_inRange) (c := ?_); all_goals try simp only [go_sem, simprocAttr]) | ((with_reducible refine evCall_at 194 ?_); refine EvCall.rq (a := (sp_within ?_ ?_)) (b := cal_within) (c := ?_); all_goals try simp only [go_sem, simprocAttr]) | ((with_reducible refine evCall_at 206 ?_); refine EvCall.rq (a := (sp_Category_ends ?_ ?_ ?_)) (b := cal_Category_ends) (c := ?_); all_goals try simp only [go_sem, simprocAttr]) | (refine hook_ne2 eq_ends (by simp only [go_sem, simprocAttr]; rfl) (by simp only [go_sem, simprocAttr]; rfl) ?_; simp only [go_sem, simprocAttr]) | (refine fun (hc : (_ : Bool) = _) => ?_; try simp only [hcS] at hc))
  all_goals try omega
  · (first | refine ret_auto ?_ | refine ret_auto' ?_); simp only [go_sem, simprocAttr, Tryz.f143]
    exact bv_f (fun s => by have h := (s.coe f (by omega)).2 g (by omega); ((try simp only [Cat.F, Cat.T, Cat.I, Cat.C, Fun.O, Fun.A, Cat.Entry, Int.toNat_natCast] at *); omega))
  · refine ⟨⟨g + 1, by omega, (by exact all_succ hwg (by ((try simp only [Cat.F, Cat.T, Cat.I, Cat.C, Fun.O, Fun.A, Cat.Entry, Int.toNat_natCast] at *); omega)))⟩, by simp only; omega, Imp.ao hX⟩
  · (first | refine ret_auto ?_ | refine ret_auto' ?_); simp only [go_sem, simprocAttr, Tryz.f143]
    exact bv_f (fun s => by have h := (s.coe f (by omega)).2 g (by omega); ((try simp only [Cat.F, Cat.T, Cat.I, Cat.C, Fun.O, Fun.A, Cat.Entry, Int.toNat_natCast] at *); omega))
  · refine ⟨⟨g + 1, by omega, (by exact all_succ hwg (by ((try simp only [Cat.F, Cat.T, Cat.I, Cat.C, Fun.O, Fun.A, Cat.Entry, Int.toNat_natCast] at *); omega)))⟩, by simp only; omega, Imp.ao hX⟩
  · (first | refine ret_auto ?_ | refine ret_auto' ?_); simp only [go_sem, simprocAttr, Tryz.f143]
    exact bv_f (fun s => by have h := (s.coe f (by omega)).2 g (by omega); ((try simp only [Cat.F, Cat.T, Cat.I, Cat.C, Fun.O, Fun.A, Cat.Entry, Int.toNat_natCast] at *); omega))
  · refine ⟨⟨f + 1, by omega, (by exact all_succ hwf ⟨by omega, fun k hk => hwg k (by omega)⟩)⟩, by simp only; omega, Imp.ao hX⟩
  · (first | refine ret_auto ?_ | refine ret_auto' ?_); simp only [go_sem, simprocAttr, Tryz.f143]
    exact bv_t ⟨by omega, by omega, by omega, by omega, hF, hT, by assumption, hI, by omega, hide, fun k hk => hwf k (by omega)⟩
end Go.Eng
end
section
namespace Go.Eng
open Go Go.Proofs Go.Cats
theorem cal_Category_fault : Callable Tryz.prog 144 := ⟨_, Tryz.func144, rfl, rfl⟩
theorem sp_Category_fault {c : Cat} (s : Shape c) : Spec Tryz.prog 144 [.bptr [] (catD c)] [] (.tup [iv c.fault.1, iv c.fault.2.1, iv c.fault.2.2.1, iv c.fault.2.2.2]) [] := by
  refine spec_of_V (E := TE) 0 Tryz.func144 rfl (by simp [Tryz.f144]) fun X hn hX => ?_
  have ⟨s1, s2, s3, s4, s5, s6, s7, s8, s9, s10, s11⟩ := s
  repeat' (first | with_reducible refine St.f ?_ | ((with_reducible refine V_cond ?_); simp only [go_sem, simprocAttr]) | ((first | refine V_rg ?_ | refine V_dr ?_); intro K hK) | ((first | with_reducible refine So.f ?_ | ((with_reducible apply evOps_g); rfl) | ((with_reducible apply evOpsD_g); rfl)); intro K hK; simp (contextual := true) only [go_sem, simprocAttr]) | ((with_reducible refine evOpsD_nil ?_ ?_); kernel_rfl) | ((with_reducible refine hK _ ?_); clear hK K) | (with_reducible first | refine And.intro ?_ ?_ | refine blk_other (by decide) ?_ | refine inR_mk ?_ ?_) | ((with_reducible refine evCall_at 84 ?_); refine EvCall.rq (a := (sp_Category_arrows)) (b := cal_Category_arrows) (c := ?_); all_goals try simp only [go_sem, simprocAttr]) | (refine fun (hc : (_ : Bool) = _) => ?_; try simp only [hcS] at hc))
  refine V_loopK (G := {f : Nat // f ≤ c.fr.length ∧ (scan f c.fault1 = none)}) (fun ⟨f, _⟩ => [(7, iv f)]) [0, 6] (fun ⟨f, _⟩ => []) [] (fun zz => c.fr.length - zz.1) ⟨0, Nat.zero_le _, by rfl⟩ ?_ ?_
  · exact Imp.au hX
  rintro ⟨f, hif, hwf⟩
  simp only [go_sem, simprocAttr]
  have hF := s5 f
  have hT := s6 f
  have hI1 := s8 (c.fr.getD f 0).toNat
  have hI2 := s8 (c.to.getD f 0).toNat
  have hr1 := fun h => (s11 (c.id.getD (c.fr.getD f 0).toNat 0).toNat h).1
  have hr2 := fun h => (s11 f h).1
  repeat' (first | with_reducible refine St.f ?_ | ((with_reducible refine V_cond ?_); simp only [go_sem, simprocAttr]) | ((first | refine V_rg ?_ | refine V_dr ?_); intro K hK) | ((first | with_reducible refine So.f ?_ | ((with_reducible apply evOps_g); rfl) | ((with_reducible apply evOpsD_g); rfl)); intro K hK; simp (contextual := true) only [go_sem, simprocAttr]) | ((with_reducible refine evOpsD_nil ?_ ?_); kernel_rfl) | ((with_reducible refine hK _ ?_); clear hK K) | (with_reducible first | refine And.intro ?_ ?_ | refine blk_other (by decide) ?_ | refine inR_mk ?_ ?_) | ((with_reducible refine evCall_at 139 ?_); refine EvCall.rq (a := (sp_Category_then ?_ ?_ ?_ ?_)) (b := cal_Category_then) (c := ?_); all_goals try simp only [go_sem, simprocAttr]) | (refine fun (hc : (_ : Bool) = _) => ?_; try simp only [hcS] at hc))
  all_goals try ((try simp only [Cat.F, Cat.T, Cat.I, Cat.C, Fun.O, Fun.A, Cat.Entry, Int.toNat_natCast] at *); omega)
  · (first | refine ret_auto ?_ | refine ret_auto' ?_); simp only [go_sem, simprocAttr, Tryz.f144]
    rw [Cat.fault_1 hwf (by omega) (Cat.fault1_t (.inr hc))]
  · refine ⟨⟨f + 1, by omega, (by exact scan_next hwf (Cat.fault1_f (by assumption) hc))⟩, by simp only; omega, Imp.ao hX⟩
  · (first | refine ret_auto ?_ | refine ret_auto' ?_); simp only [go_sem, simprocAttr, Tryz.f144]
    rw [Cat.fault_1 hwf (by omega) (Cat.fault1_t (.inl hc))]
  have h1 : scan c.fr.length c.fault1 = none := by have : f = c.fr.length := by omega
                                                   rw [← this]; exact hwf
  clear hwf hF hT hI1 hI2 hr1 hr2
  refine V_loopK (G := {f : Nat // f ≤ c.fr.length ∧ (scan f (fun f => scan c.fr.length fun g => c.fault2g f g) = none)}) (fun ⟨f, _⟩ => [(8, iv f)]) [0, 6] (fun ⟨f, _⟩ => []) [] (fun zz => c.fr.length - zz.1) ⟨0, Nat.zero_le _, by rfl⟩ ?_ ?_
  · exact Imp.au hX
  rintro ⟨f, hif, hwf⟩
  simp only [go_sem, simprocAttr]
  repeat' (first | with_reducible refine St.f ?_ | ((with_reducible refine V_cond ?_); simp only [go_sem, simprocAttr]) | ((first | refine V_rg ?_ | refine V_dr ?_); intro K hK) | ((first | with_reducible refine So.f ?_ | ((with_reducible apply evOps_g); rfl) | ((with_reducible apply evOpsD_g); rfl)); intro K hK; simp (contextual := true) only [go_sem, simprocAttr]) | ((with_reducible refine evOpsD_nil ?_ ?_); kernel_rfl) | ((with_reducible refine hK _ ?_); clear hK K) | (with_reducible first | refine And.intro ?_ ?_ | refine blk_other (by decide) ?_ | refine inR_mk ?_ ?_) | (refine fun (hc : (_ : Bool) = _) => ?_; try simp only [hcS] at hc))
  all_goals try ((try simp only [Cat.F, Cat.T, Cat.I, Cat.C, Fun.O, Fun.A, Cat.Entry, Int.toNat_natCast] at *); omega)
  refine V_loopK (G := {g : Nat // g ≤ c.fr.length ∧ (scan g (fun g => c.fault2g f g) = none)}) (fun ⟨g, _⟩ => [(9, iv g)]) [0, 6, 8] (fun ⟨g, _⟩ => []) [] (fun zz => c.fr.length - zz.1) ⟨0, Nat.zero_le _, by rfl⟩ ?_ ?_
  · exact Imp.au hX
  rintro ⟨g, hig, hwg⟩
  simp only [go_sem, simprocAttr]
  have hr1 := fun h => (s11 f h).1
  have hr2 := fun h => (s11 f h).2 g
  have hr3 := fun h => (s11 g h).1
  have hr4 := fun h => (s11 ((c.co.getD f []).getD g 0).toNat h).1
  repeat' (first | with_reducible refine St.f ?_ | ((with_reducible refine V_cond ?_); simp only [go_sem, simprocAttr]) | ((first | refine V_rg ?_ | refine V_dr ?_); intro K hK) | ((first | with_reducible refine So.f ?_ | ((with_reducible apply evOps_g); rfl) | ((with_reducible apply evOpsD_g); rfl)); intro K hK; simp (contextual := true) only [go_sem, simprocAttr]) | ((with_reducible refine evOpsD_nil ?_ ?_); kernel_rfl) | ((with_reducible refine hK _ ?_); clear hK K) | (with_reducible first | refine And.intro ?_ ?_ | refine blk_other (by decide) ?_ | refine inR_mk ?_ ?_) | ((with_reducible refine evCall_at 139 ?_); refine EvCall.rq (a := (sp_Category_then ?_ ?_ ?_ ?_)) (b := cal_Category_then) (c := ?_); all_goals try simp only [go_sem, simprocAttr]) | (refine fun (hc : (_ : Bool) = _) => ?_; try simp only [hcS] at hc))
  all_goals try ((try simp only [Cat.F, Cat.T, Cat.I, Cat.C, Fun.O, Fun.A, Cat.Entry, Int.toNat_natCast] at *); omega)
  · refine ⟨⟨g + 1, by omega, (by exact scan_next hwg (Cat.fault2g_f hc))⟩, by simp only; omega, Imp.ao hX⟩
  refine V_loopK (G := {h : Nat // h ≤ c.fr.length ∧ (scan h (fun h => c.fault2 f g h) = none)}) (fun ⟨h, _⟩ => [(10, iv h)]) [0, 6, 8, 9] (fun ⟨h, _⟩ => []) [] (fun zz => c.fr.length - zz.1) ⟨0, Nat.zero_le _, by rfl⟩ ?_ ?_
  · exact Imp.au hX
  rintro ⟨h, hih, hwh⟩
  simp only [go_sem, simprocAttr]
  have hr5 := fun q => (s11 g q).2 h
  repeat' (first | with_reducible refine St.f ?_ | ((with_reducible refine V_cond ?_); simp only [go_sem, simprocAttr]) | ((first | refine V_rg ?_ | refine V_dr ?_); intro K hK) | ((first | with_reducible refine So.f ?_ | ((with_reducible apply evOps_g); rfl) | ((with_reducible apply evOpsD_g); rfl)); intro K hK; simp (contextual := true) only [go_sem, simprocAttr]) | ((with_reducible refine evOpsD_nil ?_ ?_); kernel_rfl) | ((with_reducible refine hK _ ?_); clear hK K) | (with_reducible first | refine And.intro ?_ ?_ | refine blk_other (by decide) ?_ | refine inR_mk ?_ ?_) | ((with_reducible refine evCall_at 139 ?_); refine EvCall.rq (a := (sp_Category_then ?_ ?_ ?_ ?_)) (b := cal_Category_then) (c := ?_); all_goals try simp only [go_sem, simprocAttr]) | (refine fun (hc : (_ : Bool) = _) => ?_; try simp only [hcS] at hc))
  all_goals try ((try simp only [Cat.F, Cat.T, Cat.I, Cat.C, Fun.O, Fun.A, Cat.Entry, Int.toNat_natCast] at *); omega)
  · (first | refine ret_auto ?_ | refine ret_auto' ?_); simp only [go_sem, simprocAttr, Tryz.f144]
    rw [Cat.fault_2 h1 hwf (by omega) hwg (by omega) (by omega) hwh (by omega) (Cat.fault2_t (by assumption) hc)]
  · refine ⟨⟨h + 1, by omega, (by exact scan_next hwh (Cat.fault2_f fun _ => hc))⟩, by simp only; omega, Imp.ao hX⟩
  · refine ⟨⟨h + 1, by omega, (by exact scan_next hwh (Cat.fault2_f fun _ => by omega))⟩, by simp only; omega, Imp.ao hX⟩
  · refine ⟨⟨g + 1, by omega, (by exact scan_next hwg (by rw [Cat.fault2g_t (by omega)]; exact scan_end hwh hih (by omega)))⟩, by simp only; omega, Imp.ao hX⟩
  · refine ⟨⟨f + 1, by omega, (by exact scan_next hwf (scan_end hwg hig (by omega)))⟩, by simp only; omega, Imp.ao hX⟩
  · (first | refine ret_auto ?_ | refine ret_auto' ?_); simp only [go_sem, simprocAttr, Tryz.f144]
    rw [Cat.fault_0 h1 (scan_end hwf hif (by omega))]
theorem cal_Category_isCategory : Callable Tryz.prog 71 := ⟨_, Tryz.func71, rfl, rfl⟩
theorem sp_Category_isCategory {c : Cat} (hb : CatB c) : Spec Tryz.prog 71 [.bptr [] (catD c)] [] (bv (dec (IsCat c))) [] := by
  refine spec_of_V (E := TE) 0 Tryz.func71 rfl (by simp [Tryz.f71]) fun X hn hX => ?_
  repeat' (first | with_reducible refine St.f ?_ | ((with_reducible refine V_cond ?_); simp only [go_sem, simprocAttr]) | ((refine V_rg ?_); intro K hK) | ((first | with_reducible refine So.f ?_ | ((with_reducible apply evOps_g); rfl)); intro K hK; simp (contextual := true) only [go_sem, simprocAttr]) | ((with_reducible refine hK _ ?_); clear hK K) | (with_reducible first | refine And.intro ?_ ?_ | refine inR_mk ?_ ?_) | ((with_reducible refine evCall_at 143 ?_); refine EvCall.rq (a := (sp_Category_isShape ?_)) (b := cal_Category_isShape) (c := ?_); all_goals try simp only [go_sem, simprocAttr]) | ((with_reducible refine evCall_at 144 ?_); refine EvCall.rq (a := (sp_Category_fault ?_)) (b := cal_Category_fault) (c := ?_); all_goals try simp only [go_sem, simprocAttr]) | (refine fun (hc : (_ : Bool) = _) => ?_; try simp only [hcS] at hc))
  all_goals try exact om_
  · (first | refine ret_auto ?_ | refine ret_auto' ?_); simp only [go_sem, simprocAttr, Tryz.f71]
    exact bv_f (fun s => hc s.toShape)
  · (first | refine ret_auto ?_ | refine ret_auto' ?_); simp only [go_sem, simprocAttr, Tryz.f71]
    rw [← dec_eq, dec_congr hc.fault_zero]
end Go.Eng
end
section
namespace Go.Eng
open Go Go.Proofs Go.Cats
def cmp : List Int → List Int → Int
  | [], [] => 0
  | [], _ :: _ => -1
  | _ :: _, [] => 1
  | a :: l, b :: m => if a = b then cmp l m else if a < b then -1 else 1
theorem cal_clone : Callable Tryz.prog 161 := ⟨_, Tryz.func161, rfl, rfl⟩
theorem sp_clone {l : List Int} (hl : l.length ≤ 1048576) : Spec Tryz.prog 161 [.bor [] (ints l)] [] (.sl 0) [(0, ⟨1, .arr (ints l)⟩)] := by
  refine spec_of_V (E := TE) 0 Tryz.func161 rfl (by simp [Tryz.f161]) fun X hn hX => ?_
  repeat' (first | with_reducible refine St.f ?_ | ((with_reducible refine V_cond ?_); simp only [go_sem, simprocAttr]) | ((refine V_rg ?_); intro K hK) | ((first | with_reducible refine So.f ?_ | ((with_reducible apply evOps_g); rfl)); intro K hK; simp (contextual := true) only [go_sem, simprocAttr]) | ((with_reducible refine hK _ ?_); clear hK K) | (with_reducible first | refine And.intro ?_ ?_ | refine inR_mk ?_ ?_) | (refine fun (hc : (_ : Bool) = _) => ?_; try simp only [hcS] at hc))
  all_goals try exact om_
  (first | refine ret_auto ?_ | refine ret_auto' ?_); simp only [go_sem, simprocAttr, Tryz.f161]
theorem cal_clones : Callable Tryz.prog 197 := ⟨_, Tryz.func197, rfl, rfl⟩
theorem sp_clones {l : List (List Int)} (hl : l.length ≤ 1048576) (hr : ∀ i, i < l.length → (l.getD i []).length ≤ 1048576) : Spec Tryz.prog 197 [.bor [] (intss l)] [] (.sl 0) [(0, ⟨1, .arr (intss l)⟩)] := by
  refine spec_of_V (E := TE) 0 Tryz.func197 rfl (by simp [Tryz.f197]) fun X hn hX => ?_
  repeat' (first | with_reducible refine St.f ?_ | ((with_reducible refine V_cond ?_); simp only [go_sem, simprocAttr]) | ((refine V_rg ?_); intro K hK) | ((first | with_reducible refine So.f ?_ | ((with_reducible apply evOps_g); rfl)); intro K hK; simp (contextual := true) only [go_sem, simprocAttr]) | ((with_reducible refine hK _ ?_); clear hK K) | (with_reducible first | refine And.intro ?_ ?_ | refine blk_other (by decide) ?_ | refine inR_mk ?_ ?_) | (refine fun (hc : (_ : Bool) = _) => ?_; try simp only [hcS] at hc))
  all_goals try exact om_
  refine V_loopK (G := {i : Nat // i ≤ l.length ∧ (True)}) (fun ⟨i, _⟩ => [(11, iv i), (3, .sl 0)]) [2, 9, 10] (fun ⟨i, _⟩ => [(0, ⟨1, .arr (intss (l.take i))⟩)]) [0] (fun zz => l.length - zz.1) ⟨0, Nat.zero_le _, by first | trivial | simp⟩ ?_ ?_
  · exact Imp.au hX
  rintro ⟨i, hii, hwi⟩
  simp only [go_sem, simprocAttr]
  have h1 := hr i
  have h2 : (l.take i).length ≤ i := by simp; omega
  repeat' (first | with_reducible refine St.f ?_ | ((with_reducible refine V_cond ?_); simp only [go_sem, simprocAttr]) | ((refine V_rg ?_); intro K hK) | ((first | with_reducible refine So.f ?_ | ((with_reducible apply evOps_g); rfl)); intro K hK; simp (contextual := true) only [go_sem, simprocAttr]) | ((with_reducible refine hK _ ?_); clear hK K) | (with_reducible first | refine And.intro ?_ ?_ | refine blk_other (by decide) ?_ | refine inR_mk ?_ ?_) | ((with_reducible refine evCall_at 161 ?_); refine EvCall.rq (a := (sp_clone ?_)) (b := cal_clone) (c := ?_); all_goals try simp only [go_sem, simprocAttr]) | (refine fun (hc : (_ : Bool) = _) => ?_; try simp only [hcS] at hc))
  all_goals try exact om_
  · refine ⟨⟨i + 1, by omega, (by trivial)⟩, by simp only; omega, Imp.auto hX (by simp only [go_sem, simprocAttr, take_getD (d := []) (show i < l.length by omega)])⟩
  · (first | refine ret_auto ?_ | refine ret_auto' ?_); simp only [go_sem, simprocAttr, Tryz.f197]
    rw [List.take_of_length_le (by omega)]
end Go.Eng
end
