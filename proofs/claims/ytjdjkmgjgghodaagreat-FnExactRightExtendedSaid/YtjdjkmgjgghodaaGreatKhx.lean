/- Several texts in one: G08, G09, G10. -/
import Derived.Test.YtjdjkmgjgghodaaGreatKmx
import Derived.Test.YtjdjkmgjgghodaaGreatKdx
import Derived.Test.YtjdjkmgjgghodaaGreatKgx
set_option linter.unusedSimpArgs false
set_option linter.unusedVariables false
set_option maxRecDepth 100000
set_option maxHeartbeats 8000000
section
namespace Go.Eng
open Go Go.Proofs Go.Cats
theorem cal_l01In : Callable Tryz.prog 122 := ⟨_, Tryz.func122, rfl, rfl⟩
theorem sp_l01In {n lo hi : Int} : Spec Tryz.prog 122 [iv n, iv lo, iv hi] [] (bv (dec (lo ≤ n ∧ n ≤ hi))) [] := by
  refine spec_of_V (E := TE) 0 Tryz.func122 rfl (by simp [Tryz.f122]) fun X hn hX => ?_
  repeat' (first | (with_reducible first | refine V_seq ?_ | refine V_skip ?_ | refine V_ret ?_) | ((with_reducible refine V_cond ?_); simp only [go_sem, simprocAttr]) | ((refine V_region (by rw [hn]; rfl) ?_); intro K hK) | ((first | with_reducible refine evOps_n ?_ | ((with_reducible apply evOps_g); rfl)); intro K hK; simp (contextual := true) only [go_sem, simprocAttr]) | with_reducible refine evOps_nil ?_ | ((with_reducible refine hK _ ?_); clear hK K) | (with_reducible first | refine And.intro ?_ ?_ | refine nxt_n ?_ | refine nxt_r ?_ | refine inR_mk ?_ ?_) | (refine fun (hc : (_ : Bool) = _) => ?_; try simp only [hcS] at hc))
  all_goals ((first | refine ret_auto ?_ | refine ret_auto' ?_); simp only [go_sem, simprocAttr, Tryz.f122])
  · rw [dec_eq, Bool.decide_and]; simp [hc]
  · rw [dec_f]; omega
theorem cal_l01Map : Callable Tryz.prog 95 := ⟨_, Tryz.func95, rfl, rfl⟩
theorem sp_l01Map {n : Int} {l : List Int} (hl : l.length ≤ 1048576) : Spec Tryz.prog 95 [iv n, .bor [] (ints l)] [] (bv (dec (Within l n))) [] := by
  refine spec_of_V (E := TE) 0 Tryz.func95 rfl (by simp [Tryz.f95]) fun X hn hX => ?_
  repeat' (first | (with_reducible first | refine V_seq ?_ | refine V_block ?_ | refine V_skip ?_ | refine V_ret ?_ | refine V_exit ?_) | ((with_reducible refine V_cond ?_); simp only [go_sem, simprocAttr]) | ((refine V_region (by rw [hn]; rfl) ?_); intro K hK) | ((first | with_reducible refine evOps_n ?_ | ((with_reducible apply evOps_g); rfl)); intro K hK; simp (contextual := true) only [go_sem, simprocAttr]) | with_reducible refine evOps_nil ?_ | ((with_reducible refine hK _ ?_); clear hK K) | (with_reducible first | refine And.intro ?_ ?_ | refine nxt_n ?_ | refine nxt_r ?_ | refine nxt_e ?_ | refine blk_n ?_ | refine blk_r ?_ | refine blk_same ?_ | refine blk_other (by decide) ?_ | refine noG_n ?_ | refine noG_r ?_ | refine noG_e ?_ | refine inR_mk ?_ ?_) | (refine fun (hc : (_ : Bool) = _) => ?_; try simp only [hcS] at hc))
  refine V_loopK (G := {i : Nat // i ≤ l.length ∧ (∀ j, j < i → 0 ≤ l.getD j 0 ∧ l.getD j 0 < n)}) (fun ⟨i, _⟩ => [(5, iv i)]) [0, 1] (fun ⟨i, _⟩ => []) [] (fun zz => l.length - zz.1) ⟨0, Nat.zero_le _, by omega⟩ ?_ ?_
  · exact Imp.auto hX (by simp [go_sem, simprocAttr])
  rintro ⟨i, hii, hwi⟩
  simp only [go_sem, simprocAttr]
  repeat' (first | (with_reducible first | refine V_seq ?_ | refine V_block ?_ | refine V_skip ?_ | refine V_ret ?_ | refine V_exit ?_) | ((with_reducible refine V_cond ?_); simp only [go_sem, simprocAttr]) | ((refine V_region (by rw [hn]; rfl) ?_); intro K hK) | ((first | with_reducible refine evOps_n ?_ | ((with_reducible apply evOps_g); rfl)); intro K hK; simp (contextual := true) only [go_sem, simprocAttr]) | with_reducible refine evOps_nil ?_ | ((with_reducible refine hK _ ?_); clear hK K) | (with_reducible first | refine And.intro ?_ ?_ | refine nxt_n ?_ | refine nxt_r ?_ | refine nxt_e ?_ | refine blk_n ?_ | refine blk_r ?_ | refine blk_same ?_ | refine blk_other (by decide) ?_ | refine noG_n ?_ | refine noG_r ?_ | refine noG_e ?_ | refine inR_mk ?_ ?_) | (refine fun (hc : (_ : Bool) = _) => ?_; try simp only [hcS] at hc))
  all_goals try (first | (with_reducible assumption) | ((try simp only [Cat.F, Cat.T, Cat.I, Cat.C, Fun.O, Fun.A, Cat.Entry, Int.toNat_natCast] at *); omega))
  all_goals try ((first | refine ret_auto ?_ | refine ret_auto' ?_); simp only [go_sem, simprocAttr, Tryz.f95]; exact bv_f (fun h => by have := h i (by omega); omega))
  · refine ⟨⟨i + 1, by omega, (by exact all_succ hwi (by omega))⟩, by simp only; omega, Imp.auto hX (by simp only [go_sem, simprocAttr])⟩
  · (first | refine ret_auto ?_ | refine ret_auto' ?_); simp only [go_sem, simprocAttr, Tryz.f95]
    exact bv_t (fun j hj => hwi j (by omega))
theorem cal_l02Ends : Callable Tryz.prog 128 := ⟨_, Tryz.func128, rfl, rfl⟩
theorem sp_l02Ends {l : List Int} {k n : Int} (hl : l.length ≤ 1048576) : Spec Tryz.prog 128 [.bor [] (ints l), iv k, iv n] [] (bv (dec ((l.length : Int) = k ∧ Within l n))) [] := by
  refine spec_of_V (E := TE) 0 Tryz.func128 rfl (by simp [Tryz.f128]) fun X hn hX => ?_
  repeat' (first | (with_reducible first | refine V_seq ?_ | refine V_skip ?_ | refine V_ret ?_) | ((with_reducible refine V_cond ?_); simp only [go_sem, simprocAttr]) | ((refine V_region (by rw [hn]; rfl) ?_); intro K hK) | ((first | with_reducible refine evOps_n ?_ | ((with_reducible apply evOps_g); rfl)); intro K hK; simp (contextual := true) only [go_sem, simprocAttr]) | with_reducible refine evOps_nil ?_ | ((with_reducible refine hK _ ?_); clear hK K) | (with_reducible first | refine And.intro ?_ ?_ | refine nxt_n ?_ | refine nxt_r ?_ | refine inR_mk ?_ ?_) | ((with_reducible refine evCall_at 95 ?_); refine EvCall.rq (a := (sp_l01Map ?_)) (b := cal_l01Map) (c := ?_); all_goals try simp only [go_sem, simprocAttr]) | (refine fun (hc : (_ : Bool) = _) => ?_; try simp only [hcS] at hc))
  all_goals try (first | (with_reducible assumption) | ((try simp only [Cat.F, Cat.T, Cat.I, Cat.C, Fun.O, Fun.A, Cat.Entry, Int.toNat_natCast] at *); omega))
  · (first | refine ret_auto ?_ | refine ret_auto' ?_); simp only [go_sem, simprocAttr, Tryz.f128]
    exact congrArg (fun b => Sv.v (.bool b)) (dec_congr ⟨fun h => ⟨hc, h⟩, fun h => h.2⟩)
  · (first | refine ret_auto ?_ | refine ret_auto' ?_); simp only [go_sem, simprocAttr, Tryz.f128]
    exact bv_f (fun h => hc h.1)
theorem cal_IsShape : Callable Tryz.prog 116 := ⟨_, Tryz.func116, rfl, rfl⟩
theorem sp_IsShape {c : Cat} (hb : CatB c) : Spec Tryz.prog 116 [catV c] [] (bv (dec (Shape c))) [] := by
  refine spec_of_V (E := TE) 0 Tryz.func116 rfl (by simp [Tryz.f116]) fun X hn hX => ?_
  obtain ⟨b1, b2, b3, b4, b5, b6, b7⟩ := hb
  repeat' (first | (with_reducible first | refine V_seq ?_ | refine V_block ?_ | refine V_skip ?_ | refine V_ret ?_ | refine V_exit ?_) | ((with_reducible refine V_cond ?_); simp only [go_sem, simprocAttr]) | ((first | refine V_region (by rw [hn]; rfl) ?_ | refine V_drawn hmix (by rw [hn]; rfl) ?_); intro K hK) | ((first | with_reducible refine evOps_n ?_ | ((with_reducible apply evOps_g); rfl) | with_reducible refine evOpsD_n ?_ | ((with_reducible apply evOpsD_g); rfl)); intro K hK; simp (contextual := true) only [go_sem, simprocAttr]) | with_reducible refine evOps_nil ?_ | ((with_reducible refine evOpsD_nil ?_ ?_); kernel_rfl) | ((with_reducible refine hK _ ?_); clear hK K) | (with_reducible first | refine And.intro ?_ ?_ | refine nxt_n ?_ | refine nxt_r ?_ | refine nxt_e ?_ | refine blk_n ?_ | refine blk_r ?_ | refine blk_same ?_ | refine blk_other (by decide) ?_ | refine noG_n ?_ | refine noG_r ?_ | refine noG_e ?_ | refine inR_mk ?_ ?_) | ((with_reducible refine evCall_at 122 ?_); refine EvCall.rq (a := (sp_l01In)) (b := cal_l01In) (c := ?_); all_goals try simp only [go_sem, simprocAttr]) | ((with_reducible refine evCall_at 95 ?_); refine EvCall.rq (a := (sp_l01Map ?_)) (b := cal_l01Map) (c := ?_); all_goals try simp only [go_sem, simprocAttr]) | ((with_reducible refine evCall_at 128 ?_); refine EvCall.rq (a := (sp_l02Ends ?_)) (b := cal_l02Ends) (c := ?_); all_goals try simp only [go_sem, simprocAttr]) | (refine fun (hc : (_ : Bool) = _) => ?_; try simp only [hcS] at hc))
  all_goals try (first | (with_reducible assumption) | ((try simp only [Cat.F, Cat.T, Cat.I, Cat.C, Fun.O, Fun.A, Cat.Entry, Int.toNat_natCast] at *); omega))
  all_goals try ((first | refine ret_auto ?_ | refine ret_auto' ?_); simp only [go_sem, simprocAttr, Tryz.f116]; exact bv_f (fun s => by obtain ⟨s1, s2, s3, s4, s5, s6, s7, s8, s9, s10, s11⟩ := s; first | omega | contradiction | (rename_i q _; exact q ⟨by omega, by assumption⟩) | (rename_i q _ _; exact q ⟨by omega, by assumption⟩) | simp_all))
  have hI : Within c.id c.fr.length := by assumption
  have hF : Within c.fr c.ob := by rename_i q _ _ _ _ ; first | exact q.2 | simp_all
  have hT : Within c.to c.ob := by simp_all
  refine V_loopK (G := {i : Nat // i ≤ c.id.length ∧ (∀ x, x < i → c.F (c.id.getD x 0) = x ∧ c.T (c.id.getD x 0) = x)}) (fun ⟨i, _⟩ => [(4, iv i)]) [1, 3] (fun ⟨i, _⟩ => []) [] (fun zz => c.id.length - zz.1) ⟨0, Nat.zero_le _, by omega⟩ ?_ ?_
  · exact Imp.auto hX (by simp [go_sem, simprocAttr])
  rintro ⟨i, hii, hwi⟩
  simp only [go_sem, simprocAttr]
  have hIi := hI i
  repeat' (first | (with_reducible first | refine V_seq ?_ | refine V_block ?_ | refine V_skip ?_ | refine V_ret ?_ | refine V_exit ?_) | ((with_reducible refine V_cond ?_); simp only [go_sem, simprocAttr]) | ((first | refine V_region (by rw [hn]; rfl) ?_ | refine V_drawn hmix (by rw [hn]; rfl) ?_); intro K hK) | ((first | with_reducible refine evOps_n ?_ | ((with_reducible apply evOps_g); rfl) | with_reducible refine evOpsD_n ?_ | ((with_reducible apply evOpsD_g); rfl)); intro K hK; simp (contextual := true) only [go_sem, simprocAttr]) | with_reducible refine evOps_nil ?_ | ((with_reducible refine evOpsD_nil ?_ ?_); kernel_rfl) | ((with_reducible refine hK _ ?_); clear hK K) | (with_reducible first | refine And.intro ?_ ?_ | refine nxt_n ?_ | refine nxt_r ?_ | refine nxt_e ?_ | refine blk_n ?_ | refine blk_r ?_ | refine blk_same ?_ | refine blk_other (by decide) ?_ | refine noG_n ?_ | refine noG_r ?_ | refine noG_e ?_ | refine inR_mk ?_ ?_) | (refine fun (hc : (_ : Bool) = _) => ?_; try simp only [hcS] at hc))
  all_goals try (first | (with_reducible assumption) | ((try simp only [Cat.F, Cat.T, Cat.I, Cat.C, Fun.O, Fun.A, Cat.Entry, Int.toNat_natCast] at *); omega))
  · (first | refine ret_auto ?_ | refine ret_auto' ?_); simp only [go_sem, simprocAttr, Tryz.f116]
    exact bv_f (fun s => by have h := s.ide i (by omega); ((try simp only [Cat.F, Cat.T, Cat.I, Cat.C, Fun.O, Fun.A, Cat.Entry, Int.toNat_natCast] at *); omega))
  · refine ⟨⟨i + 1, by omega, (by exact all_succ hwi (by ((try simp only [Cat.F, Cat.T, Cat.I, Cat.C, Fun.O, Fun.A, Cat.Entry, Int.toNat_natCast] at *); omega)))⟩, by simp only; omega, Imp.auto hX (by simp only [go_sem, simprocAttr])⟩
  · (first | refine ret_auto ?_ | refine ret_auto' ?_); simp only [go_sem, simprocAttr, Tryz.f116]
    exact bv_f (fun s => by have h := s.ide i (by omega); ((try simp only [Cat.F, Cat.T, Cat.I, Cat.C, Fun.O, Fun.A, Cat.Entry, Int.toNat_natCast] at *); omega))
  have hide : ∀ x, x < c.id.length → c.F (c.id.getD x 0) = x ∧ c.T (c.id.getD x 0) = x := fun x hx => hwi x (by omega)
  clear hwi hIi
  refine V_loopK (G := {f : Nat // f ≤ c.co.length ∧ (∀ k, k < f → (c.co.getD k []).length = c.fr.length ∧ ∀ g, g < c.fr.length → c.Entry k g)}) (fun ⟨f, _⟩ => [(5, iv f)]) [1, 3] (fun ⟨f, _⟩ => []) [] (fun zz => c.co.length - zz.1) ⟨0, Nat.zero_le _, by omega⟩ ?_ ?_
  · exact Imp.auto hX (by simp [go_sem, simprocAttr])
  rintro ⟨f, hif, hwf⟩
  simp only [go_sem, simprocAttr]
  have b7f := b7 f
  repeat' (first | (with_reducible first | refine V_seq ?_ | refine V_block ?_ | refine V_skip ?_ | refine V_ret ?_ | refine V_exit ?_) | ((with_reducible refine V_cond ?_); simp only [go_sem, simprocAttr]) | ((first | refine V_region (by rw [hn]; rfl) ?_ | refine V_drawn hmix (by rw [hn]; rfl) ?_); intro K hK) | ((first | with_reducible refine evOps_n ?_ | ((with_reducible apply evOps_g); rfl) | with_reducible refine evOpsD_n ?_ | ((with_reducible apply evOpsD_g); rfl)); intro K hK; simp (contextual := true) only [go_sem, simprocAttr]) | with_reducible refine evOps_nil ?_ | ((with_reducible refine evOpsD_nil ?_ ?_); kernel_rfl) | ((with_reducible refine hK _ ?_); clear hK K) | (with_reducible first | refine And.intro ?_ ?_ | refine nxt_n ?_ | refine nxt_r ?_ | refine nxt_e ?_ | refine blk_n ?_ | refine blk_r ?_ | refine blk_same ?_ | refine blk_other (by decide) ?_ | refine noG_n ?_ | refine noG_r ?_ | refine noG_e ?_ | refine inR_mk ?_ ?_) | (refine fun (hc : (_ : Bool) = _) => ?_; try simp only [hcS] at hc))
  all_goals try (first | (with_reducible assumption) | ((try simp only [Cat.F, Cat.T, Cat.I, Cat.C, Fun.O, Fun.A, Cat.Entry, Int.toNat_natCast] at *); omega))
  · (first | refine ret_auto ?_ | refine ret_auto' ?_); simp only [go_sem, simprocAttr, Tryz.f116]
    exact bv_f (fun s => by have h := (s.coe f (by omega)).1; omega)
  refine V_loopK (G := {g : Nat // g ≤ c.fr.length ∧ (∀ k, k < g → c.Entry f k)}) (fun ⟨g, _⟩ => [(6, iv g)]) [1, 3, 5] (fun ⟨g, _⟩ => []) [] (fun zz => c.fr.length - zz.1) ⟨0, Nat.zero_le _, by omega⟩ ?_ ?_
  · exact Imp.auto hX (by simp [go_sem, simprocAttr])
  rintro ⟨g, hig, hwg⟩
  simp only [go_sem, simprocAttr]
  repeat' (first | (with_reducible first | refine V_seq ?_ | refine V_block ?_ | refine V_skip ?_ | refine V_ret ?_ | refine V_exit ?_) | ((with_reducible refine V_cond ?_); simp only [go_sem, simprocAttr]) | ((first | refine V_region (by rw [hn]; rfl) ?_ | refine V_drawn hmix (by rw [hn]; rfl) ?_); intro K hK) | ((first | with_reducible refine evOps_n ?_ | ((with_reducible apply evOps_g); rfl) | with_reducible refine evOpsD_n ?_ | ((with_reducible apply evOpsD_g); rfl)); intro K hK; simp (contextual := true) only [go_sem, simprocAttr]) | with_reducible refine evOps_nil ?_ | ((with_reducible refine evOpsD_nil ?_ ?_); kernel_rfl) | ((with_reducible refine hK _ ?_); clear hK K) | (with_reducible first | refine And.intro ?_ ?_ | refine nxt_n ?_ | refine nxt_r ?_ | refine nxt_e ?_ | refine blk_n ?_ | refine blk_r ?_ | refine blk_same ?_ | refine blk_other (by decide) ?_ | refine noG_n ?_ | refine noG_r ?_ | refine noG_e ?_ | refine inR_mk ?_ ?_) | (refine fun (hc : (_ : Bool) = _) => ?_; try simp only [hcS] at hc))
  all_goals try (first | (with_reducible assumption) | ((try simp only [Cat.F, Cat.T, Cat.I, Cat.C, Fun.O, Fun.A, Cat.Entry, Int.toNat_natCast] at *); omega))
  all_goals try ((first | refine ret_auto ?_ | refine ret_auto' ?_); simp only [go_sem, simprocAttr, Tryz.f116]; exact bv_f (fun s => by have h := (s.coe f (by omega)).2 g (by omega); ((try simp only [Cat.F, Cat.T, Cat.I, Cat.C, Fun.O, Fun.A, Cat.Entry, Int.toNat_natCast] at *); omega)))
  · refine ⟨⟨g + 1, by omega, (by exact all_succ hwg (by ((try simp only [Cat.F, Cat.T, Cat.I, Cat.C, Fun.O, Fun.A, Cat.Entry, Int.toNat_natCast] at *); omega)))⟩, by simp only; omega, Imp.auto hX (by simp only [go_sem, simprocAttr])⟩
  · refine ⟨⟨g + 1, by omega, (by exact all_succ hwg (by ((try simp only [Cat.F, Cat.T, Cat.I, Cat.C, Fun.O, Fun.A, Cat.Entry, Int.toNat_natCast] at *); omega)))⟩, by simp only; omega, Imp.auto hX (by simp only [go_sem, simprocAttr])⟩
  · refine ⟨⟨f + 1, by omega, (by exact all_succ hwf ⟨by omega, fun k hk => hwg k (by omega)⟩)⟩, by simp only; omega, Imp.auto hX (by simp only [go_sem, simprocAttr])⟩
  · (first | refine ret_auto ?_ | refine ret_auto' ?_); simp only [go_sem, simprocAttr, Tryz.f116]
    exact bv_t ⟨by omega, by omega, by omega, by omega, hF, hT, by assumption, hI, by omega, hide, fun k hk => hwf k (by omega)⟩
end Go.Eng
end
section
namespace Go.Eng
open Go Go.Proofs Go.Cats
theorem cal_l02Fault : Callable Tryz.prog 117 := ⟨_, Tryz.func117, rfl, rfl⟩
theorem sp_l02Fault {c : Cat} (s : Shape c) : Spec Tryz.prog 117 [catV c] [] (.tup [iv c.fault.1, iv c.fault.2.1, iv c.fault.2.2.1, iv c.fault.2.2.2]) [] := by
  refine spec_of_V (E := TE) 0 Tryz.func117 rfl (by simp [Tryz.f117]) fun X hn hX => ?_
  have ⟨s1, s2, s3, s4, s5, s6, s7, s8, s9, s10, s11⟩ := s
  repeat' (first | (with_reducible first | refine V_seq ?_ | refine V_block ?_ | refine V_skip ?_ | refine V_ret ?_ | refine V_exit ?_) | ((with_reducible refine V_cond ?_); simp only [go_sem, simprocAttr]) | ((first | refine V_region (by rw [hn]; rfl) ?_ | refine V_drawn hmix (by rw [hn]; rfl) ?_); intro K hK) | ((first | with_reducible refine evOps_n ?_ | ((with_reducible apply evOps_g); rfl) | with_reducible refine evOpsD_n ?_ | ((with_reducible apply evOpsD_g); rfl)); intro K hK; simp (contextual := true) only [go_sem, simprocAttr]) | with_reducible refine evOps_nil ?_ | ((with_reducible refine evOpsD_nil ?_ ?_); kernel_rfl) | ((with_reducible refine hK _ ?_); clear hK K) | (with_reducible first | refine And.intro ?_ ?_ | refine nxt_n ?_ | refine nxt_r ?_ | refine nxt_e ?_ | refine blk_n ?_ | refine blk_r ?_ | refine blk_same ?_ | refine blk_other (by decide) ?_ | refine noG_n ?_ | refine noG_r ?_ | refine noG_e ?_ | refine inR_mk ?_ ?_) | (refine fun (hc : (_ : Bool) = _) => ?_; try simp only [hcS] at hc))
  all_goals try (first | (with_reducible assumption) | ((try simp only [Cat.F, Cat.T, Cat.I, Cat.C, Fun.O, Fun.A, Cat.Entry, Int.toNat_natCast] at *); omega))
  refine V_loopK (G := {f : Nat // f ≤ c.fr.length ∧ (scan f c.fault1 = none)}) (fun ⟨f, _⟩ => [(7, iv f)]) [1, 6] (fun ⟨f, _⟩ => []) [] (fun zz => c.fr.length - zz.1) ⟨0, Nat.zero_le _, by rfl⟩ ?_ ?_
  · exact Imp.auto hX (by simp [go_sem, simprocAttr])
  rintro ⟨f, hif, hwf⟩
  simp only [go_sem, simprocAttr]
  have hF := s5 f
  have hT := s6 f
  have hI1 := s8 (c.fr.getD f 0).toNat
  have hI2 := s8 (c.to.getD f 0).toNat
  have hr1 := fun h => (s11 (c.id.getD (c.fr.getD f 0).toNat 0).toNat h).1
  have hr2 := fun h => (s11 f h).1
  repeat' (first | (with_reducible first | refine V_seq ?_ | refine V_block ?_ | refine V_skip ?_ | refine V_ret ?_ | refine V_exit ?_) | ((with_reducible refine V_cond ?_); simp only [go_sem, simprocAttr]) | ((first | refine V_region (by rw [hn]; rfl) ?_ | refine V_drawn hmix (by rw [hn]; rfl) ?_); intro K hK) | ((first | with_reducible refine evOps_n ?_ | ((with_reducible apply evOps_g); rfl) | with_reducible refine evOpsD_n ?_ | ((with_reducible apply evOpsD_g); rfl)); intro K hK; simp (contextual := true) only [go_sem, simprocAttr]) | with_reducible refine evOps_nil ?_ | ((with_reducible refine evOpsD_nil ?_ ?_); kernel_rfl) | ((with_reducible refine hK _ ?_); clear hK K) | (with_reducible first | refine And.intro ?_ ?_ | refine nxt_n ?_ | refine nxt_r ?_ | refine nxt_e ?_ | refine blk_n ?_ | refine blk_r ?_ | refine blk_same ?_ | refine blk_other (by decide) ?_ | refine noG_n ?_ | refine noG_r ?_ | refine noG_e ?_ | refine inR_mk ?_ ?_) | (refine fun (hc : (_ : Bool) = _) => ?_; try simp only [hcS] at hc))
  all_goals try (first | (with_reducible assumption) | ((try simp only [Cat.F, Cat.T, Cat.I, Cat.C, Fun.O, Fun.A, Cat.Entry, Int.toNat_natCast] at *); omega))
  · (first | refine ret_auto ?_ | refine ret_auto' ?_); simp only [go_sem, simprocAttr, Tryz.f117]
    rw [Cat.fault_1 hwf (by omega) (Cat.fault1_t (.inr hc))]
  · refine ⟨⟨f + 1, by omega, (by exact scan_next hwf (Cat.fault1_f (by assumption) hc))⟩, by simp only; omega, Imp.auto hX (by simp only [go_sem, simprocAttr])⟩
  · (first | refine ret_auto ?_ | refine ret_auto' ?_); simp only [go_sem, simprocAttr, Tryz.f117]
    rw [Cat.fault_1 hwf (by omega) (Cat.fault1_t (.inl hc))]
  have h1 : scan c.fr.length c.fault1 = none := scan_end hwf hif (by omega)
  clear hwf hF hT hI1 hI2 hr1 hr2
  refine V_loopK (G := {f : Nat // f ≤ c.fr.length ∧ (scan f (fun f => scan c.fr.length fun g => c.fault2g f g) = none)}) (fun ⟨f, _⟩ => [(8, iv f)]) [1, 6] (fun ⟨f, _⟩ => []) [] (fun zz => c.fr.length - zz.1) ⟨0, Nat.zero_le _, by rfl⟩ ?_ ?_
  · exact Imp.auto hX (by simp [go_sem, simprocAttr])
  rintro ⟨f, hif, hwf⟩
  simp only [go_sem, simprocAttr]
  repeat' (first | (with_reducible first | refine V_seq ?_ | refine V_block ?_ | refine V_skip ?_ | refine V_ret ?_ | refine V_exit ?_) | ((with_reducible refine V_cond ?_); simp only [go_sem, simprocAttr]) | ((first | refine V_region (by rw [hn]; rfl) ?_ | refine V_drawn hmix (by rw [hn]; rfl) ?_); intro K hK) | ((first | with_reducible refine evOps_n ?_ | ((with_reducible apply evOps_g); rfl) | with_reducible refine evOpsD_n ?_ | ((with_reducible apply evOpsD_g); rfl)); intro K hK; simp (contextual := true) only [go_sem, simprocAttr]) | with_reducible refine evOps_nil ?_ | ((with_reducible refine evOpsD_nil ?_ ?_); kernel_rfl) | ((with_reducible refine hK _ ?_); clear hK K) | (with_reducible first | refine And.intro ?_ ?_ | refine nxt_n ?_ | refine nxt_r ?_ | refine nxt_e ?_ | refine blk_n ?_ | refine blk_r ?_ | refine blk_same ?_ | refine blk_other (by decide) ?_ | refine noG_n ?_ | refine noG_r ?_ | refine noG_e ?_ | refine inR_mk ?_ ?_) | (refine fun (hc : (_ : Bool) = _) => ?_; try simp only [hcS] at hc))
  all_goals try (first | (with_reducible assumption) | ((try simp only [Cat.F, Cat.T, Cat.I, Cat.C, Fun.O, Fun.A, Cat.Entry, Int.toNat_natCast] at *); omega))
  refine V_loopK (G := {g : Nat // g ≤ c.fr.length ∧ (scan g (fun g => c.fault2g f g) = none)}) (fun ⟨g, _⟩ => [(9, iv g)]) [1, 6, 8] (fun ⟨g, _⟩ => []) [] (fun zz => c.fr.length - zz.1) ⟨0, Nat.zero_le _, by rfl⟩ ?_ ?_
  · exact Imp.auto hX (by simp [go_sem, simprocAttr])
  rintro ⟨g, hig, hwg⟩
  simp only [go_sem, simprocAttr]
  have hr1 := fun h => (s11 f h).1
  have hr2 := fun h => (s11 f h).2 g
  have hr3 := fun h => (s11 g h).1
  have hr4 := fun h => (s11 ((c.co.getD f []).getD g 0).toNat h).1
  repeat' (first | (with_reducible first | refine V_seq ?_ | refine V_block ?_ | refine V_skip ?_ | refine V_ret ?_ | refine V_exit ?_) | ((with_reducible refine V_cond ?_); simp only [go_sem, simprocAttr]) | ((first | refine V_region (by rw [hn]; rfl) ?_ | refine V_drawn hmix (by rw [hn]; rfl) ?_); intro K hK) | ((first | with_reducible refine evOps_n ?_ | ((with_reducible apply evOps_g); rfl) | with_reducible refine evOpsD_n ?_ | ((with_reducible apply evOpsD_g); rfl)); intro K hK; simp (contextual := true) only [go_sem, simprocAttr]) | with_reducible refine evOps_nil ?_ | ((with_reducible refine evOpsD_nil ?_ ?_); kernel_rfl) | ((with_reducible refine hK _ ?_); clear hK K) | (with_reducible first | refine And.intro ?_ ?_ | refine nxt_n ?_ | refine nxt_r ?_ | refine nxt_e ?_ | refine blk_n ?_ | refine blk_r ?_ | refine blk_same ?_ | refine blk_other (by decide) ?_ | refine noG_n ?_ | refine noG_r ?_ | refine noG_e ?_ | refine inR_mk ?_ ?_) | (refine fun (hc : (_ : Bool) = _) => ?_; try simp only [hcS] at hc))
  all_goals try (first | (with_reducible assumption) | ((try simp only [Cat.F, Cat.T, Cat.I, Cat.C, Fun.O, Fun.A, Cat.Entry, Int.toNat_natCast] at *); omega))
  · refine ⟨⟨g + 1, by omega, (by exact scan_next hwg (Cat.fault2g_f (by ((try simp only [Cat.F, Cat.T, Cat.I, Cat.C, Fun.O, Fun.A, Cat.Entry, Int.toNat_natCast] at *); omega))))⟩, by simp only; omega, Imp.auto hX (by simp only [go_sem, simprocAttr])⟩
  have hn0 : ¬ c.C f g < 0 := by ((try simp only [Cat.F, Cat.T, Cat.I, Cat.C, Fun.O, Fun.A, Cat.Entry, Int.toNat_natCast] at *); omega)
  refine V_loopK (G := {h : Nat // h ≤ c.fr.length ∧ (scan h (fun h => c.fault2 f g h) = none)}) (fun ⟨h, _⟩ => [(10, iv h)]) [1, 6, 8, 9] (fun ⟨h, _⟩ => []) [] (fun zz => c.fr.length - zz.1) ⟨0, Nat.zero_le _, by rfl⟩ ?_ ?_
  · exact Imp.auto hX (by simp [go_sem, simprocAttr])
  rintro ⟨h, hih, hwh⟩
  simp only [go_sem, simprocAttr]
  have hr5 := fun q => (s11 g q).2 h
  repeat' (first | (with_reducible first | refine V_seq ?_ | refine V_block ?_ | refine V_skip ?_ | refine V_ret ?_ | refine V_exit ?_) | ((with_reducible refine V_cond ?_); simp only [go_sem, simprocAttr]) | ((first | refine V_region (by rw [hn]; rfl) ?_ | refine V_drawn hmix (by rw [hn]; rfl) ?_); intro K hK) | ((first | with_reducible refine evOps_n ?_ | ((with_reducible apply evOps_g); rfl) | with_reducible refine evOpsD_n ?_ | ((with_reducible apply evOpsD_g); rfl)); intro K hK; simp (contextual := true) only [go_sem, simprocAttr]) | with_reducible refine evOps_nil ?_ | ((with_reducible refine evOpsD_nil ?_ ?_); kernel_rfl) | ((with_reducible refine hK _ ?_); clear hK K) | (with_reducible first | refine And.intro ?_ ?_ | refine nxt_n ?_ | refine nxt_r ?_ | refine nxt_e ?_ | refine blk_n ?_ | refine blk_r ?_ | refine blk_same ?_ | refine blk_other (by decide) ?_ | refine noG_n ?_ | refine noG_r ?_ | refine noG_e ?_ | refine inR_mk ?_ ?_) | (refine fun (hc : (_ : Bool) = _) => ?_; try simp only [hcS] at hc))
  all_goals try (first | (with_reducible assumption) | ((try simp only [Cat.F, Cat.T, Cat.I, Cat.C, Fun.O, Fun.A, Cat.Entry, Int.toNat_natCast] at *); omega))
  · (first | refine ret_auto ?_ | refine ret_auto' ?_); simp only [go_sem, simprocAttr, Tryz.f117]
    rw [Cat.fault_2 h1 hwf (by omega) hwg (by omega) hn0 hwh (by omega) (Cat.fault2_t (by ((try simp only [Cat.F, Cat.T, Cat.I, Cat.C, Fun.O, Fun.A, Cat.Entry, Int.toNat_natCast] at *); omega)) hc)]
  · refine ⟨⟨h + 1, by omega, (by exact scan_next hwh (Cat.fault2_f fun _ => hc))⟩, by simp only; omega, Imp.auto hX (by simp only [go_sem, simprocAttr])⟩
  · refine ⟨⟨h + 1, by omega, (by exact scan_next hwh (Cat.fault2_f fun _ => by ((try simp only [Cat.F, Cat.T, Cat.I, Cat.C, Fun.O, Fun.A, Cat.Entry, Int.toNat_natCast] at *); omega)))⟩, by simp only; omega, Imp.auto hX (by simp only [go_sem, simprocAttr])⟩
  · refine ⟨⟨g + 1, by omega, (by exact scan_next hwg (by rw [Cat.fault2g_t hn0]; exact scan_end hwh hih (by omega)))⟩, by simp only; omega, Imp.auto hX (by simp only [go_sem, simprocAttr])⟩
  · refine ⟨⟨f + 1, by omega, (by exact scan_next hwf (scan_end hwg hig (by omega)))⟩, by simp only; omega, Imp.auto hX (by simp only [go_sem, simprocAttr])⟩
  · (first | refine ret_auto ?_ | refine ret_auto' ?_); simp only [go_sem, simprocAttr, Tryz.f117]
    rw [Cat.fault_0 h1 (scan_end hwf hif (by omega))]
theorem cal_l02Is : Callable Tryz.prog 94 := ⟨_, Tryz.func94, rfl, rfl⟩
theorem sp_l02Is {c : Cat} (hb : CatB c) : Spec Tryz.prog 94 [catV c] [] (bv (dec (IsCat c))) [] := by
  refine spec_of_V (E := TE) 0 Tryz.func94 rfl (by simp [Tryz.f94]) fun X hn hX => ?_
  repeat' (first | (with_reducible first | refine V_seq ?_ | refine V_skip ?_ | refine V_ret ?_) | ((with_reducible refine V_cond ?_); simp only [go_sem, simprocAttr]) | ((refine V_region (by rw [hn]; rfl) ?_); intro K hK) | ((first | with_reducible refine evOps_n ?_ | ((with_reducible apply evOps_g); rfl)); intro K hK; simp (contextual := true) only [go_sem, simprocAttr]) | with_reducible refine evOps_nil ?_ | ((with_reducible refine hK _ ?_); clear hK K) | (with_reducible first | refine And.intro ?_ ?_ | refine nxt_n ?_ | refine nxt_r ?_ | refine inR_mk ?_ ?_) | ((with_reducible refine evCall_at 116 ?_); refine EvCall.rq (a := (sp_IsShape ?_)) (b := cal_IsShape) (c := ?_); all_goals try simp only [go_sem, simprocAttr]) | ((with_reducible refine evCall_at 117 ?_); refine EvCall.rq (a := (sp_l02Fault ?_)) (b := cal_l02Fault) (c := ?_); all_goals try simp only [go_sem, simprocAttr]) | (refine fun (hc : (_ : Bool) = _) => ?_; try simp only [hcS] at hc))
  all_goals try (first | (with_reducible assumption) | ((try simp only [Cat.F, Cat.T, Cat.I, Cat.C, Fun.O, Fun.A, Cat.Entry, Int.toNat_natCast] at *); omega))
  · (first | refine ret_auto ?_ | refine ret_auto' ?_); simp only [go_sem, simprocAttr, Tryz.f94]
    exact bv_f (fun s => hc s.toShape)
  · (first | refine ret_auto ?_ | refine ret_auto' ?_); simp only [go_sem, simprocAttr, Tryz.f94]
    rw [← dec_eq, dec_congr hc.fault_zero]
theorem cal_l01Same : Callable Tryz.prog 80 := ⟨_, Tryz.func80, rfl, rfl⟩
theorem sp_l01Same {a b : List Int} (ha : a.length ≤ 1048576) (hb : b.length ≤ 1048576) : Spec Tryz.prog 80 [.bor [] (ints a), .bor [] (ints b)] [] (bv (dec (a = b))) [] := by
  refine spec_of_V (E := TE) 0 Tryz.func80 rfl (by simp [Tryz.f80]) fun X hn hX => ?_
  repeat' (first | (with_reducible first | refine V_seq ?_ | refine V_block ?_ | refine V_skip ?_ | refine V_ret ?_ | refine V_exit ?_) | ((with_reducible refine V_cond ?_); simp only [go_sem, simprocAttr]) | ((first | refine V_region (by rw [hn]; rfl) ?_ | refine V_drawn hmix (by rw [hn]; rfl) ?_); intro K hK) | ((first | with_reducible refine evOps_n ?_ | ((with_reducible apply evOps_g); rfl) | with_reducible refine evOpsD_n ?_ | ((with_reducible apply evOpsD_g); rfl)); intro K hK; simp (contextual := true) only [go_sem, simprocAttr]) | with_reducible refine evOps_nil ?_ | ((with_reducible refine evOpsD_nil ?_ ?_); kernel_rfl) | ((with_reducible refine hK _ ?_); clear hK K) | (with_reducible first | refine And.intro ?_ ?_ | refine nxt_n ?_ | refine nxt_r ?_ | refine nxt_e ?_ | refine blk_n ?_ | refine blk_r ?_ | refine blk_same ?_ | refine blk_other (by decide) ?_ | refine noG_n ?_ | refine noG_r ?_ | refine noG_e ?_ | refine inR_mk ?_ ?_) | (refine fun (hc : (_ : Bool) = _) => ?_; try simp only [hcS] at hc))
  all_goals try (first | (with_reducible assumption) | ((try simp only [Cat.F, Cat.T, Cat.I, Cat.C, Fun.O, Fun.A, Cat.Entry, Int.toNat_natCast] at *); omega))
  · (first | refine ret_auto ?_ | refine ret_auto' ?_); simp only [go_sem, simprocAttr, Tryz.f80]
    exact bv_f (fun e => by subst e; omega)
  refine V_loopK (G := {i : Nat // i ≤ a.length ∧ (a.take i = b.take i)}) (fun ⟨i, _⟩ => [(5, iv i)]) [0, 1] (fun ⟨i, _⟩ => []) [] (fun zz => a.length - zz.1) ⟨0, Nat.zero_le _, by simp⟩ ?_ ?_
  · exact Imp.auto hX (by simp [go_sem, simprocAttr])
  rintro ⟨i, hii, hwi⟩
  simp only [go_sem, simprocAttr]
  repeat' (first | (with_reducible first | refine V_seq ?_ | refine V_block ?_ | refine V_skip ?_ | refine V_ret ?_ | refine V_exit ?_) | ((with_reducible refine V_cond ?_); simp only [go_sem, simprocAttr]) | ((first | refine V_region (by rw [hn]; rfl) ?_ | refine V_drawn hmix (by rw [hn]; rfl) ?_); intro K hK) | ((first | with_reducible refine evOps_n ?_ | ((with_reducible apply evOps_g); rfl) | with_reducible refine evOpsD_n ?_ | ((with_reducible apply evOpsD_g); rfl)); intro K hK; simp (contextual := true) only [go_sem, simprocAttr]) | with_reducible refine evOps_nil ?_ | ((with_reducible refine evOpsD_nil ?_ ?_); kernel_rfl) | ((with_reducible refine hK _ ?_); clear hK K) | (with_reducible first | refine And.intro ?_ ?_ | refine nxt_n ?_ | refine nxt_r ?_ | refine nxt_e ?_ | refine blk_n ?_ | refine blk_r ?_ | refine blk_same ?_ | refine blk_other (by decide) ?_ | refine noG_n ?_ | refine noG_r ?_ | refine noG_e ?_ | refine inR_mk ?_ ?_) | (refine fun (hc : (_ : Bool) = _) => ?_; try simp only [hcS] at hc))
  all_goals try (first | (with_reducible assumption) | ((try simp only [Cat.F, Cat.T, Cat.I, Cat.C, Fun.O, Fun.A, Cat.Entry, Int.toNat_natCast] at *); omega))
  · (first | refine ret_auto ?_ | refine ret_auto' ?_); simp only [go_sem, simprocAttr, Tryz.f80]
    exact bv_f (fun e => by subst e; exact hc rfl)
  · refine ⟨⟨i + 1, by omega, (by exact take_snoc hwi (by omega) (by omega) hc)⟩, by simp only; omega, Imp.auto hX (by simp only [go_sem, simprocAttr])⟩
  · (first | refine ret_auto ?_ | refine ret_auto' ?_); simp only [go_sem, simprocAttr, Tryz.f80]
    exact bv_t (take_end hwi (by omega) (by omega))
theorem cal_l01Same2 : Callable Tryz.prog 83 := ⟨_, Tryz.func83, rfl, rfl⟩
theorem sp_l01Same2 {a b : List (List Int)} (ha : a.length ≤ 1048576) (hb : b.length ≤ 1048576) (ra : ∀ i, i < a.length → (a.getD i []).length ≤ 1048576) (rb : ∀ i, i < b.length → (b.getD i []).length ≤ 1048576) : Spec Tryz.prog 83 [.bor [] (intss a), .bor [] (intss b)] [] (bv (dec (a = b))) [] := by
  refine spec_of_V (E := TE) 0 Tryz.func83 rfl (by simp [Tryz.f83]) fun X hn hX => ?_
  repeat' (first | (with_reducible first | refine V_seq ?_ | refine V_block ?_ | refine V_skip ?_ | refine V_ret ?_ | refine V_exit ?_) | ((with_reducible refine V_cond ?_); simp only [go_sem, simprocAttr]) | ((first | refine V_region (by rw [hn]; rfl) ?_ | refine V_drawn hmix (by rw [hn]; rfl) ?_); intro K hK) | ((first | with_reducible refine evOps_n ?_ | ((with_reducible apply evOps_g); rfl) | with_reducible refine evOpsD_n ?_ | ((with_reducible apply evOpsD_g); rfl)); intro K hK; simp (contextual := true) only [go_sem, simprocAttr]) | with_reducible refine evOps_nil ?_ | ((with_reducible refine evOpsD_nil ?_ ?_); kernel_rfl) | ((with_reducible refine hK _ ?_); clear hK K) | (with_reducible first | refine And.intro ?_ ?_ | refine nxt_n ?_ | refine nxt_r ?_ | refine nxt_e ?_ | refine blk_n ?_ | refine blk_r ?_ | refine blk_same ?_ | refine blk_other (by decide) ?_ | refine noG_n ?_ | refine noG_r ?_ | refine noG_e ?_ | refine inR_mk ?_ ?_) | (refine fun (hc : (_ : Bool) = _) => ?_; try simp only [hcS] at hc))
  all_goals try (first | (with_reducible assumption) | ((try simp only [Cat.F, Cat.T, Cat.I, Cat.C, Fun.O, Fun.A, Cat.Entry, Int.toNat_natCast] at *); omega))
  · (first | refine ret_auto ?_ | refine ret_auto' ?_); simp only [go_sem, simprocAttr, Tryz.f83]
    exact bv_f (fun e => by subst e; omega)
  refine V_loopK (G := {i : Nat // i ≤ a.length ∧ (a.take i = b.take i)}) (fun ⟨i, _⟩ => [(5, iv i)]) [0, 1] (fun ⟨i, _⟩ => []) [] (fun zz => a.length - zz.1) ⟨0, Nat.zero_le _, by simp⟩ ?_ ?_
  · exact Imp.auto hX (by simp [go_sem, simprocAttr])
  rintro ⟨i, hii, hwi⟩
  simp only [go_sem, simprocAttr]
  have h1 := ra i
  have h2 := rb i
  repeat' (first | (with_reducible first | refine V_seq ?_ | refine V_block ?_ | refine V_skip ?_ | refine V_ret ?_ | refine V_exit ?_) | ((with_reducible refine V_cond ?_); simp only [go_sem, simprocAttr]) | ((first | refine V_region (by rw [hn]; rfl) ?_ | refine V_drawn hmix (by rw [hn]; rfl) ?_); intro K hK) | ((first | with_reducible refine evOps_n ?_ | ((with_reducible apply evOps_g); rfl) | with_reducible refine evOpsD_n ?_ | ((with_reducible apply evOpsD_g); rfl)); intro K hK; simp (contextual := true) only [go_sem, simprocAttr]) | with_reducible refine evOps_nil ?_ | ((with_reducible refine evOpsD_nil ?_ ?_); kernel_rfl) | ((with_reducible refine hK _ ?_); clear hK K) | (with_reducible first | refine And.intro ?_ ?_ | refine nxt_n ?_ | refine nxt_r ?_ | refine nxt_e ?_ | refine blk_n ?_ | refine blk_r ?_ | refine blk_same ?_ | refine blk_other (by decide) ?_ | refine noG_n ?_ | refine noG_r ?_ | refine noG_e ?_ | refine inR_mk ?_ ?_) | ((with_reducible refine evCall_at 80 ?_); refine EvCall.rq (a := (sp_l01Same ?_ ?_)) (b := cal_l01Same) (c := ?_); all_goals try simp only [go_sem, simprocAttr]) | (refine fun (hc : (_ : Bool) = _) => ?_; try simp only [hcS] at hc))
  all_goals try (first | (with_reducible assumption) | ((try simp only [Cat.F, Cat.T, Cat.I, Cat.C, Fun.O, Fun.A, Cat.Entry, Int.toNat_natCast] at *); omega))
  · (first | refine ret_auto ?_ | refine ret_auto' ?_); simp only [go_sem, simprocAttr, Tryz.f83]
    exact bv_f (fun e => by subst e; exact hc rfl)
  · refine ⟨⟨i + 1, by omega, (by exact take_snoc hwi (by omega) (by omega) hc)⟩, by simp only; omega, Imp.auto hX (by simp only [go_sem, simprocAttr])⟩
  · (first | refine ret_auto ?_ | refine ret_auto' ?_); simp only [go_sem, simprocAttr, Tryz.f83]
    exact bv_t (take_end hwi (by omega) (by omega))
theorem cal_l02Same : Callable Tryz.prog 76 := ⟨_, Tryz.func76, rfl, rfl⟩
theorem sp_l02Same {a b : Cat} (ha : CatB a) (hb : CatB b) : Spec Tryz.prog 76 [catV a, catV b] [] (bv (dec (a = b))) [] := by
  refine spec_of_V (E := TE) 0 Tryz.func76 rfl (by simp [Tryz.f76]) fun X hn hX => ?_
  obtain ⟨a1, a2, a3, a4, a5, a6, a7⟩ := ha
  obtain ⟨b1, b2, b3, b4, b5, b6, b7⟩ := hb
  repeat' (first | (with_reducible first | refine V_seq ?_ | refine V_skip ?_ | refine V_ret ?_) | ((with_reducible refine V_cond ?_); simp only [go_sem, simprocAttr]) | ((refine V_region (by rw [hn]; rfl) ?_); intro K hK) | ((first | with_reducible refine evOps_n ?_ | ((with_reducible apply evOps_g); rfl)); intro K hK; simp (contextual := true) only [go_sem, simprocAttr]) | with_reducible refine evOps_nil ?_ | ((with_reducible refine hK _ ?_); clear hK K) | (with_reducible first | refine And.intro ?_ ?_ | refine nxt_n ?_ | refine nxt_r ?_ | refine inR_mk ?_ ?_) | ((with_reducible refine evCall_at 80 ?_); refine EvCall.rq (a := (sp_l01Same ?_ ?_)) (b := cal_l01Same) (c := ?_); all_goals try simp only [go_sem, simprocAttr]) | ((with_reducible refine evCall_at 83 ?_); refine EvCall.rq (a := (sp_l01Same2 ?_ ?_ ?_ ?_)) (b := cal_l01Same2) (c := ?_); all_goals try simp only [go_sem, simprocAttr]) | (refine fun (hc : (_ : Bool) = _) => ?_; try simp only [hcS] at hc))
  all_goals try (first | (with_reducible assumption) | ((try simp only [Cat.F, Cat.T, Cat.I, Cat.C, Fun.O, Fun.A, Cat.Entry, Int.toNat_natCast] at *); omega))
  · (first | refine ret_auto ?_ | refine ret_auto' ?_); simp only [go_sem, simprocAttr, Tryz.f76]
    exact congrArg (fun b => Sv.v (.bool b)) (dec_congr ⟨fun h => Cat.eq (by assumption) (by assumption) (by assumption) hc h, fun e => by rw [e]⟩)
  all_goals ((first | refine ret_auto ?_ | refine ret_auto' ?_); simp only [go_sem, simprocAttr, Tryz.f76]; exact bv_f (fun e => hc (by rw [e])))
end Go.Eng
end
section
namespace Go.Eng
open Go Go.Proofs Go.Cats
theorem cal_l19Shape : Callable Tryz.prog 105 := ⟨_, Tryz.func105, rfl, rfl⟩
theorem sp_l19Shape {f : SF} (hb : SFB f) : Spec Tryz.prog 105 [sfV f] [] (bv (dec (SFShape f))) [] := by
  refine spec_of_V (E := TE) 0 Tryz.func105 rfl (by simp [Tryz.f105]) fun X hn hX => ?_
  obtain ⟨b1, b2, b3, b4⟩ := hb
  repeat' (first | (with_reducible first | refine V_seq ?_ | refine V_block ?_ | refine V_skip ?_ | refine V_ret ?_ | refine V_exit ?_) | ((with_reducible refine V_cond ?_); simp only [go_sem, simprocAttr]) | ((first | refine V_region (by rw [hn]; rfl) ?_ | refine V_drawn hmix (by rw [hn]; rfl) ?_); intro K hK) | ((first | with_reducible refine evOps_n ?_ | ((with_reducible apply evOps_g); rfl) | with_reducible refine evOpsD_n ?_ | ((with_reducible apply evOpsD_g); rfl)); intro K hK; simp (contextual := true) only [go_sem, simprocAttr]) | with_reducible refine evOps_nil ?_ | ((with_reducible refine evOpsD_nil ?_ ?_); kernel_rfl) | ((with_reducible refine hK _ ?_); clear hK K) | (with_reducible first | refine And.intro ?_ ?_ | refine nxt_n ?_ | refine nxt_r ?_ | refine nxt_e ?_ | refine blk_n ?_ | refine blk_r ?_ | refine blk_same ?_ | refine blk_other (by decide) ?_ | refine noG_n ?_ | refine noG_r ?_ | refine noG_e ?_ | refine inR_mk ?_ ?_) | ((with_reducible refine evCall_at 94 ?_); refine EvCall.rq (a := (sp_l02Is ?_)) (b := cal_l02Is) (c := ?_); all_goals try simp only [go_sem, simprocAttr]) | (refine fun (hc : (_ : Bool) = _) => ?_; try simp only [hcS] at hc))
  all_goals try (first | (with_reducible assumption) | ((try simp only [Cat.F, Cat.T, Cat.I, Cat.C, Fun.O, Fun.A, Cat.Entry, Int.toNat_natCast] at *); omega))
  all_goals try ((first | refine ret_auto ?_ | refine ret_auto' ?_); simp only [go_sem, simprocAttr, Tryz.f105]; exact bv_f (fun s => by obtain ⟨s1, s2, s3, s4, s5⟩ := s; first | omega | contradiction))
  have hC : IsCat f.shape := by assumption
  obtain ⟨s1, s2, s3, s4, s5, s6, s7, s8, s9, s10, s11⟩ := hC.toShape
  refine V_loopK (G := {i : Nat // i ≤ f.sizes.length ∧ (∀ a, a < i → 0 ≤ f.sizes.getD a 0 ∧ f.sizes.getD a 0 < 17)}) (fun ⟨i, _⟩ => [(3, iv i)]) [1] (fun ⟨i, _⟩ => []) [] (fun zz => f.sizes.length - zz.1) ⟨0, Nat.zero_le _, by omega⟩ ?_ ?_
  · exact Imp.auto hX (by simp [go_sem, simprocAttr])
  rintro ⟨i, hii, hwi⟩
  simp only [go_sem, simprocAttr]
  repeat' (first | (with_reducible first | refine V_seq ?_ | refine V_block ?_ | refine V_skip ?_ | refine V_ret ?_ | refine V_exit ?_) | ((with_reducible refine V_cond ?_); simp only [go_sem, simprocAttr]) | ((first | refine V_region (by rw [hn]; rfl) ?_ | refine V_drawn hmix (by rw [hn]; rfl) ?_); intro K hK) | ((first | with_reducible refine evOps_n ?_ | ((with_reducible apply evOps_g); rfl) | with_reducible refine evOpsD_n ?_ | ((with_reducible apply evOpsD_g); rfl)); intro K hK; simp (contextual := true) only [go_sem, simprocAttr]) | with_reducible refine evOps_nil ?_ | ((with_reducible refine evOpsD_nil ?_ ?_); kernel_rfl) | ((with_reducible refine hK _ ?_); clear hK K) | (with_reducible first | refine And.intro ?_ ?_ | refine nxt_n ?_ | refine nxt_r ?_ | refine nxt_e ?_ | refine blk_n ?_ | refine blk_r ?_ | refine blk_same ?_ | refine blk_other (by decide) ?_ | refine noG_n ?_ | refine noG_r ?_ | refine noG_e ?_ | refine inR_mk ?_ ?_) | ((with_reducible refine evCall_at 122 ?_); refine EvCall.rq (a := (sp_l01In)) (b := cal_l01In) (c := ?_); all_goals try simp only [go_sem, simprocAttr]) | (refine fun (hc : (_ : Bool) = _) => ?_; try simp only [hcS] at hc))
  all_goals try (first | (with_reducible assumption) | ((try simp only [Cat.F, Cat.T, Cat.I, Cat.C, Fun.O, Fun.A, Cat.Entry, Int.toNat_natCast] at *); omega))
  · (first | refine ret_auto ?_ | refine ret_auto' ?_); simp only [go_sem, simprocAttr, Tryz.f105]
    exact bv_f (fun s => by have := s.szw i (by omega); omega)
  · refine ⟨⟨i + 1, by omega, (by exact all_succ hwi (by omega))⟩, by simp only; omega, Imp.auto hX (by simp only [go_sem, simprocAttr])⟩
  have hS : Within f.sizes 17 := fun a ha => hwi a (by omega)
  clear hwi
  refine V_loopK (G := {i : Nat // i ≤ f.acts.length ∧ (∀ a, a < i → ((f.acts.getD a []).length : Int) = f.sizes.getD (f.shape.fr.getD a 0).toNat 0 ∧ Within (f.acts.getD a []) (f.sizes.getD (f.shape.to.getD a 0).toNat 0))}) (fun ⟨i, _⟩ => [(4, iv i)]) [1] (fun ⟨i, _⟩ => []) [] (fun zz => f.acts.length - zz.1) ⟨0, Nat.zero_le _, by omega⟩ ?_ ?_
  · exact Imp.auto hX (by simp [go_sem, simprocAttr])
  rintro ⟨i, hii, hwi⟩
  simp only [go_sem, simprocAttr]
  have h1 := s5 i
  have h2 := s6 i
  have h4 := b4 i
  repeat' (first | (with_reducible first | refine V_seq ?_ | refine V_block ?_ | refine V_skip ?_ | refine V_ret ?_ | refine V_exit ?_) | ((with_reducible refine V_cond ?_); simp only [go_sem, simprocAttr]) | ((first | refine V_region (by rw [hn]; rfl) ?_ | refine V_drawn hmix (by rw [hn]; rfl) ?_); intro K hK) | ((first | with_reducible refine evOps_n ?_ | ((with_reducible apply evOps_g); rfl) | with_reducible refine evOpsD_n ?_ | ((with_reducible apply evOpsD_g); rfl)); intro K hK; simp (contextual := true) only [go_sem, simprocAttr]) | with_reducible refine evOps_nil ?_ | ((with_reducible refine evOpsD_nil ?_ ?_); kernel_rfl) | ((with_reducible refine hK _ ?_); clear hK K) | (with_reducible first | refine And.intro ?_ ?_ | refine nxt_n ?_ | refine nxt_r ?_ | refine nxt_e ?_ | refine blk_n ?_ | refine blk_r ?_ | refine blk_same ?_ | refine blk_other (by decide) ?_ | refine noG_n ?_ | refine noG_r ?_ | refine noG_e ?_ | refine inR_mk ?_ ?_) | ((with_reducible refine evCall_at 95 ?_); refine EvCall.rq (a := (sp_l01Map ?_)) (b := cal_l01Map) (c := ?_); all_goals try simp only [go_sem, simprocAttr]) | (refine fun (hc : (_ : Bool) = _) => ?_; try simp only [hcS] at hc))
  all_goals try (first | (with_reducible assumption) | ((try simp only [Cat.F, Cat.T, Cat.I, Cat.C, Fun.O, Fun.A, Cat.Entry, Int.toNat_natCast] at *); omega))
  all_goals try ((first | refine ret_auto ?_ | refine ret_auto' ?_); simp only [go_sem, simprocAttr, Tryz.f105]; exact bv_f (fun s => by have := s.act i (by omega); first | omega | exact hc this.2))
  · refine ⟨⟨i + 1, by omega, (by exact all_succ hwi ⟨by assumption, hc⟩)⟩, by simp only; omega, Imp.auto hX (by simp only [go_sem, simprocAttr])⟩
  · (first | refine ret_auto ?_ | refine ret_auto' ?_); simp only [go_sem, simprocAttr, Tryz.f105]
    exact bv_t ⟨hC, by assumption, hS, by omega, fun a ha => hwi a (by omega)⟩
theorem cal_l19Fault : Callable Tryz.prog 106 := ⟨_, Tryz.func106, rfl, rfl⟩
theorem sp_l19Fault {f : SF} (s : SFShape f) : Spec Tryz.prog 106 [sfV f] [] (.tup [iv f.fault.1, iv f.fault.2.1, iv f.fault.2.2.1, iv f.fault.2.2.2]) [] := by
  refine spec_of_V (E := TE) 0 Tryz.func106 rfl (by simp [Tryz.f106]) fun X hn hX => ?_
  obtain ⟨hC, hz1, hS, hz2, hA⟩ := s
  obtain ⟨s1, s2, s3, s4, s5, s6, s7, s8, s9, s10, s11⟩ := hC.toShape
  have hid : ∀ x, x < f.shape.id.length → ((f.acts.getD (f.shape.id.getD x 0).toNat []).length : Int) = f.sizes.getD x 0 := fun x hx => by
    have h1 := s8 x hx
    have h2 := (hA (f.shape.id.getD x 0).toNat (by omega)).1
    have h3 := (s10 x hx).1
    simp only [Cat.F] at h3
    rw [h3] at h2
    simpa using h2
  repeat' (first | (with_reducible first | refine V_seq ?_ | refine V_block ?_ | refine V_skip ?_ | refine V_ret ?_ | refine V_exit ?_) | ((with_reducible refine V_cond ?_); simp only [go_sem, simprocAttr]) | ((first | refine V_region (by rw [hn]; rfl) ?_ | refine V_drawn hmix (by rw [hn]; rfl) ?_); intro K hK) | ((first | with_reducible refine evOps_n ?_ | ((with_reducible apply evOps_g); rfl) | with_reducible refine evOpsD_n ?_ | ((with_reducible apply evOpsD_g); rfl)); intro K hK; simp (contextual := true) only [go_sem, simprocAttr]) | with_reducible refine evOps_nil ?_ | ((with_reducible refine evOpsD_nil ?_ ?_); kernel_rfl) | ((with_reducible refine hK _ ?_); clear hK K) | (with_reducible first | refine And.intro ?_ ?_ | refine nxt_n ?_ | refine nxt_r ?_ | refine nxt_e ?_ | refine blk_n ?_ | refine blk_r ?_ | refine blk_same ?_ | refine blk_other (by decide) ?_ | refine noG_n ?_ | refine noG_r ?_ | refine noG_e ?_ | refine inR_mk ?_ ?_) | (refine fun (hc : (_ : Bool) = _) => ?_; try simp only [hcS] at hc))
  all_goals try (first | (with_reducible assumption) | ((try simp only [Cat.F, Cat.T, Cat.I, Cat.C, Fun.O, Fun.A, Cat.Entry, Int.toNat_natCast] at *); omega))
  refine V_loopK (G := {x : Nat // x ≤ f.shape.id.length ∧ (scan x f.fault1x = none)}) (fun ⟨x, _⟩ => [(7, iv x)]) [1, 6] (fun ⟨x, _⟩ => []) [] (fun zz => f.shape.id.length - zz.1) ⟨0, Nat.zero_le _, by rfl⟩ ?_ ?_
  · exact Imp.auto hX (by simp [go_sem, simprocAttr])
  rintro ⟨x, hix, hwx⟩
  simp only [go_sem, simprocAttr]
  have h1 := s8 x
  have h2 := hid x
  have h3 := hS x
  repeat' (first | (with_reducible first | refine V_seq ?_ | refine V_block ?_ | refine V_skip ?_ | refine V_ret ?_ | refine V_exit ?_) | ((with_reducible refine V_cond ?_); simp only [go_sem, simprocAttr]) | ((first | refine V_region (by rw [hn]; rfl) ?_ | refine V_drawn hmix (by rw [hn]; rfl) ?_); intro K hK) | ((first | with_reducible refine evOps_n ?_ | ((with_reducible apply evOps_g); rfl) | with_reducible refine evOpsD_n ?_ | ((with_reducible apply evOpsD_g); rfl)); intro K hK; simp (contextual := true) only [go_sem, simprocAttr]) | with_reducible refine evOps_nil ?_ | ((with_reducible refine evOpsD_nil ?_ ?_); kernel_rfl) | ((with_reducible refine hK _ ?_); clear hK K) | (with_reducible first | refine And.intro ?_ ?_ | refine nxt_n ?_ | refine nxt_r ?_ | refine nxt_e ?_ | refine blk_n ?_ | refine blk_r ?_ | refine blk_same ?_ | refine blk_other (by decide) ?_ | refine noG_n ?_ | refine noG_r ?_ | refine noG_e ?_ | refine inR_mk ?_ ?_) | (refine fun (hc : (_ : Bool) = _) => ?_; try simp only [hcS] at hc))
  all_goals try (first | (with_reducible assumption) | ((try simp only [Cat.F, Cat.T, Cat.I, Cat.C, Fun.O, Fun.A, Cat.Entry, Int.toNat_natCast] at *); omega))
  refine V_loopK (G := {e : Nat // e ≤ (f.acts.getD (f.shape.id.getD x 0).toNat []).length ∧ ((scan e fun e => f.fault1 x e) = none)}) (fun ⟨e, _⟩ => [(8, iv e)]) [1, 6, 7] (fun ⟨e, _⟩ => []) [] (fun zz => (f.acts.getD (f.shape.id.getD x 0).toNat []).length - zz.1) ⟨0, Nat.zero_le _, by rfl⟩ ?_ ?_
  · exact Imp.auto hX (by simp [go_sem, simprocAttr])
  rintro ⟨e, hie, hwe⟩
  simp only [go_sem, simprocAttr]
  repeat' (first | (with_reducible first | refine V_seq ?_ | refine V_block ?_ | refine V_skip ?_ | refine V_ret ?_ | refine V_exit ?_) | ((with_reducible refine V_cond ?_); simp only [go_sem, simprocAttr]) | ((first | refine V_region (by rw [hn]; rfl) ?_ | refine V_drawn hmix (by rw [hn]; rfl) ?_); intro K hK) | ((first | with_reducible refine evOps_n ?_ | ((with_reducible apply evOps_g); rfl) | with_reducible refine evOpsD_n ?_ | ((with_reducible apply evOpsD_g); rfl)); intro K hK; simp (contextual := true) only [go_sem, simprocAttr]) | with_reducible refine evOps_nil ?_ | ((with_reducible refine evOpsD_nil ?_ ?_); kernel_rfl) | ((with_reducible refine hK _ ?_); clear hK K) | (with_reducible first | refine And.intro ?_ ?_ | refine nxt_n ?_ | refine nxt_r ?_ | refine nxt_e ?_ | refine blk_n ?_ | refine blk_r ?_ | refine blk_same ?_ | refine blk_other (by decide) ?_ | refine noG_n ?_ | refine noG_r ?_ | refine noG_e ?_ | refine inR_mk ?_ ?_) | (refine fun (hc : (_ : Bool) = _) => ?_; try simp only [hcS] at hc))
  all_goals try (first | (with_reducible assumption) | ((try simp only [Cat.F, Cat.T, Cat.I, Cat.C, Fun.O, Fun.A, Cat.Entry, Int.toNat_natCast] at *); omega))
  · (first | refine ret_auto ?_ | refine ret_auto' ?_); simp only [go_sem, simprocAttr, Tryz.f106]
    rw [SF.fault_1 hwx (by omega) hwe (by omega) (SF.fault1_t hc)]
  · refine ⟨⟨e + 1, by omega, (by exact scan_next hwe (SF.fault1_f (by omega)))⟩, by simp only; omega, Imp.auto hX (by simp only [go_sem, simprocAttr])⟩
  · refine ⟨⟨x + 1, by omega, (by exact scan_next hwx (scan_end hwe hie (by omega)))⟩, by simp only; omega, Imp.auto hX (by simp only [go_sem, simprocAttr])⟩
  have h0 : scan f.shape.id.length f.fault1x = none := scan_end hwx hix (by omega)
  clear hwx h1 h2 h3
  refine V_loopK (G := {a : Nat // a ≤ f.shape.co.length ∧ (scan a f.fault2a = none)}) (fun ⟨a, _⟩ => [(9, iv a)]) [1, 6] (fun ⟨a, _⟩ => []) [] (fun zz => f.shape.co.length - zz.1) ⟨0, Nat.zero_le _, by rfl⟩ ?_ ?_
  · exact Imp.auto hX (by simp [go_sem, simprocAttr])
  rintro ⟨a, hia, hwa⟩
  simp only [go_sem, simprocAttr]
  have h1 := fun h => (s11 a h).1
  have h3 := fun h => (hA a h).1
  have h4 := s6 a
  have h5 := s5 a
  repeat' (first | (with_reducible first | refine V_seq ?_ | refine V_block ?_ | refine V_skip ?_ | refine V_ret ?_ | refine V_exit ?_) | ((with_reducible refine V_cond ?_); simp only [go_sem, simprocAttr]) | ((first | refine V_region (by rw [hn]; rfl) ?_ | refine V_drawn hmix (by rw [hn]; rfl) ?_); intro K hK) | ((first | with_reducible refine evOps_n ?_ | ((with_reducible apply evOps_g); rfl) | with_reducible refine evOpsD_n ?_ | ((with_reducible apply evOpsD_g); rfl)); intro K hK; simp (contextual := true) only [go_sem, simprocAttr]) | with_reducible refine evOps_nil ?_ | ((with_reducible refine evOpsD_nil ?_ ?_); kernel_rfl) | ((with_reducible refine hK _ ?_); clear hK K) | (with_reducible first | refine And.intro ?_ ?_ | refine nxt_n ?_ | refine nxt_r ?_ | refine nxt_e ?_ | refine blk_n ?_ | refine blk_r ?_ | refine blk_same ?_ | refine blk_other (by decide) ?_ | refine noG_n ?_ | refine noG_r ?_ | refine noG_e ?_ | refine inR_mk ?_ ?_) | (refine fun (hc : (_ : Bool) = _) => ?_; try simp only [hcS] at hc))
  all_goals try (first | (with_reducible assumption) | ((try simp only [Cat.F, Cat.T, Cat.I, Cat.C, Fun.O, Fun.A, Cat.Entry, Int.toNat_natCast] at *); omega))
  have h1 := h1 (by omega)
  refine V_loopK (G := {b : Nat // b ≤ (f.shape.co.getD a []).length ∧ ((scan b fun b => f.fault2b a b) = none)}) (fun ⟨b, _⟩ => [(10, iv b)]) [1, 6, 9] (fun ⟨b, _⟩ => []) [] (fun zz => (f.shape.co.getD a []).length - zz.1) ⟨0, Nat.zero_le _, by rfl⟩ ?_ ?_
  · exact Imp.auto hX (by simp [go_sem, simprocAttr])
  rintro ⟨b, hib, hwb⟩
  simp only [go_sem, simprocAttr]
  have g1 := fun h => (s11 a h).2 b
  have g2 := s5 b
  repeat' (first | (with_reducible first | refine V_seq ?_ | refine V_block ?_ | refine V_skip ?_ | refine V_ret ?_ | refine V_exit ?_) | ((with_reducible refine V_cond ?_); simp only [go_sem, simprocAttr]) | ((first | refine V_region (by rw [hn]; rfl) ?_ | refine V_drawn hmix (by rw [hn]; rfl) ?_); intro K hK) | ((first | with_reducible refine evOps_n ?_ | ((with_reducible apply evOps_g); rfl) | with_reducible refine evOpsD_n ?_ | ((with_reducible apply evOpsD_g); rfl)); intro K hK; simp (contextual := true) only [go_sem, simprocAttr]) | with_reducible refine evOps_nil ?_ | ((with_reducible refine evOpsD_nil ?_ ?_); kernel_rfl) | ((with_reducible refine hK _ ?_); clear hK K) | (with_reducible first | refine And.intro ?_ ?_ | refine nxt_n ?_ | refine nxt_r ?_ | refine nxt_e ?_ | refine blk_n ?_ | refine blk_r ?_ | refine blk_same ?_ | refine blk_other (by decide) ?_ | refine noG_n ?_ | refine noG_r ?_ | refine noG_e ?_ | refine inR_mk ?_ ?_) | (refine fun (hc : (_ : Bool) = _) => ?_; try simp only [hcS] at hc))
  all_goals try (first | (with_reducible assumption) | ((try simp only [Cat.F, Cat.T, Cat.I, Cat.C, Fun.O, Fun.A, Cat.Entry, Int.toNat_natCast] at *); omega))
  · refine ⟨⟨b + 1, by omega, (by exact scan_next hwb (SF.fault2b_f (by have := g1 (by omega) (by omega); ((try simp only [Cat.F, Cat.T, Cat.I, Cat.C, Fun.O, Fun.A, Cat.Entry, Int.toNat_natCast] at *); omega))))⟩, by simp only; omega, Imp.auto hX (by simp only [go_sem, simprocAttr])⟩
  have hb2 : a < f.shape.fr.length := by omega
  have hb3 : b < f.shape.fr.length := by omega
  have hE := g1 hb2 hb3
  simp only [Cat.Entry, Cat.F, Cat.T, Cat.C, Int.toNat_natCast] at hE
  have hb1 : 0 ≤ (f.shape.co.getD a []).getD b 0 := by omega
  have k1 := hA ((f.shape.co.getD a []).getD b 0).toNat (by omega)
  have k2 := hA b (by omega)
  have k3 := hA a (by omega)
  have k4 : (f.acts.getD ((f.shape.co.getD a []).getD b 0).toNat []).length = (f.acts.getD a []).length := by
    rcases hE with ⟨_, q1, q2, _⟩ | ⟨_, q⟩
    · rw [q2] at k1; omega
    · omega
  clear g1 g2 k1
  have k6 := hS (f.shape.fr.getD a 0).toNat (by omega)
  refine V_loopK (G := {e : Nat // e ≤ (f.acts.getD a []).length ∧ ((scan e fun e => f.fault2 a b e) = none)}) (fun ⟨e, _⟩ => [(11, iv e)]) [1, 6, 9, 10] (fun ⟨e, _⟩ => []) [] (fun zz => (f.acts.getD a []).length - zz.1) ⟨0, Nat.zero_le _, by rfl⟩ ?_ ?_
  · exact Imp.auto hX (by simp [go_sem, simprocAttr])
  rintro ⟨e, hie, hwe⟩
  simp only [go_sem, simprocAttr]
  have m1 := k3.2 e
  rw [show f.shape.to.getD a 0 = f.shape.fr.getD b 0 by assumption] at m1
  have m2 := k2.1
  repeat' (first | (with_reducible first | refine V_seq ?_ | refine V_block ?_ | refine V_skip ?_ | refine V_ret ?_ | refine V_exit ?_) | ((with_reducible refine V_cond ?_); simp only [go_sem, simprocAttr]) | ((first | refine V_region (by rw [hn]; rfl) ?_ | refine V_drawn hmix (by rw [hn]; rfl) ?_); intro K hK) | ((first | with_reducible refine evOps_n ?_ | ((with_reducible apply evOps_g); rfl) | with_reducible refine evOpsD_n ?_ | ((with_reducible apply evOpsD_g); rfl)); intro K hK; simp (contextual := true) only [go_sem, simprocAttr]) | with_reducible refine evOps_nil ?_ | ((with_reducible refine evOpsD_nil ?_ ?_); kernel_rfl) | ((with_reducible refine hK _ ?_); clear hK K) | (with_reducible first | refine And.intro ?_ ?_ | refine nxt_n ?_ | refine nxt_r ?_ | refine nxt_e ?_ | refine blk_n ?_ | refine blk_r ?_ | refine blk_same ?_ | refine blk_other (by decide) ?_ | refine noG_n ?_ | refine noG_r ?_ | refine noG_e ?_ | refine inR_mk ?_ ?_) | (refine fun (hc : (_ : Bool) = _) => ?_; try simp only [hcS] at hc))
  all_goals try (first | (with_reducible assumption) | ((try simp only [Cat.F, Cat.T, Cat.I, Cat.C, Fun.O, Fun.A, Cat.Entry, Int.toNat_natCast] at *); omega))
  · (first | refine ret_auto ?_ | refine ret_auto' ?_); simp only [go_sem, simprocAttr, Tryz.f106]
    rw [SF.fault_2 h0 hwa (by omega) hwb (by omega) (by omega) hwe (by omega) (SF.fault2_t hc)]
  · refine ⟨⟨e + 1, by omega, (by exact scan_next hwe (SF.fault2_f hc))⟩, by simp only; omega, Imp.auto hX (by simp only [go_sem, simprocAttr])⟩
  · refine ⟨⟨b + 1, by omega, (by exact scan_next hwb (by rw [SF.fault2b_t (by omega)]; exact scan_end hwe hie (by omega)))⟩, by simp only; omega, Imp.auto hX (by simp only [go_sem, simprocAttr])⟩
  · refine ⟨⟨a + 1, by omega, (by exact scan_next hwa (scan_end hwb hib (by omega)))⟩, by simp only; omega, Imp.auto hX (by simp only [go_sem, simprocAttr])⟩
  · (first | refine ret_auto ?_ | refine ret_auto' ?_); simp only [go_sem, simprocAttr, Tryz.f106]
    rw [SF.fault_0 h0 (scan_end hwa hia (by omega))]
theorem cal_l19Is : Callable Tryz.prog 82 := ⟨_, Tryz.func82, rfl, rfl⟩
theorem sp_l19Is {f : SF} (hb : SFB f) : Spec Tryz.prog 82 [sfV f] [] (bv (dec (IsSF f))) [] := by
  refine spec_of_V (E := TE) 0 Tryz.func82 rfl (by simp [Tryz.f82]) fun X hn hX => ?_
  repeat' (first | (with_reducible first | refine V_seq ?_ | refine V_skip ?_ | refine V_ret ?_) | ((with_reducible refine V_cond ?_); simp only [go_sem, simprocAttr]) | ((refine V_region (by rw [hn]; rfl) ?_); intro K hK) | ((first | with_reducible refine evOps_n ?_ | ((with_reducible apply evOps_g); rfl)); intro K hK; simp (contextual := true) only [go_sem, simprocAttr]) | with_reducible refine evOps_nil ?_ | ((with_reducible refine hK _ ?_); clear hK K) | (with_reducible first | refine And.intro ?_ ?_ | refine nxt_n ?_ | refine nxt_r ?_ | refine inR_mk ?_ ?_) | ((with_reducible refine evCall_at 105 ?_); refine EvCall.rq (a := (sp_l19Shape ?_)) (b := cal_l19Shape) (c := ?_); all_goals try simp only [go_sem, simprocAttr]) | ((with_reducible refine evCall_at 106 ?_); refine EvCall.rq (a := (sp_l19Fault ?_)) (b := cal_l19Fault) (c := ?_); all_goals try simp only [go_sem, simprocAttr]) | (refine fun (hc : (_ : Bool) = _) => ?_; try simp only [hcS] at hc))
  all_goals try (first | (with_reducible assumption) | ((try simp only [Cat.F, Cat.T, Cat.I, Cat.C, Fun.O, Fun.A, Cat.Entry, Int.toNat_natCast] at *); omega))
  · (first | refine ret_auto ?_ | refine ret_auto' ?_); simp only [go_sem, simprocAttr, Tryz.f82]
    exact bv_f (fun s => hc s.toSFShape)
  · (first | refine ret_auto ?_ | refine ret_auto' ?_); simp only [go_sem, simprocAttr, Tryz.f82]
    rw [← dec_eq, dec_congr hc.fault_zero]
end Go.Eng
end
