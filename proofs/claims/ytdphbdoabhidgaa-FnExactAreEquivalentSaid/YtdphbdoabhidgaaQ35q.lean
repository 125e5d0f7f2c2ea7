/- AreEquivalent, by the program and by the reference. -/
import Derived.Test.YtdphbdoabhidgaaKdx
import Derived.Test.YtdphbdoabhidgaaC02q
import Derived.Test.YtdphbdoabhidgaaQ34q
set_option linter.unusedSimpArgs false
set_option linter.unusedVariables false
set_option maxRecDepth 100000
set_option maxHeartbeats 16000000
namespace Go.Eng
open Go Go.Proofs Go.Cats
attribute [local go_sem] List.set_cons_zero List.set_cons_succ
def _root_.Go.Cats.EqvO (c d : Cat) (v : Bool) (code : Int) : Prop := (¬ (IsCat c ∧ IsCat d) ∧ v = false ∧ code = 1) ∨ (IsCat c ∧ IsCat d ∧ EqO (skC c) (skC d) v code)
theorem _root_.Go.Cats.EqvO.ex (c d : Cat) : ∃ v code, EqvO c d v code := by
  by_cases h : IsCat c ∧ IsCat d
  · obtain ⟨v, code, ho⟩ := EqO.ex (skC c) (skC d)
    exact ⟨v, code, .inr ⟨h.1, h.2, ho⟩⟩
  · exact ⟨false, 1, .inl ⟨h, rfl, rfl⟩⟩
theorem cal_AreEquivalent : Callable Try.prog 8 := ⟨_, Try.func8, rfl, rfl⟩
theorem sp_AreEquivalent_o {c d : Cat} {v : Bool} {code : Int} (hc : CatB c) (hd : CatB d) (h : EqvO c d v code) : Spec Try.prog 8 [catV c, catV d] [] (.tup [bv v, iv code]) [] := by
  refine spec_of_V (E := TE) 0 Try.func8 rfl (by simp [Try.f8]) fun X hn hX => ?_
  rcases h with ⟨h, rfl, rfl⟩ | ⟨sc, sd, h⟩
  · have v1 := dec_f h
    repeat' (first | (refine V_at 1 (Imp.trans (Imp.lendCat 2 0 1 c rfl rfl (Nat.le_refl 1)) (Imp.lendCat 3 1 1 d rfl rfl (Nat.le_refl 1))) ?_; simp only [go_sem, simprocAttr]) | (exact absurd (by assumption) h) | (with_reducible first | refine V_seq ?_ | refine V_skip ?_ | refine V_ret ?_) | ((with_reducible refine V_cond ?_); simp only [go_sem, simprocAttr]) | ((refine V_region (by rw [hn]; rfl) ?_); intro K hK) | ((first | with_reducible refine evOps_n ?_ | ((with_reducible apply evOps_g); rfl)); intro K hK; simp (contextual := true) only [go_sem, simprocAttr]) | with_reducible refine evOps_nil ?_ | ((with_reducible refine hK _ ?_); clear hK K) | (with_reducible first | refine And.intro ?_ ?_ | refine nxt_n ?_ | refine nxt_r ?_ | refine inR_mk ?_ ?_) | ((with_reducible refine evCall_at 25 ?_); refine EvCall.rq (a := (sp_areCategories_two (by first | omega | assumption | rfl) (by first | omega | assumption | rfl))) (b := cal_areCategories) (c := ?_); all_goals try simp only [go_sem, simprocAttr]) | (refine fun (hc : (_ : Bool) = _) => ?_; try simp only [hcS] at hc))
    all_goals try (first | (with_reducible assumption) | ((try simp only [Cat.F, Cat.T, Cat.I, Cat.C, Fun.O, Fun.A, Cat.Entry, Int.toNat_natCast] at *); omega))
    all_goals ((first | refine ret_auto ?_ | refine ret_auto' ?_); simp only [go_sem, simprocAttr, Try.f8])
  · have v1 := dec_t (And.intro sc sd)
    have h1 := sp_equivalent_o sc sd h
    repeat' (first | (refine V_at 1 (Imp.trans (Imp.lendCat 2 0 1 c rfl rfl (Nat.le_refl 1)) (Imp.lendCat 3 1 1 d rfl rfl (Nat.le_refl 1))) ?_; simp only [go_sem, simprocAttr]) | (exact absurd (And.intro sc sd) (by assumption)) | (with_reducible first | refine V_seq ?_ | refine V_skip ?_ | refine V_ret ?_) | ((with_reducible refine V_cond ?_); simp only [go_sem, simprocAttr]) | ((refine V_region (by rw [hn]; rfl) ?_); intro K hK) | ((first | with_reducible refine evOps_n ?_ | ((with_reducible apply evOps_g); rfl)); intro K hK; simp (contextual := true) only [go_sem, simprocAttr]) | with_reducible refine evOps_nil ?_ | ((with_reducible refine hK _ ?_); clear hK K) | (with_reducible first | refine And.intro ?_ ?_ | refine nxt_n ?_ | refine nxt_r ?_ | refine inR_mk ?_ ?_) | ((with_reducible refine evCall_at 25 ?_); refine EvCall.rq (a := (sp_areCategories_two (by first | omega | assumption | rfl) (by first | omega | assumption | rfl))) (b := cal_areCategories) (c := ?_); all_goals try simp only [go_sem, simprocAttr]) | ((with_reducible refine evCall_at 26 ?_); refine EvCall.mk (h1) cal_equivalent [] [0,1] (by simp [go_sem] <;> (repeat' (first | rfl | constructor))) (by simp [go_sem] <;> (repeat' (first | rfl | constructor))) ?_; all_goals try simp only [go_sem, simprocAttr]) | (refine fun (hc : (_ : Bool) = _) => ?_; try simp only [hcS] at hc))
    all_goals try (first | (with_reducible assumption) | ((try simp only [Cat.F, Cat.T, Cat.I, Cat.C, Fun.O, Fun.A, Cat.Entry, Int.toNat_natCast] at *); omega))
    all_goals ((first | refine ret_auto ?_ | refine ret_auto' ?_); simp only [go_sem, simprocAttr, Try.f8])
theorem cal_spec_AreEquivalent : Callable Try.prog 6 := ⟨_, Try.func6, rfl, rfl⟩
theorem sp_spec_AreEquivalent_o {c d : Cat} {v : Bool} {code : Int} (hc : CatB c) (hd : CatB d) (h : EqvO c d v code) : Spec Try.prog 6 [catV c, catV d] [] (.tup [bv v, iv code]) [] := by
  rcases h with ⟨h, rfl, rfl⟩ | ⟨sc, sd, h⟩
  · have hcd := sp_l03Two_k hc hd (.inl ⟨h, rfl⟩)
    refine spec_of_V (E := TE) 0 Try.func6 rfl (by simp [Try.f6]) fun X hn hX => ?_
    repeat' (first | (with_reducible first | refine V_seq ?_ | refine V_skip ?_ | refine V_ret ?_) | ((with_reducible refine V_cond ?_); simp only [go_sem, simprocAttr]) | ((refine V_region (by rw [hn]; rfl) ?_); intro K hK) | ((first | with_reducible refine evOps_n ?_ | ((with_reducible apply evOps_g); rfl)); intro K hK; simp (contextual := true) only [go_sem, simprocAttr]) | with_reducible refine evOps_nil ?_ | ((with_reducible refine hK _ ?_); clear hK K) | (with_reducible first | refine And.intro ?_ ?_ | refine nxt_n ?_ | refine nxt_r ?_ | refine inR_mk ?_ ?_) | ((with_reducible refine evCall_at 21 ?_); refine EvCall.mk (hcd) cal_l03Two [] [] (by simp [go_sem] <;> (repeat' (first | rfl | constructor))) (by simp [go_sem] <;> (repeat' (first | rfl | constructor))) ?_; all_goals try simp only [go_sem, simprocAttr]) | (refine fun (hc : (_ : Bool) = _) => ?_; try simp only [hcS] at hc))
    all_goals try (first | (with_reducible assumption) | ((try simp only [Cat.F, Cat.T, Cat.I, Cat.C, Fun.O, Fun.A, Cat.Entry, Int.toNat_natCast] at *); omega))
    all_goals ((first | refine ret_auto ?_ | refine ret_auto' ?_); simp only [go_sem, simprocAttr, Try.f6])
  · have hcd := sp_l03Two_k hc hd (.inr ⟨sc, sd, rfl⟩)
    have h1 := sp_l11Alike_o sc sd h
    refine spec_of_V (E := TE) 0 Try.func6 rfl (by simp [Try.f6]) fun X hn hX => ?_
    repeat' (first | (with_reducible first | refine V_seq ?_ | refine V_skip ?_ | refine V_ret ?_) | ((with_reducible refine V_cond ?_); simp only [go_sem, simprocAttr]) | ((refine V_region (by rw [hn]; rfl) ?_); intro K hK) | ((first | with_reducible refine evOps_n ?_ | ((with_reducible apply evOps_g); rfl)); intro K hK; simp (contextual := true) only [go_sem, simprocAttr]) | with_reducible refine evOps_nil ?_ | ((with_reducible refine hK _ ?_); clear hK K) | (with_reducible first | refine And.intro ?_ ?_ | refine nxt_n ?_ | refine nxt_r ?_ | refine inR_mk ?_ ?_) | ((with_reducible refine evCall_at 21 ?_); refine EvCall.mk (hcd) cal_l03Two [] [] (by simp [go_sem] <;> (repeat' (first | rfl | constructor))) (by simp [go_sem] <;> (repeat' (first | rfl | constructor))) ?_; all_goals try simp only [go_sem, simprocAttr]) | ((with_reducible refine evCall_at 22 ?_); refine EvCall.mk (h1) cal_l11Alike [] [] (by simp [go_sem] <;> (repeat' (first | rfl | constructor))) (by simp [go_sem] <;> (repeat' (first | rfl | constructor))) ?_; all_goals try simp only [go_sem, simprocAttr]) | (refine fun (hc : (_ : Bool) = _) => ?_; try simp only [hcS] at hc))
    all_goals try (first | (with_reducible assumption) | ((try simp only [Cat.F, Cat.T, Cat.I, Cat.C, Fun.O, Fun.A, Cat.Entry, Int.toNat_natCast] at *); omega))
    all_goals ((first | refine ret_auto ?_ | refine ret_auto' ?_); simp only [go_sem, simprocAttr, Try.f6])
end Go.Eng
