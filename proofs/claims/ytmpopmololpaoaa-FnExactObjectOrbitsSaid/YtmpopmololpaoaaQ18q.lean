/- All isomorphisms, by the program and by the reference. -/
import Derived.Test.YtmpopmololpaoaaKdx
import Derived.Test.YtmpopmololpaoaaKex
import Derived.Test.YtmpopmololpaoaaQ16q
set_option linter.unusedSimpArgs false
set_option linter.unusedVariables false
set_option maxRecDepth 100000
set_option maxHeartbeats 16000000
namespace Go.Eng
open Go Go.Proofs Go.Cats
attribute [local go_sem] List.set_cons_zero List.set_cons_succ
def _root_.Go.Cats.AOut (c d : Cat) (F : List Fun) (code : Int) : Prop :=
  (¬ (IsCat c ∧ IsCat d) ∧ F = [] ∧ code = 1) ∨ (IsCat c ∧ IsCat d ∧ ¬ (c.fr.length ≤ 16 ∧ d.fr.length ≤ 16) ∧ F = [] ∧ code = 3) ∨ (IsCat c ∧ IsCat d ∧ (c.fr.length ≤ 16 ∧ d.fr.length ≤ 16) ∧
    ((¬ (c.ob = d.ob ∧ c.fr.length = d.fr.length) ∧ F = [] ∧ code = 0) ∨ (c.ob = d.ob ∧ c.fr.length = d.fr.length ∧ 200 < (funX c d true c.ob.toNat []).length ∧ F = [] ∧ code = 3) ∨ (c.ob = d.ob ∧ c.fr.length = d.fr.length ∧ (funX c d true c.ob.toNat []).length ≤ 200 ∧ F = funX c d true c.ob.toNat [] ∧ code = 0)))
theorem _root_.Go.Cats.AOut.ex (c d : Cat) : ∃ F code, AOut c d F code := by
  by_cases h1 : IsCat c ∧ IsCat d
  · by_cases h2 : c.fr.length ≤ 16 ∧ d.fr.length ≤ 16
    · by_cases h3 : c.ob = d.ob ∧ c.fr.length = d.fr.length
      · by_cases h4 : (funX c d true c.ob.toNat []).length ≤ 200
        · exact ⟨_, 0, .inr (.inr ⟨h1.1, h1.2, h2, .inr (.inr ⟨h3.1, h3.2, h4, rfl, rfl⟩)⟩)⟩
        · exact ⟨_, 3, .inr (.inr ⟨h1.1, h1.2, h2, .inr (.inl ⟨h3.1, h3.2, by omega, rfl, rfl⟩)⟩)⟩
      · exact ⟨_, 0, .inr (.inr ⟨h1.1, h1.2, h2, .inl ⟨h3, rfl, rfl⟩⟩)⟩
    · exact ⟨_, 3, .inr (.inl ⟨h1.1, h1.2, h2, rfl, rfl⟩)⟩
  · exact ⟨_, 1, .inl ⟨h1, rfl, rfl⟩⟩
theorem adoptFs {P : Program} {F : FuncId} {args : List Sv} {code : Int} (h : Spec P F args [] (.tup [.v (.slice none 0 0), iv code]) []) : Spec P F args [] (.tup [.sl 0, iv code]) [(0, ⟨1, .arr (funsD [])⟩)] := by
  refine Spec.adopt h (fun p hp => ?_) fun w S v cn h => ?_
  · rw [List.mem_singleton] at hp; subst hp
    exact ⟨12, .v (.int .i64 0), by decide, rfl⟩
  · simp only [Sv.ok, Sv.okL] at h ⊢
    obtain ⟨vs, rfl, x, r, rfl, e, hr⟩ := h
    exact ⟨_, rfl, _, _, rfl, ⟨Nat.le_refl 1, e⟩, hr⟩
theorem cal_isoCode : Callable Try.prog 37 := ⟨_, Try.func37, rfl, rfl⟩
theorem sp_isoCode_nil {c d : Cat} {code : Int} (hc : CatB c) (hd : CatB d) (h : (¬ (IsCat c ∧ IsCat d) ∧ code = 1) ∨ (IsCat c ∧ IsCat d ∧ ¬ (c.fr.length ≤ 16 ∧ d.fr.length ≤ 16) ∧ code = 3) ∨ (IsCat c ∧ IsCat d ∧ (c.fr.length ≤ 16 ∧ d.fr.length ≤ 16) ∧ ((¬ (c.ob = d.ob ∧ c.fr.length = d.fr.length) ∧ code = 0) ∨ (c.ob = d.ob ∧ c.fr.length = d.fr.length ∧ 200 < (funX c d true c.ob.toNat []).length ∧ code = 3)))) : Spec Try.prog 37 [.bptr [] (catD c), .bptr [] (catD d)] [] (.tup [.v (.slice none 0 0), iv code]) [] := by
  rcases h with ⟨h, rfl⟩ | ⟨h1, h2, h, rfl⟩ | ⟨h1, h2, h3, ⟨h, rfl⟩ | ⟨e1, e2, h, rfl⟩⟩
  · refine spec_of_V (E := TE) 0 Try.func37 rfl (by simp [Try.f37]) fun X hn hX => ?_
    repeat' (first | (with_reducible first | refine V_seq ?_ | refine V_skip ?_ | refine V_ret ?_) | ((with_reducible refine V_cond ?_); simp only [go_sem, simprocAttr]) | ((refine V_region (by rw [hn]; rfl) ?_); intro K hK) | ((first | with_reducible refine evOps_n ?_ | ((with_reducible apply evOps_g); rfl)); intro K hK; simp (contextual := true) only [go_sem, simprocAttr]) | with_reducible refine evOps_nil ?_ | ((with_reducible refine hK _ ?_); clear hK K) | (with_reducible first | refine And.intro ?_ ?_ | refine nxt_n ?_ | refine nxt_r ?_ | refine inR_mk ?_ ?_) | ((with_reducible refine evCall_at 31 ?_); refine EvCall.rq (a := (sp_areCategories_two (by first | omega | assumption | rfl) (by first | omega | assumption | rfl))) (b := cal_areCategories) (c := ?_); all_goals try simp only [go_sem, simprocAttr]) | (refine fun (hc : (_ : Bool) = _) => ?_; try simp only [hcS] at hc))
    all_goals try (first | (with_reducible assumption) | ((try simp only [Cat.F, Cat.T, Cat.I, Cat.C, Fun.O, Fun.A, Cat.Entry, Int.toNat_natCast] at *); omega))
    · (first | refine ret_auto ?_ | refine ret_auto' ?_); simp only [go_sem, simprocAttr, Try.f37]
    all_goals exact absurd (by assumption) h
  · refine spec_of_V (E := TE) 0 Try.func37 rfl (by simp [Try.f37]) fun X hn hX => ?_
    have h0 : IsCat c ∧ IsCat d := ⟨h1, h2⟩
    repeat' (first | (with_reducible first | refine V_seq ?_ | refine V_skip ?_ | refine V_ret ?_) | ((with_reducible refine V_cond ?_); simp only [go_sem, simprocAttr]) | ((refine V_region (by rw [hn]; rfl) ?_); intro K hK) | ((first | with_reducible refine evOps_n ?_ | ((with_reducible apply evOps_g); rfl)); intro K hK; simp (contextual := true) only [go_sem, simprocAttr]) | with_reducible refine evOps_nil ?_ | ((with_reducible refine hK _ ?_); clear hK K) | (with_reducible first | refine And.intro ?_ ?_ | refine nxt_n ?_ | refine nxt_r ?_ | refine inR_mk ?_ ?_) | ((with_reducible refine evCall_at 31 ?_); refine EvCall.rq (a := (sp_areCategories_two (by first | omega | assumption | rfl) (by first | omega | assumption | rfl))) (b := cal_areCategories) (c := ?_); all_goals try simp only [go_sem, simprocAttr]) | ((with_reducible refine evCall_at 32 ?_); refine EvCall.rq (a := (sp_searchable_no (by first | omega | assumption | rfl) (by first | omega | assumption | rfl) (by first | omega | assumption | rfl))) (b := cal_searchable) (c := ?_); all_goals try simp only [go_sem, simprocAttr]) | (refine fun (hc : (_ : Bool) = _) => ?_; try simp only [hcS] at hc))
    all_goals try (first | (with_reducible assumption) | ((try simp only [Cat.F, Cat.T, Cat.I, Cat.C, Fun.O, Fun.A, Cat.Entry, Int.toNat_natCast] at *); omega))
    · exact absurd h0 (by assumption)
    · (first | refine ret_auto ?_ | refine ret_auto' ?_); simp only [go_sem, simprocAttr, Try.f37]
  · obtain ⟨h4, h5⟩ := h3
    have hne := sp_isomorphisms_ne (m := 200) hc hd h
    refine spec_of_V (E := TE) 0 Try.func37 rfl (by simp [Try.f37]) fun X hn hX => ?_
    have h0 : IsCat c ∧ IsCat d := ⟨h1, h2⟩
    repeat' (first | (with_reducible first | refine V_seq ?_ | refine V_skip ?_ | refine V_ret ?_) | ((with_reducible refine V_cond ?_); simp only [go_sem, simprocAttr]) | ((refine V_region (by rw [hn]; rfl) ?_); intro K hK) | ((first | with_reducible refine evOps_n ?_ | ((with_reducible apply evOps_g); rfl)); intro K hK; simp (contextual := true) only [go_sem, simprocAttr]) | with_reducible refine evOps_nil ?_ | ((with_reducible refine hK _ ?_); clear hK K) | (with_reducible first | refine And.intro ?_ ?_ | refine nxt_n ?_ | refine nxt_r ?_ | refine inR_mk ?_ ?_) | ((with_reducible refine evCall_at 31 ?_); refine EvCall.rq (a := (sp_areCategories_two (by first | omega | assumption | rfl) (by first | omega | assumption | rfl))) (b := cal_areCategories) (c := ?_); all_goals try simp only [go_sem, simprocAttr]) | ((with_reducible refine evCall_at 32 ?_); refine EvCall.rq (a := (sp_searchable_yes (by first | omega | assumption | rfl) (by first | omega | assumption | rfl) (by first | omega | assumption | rfl) (by first | omega | assumption | rfl))) (b := cal_searchable) (c := ?_); all_goals try simp only [go_sem, simprocAttr]) | ((with_reducible refine evCall_at 33 ?_); refine EvCall.mk (hne) cal_isomorphisms [] [] (by simp [go_sem] <;> (repeat' (first | rfl | constructor))) (by simp [go_sem] <;> (repeat' (first | rfl | constructor))) ?_; all_goals try simp only [go_sem, simprocAttr]) | (refine fun (hc : (_ : Bool) = _) => ?_; try simp only [hcS] at hc))
    all_goals try (first | (with_reducible assumption) | ((try simp only [Cat.F, Cat.T, Cat.I, Cat.C, Fun.O, Fun.A, Cat.Entry, Int.toNat_natCast] at *); omega))
    · exact absurd h0 (by assumption)
    · (first | refine ret_auto ?_ | refine ret_auto' ?_); simp only [go_sem, simprocAttr, Try.f37]
  · obtain ⟨h4, h5⟩ := h3
    have hr : eat (stL 200) [] (funX c d true c.ob.toNat []) = (false, (funX c d true c.ob.toNat []).take 201) := by
      rw [eat_L _ _ (Nat.zero_le _), List.nil_append, decide_eq_false (by omega)]
    have heq := sp_isomorphisms_eq (M := 200) hc hd h1 h2 (by decide) e1 e2 hr
    refine spec_of_V (E := TE) 0 Try.func37 rfl (by simp [Try.f37]) fun X hn hX => ?_
    have h0 : IsCat c ∧ IsCat d := ⟨h1, h2⟩
    repeat' (first | (with_reducible first | refine V_seq ?_ | refine V_skip ?_ | refine V_ret ?_) | ((with_reducible refine V_cond ?_); simp only [go_sem, simprocAttr]) | ((refine V_region (by rw [hn]; rfl) ?_); intro K hK) | ((first | with_reducible refine evOps_n ?_ | ((with_reducible apply evOps_g); rfl)); intro K hK; simp (contextual := true) only [go_sem, simprocAttr]) | with_reducible refine evOps_nil ?_ | ((with_reducible refine hK _ ?_); clear hK K) | (with_reducible first | refine And.intro ?_ ?_ | refine nxt_n ?_ | refine nxt_r ?_ | refine inR_mk ?_ ?_) | ((with_reducible refine evCall_at 31 ?_); refine EvCall.rq (a := (sp_areCategories_two (by first | omega | assumption | rfl) (by first | omega | assumption | rfl))) (b := cal_areCategories) (c := ?_); all_goals try simp only [go_sem, simprocAttr]) | ((with_reducible refine evCall_at 32 ?_); refine EvCall.rq (a := (sp_searchable_yes (by first | omega | assumption | rfl) (by first | omega | assumption | rfl) (by first | omega | assumption | rfl) (by first | omega | assumption | rfl))) (b := cal_searchable) (c := ?_); all_goals try simp only [go_sem, simprocAttr]) | ((with_reducible refine evCall_at 33 ?_); refine EvCall.mk (heq) cal_isomorphisms [(0,1)] [] (by simp [go_sem] <;> (repeat' (first | rfl | constructor))) (by simp [go_sem] <;> (repeat' (first | rfl | constructor))) ?_; all_goals try simp only [go_sem, simprocAttr]) | (refine fun (hc : (_ : Bool) = _) => ?_; try simp only [hcS] at hc))
    all_goals try (first | (with_reducible assumption) | ((try simp only [Cat.F, Cat.T, Cat.I, Cat.C, Fun.O, Fun.A, Cat.Entry, Int.toNat_natCast] at *); omega))
    · exact absurd h0 (by assumption)
    · (first | refine ret_auto ?_ | refine ret_auto' ?_); simp only [go_sem, simprocAttr, Try.f37]
theorem sp_isoCode_ok {c d : Cat} (hc : CatB c) (hd : CatB d) (h1 : IsCat c) (h2 : IsCat d) (h3 : c.fr.length ≤ 16 ∧ d.fr.length ≤ 16) (e1 : c.ob = d.ob) (e2 : c.fr.length = d.fr.length) (h : (funX c d true c.ob.toNat []).length ≤ 200) : Spec Try.prog 37 [.bptr [] (catD c), .bptr [] (catD d)] [] (.tup [.sl 0, iv 0]) [(0, ⟨1, .arr (funsD (funX c d true c.ob.toNat []))⟩)] := by
  obtain ⟨h4, h5⟩ := h3
  have hr : eat (stL 200) [] (funX c d true c.ob.toNat []) = (true, funX c d true c.ob.toNat []) := by
    rw [eat_L _ _ (Nat.zero_le _), List.nil_append, decide_eq_true h, List.take_of_length_le (by omega)]
  have heq := sp_isomorphisms_eq (M := 200) hc hd h1 h2 (by decide) e1 e2 hr
  refine spec_of_V (E := TE) 0 Try.func37 rfl (by simp [Try.f37]) fun X hn hX => ?_
  have h0 : IsCat c ∧ IsCat d := ⟨h1, h2⟩
  repeat' (first | (with_reducible first | refine V_seq ?_ | refine V_skip ?_ | refine V_ret ?_) | ((with_reducible refine V_cond ?_); simp only [go_sem, simprocAttr]) | ((refine V_region (by rw [hn]; rfl) ?_); intro K hK) | ((first | with_reducible refine evOps_n ?_ | ((with_reducible apply evOps_g); rfl)); intro K hK; simp (contextual := true) only [go_sem, simprocAttr]) | with_reducible refine evOps_nil ?_ | ((with_reducible refine hK _ ?_); clear hK K) | (with_reducible first | refine And.intro ?_ ?_ | refine nxt_n ?_ | refine nxt_r ?_ | refine inR_mk ?_ ?_) | ((with_reducible refine evCall_at 31 ?_); refine EvCall.rq (a := (sp_areCategories_two (by first | omega | assumption | rfl) (by first | omega | assumption | rfl))) (b := cal_areCategories) (c := ?_); all_goals try simp only [go_sem, simprocAttr]) | ((with_reducible refine evCall_at 32 ?_); refine EvCall.rq (a := (sp_searchable_yes (by first | omega | assumption | rfl) (by first | omega | assumption | rfl) (by first | omega | assumption | rfl) (by first | omega | assumption | rfl))) (b := cal_searchable) (c := ?_); all_goals try simp only [go_sem, simprocAttr]) | ((with_reducible refine evCall_at 33 ?_); refine EvCall.mk (heq) cal_isomorphisms [(0,1)] [] (by simp [go_sem] <;> (repeat' (first | rfl | constructor))) (by simp [go_sem] <;> (repeat' (first | rfl | constructor))) ?_; all_goals try simp only [go_sem, simprocAttr]) | (refine fun (hc : (_ : Bool) = _) => ?_; try simp only [hcS] at hc))
  all_goals try (first | (with_reducible assumption) | ((try simp only [Cat.F, Cat.T, Cat.I, Cat.C, Fun.O, Fun.A, Cat.Entry, Int.toNat_natCast] at *); omega))
  · exact absurd h0 (by assumption)
  · (first | refine ret_auto ?_ | refine ret_auto' ?_); simp only [go_sem, simprocAttr, Try.f37]
theorem sp_isoCode_at {c d : Cat} {F : List Fun} {code : Int} (hc : CatB c) (hd : CatB d) (h : AOut c d F code) : Spec Try.prog 37 [.bptr [] (catD c), .bptr [] (catD d)] [] (.tup [.sl 0, iv code]) [(0, ⟨1, .arr (funsD F)⟩)] := by
  rcases h with ⟨h, rfl, rfl⟩ | ⟨h1, h2, h, rfl, rfl⟩ | ⟨h1, h2, h3, ⟨h, rfl, rfl⟩ | ⟨e1, e2, h, rfl, rfl⟩ | ⟨e1, e2, h, rfl, rfl⟩⟩
  · exact adoptFs (sp_isoCode_nil hc hd (.inl ⟨h, rfl⟩))
  · exact adoptFs (sp_isoCode_nil hc hd (.inr (.inl ⟨h1, h2, h, rfl⟩)))
  · exact adoptFs (sp_isoCode_nil hc hd (.inr (.inr ⟨h1, h2, h3, .inl ⟨h, rfl⟩⟩)))
  · exact adoptFs (sp_isoCode_nil hc hd (.inr (.inr ⟨h1, h2, h3, .inr ⟨e1, e2, h, rfl⟩⟩)))
  · exact sp_isoCode_ok hc hd h1 h2 h3 e1 e2 h
end Go.Eng
