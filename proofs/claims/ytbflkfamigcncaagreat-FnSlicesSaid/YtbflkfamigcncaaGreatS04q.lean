/- Slices: the outcomes, by the program and by the reference. -/
import Derived.Test.YtbflkfamigcncaaGreatKjx
set_option linter.unusedSimpArgs false
set_option linter.unusedVariables false
set_option maxRecDepth 100000
set_option maxHeartbeats 16000000
namespace Go.Eng
open Go Go.Proofs Go.Cats
attribute [local go_sem] one_nil_c8 one_ptr_c8 List.getD_cons_zero
def SlOut (f e : Fun) (c : Cat) (x : Int) (r : Cat) (code : Int) : Prop := (OC c [x] code ∧ code ≠ 0 ∧ r = ⟨0, [], [], [], []⟩) ∨ (OC c [x] 0 ∧ COut f e r code)
theorem slOut (f e : Fun) (c : Cat) (x : Int) : ∃ r code, SlOut f e c x r code := by
  obtain ⟨code, h⟩ := oc_ex c [x]
  by_cases h0 : code = 0
  · subst h0
    obtain ⟨r, code, h2⟩ := cOut f e
    exact ⟨r, code, .inr ⟨h, h2⟩⟩
  · exact ⟨_, code, .inl ⟨h, h0, rfl⟩⟩
theorem SlOut.b {f e : Fun} {c : Cat} {x : Int} {r : Cat} {code : Int} (h : SlOut f e c x r code) : CatB r := by
  rcases h with ⟨_, _, rfl⟩ | ⟨_, h⟩
  · exact ⟨by simp, by simp, by simp, by simp, by simp, by simp, fun i hi => by simp at hi⟩
  · exact h.b
theorem adoptC {P : Program} {F : FuncId} {args : List Sv} {y : Value} (h : Spec P F args [] (.tup [.agg [iv 0, .v (.slice none 0 0), .v (.slice none 0 0), .v (.slice none 0 0), .v (.slice none 0 0)], .v y]) []) : Spec P F args [] (.tup [.agg [iv 0, .sl 0, .sl 1, .sl 2, .sl 3], .v y]) [(0, ⟨1, .arr (ints [])⟩), (1, ⟨1, .arr (ints [])⟩), (2, ⟨1, .arr (ints [])⟩), (3, ⟨1, .arr (intss [])⟩)] := by
  refine Spec.adopt h (emptyL_cons_i (emptyL_cons_i (emptyL_cons_i (emptyL_cons_s emptyL_nil)))) fun w S v cn h => ?_
  simp only [Sv.ok, Sv.okL] at h ⊢
  obtain ⟨vs, rfl, x, r, rfl, ⟨us, rfl, hu⟩, hr⟩ := h
  refine ⟨_, rfl, _, _, rfl, ⟨us, rfl, ?_⟩, hr⟩
  obtain ⟨x0, r0, rfl, e0, x1, r1, rfl, e1, x2, r2, rfl, e2, x3, r3, rfl, e3, x4, r4, rfl, e4, e5⟩ := hu
  exact ⟨_, _, rfl, e0, _, _, rfl, ⟨Nat.le_refl 1, e1⟩, _, _, rfl, ⟨Nat.le_refl 1, e2⟩, _, _, rfl, ⟨Nat.le_refl 1, e3⟩, _, _, rfl, ⟨Nat.le_refl 1, e4⟩, e5⟩
theorem cal_SliceCategory : Callable Tryz.prog 11 := ⟨_, Tryz.func11, rfl, rfl⟩
theorem sp_SliceCategory_bad {c : Cat} {x code : Int} (hb : CatB c) (h : OC c [x] code) (h0 : code ≠ 0) : Spec Tryz.prog 11 [catV c, iv x] [] (.tup [.agg [iv 0, .v (.slice none 0 0), .v (.slice none 0 0), .v (.slice none 0 0), .v (.slice none 0 0)], iv code]) [] := by
  refine spec_of_V (E := TE) 0 Tryz.func11 rfl (by simp [Tryz.f11]) fun X hn hX => ?_
  repeat' (first | with_reducible refine St.f ?_ | ((with_reducible refine V_cond ?_); simp only [go_sem, simprocAttr]) | ((refine V_rg ?_); intro K hK) | ((first | with_reducible refine So.f ?_ | ((with_reducible apply evOps_g); rfl)); intro K hK; simp (contextual := true) only [go_sem, simprocAttr]) | ((with_reducible refine hK _ ?_); clear hK K) | (with_reducible first | refine And.intro ?_ ?_ | refine inR_mk ?_ ?_) | ((with_reducible refine evCall_at 64 ?_); refine EvCall.rq (a := (sp_slice_bad (c:=c) (x:=x) (code:=code) (by first | omega | assumption | rfl) (by first | omega | assumption | rfl) (by first | omega | assumption | rfl))) (b := cal_slice) (c := ?_); all_goals try simp only [go_sem, simprocAttr]) | (refine fun (hc : (_ : Bool) = _) => ?_; try simp only [hcS] at hc))
  all_goals try exact om_
  · (first | refine ret_auto ?_ | refine ret_auto' ?_); simp only [go_sem, simprocAttr, Tryz.f11]
theorem sp_SliceCategory_big {c : Cat} {x : Int} (hb : CatB c) (h : OC c [x] 0) (h0 : ¬ CYes (selfF c) (pointF c x)) : Spec Tryz.prog 11 [catV c, iv x] [] (.tup [.agg [iv 0, .v (.slice none 0 0), .v (.slice none 0 0), .v (.slice none 0 0), .v (.slice none 0 0)], iv 3]) [] := by
  refine spec_of_V (E := TE) 0 Tryz.func11 rfl (by simp [Tryz.f11]) fun X hn hX => ?_
  repeat' (first | with_reducible refine St.f ?_ | ((with_reducible refine V_cond ?_); simp only [go_sem, simprocAttr]) | ((refine V_rg ?_); intro K hK) | ((first | with_reducible refine So.f ?_ | ((with_reducible apply evOps_g); rfl)); intro K hK; simp (contextual := true) only [go_sem, simprocAttr]) | ((with_reducible refine hK _ ?_); clear hK K) | (with_reducible first | refine And.intro ?_ ?_ | refine inR_mk ?_ ?_) | ((with_reducible refine evCall_at 64 ?_); refine EvCall.rq (a := (sp_slice_big (c:=c) (x:=x) (by first | omega | assumption | rfl) (by first | omega | assumption | rfl) (by first | omega | assumption | rfl))) (b := cal_slice) (c := ?_); all_goals try simp only [go_sem, simprocAttr]) | (refine fun (hc : (_ : Bool) = _) => ?_; try simp only [hcS] at hc))
  all_goals try exact om_
  (first | refine ret_auto ?_ | refine ret_auto' ?_); simp only [go_sem, simprocAttr, Tryz.f11]
theorem sp_SliceCategory_yes {c : Cat} {x : Int} (hb : CatB c) (h : OC c [x] 0) (hy : CYes (selfF c) (pointF c x)) : Spec Tryz.prog 11 [catV c, iv x] [] (.tup [.agg [iv (cmC (selfF c) (pointF c x) (cmA (selfF c) (pointF c x)).length).ob, .sl 0, .sl 1, .sl 2, .sl 3], iv 0]) [(0, ⟨1, .arr (ints (cmC (selfF c) (pointF c x) (cmA (selfF c) (pointF c x)).length).fr)⟩), (1, ⟨1, .arr (ints (cmC (selfF c) (pointF c x) (cmA (selfF c) (pointF c x)).length).to)⟩), (2, ⟨1, .arr (ints (cmC (selfF c) (pointF c x) (cmA (selfF c) (pointF c x)).length).id)⟩), (3, ⟨1, .arr (intss (cmC (selfF c) (pointF c x) (cmA (selfF c) (pointF c x)).length).co)⟩)] := by
  refine spec_of_V (E := TE) 0 Tryz.func11 rfl (by simp [Tryz.f11]) fun X hn hX => ?_
  repeat' (first | with_reducible refine St.f ?_ | ((with_reducible refine V_cond ?_); simp only [go_sem, simprocAttr]) | ((refine V_rg ?_); intro K hK) | ((first | with_reducible refine So.f ?_ | ((with_reducible apply evOps_g); rfl)); intro K hK; simp (contextual := true) only [go_sem, simprocAttr]) | ((with_reducible refine hK _ ?_); clear hK K) | (with_reducible first | refine And.intro ?_ ?_ | refine inR_mk ?_ ?_) | ((with_reducible refine evCall_at 64 ?_); refine EvCall.rq (a := (sp_slice_yes (c:=c) (x:=x) (by first | omega | assumption | rfl) (by first | omega | assumption | rfl) (by first | omega | assumption | rfl))) (b := cal_slice) (c := ?_); all_goals try simp only [go_sem, simprocAttr]) | ((with_reducible refine evCall_at 65 ?_); refine EvCall.rq (a := (sp_comma_category (f:=selfF c) (e:=pointF c x) ?_)) (b := cal_comma_category) (c := ?_); all_goals try simp only [go_sem, simprocAttr]) | (refine fun (hc : (_ : Bool) = _) => ?_; try simp only [hcS] at hc))
  all_goals try exact om_
  (first | refine ret_auto ?_ | refine ret_auto' ?_); simp only [go_sem, simprocAttr, Tryz.f11]
  exact ⟨⟨rfl, rfl, rfl⟩, rfl⟩
theorem sp_SliceCategory_at {c r : Cat} {x code : Int} (hb : CatB c) (h : SlOut (selfF c) (pointF c x) c x r code) : Spec Tryz.prog 11 [catV c, iv x] [] (.tup [.agg [iv r.ob, .sl 0, .sl 1, .sl 2, .sl 3], iv code]) [(0, ⟨1, .arr (ints r.fr)⟩), (1, ⟨1, .arr (ints r.to)⟩), (2, ⟨1, .arr (ints r.id)⟩), (3, ⟨1, .arr (intss r.co)⟩)] := by
  rcases h with ⟨h1, h2, rfl⟩ | ⟨h1, h2⟩
  · exact adoptC (sp_SliceCategory_bad hb h1 h2)
  · rcases h2 with ⟨hy, rfl, rfl⟩ | ⟨hn, rfl⟩
    · exact sp_SliceCategory_yes hb h1 hy
    · obtain ⟨g1, g2, g3⟩ := oc_zero h1
      have s1 := selfF_fun g1
      have s2 := pointF_fun g1 g2 g3
      rcases hn with ⟨q, _⟩ | ⟨_, q, _⟩ | ⟨_, _, q, rfl⟩
      · exact absurd (And.intro (by assumption) (by assumption)) q
      · exact absurd rfl q
      · exact adoptC (sp_SliceCategory_big hb h1 fun hy => by have := hy.obs; have := hy.ars; omega)
theorem sp_spec_SliceCategory_at {c r : Cat} {x code : Int} (hb : CatB c) (h : SlOut (selfF c) (pointF c x) c x r code) : Spec Tryz.prog 12 [catV c, iv x] [] (.tup [.agg [iv r.ob, .sl 0, .sl 1, .sl 2, .sl 3], iv code]) [(0, ⟨1, .arr (ints r.fr)⟩), (1, ⟨1, .arr (ints r.to)⟩), (2, ⟨1, .arr (ints r.id)⟩), (3, ⟨1, .arr (intss r.co)⟩)] := by
  rcases h with ⟨h1, h2, rfl⟩ | ⟨h1, h2⟩
  · exact adoptC (sp_spec_SliceCategory_bad hb h1 h2)
  · exact sp_spec_SliceCategory_ok hb h1 h2
end Go.Eng
