/- The projections of comma categories: functors, by the program and by the reference. -/
import Derived.Test.YtnegknkhccfmfaaDoorKox
set_option linter.unusedSimpArgs false
set_option linter.unusedVariables false
set_option maxRecDepth 100000
set_option maxHeartbeats 16000000
namespace Go.Eng
open Go Go.Proofs Go.Cats
attribute [local go_sem] one_nil_c8 one_ptr_c8
theorem cal_Category_copy : Callable Tryd.prog 46 := ⟨_, Tryd.func46, rfl, rfl⟩
theorem sp_Category_copy {c : Cat} (hb : CatB c) : Spec Tryd.prog 46 [.bptr [] (catD c)] [] (.agg [iv c.ob, .sl 0, .sl 1, .sl 2, .sl 3]) [(0, ⟨1, .arr (ints c.fr)⟩), (1, ⟨1, .arr (ints c.to)⟩), (2, ⟨1, .arr (ints c.id)⟩), (3, ⟨1, .arr (intss c.co)⟩)] := by
  refine spec_of_V (E := TE) 0 Tryd.func46 rfl (by simp [Tryd.f46]) fun X hn hX => ?_
  obtain ⟨b1, b2, b3, b4, b5, b6, b7⟩ := hb
  repeat' (first | (with_reducible first | refine V_seq ?_ | refine V_skip ?_ | refine V_ret ?_) | ((with_reducible refine V_cond ?_); simp only [go_sem, simprocAttr]) | ((first | refine V_region (by rw [hn]; rfl) ?_ | refine V_drawn hmix (by rw [hn]; rfl) ?_); intro K hK) | ((first | with_reducible refine evOps_n ?_ | ((with_reducible apply evOps_g); rfl) | with_reducible refine evOpsD_n ?_ | ((with_reducible apply evOpsD_g); rfl)); intro K hK; simp (contextual := true) only [go_sem, simprocAttr]) | with_reducible refine evOps_nil ?_ | ((with_reducible refine evOpsD_nil ?_ ?_); kernel_rfl) | ((with_reducible refine hK _ ?_); clear hK K) | (with_reducible first | refine And.intro ?_ ?_ | refine nxt_n ?_ | refine nxt_r ?_ | refine inR_mk ?_ ?_) | ((with_reducible refine evCall_at 47 ?_); refine EvCall.rq (a := (sp_clone ?_)) (b := cal_clone) (c := ?_); all_goals try simp only [go_sem, simprocAttr]) | ((with_reducible refine evCall_at 58 ?_); refine EvCall.rq (a := (sp_clones ?_ ?_)) (b := cal_clones) (c := ?_); all_goals try simp only [go_sem, simprocAttr]) | (refine fun (hc : (_ : Bool) = _) => ?_; try simp only [hcS] at hc))
  all_goals try exact om_
  (first | refine ret_auto ?_ | refine ret_auto' ?_); simp only [go_sem, simprocAttr, Tryd.f46]
theorem cal_functor : Callable Tryd.prog 26 := ⟨_, Tryd.func26, rfl, rfl⟩
theorem sp_functor {c d : Cat} {p q : List Int} (hc : CatB c) (hd : CatB d) (hp : p.length ≤ 1048576) (hq : q.length ≤ 1048576) : Spec Tryd.prog 26 [.bptr [] (catD c), .bptr [] (catD d), .bor [] (ints p), .bor [] (ints q)] [] (.agg [iv c.ob, .sl 0, .sl 1, .sl 2, .sl 3, iv d.ob, .sl 4, .sl 5, .sl 6, .sl 7, .sl 8, .sl 9]) [(0, ⟨1, .arr (ints c.fr)⟩), (1, ⟨1, .arr (ints c.to)⟩), (2, ⟨1, .arr (ints c.id)⟩), (3, ⟨1, .arr (intss c.co)⟩), (4, ⟨1, .arr (ints d.fr)⟩), (5, ⟨1, .arr (ints d.to)⟩), (6, ⟨1, .arr (ints d.id)⟩), (7, ⟨1, .arr (intss d.co)⟩), (8, ⟨1, .arr (ints p)⟩), (9, ⟨1, .arr (ints q)⟩)] := by
  refine spec_of_V (E := TE) 0 Tryd.func26 rfl (by simp [Tryd.f26]) fun X hn hX => ?_
  repeat' (first | (with_reducible first | refine V_seq ?_ | refine V_skip ?_ | refine V_ret ?_) | ((with_reducible refine V_cond ?_); simp only [go_sem, simprocAttr]) | ((refine V_region (by rw [hn]; rfl) ?_); intro K hK) | ((first | with_reducible refine evOps_n ?_ | ((with_reducible apply evOps_g); rfl)); intro K hK; simp (contextual := true) only [go_sem, simprocAttr]) | with_reducible refine evOps_nil ?_ | ((with_reducible refine hK _ ?_); clear hK K) | (with_reducible first | refine And.intro ?_ ?_ | refine nxt_n ?_ | refine nxt_r ?_ | refine inR_mk ?_ ?_) | ((with_reducible refine evCall_at 46 ?_); refine EvCall.rq (a := (sp_Category_copy ?_)) (b := cal_Category_copy) (c := ?_); all_goals try simp only [go_sem, simprocAttr]) | ((with_reducible refine evCall_at 47 ?_); refine EvCall.rq (a := (sp_clone ?_)) (b := cal_clone) (c := ?_); all_goals try simp only [go_sem, simprocAttr]) | (refine fun (hc : (_ : Bool) = _) => ?_; try simp only [hcS] at hc))
  all_goals try exact om_
  (first | refine ret_auto ?_ | refine ret_auto' ?_); simp only [go_sem, simprocAttr, Tryd.f26]
theorem cal_l06Make : Callable Tryd.prog 18 := ⟨_, Tryd.func18, rfl, rfl⟩
theorem sp_l06Make {c d : Cat} {p q : List Int} (hc : CatB c) (hd : CatB d) (hp : p.length ≤ 1048576) (hq : q.length ≤ 1048576) : Spec Tryd.prog 18 [catV c, catV d, .bor [] (ints p), .bor [] (ints q)] [] (.agg [iv c.ob, .sl 0, .sl 1, .sl 2, .sl 3, iv d.ob, .sl 4, .sl 5, .sl 6, .sl 7, .sl 8, .sl 9]) [(0, ⟨1, .arr (ints c.fr)⟩), (1, ⟨1, .arr (ints c.to)⟩), (2, ⟨1, .arr (ints c.id)⟩), (3, ⟨1, .arr (intss c.co)⟩), (4, ⟨1, .arr (ints d.fr)⟩), (5, ⟨1, .arr (ints d.to)⟩), (6, ⟨1, .arr (ints d.id)⟩), (7, ⟨1, .arr (intss d.co)⟩), (8, ⟨1, .arr (ints p)⟩), (9, ⟨1, .arr (ints q)⟩)] := by
  refine spec_of_V (E := TE) 0 Tryd.func18 rfl (by simp [Tryd.f18]) fun X hn hX => ?_
  repeat' (first | (with_reducible first | refine V_seq ?_ | refine V_skip ?_ | refine V_ret ?_) | ((with_reducible refine V_cond ?_); simp only [go_sem, simprocAttr]) | ((first | refine V_region (by rw [hn]; rfl) ?_ | refine V_drawn hmix (by rw [hn]; rfl) ?_); intro K hK) | ((first | with_reducible refine evOps_n ?_ | ((with_reducible apply evOps_g); rfl) | with_reducible refine evOpsD_n ?_ | ((with_reducible apply evOpsD_g); rfl)); intro K hK; simp (contextual := true) only [go_sem, simprocAttr]) | with_reducible refine evOps_nil ?_ | ((with_reducible refine evOpsD_nil ?_ ?_); kernel_rfl) | ((with_reducible refine hK _ ?_); clear hK K) | (with_reducible first | refine And.intro ?_ ?_ | refine nxt_n ?_ | refine nxt_r ?_ | refine inR_mk ?_ ?_) | ((with_reducible refine evCall_at 38 ?_); refine EvCall.rq (a := (sp_l02Own ?_)) (b := cal_l02Own) (c := ?_); all_goals try simp only [go_sem, simprocAttr]) | ((with_reducible refine evCall_at 39 ?_); refine EvCall.rq (a := (sp_l01Own ?_)) (b := cal_l01Own) (c := ?_); all_goals try simp only [go_sem, simprocAttr]) | (refine fun (hc : (_ : Bool) = _) => ?_; try simp only [hcS] at hc))
  all_goals try exact om_
  (first | refine ret_auto ?_ | refine ret_auto' ?_); simp only [go_sem, simprocAttr, Tryd.f18]
noncomputable def cmF (f e : Fun) : Fun := ⟨cmC f e (cmA f e).length, f.src, colN (cObj f e) 0 (cObj f e).length, colN (cmA f e) 2 (cmA f e).length⟩
noncomputable def cmG (f e : Fun) : Fun := ⟨cmC f e (cmA f e).length, e.src, colN (cObj f e) 1 (cObj f e).length, colN (cmA f e) 3 (cmA f e).length⟩
def nilF : Fun := ⟨⟨0, [], [], [], []⟩, ⟨0, [], [], [], []⟩, [], []⟩
theorem nilF_b : FunB nilF := by
  have h : CatB (⟨0, [], [], [], []⟩ : Cat) := ⟨by simp, by simp, by simp, by simp, by simp, by simp, fun i hi => by simp at hi⟩
  exact ⟨h, h, by simp [nilF], by simp [nilF]⟩
theorem adoptF {P : Program} {F : FuncId} {args : List Sv} {y : Value} (h : Spec P F args [] (.tup [.agg [iv 0, .v (.slice none 0 0), .v (.slice none 0 0), .v (.slice none 0 0), .v (.slice none 0 0), iv 0, .v (.slice none 0 0), .v (.slice none 0 0), .v (.slice none 0 0), .v (.slice none 0 0), .v (.slice none 0 0), .v (.slice none 0 0)], .v y]) []) : Spec P F args [] (.tup [.agg [iv nilF.src.ob, .sl 0, .sl 1, .sl 2, .sl 3, iv nilF.tgt.ob, .sl 4, .sl 5, .sl 6, .sl 7, .sl 8, .sl 9], .v y]) [(0, ⟨1, .arr (ints nilF.src.fr)⟩), (1, ⟨1, .arr (ints nilF.src.to)⟩), (2, ⟨1, .arr (ints nilF.src.id)⟩), (3, ⟨1, .arr (intss nilF.src.co)⟩), (4, ⟨1, .arr (ints nilF.tgt.fr)⟩), (5, ⟨1, .arr (ints nilF.tgt.to)⟩), (6, ⟨1, .arr (ints nilF.tgt.id)⟩), (7, ⟨1, .arr (intss nilF.tgt.co)⟩), (8, ⟨1, .arr (ints nilF.obs)⟩), (9, ⟨1, .arr (ints nilF.ars)⟩)] := by
  refine Spec.adopt h (emptyL_cons_i (emptyL_cons_i (emptyL_cons_i (emptyL_cons_s (emptyL_cons_i (emptyL_cons_i (emptyL_cons_i (emptyL_cons_s (emptyL_cons_i (emptyL_cons_i emptyL_nil)))))))))) fun w S v cn h => ?_
  simp only [Sv.ok, Sv.okL] at h ⊢
  obtain ⟨vs, rfl, x, r, rfl, ⟨us, rfl, hu⟩, hr⟩ := h
  refine ⟨_, rfl, _, _, rfl, ⟨us, rfl, ?_⟩, hr⟩
  obtain ⟨x0, r0, rfl, e0, x1, r1, rfl, e1, x2, r2, rfl, e2, x3, r3, rfl, e3, x4, r4, rfl, e4, x5, r5, rfl, e5, x6, r6, rfl, e6, x7, r7, rfl, e7, x8, r8, rfl, e8, x9, r9, rfl, e9, x10, r10, rfl, e10, x11, r11, rfl, e11, e12⟩ := hu
  exact ⟨_, _, rfl, e0, _, _, rfl, ⟨Nat.le_refl 1, e1⟩, _, _, rfl, ⟨Nat.le_refl 1, e2⟩, _, _, rfl, ⟨Nat.le_refl 1, e3⟩, _, _, rfl, ⟨Nat.le_refl 1, e4⟩, _, _, rfl, e5, _, _, rfl, ⟨Nat.le_refl 1, e6⟩, _, _, rfl, ⟨Nat.le_refl 1, e7⟩, _, _, rfl, ⟨Nat.le_refl 1, e8⟩, _, _, rfl, ⟨Nat.le_refl 1, e9⟩, _, _, rfl, ⟨Nat.le_refl 1, e10⟩, _, _, rfl, ⟨Nat.le_refl 1, e11⟩, e12⟩
def CommaLeftOut (f e g : Fun) (code : Int) : Prop := (CYes f e ∧ g = cmF f e ∧ code = 0) ∨ (CNo f e code ∧ g = nilF)
def CommaRightOut (f e g : Fun) (code : Int) : Prop := (CYes f e ∧ g = cmG f e ∧ code = 0) ∨ (CNo f e code ∧ g = nilF)
end Go.Eng
