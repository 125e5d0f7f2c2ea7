/- The projections of comma categories: functors, by the program and by the reference. -/
import Derived.Test.YtfinbajnalaomaaGreatKox
set_option linter.unusedSimpArgs false
set_option linter.unusedVariables false
set_option maxRecDepth 100000
set_option maxHeartbeats 16000000
namespace Go.Eng
open Go Go.Proofs Go.Cats
attribute [local go_sem] one_nil_c8 one_ptr_c8
theorem cal_Category_copy : Callable Tryz.prog 78 := ⟨_, Tryz.func78, rfl, rfl⟩
theorem sp_Category_copy {c : Cat} (hb : CatB c) : Spec Tryz.prog 78 [.bptr [] (catD c)] [] (.agg [iv c.ob, .sl 0, .sl 1, .sl 2, .sl 3]) [(0, ⟨1, .arr (ints c.fr)⟩), (1, ⟨1, .arr (ints c.to)⟩), (2, ⟨1, .arr (ints c.id)⟩), (3, ⟨1, .arr (intss c.co)⟩)] := by
  refine spec_of_V (E := TE) 0 Tryz.func78 rfl (by simp [Tryz.f78]) fun X hn hX => ?_
  obtain ⟨b1, b2, b3, b4, b5, b6, b7⟩ := hb
  repeat' (first | (with_reducible first | refine V_seq ?_ | refine V_skip ?_ | refine V_ret ?_) | ((with_reducible refine V_cond ?_); simp only [go_sem, simprocAttr]) | ((first | refine V_region (by rw [hn]; rfl) ?_ | refine V_drawn hmix (by rw [hn]; rfl) ?_); intro K hK) | ((first | with_reducible refine evOps_n ?_ | ((with_reducible apply evOps_g); rfl) | with_reducible refine evOpsD_n ?_ | ((with_reducible apply evOpsD_g); rfl)); intro K hK; simp (contextual := true) only [go_sem, simprocAttr]) | with_reducible refine evOps_nil ?_ | ((with_reducible refine evOpsD_nil ?_ ?_); kernel_rfl) | ((with_reducible refine hK _ ?_); clear hK K) | (with_reducible first | refine And.intro ?_ ?_ | refine nxt_n ?_ | refine nxt_r ?_ | refine inR_mk ?_ ?_) | ((with_reducible refine evCall_at 68 ?_); refine EvCall.rq (a := (sp_clone ?_)) (b := cal_clone) (c := ?_); all_goals try simp only [go_sem, simprocAttr]) | ((with_reducible refine evCall_at 89 ?_); refine EvCall.rq (a := (sp_clones ?_ ?_)) (b := cal_clones) (c := ?_); all_goals try simp only [go_sem, simprocAttr]) | (refine fun (hc : (_ : Bool) = _) => ?_; try simp only [hcS] at hc))
  all_goals try exact om_
  (first | refine ret_auto ?_ | refine ret_auto' ?_); simp only [go_sem, simprocAttr, Tryz.f78]
theorem cal_functor : Callable Tryz.prog 63 := ⟨_, Tryz.func63, rfl, rfl⟩
theorem sp_functor {c d : Cat} {p q : List Int} (hc : CatB c) (hd : CatB d) (hp : p.length ≤ 1048576) (hq : q.length ≤ 1048576) : Spec Tryz.prog 63 [.bptr [] (catD c), .bptr [] (catD d), .bor [] (ints p), .bor [] (ints q)] [] (.agg [iv c.ob, .sl 0, .sl 1, .sl 2, .sl 3, iv d.ob, .sl 4, .sl 5, .sl 6, .sl 7, .sl 8, .sl 9]) [(0, ⟨1, .arr (ints c.fr)⟩), (1, ⟨1, .arr (ints c.to)⟩), (2, ⟨1, .arr (ints c.id)⟩), (3, ⟨1, .arr (intss c.co)⟩), (4, ⟨1, .arr (ints d.fr)⟩), (5, ⟨1, .arr (ints d.to)⟩), (6, ⟨1, .arr (ints d.id)⟩), (7, ⟨1, .arr (intss d.co)⟩), (8, ⟨1, .arr (ints p)⟩), (9, ⟨1, .arr (ints q)⟩)] := by
  refine spec_of_V (E := TE) 0 Tryz.func63 rfl (by simp [Tryz.f63]) fun X hn hX => ?_
  repeat' (first | (with_reducible first | refine V_seq ?_ | refine V_skip ?_ | refine V_ret ?_) | ((with_reducible refine V_cond ?_); simp only [go_sem, simprocAttr]) | ((refine V_region (by rw [hn]; rfl) ?_); intro K hK) | ((first | with_reducible refine evOps_n ?_ | ((with_reducible apply evOps_g); rfl)); intro K hK; simp (contextual := true) only [go_sem, simprocAttr]) | with_reducible refine evOps_nil ?_ | ((with_reducible refine hK _ ?_); clear hK K) | (with_reducible first | refine And.intro ?_ ?_ | refine nxt_n ?_ | refine nxt_r ?_ | refine inR_mk ?_ ?_) | ((with_reducible refine evCall_at 78 ?_); refine EvCall.rq (a := (sp_Category_copy ?_)) (b := cal_Category_copy) (c := ?_); all_goals try simp only [go_sem, simprocAttr]) | ((with_reducible refine evCall_at 68 ?_); refine EvCall.rq (a := (sp_clone ?_)) (b := cal_clone) (c := ?_); all_goals try simp only [go_sem, simprocAttr]) | (refine fun (hc : (_ : Bool) = _) => ?_; try simp only [hcS] at hc))
  all_goals try exact om_
  (first | refine ret_auto ?_ | refine ret_auto' ?_); simp only [go_sem, simprocAttr, Tryz.f63]
theorem cal_l06Make : Callable Tryz.prog 36 := ⟨_, Tryz.func36, rfl, rfl⟩
theorem sp_l06Make {c d : Cat} {p q : List Int} (hc : CatB c) (hd : CatB d) (hp : p.length ≤ 1048576) (hq : q.length ≤ 1048576) : Spec Tryz.prog 36 [catV c, catV d, .bor [] (ints p), .bor [] (ints q)] [] (.agg [iv c.ob, .sl 0, .sl 1, .sl 2, .sl 3, iv d.ob, .sl 4, .sl 5, .sl 6, .sl 7, .sl 8, .sl 9]) [(0, ⟨1, .arr (ints c.fr)⟩), (1, ⟨1, .arr (ints c.to)⟩), (2, ⟨1, .arr (ints c.id)⟩), (3, ⟨1, .arr (intss c.co)⟩), (4, ⟨1, .arr (ints d.fr)⟩), (5, ⟨1, .arr (ints d.to)⟩), (6, ⟨1, .arr (ints d.id)⟩), (7, ⟨1, .arr (intss d.co)⟩), (8, ⟨1, .arr (ints p)⟩), (9, ⟨1, .arr (ints q)⟩)] := by
  refine spec_of_V (E := TE) 0 Tryz.func36 rfl (by simp [Tryz.f36]) fun X hn hX => ?_
  repeat' (first | (with_reducible first | refine V_seq ?_ | refine V_skip ?_ | refine V_ret ?_) | ((with_reducible refine V_cond ?_); simp only [go_sem, simprocAttr]) | ((first | refine V_region (by rw [hn]; rfl) ?_ | refine V_drawn hmix (by rw [hn]; rfl) ?_); intro K hK) | ((first | with_reducible refine evOps_n ?_ | ((with_reducible apply evOps_g); rfl) | with_reducible refine evOpsD_n ?_ | ((with_reducible apply evOpsD_g); rfl)); intro K hK; simp (contextual := true) only [go_sem, simprocAttr]) | with_reducible refine evOps_nil ?_ | ((with_reducible refine evOpsD_nil ?_ ?_); kernel_rfl) | ((with_reducible refine hK _ ?_); clear hK K) | (with_reducible first | refine And.intro ?_ ?_ | refine nxt_n ?_ | refine nxt_r ?_ | refine inR_mk ?_ ?_) | ((with_reducible refine evCall_at 54 ?_); refine EvCall.rq (a := (sp_l02Own ?_)) (b := cal_l02Own) (c := ?_); all_goals try simp only [go_sem, simprocAttr]) | ((with_reducible refine evCall_at 55 ?_); refine EvCall.rq (a := (sp_l01Own ?_)) (b := cal_l01Own) (c := ?_); all_goals try simp only [go_sem, simprocAttr]) | (refine fun (hc : (_ : Bool) = _) => ?_; try simp only [hcS] at hc))
  all_goals try exact om_
  (first | refine ret_auto ?_ | refine ret_auto' ?_); simp only [go_sem, simprocAttr, Tryz.f36]
noncomputable def cmF (f e : Fun) : Fun := ⟨cmC f e (cmA f e).length, f.src, colN (cObj f e) 0 (cObj f e).length, colN (cmA f e) 2 (cmA f e).length⟩
noncomputable def cmG (f e : Fun) : Fun := ⟨cmC f e (cmA f e).length, e.src, colN (cObj f e) 1 (cObj f e).length, colN (cmA f e) 3 (cmA f e).length⟩
def nilF : Fun := ⟨⟨0, [], [], [], []⟩, ⟨0, [], [], [], []⟩, [], []⟩
def CommaLeftOut (f e g : Fun) (code : Int) : Prop := (CYes f e ∧ g = cmF f e ∧ code = 0) ∨ (CNo f e code ∧ g = nilF)
def CommaRightOut (f e g : Fun) (code : Int) : Prop := (CYes f e ∧ g = cmG f e ∧ code = 0) ∨ (CNo f e code ∧ g = nilF)
end Go.Eng
