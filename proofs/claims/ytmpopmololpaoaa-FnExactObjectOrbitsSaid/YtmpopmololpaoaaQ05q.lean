/- Isomorphisms by the program: the first one. -/
import Derived.Test.YtmpopmololpaoaaKdx
import Derived.Test.YtmpopmololpaoaaKex
import Derived.Test.YtmpopmololpaoaaKix
import Derived.Test.YtmpopmololpaoaaQ04q
import Derived.Test.YtmpopmololpaoaaEngFtq
set_option linter.unusedSimpArgs false
set_option linter.unusedVariables false
set_option maxRecDepth 100000
set_option maxHeartbeats 16000000
namespace Go.Eng
open Go Go.Proofs Go.Cats
attribute [local go_sem] List.set_cons_zero List.set_cons_succ
theorem cal_searchable : Callable Try.prog 32 := ⟨_, Try.func32, rfl, rfl⟩
theorem sp_searchable_yes {c d : Cat} (hc : CatB c) (hd : CatB d) (h1 : c.fr.length ≤ 16) (h2 : d.fr.length ≤ 16) : Spec Try.prog 32 [.bptr [] (catD c), .bptr [] (catD d)] [] (bv true) [] := by
  refine spec_of_V (E := TE) 0 Try.func32 rfl (by simp [Try.f32]) fun X hn hX => ?_
  repeat' (first | (with_reducible first | refine V_seq ?_ | refine V_skip ?_ | refine V_ret ?_) | ((with_reducible refine V_cond ?_); simp only [go_sem, simprocAttr]) | ((refine V_region (by rw [hn]; rfl) ?_); intro K hK) | ((first | with_reducible refine evOps_n ?_ | ((with_reducible apply evOps_g); rfl)); intro K hK; simp (contextual := true) only [go_sem, simprocAttr]) | with_reducible refine evOps_nil ?_ | ((with_reducible refine hK _ ?_); clear hK K) | (with_reducible first | refine And.intro ?_ ?_ | refine nxt_n ?_ | refine nxt_r ?_ | refine inR_mk ?_ ?_) | ((with_reducible refine evCall_at 47 ?_); refine EvCall.rq (a := (sp_Category_arrows)) (b := cal_Category_arrows) (c := ?_); all_goals try simp only [go_sem, simprocAttr]) | (refine fun (hc : (_ : Bool) = _) => ?_; try simp only [hcS] at hc))
  all_goals try (first | (with_reducible assumption) | ((try simp only [Cat.F, Cat.T, Cat.I, Cat.C, Fun.O, Fun.A, Cat.Entry, Int.toNat_natCast] at *); omega))
  · (first | refine ret_auto ?_ | refine ret_auto' ?_); simp only [go_sem, simprocAttr, Try.f32]
    rw [decide_eq_true (show (d.fr.length : Int) ≤ 16 by omega)]
theorem sp_searchable_no {c d : Cat} (hc : CatB c) (hd : CatB d) (h : ¬ (c.fr.length ≤ 16 ∧ d.fr.length ≤ 16)) : Spec Try.prog 32 [.bptr [] (catD c), .bptr [] (catD d)] [] (bv false) [] := by
  refine spec_of_V (E := TE) 0 Try.func32 rfl (by simp [Try.f32]) fun X hn hX => ?_
  repeat' (first | (with_reducible first | refine V_seq ?_ | refine V_skip ?_ | refine V_ret ?_) | ((with_reducible refine V_cond ?_); simp only [go_sem, simprocAttr]) | ((refine V_region (by rw [hn]; rfl) ?_); intro K hK) | ((first | with_reducible refine evOps_n ?_ | ((with_reducible apply evOps_g); rfl)); intro K hK; simp (contextual := true) only [go_sem, simprocAttr]) | with_reducible refine evOps_nil ?_ | ((with_reducible refine hK _ ?_); clear hK K) | (with_reducible first | refine And.intro ?_ ?_ | refine nxt_n ?_ | refine nxt_r ?_ | refine inR_mk ?_ ?_) | ((with_reducible refine evCall_at 47 ?_); refine EvCall.rq (a := (sp_Category_arrows)) (b := cal_Category_arrows) (c := ?_); all_goals try simp only [go_sem, simprocAttr]) | (refine fun (hc : (_ : Bool) = _) => ?_; try simp only [hcS] at hc))
  all_goals try (first | (with_reducible assumption) | ((try simp only [Cat.F, Cat.T, Cat.I, Cat.C, Fun.O, Fun.A, Cat.Entry, Int.toNat_natCast] at *); omega))
  · (first | refine ret_auto ?_ | refine ret_auto' ?_); simp only [go_sem, simprocAttr, Try.f32]
    rw [decide_eq_false (show ¬ (d.fr.length : Int) ≤ 16 by omega)]
  · (first | refine ret_auto ?_ | refine ret_auto' ?_); simp only [go_sem, simprocAttr, Try.f32]
theorem cal_isomorphisms : Callable Try.prog 33 := ⟨_, Try.func33, rfl, rfl⟩
theorem sp_isomorphisms_ne {c d : Cat} {m : Int} (hc : CatB c) (hd : CatB d) (h : ¬ (c.ob = d.ob ∧ c.fr.length = d.fr.length)) : Spec Try.prog 33 [.bptr [] (catD c), .bptr [] (catD d), iv m] [] (.tup [.v (.slice none 0 0), bv true]) [] := by
  refine spec_of_V (E := TE) 0 Try.func33 rfl (by simp [Try.f33]) fun X hn hX => ?_
  repeat' (first | (with_reducible first | refine V_seq ?_ | refine V_skip ?_ | refine V_ret ?_) | ((with_reducible refine V_cond ?_); simp only [go_sem, simprocAttr]) | ((first | refine V_region (by rw [hn]; rfl) ?_ | refine V_drawn hmix (by rw [hn]; rfl) ?_); intro K hK) | ((first | with_reducible refine evOps_n ?_ | ((with_reducible apply evOps_g); rfl) | with_reducible refine evOpsD_n ?_ | ((with_reducible apply evOpsD_g); rfl)); intro K hK; simp (contextual := true) only [go_sem, simprocAttr]) | with_reducible refine evOps_nil ?_ | ((with_reducible refine evOpsD_nil ?_ ?_); kernel_rfl) | ((with_reducible refine hK _ ?_); clear hK K) | (with_reducible first | refine And.intro ?_ ?_ | refine nxt_n ?_ | refine nxt_r ?_ | refine inR_mk ?_ ?_) | ((with_reducible refine evCall_at 47 ?_); refine EvCall.rq (a := (sp_Category_arrows)) (b := cal_Category_arrows) (c := ?_); all_goals try simp only [go_sem, simprocAttr]) | (refine fun (hc : (_ : Bool) = _) => ?_; try simp only [hcS] at hc))
  all_goals try (first | (with_reducible assumption) | ((try simp only [Cat.F, Cat.T, Cat.I, Cat.C, Fun.O, Fun.A, Cat.Entry, Int.toNat_natCast] at *); omega))
  all_goals ((first | refine ret_auto ?_ | refine ret_auto' ?_); simp only [go_sem, simprocAttr, Try.f33])
theorem sp_isomorphisms_eq {c d : Cat} {M : Nat} {r : Bool × List Fun} (hc : CatB c) (hd : CatB d) (sc : IsCat c) (sd : IsCat d) (hM : M ≤ 4096) (h1 : c.ob = d.ob) (h2 : c.fr.length = d.fr.length) (hr : eat (stL M) [] (funX c d true c.ob.toNat []) = r) : Spec Try.prog 33 [.bptr [] (catD c), .bptr [] (catD d), iv M] [] (.tup [.sl 0, bv r.1]) [(0, ⟨1, .arr (funsD r.2)⟩)] := by
  subst hr
  refine spec_of_V (E := TE) 0 Try.func33 rfl (by simp [Try.f33]) fun X hn hX => ?_
  repeat' (first | (with_reducible first | refine V_seq ?_ | refine V_skip ?_ | refine V_ret ?_) | ((with_reducible refine V_cond ?_); simp only [go_sem, simprocAttr]) | ((first | refine V_region (by rw [hn]; rfl) ?_ | refine V_drawn hmix (by rw [hn]; rfl) ?_); intro K hK) | ((first | with_reducible refine evOps_n ?_ | ((with_reducible apply evOps_g); rfl) | with_reducible refine evOpsD_n ?_ | ((with_reducible apply evOpsD_g); rfl)); intro K hK; simp (contextual := true) only [go_sem, simprocAttr]) | with_reducible refine evOps_nil ?_ | ((with_reducible refine evOpsD_nil ?_ ?_); kernel_rfl) | ((with_reducible refine hK _ ?_); clear hK K) | (with_reducible first | refine And.intro ?_ ?_ | refine nxt_n ?_ | refine nxt_r ?_ | refine inR_mk ?_ ?_) | ((with_reducible refine evCall_at 47 ?_); refine EvCall.rq (a := (sp_Category_arrows)) (b := cal_Category_arrows) (c := ?_); all_goals try simp only [go_sem, simprocAttr]) | ((with_reducible refine evCall_at 48 ?_); refine EvCall.rq (a := (sp_allFunctors (c:=c) (d:=d) ?_ ?_ ?_ ?_ ?_)) (b := cal_allFunctors) (c := ?_); all_goals try simp only [go_sem, simprocAttr]) | (refine fun (hc : (_ : Bool) = _) => ?_; try simp only [hcS] at hc))
  all_goals try (first | (with_reducible assumption) | ((try simp only [Cat.F, Cat.T, Cat.I, Cat.C, Fun.O, Fun.A, Cat.Entry, Int.toNat_natCast] at *); omega))
  all_goals ((first | refine ret_auto ?_ | refine ret_auto' ?_); simp only [go_sem, simprocAttr, Try.f33])
structure _root_.Go.Cats.IYes (c d : Cat) (g : Fun) : Prop where
  src : IsCat c
  tgt : IsCat d
  small : c.fr.length ≤ 16 ∧ d.fr.length ≤ 16
  ob : c.ob = d.ob
  ar : c.fr.length = d.fr.length
  fst : ∃ D, funX c d true c.ob.toNat [] = g :: D
end Go.Eng
