/- Comparisons of the laws, the second set: lists of lists, categories, functors. -/
import Derived.Test.YtbflkfamigcncaaGreatC02q
import Derived.Test.YtbflkfamigcncaaGreatL01q
set_option linter.unusedSimpArgs false
set_option linter.unusedVariables false
set_option maxRecDepth 100000
set_option maxHeartbeats 8000000
namespace Go.Eng
open Go Go.Proofs Go.Cats
theorem cal_likeFunctors5 : Callable Tryz.prog 17 := ⟨_, Tryz.func17, rfl, rfl⟩
theorem sp_likeFunctors5 {f g : Fun} (hf : FunB f) (hg : FunB g) : Spec Tryz.prog 17 [funV f, funV g] [] (bv (dec (f = g))) [] := by
  refine spec_of_V (E := TE) 0 Tryz.func17 rfl (by simp [Tryz.f17]) fun X hn hX => ?_
  obtain ⟨a1, a2, a3, a4⟩ := hf
  obtain ⟨b1, b2, b3, b4⟩ := hg
  repeat' (first | with_reducible refine St.f ?_ | ((with_reducible refine V_cond ?_); simp only [go_sem, simprocAttr]) | ((refine V_rg ?_); intro K hK) | ((first | with_reducible refine So.f ?_ | ((with_reducible apply evOps_g); rfl)); intro K hK; simp (contextual := true) only [go_sem, simprocAttr]) | ((with_reducible refine hK _ ?_); clear hK K) | (with_reducible first | refine And.intro ?_ ?_ | refine inR_mk ?_ ?_) | ((with_reducible refine evCall_at 13 ?_); refine EvCall.rq (a := (sp_likeCategories5 ?_ ?_)) (b := cal_likeCategories5) (c := ?_); all_goals try simp only [go_sem, simprocAttr]) | ((with_reducible refine evCall_at 69 ?_); refine EvCall.rq (a := (sp_likeInts ?_ ?_)) (b := cal_likeInts) (c := ?_); all_goals try simp only [go_sem, simprocAttr]) | (refine fun (hc : (_ : Bool) = _) => ?_; try simp only [hcS] at hc))
  all_goals try exact om_
  · (first | refine ret_auto ?_ | refine ret_auto' ?_); simp only [go_sem, simprocAttr, Tryz.f17]
    exact congrArg (fun b => Sv.v (.bool b)) (dec_congr ⟨fun h => Fun.eq (by assumption) (by assumption) hc h, fun e => by rw [e]⟩)
  all_goals ((first | refine ret_auto ?_ | refine ret_auto' ?_); simp only [go_sem, simprocAttr, Tryz.f17]; exact bv_f (fun e => hc (by rw [e])))
end Go.Eng
