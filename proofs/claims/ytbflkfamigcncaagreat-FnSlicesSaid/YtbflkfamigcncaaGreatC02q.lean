/- Lists of categories and functors; functors, by the law's own functions. -/
import Derived.Test.YtbflkfamigcncaaGreatKanx
import Derived.Test.YtbflkfamigcncaaGreatC01q
set_option linter.unusedSimpArgs false
set_option linter.unusedVariables false
set_option maxRecDepth 100000
set_option maxHeartbeats 8000000
namespace Go.Eng
open Go Go.Proofs Go.Cats
theorem two_iv {P Q : Prop} {k : Int} (h : k = if dec (P ∧ Q) = true then 0 else 1) : Sv.v (.int .i64 k) = iv (if dec (P ∧ Q) then 0 else 1) := by rw [h]
theorem two_t {P Q : Prop} (hp : P) (hq : Q) : (0 : Int) = if dec (P ∧ Q) = true then 0 else 1 := by rw [dec_t ⟨hp, hq⟩]; rfl
theorem two_f {P Q : Prop} (h : ¬ (P ∧ Q)) : (1 : Int) = if dec (P ∧ Q) = true then 0 else 1 := by rw [dec_f h]; rfl
theorem cal_l06Two : Callable Tryz.prog 186 := ⟨_, Tryz.func186, rfl, rfl⟩
theorem sp_l06Two {f g : Fun} (hf : FunB f) (hg : FunB g) : Spec Tryz.prog 186 [funV f, funV g] [] (iv (if dec (IsFun f ∧ IsFun g) then 0 else 1)) [] := by
  refine spec_of_V (E := TE) 0 Tryz.func186 rfl (by simp [Tryz.f186]) fun X hn hX => ?_
  repeat' (first | with_reducible refine St.f ?_ | ((with_reducible refine V_cond ?_); simp only [go_sem, simprocAttr]) | ((refine V_rg ?_); intro K hK) | ((first | with_reducible refine So.f ?_ | ((with_reducible apply evOps_g); rfl)); intro K hK; simp (contextual := true) only [go_sem, simprocAttr]) | ((with_reducible refine hK _ ?_); clear hK K) | (with_reducible first | refine And.intro ?_ ?_ | refine inR_mk ?_ ?_) | ((with_reducible refine evCall_at 225 ?_); refine EvCall.rq (a := (sp_l06Is (f:=f) ?_)) (b := cal_l06Is) (c := ?_); all_goals try simp only [go_sem, simprocAttr]) | ((with_reducible refine evCall_at 225 ?_); refine EvCall.rq (a := (sp_l06Is (f:=g) ?_)) (b := cal_l06Is) (c := ?_); all_goals try simp only [go_sem, simprocAttr]) | (refine fun (hc : (_ : Bool) = _) => ?_; try simp only [hcS] at hc))
  all_goals try exact om_
  · (first | refine ret_auto ?_ | refine ret_auto' ?_); simp only [go_sem, simprocAttr, Tryz.f186]
    exact two_iv (two_f fun h => hc h.2)
  · (first | refine ret_auto ?_ | refine ret_auto' ?_); simp only [go_sem, simprocAttr, Tryz.f186]
    exact two_iv (two_t (by assumption) hc)
  · (first | refine ret_auto ?_ | refine ret_auto' ?_); simp only [go_sem, simprocAttr, Tryz.f186]
    exact two_iv (two_f fun h => hc h.1)
theorem _root_.Go.Cats.Fun.eq {f g : Fun} (h1 : f.src = g.src) (h2 : f.tgt = g.tgt) (h3 : f.obs = g.obs) (h4 : f.ars = g.ars) : f = g := by cases f; cases g; simp_all
def funSz (f : Fun) : Nat := catSz f.src + catSz f.tgt + f.obs.length + f.ars.length
structure FunL (f : Fun) : Prop where
  src : CatL f.src
  tgt : CatL f.tgt
  obs : (f.obs.length : Int) ≤ 9223372036854775807
  ars : (f.ars.length : Int) ≤ 9223372036854775807
end Go.Eng
