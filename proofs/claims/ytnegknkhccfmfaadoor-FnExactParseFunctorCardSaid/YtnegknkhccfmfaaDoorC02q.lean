/- Lists of categories and functors; functors, by the law's own functions. -/
import Derived.Test.YtnegknkhccfmfaaDoorC01q
import Derived.Test.YtnegknkhccfmfaaDoorKanx
set_option linter.unusedSimpArgs false
set_option linter.unusedVariables false
set_option maxRecDepth 100000
set_option maxHeartbeats 8000000
namespace Go.Eng
open Go Go.Proofs Go.Cats
def catPs (f0 : Cat) (l : List Cat) : Dt := .sl 1 (.pt (catD f0)) (l.map fun f => .pt (catD f))
@[go_sem] theorem catPs_isSl (f0 l) : (catPs f0 l).isSl = true := rfl
@[go_sem] theorem catPs_sz (f0 l) : (catPs f0 l).sz = 1 := rfl
@[go_sem] theorem catPs_nc (f0) (l : List Cat) : (catPs f0 l).nc = l.length := by simp [catPs, Dt.nc, Dt.cells]
@[go_sem] theorem catPs_len (f0) (l : List Cat) : (catPs f0 l).len = l.length := by simp [catPs, Dt.len, Dt.sz, Dt.nc, Dt.cells]
@[go_sem] theorem catPs_at (f0) (l : List Cat) (k : Nat) : (catPs f0 l).at k = .pt (catD (l.getD k f0)) := by
  simp only [catPs, Dt.at, Dt.cells, Dt.df, List.getD_eq_getElem?_getD, List.getElem?_map]
  cases l[k]? <;> simp
theorem two_all {A : Type} {a0 a b : A} {P : A → Prop} : (∀ i, i < [a, b].length → P ([a, b].getD i a0)) ↔ P a ∧ P b := by
  constructor
  · intro h; exact ⟨h 0 (by simp), h 1 (by simp)⟩
  · intro h i hi
    have : i = 0 ∨ i = 1 := by simp at hi; omega
    rcases this with rfl | rfl
    · exact h.1
    · exact h.2
theorem cal_areCategories : Callable Tryd.prog 23 := ⟨_, Tryd.func23, rfl, rfl⟩
theorem sp_areCategories {f0 : Cat} {l : List Cat} (hl : l.length ≤ 1048576) (hb : ∀ i, i < l.length → CatB (l.getD i f0)) : Spec Tryd.prog 23 [.bor [] (catPs f0 l)] [] (bv (dec (∀ i, i < l.length → IsCat (l.getD i f0)))) [] := by
  refine spec_of_V (E := TE) 0 Tryd.func23 rfl (by simp [Tryd.f23]) fun X hn hX => ?_
  repeat' (first | (with_reducible first | refine V_seq ?_ | refine V_block ?_ | refine V_skip ?_ | refine V_ret ?_ | refine V_exit ?_) | ((with_reducible refine V_cond ?_); simp only [go_sem, simprocAttr]) | ((refine V_region (by rw [hn]; rfl) ?_); intro K hK) | ((first | with_reducible refine evOps_n ?_ | ((with_reducible apply evOps_g); rfl)); intro K hK; simp (contextual := true) only [go_sem, simprocAttr]) | with_reducible refine evOps_nil ?_ | ((with_reducible refine hK _ ?_); clear hK K) | (with_reducible first | refine And.intro ?_ ?_ | refine nxt_n ?_ | refine nxt_r ?_ | refine nxt_e ?_ | refine blk_n ?_ | refine blk_r ?_ | refine blk_same ?_ | refine blk_other (by decide) ?_ | refine noG_n ?_ | refine noG_r ?_ | refine noG_e ?_ | refine inR_mk ?_ ?_) | (refine fun (hc : (_ : Bool) = _) => ?_; try simp only [hcS] at hc))
  all_goals try exact om_
  refine V_loopK (G := {i : Nat // i ≤ l.length ∧ (∀ j, j < i → IsCat (l.getD j f0))}) (fun ⟨i, _⟩ => [(7, iv i)]) [5, 6] (fun ⟨i, _⟩ => []) [] (fun zz => l.length - zz.1) ⟨0, Nat.zero_le _, by omega⟩ ?_ ?_
  · exact Imp.au hX
  rintro ⟨i, hii, hwi⟩
  simp only [go_sem, simprocAttr]
  have h1 := hb i
  repeat' (first | (with_reducible first | refine V_seq ?_ | refine V_block ?_ | refine V_skip ?_ | refine V_ret ?_ | refine V_exit ?_) | ((with_reducible refine V_cond ?_); simp only [go_sem, simprocAttr]) | ((refine V_region (by rw [hn]; rfl) ?_); intro K hK) | ((first | with_reducible refine evOps_n ?_ | ((with_reducible apply evOps_g); rfl)); intro K hK; simp (contextual := true) only [go_sem, simprocAttr]) | with_reducible refine evOps_nil ?_ | ((with_reducible refine hK _ ?_); clear hK K) | (with_reducible first | refine And.intro ?_ ?_ | refine nxt_n ?_ | refine nxt_r ?_ | refine nxt_e ?_ | refine blk_n ?_ | refine blk_r ?_ | refine blk_same ?_ | refine blk_other (by decide) ?_ | refine noG_n ?_ | refine noG_r ?_ | refine noG_e ?_ | refine inR_mk ?_ ?_) | ((with_reducible refine evCall_at 42 ?_); refine EvCall.rq (a := (sp_Category_isCategory ?_)) (b := cal_Category_isCategory) (c := ?_); all_goals try simp only [go_sem, simprocAttr]) | (refine fun (hc : (_ : Bool) = _) => ?_; try simp only [hcS] at hc))
  all_goals try exact h1 (by omega)
  all_goals try exact om_
  · (first | refine ret_auto ?_ | refine ret_auto' ?_); simp only [go_sem, simprocAttr, Tryd.f23]
    exact bv_f (fun s => hc (s i (by omega)))
  · refine ⟨⟨i + 1, by omega, (by exact all_succ hwi hc)⟩, by simp only; omega, Imp.ao hX⟩
  · (first | refine ret_auto ?_ | refine ret_auto' ?_); simp only [go_sem, simprocAttr, Tryd.f23]
    exact bv_t (fun j hj => hwi j (by omega))
theorem sp_areCategories_two {f g : Cat} (hf : CatB f) (hg : CatB g) : Spec Tryd.prog 23 [.bor [] (.sl 1 (.pt (catD f)) [.pt (catD f), .pt (catD g)])] [] (bv (dec (IsCat f ∧ IsCat g))) [] := by
  have := sp_areCategories (f0 := f) (l := [f, g]) (by simp) (two_all.2 ⟨hf, hg⟩)
  rw [dec_congr two_all] at this
  exact this
theorem cal_Functor_isFunctor : Callable Tryd.prog 27 := ⟨_, Tryd.func27, rfl, rfl⟩
theorem sp_Functor_isFunctor {f : Fun} (hb : FunB f) : Spec Tryd.prog 27 [.bptr [] (funD f)] [] (bv (dec (IsFun f))) [] := by
  refine spec_of_V (E := TE) 0 Tryd.func27 rfl (by simp [Tryd.f27]) fun X hn hX => ?_
  have hb1 := hb.src
  have hb2 := hb.tgt
  repeat' (first | (with_reducible first | refine V_seq ?_ | refine V_skip ?_ | refine V_ret ?_) | ((with_reducible refine V_cond ?_); simp only [go_sem, simprocAttr]) | ((first | refine V_region (by rw [hn]; rfl) ?_ | refine V_drawn hmix (by rw [hn]; rfl) ?_); intro K hK) | ((first | with_reducible refine evOps_n ?_ | ((with_reducible apply evOps_g); rfl) | with_reducible refine evOpsD_n ?_ | ((with_reducible apply evOpsD_g); rfl)); intro K hK; simp (contextual := true) only [go_sem, simprocAttr]) | with_reducible refine evOps_nil ?_ | ((with_reducible refine evOpsD_nil ?_ ?_); kernel_rfl) | ((with_reducible refine hK _ ?_); clear hK K) | (with_reducible first | refine And.intro ?_ ?_ | refine nxt_n ?_ | refine nxt_r ?_ | refine inR_mk ?_ ?_) | ((with_reducible refine evCall_at 23 ?_); refine EvCall.rq (a := (sp_areCategories_two (by first | omega | assumption | rfl) (by first | omega | assumption | rfl))) (b := cal_areCategories) (c := ?_); all_goals try simp only [go_sem, simprocAttr]) | ((with_reducible refine evCall_at 48 ?_); refine EvCall.rq (a := (sp_Functor_fits ?_ ?_ ?_)) (b := cal_Functor_fits) (c := ?_); all_goals try simp only [go_sem, simprocAttr]) | (refine fun (hc : (_ : Bool) = _) => ?_; try simp only [hcS] at hc))
  all_goals try exact om_
  all_goals try exact hc.1
  all_goals try exact hc.2
  · (first | refine ret_auto ?_ | refine ret_auto' ?_); simp only [go_sem, simprocAttr, Tryd.f27]
    exact congrArg bv (dec_congr ⟨fun h => ⟨hc.1, hc.2, h⟩, fun h => h.fits⟩)
  · (first | refine ret_auto ?_ | refine ret_auto' ?_); simp only [go_sem, simprocAttr, Tryd.f27]
    exact bv_f fun h => hc (And.intro h.src h.tgt)
theorem _root_.Go.Cats.Fun.eq {f g : Fun} (h1 : f.src = g.src) (h2 : f.tgt = g.tgt) (h3 : f.obs = g.obs) (h4 : f.ars = g.ars) : f = g := by cases f; cases g; simp_all
theorem cal_eqFunctor : Callable Tryd.prog 8 := ⟨_, Tryd.func8, rfl, rfl⟩
theorem sp_eqFunctor {f g : Fun} (hf : FunB f) (hg : FunB g) : Spec Tryd.prog 8 [funV f, funV g] [] (bv (dec (f = g))) [] := by
  refine spec_of_V (E := TE) 0 Tryd.func8 rfl (by simp [Tryd.f8]) fun X hn hX => ?_
  obtain ⟨a1, a2, a3, a4⟩ := hf
  obtain ⟨b1, b2, b3, b4⟩ := hg
  repeat' (first | (with_reducible first | refine V_seq ?_ | refine V_skip ?_ | refine V_ret ?_) | ((with_reducible refine V_cond ?_); simp only [go_sem, simprocAttr]) | ((refine V_region (by rw [hn]; rfl) ?_); intro K hK) | ((first | with_reducible refine evOps_n ?_ | ((with_reducible apply evOps_g); rfl)); intro K hK; simp (contextual := true) only [go_sem, simprocAttr]) | with_reducible refine evOps_nil ?_ | ((with_reducible refine hK _ ?_); clear hK K) | (with_reducible first | refine And.intro ?_ ?_ | refine nxt_n ?_ | refine nxt_r ?_ | refine inR_mk ?_ ?_) | ((with_reducible refine evCall_at 9 ?_); refine EvCall.rq (a := (sp_eqCategory ?_ ?_)) (b := cal_eqCategory) (c := ?_); all_goals try simp only [go_sem, simprocAttr]) | ((with_reducible refine evCall_at 28 ?_); refine EvCall.rq (a := (sp_eqInt64S ?_ ?_)) (b := cal_eqInt64S) (c := ?_); all_goals try simp only [go_sem, simprocAttr]) | (refine fun (hc : (_ : Bool) = _) => ?_; try simp only [hcS] at hc))
  all_goals try exact om_
  all_goals try ((first | refine ret_auto ?_ | refine ret_auto' ?_); simp only [go_sem, simprocAttr, Tryd.f8]; exact bv_f (fun s => by subst s; contradiction))
  (first | refine ret_auto ?_ | refine ret_auto' ?_); simp only [go_sem, simprocAttr, Tryd.f8]
  exact bv_t (Fun.eq (by assumption) (by assumption) (by assumption) (by assumption))
def funSz (f : Fun) : Nat := catSz f.src + catSz f.tgt + f.obs.length + f.ars.length
structure FunL (f : Fun) : Prop where
  src : CatL f.src
  tgt : CatL f.tgt
  obs : (f.obs.length : Int) ≤ 9223372036854775807
  ars : (f.ars.length : Int) ≤ 9223372036854775807
end Go.Eng
