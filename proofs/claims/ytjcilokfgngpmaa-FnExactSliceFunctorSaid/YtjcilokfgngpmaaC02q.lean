/- Lists of categories and functors; functors, by the law's own functions. -/
import Derived.Test.YtjcilokfgngpmaaC01q
import Derived.Test.YtjcilokfgngpmaaG06q
set_option linter.unusedSimpArgs false
set_option linter.unusedVariables false
set_option maxRecDepth 100000
set_option maxHeartbeats 8000000
namespace Go.Eng
open Go Go.Proofs Go.Cats

def catPs (f0 : Cat) (l : List Cat) : Dt := .sl 1 (.pt (catD f0)) (l.map fun f => .pt (catD f))
@[go_sem] theorem catPs_isSl (f0 l) : (catPs f0 l).isSl = true := rfl
@[go_sem] theorem catPs_sz (f0 l) : (catPs f0 l).sz = 1 := rfl
@[go_sem] theorem catPs_nc (f0) (l : List Cat) : (catPs f0 l).nc = l.length := by simp [catPs, Dt.nc, Dt.cells]
@[go_sem] theorem catPs_len (f0) (l : List Cat) : (catPs f0 l).len = l.length := by simp [catPs, Dt.len, Dt.sz, Dt.nc, Dt.cells]
@[go_sem] theorem catPs_at (f0) (l : List Cat) (k : Nat) : (catPs f0 l).at k = .pt (catD (l.getD k f0)) := by
  simp only [catPs, Dt.at, Dt.cells, Dt.df, List.getD_eq_getElem?_getD, List.getElem?_map]
  cases l[k]? <;> simp
def funPs (f0 : Fun) (l : List Fun) : Dt := .sl 1 (.pt (funD f0)) (l.map fun f => .pt (funD f))
@[go_sem] theorem funPs_isSl (f0 l) : (funPs f0 l).isSl = true := rfl
@[go_sem] theorem funPs_sz (f0 l) : (funPs f0 l).sz = 1 := rfl
@[go_sem] theorem funPs_nc (f0) (l : List Fun) : (funPs f0 l).nc = l.length := by simp [funPs, Dt.nc, Dt.cells]
@[go_sem] theorem funPs_len (f0) (l : List Fun) : (funPs f0 l).len = l.length := by simp [funPs, Dt.len, Dt.sz, Dt.nc, Dt.cells]
@[go_sem] theorem funPs_at (f0) (l : List Fun) (k : Nat) : (funPs f0 l).at k = .pt (funD (l.getD k f0)) := by
  simp only [funPs, Dt.at, Dt.cells, Dt.df, List.getD_eq_getElem?_getD, List.getElem?_map]
  cases l[k]? <;> simp

theorem two_iv {P Q : Prop} {k : Int} (h : k = if dec (P ∧ Q) = true then 0 else 1) : Sv.v (.int .i64 k) = iv (if dec (P ∧ Q) then 0 else 1) := by rw [h]
theorem two_t {P Q : Prop} (hp : P) (hq : Q) : (0 : Int) = if dec (P ∧ Q) = true then 0 else 1 := by rw [dec_t ⟨hp, hq⟩]; rfl
theorem two_f {P Q : Prop} (h : ¬ (P ∧ Q)) : (1 : Int) = if dec (P ∧ Q) = true then 0 else 1 := by rw [dec_f h]; rfl
theorem cal_l06Two : Callable Try.prog 170 := ⟨_, Try.func170, rfl, rfl⟩
theorem sp_l06Two {f g : Fun} (hf : FunB f) (hg : FunB g) : Spec Try.prog 170 [funV f, funV g] [] (iv (if dec (IsFun f ∧ IsFun g) then 0 else 1)) [] := by
  refine spec_of_V (E := TE) 0 Try.func170 rfl (by simp [Try.f170]) fun X hn hX => ?_
  repeat' (first
    | with_reducible first | refine V_seq ?_ | refine V_block ?_ | refine V_skip ?_ | refine V_ret ?_ | refine V_exit ?_
    | ((with_reducible refine V_cond ?_); simp only [go_sem, ↓reduceIte, Nat.reduceAdd, Nat.reduceSub, Nat.reduceMul, Nat.reduceDiv, Nat.reduceLT, Nat.reduceLeDiff, Nat.reduceEqDiff, Int.reduceToNat, reduceCtorEq])
    | ((first | refine V_region (by rw [hn]; rfl) ?_ | refine V_drawn hmix (by rw [hn]; rfl) ?_); intro K hK)
    | ((first | with_reducible refine evOps_n ?_ | ((with_reducible apply evOps_g); rfl) | with_reducible refine evOpsD_n ?_ | ((with_reducible apply evOpsD_g); rfl)); intro K hK; simp (contextual := true) only [go_sem, ↓reduceIte, Nat.reduceAdd, Nat.reduceSub, Nat.reduceMul, Nat.reduceDiv, Nat.reduceLT, Nat.reduceLeDiff, Nat.reduceEqDiff, Int.reduceToNat, reduceCtorEq])
    | with_reducible refine evOps_nil ?_
    | ((with_reducible refine evOpsD_nil ?_ ?_); kernel_rfl)
    | ((with_reducible refine hK _ ?_); clear hK K)
    | with_reducible first | refine And.intro ?_ ?_ | refine nxt_n ?_ | refine nxt_r ?_ | refine nxt_e ?_ | refine blk_n ?_ | refine blk_r ?_ | refine blk_same ?_ | refine blk_other (by decide) ?_ | refine noG_n ?_ | refine noG_r ?_ | refine noG_e ?_ | refine inR_mk ?_ ?_
    | ((with_reducible refine evCall_at 199 ?_); refine EvCall.rd (by first | (simp only [go_sem, ↓reduceIte, Nat.reduceAdd, Nat.reduceSub, Nat.reduceMul, Nat.reduceDiv, Nat.reduceLT, Nat.reduceLeDiff, Nat.reduceEqDiff, Int.reduceToNat, reduceCtorEq]; rfl) | rfl) (sp_l06Is (f:=f) ?_) cal_l06Is (by simp [go_sem]) (by simp [go_sem]) ?_; all_goals try simp only [go_sem, ↓reduceIte, Nat.reduceAdd, Nat.reduceSub, Nat.reduceMul, Nat.reduceDiv, Nat.reduceLT, Nat.reduceLeDiff, Nat.reduceEqDiff, Int.reduceToNat, reduceCtorEq])
    | ((with_reducible refine evCall_at 199 ?_); refine EvCall.rd (by first | (simp only [go_sem, ↓reduceIte, Nat.reduceAdd, Nat.reduceSub, Nat.reduceMul, Nat.reduceDiv, Nat.reduceLT, Nat.reduceLeDiff, Nat.reduceEqDiff, Int.reduceToNat, reduceCtorEq]; rfl) | rfl) (sp_l06Is (f:=g) ?_) cal_l06Is (by simp [go_sem]) (by simp [go_sem]) ?_; all_goals try simp only [go_sem, ↓reduceIte, Nat.reduceAdd, Nat.reduceSub, Nat.reduceMul, Nat.reduceDiv, Nat.reduceLT, Nat.reduceLeDiff, Nat.reduceEqDiff, Int.reduceToNat, reduceCtorEq])
    | (refine fun (hc : (_ : Bool) = _) => ?_; try simp only [decide_eq_true_eq, decide_eq_false_iff_not, Bool.not_eq_true', Bool.not_eq_false', Int.not_lt, Int.not_le, Cats.dec_iff, Cats.dec_not, Bool.and_eq_true, Bool.or_eq_true, Bool.and_eq_false_iff, Bool.or_eq_false_iff, Bool.not_eq_true, Bool.not_eq_false, Decidable.not_not, not_true_eq_false, not_false_eq_true] at hc))
  all_goals try (first | (with_reducible assumption) | ((try simp only [Cat.F, Cat.T, Cat.I, Cat.C, Fun.O, Fun.A, Cat.Entry, Int.toNat_natCast] at *); omega))
  · (first | refine ret_auto ?_ | refine ret_auto' ?_); simp only [go_sem, ↓reduceIte, Nat.reduceAdd, Nat.reduceSub, Nat.reduceMul, Nat.reduceDiv, Nat.reduceLT, Nat.reduceLeDiff, Nat.reduceEqDiff, Int.reduceToNat, reduceCtorEq, Try.f170]
    exact two_iv (two_f fun h => hc h.2)
  · (first | refine ret_auto ?_ | refine ret_auto' ?_); simp only [go_sem, ↓reduceIte, Nat.reduceAdd, Nat.reduceSub, Nat.reduceMul, Nat.reduceDiv, Nat.reduceLT, Nat.reduceLeDiff, Nat.reduceEqDiff, Int.reduceToNat, reduceCtorEq, Try.f170]
    exact two_iv (two_t (by assumption) hc)
  · (first | refine ret_auto ?_ | refine ret_auto' ?_); simp only [go_sem, ↓reduceIte, Nat.reduceAdd, Nat.reduceSub, Nat.reduceMul, Nat.reduceDiv, Nat.reduceLT, Nat.reduceLeDiff, Nat.reduceEqDiff, Int.reduceToNat, reduceCtorEq, Try.f170]
    exact two_iv (two_f fun h => hc h.1)

theorem _root_.Go.Cats.Fun.eq {f g : Fun} (h1 : f.src = g.src) (h2 : f.tgt = g.tgt) (h3 : f.obs = g.obs) (h4 : f.ars = g.ars) : f = g := by cases f; cases g; simp_all
theorem cal_eqFunctor : Callable Try.prog 34 := ⟨_, Try.func34, rfl, rfl⟩
theorem sp_eqFunctor {f g : Fun} (hf : FunB f) (hg : FunB g) : Spec Try.prog 34 [funV f, funV g] [] (bv (dec (f = g))) [] := by
  refine spec_of_V (E := TE) 0 Try.func34 rfl (by simp [Try.f34]) fun X hn hX => ?_
  obtain ⟨a1, a2, a3, a4⟩ := hf
  obtain ⟨b1, b2, b3, b4⟩ := hg
  repeat' (first
    | with_reducible first | refine V_seq ?_ | refine V_block ?_ | refine V_skip ?_ | refine V_ret ?_ | refine V_exit ?_
    | ((with_reducible refine V_cond ?_); simp only [go_sem, ↓reduceIte, Nat.reduceAdd, Nat.reduceSub, Nat.reduceMul, Nat.reduceDiv, Nat.reduceLT, Nat.reduceLeDiff, Nat.reduceEqDiff, Int.reduceToNat, reduceCtorEq])
    | ((first | refine V_region (by rw [hn]; rfl) ?_ | refine V_drawn hmix (by rw [hn]; rfl) ?_); intro K hK)
    | ((first | with_reducible refine evOps_n ?_ | ((with_reducible apply evOps_g); rfl) | with_reducible refine evOpsD_n ?_ | ((with_reducible apply evOpsD_g); rfl)); intro K hK; simp (contextual := true) only [go_sem, ↓reduceIte, Nat.reduceAdd, Nat.reduceSub, Nat.reduceMul, Nat.reduceDiv, Nat.reduceLT, Nat.reduceLeDiff, Nat.reduceEqDiff, Int.reduceToNat, reduceCtorEq])
    | with_reducible refine evOps_nil ?_
    | ((with_reducible refine evOpsD_nil ?_ ?_); kernel_rfl)
    | ((with_reducible refine hK _ ?_); clear hK K)
    | with_reducible first | refine And.intro ?_ ?_ | refine nxt_n ?_ | refine nxt_r ?_ | refine nxt_e ?_ | refine blk_n ?_ | refine blk_r ?_ | refine blk_same ?_ | refine blk_other (by decide) ?_ | refine noG_n ?_ | refine noG_r ?_ | refine noG_e ?_ | refine inR_mk ?_ ?_
    | ((with_reducible refine evCall_at 35 ?_); refine EvCall.rd (by first | (simp only [go_sem, ↓reduceIte, Nat.reduceAdd, Nat.reduceSub, Nat.reduceMul, Nat.reduceDiv, Nat.reduceLT, Nat.reduceLeDiff, Nat.reduceEqDiff, Int.reduceToNat, reduceCtorEq]; rfl) | rfl) (sp_eqCategory ?_ ?_) cal_eqCategory (by simp [go_sem]) (by simp [go_sem]) ?_; all_goals try simp only [go_sem, ↓reduceIte, Nat.reduceAdd, Nat.reduceSub, Nat.reduceMul, Nat.reduceDiv, Nat.reduceLT, Nat.reduceLeDiff, Nat.reduceEqDiff, Int.reduceToNat, reduceCtorEq])
    | ((with_reducible refine evCall_at 28 ?_); refine EvCall.rd (by first | (simp only [go_sem, ↓reduceIte, Nat.reduceAdd, Nat.reduceSub, Nat.reduceMul, Nat.reduceDiv, Nat.reduceLT, Nat.reduceLeDiff, Nat.reduceEqDiff, Int.reduceToNat, reduceCtorEq]; rfl) | rfl) (sp_eqInt64S ?_ ?_) cal_eqInt64S (by simp [go_sem]) (by simp [go_sem]) ?_; all_goals try simp only [go_sem, ↓reduceIte, Nat.reduceAdd, Nat.reduceSub, Nat.reduceMul, Nat.reduceDiv, Nat.reduceLT, Nat.reduceLeDiff, Nat.reduceEqDiff, Int.reduceToNat, reduceCtorEq])
    | (refine fun (hc : (_ : Bool) = _) => ?_; try simp only [decide_eq_true_eq, decide_eq_false_iff_not, Bool.not_eq_true', Bool.not_eq_false', Int.not_lt, Int.not_le, Cats.dec_iff, Cats.dec_not, Bool.and_eq_true, Bool.or_eq_true, Bool.and_eq_false_iff, Bool.or_eq_false_iff, Bool.not_eq_true, Bool.not_eq_false, Decidable.not_not, not_true_eq_false, not_false_eq_true] at hc))
  all_goals try (first | (with_reducible assumption) | ((try simp only [Cat.F, Cat.T, Cat.I, Cat.C, Fun.O, Fun.A, Cat.Entry, Int.toNat_natCast] at *); omega))
  all_goals try ((first | refine ret_auto ?_ | refine ret_auto' ?_); simp only [go_sem, ↓reduceIte, Nat.reduceAdd, Nat.reduceSub, Nat.reduceMul, Nat.reduceDiv, Nat.reduceLT, Nat.reduceLeDiff, Nat.reduceEqDiff, Int.reduceToNat, reduceCtorEq, Try.f34]; exact bv_f (fun s => by subst s; contradiction))
  (first | refine ret_auto ?_ | refine ret_auto' ?_); simp only [go_sem, ↓reduceIte, Nat.reduceAdd, Nat.reduceSub, Nat.reduceMul, Nat.reduceDiv, Nat.reduceLT, Nat.reduceLeDiff, Nat.reduceEqDiff, Int.reduceToNat, reduceCtorEq, Try.f34]
  exact bv_t (Fun.eq (by assumption) (by assumption) (by assumption) (by assumption))

def funSz (f : Fun) : Nat := catSz f.src + catSz f.tgt + f.obs.length + f.ars.length
structure FunL (f : Fun) : Prop where
  src : CatL f.src
  tgt : CatL f.tgt
  obs : (f.obs.length : Int) ≤ 9223372036854775807
  ars : (f.ars.length : Int) ≤ 9223372036854775807
end Go.Eng
