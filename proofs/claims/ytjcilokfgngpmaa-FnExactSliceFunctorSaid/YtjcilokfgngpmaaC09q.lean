/- Comma categories by the program: the arrows between two objects, yielded one by one. -/
import Derived.Test.YtjcilokfgngpmaaKmx
import Derived.Test.YtjcilokfgngpmaaG01q
import Derived.Test.YtjcilokfgngpmaaKex
set_option linter.unusedSimpArgs false
set_option linter.unusedVariables false
set_option maxRecDepth 100000
set_option maxHeartbeats 16000000
namespace Go.Eng
open Go Go.Proofs Go.Cats

/-- A comma: its functors, the header of its objects, its arrows. -/
abbrev cmK (f e : Fun) (h : Value) (d : Dt) : Rk := .bx [.bptr [] (funD f), .bptr [] (funD e), .v h, .dead] 3 d
/-- What the pairs and the loop's body are handed. -/
abbrev cmL (f e : Fun) (h : Value) (s t : Nat) (p q : List Int) (A : List (List Int)) : List (Nat × Rs) :=
  [(3, ⟨1, cmK f e h (intss A)⟩), (8, ⟨1, .box [.ptr 3 0]⟩), (9, ⟨1, .box [.bor [] (ints p)]⟩), (10, ⟨1, .box [.bor [] (ints q)]⟩), (7, ⟨1, .box [iv t]⟩), (4, ⟨1, .box [.ptr 3 0]⟩), (0, ⟨1, .box [.v (.pointer none)]⟩), (1, ⟨1, .box [.v (.bool false)]⟩), (6, ⟨1, .box [iv s]⟩)]
abbrev cmI : List Nat := [3, 8, 9, 10, 7, 4, 0, 1, 6]
noncomputable def TEp (ids : List Nat) (B : Nat → Nat × Value) : Env := { P := Try.prog, ti := tenv, ok := tok, hk := pinK ids B }
@[go_sem] theorem TEp_ti (ids : List Nat) (B : Nat → Nat × Value) (t : TypeId) : (TEp ids B).ti t = tenv t := rfl
@[go_sem] theorem TEp_P (ids : List Nat) (B : Nat → Nat × Value) : (TEp ids B).P = Try.prog := rfl
attribute [local go_sem] cmK cmL

theorem sh_comma_pairs_1 {f e : Fun} {O : List (List Int)} {s t : Nat} {h : Value} {l : Nat} {rec : Loop} {B : Nat → Nat × Value} (hf : IsFun f) (he : IsFun e) (hT : f.tgt = e.tgt) (hO : ObjOK f e O) (hs : s < O.length) (ht : t < O.length)
    (hR : ∀ i j, i < (cU f 0 O s t).length → j < (cU e 1 O s t).length → cC f e O s t ((cU f 0 O s t).getD i 0) ((cU e 1 O s t).getD j 0) →
      RSpec Try.prog l [iv ((cU f 0 O s t).getD i 0), iv ((cU e 1 O s t).getD j 0)] ((11, ⟨1, .ab (recAb l rec)⟩) :: cmL f e h s t (O.getD s []) (O.getD t []) (cA f e O s t i j)) (.v (.bool true))
        ((11, ⟨1, .ab (recAb l rec)⟩) :: cmL f e h s t (O.getD s []) (O.getD t []) (cA f e O s t i j ++ [[(s : Int), (t : Int), (cU f 0 O s t).getD i 0, (cU e 1 O s t).getD j 0]])) (pinH cmI B)) :
    SpecH Try.prog 204 [.v (.func (.yield l) #[] #[]), .ptr 8 0, .ptr 9 0, .ptr 10 0] ((11, ⟨1, .ab (recAb l rec)⟩) :: cmL f e h s t (O.getD s []) (O.getD t []) (cA f e O s t 0 0)) (.tup [])
      ((11, ⟨1, .ab (recAb l rec)⟩) :: cmL f e h s t (O.getD s []) (O.getD t []) (cA f e O s (t + 1) 0 0)) (pinH cmI B) := by
  refine SpecH.pin (specH_of_V (E := TEp cmI B) 12 Try.func204 rfl (by simp [Try.f204]) fun X hn hX => ?_) (by simp [go_sem])
  have o1 := hO s hs
  have o2 := hO t ht
  have f2 := hf.src.m40
  have g2 := he.src.m40
  have f3 := hf.src.tol
  have g3 := he.src.tol
  have l1 := o1.len
  have l2 := o2.len
  repeat' (first
    | with_reducible first | refine V_seq ?_ | refine V_block ?_ | refine V_skip ?_ | refine V_ret ?_ | refine V_exit ?_
    | ((with_reducible refine V_cond ?_); simp only [go_sem, ↓reduceIte, Nat.reduceAdd, Nat.reduceSub, Nat.reduceMul, Nat.reduceDiv, Nat.reduceLT, Nat.reduceLeDiff, Nat.reduceEqDiff, Int.reduceToNat, reduceCtorEq])
    | ((first | refine V_region (by rw [hn]; rfl) ?_ | refine V_drawn hmix (by rw [hn]; rfl) ?_); intro K hK)
    | ((first | with_reducible refine evOps_n ?_ | ((with_reducible apply evOps_g); rfl) | with_reducible refine evOpsD_n ?_ | ((with_reducible apply evOpsD_g); rfl)); intro K hK; simp (contextual := true) only [go_sem, ↓reduceIte, Nat.reduceAdd, Nat.reduceSub, Nat.reduceMul, Nat.reduceDiv, Nat.reduceLT, Nat.reduceLeDiff, Nat.reduceEqDiff, Int.reduceToNat, reduceCtorEq])
    | with_reducible refine evOps_nil ?_
    | ((with_reducible refine evOpsD_nil ?_ ?_); kernel_rfl)
    | ((with_reducible refine hK _ ?_); clear hK K)
    | with_reducible first | refine And.intro ?_ ?_ | refine nxt_n ?_ | refine nxt_r ?_ | refine nxt_e ?_ | refine blk_n ?_ | refine blk_r ?_ | refine blk_same ?_ | refine blk_other (by decide) ?_ | refine noG_n ?_ | refine noG_r ?_ | refine noG_e ?_ | refine inR_mk ?_ ?_
    | ((with_reducible refine evCall_at 203 ?_); refine EvCall.rd (by first | (simp only [go_sem, ↓reduceIte, Nat.reduceAdd, Nat.reduceSub, Nat.reduceMul, Nat.reduceDiv, Nat.reduceLT, Nat.reduceLeDiff, Nat.reduceEqDiff, Int.reduceToNat, reduceCtorEq]; rfl) | rfl) (sp_Category_hom (c:=f.src) ?_ ?_) cal_Category_hom (by simp [go_sem]) (by simp [go_sem]) ?_; all_goals try simp only [go_sem, ↓reduceIte, Nat.reduceAdd, Nat.reduceSub, Nat.reduceMul, Nat.reduceDiv, Nat.reduceLT, Nat.reduceLeDiff, Nat.reduceEqDiff, Int.reduceToNat, reduceCtorEq])
    | ((with_reducible refine evCall_at 203 ?_); refine EvCall.rd (by first | (simp only [go_sem, ↓reduceIte, Nat.reduceAdd, Nat.reduceSub, Nat.reduceMul, Nat.reduceDiv, Nat.reduceLT, Nat.reduceLeDiff, Nat.reduceEqDiff, Int.reduceToNat, reduceCtorEq]; rfl) | rfl) (sp_Category_hom (c:=e.src) ?_ ?_) cal_Category_hom (by simp [go_sem]) (by simp [go_sem]) ?_; all_goals try simp only [go_sem, ↓reduceIte, Nat.reduceAdd, Nat.reduceSub, Nat.reduceMul, Nat.reduceDiv, Nat.reduceLT, Nat.reduceLeDiff, Nat.reduceEqDiff, Int.reduceToNat, reduceCtorEq])
    | (refine fun (hc : (_ : Bool) = _) => ?_; try simp only [decide_eq_true_eq, decide_eq_false_iff_not, Bool.not_eq_true', Bool.not_eq_false', Int.not_lt, Int.not_le, Cats.dec_iff, Cats.dec_not, Bool.and_eq_true, Bool.or_eq_true, Bool.and_eq_false_iff, Bool.or_eq_false_iff, Bool.not_eq_true, Bool.not_eq_false, Decidable.not_not, not_true_eq_false, not_false_eq_true] at hc))
  all_goals try (first | (with_reducible assumption) | ((try simp only [Cat.F, Cat.T, Cat.I, Cat.C, Fun.O, Fun.A, Cat.Entry, Int.toNat_natCast] at *); omega))
  have u1 := cU_len f 0 O s t
  have v1 := cU_len e 1 O s t
  have u2 : (f.src.hom ((O.getD s []).getD 0 0) ((O.getD t []).getD 0 0)).length = (cU f 0 O s t).length := rfl
  have v2 : (e.src.hom ((O.getD s []).getD 1 0) ((O.getD t []).getD 1 0)).length = (cU e 1 O s t).length := rfl
  refine V_loopK (G := {i : Nat // i ≤ (cU f 0 O s t).length ∧ (True)}) (fun ⟨i, _⟩ => [(30, iv i)]) [0, 1, 2, 3, 5, 28, 29] (fun ⟨i, _⟩ => [(11, ⟨1, .ab (recAb l rec)⟩), (3, ⟨1, cmK f e h (intss (cA f e O s t i 0))⟩), (8, ⟨1, .box [.ptr 3 0]⟩), (9, ⟨1, .box [.bor [] (ints (O.getD s []))]⟩), (10, ⟨1, .box [.bor [] (ints (O.getD t []))]⟩), (7, ⟨1, .box [iv t]⟩), (4, ⟨1, .box [.ptr 3 0]⟩), (0, ⟨1, .box [.v (.pointer none)]⟩), (1, ⟨1, .box [.v (.bool false)]⟩), (6, ⟨1, .box [iv s]⟩)]) [0, 1, 3, 4, 6, 7, 8, 9, 10, 11] (fun g => (cU f 0 O s t).length - g.1) ⟨0, Nat.zero_le _, by first | trivial | simp⟩ ?_ ?_
  · exact Imp.auto hX (by simp [go_sem, ↓reduceIte, Nat.reduceAdd, Nat.reduceSub, Nat.reduceMul, Nat.reduceDiv, Nat.reduceLT, Nat.reduceLeDiff, Nat.reduceEqDiff, Int.reduceToNat, reduceCtorEq])
  rintro ⟨i, hii, hwi⟩
  simp only [go_sem, ↓reduceIte, Nat.reduceAdd, Nat.reduceSub, Nat.reduceMul, Nat.reduceDiv, Nat.reduceLT, Nat.reduceLeDiff, Nat.reduceEqDiff, Int.reduceToNat, reduceCtorEq]
  repeat' (first
    | with_reducible first | refine V_seq ?_ | refine V_block ?_ | refine V_skip ?_ | refine V_ret ?_ | refine V_exit ?_
    | ((with_reducible refine V_cond ?_); simp only [go_sem, ↓reduceIte, Nat.reduceAdd, Nat.reduceSub, Nat.reduceMul, Nat.reduceDiv, Nat.reduceLT, Nat.reduceLeDiff, Nat.reduceEqDiff, Int.reduceToNat, reduceCtorEq])
    | ((first | refine V_region (by rw [hn]; rfl) ?_ | refine V_drawn hmix (by rw [hn]; rfl) ?_); intro K hK)
    | ((first | with_reducible refine evOps_n ?_ | ((with_reducible apply evOps_g); rfl) | with_reducible refine evOpsD_n ?_ | ((with_reducible apply evOpsD_g); rfl)); intro K hK; simp (contextual := true) only [go_sem, ↓reduceIte, Nat.reduceAdd, Nat.reduceSub, Nat.reduceMul, Nat.reduceDiv, Nat.reduceLT, Nat.reduceLeDiff, Nat.reduceEqDiff, Int.reduceToNat, reduceCtorEq])
    | with_reducible refine evOps_nil ?_
    | ((with_reducible refine evOpsD_nil ?_ ?_); kernel_rfl)
    | ((with_reducible refine hK _ ?_); clear hK K)
    | with_reducible first | refine And.intro ?_ ?_ | refine nxt_n ?_ | refine nxt_r ?_ | refine nxt_e ?_ | refine blk_n ?_ | refine blk_r ?_ | refine blk_same ?_ | refine blk_other (by decide) ?_ | refine noG_n ?_ | refine noG_r ?_ | refine noG_e ?_ | refine inR_mk ?_ ?_
    | ((with_reducible refine evCall_at 203 ?_); refine EvCall.rd (by first | (simp only [go_sem, ↓reduceIte, Nat.reduceAdd, Nat.reduceSub, Nat.reduceMul, Nat.reduceDiv, Nat.reduceLT, Nat.reduceLeDiff, Nat.reduceEqDiff, Int.reduceToNat, reduceCtorEq]; rfl) | rfl) (sp_Category_hom (c:=e.src) ?_ ?_) cal_Category_hom (by simp [go_sem]) (by simp [go_sem]) ?_; all_goals try simp only [go_sem, ↓reduceIte, Nat.reduceAdd, Nat.reduceSub, Nat.reduceMul, Nat.reduceDiv, Nat.reduceLT, Nat.reduceLeDiff, Nat.reduceEqDiff, Int.reduceToNat, reduceCtorEq])
    | (refine fun (hc : (_ : Bool) = _) => ?_; try simp only [decide_eq_true_eq, decide_eq_false_iff_not, Bool.not_eq_true', Bool.not_eq_false', Int.not_lt, Int.not_le, Cats.dec_iff, Cats.dec_not, Bool.and_eq_true, Bool.or_eq_true, Bool.and_eq_false_iff, Bool.or_eq_false_iff, Bool.not_eq_true, Bool.not_eq_false, Decidable.not_not, not_true_eq_false, not_false_eq_true] at hc))
  all_goals try (first | (with_reducible assumption) | ((try simp only [Cat.F, Cat.T, Cat.I, Cat.C, Fun.O, Fun.A, Cat.Entry, Int.toNat_natCast] at *); omega))
  · refine V_loopK (G := {j : Nat // j ≤ (cU e 1 O s t).length ∧ (True)}) (fun ⟨j, _⟩ => [(48, iv j)]) [0, 1, 2, 3, 5, 7, 28, 29, 30, 46, 47] (fun ⟨j, _⟩ => [(11, ⟨1, .ab (recAb l rec)⟩), (3, ⟨1, cmK f e h (intss (cA f e O s t i j))⟩), (8, ⟨1, .box [.ptr 3 0]⟩), (9, ⟨1, .box [.bor [] (ints (O.getD s []))]⟩), (10, ⟨1, .box [.bor [] (ints (O.getD t []))]⟩), (7, ⟨1, .box [iv t]⟩), (4, ⟨1, .box [.ptr 3 0]⟩), (0, ⟨1, .box [.v (.pointer none)]⟩), (1, ⟨1, .box [.v (.bool false)]⟩), (6, ⟨1, .box [iv s]⟩)]) [0, 1, 3, 4, 6, 7, 8, 9, 10, 11] (fun g => (cU e 1 O s t).length - g.1) ⟨0, Nat.zero_le _, by first | trivial | simp⟩ ?_ ?_
    · exact Imp.auto hX (by simp [go_sem, ↓reduceIte, Nat.reduceAdd, Nat.reduceSub, Nat.reduceMul, Nat.reduceDiv, Nat.reduceLT, Nat.reduceLeDiff, Nat.reduceEqDiff, Int.reduceToNat, reduceCtorEq])
    rintro ⟨j, hij, hwj⟩
    simp only [go_sem, ↓reduceIte, Nat.reduceAdd, Nat.reduceSub, Nat.reduceMul, Nat.reduceDiv, Nat.reduceLT, Nat.reduceLeDiff, Nat.reduceEqDiff, Int.reduceToNat, reduceCtorEq]
    have q3 := o1.ao
    have q4 := o1.ah
    have q5 := o2.ao
    have q6 := o2.ah
    have w1 : 0 ≤ (f.src.hom ((O.getD s []).getD 0 0) ((O.getD t []).getD 0 0)).getD i 0 ∧ (f.src.hom ((O.getD s []).getD 0 0) ((O.getD t []).getD 0 0)).getD i 0 < f.src.fr.length := by
      have := cU_at (f := f) (k := 0) (O := O) (s := s) (t := t) (i := i) (by omega)
      exact ⟨this.1, this.2.1⟩
    have w2 : j < (e.src.hom ((O.getD s []).getD 1 0) ((O.getD t []).getD 1 0)).length → 0 ≤ (e.src.hom ((O.getD s []).getD 1 0) ((O.getD t []).getD 1 0)).getD j 0 ∧ (e.src.hom ((O.getD s []).getD 1 0) ((O.getD t []).getD 1 0)).getD j 0 < e.src.fr.length := fun h => by
      have := cU_at (f := e) (k := 1) (O := O) (s := s) (t := t) (i := j) h
      exact ⟨this.1, this.2.1⟩
    have f4 := hf.fits.arl
    have g4 := he.fits.arl
    have f5 := hf.fits.arw
    have g5 := he.fits.arw
    rw [← hT] at g5
    have f6 := hf.tgt.toShape.col
    have f7 := fun x h1 h2 => hf.tgt.toShape.comp_row (f := x) h1 h2
    have w3 := f5 ((f.src.hom ((O.getD s []).getD 0 0) ((O.getD t []).getD 0 0)).getD i 0).toNat (by omega)
    have w4 := fun h => g5 ((e.src.hom ((O.getD s []).getD 1 0) ((O.getD t []).getD 1 0)).getD j 0).toNat (by have := w2 h; omega)
    have w5 := f7 _ w3.1 w3.2
    have w6 := f7 _ q3 q4
    repeat' (first
      | with_reducible first | refine V_seq ?_ | refine V_block ?_ | refine V_skip ?_ | refine V_ret ?_ | refine V_exit ?_
      | ((with_reducible refine V_cond ?_); simp only [go_sem, ↓reduceIte, Nat.reduceAdd, Nat.reduceSub, Nat.reduceMul, Nat.reduceDiv, Nat.reduceLT, Nat.reduceLeDiff, Nat.reduceEqDiff, Int.reduceToNat, reduceCtorEq])
      | ((first | refine V_region (by rw [hn]; rfl) ?_ | refine V_drawn hmix (by rw [hn]; rfl) ?_); intro K hK)
      | ((first | with_reducible refine evOps_n ?_ | ((with_reducible apply evOps_g); rfl) | with_reducible refine evOpsD_n ?_ | ((with_reducible apply evOpsD_g); rfl)); intro K hK; simp (contextual := true) only [go_sem, ↓reduceIte, Nat.reduceAdd, Nat.reduceSub, Nat.reduceMul, Nat.reduceDiv, Nat.reduceLT, Nat.reduceLeDiff, Nat.reduceEqDiff, Int.reduceToNat, reduceCtorEq])
      | with_reducible refine evOps_nil ?_
      | ((with_reducible refine evOpsD_nil ?_ ?_); kernel_rfl)
      | ((with_reducible refine hK _ ?_); clear hK K)
      | with_reducible first | refine And.intro ?_ ?_ | refine nxt_n ?_ | refine nxt_r ?_ | refine nxt_e ?_ | refine blk_n ?_ | refine blk_r ?_ | refine blk_same ?_ | refine blk_other (by decide) ?_ | refine noG_n ?_ | refine noG_r ?_ | refine noG_e ?_ | refine inR_mk ?_ ?_
      | ((with_reducible refine evCall_at 152 ?_); refine EvCall.rd (by first | (simp only [go_sem, ↓reduceIte, Nat.reduceAdd, Nat.reduceSub, Nat.reduceMul, Nat.reduceDiv, Nat.reduceLT, Nat.reduceLeDiff, Nat.reduceEqDiff, Int.reduceToNat, reduceCtorEq]; rfl) | rfl) (sp_Category_then (c:=f.tgt) ?_ ?_ ?_ ?_) cal_Category_then (by simp [go_sem]) (by simp [go_sem]) ?_; all_goals try simp only [go_sem, ↓reduceIte, Nat.reduceAdd, Nat.reduceSub, Nat.reduceMul, Nat.reduceDiv, Nat.reduceLT, Nat.reduceLeDiff, Nat.reduceEqDiff, Int.reduceToNat, reduceCtorEq])
      | (refine EvYield.mk (hR i j (by omega) (by omega) hc) [(11,11),(3,3),(8,8),(9,9),(10,10),(7,7),(4,4),(0,0),(1,1),(6,6)] [] (by simp [go_sem, ↓reduceIte, Nat.reduceAdd, Nat.reduceSub, Nat.reduceMul, Nat.reduceDiv, Nat.reduceLT, Nat.reduceLeDiff, Nat.reduceEqDiff, Int.reduceToNat, reduceCtorEq]) (by simp [go_sem, ↓reduceIte, Nat.reduceAdd, Nat.reduceSub, Nat.reduceMul, Nat.reduceDiv, Nat.reduceLT, Nat.reduceLeDiff, Nat.reduceEqDiff, Int.reduceToNat, reduceCtorEq, cU]) (pin_yield (by simp [go_sem, ↓reduceIte, Nat.reduceAdd, Nat.reduceSub, Nat.reduceMul, Nat.reduceDiv, Nat.reduceLT, Nat.reduceLeDiff, Nat.reduceEqDiff, Int.reduceToNat, reduceCtorEq]) (by simp [go_sem, ↓reduceIte, Nat.reduceAdd, Nat.reduceSub, Nat.reduceMul, Nat.reduceDiv, Nat.reduceLT, Nat.reduceLeDiff, Nat.reduceEqDiff, Int.reduceToNat, reduceCtorEq])) ?_; simp only [go_sem, ↓reduceIte, Nat.reduceAdd, Nat.reduceSub, Nat.reduceMul, Nat.reduceDiv, Nat.reduceLT, Nat.reduceLeDiff, Nat.reduceEqDiff, Int.reduceToNat, reduceCtorEq])
      | (refine fun (hc : (_ : Bool) = _) => ?_; try simp only [decide_eq_true_eq, decide_eq_false_iff_not, Bool.not_eq_true', Bool.not_eq_false', Int.not_lt, Int.not_le, Cats.dec_iff, Cats.dec_not, Bool.and_eq_true, Bool.or_eq_true, Bool.and_eq_false_iff, Bool.or_eq_false_iff, Bool.not_eq_true, Bool.not_eq_false, Decidable.not_not, not_true_eq_false, not_false_eq_true] at hc))
    all_goals try (first | (with_reducible assumption) | ((try simp only [Cat.F, Cat.T, Cat.I, Cat.C, Fun.O, Fun.A, Cat.Entry, Int.toNat_natCast] at *); omega))
    · refine ⟨⟨j + 1, by omega, (by trivial)⟩, by simp only; omega, Imp.auto hX (by simp only [go_sem, ↓reduceIte, Nat.reduceAdd, Nat.reduceSub, Nat.reduceMul, Nat.reduceDiv, Nat.reduceLT, Nat.reduceLeDiff, Nat.reduceEqDiff, Int.reduceToNat, reduceCtorEq, cA_t (f := f) (e := e) (O := O) (s := s) (t := t) (i := i) (j := j) hc])⟩
    · refine ⟨⟨j + 1, by omega, (by trivial)⟩, by simp only; omega, Imp.auto hX (by simp only [go_sem, ↓reduceIte, Nat.reduceAdd, Nat.reduceSub, Nat.reduceMul, Nat.reduceDiv, Nat.reduceLT, Nat.reduceLeDiff, Nat.reduceEqDiff, Int.reduceToNat, reduceCtorEq, cA_f (f := f) (e := e) (O := O) (s := s) (t := t) (i := i) (j := j) hc])⟩
    · refine ⟨⟨i + 1, by omega, (by trivial)⟩, by simp only; omega, Imp.auto hX (by simp only [go_sem, ↓reduceIte, Nat.reduceAdd, Nat.reduceSub, Nat.reduceMul, Nat.reduceDiv, Nat.reduceLT, Nat.reduceLeDiff, Nat.reduceEqDiff, Int.reduceToNat, reduceCtorEq, cA_i (f := f) (e := e) (O := O) (s := s) (t := t) (i := i) (show j = (cU e 1 O s t).length by omega)])⟩
  · rw [cA_tt (f := f) (e := e) (O := O) (s := s) (t := t) (show i = (cU f 0 O s t).length by omega)]
    (first | refine ret_auto ?_ | refine ret_auto' ?_); simp only [go_sem, ↓reduceIte, Nat.reduceAdd, Nat.reduceSub, Nat.reduceMul, Nat.reduceDiv, Nat.reduceLT, Nat.reduceLeDiff, Nat.reduceEqDiff, Int.reduceToNat, reduceCtorEq, Try.f204]
end Go.Eng
