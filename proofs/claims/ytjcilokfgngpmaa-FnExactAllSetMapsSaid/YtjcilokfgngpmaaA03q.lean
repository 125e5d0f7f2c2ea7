/- The search of natural maps: one choice, by the program. -/
import Derived.Test.YtjcilokfgngpmaaKmx
import Derived.Test.YtjcilokfgngpmaaKdx
import Derived.Test.YtjcilokfgngpmaaA02q
import Derived.Test.YtjcilokfgngpmaaS01q
set_option linter.unusedSimpArgs false
set_option linter.unusedVariables false
set_option maxRecDepth 100000
set_option maxHeartbeats 16000000
namespace Go.Eng
open Go Go.Proofs Go.Cats
attribute [local go_sem] arrAt_I setP_zero setNt_zero

theorem sp_mapSearch_set_A {f g : SF} {O : List (List Int)} {P : List (List Int)} {N : List (Int × Int)} {x e u : Nat} (h : SPair f g) (hP : P.length = f.sizes.length) (hR : ∀ y, y < P.length → ((P.getD y []).length : Int) = f.sizes.getD y 0) (hN : N.length ≤ 4096) (he : (e : Int) < f.sizes.getD x 0) (hu : (u : Int) < g.sizes.getD x 0) : Spec Try.prog 185 [.ptr 0 0, iv x, iv e, iv u, .ptr 2 0] [(0, ⟨1, .box [.bptr [] (sfD f), .bptr [] (sfD g), .v (.bool true), .sl 1, .fn 93 [.ptr 4 0]]⟩), (1, ⟨1, .arr (intss P)⟩), (2, ⟨1, .bx [.dead] 0 (prs N)⟩), (4, ⟨1, .bx [.dead] 0 (intss O)⟩)] (bv (setA f g true x e u P N).1) [(0, ⟨1, .box [.bptr [] (sfD f), .bptr [] (sfD g), .v (.bool true), .sl 1, .fn 93 [.ptr 4 0]]⟩), (1, ⟨1, .arr (intss (setA f g true x e u P N).2.1)⟩), (2, ⟨1, .bx [.dead] 0 (prs (setA f g true x e u P N).2.2)⟩), (4, ⟨1, .bx [.dead] 0 (intss O)⟩)] := by
  refine spec_of_V (E := TE) 5 Try.func185 rfl (by simp [Try.f185]) fun X hn hX => ?_
  have c40 := h.src.cat.m40
  repeat' (first
    | with_reducible first | refine V_seq ?_ | refine V_block ?_ | refine V_skip ?_ | refine V_ret ?_ | refine V_exit ?_
    | ((with_reducible refine V_cond ?_); simp only [go_sem, ↓reduceIte, Nat.reduceAdd, Nat.reduceSub, Nat.reduceMul, Nat.reduceDiv, Nat.reduceLT, Nat.reduceLeDiff, Nat.reduceEqDiff, Int.reduceToNat, reduceCtorEq])
    | ((first | refine V_region (by rw [hn]; rfl) ?_ | refine V_drawn hmix (by rw [hn]; rfl) ?_); intro K hK)
    | ((first | with_reducible refine evOps_n ?_ | ((with_reducible apply evOps_g); rfl) | with_reducible refine evOpsD_n ?_ | ((with_reducible apply evOpsD_g); rfl)); intro K hK; simp (contextual := true) only [go_sem, ↓reduceIte, Nat.reduceAdd, Nat.reduceSub, Nat.reduceMul, Nat.reduceDiv, Nat.reduceLT, Nat.reduceLeDiff, Nat.reduceEqDiff, Int.reduceToNat, reduceCtorEq])
    | with_reducible refine evOps_nil ?_
    | ((with_reducible refine evOpsD_nil ?_ ?_); kernel_rfl)
    | ((with_reducible refine hK _ ?_); clear hK K)
    | with_reducible first | refine And.intro ?_ ?_ | refine nxt_n ?_ | refine nxt_r ?_ | refine nxt_e ?_ | refine blk_n ?_ | refine blk_r ?_ | refine blk_same ?_ | refine blk_other (by decide) ?_ | refine noG_n ?_ | refine noG_r ?_ | refine noG_e ?_ | refine inR_mk ?_ ?_
    | ((with_reducible refine evCall_at 150 ?_); refine EvCall.rd (by first | (simp only [go_sem, ↓reduceIte, Nat.reduceAdd, Nat.reduceSub, Nat.reduceMul, Nat.reduceDiv, Nat.reduceLT, Nat.reduceLeDiff, Nat.reduceEqDiff, Int.reduceToNat, reduceCtorEq]; rfl) | rfl) (sp_Category_outOf ?_) cal_Category_outOf (by simp [go_sem]) (by simp [go_sem]) ?_; all_goals try simp only [go_sem, ↓reduceIte, Nat.reduceAdd, Nat.reduceSub, Nat.reduceMul, Nat.reduceDiv, Nat.reduceLT, Nat.reduceLeDiff, Nat.reduceEqDiff, Int.reduceToNat, reduceCtorEq])
    | (refine fun (hc : (_ : Bool) = _) => ?_; try simp only [decide_eq_true_eq, decide_eq_false_iff_not, Bool.not_eq_true', Bool.not_eq_false', Int.not_lt, Int.not_le, Cats.dec_iff, Cats.dec_not, Bool.and_eq_true, Bool.or_eq_true, Bool.and_eq_false_iff, Bool.or_eq_false_iff, Bool.not_eq_true, Bool.not_eq_false, Decidable.not_not, not_true_eq_false, not_false_eq_true] at hc))
  all_goals try (first | (with_reducible assumption) | ((try simp only [Cat.F, Cat.T, Cat.I, Cat.C, Fun.O, Fun.A, Cat.Entry, Int.toNat_natCast] at *); omega))
  refine V_loopK (G := {j : Nat // j ≤ (outI f.shape x f.shape.fr.length).length ∧ ((setT f g true x e u P N j).1 = true)}) (fun ⟨j, _⟩ => [(27, iv j)]) [0, 2, 3, 4, 11, 25, 26] (fun ⟨j, _⟩ => [(0, ⟨1, .box [.bptr [] (sfD f), .bptr [] (sfD g), .v (.bool true), .sl 1, .fn 93 [.ptr 4 0]]⟩), (1, ⟨1, .arr (intss (setP f g true x e u P N j))⟩), (2, ⟨1, .bx [.dead] 0 (prs (setNt f g true x e u P N j))⟩), (4, ⟨1, .bx [.dead] 0 (intss O)⟩)]) [0, 1, 2, 4] (fun g => (outI f.shape x f.shape.fr.length).length - g.1) ⟨0, Nat.zero_le _, by rfl⟩ ?_ ?_
  · exact Imp.auto hX (by simp [go_sem, ↓reduceIte, Nat.reduceAdd, Nat.reduceSub, Nat.reduceMul, Nat.reduceDiv, Nat.reduceLT, Nat.reduceLeDiff, Nat.reduceEqDiff, Int.reduceToNat, reduceCtorEq])
  rintro ⟨j, hij, hwj⟩
  simp only [go_sem, ↓reduceIte, Nat.reduceAdd, Nat.reduceSub, Nat.reduceMul, Nat.reduceDiv, Nat.reduceLT, Nat.reduceLeDiff, Nat.reduceEqDiff, Int.reduceToNat, reduceCtorEq]
  have a0 := set_facts h hP hR he hu true N j
  repeat' (first
    | (refine V_at 11 (Imp.open_ 1 (f.shape.to.getD (arrAt f x j) 0).toNat _ [] (.inr ⟨rfl, rfl⟩) (by simp [go_sem, ↓reduceIte, Nat.reduceAdd, Nat.reduceSub, Nat.reduceMul, Nat.reduceDiv, Nat.reduceLT, Nat.reduceLeDiff, Nat.reduceEqDiff, Int.reduceToNat, reduceCtorEq]) (by simp only [go_sem, ↓reduceIte, Nat.reduceAdd, Nat.reduceSub, Nat.reduceMul, Nat.reduceDiv, Nat.reduceLT, Nat.reduceLeDiff, Nat.reduceEqDiff, Int.reduceToNat, reduceCtorEq]; omega) rfl (by simp only [go_sem, ↓reduceIte, Nat.reduceAdd, Nat.reduceSub, Nat.reduceMul, Nat.reduceDiv, Nat.reduceLT, Nat.reduceLeDiff, Nat.reduceEqDiff, Int.reduceToNat, reduceCtorEq]) rfl) ?_; simp only [go_sem, ↓reduceIte, Nat.reduceAdd, Nat.reduceSub, Nat.reduceMul, Nat.reduceDiv, Nat.reduceLT, Nat.reduceLeDiff, Nat.reduceEqDiff, Int.reduceToNat, reduceCtorEq])
    | refine V_at 12 (Imp.closeA 1 6 (f.shape.to.getD (arrAt f x j) 0).toNat _ _ rfl rfl (by decide) (by simp only [go_sem, ↓reduceIte, Nat.reduceAdd, Nat.reduceSub, Nat.reduceMul, Nat.reduceDiv, Nat.reduceLT, Nat.reduceLeDiff, Nat.reduceEqDiff, Int.reduceToNat, reduceCtorEq]; omega)) ?_
    | (refine V_at 12 (Imp.openB 2 0 _ _ rfl (Nat.le_refl 1) rfl rfl) ?_; simp only [List.set_cons_zero])
    | (refine V_at 13 (Imp.closeB 2 9 0 _ _ rfl rfl rfl (by decide)) ?_; simp only [List.set_cons_zero])
    | with_reducible first | refine V_seq ?_ | refine V_block ?_ | refine V_skip ?_ | refine V_ret ?_ | refine V_exit ?_
    | ((with_reducible refine V_cond ?_); simp only [go_sem, ↓reduceIte, Nat.reduceAdd, Nat.reduceSub, Nat.reduceMul, Nat.reduceDiv, Nat.reduceLT, Nat.reduceLeDiff, Nat.reduceEqDiff, Int.reduceToNat, reduceCtorEq])
    | ((first | refine V_region (by rw [hn]; rfl) ?_ | refine V_drawn hmix (by rw [hn]; rfl) ?_); intro K hK)
    | ((first | with_reducible refine evOps_n ?_ | ((with_reducible apply evOps_g); rfl) | with_reducible refine evOpsD_n ?_ | ((with_reducible apply evOpsD_g); rfl)); intro K hK; simp (contextual := true) only [go_sem, ↓reduceIte, Nat.reduceAdd, Nat.reduceSub, Nat.reduceMul, Nat.reduceDiv, Nat.reduceLT, Nat.reduceLeDiff, Nat.reduceEqDiff, Int.reduceToNat, reduceCtorEq])
    | with_reducible refine evOps_nil ?_
    | ((with_reducible refine evOpsD_nil ?_ ?_); kernel_rfl)
    | ((with_reducible refine hK _ ?_); clear hK K)
    | with_reducible first | refine And.intro ?_ ?_ | refine nxt_n ?_ | refine nxt_r ?_ | refine nxt_e ?_ | refine blk_n ?_ | refine blk_r ?_ | refine blk_same ?_ | refine blk_other (by decide) ?_ | refine noG_n ?_ | refine noG_r ?_ | refine noG_e ?_ | refine inR_mk ?_ ?_
    | ((with_reducible refine evCall_at 151 ?_); refine EvCall.rd (by first | (simp only [go_sem, ↓reduceIte, Nat.reduceAdd, Nat.reduceSub, Nat.reduceMul, Nat.reduceDiv, Nat.reduceLT, Nat.reduceLeDiff, Nat.reduceEqDiff, Int.reduceToNat, reduceCtorEq]; rfl) | rfl) (sp_has ?_) cal_has (by simp [go_sem]) (by simp [go_sem]) ?_; all_goals try simp only [go_sem, ↓reduceIte, Nat.reduceAdd, Nat.reduceSub, Nat.reduceMul, Nat.reduceDiv, Nat.reduceLT, Nat.reduceLeDiff, Nat.reduceEqDiff, Int.reduceToNat, reduceCtorEq])
    | (refine fun (hc : (_ : Bool) = _) => ?_; try simp only [decide_eq_true_eq, decide_eq_false_iff_not, Bool.not_eq_true', Bool.not_eq_false', Int.not_lt, Int.not_le, Cats.dec_iff, Cats.dec_not, Bool.and_eq_true, Bool.or_eq_true, Bool.and_eq_false_iff, Bool.or_eq_false_iff, Bool.not_eq_true, Bool.not_eq_false, Decidable.not_not, not_true_eq_false, not_false_eq_true] at hc))
  all_goals try (first | (with_reducible assumption) | ((try simp only [Cat.F, Cat.T, Cat.I, Cat.C, Fun.O, Fun.A, Cat.Entry, Int.toNat_natCast] at *); omega))
  · (first | refine ret_auto ?_ | refine ret_auto' ?_); simp only [go_sem, ↓reduceIte, Nat.reduceAdd, Nat.reduceSub, Nat.reduceMul, Nat.reduceDiv, Nat.reduceLT, Nat.reduceLeDiff, Nat.reduceEqDiff, Int.reduceToNat, reduceCtorEq, Try.f185]
    have e1 := setT_c1 (f := f) (g := g) (by omega) hwj (by assumption) hc; rw [e1]; exact ⟨⟨rfl, rfl⟩, rfl⟩
  · have e1 := setT_c2 (f := f) (g := g) (by omega) hwj (by assumption) hc
    have e2 : setP f g true x e u P N (j + 1) = setP f g true x e u P N j := congrArg (fun t => t.2.1) e1
    have e3 : setNt f g true x e u P N (j + 1) = setNt f g true x e u P N j := congrArg (fun t => t.2.2) e1
    refine ⟨⟨j + 1, by omega, (by exact congrArg Prod.fst e1)⟩, by simp only; omega, Imp.auto hX (by simp only [go_sem, ↓reduceIte, Nat.reduceAdd, Nat.reduceSub, Nat.reduceMul, Nat.reduceDiv, Nat.reduceLT, Nat.reduceLeDiff, Nat.reduceEqDiff, Int.reduceToNat, reduceCtorEq, e2, e3])⟩
  · (first | refine ret_auto ?_ | refine ret_auto' ?_); simp only [go_sem, ↓reduceIte, Nat.reduceAdd, Nat.reduceSub, Nat.reduceMul, Nat.reduceDiv, Nat.reduceLT, Nat.reduceLeDiff, Nat.reduceEqDiff, Int.reduceToNat, reduceCtorEq, Try.f185]
    have e1 := setT_c3 (f := f) (g := g) (by omega) hwj (Int.not_le.2 (by assumption)) rfl hc; rw [e1]; exact ⟨⟨rfl, rfl⟩, rfl⟩
  · have e1 := setT_c4 (f := f) (g := g) (P := P) (N := N) (once := true) (u := u) (e := e) (by omega) hwj (Int.not_le.2 (by assumption)) (fun q => hc q.2)
    have e2 : setP f g true x e u P N (j + 1) = (setP f g true x e u P N j).set (f.shape.to.getD (arrAt f x j) 0).toNat (((setP f g true x e u P N j).getD (f.shape.to.getD (arrAt f x j) 0).toNat []).set ((f.acts.getD (arrAt f x j) []).getD e 0).toNat ((g.acts.getD (arrAt f x j) []).getD u 0)) := congrArg (fun t => t.2.1) e1
    have e3 : setNt f g true x e u P N (j + 1) = setNt f g true x e u P N j ++ [(f.shape.to.getD (arrAt f x j) 0, (f.acts.getD (arrAt f x j) []).getD e 0)] := by
      have e4 := congrArg (fun t => t.2.2) e1
      have e5 : ((f.ty (arrAt f x j) : Nat) : Int) = f.shape.to.getD (arrAt f x j) 0 := by
        have := (a0 (by omega)).2.1.1
        simp only [SF.ty]; omega
      rw [e5] at e4
      exact e4
    refine ⟨⟨j + 1, by omega, (by exact congrArg Prod.fst e1)⟩, by simp only; omega, Imp.auto hX (by simp only [go_sem, ↓reduceIte, Nat.reduceAdd, Nat.reduceSub, Nat.reduceMul, Nat.reduceDiv, Nat.reduceLT, Nat.reduceLeDiff, Nat.reduceEqDiff, Int.reduceToNat, reduceCtorEq, e2, e3])⟩
  · have e1 := setT_end (f := f) (g := g) (P := P) (N := N) (once := true) (u := u) (e := e) (x := x) (j := j) (by omega)
    (first | refine ret_auto ?_ | refine ret_auto' ?_); simp only [go_sem, ↓reduceIte, Nat.reduceAdd, Nat.reduceSub, Nat.reduceMul, Nat.reduceDiv, Nat.reduceLT, Nat.reduceLeDiff, Nat.reduceEqDiff, Int.reduceToNat, reduceCtorEq, Try.f185]
    rw [← e1]; exact ⟨⟨rfl, rfl⟩, congrArg bv hwj.symm⟩
end Go.Eng
