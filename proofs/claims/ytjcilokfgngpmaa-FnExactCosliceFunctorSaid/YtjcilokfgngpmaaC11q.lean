/- Category.table: the composites of a category, by a closure that only reads. -/
import Derived.Test.YtjcilokfgngpmaaG01q
import Derived.Test.YtjcilokfgngpmaaKex
set_option linter.unusedSimpArgs false
set_option linter.unusedVariables false
set_option maxRecDepth 100000
set_option maxHeartbeats 16000000
namespace Go.Eng
open Go Go.Proofs Go.Cats

/-- An entry of a table, a row of it, the whole. -/
def tEnt (fr to : List Int) (h : Nat → Nat → Int) (i j : Nat) : Int := if to.getD i 0 = fr.getD j 0 then h i j else -1
def tRow (fr to : List Int) (h : Nat → Nat → Int) (i j : Nat) : List Int := (List.range j).map (tEnt fr to h i) ++ List.replicate (fr.length - j) 0
def tRows (fr to : List Int) (h : Nat → Nat → Int) (i : Nat) : List (List Int) := (List.range i).map fun k => (List.range fr.length).map (tEnt fr to h k)
section
variable {fr to : List Int} {h : Nat → Nat → Int} {i j m : Nat}
@[go_sem] theorem tRows_zero : tRows fr to h 0 = [] := rfl
theorem tRows_len : (tRows fr to h i).length = i := by simp [tRows]
theorem tRow_len (hj : j ≤ fr.length) : (tRow fr to h i j).length = fr.length := by simp [tRow]; omega
theorem tRow_zero : List.replicate fr.length 0 = tRow fr to h i 0 := by simp [tRow]
theorem tRow_set (hj : j < fr.length) (x : Int) : (tRow fr to h i j).set j x = (List.range j).map (tEnt fr to h i) ++ x :: List.replicate (fr.length - (j + 1)) 0 := by
  have e : fr.length - j = fr.length - (j + 1) + 1 := by omega
  unfold tRow
  rw [List.set_append_right _ _ (by simp), e]
  simp [List.replicate_succ]
theorem tRow_succ (hj : j < fr.length) : tRow fr to h i (j + 1) = (List.range j).map (tEnt fr to h i) ++ tEnt fr to h i j :: List.replicate (fr.length - (j + 1)) 0 := by
  simp [tRow, List.range_succ]
theorem tRow_no (hj : j < fr.length) (hc : ¬ to.getD i 0 = fr.getD j 0) : (tRow fr to h i j).set j (-1) = tRow fr to h i (j + 1) := by
  rw [tRow_set hj, tRow_succ hj, tEnt, if_neg hc]
theorem tRow_yes (hj : j < fr.length) (hc : to.getD i 0 = fr.getD j 0) : ((tRow fr to h i j).set j (-1)).set j (h i j) = tRow fr to h i (j + 1) := by
  rw [List.set_set, tRow_set hj, tRow_succ hj, tEnt, if_pos hc]
theorem tRows_succ : tRows fr to h i ++ [tRow fr to h i fr.length] = tRows fr to h (i + 1) := by
  simp [tRows, tRow, List.range_succ]
theorem tb_at {x : List Int} : (intsN (tRows fr to h i ++ [x]) m).at i = ints x := by
  rw [intsN_at (by simp [tRows_len])]
  simp [List.getD_eq_getElem?_getD, tRows_len]
theorem tb_put {x r : List Int} : (intsN (tRows fr to h i ++ [x]) m).put i (ints r) = intsN (tRows fr to h i ++ [r]) m := by
  rw [intsN_set (by simp [tRows_len]), List.set_append_right _ _ (by rw [tRows_len]; omega), tRows_len, Nat.sub_self]
  rfl
theorem tb_new (hi : i < fr.length) : (intsN (tRows fr to h i) (fr.length - i)).put i (ints (List.replicate fr.length 0)) = intsN (tRows fr to h i ++ [tRow fr to h i 0]) (fr.length - (i + 1)) := by
  have e : fr.length - i = fr.length - (i + 1) + 1 := by omega
  have e2 := intsN_put (tRows fr to h i) (fr.length - (i + 1)) (List.replicate fr.length 0)
  rw [tRows_len] at e2
  rw [e, e2, tRow_zero]
end
theorem sp_Category_arrows_tb {ob : Int} {fr to id : List Int} : Spec Try.prog 110 [.bptr [] [.v (.int .i64 ob), ints fr, ints to, ints id, .v (.slice none 0 0)]] [] (iv fr.length) [] := by
  refine spec_of_V (E := TE) 0 Try.func110 rfl (by simp [Try.f110]) fun X hn hX => ?_
  repeat' (first
    | with_reducible first | refine V_seq ?_ | refine V_block ?_ | refine V_skip ?_ | refine V_ret ?_ | refine V_exit ?_
    | ((with_reducible refine V_cond ?_); simp only [go_sem, ↓reduceIte, Nat.reduceAdd, Nat.reduceSub, Nat.reduceMul, Nat.reduceDiv, Nat.reduceLT, Nat.reduceLeDiff, Nat.reduceEqDiff, Int.reduceToNat, reduceCtorEq])
    | ((first | refine V_region (by rw [hn]; rfl) ?_ | refine V_drawn hmix (by rw [hn]; rfl) ?_); intro K hK)
    | ((first | with_reducible refine evOps_n ?_ | ((with_reducible apply evOps_g); rfl) | with_reducible refine evOpsD_n ?_ | ((with_reducible apply evOpsD_g); rfl)); intro K hK; simp (contextual := true) only [go_sem, ↓reduceIte, Nat.reduceAdd, Nat.reduceSub, Nat.reduceMul, Nat.reduceDiv, Nat.reduceLT, Nat.reduceLeDiff, Nat.reduceEqDiff, Int.reduceToNat, reduceCtorEq])
    | with_reducible refine evOps_nil ?_
    | ((with_reducible refine evOpsD_nil ?_ ?_); kernel_rfl)
    | ((with_reducible refine hK _ ?_); clear hK K)
    | with_reducible first | refine And.intro ?_ ?_ | refine nxt_n ?_ | refine nxt_r ?_ | refine nxt_e ?_ | refine blk_n ?_ | refine blk_r ?_ | refine blk_same ?_ | refine blk_other (by decide) ?_ | refine noG_n ?_ | refine noG_r ?_ | refine noG_e ?_ | refine inR_mk ?_ ?_
    | (refine fun (hc : (_ : Bool) = _) => ?_; try simp only [decide_eq_true_eq, decide_eq_false_iff_not, Bool.not_eq_true', Bool.not_eq_false', Int.not_lt, Int.not_le, Cats.dec_iff, Cats.dec_not, Bool.and_eq_true, Bool.or_eq_true, Bool.and_eq_false_iff, Bool.or_eq_false_iff, Bool.not_eq_true, Bool.not_eq_false, Decidable.not_not, not_true_eq_false, not_false_eq_true] at hc))
  (first | refine ret_auto ?_ | refine ret_auto' ?_); simp only [go_sem, ↓reduceIte, Nat.reduceAdd, Nat.reduceSub, Nat.reduceMul, Nat.reduceDiv, Nat.reduceLT, Nat.reduceLeDiff, Nat.reduceEqDiff, Int.reduceToNat, reduceCtorEq, Try.f110]

theorem cal_Category_table : Callable Try.prog 180 := ⟨_, Try.func180, rfl, rfl⟩
theorem sp_Category_table {ob : Int} {fr to id : List Int} {F : FuncId} {cp : LC} {h : Nat → Nat → Int} (hF : Callable Try.prog F) (hS : ∀ a b : Nat, a < fr.length → b < fr.length → to.getD a 0 = fr.getD b 0 → Spec Try.prog F ([iv a, iv b] ++ cp.l) [] (iv (h a b)) []) (hlen : fr.length ≤ 1048576) (hto : to.length = fr.length) (hob : 0 ≤ ob) : Spec Try.prog 180 [.ptr 0 0, .fn F cp.l] [(0, ⟨1, .box [iv ob, .sl 1, .sl 2, .sl 3, .v (.slice none 0 0)]⟩), (1, ⟨1, .arr (ints fr)⟩), (2, ⟨1, .arr (ints to)⟩), (3, ⟨1, .arr (ints id)⟩)] (.tup []) [(0, ⟨1, .box [iv ob, .sl 1, .sl 2, .sl 3, .sl 4]⟩), (1, ⟨1, .arr (ints fr)⟩), (2, ⟨1, .arr (ints to)⟩), (3, ⟨1, .arr (ints id)⟩), (4, ⟨1, .arr (intss (tRows fr to h fr.length))⟩)] := by
  refine spec_of_V (E := TE) 4 Try.func180 rfl (by simp [Try.f180]) fun X hn hX => ?_
  repeat' (first
    | with_reducible first | refine V_seq ?_ | refine V_block ?_ | refine V_skip ?_ | refine V_ret ?_ | refine V_exit ?_
    | ((with_reducible refine V_cond ?_); simp only [go_sem, ↓reduceIte, Nat.reduceAdd, Nat.reduceSub, Nat.reduceMul, Nat.reduceDiv, Nat.reduceLT, Nat.reduceLeDiff, Nat.reduceEqDiff, Int.reduceToNat, reduceCtorEq])
    | ((first | refine V_region (by rw [hn]; rfl) ?_ | refine V_drawn hmix (by rw [hn]; rfl) ?_); intro K hK)
    | ((first | with_reducible refine evOps_n ?_ | ((with_reducible apply evOps_g); rfl) | with_reducible refine evOpsD_n ?_ | ((with_reducible apply evOpsD_g); rfl)); intro K hK; simp (contextual := true) only [go_sem, ↓reduceIte, Nat.reduceAdd, Nat.reduceSub, Nat.reduceMul, Nat.reduceDiv, Nat.reduceLT, Nat.reduceLeDiff, Nat.reduceEqDiff, Int.reduceToNat, reduceCtorEq])
    | with_reducible refine evOps_nil ?_
    | ((with_reducible refine evOpsD_nil ?_ ?_); kernel_rfl)
    | ((with_reducible refine hK _ ?_); clear hK K)
    | with_reducible first | refine And.intro ?_ ?_ | refine nxt_n ?_ | refine nxt_r ?_ | refine nxt_e ?_ | refine blk_n ?_ | refine blk_r ?_ | refine blk_same ?_ | refine blk_other (by decide) ?_ | refine noG_n ?_ | refine noG_r ?_ | refine noG_e ?_ | refine inR_mk ?_ ?_
    | ((with_reducible refine evCall_at 110 ?_); refine EvCall.mk (sp_Category_arrows_tb (ob:=ob) (fr:=fr) (to:=to) (id:=id)) cal_Category_arrows [] [0,1,2,3] (by simp [go_sem] <;> first | rfl | exact ⟨rfl, rfl⟩ | exact ⟨rfl, rfl, rfl⟩) (by simp [go_sem] <;> first | rfl | exact ⟨rfl, rfl⟩ | exact ⟨rfl, rfl, rfl⟩) ?_; all_goals try simp only [go_sem, ↓reduceIte, Nat.reduceAdd, Nat.reduceSub, Nat.reduceMul, Nat.reduceDiv, Nat.reduceLT, Nat.reduceLeDiff, Nat.reduceEqDiff, Int.reduceToNat, reduceCtorEq])
    | (refine fun (hc : (_ : Bool) = _) => ?_; try simp only [decide_eq_true_eq, decide_eq_false_iff_not, Bool.not_eq_true', Bool.not_eq_false', Int.not_lt, Int.not_le, Cats.dec_iff, Cats.dec_not, Bool.and_eq_true, Bool.or_eq_true, Bool.and_eq_false_iff, Bool.or_eq_false_iff, Bool.not_eq_true, Bool.not_eq_false, Decidable.not_not, not_true_eq_false, not_false_eq_true] at hc))
  all_goals try (first | (with_reducible assumption) | ((try simp only [Cat.F, Cat.T, Cat.I, Cat.C, Fun.O, Fun.A, Cat.Entry, Int.toNat_natCast] at *); omega))
  refine V_loopK (G := {i : Nat // i ≤ fr.length ∧ (True)}) (fun ⟨i, _⟩ => [(19, iv i)]) [0, 1, 4, 18] (fun ⟨i, _⟩ => [(0, ⟨1, .box [iv ob, .sl 1, .sl 2, .sl 3, .sl 4]⟩), (1, ⟨1, .arr (ints fr)⟩), (2, ⟨1, .arr (ints to)⟩), (3, ⟨1, .arr (ints id)⟩), (4, ⟨1, .arr (intsN (tRows fr to h i) (fr.length - i))⟩)]) [0, 1, 2, 3, 4] (fun g => fr.length - g.1) ⟨0, Nat.zero_le _, by simp⟩ ?_ ?_
  · exact Imp.auto hX (by simp [go_sem, ↓reduceIte, Nat.reduceAdd, Nat.reduceSub, Nat.reduceMul, Nat.reduceDiv, Nat.reduceLT, Nat.reduceLeDiff, Nat.reduceEqDiff, Int.reduceToNat, reduceCtorEq])
  rintro ⟨i, hii, hwi⟩
  simp only [go_sem, ↓reduceIte, Nat.reduceAdd, Nat.reduceSub, Nat.reduceMul, Nat.reduceDiv, Nat.reduceLT, Nat.reduceLeDiff, Nat.reduceEqDiff, Int.reduceToNat, reduceCtorEq]
  have l1 := tRows_len (fr := fr) (to := to) (h := h) (i := i)
  have e3 := fun h0 => tb_new (fr := fr) (to := to) (h := h) (i := i) h0
  have e4 := tb_at (fr := fr) (to := to) (h := h) (i := i) (m := fr.length - (i + 1)) (x := tRow fr to h i 0)
  repeat' (first
    | (refine V_at 6 (Imp.refl _ _) ?_; rw [e3 (by omega)])
    | with_reducible first | refine V_seq ?_ | refine V_block ?_ | refine V_skip ?_ | refine V_ret ?_ | refine V_exit ?_
    | ((with_reducible refine V_cond ?_); simp only [go_sem, ↓reduceIte, Nat.reduceAdd, Nat.reduceSub, Nat.reduceMul, Nat.reduceDiv, Nat.reduceLT, Nat.reduceLeDiff, Nat.reduceEqDiff, Int.reduceToNat, reduceCtorEq])
    | ((first | refine V_region (by rw [hn]; rfl) ?_ | refine V_drawn hmix (by rw [hn]; rfl) ?_); intro K hK)
    | ((first | with_reducible refine evOps_n ?_ | ((with_reducible apply evOps_g); rfl) | with_reducible refine evOpsD_n ?_ | ((with_reducible apply evOpsD_g); rfl)); intro K hK; simp (contextual := true) only [go_sem, ↓reduceIte, Nat.reduceAdd, Nat.reduceSub, Nat.reduceMul, Nat.reduceDiv, Nat.reduceLT, Nat.reduceLeDiff, Nat.reduceEqDiff, Int.reduceToNat, reduceCtorEq])
    | with_reducible refine evOps_nil ?_
    | ((with_reducible refine evOpsD_nil ?_ ?_); kernel_rfl)
    | ((with_reducible refine hK _ ?_); clear hK K)
    | with_reducible first | refine And.intro ?_ ?_ | refine nxt_n ?_ | refine nxt_r ?_ | refine nxt_e ?_ | refine blk_n ?_ | refine blk_r ?_ | refine blk_same ?_ | refine blk_other (by decide) ?_ | refine noG_n ?_ | refine noG_r ?_ | refine noG_e ?_ | refine inR_mk ?_ ?_
    | (rw [e4]; simp only [go_sem, ↓reduceIte, Nat.reduceAdd, Nat.reduceSub, Nat.reduceMul, Nat.reduceDiv, Nat.reduceLT, Nat.reduceLeDiff, Nat.reduceEqDiff, Int.reduceToNat, reduceCtorEq])
    | (refine fun (hc : (_ : Bool) = _) => ?_; try simp only [decide_eq_true_eq, decide_eq_false_iff_not, Bool.not_eq_true', Bool.not_eq_false', Int.not_lt, Int.not_le, Cats.dec_iff, Cats.dec_not, Bool.and_eq_true, Bool.or_eq_true, Bool.and_eq_false_iff, Bool.or_eq_false_iff, Bool.not_eq_true, Bool.not_eq_false, Decidable.not_not, not_true_eq_false, not_false_eq_true] at hc))
  all_goals try (first | (with_reducible assumption) | ((try simp only [Cat.F, Cat.T, Cat.I, Cat.C, Fun.O, Fun.A, Cat.Entry, Int.toNat_natCast] at *); omega))
  · refine V_loopK (G := {j : Nat // j ≤ fr.length ∧ (True)}) (fun ⟨j, _⟩ => [(38, iv j)]) [0, 1, 4, 5, 18, 19, 37] (fun ⟨j, _⟩ => [(0, ⟨1, .box [iv ob, .sl 1, .sl 2, .sl 3, .sl 4]⟩), (1, ⟨1, .arr (ints fr)⟩), (2, ⟨1, .arr (ints to)⟩), (3, ⟨1, .arr (ints id)⟩), (4, ⟨1, .arr (intsN (tRows fr to h i ++ [tRow fr to h i j]) (fr.length - (i + 1)))⟩)]) [0, 1, 2, 3, 4] (fun g => fr.length - g.1) ⟨0, Nat.zero_le _, by first | trivial | simp⟩ ?_ ?_
    · exact Imp.auto hX (by simp [go_sem, ↓reduceIte, Nat.reduceAdd, Nat.reduceSub, Nat.reduceMul, Nat.reduceDiv, Nat.reduceLT, Nat.reduceLeDiff, Nat.reduceEqDiff, Int.reduceToNat, reduceCtorEq])
    rintro ⟨j, hij, hwj⟩
    simp only [go_sem, ↓reduceIte, Nat.reduceAdd, Nat.reduceSub, Nat.reduceMul, Nat.reduceDiv, Nat.reduceLT, Nat.reduceLeDiff, Nat.reduceEqDiff, Int.reduceToNat, reduceCtorEq]
    have l0 := tRow_len (fr := fr) (to := to) (h := h) (i := i) (j := 0) (Nat.zero_le _)
    have l2 := tRow_len (fr := fr) (to := to) (h := h) (i := i) (j := j) (by omega)
    have e2 := tb_at (fr := fr) (to := to) (h := h) (i := i) (m := fr.length - (i + 1)) (x := tRow fr to h i j)
    repeat' (first
      | (refine V_at 9 (Imp.open_ 4 i _ [] (.inr ⟨rfl, rfl⟩) (by simp [go_sem, ↓reduceIte, Nat.reduceAdd, Nat.reduceSub, Nat.reduceMul, Nat.reduceDiv, Nat.reduceLT, Nat.reduceLeDiff, Nat.reduceEqDiff, Int.reduceToNat, reduceCtorEq]) (by simp [go_sem, ↓reduceIte, Nat.reduceAdd, Nat.reduceSub, Nat.reduceMul, Nat.reduceDiv, Nat.reduceLT, Nat.reduceLeDiff, Nat.reduceEqDiff, Int.reduceToNat, reduceCtorEq, l1]; omega) rfl (by rw [e2]; rfl) rfl) ?_; rw [e2])
      | refine V_at 12 (Imp.closeA 4 6 i _ _ rfl rfl (by decide) (by simp [go_sem, ↓reduceIte, Nat.reduceAdd, Nat.reduceSub, Nat.reduceMul, Nat.reduceDiv, Nat.reduceLT, Nat.reduceLeDiff, Nat.reduceEqDiff, Int.reduceToNat, reduceCtorEq, l1]; omega)) ?_
      | with_reducible first | refine V_seq ?_ | refine V_block ?_ | refine V_skip ?_ | refine V_ret ?_ | refine V_exit ?_
      | ((with_reducible refine V_cond ?_); simp only [go_sem, ↓reduceIte, Nat.reduceAdd, Nat.reduceSub, Nat.reduceMul, Nat.reduceDiv, Nat.reduceLT, Nat.reduceLeDiff, Nat.reduceEqDiff, Int.reduceToNat, reduceCtorEq])
      | ((first | refine V_region (by rw [hn]; rfl) ?_ | refine V_drawn hmix (by rw [hn]; rfl) ?_); intro K hK)
      | ((first | with_reducible refine evOps_n ?_ | ((with_reducible apply evOps_g); rfl) | with_reducible refine evOpsD_n ?_ | ((with_reducible apply evOpsD_g); rfl)); intro K hK; simp (contextual := true) only [go_sem, ↓reduceIte, Nat.reduceAdd, Nat.reduceSub, Nat.reduceMul, Nat.reduceDiv, Nat.reduceLT, Nat.reduceLeDiff, Nat.reduceEqDiff, Int.reduceToNat, reduceCtorEq])
      | with_reducible refine evOps_nil ?_
      | ((with_reducible refine evOpsD_nil ?_ ?_); kernel_rfl)
      | ((with_reducible refine hK _ ?_); clear hK K)
      | with_reducible first | refine And.intro ?_ ?_ | refine nxt_n ?_ | refine nxt_r ?_ | refine nxt_e ?_ | refine blk_n ?_ | refine blk_r ?_ | refine blk_same ?_ | refine blk_other (by decide) ?_ | refine noG_n ?_ | refine noG_r ?_ | refine noG_e ?_ | refine inR_mk ?_ ?_
      | ((with_reducible refine evCall_at F ?_); refine EvCall.lc rfl (hS i j (by omega) (by omega) (by assumption)) hF ?_; all_goals try simp only [go_sem, ↓reduceIte, Nat.reduceAdd, Nat.reduceSub, Nat.reduceMul, Nat.reduceDiv, Nat.reduceLT, Nat.reduceLeDiff, Nat.reduceEqDiff, Int.reduceToNat, reduceCtorEq])
      | (refine fun (hc : (_ : Bool) = _) => ?_; try simp only [decide_eq_true_eq, decide_eq_false_iff_not, Bool.not_eq_true', Bool.not_eq_false', Int.not_lt, Int.not_le, Cats.dec_iff, Cats.dec_not, Bool.and_eq_true, Bool.or_eq_true, Bool.and_eq_false_iff, Bool.or_eq_false_iff, Bool.not_eq_true, Bool.not_eq_false, Decidable.not_not, not_true_eq_false, not_false_eq_true] at hc))
    all_goals try (first | (with_reducible assumption) | ((try simp only [Cat.F, Cat.T, Cat.I, Cat.C, Fun.O, Fun.A, Cat.Entry, Int.toNat_natCast] at *); omega))
    · have e5 := tRow_yes (fr := fr) (to := to) (h := h) (i := i) (j := j) (by omega) (by assumption)
      have e6 := tb_put (fr := fr) (to := to) (h := h) (i := i) (m := fr.length - (i + 1)) (x := tRow fr to h i j) (r := tRow fr to h i (j + 1))
      refine ⟨⟨j + 1, by omega, (by trivial)⟩, by simp only; omega, Imp.auto hX (by simp only [go_sem, ↓reduceIte, Nat.reduceAdd, Nat.reduceSub, Nat.reduceMul, Nat.reduceDiv, Nat.reduceLT, Nat.reduceLeDiff, Nat.reduceEqDiff, Int.reduceToNat, reduceCtorEq, e5, e6])⟩
    · have e5 := tRow_no (fr := fr) (to := to) (h := h) (i := i) (j := j) (by omega) (by assumption)
      have e6 := tb_put (fr := fr) (to := to) (h := h) (i := i) (m := fr.length - (i + 1)) (x := tRow fr to h i j) (r := tRow fr to h i (j + 1))
      refine ⟨⟨j + 1, by omega, (by trivial)⟩, by simp only; omega, Imp.auto hX (by simp only [go_sem, ↓reduceIte, Nat.reduceAdd, Nat.reduceSub, Nat.reduceMul, Nat.reduceDiv, Nat.reduceLT, Nat.reduceLeDiff, Nat.reduceEqDiff, Int.reduceToNat, reduceCtorEq, e5, e6])⟩
    · have e : j = fr.length := by omega
      subst e
      have e5 := tRows_succ (fr := fr) (to := to) (h := h) (i := i)
      refine ⟨⟨i + 1, by omega, (by trivial)⟩, by simp only; omega, Imp.auto hX (by simp only [go_sem, ↓reduceIte, Nat.reduceAdd, Nat.reduceSub, Nat.reduceMul, Nat.reduceDiv, Nat.reduceLT, Nat.reduceLeDiff, Nat.reduceEqDiff, Int.reduceToNat, reduceCtorEq, e5])⟩
  · have e : i = fr.length := by omega
    subst e
    (first | refine ret_auto ?_ | refine ret_auto' ?_); simp only [go_sem, ↓reduceIte, Nat.reduceAdd, Nat.reduceSub, Nat.reduceMul, Nat.reduceDiv, Nat.reduceLT, Nat.reduceLeDiff, Nat.reduceEqDiff, Int.reduceToNat, reduceCtorEq, Try.f180]
    simp [go_sem, ↓reduceIte, Nat.reduceAdd, Nat.reduceSub, Nat.reduceMul, Nat.reduceDiv, Nat.reduceLT, Nat.reduceLeDiff, Nat.reduceEqDiff, Int.reduceToNat, reduceCtorEq]
end Go.Eng
