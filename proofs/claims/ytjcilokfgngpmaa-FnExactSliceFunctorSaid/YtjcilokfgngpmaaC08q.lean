/- Comma categories by the program: the arrows between two objects, all arrows. -/
import Derived.Test.YtjcilokfgngpmaaC04q
import Derived.Test.YtjcilokfgngpmaaKex
import Derived.Test.YtjcilokfgngpmaaC09q
set_option linter.unusedSimpArgs false
set_option linter.unusedVariables false
set_option maxRecDepth 100000
set_option maxHeartbeats 16000000
namespace Go.Eng
open Go Go.Proofs Go.Cats

theorem cal_comma_pairs : Callable Try.prog 178 := ⟨_, Try.func178, rfl, rfl⟩
theorem sp_comma_pairs {f e : Fun} {p q : List Int} {h : Value} {d : Dt} : Spec Try.prog 178 [.ptr 0 0, .bor [] (ints p), .bor [] (ints q)] [(0, ⟨1, cmK f e h d⟩)] (.fn 204 [.ptr 1 0, .ptr 2 0, .ptr 3 0]) [(0, ⟨1, cmK f e h d⟩), (1, ⟨1, .box [.ptr 0 0]⟩), (2, ⟨1, .box [.bor [] (ints p)]⟩), (3, ⟨1, .box [.bor [] (ints q)]⟩)] := by
  refine spec_of_V (E := TE) 1 Try.func178 rfl (by simp [Try.f178]) fun X hn hX => ?_
  repeat' (first
    | with_reducible first | refine V_seq ?_ | refine V_block ?_ | refine V_skip ?_ | refine V_ret ?_ | refine V_exit ?_
    | ((with_reducible refine V_cond ?_); simp only [go_sem, ↓reduceIte, Nat.reduceAdd, Nat.reduceSub, Nat.reduceMul, Nat.reduceDiv, Nat.reduceLT, Nat.reduceLeDiff, Nat.reduceEqDiff, Int.reduceToNat, reduceCtorEq])
    | ((first | refine V_region (by rw [hn]; rfl) ?_ | refine V_drawn hmix (by rw [hn]; rfl) ?_); intro K hK)
    | ((first | with_reducible refine evOps_n ?_ | ((with_reducible apply evOps_g); rfl) | with_reducible refine evOpsD_n ?_ | ((with_reducible apply evOpsD_g); rfl)); intro K hK; simp (contextual := true) only [go_sem, ↓reduceIte, Nat.reduceAdd, Nat.reduceSub, Nat.reduceMul, Nat.reduceDiv, Nat.reduceLT, Nat.reduceLeDiff, Nat.reduceEqDiff, Int.reduceToNat, reduceCtorEq])
    | with_reducible refine evOps_nil ?_
    | ((with_reducible refine evOpsD_nil ?_ ?_); kernel_rfl)
    | ((with_reducible refine hK _ ?_); clear hK K)
    | with_reducible first | refine And.intro ?_ ?_ | refine nxt_n ?_ | refine nxt_r ?_ | refine nxt_e ?_ | refine blk_n ?_ | refine blk_r ?_ | refine blk_same ?_ | refine blk_other (by decide) ?_ | refine noG_n ?_ | refine noG_r ?_ | refine noG_e ?_ | refine inR_mk ?_ ?_
    | (refine fun (hc : (_ : Bool) = _) => ?_; try simp only [decide_eq_true_eq, decide_eq_false_iff_not, Bool.not_eq_true', Bool.not_eq_false', Int.not_lt, Int.not_le, Cats.dec_iff, Cats.dec_not, Bool.and_eq_true, Bool.or_eq_true, Bool.and_eq_false_iff, Bool.or_eq_false_iff, Bool.not_eq_true, Bool.not_eq_false, Decidable.not_not, not_true_eq_false, not_false_eq_true] at hc))
  all_goals try (first | (with_reducible assumption) | ((try simp only [Cat.F, Cat.T, Cat.I, Cat.C, Fun.O, Fun.A, Cat.Entry, Int.toNat_natCast] at *); omega))
  (first | refine ret_auto ?_ | refine ret_auto' ?_); simp only [go_sem, ↓reduceIte, Nat.reduceAdd, Nat.reduceSub, Nat.reduceMul, Nat.reduceDiv, Nat.reduceLT, Nat.reduceLeDiff, Nat.reduceEqDiff, Int.reduceToNat, reduceCtorEq, Try.f178]

attribute [local go_sem] cA_zero cmK
@[go_sem] theorem one_nil_c8 : (Value.slice none 0 0).oneCell' = true := rfl
@[go_sem] theorem one_ptr_c8 : (Value.pointer none).oneCell' = true := rfl
theorem callOk_mk {rs : Nat → Rs} {L0 : List (Nat × Rs)} {ML : List (Nat × Nat)} {V : List Nat} (h : evCO rs V L0 ML V) : CallOk rs L0 ML V := by
  obtain ⟨a1, a2, a3, a4, a5⟩ := h
  exact ⟨a1, a2, fun i hi => (coV_get a4 i hi).1, fun i hi => (coV_get a4 i hi).2.1, fun k => (coL_get a3 k).1, fun k => (coL_get a3 k).2, coM_get a5⟩
attribute [local go_sem] cmL idML cmI
theorem cal_comma_pairs_1 : Callable Try.prog 204 := ⟨_, Try.func204, rfl, rfl⟩
theorem cal_commaOf : Callable Try.prog 125 := ⟨_, Try.func125, rfl, rfl⟩
theorem sp_commaOf_ok {f e : Fun} (hf : IsFun f) (he : IsFun e) (hT : f.tgt = e.tgt) (hO : (cObj f e).length ≤ 8) (hA : (cArr f e (cObj f e)).length ≤ 40) : Spec Try.prog 125 [.bptr [] (funD f), .bptr [] (funD e)] [] (.tup [.ptr 0 0, .v (.bool true)]) [(0, ⟨1, .box [.bptr [(1, 1)] (funD f), .bptr [(1, 1)] (funD e), .sl 1, .sl 2]⟩), (1, ⟨1, .arr (intss (cObj f e))⟩), (2, ⟨1, .arr (intss (cArr f e (cObj f e)))⟩)] := by
  refine spec_of_V' (E := TE) 0 Try.func125 rfl (by simp [Try.f125]) fun X hn hX hrd => ?_
  repeat' (first
    | with_reducible first | refine V_seq ?_ | refine V_block ?_ | refine V_skip ?_ | refine V_ret ?_ | refine V_exit ?_
    | ((with_reducible refine V_cond ?_); simp only [go_sem, ↓reduceIte, Nat.reduceAdd, Nat.reduceSub, Nat.reduceMul, Nat.reduceDiv, Nat.reduceLT, Nat.reduceLeDiff, Nat.reduceEqDiff, Int.reduceToNat, reduceCtorEq])
    | ((first | refine V_region (by rw [hn]; rfl) ?_ | refine V_drawn hmix (by rw [hn]; rfl) ?_); intro K hK)
    | ((first | with_reducible refine evOps_n ?_ | ((with_reducible apply evOps_g); rfl) | with_reducible refine evOpsD_n ?_ | ((with_reducible apply evOpsD_g); rfl)); intro K hK; simp (contextual := true) only [go_sem, ↓reduceIte, Nat.reduceAdd, Nat.reduceSub, Nat.reduceMul, Nat.reduceDiv, Nat.reduceLT, Nat.reduceLeDiff, Nat.reduceEqDiff, Int.reduceToNat, reduceCtorEq])
    | with_reducible refine evOps_nil ?_
    | ((with_reducible refine evOpsD_nil ?_ ?_); kernel_rfl)
    | ((with_reducible refine hK _ ?_); clear hK K)
    | with_reducible first | refine And.intro ?_ ?_ | refine nxt_n ?_ | refine nxt_r ?_ | refine nxt_e ?_ | refine blk_n ?_ | refine blk_r ?_ | refine blk_same ?_ | refine blk_other (by decide) ?_ | refine noG_n ?_ | refine noG_r ?_ | refine noG_e ?_ | refine inR_mk ?_ ?_
    | ((with_reducible refine evCall_at 177 ?_); refine EvCall.rd (by first | (simp only [go_sem, ↓reduceIte, Nat.reduceAdd, Nat.reduceSub, Nat.reduceMul, Nat.reduceDiv, Nat.reduceLT, Nat.reduceLeDiff, Nat.reduceEqDiff, Int.reduceToNat, reduceCtorEq]; rfl) | rfl) (sp_commaObjects ?_ ?_) cal_commaObjects (by simp [go_sem]) (by simp [go_sem]) ?_; all_goals try simp only [go_sem, ↓reduceIte, Nat.reduceAdd, Nat.reduceSub, Nat.reduceMul, Nat.reduceDiv, Nat.reduceLT, Nat.reduceLeDiff, Nat.reduceEqDiff, Int.reduceToNat, reduceCtorEq])
    | (refine fun (hc : (_ : Bool) = _) => ?_; try simp only [decide_eq_true_eq, decide_eq_false_iff_not, Bool.not_eq_true', Bool.not_eq_false', Int.not_lt, Int.not_le, Cats.dec_iff, Cats.dec_not, Bool.and_eq_true, Bool.or_eq_true, Bool.and_eq_false_iff, Bool.or_eq_false_iff, Bool.not_eq_true, Bool.not_eq_false, Decidable.not_not, not_true_eq_false, not_false_eq_true] at hc))
  all_goals try (first | (with_reducible assumption) | ((try simp only [Cat.F, Cat.T, Cat.I, Cat.C, Fun.O, Fun.A, Cat.Entry, Int.toNat_natCast] at *); omega))
  refine V_pin 2 (fun _ _ => trivial) (by simp [go_sem]) fun Y hYn hYr hY => ?_
  refine V_imp (Imp.adoptB 3 3 1 (ints []) _ (by decide) rfl rfl rfl (by rw [hY, hX]; rfl)) ?_
  refine V_imp (Imp.closeB 3 5 3 _ _ rfl rfl rfl (by decide)) ?_
  have hX' : Y.rs0 = rsL [(2, ⟨1, .gone⟩)] := by rw [hY, hX]; rfl
  have hX0 := hX
  clear hX
  have hn' : Y.n = _ := hYn.trans hn
  have hn0 := hn
  have hYd := hYr
  clear hn hYn hYr hY
  have hX := hX'
  refine V_imp (Imp.cellXT 3 0 3 2 _ _ _ rfl (by simp [go_sem]) rfl (by rw [hX]; exact Nat.le_refl 1)) ?_
  refine V_imp (Imp.cellXT 3 1 3 2 _ _ _ rfl (by simp [go_sem]) rfl (by rw [hX]; exact Nat.le_refl 1)) ?_
  simp only [List.set_cons_succ, List.set_cons_zero]
  have hn := hn'
  clear hX' hn'
  refine V_loopK (G := {s : Nat // s ≤ (cObj f e).length ∧ (True)}) (fun ⟨s, _⟩ => [(31, iv s)]) [4, 5, 6, 29, 30] (fun ⟨s, _⟩ => [(3, ⟨1, .bx [.bptr [(2, 1)] (funD f), .bptr [(2, 1)] (funD e), .sl 2, .dead] 3 (intss (cA f e (cObj f e) s 0 0 0))⟩), (2, ⟨1, .arr (intss (cObj f e))⟩), (4, ⟨1, .box [.ptr 3 0]⟩), (0, ⟨1, .box [.v (.pointer none)]⟩), (1, ⟨1, .box [.v (.bool false)]⟩)]) [0, 1, 2, 3, 4] (fun g => (cObj f e).length - g.1) ⟨0, Nat.zero_le _, by first | trivial | simp⟩ ?_ ?_
  · exact Imp.auto hX (by simp [go_sem, ↓reduceIte, Nat.reduceAdd, Nat.reduceSub, Nat.reduceMul, Nat.reduceDiv, Nat.reduceLT, Nat.reduceLeDiff, Nat.reduceEqDiff, Int.reduceToNat, reduceCtorEq])
  rintro ⟨s, his, hws⟩
  simp only [go_sem, ↓reduceIte, Nat.reduceAdd, Nat.reduceSub, Nat.reduceMul, Nat.reduceDiv, Nat.reduceLT, Nat.reduceLeDiff, Nat.reduceEqDiff, Int.reduceToNat, reduceCtorEq]
  have ok := cObj_ok hf he hT
  repeat' (first
    | with_reducible first | refine V_seq ?_ | refine V_block ?_ | refine V_skip ?_ | refine V_ret ?_ | refine V_exit ?_
    | ((with_reducible refine V_cond ?_); simp only [go_sem, ↓reduceIte, Nat.reduceAdd, Nat.reduceSub, Nat.reduceMul, Nat.reduceDiv, Nat.reduceLT, Nat.reduceLeDiff, Nat.reduceEqDiff, Int.reduceToNat, reduceCtorEq])
    | ((first | refine V_region (by rw [hn]; rfl) ?_ | refine V_drawn hmix (by rw [hn]; rfl) ?_); intro K hK)
    | ((first | with_reducible refine evOps_n ?_ | ((with_reducible apply evOps_g); rfl) | with_reducible refine evOpsD_n ?_ | ((with_reducible apply evOpsD_g); rfl)); intro K hK; simp (contextual := true) only [go_sem, ↓reduceIte, Nat.reduceAdd, Nat.reduceSub, Nat.reduceMul, Nat.reduceDiv, Nat.reduceLT, Nat.reduceLeDiff, Nat.reduceEqDiff, Int.reduceToNat, reduceCtorEq])
    | with_reducible refine evOps_nil ?_
    | ((with_reducible refine evOpsD_nil ?_ ?_); kernel_rfl)
    | ((with_reducible refine hK _ ?_); clear hK K)
    | with_reducible first | refine And.intro ?_ ?_ | refine nxt_n ?_ | refine nxt_r ?_ | refine nxt_e ?_ | refine blk_n ?_ | refine blk_r ?_ | refine blk_same ?_ | refine blk_other (by decide) ?_ | refine noG_n ?_ | refine noG_r ?_ | refine noG_e ?_ | refine inR_mk ?_ ?_
    | (refine fun (hc : (_ : Bool) = _) => ?_; try simp only [decide_eq_true_eq, decide_eq_false_iff_not, Bool.not_eq_true', Bool.not_eq_false', Int.not_lt, Int.not_le, Cats.dec_iff, Cats.dec_not, Bool.and_eq_true, Bool.or_eq_true, Bool.and_eq_false_iff, Bool.or_eq_false_iff, Bool.not_eq_true, Bool.not_eq_false, Decidable.not_not, not_true_eq_false, not_false_eq_true] at hc))
  all_goals try (first | (with_reducible assumption) | ((try simp only [Cat.F, Cat.T, Cat.I, Cat.C, Fun.O, Fun.A, Cat.Entry, Int.toNat_natCast] at *); omega))
  · refine V_loopK (G := {t : Nat // t ≤ (cObj f e).length ∧ (True)}) (fun ⟨t, _⟩ => [(41, iv t), (8, .bor [(2, 1)] (ints ((cObj f e).getD s [])))]) [4, 5, 6, 7, 29, 30, 31, 39, 40] (fun ⟨t, _⟩ => [(3, ⟨1, .bx [.bptr [(2, 1)] (funD f), .bptr [(2, 1)] (funD e), .sl 2, .dead] 3 (intss (cA f e (cObj f e) s t 0 0))⟩), (2, ⟨1, .arr (intss (cObj f e))⟩), (4, ⟨1, .box [.ptr 3 0]⟩), (0, ⟨1, .box [.v (.pointer none)]⟩), (1, ⟨1, .box [.v (.bool false)]⟩), (6, ⟨1, .box [iv s]⟩)]) [0, 1, 2, 3, 4, 6] (fun g => (cObj f e).length - g.1) ⟨0, Nat.zero_le _, by first | trivial | simp⟩ ?_ ?_
    · exact Imp.auto hX (by simp [go_sem, ↓reduceIte, Nat.reduceAdd, Nat.reduceSub, Nat.reduceMul, Nat.reduceDiv, Nat.reduceLT, Nat.reduceLeDiff, Nat.reduceEqDiff, Int.reduceToNat, reduceCtorEq])
    rintro ⟨t, hit, hwt⟩
    simp only [go_sem, ↓reduceIte, Nat.reduceAdd, Nat.reduceSub, Nat.reduceMul, Nat.reduceDiv, Nat.reduceLT, Nat.reduceLeDiff, Nat.reduceEqDiff, Int.reduceToNat, reduceCtorEq]
    repeat' (first
      | (refine V_at 10 (Imp.cellXV 3 2 3 2 _ _ rfl (Nat.le_refl 1) rfl (by rw [hX]; exact Nat.le_refl 1)) ?_; simp only [List.set_cons_succ, List.set_cons_zero])
      | with_reducible first | refine V_seq ?_ | refine V_block ?_ | refine V_skip ?_ | refine V_ret ?_ | refine V_exit ?_
      | ((with_reducible refine V_cond ?_); simp only [go_sem, ↓reduceIte, Nat.reduceAdd, Nat.reduceSub, Nat.reduceMul, Nat.reduceDiv, Nat.reduceLT, Nat.reduceLeDiff, Nat.reduceEqDiff, Int.reduceToNat, reduceCtorEq])
      | ((first | refine V_region (by rw [hn]; rfl) ?_ | refine V_drawn hmix (by rw [hn]; rfl) ?_); intro K hK)
      | ((first | with_reducible refine evOps_n ?_ | ((with_reducible apply evOps_g); rfl) | with_reducible refine evOpsD_n ?_ | ((with_reducible apply evOpsD_g); rfl)); intro K hK; simp (contextual := true) only [go_sem, ↓reduceIte, Nat.reduceAdd, Nat.reduceSub, Nat.reduceMul, Nat.reduceDiv, Nat.reduceLT, Nat.reduceLeDiff, Nat.reduceEqDiff, Int.reduceToNat, reduceCtorEq])
      | with_reducible refine evOps_nil ?_
      | ((with_reducible refine evOpsD_nil ?_ ?_); kernel_rfl)
      | ((with_reducible refine hK _ ?_); clear hK K)
      | with_reducible first | refine And.intro ?_ ?_ | refine nxt_n ?_ | refine nxt_r ?_ | refine nxt_e ?_ | refine blk_n ?_ | refine blk_r ?_ | refine blk_same ?_ | refine blk_other (by decide) ?_ | refine noG_n ?_ | refine noG_r ?_ | refine noG_e ?_ | refine inR_mk ?_ ?_
      | ((with_reducible refine evCall_at 178 ?_); refine EvCall.mk (sp_comma_pairs (f:=f) (e:=e) (p:=(cObj f e).getD s []) (q:=(cObj f e).getD t []) (h:=(Y.c0 2).hdr) (d:=intss (cA f e (cObj f e) s t 0 0))) cal_comma_pairs [(0,3),(1,8),(2,9),(3,10)] [2] (by simp [go_sem] <;> first | rfl | exact ⟨rfl, rfl⟩ | exact ⟨rfl, rfl, rfl⟩) (by simp [go_sem] <;> first | rfl | exact ⟨rfl, rfl⟩ | exact ⟨rfl, rfl, rfl⟩) ?_; all_goals try simp only [go_sem, ↓reduceIte, Nat.reduceAdd, Nat.reduceSub, Nat.reduceMul, Nat.reduceDiv, Nat.reduceLT, Nat.reduceLeDiff, Nat.reduceEqDiff, Int.reduceToNat, reduceCtorEq])
      | (refine fun (hc : (_ : Bool) = _) => ?_; try simp only [decide_eq_true_eq, decide_eq_false_iff_not, Bool.not_eq_true', Bool.not_eq_false', Int.not_lt, Int.not_le, Cats.dec_iff, Cats.dec_not, Bool.and_eq_true, Bool.or_eq_true, Bool.and_eq_false_iff, Bool.or_eq_false_iff, Bool.not_eq_true, Bool.not_eq_false, Decidable.not_not, not_true_eq_false, not_false_eq_true] at hc))
    all_goals try (first | (with_reducible assumption) | ((try simp only [Cat.F, Cat.T, Cat.I, Cat.C, Fun.O, Fun.A, Cat.Entry, Int.toNat_natCast] at *); omega))
    · refine V_rangeFunc (f := 204) (es := [.ptr 8 0, .ptr 9 0, .ptr 10 0]) (r := .tup []) (L0 := cmL f e (Y.c0 2).hdr s t ((cObj f e).getD s []) ((cObj f e).getD t []) (cA f e (cObj f e) s t 0 0)) (L1 := cmL f e (Y.c0 2).hdr s t ((cObj f e).getD s []) ((cObj f e).getD t []) (cA f e (cObj f e) s (t + 1) 0 0)) false cmI [2] [(9, .ptr 7 0), (7, .ptr 6 0), (6, .ptr 4 0), (5, .ptr 1 0), (4, .ptr 0 0)] (hYd.trans hrd) rfl cal_comma_pairs_1 rfl (by simp [stabTm, lk]) (show (11 : Nat) ∉ cmI by decide) (by rw [hX]; rfl) ?_ ?_ (by simp [go_sem]) ?_ ?_
      · intro l rec B h1 h2 h3 h4 h5 h6 h7
        have er : recEnd rec false = rec := by cases rec; simp_all [recEnd]
        rw [er]
        refine sh_comma_pairs_1 hf he hT ok (by omega) (by omega) fun i j hi hj hcc => ?_
        have hlen : (cA f e (cObj f e) s t i j).length < 40 := by
          have k1 := cA_cell (f := f) (e := e) (O := cObj f e) (s := s) (t := t) (i := i) (j := j + 1) hi (by omega)
          have k2 := cA_all (f := f) (e := e) (O := cObj f e) (s := s) (t := t) (by omega) (by omega)
          rw [cA_t hcc, List.length_append] at k1
          simp only [List.length_cons, List.length_nil] at k1
          omega
        have hcv : ∀ i ∈ cmI, 1 ≤ (rsL ((11, ⟨1, .ab (recAb l rec)⟩) :: cmL f e (Y.c0 2).hdr s t ((cObj f e).getD s []) ((cObj f e).getD t []) (cA f e (cObj f e) s t i j)) i).cv := by simp [go_sem, ↓reduceIte, Nat.reduceAdd, Nat.reduceSub, Nat.reduceMul, Nat.reduceDiv, Nat.reduceLT, Nat.reduceLeDiff, Nat.reduceEqDiff, Int.reduceToNat, reduceCtorEq]
        refine rspec_of_Vc (E := TE) (n := Try.f125.ntmps) (m := 11) (cv := 1) (tm0 := [(9, .ptr 7 0), (7, .ptr 6 0), (6, .ptr 4 0), (5, .ptr 1 0), (4, .ptr 0 0)]) false 12 h3 h4 h5 h1 rfl (Nat.le_refl 1) (h6.trans hn) rfl (by simp [Try.f125]) (fun w S c0 hH => h7 w S c0 _ hH (by simp [go_sem, ↓reduceIte, Nat.reduceAdd, Nat.reduceSub, Nat.reduceMul, Nat.reduceDiv, Nat.reduceLT, Nat.reduceLeDiff, Nat.reduceEqDiff, Int.reduceToNat, reduceCtorEq])) (fun _ _ => trivial) fun Z bz hbz hZn hZ hZr => ?_
        have hn := hZn
        have hX := hZ
        simp only [go_sem, ↓reduceIte, Nat.reduceAdd, Nat.reduceSub, Nat.reduceMul, Nat.reduceDiv, Nat.reduceLT, Nat.reduceLeDiff, Nat.reduceEqDiff, Int.reduceToNat, reduceCtorEq, parTm]
        repeat' (first
          | with_reducible first | refine V_seq ?_ | refine V_block ?_ | refine V_skip ?_ | refine V_ret ?_ | refine V_exit ?_
          | ((with_reducible refine V_cond ?_); simp only [go_sem, ↓reduceIte, Nat.reduceAdd, Nat.reduceSub, Nat.reduceMul, Nat.reduceDiv, Nat.reduceLT, Nat.reduceLeDiff, Nat.reduceEqDiff, Int.reduceToNat, reduceCtorEq])
          | ((first | refine V_region (by rw [hn]; rfl) ?_ | refine V_drawn hmix (by rw [hn]; rfl) ?_); intro K hK)
          | ((first | with_reducible refine evOps_n ?_ | ((with_reducible apply evOps_g); rfl) | with_reducible refine evOpsD_n ?_ | ((with_reducible apply evOpsD_g); rfl)); intro K hK; simp (contextual := true) only [go_sem, ↓reduceIte, Nat.reduceAdd, Nat.reduceSub, Nat.reduceMul, Nat.reduceDiv, Nat.reduceLT, Nat.reduceLeDiff, Nat.reduceEqDiff, Int.reduceToNat, reduceCtorEq])
          | with_reducible refine evOps_nil ?_
          | ((with_reducible refine evOpsD_nil ?_ ?_); kernel_rfl)
          | ((with_reducible refine hK _ ?_); clear hK K)
          | with_reducible first | refine And.intro ?_ ?_ | refine nxt_n ?_ | refine nxt_r ?_ | refine nxt_e ?_ | refine blk_n ?_ | refine blk_r ?_ | refine blk_same ?_ | refine blk_other (by decide) ?_ | refine noG_n ?_ | refine noG_r ?_ | refine noG_e ?_ | refine inR_mk ?_ ?_
          | (refine fun (hc : (_ : Bool) = _) => ?_; try simp only [decide_eq_true_eq, decide_eq_false_iff_not, Bool.not_eq_true', Bool.not_eq_false', Int.not_lt, Int.not_le, Cats.dec_iff, Cats.dec_not, Bool.and_eq_true, Bool.or_eq_true, Bool.and_eq_false_iff, Bool.or_eq_false_iff, Bool.not_eq_true, Bool.not_eq_false, Decidable.not_not, not_true_eq_false, not_false_eq_true] at hc))
        refine ⟨1, rfl, Nat.le_refl 1, V_end ?_⟩
        repeat' (first
          | (refine V_at 13 (Imp.openB 3 3 _ _ rfl (Nat.le_refl 1) rfl rfl) ?_; simp only [List.set_cons_succ, List.set_cons_zero])
          | with_reducible first | refine V_seq ?_ | refine V_block ?_ | refine V_skip ?_ | refine V_ret ?_ | refine V_exit ?_
          | ((with_reducible refine V_cond ?_); simp only [go_sem, ↓reduceIte, Nat.reduceAdd, Nat.reduceSub, Nat.reduceMul, Nat.reduceDiv, Nat.reduceLT, Nat.reduceLeDiff, Nat.reduceEqDiff, Int.reduceToNat, reduceCtorEq])
          | ((first | refine V_region (by rw [hn]; rfl) ?_ | refine V_drawn hmix (by rw [hn]; rfl) ?_); intro K hK)
          | ((first | with_reducible refine evOps_n ?_ | ((with_reducible apply evOps_g); rfl) | with_reducible refine evOpsD_n ?_ | ((with_reducible apply evOpsD_g); rfl)); intro K hK; simp (contextual := true) only [go_sem, ↓reduceIte, Nat.reduceAdd, Nat.reduceSub, Nat.reduceMul, Nat.reduceDiv, Nat.reduceLT, Nat.reduceLeDiff, Nat.reduceEqDiff, Int.reduceToNat, reduceCtorEq])
          | with_reducible refine evOps_nil ?_
          | ((with_reducible refine evOpsD_nil ?_ ?_); kernel_rfl)
          | ((with_reducible refine hK _ ?_); clear hK K)
          | with_reducible first | refine And.intro ?_ ?_ | refine nxt_n ?_ | refine nxt_r ?_ | refine nxt_e ?_ | refine blk_n ?_ | refine blk_r ?_ | refine blk_same ?_ | refine blk_other (by decide) ?_ | refine noG_n ?_ | refine noG_r ?_ | refine noG_e ?_ | refine inR_mk ?_ ?_
          | (refine fun (hc : (_ : Bool) = _) => ?_; try simp only [decide_eq_true_eq, decide_eq_false_iff_not, Bool.not_eq_true', Bool.not_eq_false', Int.not_lt, Int.not_le, Cats.dec_iff, Cats.dec_not, Bool.and_eq_true, Bool.or_eq_true, Bool.and_eq_false_iff, Bool.or_eq_false_iff, Bool.not_eq_true, Bool.not_eq_false, Decidable.not_not, not_true_eq_false, not_false_eq_true] at hc))
        all_goals try (first | (with_reducible assumption) | ((try simp only [Cat.F, Cat.T, Cat.I, Cat.C, Fun.O, Fun.A, Cat.Entry, Int.toNat_natCast] at *); omega))
        refine ⟨_, Imp.closeB 3 15 3 _ _ rfl rfl rfl (by decide), ?_⟩
        refine rnd_n 2 (by rw [← hbz]; rfl) (by decide) ?_
        rw [er]
        simp [go_sem, ↓reduceIte, Nat.reduceAdd, Nat.reduceSub, Nat.reduceMul, Nat.reduceDiv, Nat.reduceLT, Nat.reduceLeDiff, Nat.reduceEqDiff, Int.reduceToNat, reduceCtorEq]
      · exact fun l rec => callOk_mk (by simp [go_sem, ↓reduceIte, Nat.reduceAdd, Nat.reduceSub, Nat.reduceMul, Nat.reduceDiv, Nat.reduceLT, Nat.reduceLeDiff, Nat.reduceEqDiff, Int.reduceToNat, reduceCtorEq])
      · exact fun l rec => by simp [go_sem, ↓reduceIte, Nat.reduceAdd, Nat.reduceSub, Nat.reduceMul, Nat.reduceDiv, Nat.reduceLT, Nat.reduceLeDiff, Nat.reduceEqDiff, Int.reduceToNat, reduceCtorEq]
      · intro l rec
        simp only [go_sem, ↓reduceIte, Nat.reduceAdd, Nat.reduceSub, Nat.reduceMul, Nat.reduceDiv, Nat.reduceLT, Nat.reduceLeDiff, Nat.reduceEqDiff, Int.reduceToNat, reduceCtorEq, Bool.false_eq_true]
        repeat' (first
          | (refine V_at 16 (Imp.cellXS 3 2 3 2 _ _ rfl (by simp [go_sem, ↓reduceIte, Nat.reduceAdd, Nat.reduceSub, Nat.reduceMul, Nat.reduceDiv, Nat.reduceLT, Nat.reduceLeDiff, Nat.reduceEqDiff, Int.reduceToNat, reduceCtorEq]) rfl (by rw [hX]; exact Nat.le_refl 1)) ?_; simp only [List.set_cons_succ, List.set_cons_zero])
          | with_reducible first | refine V_seq ?_ | refine V_block ?_ | refine V_skip ?_ | refine V_ret ?_ | refine V_exit ?_
          | ((with_reducible refine V_cond ?_); simp only [go_sem, ↓reduceIte, Nat.reduceAdd, Nat.reduceSub, Nat.reduceMul, Nat.reduceDiv, Nat.reduceLT, Nat.reduceLeDiff, Nat.reduceEqDiff, Int.reduceToNat, reduceCtorEq])
          | ((first | refine V_region (by rw [hn]; rfl) ?_ | refine V_drawn hmix (by rw [hn]; rfl) ?_); intro K hK)
          | ((first | with_reducible refine evOps_n ?_ | ((with_reducible apply evOps_g); rfl) | with_reducible refine evOpsD_n ?_ | ((with_reducible apply evOpsD_g); rfl)); intro K hK; simp (contextual := true) only [go_sem, ↓reduceIte, Nat.reduceAdd, Nat.reduceSub, Nat.reduceMul, Nat.reduceDiv, Nat.reduceLT, Nat.reduceLeDiff, Nat.reduceEqDiff, Int.reduceToNat, reduceCtorEq])
          | with_reducible refine evOps_nil ?_
          | ((with_reducible refine evOpsD_nil ?_ ?_); kernel_rfl)
          | ((with_reducible refine hK _ ?_); clear hK K)
          | with_reducible first | refine And.intro ?_ ?_ | refine nxt_n ?_ | refine nxt_r ?_ | refine nxt_e ?_ | refine blk_n ?_ | refine blk_r ?_ | refine blk_same ?_ | refine blk_other (by decide) ?_ | refine noG_n ?_ | refine noG_r ?_ | refine noG_e ?_ | refine inR_mk ?_ ?_
          | (refine fun (hc : (_ : Bool) = _) => ?_; try simp only [decide_eq_true_eq, decide_eq_false_iff_not, Bool.not_eq_true', Bool.not_eq_false', Int.not_lt, Int.not_le, Cats.dec_iff, Cats.dec_not, Bool.and_eq_true, Bool.or_eq_true, Bool.and_eq_false_iff, Bool.or_eq_false_iff, Bool.not_eq_true, Bool.not_eq_false, Decidable.not_not, not_true_eq_false, not_false_eq_true] at hc))
        all_goals try (first | (with_reducible assumption) | ((try simp only [Cat.F, Cat.T, Cat.I, Cat.C, Fun.O, Fun.A, Cat.Entry, Int.toNat_natCast] at *); omega))
        refine ⟨⟨t + 1, by omega, (by trivial)⟩, by simp only; omega, Imp.auto hX (by simp only [go_sem, ↓reduceIte, Nat.reduceAdd, Nat.reduceSub, Nat.reduceMul, Nat.reduceDiv, Nat.reduceLT, Nat.reduceLeDiff, Nat.reduceEqDiff, Int.reduceToNat, reduceCtorEq])⟩
    · refine ⟨⟨s + 1, by omega, (by trivial)⟩, by simp only; omega, Imp.auto hX (by simp only [go_sem, ↓reduceIte, Nat.reduceAdd, Nat.reduceSub, Nat.reduceMul, Nat.reduceDiv, Nat.reduceLT, Nat.reduceLeDiff, Nat.reduceEqDiff, Int.reduceToNat, reduceCtorEq, cA_s (f := f) (e := e) (O := cObj f e) (s := s) (show t = (cObj f e).length by omega)])⟩
  · have es : s = (cObj f e).length := by omega
    subst es
    clear hX hn
    have hX := hX0
    have hn := hn0
    refine V_at 18 (Imp.openB 3 3 _ _ rfl (Nat.le_refl 1) rfl rfl) ?_
    simp only [List.set_cons_succ, List.set_cons_zero]
    repeat' (first
      | with_reducible first | refine V_seq ?_ | refine V_block ?_ | refine V_skip ?_ | refine V_ret ?_ | refine V_exit ?_
      | ((with_reducible refine V_cond ?_); simp only [go_sem, ↓reduceIte, Nat.reduceAdd, Nat.reduceSub, Nat.reduceMul, Nat.reduceDiv, Nat.reduceLT, Nat.reduceLeDiff, Nat.reduceEqDiff, Int.reduceToNat, reduceCtorEq])
      | ((first | refine V_region (by rw [hn]; rfl) ?_ | refine V_drawn hmix (by rw [hn]; rfl) ?_); intro K hK)
      | ((first | with_reducible refine evOps_n ?_ | ((with_reducible apply evOps_g); rfl) | with_reducible refine evOpsD_n ?_ | ((with_reducible apply evOpsD_g); rfl)); intro K hK; simp (contextual := true) only [go_sem, ↓reduceIte, Nat.reduceAdd, Nat.reduceSub, Nat.reduceMul, Nat.reduceDiv, Nat.reduceLT, Nat.reduceLeDiff, Nat.reduceEqDiff, Int.reduceToNat, reduceCtorEq])
      | with_reducible refine evOps_nil ?_
      | ((with_reducible refine evOpsD_nil ?_ ?_); kernel_rfl)
      | ((with_reducible refine hK _ ?_); clear hK K)
      | with_reducible first | refine And.intro ?_ ?_ | refine nxt_n ?_ | refine nxt_r ?_ | refine nxt_e ?_ | refine blk_n ?_ | refine blk_r ?_ | refine blk_same ?_ | refine blk_other (by decide) ?_ | refine noG_n ?_ | refine noG_r ?_ | refine noG_e ?_ | refine inR_mk ?_ ?_
      | (refine fun (hc : (_ : Bool) = _) => ?_; try simp only [decide_eq_true_eq, decide_eq_false_iff_not, Bool.not_eq_true', Bool.not_eq_false', Int.not_lt, Int.not_le, Cats.dec_iff, Cats.dec_not, Bool.and_eq_true, Bool.or_eq_true, Bool.and_eq_false_iff, Bool.or_eq_false_iff, Bool.not_eq_true, Bool.not_eq_false, Decidable.not_not, not_true_eq_false, not_false_eq_true] at hc))
    all_goals try (first | (with_reducible assumption) | ((try simp only [Cat.F, Cat.T, Cat.I, Cat.C, Fun.O, Fun.A, Cat.Entry, Int.toNat_natCast] at *); omega))
    (first | refine ret_auto ?_ | refine ret_auto' ?_); simp only [go_sem, ↓reduceIte, Nat.reduceAdd, Nat.reduceSub, Nat.reduceMul, Nat.reduceDiv, Nat.reduceLT, Nat.reduceLeDiff, Nat.reduceEqDiff, Int.reduceToNat, reduceCtorEq, Try.f125]
    rw [cArr]
end Go.Eng
