/- The law's own functions: lists of functors are compared. -/
import Derived.Test.YtmpopmololpaoaaGreatKdx
import Derived.Test.YtmpopmololpaoaaGreatC18q
import Derived.Test.YtmpopmololpaoaaGreatEngFmq
import Derived.Test.YtmpopmololpaoaaGreatQ20q
set_option linter.unusedSimpArgs false
set_option linter.unusedVariables false
set_option maxRecDepth 100000
set_option maxHeartbeats 16000000
namespace Go.Eng
open Go Go.Proofs Go.Cats
attribute [local go_sem] List.set_cons_zero List.set_cons_succ
theorem mkFs_getD {F : List Fun} {i : Nat} : ∀ (k : Int), i < F.length → (mkFs k F).getD i default = mkF1 (k + mkFn (F.take i)) (F.getD i default) := by
  induction F generalizing i with
  | nil => intro k h; simp at h
  | cons f l ih =>
    intro k h
    cases i with
    | zero => simp [mkFs, mkFn]
    | succ i =>
      have := ih (i := i) (k + (f.mkn + 2 : Nat)) (by simpa using h)
      simp only [mkFs, List.getD_cons_succ, List.take_succ_cons, mkFn]
      rw [this]
      congr 1
      omega
theorem cal_eqFunctorS : Callable Tryz.prog 17 := ⟨_, Tryz.func17, rfl, rfl⟩
theorem sp_eqFunctorS {F : List Fun} (hb : ∀ f ∈ F, FunB f) (hF : F.length ≤ 1048576) : Spec Tryz.prog 17 [.bor [] (funsD F), .bor [] (funsD F)] [] (bv true) [] := by
  refine spec_of_V (E := TE) 0 Tryz.func17 rfl (by simp [Tryz.f17]) fun X hn hX => ?_
  repeat' (first | (with_reducible first | refine V_seq ?_ | refine V_block ?_ | refine V_skip ?_ | refine V_ret ?_ | refine V_exit ?_) | ((with_reducible refine V_cond ?_); simp only [go_sem, simprocAttr]) | ((first | refine V_region (by rw [hn]; rfl) ?_ | refine V_drawn hmix (by rw [hn]; rfl) ?_); intro K hK) | ((first | with_reducible refine evOps_n ?_ | ((with_reducible apply evOps_g); rfl) | with_reducible refine evOpsD_n ?_ | ((with_reducible apply evOpsD_g); rfl)); intro K hK; simp (contextual := true) only [go_sem, simprocAttr]) | with_reducible refine evOps_nil ?_ | ((with_reducible refine evOpsD_nil ?_ ?_); kernel_rfl) | ((with_reducible refine hK _ ?_); clear hK K) | (with_reducible first | refine And.intro ?_ ?_ | refine nxt_n ?_ | refine nxt_r ?_ | refine nxt_e ?_ | refine blk_n ?_ | refine blk_r ?_ | refine blk_same ?_ | refine blk_other (by decide) ?_ | refine noG_n ?_ | refine noG_r ?_ | refine noG_e ?_ | refine inR_mk ?_ ?_) | (refine fun (hc : (_ : Bool) = _) => ?_; try simp only [hcS] at hc))
  all_goals try (first | (with_reducible assumption) | ((try simp only [Cat.F, Cat.T, Cat.I, Cat.C, Fun.O, Fun.A, Cat.Entry, Int.toNat_natCast] at *); omega))
  refine V_loopK (G := {i : Nat // i ≤ F.length ∧ (True)}) (fun ⟨i, _⟩ => [(5, iv i)]) [0, 1] (fun ⟨i, _⟩ => []) [] (fun zz => F.length - zz.1) ⟨0, Nat.zero_le _, by first | trivial | simp⟩ ?_ ?_
  · exact Imp.auto hX (by simp [go_sem, simprocAttr])
  rintro ⟨i, hii, hwi⟩
  simp only [go_sem, simprocAttr]
  rcases Nat.lt_or_ge i F.length with hlt | hge
  · have hfb := hb (F.getD i default) (getD_mem hlt)
    have hp := funs_part F i hlt
    repeat' (first | (rw [hp]; simp only [funC]) | (with_reducible first | refine V_seq ?_ | refine V_block ?_ | refine V_skip ?_ | refine V_ret ?_ | refine V_exit ?_) | ((with_reducible refine V_cond ?_); simp only [go_sem, simprocAttr]) | ((first | refine V_region (by rw [hn]; rfl) ?_ | refine V_drawn hmix (by rw [hn]; rfl) ?_); intro K hK) | ((first | with_reducible refine evOps_n ?_ | ((with_reducible apply evOps_g); rfl) | with_reducible refine evOpsD_n ?_ | ((with_reducible apply evOpsD_g); rfl)); intro K hK; simp (contextual := true) only [go_sem, simprocAttr]) | with_reducible refine evOps_nil ?_ | ((with_reducible refine evOpsD_nil ?_ ?_); kernel_rfl) | ((with_reducible refine hK _ ?_); clear hK K) | (with_reducible first | refine And.intro ?_ ?_ | refine nxt_n ?_ | refine nxt_r ?_ | refine nxt_e ?_ | refine blk_n ?_ | refine blk_r ?_ | refine blk_same ?_ | refine blk_other (by decide) ?_ | refine noG_n ?_ | refine noG_r ?_ | refine noG_e ?_ | refine inR_mk ?_ ?_) | ((with_reducible refine evCall_at 27 ?_); refine EvCall.rq (a := (sp_eqFunctor (f:=F.getD i default) (g:=F.getD i default) ?_ ?_)) (b := cal_eqFunctor) (c := ?_); all_goals try simp only [go_sem, simprocAttr]) | (refine fun (hc : (_ : Bool) = _) => ?_; try simp only [hcS] at hc))
    all_goals try (first | (with_reducible assumption) | ((try simp only [Cat.F, Cat.T, Cat.I, Cat.C, Fun.O, Fun.A, Cat.Entry, Int.toNat_natCast] at *); omega))
    · refine ⟨⟨i + 1, by omega, (by trivial)⟩, by simp only; omega, Imp.auto hX (by simp only [go_sem, simprocAttr])⟩
  · repeat' (first | (with_reducible first | refine V_seq ?_ | refine V_block ?_ | refine V_skip ?_ | refine V_ret ?_ | refine V_exit ?_) | ((with_reducible refine V_cond ?_); simp only [go_sem, simprocAttr]) | ((first | refine V_region (by rw [hn]; rfl) ?_ | refine V_drawn hmix (by rw [hn]; rfl) ?_); intro K hK) | ((first | with_reducible refine evOps_n ?_ | ((with_reducible apply evOps_g); rfl) | with_reducible refine evOpsD_n ?_ | ((with_reducible apply evOpsD_g); rfl)); intro K hK; simp (contextual := true) only [go_sem, simprocAttr]) | with_reducible refine evOps_nil ?_ | ((with_reducible refine evOpsD_nil ?_ ?_); kernel_rfl) | ((with_reducible refine hK _ ?_); clear hK K) | (with_reducible first | refine And.intro ?_ ?_ | refine nxt_n ?_ | refine nxt_r ?_ | refine nxt_e ?_ | refine blk_n ?_ | refine blk_r ?_ | refine blk_same ?_ | refine blk_other (by decide) ?_ | refine noG_n ?_ | refine noG_r ?_ | refine noG_e ?_ | refine inR_mk ?_ ?_) | (refine fun (hc : (_ : Bool) = _) => ?_; try simp only [hcS] at hc))
    all_goals try (first | (with_reducible assumption) | ((try simp only [Cat.F, Cat.T, Cat.I, Cat.C, Fun.O, Fun.A, Cat.Entry, Int.toNat_natCast] at *); omega))
    (first | refine ret_auto ?_ | refine ret_auto' ?_); simp only [go_sem, simprocAttr, Tryz.f17]
theorem cal_heldFunctorS : Callable Tryz.prog 23 := ⟨_, Tryz.func23, rfl, rfl⟩
theorem sp_heldFunctorS_at {F D : List Fun} {k : Int} (h : D = mkFs k F) (hk : 0 ≤ k) (hl : k + mkFn F ≤ 9223372036854775807) (hb : ∀ f ∈ F, FunB f) (hF : F.length ≤ 1048576) : Spec Tryz.prog 23 [.bor [] (funsD D), iv k] [] (iv (k + mkFn F)) [] := by
  refine spec_of_V (E := TE) 0 Tryz.func23 rfl (by simp [Tryz.f23]) fun X hn hX => ?_
  subst h
  have hml := mkFs_len k F
  repeat' (first | (with_reducible first | refine V_seq ?_ | refine V_block ?_ | refine V_skip ?_ | refine V_ret ?_ | refine V_exit ?_) | ((with_reducible refine V_cond ?_); simp only [go_sem, simprocAttr]) | ((refine V_region (by rw [hn]; rfl) ?_); intro K hK) | ((first | with_reducible refine evOps_n ?_ | ((with_reducible apply evOps_g); rfl)); intro K hK; simp (contextual := true) only [go_sem, simprocAttr]) | with_reducible refine evOps_nil ?_ | ((with_reducible refine hK _ ?_); clear hK K) | (with_reducible first | refine And.intro ?_ ?_ | refine nxt_n ?_ | refine nxt_r ?_ | refine nxt_e ?_ | refine blk_n ?_ | refine blk_r ?_ | refine blk_same ?_ | refine blk_other (by decide) ?_ | refine noG_n ?_ | refine noG_r ?_ | refine noG_e ?_ | refine inR_mk ?_ ?_) | (refine fun (hc : (_ : Bool) = _) => ?_; try simp only [hcS] at hc))
  all_goals try (first | (with_reducible assumption) | ((try simp only [Cat.F, Cat.T, Cat.I, Cat.C, Fun.O, Fun.A, Cat.Entry, Int.toNat_natCast] at *); omega))
  refine V_loopK (G := {i : Nat // i ≤ F.length ∧ (True)}) (fun ⟨i, _⟩ => [(1, iv (k + mkFn (F.take i))), (5, iv i)]) [0] (fun ⟨i, _⟩ => []) [] (fun zz => F.length - zz.1) ⟨0, Nat.zero_le _, by simp [mkFn]⟩ ?_ ?_
  · exact Imp.auto hX (by simp [go_sem, simprocAttr])
  rintro ⟨i, hii, hwi⟩
  simp only [go_sem, simprocAttr]
  rcases Nat.lt_or_ge i F.length with hlt | hge
  · have e2 := mkFn_take hlt
    have e3 := mkFn_le F (i + 1)
    have hfb := hb (F.getD i default) (getD_mem hlt)
    have hp := funs_part (mkFs k F) i (by omega)
    have hg : (mkFs k F).getD i default = mkF1 (k + mkFn (F.take i)) (F.getD i default) := by
      exact mkFs_getD k hlt
    rw [hg] at hp
    rw [e2] at e3
    generalize F.getD i default = f at *
    generalize mkFn (F.take i) = n at *
    obtain ⟨⟨so, sf, st, si, sc⟩, ⟨to_, tf, tt, ti, tc⟩, q, r⟩ := f
    obtain ⟨⟨b1, b2, b3, b4, b5, b6, b7⟩, ⟨g1, g2, g3, g4, g5, g6, g7⟩, b8, b9⟩ := hfb
    simp only [Go.Cats.Fun.mkn, Go.Cats.Cat.mkn] at *
    simp only [funC, mkF1] at hp
    repeat' (first | (rw [hp]) | (with_reducible first | refine V_seq ?_ | refine V_block ?_ | refine V_skip ?_ | refine V_ret ?_ | refine V_exit ?_) | ((with_reducible refine V_cond ?_); simp only [go_sem, simprocAttr]) | ((refine V_region (by rw [hn]; rfl) ?_); intro K hK) | ((first | with_reducible refine evOps_n ?_ | ((with_reducible apply evOps_g); rfl)); intro K hK; simp (contextual := true) only [go_sem, simprocAttr]) | with_reducible refine evOps_nil ?_ | ((with_reducible refine hK _ ?_); clear hK K) | (with_reducible first | refine And.intro ?_ ?_ | refine nxt_n ?_ | refine nxt_r ?_ | refine nxt_e ?_ | refine blk_n ?_ | refine blk_r ?_ | refine blk_same ?_ | refine blk_other (by decide) ?_ | refine noG_n ?_ | refine noG_r ?_ | refine noG_e ?_ | refine inR_mk ?_ ?_) | ((with_reducible refine evCall_at 59 ?_); refine EvCall.rq (a := (sp_heldInt64S_at (by first | omega | assumption | rfl) (by first | omega | assumption | rfl) (by first | omega | assumption | rfl))) (b := cal_heldInt64S) (c := ?_); all_goals try simp only [go_sem, simprocAttr]) | ((with_reducible refine evCall_at 24 ?_); refine EvCall.rq (a := (sp_heldInt64SS_at (by first | omega | assumption | rfl) (by first | omega | assumption | rfl) (by first | omega | assumption | rfl) (by first | omega | assumption | rfl))) (b := cal_heldInt64SS) (c := ?_); all_goals try simp only [go_sem, simprocAttr]) | (refine fun (hc : (_ : Bool) = _) => ?_; try simp only [hcS] at hc))
    all_goals try (first | (with_reducible assumption) | ((try simp only [Cat.F, Cat.T, Cat.I, Cat.C, Fun.O, Fun.A, Cat.Entry, Int.toNat_natCast] at *); omega))
    have ec : k + (mkFn (F.take (i + 1)) : Int) = k + n + 1 + sf.length + st.length + si.length + sumLen sc + 1 + tf.length + tt.length + ti.length + sumLen tc + q.length + r.length := by omega
    · refine ⟨⟨i + 1, by omega, (by trivial)⟩, by simp only; omega, Imp.auto hX (by simp only [go_sem, simprocAttr, ec])⟩
  · have ei : i = F.length := by omega
    subst ei
    repeat' (first | (with_reducible first | refine V_seq ?_ | refine V_block ?_ | refine V_skip ?_ | refine V_ret ?_ | refine V_exit ?_) | ((with_reducible refine V_cond ?_); simp only [go_sem, simprocAttr]) | ((refine V_region (by rw [hn]; rfl) ?_); intro K hK) | ((first | with_reducible refine evOps_n ?_ | ((with_reducible apply evOps_g); rfl)); intro K hK; simp (contextual := true) only [go_sem, simprocAttr]) | with_reducible refine evOps_nil ?_ | ((with_reducible refine hK _ ?_); clear hK K) | (with_reducible first | refine And.intro ?_ ?_ | refine nxt_n ?_ | refine nxt_r ?_ | refine nxt_e ?_ | refine blk_n ?_ | refine blk_r ?_ | refine blk_same ?_ | refine blk_other (by decide) ?_ | refine noG_n ?_ | refine noG_r ?_ | refine noG_e ?_ | refine inR_mk ?_ ?_) | (refine fun (hc : (_ : Bool) = _) => ?_; try simp only [hcS] at hc))
    all_goals try (first | (with_reducible assumption) | ((try simp only [Cat.F, Cat.T, Cat.I, Cat.C, Fun.O, Fun.A, Cat.Entry, Int.toNat_natCast] at *); omega))
    (first | refine ret_auto ?_ | refine ret_auto' ?_); simp only [go_sem, simprocAttr, Tryz.f23]
    simp only [List.take_length]
end Go.Eng
