/- The search of functors by the program: what is done with a functor that is found; arrow by arrow. -/
import Derived.Test.YtfinbajnalaomaaGreatQ01q
set_option linter.unusedSimpArgs false
set_option linter.unusedVariables false
set_option maxRecDepth 100000
set_option maxHeartbeats 16000000
namespace Go.Eng
open Go Go.Proofs Go.Cats
theorem stF_1 {M : Nat} {o : List Fun} {q : Fun} : (stL M o q).1 = decide (o.length + 1 ≤ M) := rfl
theorem stF_2 {M : Nat} {o : List Fun} {q : Fun} : (stL M o q).2 = o ++ [q] := rfl
theorem sp_index_int64_k {l : List Int} {n k : Int} (hl : l.length ≤ 1048576) (hk : idxOf l n = k) : Spec Tryz.prog 91 [.bor [] (ints l), iv n] [] (iv k) [] := by
  subst hk
  exact sp_index_int64 hl
theorem eat_nil_f {M : Nat} {O : List Fun} : eat (stL M) O [] = (true, O) := rfl
attribute [local go_sem] eat_nil_f belowH_nil List.map_nil List.set_cons_zero List.set_cons_succ stF_1 stF_2
theorem cal_allFunctors_1 : Callable Tryz.prog 62 := ⟨_, Tryz.func62, rfl, rfl⟩
theorem sp_allFunctors_1 {c d : Cat} {p q : List Int} {F : List Fun} {M : Nat} (hM : M ≤ 4096) (hF : F.length ≤ M) (bc : CatB c) (bd : CatB d) (hp : p.length ≤ 1048576) (hq : q.length ≤ 1048576) : Spec Tryz.prog 62 [.sl 4, .sl 5, .ptr 0 0, .ptr 1 0, .ptr 2 0, .ptr 3 0] [(0, ⟨1, .bx [.dead] 0 (funsD F)⟩), (1, ⟨1, .box [.bptr [] (catD c)]⟩), (2, ⟨1, .box [.bptr [] (catD d)]⟩), (3, ⟨1, .box [iv M]⟩), (4, ⟨1, .arr (ints p)⟩), (5, ⟨1, .arr (ints q)⟩)] (bv (stL M F ⟨c, d, p, q⟩).1) [(0, ⟨1, .bx [.dead] 0 (funsD (stL M F ⟨c, d, p, q⟩).2)⟩), (1, ⟨1, .box [.bptr [] (catD c)]⟩), (2, ⟨1, .box [.bptr [] (catD d)]⟩), (3, ⟨1, .box [iv M]⟩), (4, ⟨1, .arr (ints p)⟩), (5, ⟨1, .arr (ints q)⟩)] := by
  refine spec_of_V (E := TE) 6 Tryz.func62 rfl (by simp [Tryz.f62]) fun X hn hX => ?_
  refine V_endQ ?_
  repeat' (first | (refine V_at 1 (Imp.openB 0 0 _ _ rfl (Nat.le_refl 1) rfl rfl) ?_; simp only [go_sem, simprocAttr]) | (with_reducible first | refine V_seq ?_ | refine V_skip ?_ | refine V_ret ?_) | ((with_reducible refine V_cond ?_); simp only [go_sem, simprocAttr]) | ((first | refine V_region (by rw [hn]; rfl) ?_ | refine V_drawn hmix (by rw [hn]; rfl) ?_); intro K hK) | ((first | with_reducible refine evOps_n ?_ | ((with_reducible apply evOps_g); rfl) | with_reducible refine evOpsD_n ?_ | ((with_reducible apply evOpsD_g); rfl)); intro K hK; simp (contextual := true) only [go_sem, simprocAttr]) | with_reducible refine evOps_nil ?_ | ((with_reducible refine evOpsD_nil ?_ ?_); kernel_rfl) | ((with_reducible refine hK _ ?_); clear hK K) | (with_reducible first | refine And.intro ?_ ?_ | refine nxt_n ?_ | refine nxt_r ?_ | refine inR_mk ?_ ?_) | ((with_reducible refine evCall_at 63 ?_); refine EvCall.rq (a := (sp_functor ?_ ?_ ?_ ?_)) (b := cal_functor) (c := ?_); all_goals try simp only [go_sem, simprocAttr]) | (refine fun (hc : (_ : Bool) = _) => ?_; try simp only [hcS] at hc))
  all_goals try exact om_
  refine endQ_mk (Imp.closeB 0 18 0 _ _ rfl rfl rfl (by decide)) ?_
  (first | refine ret_auto ?_ | refine ret_auto' ?_); simp only [go_sem, simprocAttr, Tryz.f62]
  rw [show decide ((F.length : Int) + 1 ≤ (M : Int)) = decide (F.length + 1 ≤ M) from by rw [decide_eq_decide]; omega]
def _root_.Go.Cats.mkF (c d : Cat) (P Q : List Int) : Fun := ⟨c, d, P, Q⟩
def _root_.Go.Cats.endA (r : Bool × List Fun) (A : List Int) : List Int := if r.1 = true then A else (r.2.getLastD default).ars
theorem endA_t {o : List Fun} {A : List Int} : endA (true, o) A = A := rfl
theorem endA_snoc {b : Bool} {o : List Fun} {c d : Cat} {P A : List Int} : endA (b, o ++ [mkF c d P A]) A = A := by
  unfold endA
  cases b
  · rw [if_neg (by simp), List.getLastD_concat]; rfl
  · rw [if_pos rfl]
theorem cal_search_next : Callable Tryz.prog 80 := ⟨_, Tryz.func80, rfl, rfl⟩
theorem sp_search_next_n {c d : Cat} {b : Bool} {P : List Int} {M : Nat} (sc : IsCat c) (sd : IsCat d) (bc : CatB c) (bd : CatB d) (hM : M ≤ 4096) (hP : XOK c d b P) : ∀ (n : Nat) (F : List Fun) (A : List Int), NX c d b P A → uns A < n → F.length ≤ M →
    Spec Tryz.prog 80 [.ptr 0 0] [(0, ⟨1, .box [.bptr [] (catD c), .bptr [] (catD d), .sl 1, .sl 2, .v (.bool b), .fn 62 [.ptr 3 0, .ptr 4 0, .ptr 5 0, .ptr 6 0]]⟩), (1, ⟨1, .arr (ints (P))⟩), (2, ⟨1, .arr (ints (A))⟩), (3, ⟨1, .bx [.dead] 0 (funsD (F))⟩), (4, ⟨1, .box [.bptr [] (catD c)]⟩), (5, ⟨1, .box [.bptr [] (catD d)]⟩), (6, ⟨1, .box [iv M]⟩)] (bv (eat (stL M) F ((extW (WA c d b P) (sA c d) A).map (mkF c d P))).1)
      [(0, ⟨1, .box [.bptr [] (catD c), .bptr [] (catD d), .sl 1, .sl 2, .v (.bool b), .fn 62 [.ptr 3 0, .ptr 4 0, .ptr 5 0, .ptr 6 0]]⟩), (1, ⟨1, .arr (ints (P))⟩), (2, ⟨1, .arr (ints (endA (eat (stL M) F ((extW (WA c d b P) (sA c d) A).map (mkF c d P))) A))⟩), (3, ⟨1, .bx [.dead] 0 (funsD ((eat (stL M) F ((extW (WA c d b P) (sA c d) A).map (mkF c d P))).2))⟩), (4, ⟨1, .box [.bptr [] (catD c)]⟩), (5, ⟨1, .box [.bptr [] (catD d)]⟩), (6, ⟨1, .box [iv M]⟩)]
  | 0, _, _, _, hk, _ => by omega
  | n + 1, F, A, hA, hk, hF => by
    have hAl := hA.va.len
    have m40 := sc.toShape.m40
    have n40 := sd.toShape.m40
    have n8 := sc.toShape.ob8
    have tol := sc.toShape.tol
    have nol := sd.toShape.tol
    have hPl := hP.len
    refine spec_of_V (E := TE) 7 Tryz.func80 rfl (by simp [Tryz.f80]) fun X hn hX => ?_
    rcases idx_first hA.va.rng with ⟨hk1, hfull⟩ | ⟨i, hk1, hi, hi1, hi2⟩
    · rw [hA.leaf hP hfull, List.map_cons, List.map_nil, eat_one, show stL M F (mkF c d P A) = (decide (F.length + 1 ≤ M), F ++ [mkF c d P A]) from rfl, endA_snoc]
      have hcl := sp_allFunctors_1 (F := F) (p := P) (q := A) hM hF bc bd (by omega) (by omega)
      repeat' (first | (with_reducible first | refine V_seq ?_ | refine V_block ?_ | refine V_skip ?_ | refine V_ret ?_ | refine V_exit ?_) | ((with_reducible refine V_cond ?_); simp only [go_sem, simprocAttr]) | ((first | refine V_region (by rw [hn]; rfl) ?_ | refine V_drawn hmix (by rw [hn]; rfl) ?_); intro K hK) | ((first | with_reducible refine evOps_n ?_ | ((with_reducible apply evOps_g); rfl) | with_reducible refine evOpsD_n ?_ | ((with_reducible apply evOpsD_g); rfl)); intro K hK; simp (contextual := true) only [go_sem, simprocAttr]) | with_reducible refine evOps_nil ?_ | ((with_reducible refine evOpsD_nil ?_ ?_); kernel_rfl) | ((with_reducible refine hK _ ?_); clear hK K) | (with_reducible first | refine And.intro ?_ ?_ | refine nxt_n ?_ | refine nxt_r ?_ | refine nxt_e ?_ | refine blk_n ?_ | refine blk_r ?_ | refine blk_same ?_ | refine blk_other (by decide) ?_ | refine noG_n ?_ | refine noG_r ?_ | refine noG_e ?_ | refine inR_mk ?_ ?_) | ((with_reducible refine evCall_at 91 ?_); refine EvCall.rq (a := (sp_index_int64_k (k:=-1) (by first | omega | assumption | rfl) (by first | omega | assumption | rfl))) (b := cal_index_int64) (c := ?_); all_goals try simp only [go_sem, simprocAttr]) | ((with_reducible refine evCall_at 62 ?_); refine EvCall.mk (hcl) cal_allFunctors_1 [(0,3),(1,4),(2,5),(3,6),(4,1),(5,2)] [] (by simp [go_sem] <;> (repeat' (first | rfl | constructor))) (by simp [go_sem] <;> (repeat' (first | rfl | constructor))) ?_; all_goals try simp only [go_sem, simprocAttr]) | (refine fun (hc : (_ : Bool) = _) => ?_; try simp only [hcS] at hc))
      all_goals try exact om_
      · (first | refine ret_auto ?_ | refine ret_auto' ?_); simp only [go_sem, simprocAttr, Tryz.f80]
        rfl
    · rw [branch_hom hA.va hi hi1 hi2]
      have f1 := sc.toShape.frw i (by omega)
      have f2 := sc.toShape.tow i (by omega)
      obtain ⟨L, hL⟩ : ∃ L, d.hom (P.getD (c.fr.getD i 0).toNat 0) (P.getD (c.to.getD i 0).toNat 0) = L := ⟨_, rfl⟩
      have hLl : L.length ≤ 40 := by rw [← hL]; exact Nat.le_trans (Cat.hom_len _ _ _) n40
      rw [hL]
      repeat' (first | (with_reducible first | refine V_seq ?_ | refine V_block ?_ | refine V_skip ?_ | refine V_ret ?_ | refine V_exit ?_) | ((with_reducible refine V_cond ?_); simp only [go_sem, simprocAttr]) | ((first | refine V_region (by rw [hn]; rfl) ?_ | refine V_drawn hmix (by rw [hn]; rfl) ?_); intro K hK) | ((first | with_reducible refine evOps_n ?_ | ((with_reducible apply evOps_g); rfl) | with_reducible refine evOpsD_n ?_ | ((with_reducible apply evOpsD_g); rfl)); intro K hK; simp (contextual := true) only [go_sem, simprocAttr]) | with_reducible refine evOps_nil ?_ | ((with_reducible refine evOpsD_nil ?_ ?_); kernel_rfl) | ((with_reducible refine hK _ ?_); clear hK K) | (with_reducible first | refine And.intro ?_ ?_ | refine nxt_n ?_ | refine nxt_r ?_ | refine nxt_e ?_ | refine blk_n ?_ | refine blk_r ?_ | refine blk_same ?_ | refine blk_other (by decide) ?_ | refine noG_n ?_ | refine noG_r ?_ | refine noG_e ?_ | refine inR_mk ?_ ?_) | ((with_reducible refine evCall_at 91 ?_); refine EvCall.rq (a := (sp_index_int64_k (k:=(i:Int)) (by first | omega | assumption | rfl) (by first | omega | assumption | rfl))) (b := cal_index_int64) (c := ?_); all_goals try simp only [go_sem, simprocAttr]) | ((with_reducible refine evCall_at 68 ?_); refine EvCall.rq (a := (sp_clone ?_)) (b := cal_clone) (c := ?_); all_goals try simp only [go_sem, simprocAttr]) | ((with_reducible refine evCall_at 84 ?_); refine EvCall.rq (a := (sp_Category_hom ?_ ?_)) (b := cal_Category_hom) (c := ?_); all_goals try simp only [go_sem, simprocAttr]) | (refine fun (hc : (_ : Bool) = _) => ?_; try simp only [hcS] at hc))
      all_goals try exact om_
      rw [hL]
      refine V_loopK (G := {u : Nat // u ≤ L.length ∧ ((eat (stL M) F ((belowH (WA c d b P) (sA c d) A i (L.take u)).map (mkF c d P))).1 = true)}) (fun ⟨u, _⟩ => [(70, iv u)]) [0, 3, 4, 68, 69] (fun ⟨u, _⟩ => [(2, ⟨1, .arr (ints A)⟩), (3, ⟨1, .bx [.dead] 0 (funsD (eat (stL M) F ((belowH (WA c d b P) (sA c d) A i (L.take u)).map (mkF c d P))).2)⟩)]) [2, 3] (fun zz => L.length - zz.1) ⟨0, Nat.zero_le _, by rfl⟩ ?_ ?_
      · exact Imp.au hX
      rintro ⟨u, hiu, hwu⟩
      simp only [go_sem, simprocAttr]
      have hF2 := eat_Llen hF hwu
      rcases Nat.lt_or_ge u L.length with hlt | hge
      · have hv : L.getD u 0 ∈ d.hom (P.getD (c.fr.getD i 0).toNat 0) (P.getD (c.to.getD i 0).toNat 0) := by rw [hL]; exact getD_mem hlt
        obtain ⟨hT, hTu⟩ := hA.try_ sc.toShape sd.toShape hP hi hi1 hv
        obtain ⟨F2, hF2e⟩ : ∃ F2, eat (stL M) F ((belowH (WA c d b P) (sA c d) A i (L.take u)).map (mkF c d P)) = (true, F2) := ⟨_, Prod.ext hwu rfl⟩
        rw [hF2e] at hF2 hwu ⊢
        simp only at hF2
        have hsp := sp_search_spread (b := b) (P := P) (F := F2) (M := M) sc.toShape sd.toShape (hom_try hA.va hi hv)
        obtain ⟨ok, C, hTe⟩ : ∃ ok C, spreadF c d b (A.set i (L.getD u 0)) = (ok, C) := ⟨_, _, rfl⟩
        rw [hTe] at hT hTu hsp
        have hCl := hT.va.len
        simp only at hTu hCl hsp
        have hstep := belowH_take (W := WA c d b P) (S := sA c d) (A := A) (i := i) hlt
        cases ok with
        | false =>
          have hE := hT.no rfl
          have hnext : eat (stL M) F ((belowH (WA c d b P) (sA c d) A i (L.take (u + 1))).map (mkF c d P)) = (true, F2) := by rw [hstep, hE, List.append_nil, hF2e]
          repeat' (first | (with_reducible first | refine V_seq ?_ | refine V_block ?_ | refine V_skip ?_ | refine V_ret ?_ | refine V_exit ?_) | ((with_reducible refine V_cond ?_); simp only [go_sem, simprocAttr]) | ((first | refine V_region (by rw [hn]; rfl) ?_ | refine V_drawn hmix (by rw [hn]; rfl) ?_); intro K hK) | ((first | with_reducible refine evOps_n ?_ | ((with_reducible apply evOps_g); rfl) | with_reducible refine evOpsD_n ?_ | ((with_reducible apply evOpsD_g); rfl)); intro K hK; simp (contextual := true) only [go_sem, simprocAttr]) | with_reducible refine evOps_nil ?_ | ((with_reducible refine evOpsD_nil ?_ ?_); kernel_rfl) | ((with_reducible refine hK _ ?_); clear hK K) | (with_reducible first | refine And.intro ?_ ?_ | refine nxt_n ?_ | refine nxt_r ?_ | refine nxt_e ?_ | refine blk_n ?_ | refine blk_r ?_ | refine blk_same ?_ | refine blk_other (by decide) ?_ | refine noG_n ?_ | refine noG_r ?_ | refine noG_e ?_ | refine inR_mk ?_ ?_) | ((with_reducible refine evCall_at 79 ?_); refine EvCall.mk (hsp) cal_search_spread [(0,0),(1,1),(2,2),(3,3),(4,4),(5,5),(6,6)] [] (by simp [go_sem] <;> (repeat' (first | rfl | constructor))) (by simp [go_sem] <;> (repeat' (first | rfl | constructor))) ?_; all_goals try simp only [go_sem, simprocAttr]) | (refine hook_copy (i := 2) (j := 7) (A := C) (B := A) (by simp only [go_sem, simprocAttr]; rfl) (by simp only [go_sem, simprocAttr]) (by simp only [go_sem, simprocAttr]; rfl) (by simp only [go_sem, simprocAttr]) (by simp only [go_sem, simprocAttr]; rfl) (by decide) (by omega) (by omega) ?_; simp only [go_sem, simprocAttr]) | (refine fun (hc : (_ : Bool) = _) => ?_; try simp only [hcS] at hc))
          all_goals try exact om_
          · refine ⟨⟨u + 1, by omega, (by (rw [hnext]))⟩, by simp only; omega, Imp.auto hX (by simp only [go_sem, simprocAttr, hnext])⟩
        | true =>
          obtain ⟨g1, g2⟩ := hT.yes rfl
          simp only at g1 g2
          have hrun := sp_search_next_n sc sd bc bd hM hP n F2 C g1 (by omega) hF2
          obtain ⟨ok2, F3, hr⟩ : ∃ ok2 F3, eat (stL M) F2 ((extW (WA c d b P) (sA c d) C).map (mkF c d P)) = (ok2, F3) := ⟨_, _, rfl⟩
          rw [hr] at hrun
          simp only at hrun
          have hnext : eat (stL M) F ((belowH (WA c d b P) (sA c d) A i (L.take (u + 1))).map (mkF c d P)) = (ok2, F3) := by rw [hstep, g2, List.map_append, eat_go (by rw [hF2e]), hF2e, hr]
          cases ok2 with
          | true =>
            rw [endA_t] at hrun
            repeat' (first | (with_reducible first | refine V_seq ?_ | refine V_block ?_ | refine V_skip ?_ | refine V_ret ?_ | refine V_exit ?_) | ((with_reducible refine V_cond ?_); simp only [go_sem, simprocAttr]) | ((first | refine V_region (by rw [hn]; rfl) ?_ | refine V_drawn hmix (by rw [hn]; rfl) ?_); intro K hK) | ((first | with_reducible refine evOps_n ?_ | ((with_reducible apply evOps_g); rfl) | with_reducible refine evOpsD_n ?_ | ((with_reducible apply evOpsD_g); rfl)); intro K hK; simp (contextual := true) only [go_sem, simprocAttr]) | with_reducible refine evOps_nil ?_ | ((with_reducible refine evOpsD_nil ?_ ?_); kernel_rfl) | ((with_reducible refine hK _ ?_); clear hK K) | (with_reducible first | refine And.intro ?_ ?_ | refine nxt_n ?_ | refine nxt_r ?_ | refine nxt_e ?_ | refine blk_n ?_ | refine blk_r ?_ | refine blk_same ?_ | refine blk_other (by decide) ?_ | refine noG_n ?_ | refine noG_r ?_ | refine noG_e ?_ | refine inR_mk ?_ ?_) | ((with_reducible refine evCall_at 79 ?_); refine EvCall.mk (hsp) cal_search_spread [(0,0),(1,1),(2,2),(3,3),(4,4),(5,5),(6,6)] [] (by simp [go_sem] <;> (repeat' (first | rfl | constructor))) (by simp [go_sem] <;> (repeat' (first | rfl | constructor))) ?_; all_goals try simp only [go_sem, simprocAttr]) | ((with_reducible refine evCall_at 80 ?_); refine EvCall.mk (hrun) cal_search_next [(0,0),(1,1),(2,2),(3,3),(4,4),(5,5),(6,6)] [] (by simp [go_sem] <;> (repeat' (first | rfl | constructor))) (by simp [go_sem] <;> (repeat' (first | rfl | constructor))) ?_; all_goals try simp only [go_sem, simprocAttr]) | (refine hook_copy (i := 2) (j := 7) (A := C) (B := A) (by simp only [go_sem, simprocAttr]; rfl) (by simp only [go_sem, simprocAttr]) (by simp only [go_sem, simprocAttr]; rfl) (by simp only [go_sem, simprocAttr]) (by simp only [go_sem, simprocAttr]; rfl) (by decide) (by omega) (by omega) ?_; simp only [go_sem, simprocAttr]) | (refine fun (hc : (_ : Bool) = _) => ?_; try simp only [hcS] at hc))
            all_goals try exact om_
            · refine ⟨⟨u + 1, by omega, (by (rw [hnext]))⟩, by simp only; omega, Imp.auto hX (by simp only [go_sem, simprocAttr, hnext])⟩
          | false =>
            obtain ⟨R, hR⟩ := belowH_split (W := WA c d b P) (S := sA c d) (A := A) (i := i) hlt
            have hall : eat (stL M) F ((belowH (WA c d b P) (sA c d) A i L).map (mkF c d P)) = (false, F3) := by rw [hR, List.map_append, eat_stop (by rw [hnext]), hnext]
            rw [hall]
            repeat' (first | (with_reducible first | refine V_seq ?_ | refine V_block ?_ | refine V_skip ?_ | refine V_ret ?_ | refine V_exit ?_) | ((with_reducible refine V_cond ?_); simp only [go_sem, simprocAttr]) | ((first | refine V_region (by rw [hn]; rfl) ?_ | refine V_drawn hmix (by rw [hn]; rfl) ?_); intro K hK) | ((first | with_reducible refine evOps_n ?_ | ((with_reducible apply evOps_g); rfl) | with_reducible refine evOpsD_n ?_ | ((with_reducible apply evOpsD_g); rfl)); intro K hK; simp (contextual := true) only [go_sem, simprocAttr]) | with_reducible refine evOps_nil ?_ | ((with_reducible refine evOpsD_nil ?_ ?_); kernel_rfl) | ((with_reducible refine hK _ ?_); clear hK K) | (with_reducible first | refine And.intro ?_ ?_ | refine nxt_n ?_ | refine nxt_r ?_ | refine nxt_e ?_ | refine blk_n ?_ | refine blk_r ?_ | refine blk_same ?_ | refine blk_other (by decide) ?_ | refine noG_n ?_ | refine noG_r ?_ | refine noG_e ?_ | refine inR_mk ?_ ?_) | ((with_reducible refine evCall_at 79 ?_); refine EvCall.mk (hsp) cal_search_spread [(0,0),(1,1),(2,2),(3,3),(4,4),(5,5),(6,6)] [] (by simp [go_sem] <;> (repeat' (first | rfl | constructor))) (by simp [go_sem] <;> (repeat' (first | rfl | constructor))) ?_; all_goals try simp only [go_sem, simprocAttr]) | ((with_reducible refine evCall_at 80 ?_); refine EvCall.mk (hrun) cal_search_next [(0,0),(1,1),(2,2),(3,3),(4,4),(5,5),(6,6)] [] (by simp [go_sem] <;> (repeat' (first | rfl | constructor))) (by simp [go_sem] <;> (repeat' (first | rfl | constructor))) ?_; all_goals try simp only [go_sem, simprocAttr]) | (refine fun (hc : (_ : Bool) = _) => ?_; try simp only [hcS] at hc))
            all_goals try exact om_
            · (first | refine ret_auto ?_ | refine ret_auto' ?_); simp only [go_sem, simprocAttr, Tryz.f80]
              rfl
      · rw [List.take_of_length_le hge] at hwu ⊢
        obtain ⟨F2, hF2e⟩ : ∃ F2, eat (stL M) F ((belowH (WA c d b P) (sA c d) A i L).map (mkF c d P)) = (true, F2) := ⟨_, Prod.ext hwu rfl⟩
        rw [hF2e]
        repeat' (first | (with_reducible first | refine V_seq ?_ | refine V_block ?_ | refine V_skip ?_ | refine V_ret ?_ | refine V_exit ?_) | ((with_reducible refine V_cond ?_); simp only [go_sem, simprocAttr]) | ((first | refine V_region (by rw [hn]; rfl) ?_ | refine V_drawn hmix (by rw [hn]; rfl) ?_); intro K hK) | ((first | with_reducible refine evOps_n ?_ | ((with_reducible apply evOps_g); rfl) | with_reducible refine evOpsD_n ?_ | ((with_reducible apply evOpsD_g); rfl)); intro K hK; simp (contextual := true) only [go_sem, simprocAttr]) | with_reducible refine evOps_nil ?_ | ((with_reducible refine evOpsD_nil ?_ ?_); kernel_rfl) | ((with_reducible refine hK _ ?_); clear hK K) | (with_reducible first | refine And.intro ?_ ?_ | refine nxt_n ?_ | refine nxt_r ?_ | refine nxt_e ?_ | refine blk_n ?_ | refine blk_r ?_ | refine blk_same ?_ | refine blk_other (by decide) ?_ | refine noG_n ?_ | refine noG_r ?_ | refine noG_e ?_ | refine inR_mk ?_ ?_) | (refine fun (hc : (_ : Bool) = _) => ?_; try simp only [hcS] at hc))
        all_goals try exact om_
        · (first | refine ret_auto ?_ | refine ret_auto' ?_); simp only [go_sem, simprocAttr, Tryz.f80]
          rfl
end Go.Eng
