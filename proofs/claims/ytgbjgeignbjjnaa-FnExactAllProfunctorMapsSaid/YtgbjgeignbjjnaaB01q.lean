/- Lists that follow rules, by the program: what is done with a list that is found; an entry is set with all that follow from it. -/
import Derived.Test.YtgbjgeignbjjnaaKex
import Derived.Test.YtgbjgeignbjjnaaA01q
set_option linter.unusedSimpArgs false
set_option linter.unusedVariables false
set_option maxRecDepth 100000
set_option maxHeartbeats 16000000
namespace Go.Eng
open Go Go.Proofs Go.Cats
theorem stL_1 {β : Type} (M) (o : List β) (q) : (stL M o q).1 = decide (o.length + 1 ≤ M) := rfl
theorem stL_2 {β : Type} (M) (o : List β) (q) : (stL M o q).2 = o ++ [q] := rfl
attribute [local go_sem] List.set_cons_zero stL_1 stL_2
theorem cal_solver_set : Callable Try.prog 67 := ⟨_, Try.func67, rfl, rfl⟩
theorem cal_solver_run : Callable Try.prog 49 := ⟨_, Try.func49, rfl, rfl⟩
theorem cal_solve_1 : Callable Try.prog 48 := ⟨_, Try.func48, rfl, rfl⟩
theorem sp_solve_1 {q : List Int} {O : List (List Int)} {M : Nat} (hM : M ≤ 4096) (hO : O.length ≤ M) (hl : q.length ≤ 1048576) : Spec Try.prog 48 [.bor [] (ints q), .ptr 0 0, .ptr 1 0] [(0, ⟨1, .bx [.dead] 0 (intss O)⟩), (1, ⟨1, .box [iv M]⟩)] (bv (stL M O q).1) [(0, ⟨1, .bx [.dead] 0 (intss (stL M O q).2)⟩), (1, ⟨1, .box [iv M]⟩)] := by
  refine spec_of_V (E := TE) 2 Try.func48 rfl (by simp [Try.f48]) fun X hn hX => ?_
  refine V_endQ ?_
  repeat' (first | (refine V_at 1 (Imp.openB 0 0 _ _ rfl (Nat.le_refl 1) rfl rfl) ?_; simp only [go_sem, simprocAttr]) | (with_reducible first | refine V_seq ?_ | refine V_skip ?_ | refine V_ret ?_) | ((with_reducible refine V_cond ?_); simp only [go_sem, simprocAttr]) | ((first | refine V_region (by rw [hn]; rfl) ?_ | refine V_drawn hmix (by rw [hn]; rfl) ?_); intro K hK) | ((first | with_reducible refine evOps_n ?_ | ((with_reducible apply evOps_g); rfl) | with_reducible refine evOpsD_n ?_ | ((with_reducible apply evOpsD_g); rfl)); intro K hK; simp (contextual := true) only [go_sem, simprocAttr]) | with_reducible refine evOps_nil ?_ | ((with_reducible refine evOpsD_nil ?_ ?_); kernel_rfl) | ((with_reducible refine hK _ ?_); clear hK K) | (with_reducible first | refine And.intro ?_ ?_ | refine nxt_n ?_ | refine nxt_r ?_ | refine inR_mk ?_ ?_) | ((with_reducible refine evCall_at 29 ?_); refine EvCall.rq (a := (sp_clone ?_)) (b := cal_clone) (c := ?_); all_goals try simp only [go_sem, simprocAttr]) | (refine fun (hc : (_ : Bool) = _) => ?_; try simp only [hcS] at hc))
  all_goals try exact om_
  refine endQ_mk (Imp.closeB 0 5 0 _ _ rfl rfl rfl (by decide)) ?_
  (first | refine ret_auto ?_ | refine ret_auto' ?_); simp only [go_sem, simprocAttr, Try.f48]
  rw [show decide ((O.length : Int) + 1 ≤ (M : Int)) = decide (O.length + 1 ≤ M) from by rw [decide_eq_decide]; omega]
theorem mapL : MapL Try.prog 81 2 56 := ⟨Try.underlying81, Try.underlying2, fun w => by
  have h1 : (Try.prog.info? 56).bind (·.zero) = some (.slice none 0 0) := by
    show (Try.prog.types[56]?).bind (·.zero) = _
    rw [Try.type56]; rfl
  cases h2 : Try.prog.info? 56 with
  | none => rw [h2] at h1; cases h1
  | some i =>
    rw [h2] at h1
    have h3 : i.zero = some (.slice none 0 0) := h1
    simp [zeroValue, typeInfo, h2, h3]⟩
theorem loopF_0 {f : Nat → Int → List Int → List Int → St} {e : Int} {A N : List Int} : loopF f e [] A N = (true, A, N) := rfl
attribute [local go_sem] loopF_0
theorem sp_solver_set_n {rvs : List (Rule × RawV)} {S : List Nat} {Sz : List Int} {c M : Nat} {O : List (List Int)} (hw : RulesW S (rvs.map (·.1))) (hm : S.length ≤ 4096) (hm2 : rvs.length ≤ 1048576) : ∀ (n i : Nat) (e : Int) (A N : List Int), RngL S A → i < A.length → (0 ≤ e ∧ e < S.getD i 0) → uns A < n → N.length + uns A ≤ 4096 →
    SpecR Try.prog 67 [.ptr 0 0, iv i, iv e, .ptr 3 0] [(0, ⟨1, .box [.bor [] (ints Sz), .bor [] (rowsD Try.prog 2 c (rowsR rvs S.length)), .sl 2, .fn 48 [.ptr 4 0, .ptr 5 0]]⟩), (2, ⟨1, .arr (ints A)⟩), (3, ⟨1, .bx [.dead] 0 (ints N)⟩), (4, ⟨1, .bx [.dead] 0 (intss O)⟩), (5, ⟨1, .box [iv M]⟩)] (bv (setF (rvs.map (·.1)) n i e A N).1)
      [(0, ⟨1, .box [.bor [] (ints Sz), .bor [] (rowsD Try.prog 2 c (rowsR rvs S.length)), .sl 2, .fn 48 [.ptr 4 0, .ptr 5 0]]⟩), (2, ⟨1, .arr (ints (setF (rvs.map (·.1)) n i e A N).2.1)⟩), (3, ⟨1, .bx [.dead] 0 (ints (setF (rvs.map (·.1)) n i e A N).2.2)⟩), (4, ⟨1, .bx [.dead] 0 (intss O)⟩), (5, ⟨1, .box [iv M]⟩)] (RLent rvs)
  | 0, _, _, _, _, _, _, _, hk, _ => by omega
  | n + 1, i, e, A, N, hA, hi, he, hk, hN => by
    have hAl := hA.1
    refine specR_of_V (E := TE) 6 Try.func67 rfl (by simp [Try.f67]) fun X hn hX hRL => ?_
    have hrd := RLent.ok hRL
    by_cases h0 : 0 ≤ A.getD i 0
    · rw [setF_has h0]
      repeat' (first | (with_reducible first | refine V_seq ?_ | refine V_block ?_ | refine V_skip ?_ | refine V_ret ?_ | refine V_exit ?_) | ((with_reducible refine V_cond ?_); simp only [go_sem, simprocAttr]) | ((first | refine V_region (by rw [hn]; rfl) ?_ | refine V_drawn hmix (by rw [hn]; rfl) ?_); intro K hK) | ((first | with_reducible refine evOps_n ?_ | ((with_reducible apply evOps_g); rfl) | with_reducible refine evOpsD_n ?_ | ((with_reducible apply evOpsD_g); rfl)); intro K hK; simp (contextual := true) only [go_sem, simprocAttr]) | with_reducible refine evOps_nil ?_ | ((with_reducible refine evOpsD_nil ?_ ?_); kernel_rfl) | ((with_reducible refine hK _ ?_); clear hK K) | (with_reducible first | refine And.intro ?_ ?_ | refine nxt_n ?_ | refine nxt_r ?_ | refine nxt_e ?_ | refine blk_n ?_ | refine blk_r ?_ | refine blk_same ?_ | refine blk_other (by decide) ?_ | refine noG_n ?_ | refine noG_r ?_ | refine noG_e ?_ | refine inR_mk ?_ ?_) | (refine fun (hc : (_ : Bool) = _) => ?_; try simp only [hcS] at hc))
      all_goals try exact om_
      · (first | refine ret_auto ?_ | refine ret_auto' ?_); simp only [go_sem, simprocAttr, Try.f67]
    · rw [setF_new h0]
      have row := rowsR_at rvs (i := i) (m := S.length) (by omega)
      have rl := rowsR_len rvs S.length
      have hsl : ((rowsR rvs S.length).getD i anyD).isSl = true := by rw [row]; rfl
      repeat' (first | (refine V_at 4 (Imp.openB 3 0 _ _ rfl (Nat.le_refl 1) rfl rfl) ?_; simp only [go_sem, simprocAttr]) | (refine V_at 5 (Imp.trans (Imp.closeB 3 8 0 _ _ rfl rfl rfl (by decide)) (Imp.drop 7 (Nat.succ_le_succ (Nat.zero_le _)))) ?_; simp only [go_sem, simprocAttr]) | (with_reducible first | refine V_seq ?_ | refine V_block ?_ | refine V_skip ?_ | refine V_ret ?_ | refine V_exit ?_) | ((with_reducible refine V_cond ?_); simp only [go_sem, simprocAttr]) | ((first | refine V_region (by rw [hn]; rfl) ?_ | refine V_drawn hmix (by rw [hn]; rfl) ?_); intro K hK) | ((first | with_reducible refine evOps_n ?_ | ((with_reducible apply evOps_g); rfl) | with_reducible refine evOpsD_n ?_ | ((with_reducible apply evOpsD_g); rfl)); intro K hK; simp (contextual := true) only [go_sem, simprocAttr]) | with_reducible refine evOps_nil ?_ | ((with_reducible refine evOpsD_nil ?_ ?_); kernel_rfl) | ((with_reducible refine hK _ ?_); clear hK K) | (with_reducible first | refine And.intro ?_ ?_ | refine nxt_n ?_ | refine nxt_r ?_ | refine nxt_e ?_ | refine blk_n ?_ | refine blk_r ?_ | refine blk_same ?_ | refine blk_other (by decide) ?_ | refine noG_n ?_ | refine noG_r ?_ | refine noG_e ?_ | refine inR_mk ?_ ?_) | (refine hook_lendRow_b (z := i) mapL (by simp only [go_sem, simprocAttr]; rfl) (by simp only [go_sem, simprocAttr]) (by simp only [go_sem, simprocAttr]) (by omega) ⟨by omega, by omega⟩ hsl ?_; rw [row]; simp only [go_sem, simprocAttr]) | (refine fun (hc : (_ : Bool) = _) => ?_; try simp only [hcS] at hc))
      all_goals try exact om_
      have hat := rulesV_at rvs i
      have hll : (rulesV rvs i).length = (rulesAt (rvs.map (·.1)) i).length := by rw [← hat]; simp
      have hrl : (rulesV rvs i).length ≤ rvs.length := List.length_filter_le _ _
      refine V_loopK (G := {k : Nat // k ≤ (rulesV rvs i).length ∧ ((loopF (setF (rvs.map (·.1)) n) e ((rulesAt (rvs.map (·.1)) i).take k) (A.set i e) (N ++ [(i : Int)])).1 = true)}) (fun ⟨k, _⟩ => [(50, iv k)]) [0, 2, 3, 48, 49] (fun ⟨k, _⟩ => [(2, ⟨1, .arr (ints (loopF (setF (rvs.map (·.1)) n) e ((rulesAt (rvs.map (·.1)) i).take k) (A.set i e) (N ++ [(i : Int)])).2.1)⟩), (3, ⟨1, .bx [.dead] 0 (ints (loopF (setF (rvs.map (·.1)) n) e ((rulesAt (rvs.map (·.1)) i).take k) (A.set i e) (N ++ [(i : Int)])).2.2)⟩)]) [2, 3] (fun zz => (rulesV rvs i).length - zz.1) ⟨0, Nat.zero_le _, by rfl⟩ ?_ ?_
      · exact Imp.au hX
      rintro ⟨k, hik, hwk⟩
      simp only [go_sem, simprocAttr]
      rcases Nat.lt_or_ge k (rulesV rvs i).length with hlt | hge
      · have p1 := rules_part (rulesV rvs i) k hlt
        obtain ⟨p, hp⟩ : ∃ p, (rulesV rvs i).getD k default = p := ⟨_, rfl⟩
        have hpm : p ∈ rulesV rvs i := by rw [← hp, List.getD_eq_getElem?_getD, List.getElem?_eq_getElem hlt]; exact List.getElem_mem hlt
        have hpr : (rulesAt (rvs.map (·.1)) i).getD k default = p.1 := by rw [← hat, List.getD_eq_getElem?_getD, List.getElem?_map, List.getElem?_eq_getElem hlt, ← hp, List.getD_eq_getElem?_getD, List.getElem?_eq_getElem hlt]; rfl
        have hpv : p ∈ rvs := (List.mem_filter.1 hpm).1
        have hpf : p.1.fr = i := by simpa using (List.mem_filter.1 hpm).2
        have hp1 : p.1 ∈ rvs.map (·.1) := List.mem_map.2 ⟨p, hpv, rfl⟩
        rw [hp] at p1
        have w1 := hw.to p.1 hp1
        have w2 := hw.len p.1 hp1
        have w3 := hw.val p.1 hp1 e.toNat (by rw [hpf, Int.toNat_natCast]; omega)
        rw [hpf, Int.toNat_natCast] at w2
        have g0 := Fct.new (N := N) (b := true) hA hi h0 he
        have hlf := (loopF_facts (e := e) hw (setF_facts hw n) ((rulesAt (rvs.map (·.1)) i).take k) (A.set i e) (N ++ [(i : Int)]) g0.rng (fun r hr => by
          obtain ⟨m1, m2⟩ := mem_rulesAt (List.mem_of_mem_take hr)
          have t1 := hw.to r m1
          have v1 := hw.val r m1 e.toNat (by rw [m2]; simp only [Int.toNat_natCast]; omega)
          exact ⟨t1.1, t1.2, v1.1, v1.2⟩)).1
        have hu := (XtL.set (e := e) hi h0).uns_lt hi (by omega) (by rw [set_getD hi, if_pos rfl]; exact he.1)
        have hu2 := hlf.ext.uns
        have hc0 := (g0.trans hlf).cnt
        have hne := loopF_next (f := setF (rvs.map (·.1)) n) (e := e) (by omega) hwk rfl
        have hha := loopF_halt (f := setF (rvs.map (·.1)) n) (e := e) (by omega) hwk rfl
        rw [hpr] at hne hha
        obtain ⟨B, hB⟩ : ∃ B, (loopF (setF (rvs.map (·.1)) n) e ((rulesAt (rvs.map (·.1)) i).take k) (A.set i e) (N ++ [(i : Int)])).2.1 = B := ⟨_, rfl⟩
        obtain ⟨M', hM'⟩ : ∃ M', (loopF (setF (rvs.map (·.1)) n) e ((rulesAt (rvs.map (·.1)) i).take k) (A.set i e) (N ++ [(i : Int)])).2.2 = M' := ⟨_, rfl⟩
        have hBl := hlf.rng
        rw [hB] at hne hha hu2 hBl hc0 ⊢
        rw [hM'] at hne hha hc0 ⊢
        have hrec := sp_solver_set_n (Sz := Sz) (c := c) (M := M) (O := O) hw hm hm2 n p.1.to.toNat (p.1.by_.getD e.toNat 0) B M' hBl (by have := hBl.1; omega) w3 (by omega) (by omega)
        rw [Int.toNat_of_nonneg w1.1] at hrec
        obtain ⟨T, hT⟩ : ∃ T, setF (rvs.map (·.1)) n p.1.to.toNat (p.1.by_.getD e.toNat 0) B M' = T := ⟨_, rfl⟩
        rw [hT] at hrec hne hha
        repeat' (first | (rw [p1]) | ((refine V_drawnX hmix (by rw [hn]; rfl) ?_); intro K hK) | ((with_reducible refine evOpsDX_nil ?_ ?_); kernel_rfl) | (refine evOpsDX_h ?_; intro K hK; refine hook_idxR (k := .i64) (u := p.2.x) (A := p.1.by_) (n := e) (by simp only [go_sem, simprocAttr]) (by simp only [go_sem, simprocAttr]) (hRL _ hpv) rfl he.1 (by omega) ?_; simp (contextual := true) only [go_sem, simprocAttr]) | (refine evOpsDX_h ?_; intro K hK; refine HkX.callR (f := 67) (caps := []) hrd hrec cal_solver_set [(0,0),(2,2),(3,3),(4,4),(5,5)] [] (by simp only [go_sem, simprocAttr]) (by simp [go_sem] <;> first | rfl | exact ⟨rfl, rfl⟩ | exact ⟨rfl, rfl, rfl⟩) (by simp [go_sem] <;> first | rfl | exact ⟨rfl, rfl⟩ | exact ⟨rfl, rfl, rfl⟩) ?_; all_goals try simp only [go_sem, simprocAttr]) | ((with_reducible refine evOpsDX_n ?_); intro K hK; simp (contextual := true) only [go_sem, simprocAttr]) | (with_reducible first | refine V_seq ?_ | refine V_block ?_ | refine V_skip ?_ | refine V_ret ?_ | refine V_exit ?_) | ((with_reducible refine V_cond ?_); simp only [go_sem, simprocAttr]) | ((first | refine V_region (by rw [hn]; rfl) ?_ | refine V_drawn hmix (by rw [hn]; rfl) ?_); intro K hK) | ((first | with_reducible refine evOps_n ?_ | ((with_reducible apply evOps_g); rfl) | with_reducible refine evOpsD_n ?_ | ((with_reducible apply evOpsD_g); rfl)); intro K hK; simp (contextual := true) only [go_sem, simprocAttr]) | with_reducible refine evOps_nil ?_ | ((with_reducible refine evOpsD_nil ?_ ?_); kernel_rfl) | ((with_reducible refine hK _ ?_); clear hK K) | (with_reducible first | refine And.intro ?_ ?_ | refine nxt_n ?_ | refine nxt_r ?_ | refine nxt_e ?_ | refine blk_n ?_ | refine blk_r ?_ | refine blk_same ?_ | refine blk_other (by decide) ?_ | refine noG_n ?_ | refine noG_r ?_ | refine noG_e ?_ | refine inR_mk ?_ ?_) | (refine fun (hc : (_ : Bool) = _) => ?_; try simp only [hcS] at hc))
        all_goals try exact om_
        · rw [hha hc, hc]
          (first | refine ret_auto ?_ | refine ret_auto' ?_); simp only [go_sem, simprocAttr, Try.f67]
        · refine ⟨⟨k + 1, by omega, (by exact (by rw [hne hc]; exact hc))⟩, by simp only; omega, Imp.auto hX (by simp only [go_sem, simprocAttr, hne hc])⟩
      · rw [List.take_of_length_le (show (rulesAt (rvs.map (·.1)) i).length ≤ k by omega)] at hwk ⊢
        rw [hwk]
        repeat' (first | (with_reducible first | refine V_seq ?_ | refine V_block ?_ | refine V_skip ?_ | refine V_ret ?_ | refine V_exit ?_) | ((with_reducible refine V_cond ?_); simp only [go_sem, simprocAttr]) | ((first | refine V_region (by rw [hn]; rfl) ?_ | refine V_drawn hmix (by rw [hn]; rfl) ?_); intro K hK) | ((first | with_reducible refine evOps_n ?_ | ((with_reducible apply evOps_g); rfl) | with_reducible refine evOpsD_n ?_ | ((with_reducible apply evOpsD_g); rfl)); intro K hK; simp (contextual := true) only [go_sem, simprocAttr]) | with_reducible refine evOps_nil ?_ | ((with_reducible refine evOpsD_nil ?_ ?_); kernel_rfl) | ((with_reducible refine hK _ ?_); clear hK K) | (with_reducible first | refine And.intro ?_ ?_ | refine nxt_n ?_ | refine nxt_r ?_ | refine nxt_e ?_ | refine blk_n ?_ | refine blk_r ?_ | refine blk_same ?_ | refine blk_other (by decide) ?_ | refine noG_n ?_ | refine noG_r ?_ | refine noG_e ?_ | refine inR_mk ?_ ?_) | (refine fun (hc : (_ : Bool) = _) => ?_; try simp only [hcS] at hc))
        all_goals try exact om_
        · (first | refine ret_auto ?_ | refine ret_auto' ?_); simp only [go_sem, simprocAttr, Try.f67]
end Go.Eng
