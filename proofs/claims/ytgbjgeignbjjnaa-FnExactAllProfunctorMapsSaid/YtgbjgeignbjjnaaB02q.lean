/- Lists that follow rules, by the program: in depth, each list handed on until it is enough. -/
import Derived.Test.YtgbjgeignbjjnaaB01q
set_option linter.unusedSimpArgs false
set_option linter.unusedVariables false
set_option maxRecDepth 100000
set_option maxHeartbeats 16000000
namespace Go.Eng
open Go Go.Proofs Go.Cats
theorem belowE_0 {W : List Int → Bool} {S : List Nat} {A : List Int} {i : Nat} : belowE W S A i 0 = [] := rfl
theorem eat_nil_s {M : Nat} {O : List (List Int)} : eat (stL M) O [] = (true, O) := rfl
theorem undoL_0 {Q : List Int} : undoL Q [] = Q := rfl
attribute [local go_sem] belowE_0 eat_nil_s undoL_0 List.set_cons_zero
theorem sp_index_int64_b {l : List Int} {n k : Int} (hl : l.length ≤ 1048576) (hk : idxOf l n = k) : Spec Try.prog 66 [.bor [] (ints l), iv n] [] (iv k) [] := by
  subst hk
  exact sp_index_int64 hl
theorem sp_solver_run_n {rvs : List (Rule × RawV)} {S : List Nat} {Sz : List Int} {c M : Nat} (hw : RulesW S (rvs.map (·.1))) (hm : S.length ≤ 2048) (hm2 : rvs.length ≤ 1048576) (hM : M ≤ 4096) (hSl : Sz.length = S.length) (hSz : ∀ i, Sz.getD i 0 = S.getD i 0) (hS9 : ∀ i, S.getD i 0 ≤ 1048576) : ∀ (n : Nat) (O : List (List Int)) (A : List Int), RngL S A → ClL (rvs.map (·.1)) A → uns A < n → O.length ≤ M →
    SpecR Try.prog 49 [.ptr 0 0] [(0, ⟨1, .box [.bor [] (ints Sz), .bor [] (rowsD Try.prog 2 c (rowsR rvs S.length)), .sl 2, .fn 48 [.ptr 4 0, .ptr 5 0]]⟩), (2, ⟨1, .arr (ints A)⟩), (4, ⟨1, .bx [.dead] 0 (intss O)⟩), (5, ⟨1, .box [iv M]⟩)] (bv (eat (stL M) O (extW (okW (rvs.map (·.1))) S A)).1)
      [(0, ⟨1, .box [.bor [] (ints Sz), .bor [] (rowsD Try.prog 2 c (rowsR rvs S.length)), .sl 2, .fn 48 [.ptr 4 0, .ptr 5 0]]⟩), (2, ⟨1, .arr (ints A)⟩), (4, ⟨1, .bx [.dead] 0 (intss (eat (stL M) O (extW (okW (rvs.map (·.1))) S A)).2)⟩), (5, ⟨1, .box [iv M]⟩)] (RLent rvs)
  | 0, _, _, _, _, hk, _ => by omega
  | n + 1, O, A, hA, hC, hk, hO => by
    have hAl := hA.1
    refine specR_of_V (E := TE) 6 Try.func49 rfl (by simp [Try.f49]) fun X hn hX hRL => ?_
    have hrd := RLent.ok hRL
    rcases idx_first hA with ⟨hk1, hfull⟩ | ⟨i, hk1, hi, hi1, hi2⟩
    · rw [leaf_ext hw hA hC hfull, eat_one]
      have hcl := sp_solve_1 (O := O) (q := A) hM hO (by omega)
      repeat' (first | (with_reducible first | refine V_seq ?_ | refine V_block ?_ | refine V_skip ?_ | refine V_ret ?_ | refine V_exit ?_) | ((with_reducible refine V_cond ?_); simp only [go_sem, simprocAttr]) | ((first | refine V_region (by rw [hn]; rfl) ?_ | refine V_drawn hmix (by rw [hn]; rfl) ?_); intro K hK) | ((first | with_reducible refine evOps_n ?_ | ((with_reducible apply evOps_g); rfl) | with_reducible refine evOpsD_n ?_ | ((with_reducible apply evOpsD_g); rfl)); intro K hK; simp (contextual := true) only [go_sem, simprocAttr]) | with_reducible refine evOps_nil ?_ | ((with_reducible refine evOpsD_nil ?_ ?_); kernel_rfl) | ((with_reducible refine hK _ ?_); clear hK K) | (with_reducible first | refine And.intro ?_ ?_ | refine nxt_n ?_ | refine nxt_r ?_ | refine nxt_e ?_ | refine blk_n ?_ | refine blk_r ?_ | refine blk_same ?_ | refine blk_other (by decide) ?_ | refine noG_n ?_ | refine noG_r ?_ | refine noG_e ?_ | refine inR_mk ?_ ?_) | ((with_reducible refine evCall_at 66 ?_); refine EvCall.rq (a := (sp_index_int64_b (k:=-1) (by first | omega | assumption | rfl) (by first | omega | assumption | rfl))) (b := cal_index_int64) (c := ?_); all_goals try simp only [go_sem, simprocAttr]) | ((with_reducible refine evCall_at 48 ?_); refine EvCall.mk (hcl) cal_solve_1 [(0,4),(1,5)] [2] (by simp [go_sem] <;> (repeat' (first | rfl | constructor))) (by simp [go_sem] <;> (repeat' (first | rfl | constructor))) ?_; all_goals try simp only [go_sem, simprocAttr]) | (refine fun (hc : (_ : Bool) = _) => ?_; try simp only [hcS] at hc))
      all_goals try exact om_
      · (first | refine ret_auto ?_ | refine ret_auto' ?_); simp only [go_sem, simprocAttr, Try.f49]
    · rw [belowE_all hA hi hi1 hi2]
      have s1 := hSz i
      have s9 := hS9 i
      repeat' (first | (with_reducible first | refine V_seq ?_ | refine V_block ?_ | refine V_skip ?_ | refine V_ret ?_ | refine V_exit ?_) | ((with_reducible refine V_cond ?_); simp only [go_sem, simprocAttr]) | ((first | refine V_region (by rw [hn]; rfl) ?_ | refine V_drawn hmix (by rw [hn]; rfl) ?_); intro K hK) | ((first | with_reducible refine evOps_n ?_ | ((with_reducible apply evOps_g); rfl) | with_reducible refine evOpsD_n ?_ | ((with_reducible apply evOpsD_g); rfl)); intro K hK; simp (contextual := true) only [go_sem, simprocAttr]) | with_reducible refine evOps_nil ?_ | ((with_reducible refine evOpsD_nil ?_ ?_); kernel_rfl) | ((with_reducible refine hK _ ?_); clear hK K) | (with_reducible first | refine And.intro ?_ ?_ | refine nxt_n ?_ | refine nxt_r ?_ | refine nxt_e ?_ | refine blk_n ?_ | refine blk_r ?_ | refine blk_same ?_ | refine blk_other (by decide) ?_ | refine noG_n ?_ | refine noG_r ?_ | refine noG_e ?_ | refine inR_mk ?_ ?_) | ((with_reducible refine evCall_at 66 ?_); refine EvCall.rq (a := (sp_index_int64_b (k:=(i:Int)) (by first | omega | assumption | rfl) (by first | omega | assumption | rfl))) (b := cal_index_int64) (c := ?_); all_goals try simp only [go_sem, simprocAttr]) | (refine fun (hc : (_ : Bool) = _) => ?_; try simp only [hcS] at hc))
      all_goals try exact om_
      refine V_loopK (G := {u : Nat // u ≤ (S.getD i 0) ∧ ((eat (stL M) O (belowE (okW (rvs.map (·.1))) S A i u)).1 = true)}) (fun ⟨u, _⟩ => [(33, iv u)]) [0, 3, 32] (fun ⟨u, _⟩ => [(4, ⟨1, .bx [.dead] 0 (intss (eat (stL M) O (belowE (okW (rvs.map (·.1))) S A i u)).2)⟩)]) [4] (fun zz => (S.getD i 0) - zz.1) ⟨0, Nat.zero_le _, by rfl⟩ ?_ ?_
      · exact Imp.au hX
      rintro ⟨u, hiu, hwu⟩
      simp only [go_sem, simprocAttr]
      have hO2 := eat_Llen hO hwu
      rcases Nat.lt_or_ge u (S.getD i 0) with hlt | hge
      · have hT := try_facts hw hA hC hi hi1 hlt
        have hset := sp_solver_set_n (Sz := Sz) (c := c) (M := M) (O := (eat (stL M) O (belowE (okW (rvs.map (·.1))) S A i u)).2) hw (by omega) hm2 (A.length + 1) i u A [] hA hi ⟨by omega, by omega⟩ (by have := uns_le A; omega) (by have := uns_le A; simp; omega)
        obtain ⟨ok, Q, N, hTe⟩ : ∃ ok Q N, setF (rvs.map (·.1)) (A.length + 1) i u A [] = (ok, Q, N) := ⟨_, _, _, rfl⟩
        rw [hTe] at hT hset
        have nl := hT.nl
        have ql := hT.len
        have hb1 := hT.back
        simp only at nl ql hb1 hset
        cases ok with
        | false =>
          have hbel : belowE (okW (rvs.map (·.1))) S A i (u + 1) = belowE (okW (rvs.map (·.1))) S A i u := by rw [belowE_succ, hT.no rfl, List.append_nil]
          repeat' (first | (refine V_at 8 (Imp.closeB 7 6 0 _ _ rfl rfl rfl (by decide)) ?_; simp only [go_sem, simprocAttr]) | (refine V_regionX (id := 8) (by rw [hn]; rfl) ?_; intro K hK) | (refine evOpsX_h ?_; intro K hK; refine HkX.callR (f := 67) (caps := []) hrd hset cal_solver_set [(0,0),(2,2),(3,7),(4,4),(5,5)] [] (by simp only [go_sem, simprocAttr]) (by simp [go_sem] <;> first | rfl | exact ⟨rfl, rfl⟩ | exact ⟨rfl, rfl, rfl⟩) (by simp [go_sem] <;> first | rfl | exact ⟨rfl, rfl⟩ | exact ⟨rfl, rfl, rfl⟩) ?_; all_goals try simp only [go_sem, simprocAttr]) | ((with_reducible refine evOpsX_n ?_); intro K hK; simp (contextual := true) only [go_sem, simprocAttr]) | (with_reducible refine evOpsX_nil ?_) | (refine V_at 10 (Imp.openB 7 0 _ _ rfl (Nat.succ_le_succ (Nat.zero_le _)) rfl rfl) ?_; simp only [go_sem, simprocAttr]) | (with_reducible first | refine V_seq ?_ | refine V_block ?_ | refine V_skip ?_ | refine V_ret ?_ | refine V_exit ?_) | ((with_reducible refine V_cond ?_); simp only [go_sem, simprocAttr]) | ((first | refine V_region (by rw [hn]; rfl) ?_ | refine V_drawn hmix (by rw [hn]; rfl) ?_); intro K hK) | ((first | with_reducible refine evOps_n ?_ | ((with_reducible apply evOps_g); rfl) | with_reducible refine evOpsD_n ?_ | ((with_reducible apply evOpsD_g); rfl)); intro K hK; simp (contextual := true) only [go_sem, simprocAttr]) | with_reducible refine evOps_nil ?_ | ((with_reducible refine evOpsD_nil ?_ ?_); kernel_rfl) | ((with_reducible refine hK _ ?_); clear hK K) | (with_reducible first | refine And.intro ?_ ?_ | refine nxt_n ?_ | refine nxt_r ?_ | refine nxt_e ?_ | refine blk_n ?_ | refine blk_r ?_ | refine blk_same ?_ | refine blk_other (by decide) ?_ | refine noG_n ?_ | refine noG_r ?_ | refine noG_e ?_ | refine inR_mk ?_ ?_) | (refine fun (hc : (_ : Bool) = _) => ?_; try simp only [hcS] at hc))
          all_goals try exact om_
          · refine V_loopK (G := {j : Nat // j ≤ N.length ∧ (True)}) (fun ⟨j, _⟩ => [(49, iv j), (5, .ptr 7 0)]) [0, 2, 3, 7, 32, 33, 44, 45, 47, 48] (fun ⟨j, _⟩ => [(2, ⟨1, .arr (ints (undoL Q (N.take j)))⟩)]) [2] (fun zz => N.length - zz.1) ⟨0, Nat.zero_le _, by first | trivial | simp⟩ ?_ ?_
            · exact Imp.au hX
            rintro ⟨j, hij, hwj⟩
            simp only [go_sem, simprocAttr]
            have d1 := undoL_len (N.take j) Q
            rcases Nat.lt_or_ge j N.length with hlt3 | hge3
            · have a1 := hT.at1 j hlt3
              simp only at a1
              have e3 := undoL_take (A := Q) hlt3
              repeat' (first | (with_reducible first | refine V_seq ?_ | refine V_block ?_ | refine V_skip ?_ | refine V_ret ?_ | refine V_exit ?_) | ((with_reducible refine V_cond ?_); simp only [go_sem, simprocAttr]) | ((first | refine V_region (by rw [hn]; rfl) ?_ | refine V_drawn hmix (by rw [hn]; rfl) ?_); intro K hK) | ((first | with_reducible refine evOps_n ?_ | ((with_reducible apply evOps_g); rfl) | with_reducible refine evOpsD_n ?_ | ((with_reducible apply evOpsD_g); rfl)); intro K hK; simp (contextual := true) only [go_sem, simprocAttr]) | with_reducible refine evOps_nil ?_ | ((with_reducible refine evOpsD_nil ?_ ?_); kernel_rfl) | ((with_reducible refine hK _ ?_); clear hK K) | (with_reducible first | refine And.intro ?_ ?_ | refine nxt_n ?_ | refine nxt_r ?_ | refine nxt_e ?_ | refine blk_n ?_ | refine blk_r ?_ | refine blk_same ?_ | refine blk_other (by decide) ?_ | refine noG_n ?_ | refine noG_r ?_ | refine noG_e ?_ | refine inR_mk ?_ ?_) | (refine fun (hc : (_ : Bool) = _) => ?_; try simp only [hcS] at hc))
              all_goals try exact om_
              · refine ⟨⟨j + 1, by omega, (by trivial)⟩, by simp only; omega, Imp.auto hX (by simp only [go_sem, simprocAttr, e3])⟩
            · have hb : undoL Q (N.take j) = A := by rw [List.take_of_length_le hge3]; exact hb1
              repeat' (first | (with_reducible first | refine V_seq ?_ | refine V_block ?_ | refine V_skip ?_ | refine V_ret ?_ | refine V_exit ?_) | ((with_reducible refine V_cond ?_); simp only [go_sem, simprocAttr]) | ((first | refine V_region (by rw [hn]; rfl) ?_ | refine V_drawn hmix (by rw [hn]; rfl) ?_); intro K hK) | ((first | with_reducible refine evOps_n ?_ | ((with_reducible apply evOps_g); rfl) | with_reducible refine evOpsD_n ?_ | ((with_reducible apply evOpsD_g); rfl)); intro K hK; simp (contextual := true) only [go_sem, simprocAttr]) | with_reducible refine evOps_nil ?_ | ((with_reducible refine evOpsD_nil ?_ ?_); kernel_rfl) | ((with_reducible refine hK _ ?_); clear hK K) | (with_reducible first | refine And.intro ?_ ?_ | refine nxt_n ?_ | refine nxt_r ?_ | refine nxt_e ?_ | refine blk_n ?_ | refine blk_r ?_ | refine blk_same ?_ | refine blk_other (by decide) ?_ | refine noG_n ?_ | refine noG_r ?_ | refine noG_e ?_ | refine inR_mk ?_ ?_) | (refine fun (hc : (_ : Bool) = _) => ?_; try simp only [hcS] at hc))
              all_goals try exact om_
              · refine ⟨⟨u + 1, by omega, (by exact (by rw [hbel]; exact hwu))⟩, by simp only; omega, Imp.auto hX (by simp only [go_sem, simprocAttr, hbel, hb])⟩
        | true =>
          obtain ⟨g1, g2, g3, g4⟩ := hT.yes rfl
          simp only at g1 g2 g3 g4
          have hrun := sp_solver_run_n (c := c) hw hm hm2 hM hSl hSz hS9 n (eat (stL M) O (belowE (okW (rvs.map (·.1))) S A i u)).2 Q g1 g2 (by omega) hO2
          have hbel : eat (stL M) O (belowE (okW (rvs.map (·.1))) S A i (u + 1)) = eat (stL M) (eat (stL M) O (belowE (okW (rvs.map (·.1))) S A i u)).2 (extW (okW (rvs.map (·.1))) S Q) := by rw [belowE_succ, g4, eat_go hwu]
          repeat' (first | ((refine V_regionX (id := 9) (by rw [hn]; rfl) ?_); intro K hK) | (refine evOpsX_gh rfl (by simp only [go_sem, simprocAttr]) ?_; intro K hK; refine HkX.callR (f := 49) (caps := []) hrd hrun cal_solver_run [(0,0),(2,2),(4,4),(5,5)] [] (by simp only [go_sem, simprocAttr]) (by simp [go_sem] <;> first | rfl | exact ⟨rfl, rfl⟩ | exact ⟨rfl, rfl, rfl⟩) (by simp [go_sem] <;> first | rfl | exact ⟨rfl, rfl⟩ | exact ⟨rfl, rfl, rfl⟩) ?_; all_goals try simp only [go_sem, simprocAttr]) | (((with_reducible apply evOpsX_g); rfl); intro K hK; simp (contextual := true) only [go_sem, simprocAttr]) | (refine V_at 8 (Imp.closeB 7 6 0 _ _ rfl rfl rfl (by decide)) ?_; simp only [go_sem, simprocAttr]) | (refine V_regionX (id := 8) (by rw [hn]; rfl) ?_; intro K hK) | (refine evOpsX_h ?_; intro K hK; refine HkX.callR (f := 67) (caps := []) hrd hset cal_solver_set [(0,0),(2,2),(3,7),(4,4),(5,5)] [] (by simp only [go_sem, simprocAttr]) (by simp [go_sem] <;> first | rfl | exact ⟨rfl, rfl⟩ | exact ⟨rfl, rfl, rfl⟩) (by simp [go_sem] <;> first | rfl | exact ⟨rfl, rfl⟩ | exact ⟨rfl, rfl, rfl⟩) ?_; all_goals try simp only [go_sem, simprocAttr]) | ((with_reducible refine evOpsX_n ?_); intro K hK; simp (contextual := true) only [go_sem, simprocAttr]) | (with_reducible refine evOpsX_nil ?_) | (refine V_at 10 (Imp.openB 7 0 _ _ rfl (Nat.succ_le_succ (Nat.zero_le _)) rfl rfl) ?_; simp only [go_sem, simprocAttr]) | (with_reducible first | refine V_seq ?_ | refine V_block ?_ | refine V_skip ?_ | refine V_ret ?_ | refine V_exit ?_) | ((with_reducible refine V_cond ?_); simp only [go_sem, simprocAttr]) | ((first | refine V_region (by rw [hn]; rfl) ?_ | refine V_drawn hmix (by rw [hn]; rfl) ?_); intro K hK) | ((first | with_reducible refine evOps_n ?_ | ((with_reducible apply evOps_g); rfl) | with_reducible refine evOpsD_n ?_ | ((with_reducible apply evOpsD_g); rfl)); intro K hK; simp (contextual := true) only [go_sem, simprocAttr]) | with_reducible refine evOps_nil ?_ | ((with_reducible refine evOpsD_nil ?_ ?_); kernel_rfl) | ((with_reducible refine hK _ ?_); clear hK K) | (with_reducible first | refine And.intro ?_ ?_ | refine nxt_n ?_ | refine nxt_r ?_ | refine nxt_e ?_ | refine blk_n ?_ | refine blk_r ?_ | refine blk_same ?_ | refine blk_other (by decide) ?_ | refine noG_n ?_ | refine noG_r ?_ | refine noG_e ?_ | refine inR_mk ?_ ?_) | (refine fun (hc : (_ : Bool) = _) => ?_; try simp only [hcS] at hc))
          all_goals try exact om_
          · refine V_loopK (G := {j : Nat // j ≤ N.length ∧ (True)}) (fun ⟨j, _⟩ => [(49, iv j), (5, .ptr 7 0)]) [0, 2, 3, 7, 32, 33, 44, 45, 47, 48] (fun ⟨j, _⟩ => [(2, ⟨1, .arr (ints (undoL Q (N.take j)))⟩)]) [2] (fun zz => N.length - zz.1) ⟨0, Nat.zero_le _, by first | trivial | simp⟩ ?_ ?_
            · exact Imp.au hX
            rintro ⟨j, hij, hwj⟩
            simp only [go_sem, simprocAttr]
            have d1 := undoL_len (N.take j) Q
            rcases Nat.lt_or_ge j N.length with hlt3 | hge3
            · have a1 := hT.at1 j hlt3
              simp only at a1
              have e3 := undoL_take (A := Q) hlt3
              repeat' (first | (with_reducible first | refine V_seq ?_ | refine V_block ?_ | refine V_skip ?_ | refine V_ret ?_ | refine V_exit ?_) | ((with_reducible refine V_cond ?_); simp only [go_sem, simprocAttr]) | ((first | refine V_region (by rw [hn]; rfl) ?_ | refine V_drawn hmix (by rw [hn]; rfl) ?_); intro K hK) | ((first | with_reducible refine evOps_n ?_ | ((with_reducible apply evOps_g); rfl) | with_reducible refine evOpsD_n ?_ | ((with_reducible apply evOpsD_g); rfl)); intro K hK; simp (contextual := true) only [go_sem, simprocAttr]) | with_reducible refine evOps_nil ?_ | ((with_reducible refine evOpsD_nil ?_ ?_); kernel_rfl) | ((with_reducible refine hK _ ?_); clear hK K) | (with_reducible first | refine And.intro ?_ ?_ | refine nxt_n ?_ | refine nxt_r ?_ | refine nxt_e ?_ | refine blk_n ?_ | refine blk_r ?_ | refine blk_same ?_ | refine blk_other (by decide) ?_ | refine noG_n ?_ | refine noG_r ?_ | refine noG_e ?_ | refine inR_mk ?_ ?_) | (refine fun (hc : (_ : Bool) = _) => ?_; try simp only [hcS] at hc))
              all_goals try exact om_
              · refine ⟨⟨j + 1, by omega, (by trivial)⟩, by simp only; omega, Imp.auto hX (by simp only [go_sem, simprocAttr, e3])⟩
            · have hb : undoL Q (N.take j) = A := by rw [List.take_of_length_le hge3]; exact hb1
              repeat' (first | (with_reducible first | refine V_seq ?_ | refine V_block ?_ | refine V_skip ?_ | refine V_ret ?_ | refine V_exit ?_) | ((with_reducible refine V_cond ?_); simp only [go_sem, simprocAttr]) | ((first | refine V_region (by rw [hn]; rfl) ?_ | refine V_drawn hmix (by rw [hn]; rfl) ?_); intro K hK) | ((first | with_reducible refine evOps_n ?_ | ((with_reducible apply evOps_g); rfl) | with_reducible refine evOpsD_n ?_ | ((with_reducible apply evOpsD_g); rfl)); intro K hK; simp (contextual := true) only [go_sem, simprocAttr]) | with_reducible refine evOps_nil ?_ | ((with_reducible refine evOpsD_nil ?_ ?_); kernel_rfl) | ((with_reducible refine hK _ ?_); clear hK K) | (with_reducible first | refine And.intro ?_ ?_ | refine nxt_n ?_ | refine nxt_r ?_ | refine nxt_e ?_ | refine blk_n ?_ | refine blk_r ?_ | refine blk_same ?_ | refine blk_other (by decide) ?_ | refine noG_n ?_ | refine noG_r ?_ | refine noG_e ?_ | refine inR_mk ?_ ?_) | (refine fun (hc : (_ : Bool) = _) => ?_; try simp only [hcS] at hc))
              all_goals try exact om_
              · obtain ⟨R, hR2⟩ := belowE_split (W := okW (rvs.map (·.1))) (S := S) (A := A) (i := i) hlt
                have e9 : eat (stL M) O (belowE (okW (rvs.map (·.1))) S A i (S.getD i 0)) = eat (stL M) (eat (stL M) O (belowE (okW (rvs.map (·.1))) S A i u)).2 (extW (okW (rvs.map (·.1))) S Q) := by
                  rw [hR2, eat_stop (by rw [hbel]; exact hc), hbel]
                rw [e9, hb, hc]
                (first | refine ret_auto ?_ | refine ret_auto' ?_); simp only [go_sem, simprocAttr, Try.f49]
              · refine ⟨⟨u + 1, by omega, (by exact (by rw [hbel]; exact hc))⟩, by simp only; omega, Imp.auto hX (by simp only [go_sem, simprocAttr, hbel, hb])⟩
      · repeat' (first | (with_reducible first | refine V_seq ?_ | refine V_block ?_ | refine V_skip ?_ | refine V_ret ?_ | refine V_exit ?_) | ((with_reducible refine V_cond ?_); simp only [go_sem, simprocAttr]) | ((first | refine V_region (by rw [hn]; rfl) ?_ | refine V_drawn hmix (by rw [hn]; rfl) ?_); intro K hK) | ((first | with_reducible refine evOps_n ?_ | ((with_reducible apply evOps_g); rfl) | with_reducible refine evOpsD_n ?_ | ((with_reducible apply evOpsD_g); rfl)); intro K hK; simp (contextual := true) only [go_sem, simprocAttr]) | with_reducible refine evOps_nil ?_ | ((with_reducible refine evOpsD_nil ?_ ?_); kernel_rfl) | ((with_reducible refine hK _ ?_); clear hK K) | (with_reducible first | refine And.intro ?_ ?_ | refine nxt_n ?_ | refine nxt_r ?_ | refine nxt_e ?_ | refine blk_n ?_ | refine blk_r ?_ | refine blk_same ?_ | refine blk_other (by decide) ?_ | refine noG_n ?_ | refine noG_r ?_ | refine noG_e ?_ | refine inR_mk ?_ ?_) | (refine fun (hc : (_ : Bool) = _) => ?_; try simp only [hcS] at hc))
        all_goals try exact om_
        · have e : u = S.getD i 0 := by omega
          rw [← e, hwu]
          (first | refine ret_auto ?_ | refine ret_auto' ?_); simp only [go_sem, simprocAttr, Try.f49]
end Go.Eng
