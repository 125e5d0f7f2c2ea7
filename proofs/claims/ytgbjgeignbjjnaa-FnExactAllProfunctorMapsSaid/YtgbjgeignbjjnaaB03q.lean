/- Lists that follow rules, by the program: all of them, up to a number. -/
import Derived.Test.YtgbjgeignbjjnaaB02q
set_option linter.unusedSimpArgs false
set_option linter.unusedVariables false
set_option maxRecDepth 100000
set_option maxHeartbeats 16000000
namespace Go.Eng
open Go Go.Proofs Go.Cats
theorem sp_repeated_b {x n : Int} (h0 : 0 ≤ n) (h1 : n ≤ 1048576) : Spec Try.prog 47 [iv x, iv n] [] (.sl 0) [(0, ⟨1, .arr (ints (List.replicate n.toNat x))⟩)] := by
  refine spec_of_V (E := TE) 0 Try.func47 rfl (by simp [Try.f47]) fun X hn hX => ?_
  repeat' (first | (with_reducible first | refine V_seq ?_ | refine V_block ?_ | refine V_skip ?_ | refine V_ret ?_ | refine V_exit ?_) | ((with_reducible refine V_cond ?_); simp only [go_sem, simprocAttr]) | ((refine V_region (by rw [hn]; rfl) ?_); intro K hK) | ((first | with_reducible refine evOps_n ?_ | ((with_reducible apply evOps_g); rfl)); intro K hK; simp (contextual := true) only [go_sem, simprocAttr]) | with_reducible refine evOps_nil ?_ | ((with_reducible refine hK _ ?_); clear hK K) | (with_reducible first | refine And.intro ?_ ?_ | refine nxt_n ?_ | refine nxt_r ?_ | refine nxt_e ?_ | refine blk_n ?_ | refine blk_r ?_ | refine blk_same ?_ | refine blk_other (by decide) ?_ | refine noG_n ?_ | refine noG_r ?_ | refine noG_e ?_ | refine inR_mk ?_ ?_) | (refine fun (hc : (_ : Bool) = _) => ?_; try simp only [hcS] at hc))
  all_goals try exact om_
  refine V_loopK (G := {i : Nat // i ≤ n.toNat ∧ (True)}) (fun ⟨i, _⟩ => [(11, iv i)]) [0, 4, 5, 10] (fun ⟨i, _⟩ => [(0, ⟨1, .arr (ints (List.replicate i x ++ List.replicate (n.toNat - i) 0))⟩)]) [0] (fun zz => n.toNat - zz.1) ⟨0, Nat.zero_le _, by first | trivial | simp⟩ ?_ ?_
  · exact Imp.au hX
  rintro ⟨i, hii, hwi⟩
  simp only [go_sem, simprocAttr]
  repeat' (first | (with_reducible first | refine V_seq ?_ | refine V_block ?_ | refine V_skip ?_ | refine V_ret ?_ | refine V_exit ?_) | ((with_reducible refine V_cond ?_); simp only [go_sem, simprocAttr]) | ((refine V_region (by rw [hn]; rfl) ?_); intro K hK) | ((first | with_reducible refine evOps_n ?_ | ((with_reducible apply evOps_g); rfl)); intro K hK; simp (contextual := true) only [go_sem, simprocAttr]) | with_reducible refine evOps_nil ?_ | ((with_reducible refine hK _ ?_); clear hK K) | (with_reducible first | refine And.intro ?_ ?_ | refine nxt_n ?_ | refine nxt_r ?_ | refine nxt_e ?_ | refine blk_n ?_ | refine blk_r ?_ | refine blk_same ?_ | refine blk_other (by decide) ?_ | refine noG_n ?_ | refine noG_r ?_ | refine noG_e ?_ | refine inR_mk ?_ ?_) | (refine fun (hc : (_ : Bool) = _) => ?_; try simp only [hcS] at hc))
  all_goals try exact om_
  · refine ⟨⟨i + 1, by omega, (by trivial)⟩, by simp only; omega, Imp.auto hX (by simp only [go_sem, simprocAttr, rep_fill x (show i < n.toNat by omega)])⟩
  · (first | refine ret_auto ?_ | refine ret_auto' ?_); simp only [go_sem, simprocAttr, Try.f47]
    rw [show i = n.toNat by omega]; simp
theorem rowsR_nil (m : Nat) : rowsR [] m = List.replicate m (rulesD []) := by
  unfold rowsR rulesV
  simp only [List.filter_nil]
  rw [List.map_const', List.length_range]
theorem rowsR_put {rvs : List (Rule × RawV)} {p : Rule × RawV} {m z : Nat} (hz : z < m) (hp : p.1.fr = z) : ((rowsR rvs m).set z anyD).set z (rulesD (rulesV rvs z ++ [p])) = rowsR (rvs ++ [p]) m := by
  rw [List.set_set]
  refine List.ext_getElem? fun i => ?_
  rw [List.getElem?_set]
  have hl := rowsR_len rvs m
  by_cases h : z = i
  · subst h
    rw [if_pos rfl, if_pos (by omega)]
    unfold rowsR
    rw [List.getElem?_map, List.getElem?_range hz, Option.map_some]
    unfold rulesV
    rw [List.filter_append, List.filter_cons_of_pos (by simpa using hp), List.filter_nil]
  · rw [if_neg h]
    unfold rowsR
    rw [List.getElem?_map, List.getElem?_map]
    by_cases hi : i < m
    · rw [List.getElem?_range hi, Option.map_some, Option.map_some]
      unfold rulesV
      rw [List.filter_append, List.filter_cons_of_neg (by rw [hp]; simpa using fun e => h (by omega)), List.filter_nil, List.append_nil]
    · rw [List.getElem?_eq_none (by simp; omega)]; rfl
theorem rng_open (S : List Nat) : RngL S (List.replicate S.length (-1)) := ⟨by simp, fun j hj => by
  rw [List.length_replicate] at hj
  rw [List.getD_eq_getElem?_getD, List.getElem?_replicate, if_pos hj]
  simp only [Option.getD_some]
  omega⟩
theorem cl_open (rs : List Rule) (n : Nat) : ClL rs (List.replicate n (-1)) := fun j hj h0 => by
  rw [List.length_replicate] at hj
  rw [List.getD_eq_getElem?_getD, List.getElem?_replicate, if_pos hj] at h0
  simp at h0
def _root_.Go.Cats.allL (rs : List Rule) (S : List Nat) : List (List Int) := extW (okW rs) S (List.replicate S.length (-1))
def _root_.Go.Cats.natS (Sz : List Int) : List Nat := Sz.map Int.toNat
theorem natS_len (Sz : List Int) : (natS Sz).length = Sz.length := by simp [natS]
theorem natS_at {Sz : List Int} (h : ∀ i, i < Sz.length → 0 ≤ Sz.getD i 0) (i : Nat) : Sz.getD i 0 = (natS Sz).getD i 0 := by
  have e : (natS Sz).getD i 0 = (Sz.getD i 0).toNat := by
    unfold natS
    rw [List.getD_eq_getElem?_getD, List.getElem?_map, List.getD_eq_getElem?_getD]
    cases Sz[i]? <;> rfl
  rw [e]
  by_cases hi : i < Sz.length
  · have := h i hi; omega
  · rw [List.getD_eq_getElem?_getD, List.getElem?_eq_none (by omega)]; rfl
theorem cal_solve : Callable Try.prog 26 := ⟨_, Try.func26, rfl, rfl⟩
theorem one_nilFunc : Value.nilFunc.oneCell' = true := rfl
theorem one_nilMap : (Value.map none).oneCell' = true := rfl
theorem one_nil_b3 : (Value.slice none 0 0).oneCell' = true := rfl
attribute [local go_sem] List.set_cons_zero List.set_cons_succ TE_P one_nilFunc one_nilMap one_nil_b3
theorem sp_solve_n {rvs : List (Rule × RawV)} {Sz : List Int} {M : Nat} (hw : RulesW (natS Sz) (rvs.map (·.1))) (hm : Sz.length ≤ 2048) (hm2 : rvs.length ≤ 1048576) (hM : M ≤ 4096) (h0 : ∀ i, i < Sz.length → 0 ≤ Sz.getD i 0 ∧ Sz.getD i 0 ≤ 1048576) :
    SpecR Try.prog 26 [.bor [] (ints Sz), .bor [] (rulesD rvs), iv M] [] (.tup [.sl 0, bv (eat (stL M) [] (allL (rvs.map (·.1)) (natS Sz))).1]) [(0, ⟨1, .arr (intss (eat (stL M) [] (allL (rvs.map (·.1)) (natS Sz))).2)⟩)] (RLent rvs) := by
  have hl := natS_len Sz
  have hat := natS_at (Sz := Sz) fun i hi => (h0 i hi).1
  have h9 : ∀ i, (natS Sz).getD i 0 ≤ 1048576 := fun i => by
    have h1 := hat i
    by_cases hi : i < Sz.length
    · have := (h0 i hi).2; omega
    · rw [List.getD_eq_getElem?_getD, List.getElem?_eq_none (by omega)]; simp
  refine specR_of_V (E := TE) 0 Try.func26 rfl (by simp [Try.f26]) fun X hn hX hRL => ?_
  have hrd := RLent.ok hRL
  have hrun := sp_solver_run_n (Sz := Sz) (c := rvs.length) hw (by omega) hm2 hM hl.symm hat h9 (Sz.length + 1) [] (List.replicate (natS Sz).length (-1)) (rng_open _) (cl_open _ _) (by have := uns_le (List.replicate (natS Sz).length (-1)); simp at this; omega) (by simp)
  rw [hl] at hrun
  repeat' (first | (with_reducible first | refine V_seq ?_ | refine V_block ?_ | refine V_skip ?_ | refine V_ret ?_ | refine V_exit ?_) | ((with_reducible refine V_cond ?_); simp only [go_sem, simprocAttr]) | ((first | refine V_region (by rw [hn]; rfl) ?_ | refine V_drawn hmix (by rw [hn]; rfl) ?_); intro K hK) | ((first | with_reducible refine evOps_n ?_ | ((with_reducible apply evOps_g); rfl) | with_reducible refine evOpsD_n ?_ | ((with_reducible apply evOpsD_g); rfl)); intro K hK; simp (contextual := true) only [go_sem, simprocAttr]) | with_reducible refine evOps_nil ?_ | ((with_reducible refine evOpsD_nil ?_ ?_); kernel_rfl) | ((with_reducible refine hK _ ?_); clear hK K) | (with_reducible first | refine And.intro ?_ ?_ | refine nxt_n ?_ | refine nxt_r ?_ | refine nxt_e ?_ | refine blk_n ?_ | refine blk_r ?_ | refine blk_same ?_ | refine blk_other (by decide) ?_ | refine noG_n ?_ | refine noG_r ?_ | refine noG_e ?_ | refine inR_mk ?_ ?_) | ((with_reducible refine evCall_at 47 ?_); refine EvCall.rq (a := (sp_repeated_b (x:=-1) (n:=(Sz.length:Int)) (by first | omega | assumption | rfl) (by first | omega | assumption | rfl))) (b := cal_repeated) (c := ?_); all_goals try simp only [go_sem, simprocAttr]) | (refine hook_makeRows (k := 2) Sz.length 3 (.v (.int .i64 0)) (by decide) (by simp only [go_sem, simprocAttr]) ?_; rw [show List.replicate Sz.length (Dt.sl 3 (.v (.int .i64 0)) []) = rowsR [] Sz.length from (rowsR_nil _).symm]; simp only [go_sem, simprocAttr]) | (refine fun (hc : (_ : Bool) = _) => ?_; try simp only [hcS] at hc))
  all_goals try exact om_
  refine V_loopK (G := {j : Nat // j ≤ rvs.length ∧ (True)}) (fun ⟨j, _⟩ => [(23, iv j)]) [5, 6, 7, 8, 9, 21, 22] (fun ⟨j, _⟩ => [(3, ⟨1, .arr (rowsD Try.prog 2 j (rowsR (rvs.take j) Sz.length))⟩)]) [3] (fun zz => rvs.length - zz.1) ⟨0, Nat.zero_le _, by first | trivial | simp⟩ ?_ ?_
  · exact Imp.au hX
  rintro ⟨j, hij, hwj⟩
  simp only [go_sem, simprocAttr]
  rcases Nat.lt_or_ge j rvs.length with hlt | hge
  · have p1 := rules_part rvs j hlt
    obtain ⟨p, hp⟩ : ∃ p, rvs.getD j default = p := ⟨_, rfl⟩
    rw [hp] at p1
    have hpm : p.1 ∈ rvs.map (·.1) := List.mem_map.2 ⟨p, by rw [← hp, List.getD_eq_getElem?_getD, List.getElem?_eq_getElem hlt]; exact List.getElem_mem hlt, rfl⟩
    have w1 := hw.fr p.1 hpm
    obtain ⟨z, hz⟩ : ∃ z : Nat, p.1.fr = z := ⟨p.1.fr.toNat, by omega⟩
    have ro : Dt.sl 3 (.v (.int .i64 0)) [.v (.int .i64 p.1.fr), .v (.int .i64 p.1.to), .v p.2.x] = rulesD [p] := rfl
    rw [hz] at p1 ro
    have row := rowsR_at (rvs.take j) (i := z) (m := Sz.length) (by omega)
    have rl := rowsR_len (rvs.take j) Sz.length
    have hput := rowsR_put (rvs := rvs.take j) (p := p) (m := Sz.length) (z := z) (by omega) hz
    have htk : rvs.take (j + 1) = rvs.take j ++ [p] := by rw [List.take_add_one, List.getElem?_eq_getElem hlt, ← hp, List.getD_eq_getElem?_getD, List.getElem?_eq_getElem hlt]; rfl
    have hvl : (rulesV (rvs.take j) z).length ≤ 1048576 := Nat.le_trans (List.length_filter_le _ _) (by rw [List.length_take]; omega)
    repeat' (first | (rw [p1]) | (rw [ro]) | (with_reducible first | refine V_seq ?_ | refine V_block ?_ | refine V_skip ?_ | refine V_ret ?_ | refine V_exit ?_) | ((with_reducible refine V_cond ?_); simp only [go_sem, simprocAttr]) | ((first | refine V_region (by rw [hn]; rfl) ?_ | refine V_drawn hmix (by rw [hn]; rfl) ?_); intro K hK) | ((first | with_reducible refine evOps_n ?_ | ((with_reducible apply evOps_g); rfl) | with_reducible refine evOpsD_n ?_ | ((with_reducible apply evOpsD_g); rfl)); intro K hK; simp (contextual := true) only [go_sem, simprocAttr]) | with_reducible refine evOps_nil ?_ | ((with_reducible refine evOpsD_nil ?_ ?_); kernel_rfl) | ((with_reducible refine hK _ ?_); clear hK K) | (with_reducible first | refine And.intro ?_ ?_ | refine nxt_n ?_ | refine nxt_r ?_ | refine nxt_e ?_ | refine blk_n ?_ | refine blk_r ?_ | refine blk_same ?_ | refine blk_other (by decide) ?_ | refine noG_n ?_ | refine noG_r ?_ | refine noG_e ?_ | refine inR_mk ?_ ?_) | (refine hook_takeRow (i := 3) (cv := 1) (z := z) (rows := rowsR (rvs.take j) Sz.length) (n := j) mapL (by simp only [go_sem, simprocAttr]) (by first | (simp only [go_sem, simprocAttr]; done) | (simp only [go_sem, simprocAttr]; rfl)) (Nat.le_refl 1) (by simp only [go_sem, simprocAttr]) (by omega) ⟨by omega, by omega⟩ (by rw [row]; rfl) (by simp only [go_sem, simprocAttr]) ?_; rw [row]; simp only [go_sem, simprocAttr]) | (refine hook_putRow (i := 3) (j := 9) (cv := 2) (n := j) (rows := (rowsR (rvs.take j) Sz.length).set z anyD) (row := rulesD (rulesV (rvs.take j) z ++ [p])) (z := z) mapL rfl (by simp only [go_sem, simprocAttr]) (by first | (simp only [go_sem, simprocAttr]; done) | (simp only [go_sem, simprocAttr]; rfl)) (by decide) (by simp only [go_sem, simprocAttr]) (by rw [List.length_set]; omega) ⟨by omega, by omega⟩ (by simp only [go_sem, simprocAttr]) (by simp only [go_sem, simprocAttr]) rfl (by simp only [maxLen]; omega) ?_; rw [hput]; simp only [go_sem, simprocAttr]) | (refine fun (hc : (_ : Bool) = _) => ?_; try simp only [hcS] at hc))
    all_goals try exact om_
    · refine ⟨⟨j + 1, by omega, (by trivial)⟩, by simp only; omega, Imp.auto hX (by simp only [go_sem, simprocAttr, htk])⟩
  · rw [List.take_of_length_le hge, show j = rvs.length by omega]
    repeat' (first | (refine V_at 9 (Imp.closeB 2 1 0 _ _ rfl rfl rfl (by decide)) ?_; simp only [go_sem, simprocAttr]) | (refine V_regionX (id := 9) (by rw [hn]; rfl) ?_; intro K hK) | (refine evOpsX_h ?_; intro K hK; refine HkX.callR (f := 49) (caps := []) hrd hrun cal_solver_run [(0,5),(2,4),(4,2),(5,0)] [3] (by simp only [go_sem, simprocAttr]) (by simp [go_sem] <;> first | rfl | exact ⟨rfl, rfl⟩ | exact ⟨rfl, rfl, rfl⟩) (by simp [go_sem] <;> first | rfl | exact ⟨rfl, rfl⟩ | exact ⟨rfl, rfl, rfl⟩) ?_; all_goals try simp only [go_sem, simprocAttr]) | ((with_reducible refine evOpsX_n ?_); intro K hK; simp (contextual := true) only [go_sem, simprocAttr]) | (with_reducible refine evOpsX_nil ?_) | (refine V_at 10 (Imp.openB 2 0 _ _ rfl (Nat.succ_le_succ (Nat.zero_le _)) rfl rfl) ?_; simp only [go_sem, simprocAttr]) | (with_reducible first | refine V_seq ?_ | refine V_block ?_ | refine V_skip ?_ | refine V_ret ?_ | refine V_exit ?_) | ((with_reducible refine V_cond ?_); simp only [go_sem, simprocAttr]) | ((first | refine V_region (by rw [hn]; rfl) ?_ | refine V_drawn hmix (by rw [hn]; rfl) ?_); intro K hK) | ((first | with_reducible refine evOps_n ?_ | ((with_reducible apply evOps_g); rfl) | with_reducible refine evOpsD_n ?_ | ((with_reducible apply evOpsD_g); rfl)); intro K hK; simp (contextual := true) only [go_sem, simprocAttr]) | with_reducible refine evOps_nil ?_ | ((with_reducible refine evOpsD_nil ?_ ?_); kernel_rfl) | ((with_reducible refine hK _ ?_); clear hK K) | (with_reducible first | refine And.intro ?_ ?_ | refine nxt_n ?_ | refine nxt_r ?_ | refine nxt_e ?_ | refine blk_n ?_ | refine blk_r ?_ | refine blk_same ?_ | refine blk_other (by decide) ?_ | refine noG_n ?_ | refine noG_r ?_ | refine noG_e ?_ | refine inR_mk ?_ ?_) | (refine fun (hc : (_ : Bool) = _) => ?_; try simp only [hcS] at hc))
    all_goals try exact om_
    · unfold allL
      rw [hl]
      (first | refine ret_auto ?_ | refine ret_auto' ?_); simp only [go_sem, simprocAttr, Try.f26]
end Go.Eng
