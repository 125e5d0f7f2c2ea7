/- Links, by the reference: what satisfies all of them. -/
import Derived.Test.YtgbjgeignbjjnaaB06q
set_option linter.unusedSimpArgs false
set_option linter.unusedVariables false
set_option maxRecDepth 100000
set_option maxHeartbeats 16000000
namespace Go.Eng
open Go Go.Proofs Go.Cats
theorem Imp.nilssR {X : Cx} {tm : List (Nat × Sv)} {rs : List (Nat × Rs)} {nx : Nat} (i n cv : Nat) (hi : rsL rs i = ⟨cv, .arr (intsN [] n)⟩) :
    Imp X ⟨tm, rs, nx⟩ ⟨tm, (i, ⟨cv, .arr (intss (List.replicate n []))⟩) :: rs, nx⟩ := by
  have e0 : intsN [] n = .sl 1 (.sl 1 (.v (.int .i64 0)) []) (List.replicate n (.v (.slice none 0 0))) := by simp [intsN]
  have h := Imp.nils (X := X) (σ := ⟨tm, rs, nx⟩) i n 1 1 (.sl 1 (.v (.int .i64 0)) []) (.v (.int .i64 0)) (by decide) (by unfold Ss.get; rw [hi, e0])
  have e : ((⟨tm, rs, nx⟩ : Ss).get i).cv = cv := by unfold Ss.get; rw [hi]
  rw [e] at h
  have e2 : intss (List.replicate n []) = .sl 1 (.sl 1 (.v (.int .i64 0)) []) (List.replicate n (.sl 1 (.v (.int .i64 0)) [])) := by simp [intss, List.map_replicate, ints]
  rw [e2]
  exact h
theorem cal_l22Solve : Callable Try.prog 42 := ⟨_, Try.func42, rfl, rfl⟩
def _root_.Go.Cats.frI (L : List Int) (c : Int) (i : Nat) : List Int := (List.range i).map fun j => if L.getD j 0 = c then -1 else -2
theorem frI_zero (L : List Int) (c : Int) : frI L c 0 = [] := rfl
theorem frI_len (L : List Int) (c : Int) (i : Nat) : (frI L c i).length = i := by simp [frI]
theorem frI_in {L : List Int} {c : Int} {i : Nat} (h : L.getD i 0 = c) : frI L c (i + 1) = frI L c i ++ [-1] := by
  unfold frI; rw [List.range_succ, List.map_append, List.map_cons, List.map_nil, if_pos h]
theorem frI_out {L : List Int} {c : Int} {i : Nat} (h : ¬ L.getD i 0 = c) : frI L c (i + 1) = frI L c i ++ [-2] := by
  unfold frI; rw [List.range_succ, List.map_append, List.map_cons, List.map_nil, if_neg h]
theorem pairs_nil : pairsK [] = [] := rfl
theorem frI_neg (L : List Int) (c : Int) {i j : Nat} (h : j < i) : (frI L c i).getD j 0 < 0 := by
  have : (frI L c i).getD j 0 = -1 ∨ (frI L c i).getD j 0 = -2 := by
    unfold frI
    rw [List.getD_eq_getElem?_getD, List.getElem?_map, List.getElem?_range h]
    simp only [Option.map_some, Option.getD_some]
    split
    · exact .inl rfl
    · exact .inr rfl
  omega
attribute [local go_sem] List.set_cons_succ List.set_cons_zero tabK_len pairs_nil frI_zero frI_len
theorem sp_l22Solve_n {lvs : List (Link × RawV)} {S : List Nat} {Sz : List Int} {M : Nat} (hw : LinksW S (lvs.map (·.1))) (hl : S.length = Sz.length) (h9 : ∀ i, Sz.getD i 0 = S.getD i 0) (hb : ∀ i, S.getD i 0 ≤ 1048576) (hlc : lvs.length ≤ 1048576)
    (hm : M ≤ 4096) (hm0 : 0 < M) (h8 : S.length ≤ 4096) :
    SpecR Try.prog 42 [.bor [] (ints Sz), .bor [] (linksD lvs), iv M] [] (.sl 0) [(0, ⟨1, .arr (intss ((extW (okLk (lvs.map (·.1))) S (List.replicate S.length (-1))).take M))⟩)] (LLent lvs) := by
  refine specR_of_V (E := TE) 0 Try.func42 rfl (by simp [Try.f42]) fun X hn hX hLL => ?_
  have hrd := LLent.ok hLL
  repeat' (first | (with_reducible first | refine V_seq ?_ | refine V_block ?_ | refine V_skip ?_ | refine V_ret ?_ | refine V_exit ?_) | ((with_reducible refine V_cond ?_); simp only [go_sem, simprocAttr]) | ((first | refine V_region (by rw [hn]; rfl) ?_ | refine V_drawn hmix (by rw [hn]; rfl) ?_); intro K hK) | ((first | with_reducible refine evOps_n ?_ | ((with_reducible apply evOps_g); rfl) | with_reducible refine evOpsD_n ?_ | ((with_reducible apply evOpsD_g); rfl)); intro K hK; simp (contextual := true) only [go_sem, simprocAttr]) | with_reducible refine evOps_nil ?_ | ((with_reducible refine evOpsD_nil ?_ ?_); kernel_rfl) | ((with_reducible refine hK _ ?_); clear hK K) | (with_reducible first | refine And.intro ?_ ?_ | refine nxt_n ?_ | refine nxt_r ?_ | refine nxt_e ?_ | refine blk_n ?_ | refine blk_r ?_ | refine blk_same ?_ | refine blk_other (by decide) ?_ | refine noG_n ?_ | refine noG_r ?_ | refine noG_e ?_ | refine inR_mk ?_ ?_) | (refine fun (hc : (_ : Bool) = _) => ?_; try simp only [hcS] at hc))
  all_goals try exact om_
  refine V_imp (Imp.nilssR 1 Sz.length 1 rfl) ?_
  rw [← tabK_zero (ls := lvs.map (·.1))]
  have hll : (lvs.map (·.1)).length = lvs.length := by simp
  refine V_loopK (G := {k : Nat // k ≤ lvs.length ∧ (True)}) (fun ⟨k, _⟩ => [(9, iv k), (7, .sl 0), (8, .sl 1)]) [0, 1, 2, 6] (fun ⟨k, _⟩ => [(0, ⟨1, .arr (intss (pairsK ((lvs.map (·.1)).take k)))⟩), (1, ⟨1, .arr (intss (tabK (lvs.map (·.1)) Sz.length k))⟩)]) [0, 1] (fun zz => lvs.length - zz.1) ⟨0, Nat.zero_le _, by first | trivial | simp⟩ ?_ ?_
  · exact Imp.au hX
  rintro ⟨k, hik, hwk⟩
  simp only [go_sem, simprocAttr]
  rcases Nat.lt_or_ge k lvs.length with hlt | hge
  · have p1 := links_part lvs k hlt
    have hpm : lvs.getD k default ∈ lvs := by rw [List.getD_eq_getElem?_getD, List.getElem?_eq_getElem hlt]; exact List.getElem_mem hlt
    have hpe : (lvs.map (·.1)).getD k default = (lvs.getD k default).1 := by rw [List.getD_eq_getElem?_getD, List.getElem?_map, List.getD_eq_getElem?_getD, List.getElem?_eq_getElem hlt]; rfl
    have hps := pairs_succ (ls := lvs.map (·.1)) (k := k) (by omega)
    have hpl := pairs_len (ls := (lvs.map (·.1)).take k)
    rw [List.length_take] at hpl
    obtain ⟨p, hp⟩ : ∃ p, lvs.getD k default = p := ⟨_, rfl⟩
    rw [hpe] at hps
    rw [hp] at p1 hpm hps hpe
    have hp1 : p.1 ∈ lvs.map (·.1) := List.mem_map.2 ⟨p, hpm, rfl⟩
    have w1 := hw.i p.1 hp1
    have w2 := hw.j p.1 hp1
    obtain ⟨a, ha⟩ : ∃ a : Nat, p.1.i = a := ⟨p.1.i.toNat, by omega⟩
    obtain ⟨b, hb2⟩ : ∃ b : Nat, p.1.j = b := ⟨p.1.j.toNat, by omega⟩
    have p2 : (linksD lvs).part (k * 4) 4 = [.v (.int .i64 a), .v (.int .i64 b), .v p.2.x, ints p.1.right] := by rw [p1, ← ha, ← hb2]; rfl
    rw [ha, hb2] at hps
    have ra := tabK_at (ls := lvs.map (·.1)) (m := Sz.length) (k := k) (n := a) (by omega)
    have rb := tabK_at (ls := lvs.map (·.1)) (m := Sz.length) (k := k) (n := b) (by omega)
    have la := atL_len (lvs.map (·.1)) a k
    have lb := atL_len (lvs.map (·.1)) b k
    have ra2 : ((tabK (lvs.map (·.1)) Sz.length k).getD a []).length = (atL (lvs.map (·.1)) a k).length := by rw [ra]; simp
    have rb2 : ((tabK (lvs.map (·.1)) Sz.length k).getD b []).length = (atL (lvs.map (·.1)) b k).length := by rw [rb]; simp
    have rb3 : a ≠ b → (((tabK (lvs.map (·.1)) Sz.length k).set a ((tabK (lvs.map (·.1)) Sz.length k).getD a [] ++ [(k : Int)])).getD b []).length = (atL (lvs.map (·.1)) b k).length := fun h => by
      rw [set_row (by rw [tabK_len]; omega), if_neg (fun q => h q.symm), rb2]
    repeat' (first | (rw [p2]) | (refine V_at 7 (Imp.open_ 1 a (intss (tabK (lvs.map (·.1)) Sz.length k)) [] (.inr ⟨rfl, rfl⟩) (Nat.le_refl 1) (by simp only [go_sem]; omega) rfl (by simp only [go_sem]) rfl) ?_; simp only [go_sem, simprocAttr]) | (refine V_at 9 (Imp.open_ 1 b (intss ((tabK (lvs.map (·.1)) Sz.length k).set a ((tabK (lvs.map (·.1)) Sz.length k).getD a [] ++ [(k : Int)]))) [] (.inr ⟨rfl, rfl⟩) (Nat.succ_le_succ (Nat.zero_le _)) (by simp only [go_sem, List.length_set]; omega) rfl (by simp only [go_sem]) rfl) ?_; simp only [go_sem, simprocAttr]) | (with_reducible first | refine V_seq ?_ | refine V_block ?_ | refine V_skip ?_ | refine V_ret ?_ | refine V_exit ?_) | ((with_reducible refine V_cond ?_); simp only [go_sem, simprocAttr]) | ((first | refine V_region (by rw [hn]; rfl) ?_ | refine V_drawn hmix (by rw [hn]; rfl) ?_); intro K hK) | ((first | with_reducible refine evOps_n ?_ | ((with_reducible apply evOps_g); rfl) | with_reducible refine evOpsD_n ?_ | ((with_reducible apply evOpsD_g); rfl)); intro K hK; simp (contextual := true) only [go_sem, simprocAttr]) | with_reducible refine evOps_nil ?_ | ((with_reducible refine evOpsD_nil ?_ ?_); kernel_rfl) | ((with_reducible refine hK _ ?_); clear hK K) | (with_reducible first | refine And.intro ?_ ?_ | refine nxt_n ?_ | refine nxt_r ?_ | refine nxt_e ?_ | refine blk_n ?_ | refine blk_r ?_ | refine blk_same ?_ | refine blk_other (by decide) ?_ | refine noG_n ?_ | refine noG_r ?_ | refine noG_e ?_ | refine inR_mk ?_ ?_) | (refine fun (hc : (_ : Bool) = _) => ?_; try simp only [hcS] at hc))
    all_goals try exact om_
    · have e1 := tabK_two (ls := lvs.map (·.1)) (m := Sz.length) (k := k) (i := a) (j := b) (by omega) (by omega) (by omega) (by rw [hpe]; exact ha) (by rw [hpe]; exact hb2)
      refine ⟨⟨k + 1, by omega, (by trivial)⟩, by simp only; omega, Imp.auto hX (by simp only [go_sem, simprocAttr, e1, hps])⟩
    · have e0 : a = b := by omega
      have e1 := tabK_same (ls := lvs.map (·.1)) (m := Sz.length) (k := k) (i := a) (by omega) (by rw [hpe]; exact ha) (by rw [hpe, hb2, e0])
      refine ⟨⟨k + 1, by omega, (by trivial)⟩, by simp only; omega, Imp.auto hX (by simp only [go_sem, simprocAttr, e1, hps])⟩
  · obtain rfl : k = lvs.length := by omega
    rw [List.take_of_length_le (Nat.le_of_eq hll)]
    have hpl := pairs_len (ls := lvs.map (·.1))
    have hpk : ∀ k, k < (pairsK (lvs.map (·.1))).length → ((pairsK (lvs.map (·.1))).getD k []).length = 2 ∧ (0 ≤ ((pairsK (lvs.map (·.1))).getD k []).getD 0 0 ∧ ((pairsK (lvs.map (·.1))).getD k []).getD 0 0 < (Sz.length : Int)) ∧ 0 ≤ ((pairsK (lvs.map (·.1))).getD k []).getD 1 0 ∧ ((pairsK (lvs.map (·.1))).getD k []).getD 1 0 < (Sz.length : Int) := fun k hk => by
      rw [pairs_len] at hk
      rw [pairs_at hk]
      have hm : (lvs.map (·.1)).getD k default ∈ lvs.map (·.1) := by rw [List.getD_eq_getElem?_getD, List.getElem?_eq_getElem hk]; exact List.getElem_mem hk
      have w1 := hw.i _ hm
      have w2 := hw.j _ hm
      refine ⟨rfl, ?_, ?_⟩
      · simp only [List.getD_cons_zero]; omega
      · simp only [List.getD_cons_succ, List.getD_cons_zero]; omega
    have hAt : AtW (lvs.map (·.1)) S (tabK (lvs.map (·.1)) Sz.length lvs.length) := ⟨by rw [tabK_len]; exact hl.symm, fun i hi => by rw [tabK_at (by omega), hll]⟩
    obtain ⟨T, hT⟩ : ∃ T, tabK (lvs.map (·.1)) Sz.length lvs.length = T := ⟨_, rfl⟩
    rw [hT] at hAt ⊢
    obtain ⟨ps, hps⟩ : ∃ ps, pairsK (lvs.map (·.1)) = ps := ⟨_, rfl⟩
    rw [hps] at hpl hpk ⊢
    obtain ⟨pf1, pf2, pf3⟩ := clsI_facts (joK Sz.length ps ps.length) Sz.length
    obtain ⟨L, hL⟩ : ∃ L, (clsI (joK Sz.length ps ps.length) Sz.length).1 = L := ⟨_, rfl⟩
    have sp_join := sp_l01Join (n := Sz.length) (ps := ps) (by omega) (by omega) hpk
    rw [hL] at pf1 pf3 sp_join
    repeat' (first | (with_reducible first | refine V_seq ?_ | refine V_block ?_ | refine V_skip ?_ | refine V_ret ?_ | refine V_exit ?_) | ((with_reducible refine V_cond ?_); simp only [go_sem, simprocAttr]) | ((first | refine V_region (by rw [hn]; rfl) ?_ | refine V_drawn hmix (by rw [hn]; rfl) ?_); intro K hK) | ((first | with_reducible refine evOps_n ?_ | ((with_reducible apply evOps_g); rfl) | with_reducible refine evOpsD_n ?_ | ((with_reducible apply evOpsD_g); rfl)); intro K hK; simp (contextual := true) only [go_sem, simprocAttr]) | with_reducible refine evOps_nil ?_ | ((with_reducible refine evOpsD_nil ?_ ?_); kernel_rfl) | ((with_reducible refine hK _ ?_); clear hK K) | (with_reducible first | refine And.intro ?_ ?_ | refine nxt_n ?_ | refine nxt_r ?_ | refine nxt_e ?_ | refine blk_n ?_ | refine blk_r ?_ | refine blk_same ?_ | refine blk_other (by decide) ?_ | refine noG_n ?_ | refine noG_r ?_ | refine noG_e ?_ | refine inR_mk ?_ ?_) | ((with_reducible refine evCall_at 59 ?_); refine EvCall.mk (sp_join) cal_l01Join [(0,2)] [0] (by simp [go_sem] <;> (repeat' (first | rfl | constructor))) (by simp [go_sem] <;> (repeat' (first | rfl | constructor))) ?_; all_goals try simp only [go_sem, simprocAttr]) | (refine fun (hc : (_ : Bool) = _) => ?_; try simp only [hcS] at hc))
    all_goals try exact om_
    have hLb : ∀ i, i < L.length → 0 ≤ L.getD i 0 ∧ L.getD i 0 < 1048576 := fun i hi => by have := pf3 i (by omega); omega
    have htop := topI_bound (l := L) (B := 1048576) (by omega) (fun i hi => (hLb i hi).2) L.length (Nat.le_refl _)
    obtain ⟨N, hN⟩ : ∃ N : Nat, topI L L.length = N := ⟨(topI L L.length).toNat, by omega⟩
    have sp_top := sp_l22Top (l := L) (by omega) hLb
    rw [hN] at sp_top
    refine V_loopK (G := {c : Nat // c ≤ N ∧ (True)}) (fun ⟨c, _⟩ => [(13, iv c), (7, .sl 0)]) [0, 1, 2, 8, 12] (fun ⟨c, _⟩ => []) [] (fun zz => N - zz.1) ⟨0, Nat.zero_le _, by first | trivial | simp⟩ ?_ ?_
    · exact Imp.au hX
    rintro ⟨c, hic, hwc⟩
    simp only [go_sem, simprocAttr]
    repeat' (first | (refine V_at 26 (Imp.closeB 4 3 4 _ _ rfl rfl rfl (by decide)) ?_; simp only [go_sem, simprocAttr, List.set_cons_succ, List.set_cons_zero]) | (refine V_regionX (id := 26) (by rw [hn]; rfl) ?_; intro K hK) | ((with_reducible refine evOpsX_n ?_); intro K hK; simp (contextual := true) only [go_sem, simprocAttr]) | (with_reducible first | refine V_seq ?_ | refine V_block ?_ | refine V_skip ?_ | refine V_ret ?_ | refine V_exit ?_) | ((with_reducible refine V_cond ?_); simp only [go_sem, simprocAttr]) | ((first | refine V_region (by rw [hn]; rfl) ?_ | refine V_drawn hmix (by rw [hn]; rfl) ?_); intro K hK) | ((first | with_reducible refine evOps_n ?_ | ((with_reducible apply evOps_g); rfl) | with_reducible refine evOpsD_n ?_ | ((with_reducible apply evOpsD_g); rfl)); intro K hK; simp (contextual := true) only [go_sem, simprocAttr]) | with_reducible refine evOps_nil ?_ | ((with_reducible refine evOpsD_nil ?_ ?_); kernel_rfl) | ((with_reducible refine hK _ ?_); clear hK K) | (with_reducible first | refine And.intro ?_ ?_ | refine nxt_n ?_ | refine nxt_r ?_ | refine nxt_e ?_ | refine blk_n ?_ | refine blk_r ?_ | refine blk_same ?_ | refine blk_other (by decide) ?_ | refine noG_n ?_ | refine noG_r ?_ | refine noG_e ?_ | refine inR_mk ?_ ?_) | ((with_reducible refine evCall_at 60 ?_); refine EvCall.mk (sp_top) cal_l22Top [] [2] (by simp [go_sem] <;> (repeat' (first | rfl | constructor))) (by simp [go_sem] <;> (repeat' (first | rfl | constructor))) ?_; all_goals try simp only [go_sem, simprocAttr]) | (refine fun (hc : (_ : Bool) = _) => ?_; try simp only [hcS] at hc))
    all_goals try exact om_
    · refine V_loopK (G := {i : Nat // i ≤ Sz.length ∧ (True)}) (fun ⟨i, _⟩ => [(15, iv i), (14, .sl 3), (7, .sl 0)]) [0, 1, 2, 6, 8, 12, 13] (fun ⟨i, _⟩ => [(3, ⟨1, .arr (ints (frI L c i))⟩)]) [3] (fun zz => Sz.length - zz.1) ⟨0, Nat.zero_le _, by first | trivial | simp⟩ ?_ ?_
      · exact Imp.au hX
      rintro ⟨i, hii, hwi⟩
      simp only [go_sem, simprocAttr]
      have := frI_len L c i
      have hgo : ∀ A : List Int, A.length = S.length → (∀ j, j < A.length → A.getD j 0 < S.getD j 0) → SpecR Try.prog 61 [.ptr 0 0, .sl 1] [(0, ⟨1, .bx [.bor [] (ints Sz), .bor [] (linksD lvs), .bor [] (intss T), iv (1 : Nat), .dead] 4 (intss [])⟩), (1, ⟨1, .arr (ints A)⟩)] (.tup [])
        [(0, ⟨1, .bx [.bor [] (ints Sz), .bor [] (linksD lvs), .bor [] (intss T), iv (1 : Nat), .dead] 4 (intss (([] ++ goL (lvs.map fun p : Link × RawV => p.1) S (S.length + 1) A).take 1))⟩), (1, ⟨1, .arr (ints A)⟩)] (LLent lvs) := fun A hA hr =>
        sp_l22Go_n (Sz := Sz) (T := T) hw hl h9 hb hlc hAt (m := 1) (by omega) h8 (S.length + 1) [] A hA hr (by have := uns_le A; omega) (by simp)
      rcases Nat.lt_or_ge i Sz.length with hlt | hge
      · repeat' (first | (with_reducible first | refine V_seq ?_ | refine V_block ?_ | refine V_skip ?_ | refine V_ret ?_ | refine V_exit ?_) | ((with_reducible refine V_cond ?_); simp only [go_sem, simprocAttr]) | ((first | refine V_region (by rw [hn]; rfl) ?_ | refine V_drawn hmix (by rw [hn]; rfl) ?_); intro K hK) | ((first | with_reducible refine evOps_n ?_ | ((with_reducible apply evOps_g); rfl) | with_reducible refine evOpsD_n ?_ | ((with_reducible apply evOpsD_g); rfl)); intro K hK; simp (contextual := true) only [go_sem, simprocAttr]) | with_reducible refine evOps_nil ?_ | ((with_reducible refine evOpsD_nil ?_ ?_); kernel_rfl) | ((with_reducible refine hK _ ?_); clear hK K) | (with_reducible first | refine And.intro ?_ ?_ | refine nxt_n ?_ | refine nxt_r ?_ | refine nxt_e ?_ | refine blk_n ?_ | refine blk_r ?_ | refine blk_same ?_ | refine blk_other (by decide) ?_ | refine noG_n ?_ | refine noG_r ?_ | refine noG_e ?_ | refine inR_mk ?_ ?_) | (refine fun (hc : (_ : Bool) = _) => ?_; try simp only [hcS] at hc))
        all_goals try exact om_
        · refine ⟨⟨i + 1, by omega, (by trivial)⟩, by simp only; omega, Imp.auto hX (by simp only [go_sem, simprocAttr, frI_in (c := (c : Int)) (by assumption)])⟩
        · refine ⟨⟨i + 1, by omega, (by trivial)⟩, by simp only; omega, Imp.auto hX (by simp only [go_sem, simprocAttr, frI_out (c := (c : Int)) (by assumption)])⟩
      · obtain rfl : i = Sz.length := by omega
        have hgA := hgo (frI L c Sz.length) (by rw [frI_len]; exact hl.symm) (fun j hj => by
          have : (frI L c Sz.length).getD j 0 = -1 ∨ (frI L c Sz.length).getD j 0 = -2 := by
            rw [frI_len] at hj
            unfold frI
            rw [List.getD_eq_getElem?_getD, List.getElem?_map, List.getElem?_range hj]
            simp only [Option.map_some, Option.getD_some]
            split
            · exact .inl rfl
            · exact .inr rfl
          omega)
        obtain ⟨G, hG⟩ : ∃ G, ([] ++ goL (lvs.map fun p : Link × RawV => p.1) S (S.length + 1) (frI L c Sz.length)).take 1 = G := ⟨_, rfl⟩
        rw [hG] at hgA
        repeat' (first | (refine V_at 22 (Imp.trans (Imp.adoptBs 4 4 1 _ rfl rfl rfl (by rw [hX]; rfl)) (Imp.closeB 4 5 4 _ _ rfl rfl rfl (by decide))) ?_; simp only [go_sem, simprocAttr, List.set_cons_succ, List.set_cons_zero]) | (refine V_regionX (id := 22) (by rw [hn]; rfl) ?_; intro K hK) | (refine evOpsX_h ?_; intro K hK; refine HkX.callR (f := 61) (caps := []) hrd hgA cal_l22Go [(0,4),(1,3)] [1] (by simp only [go_sem, simprocAttr]) (by simp [go_sem] <;> first | rfl | exact ⟨rfl, rfl⟩ | exact ⟨rfl, rfl, rfl⟩) (by simp [go_sem] <;> first | rfl | exact ⟨rfl, rfl⟩ | exact ⟨rfl, rfl, rfl⟩) ?_; all_goals try simp only [go_sem, simprocAttr]) | ((with_reducible refine evOpsX_n ?_); intro K hK; simp (contextual := true) only [go_sem, simprocAttr]) | (with_reducible refine evOpsX_nil ?_) | (refine V_at 23 (Imp.openB 4 4 _ _ rfl (Nat.succ_le_succ (Nat.zero_le _)) rfl rfl) ?_; simp only [go_sem, simprocAttr]) | (with_reducible first | refine V_seq ?_ | refine V_block ?_ | refine V_skip ?_ | refine V_ret ?_ | refine V_exit ?_) | ((with_reducible refine V_cond ?_); simp only [go_sem, simprocAttr]) | ((first | refine V_region (by rw [hn]; rfl) ?_ | refine V_drawn hmix (by rw [hn]; rfl) ?_); intro K hK) | ((first | with_reducible refine evOps_n ?_ | ((with_reducible apply evOps_g); rfl) | with_reducible refine evOpsD_n ?_ | ((with_reducible apply evOpsD_g); rfl)); intro K hK; simp (contextual := true) only [go_sem, simprocAttr]) | with_reducible refine evOps_nil ?_ | ((with_reducible refine evOpsD_nil ?_ ?_); kernel_rfl) | ((with_reducible refine hK _ ?_); clear hK K) | (with_reducible first | refine And.intro ?_ ?_ | refine nxt_n ?_ | refine nxt_r ?_ | refine nxt_e ?_ | refine blk_n ?_ | refine blk_r ?_ | refine blk_same ?_ | refine blk_other (by decide) ?_ | refine noG_n ?_ | refine noG_r ?_ | refine noG_e ?_ | refine inR_mk ?_ ?_) | (refine fun (hc : (_ : Bool) = _) => ?_; try simp only [hcS] at hc))
        all_goals try exact om_
        · have h0 : extW (okLk (lvs.map fun x : Link × RawV => x.1)) S (List.replicate S.length (-1)) = [] := extW_nil fun Q hQ hW _ => by
            have h1 := goL_some hw hQ hW (S.length + 1) (frI L c Sz.length) (by rw [frI_len]; exact hl.symm) (by have := uns_le (frI L c Sz.length); rw [frI_len] at this; omega) (contB_iff.2 ⟨by rw [frI_len, (mem_lexP.1 hQ).1]; exact hl.symm, fun i hi h2 => by
              rw [frI_len] at hi
              have := frI_neg L c hi
              omega⟩)
            have h2 : G = [] := List.length_eq_zero_iff.1 (by omega)
            rw [h2, List.nil_append] at hG
            cases hgl : goL (lvs.map fun p : Link × RawV => p.1) S (S.length + 1) (frI L c Sz.length) with
            | nil => exact h1 hgl
            | cons a l => rw [hgl] at hG; simp at hG
          rw [h0, List.take_nil]
          (first | refine ret_auto ?_ | refine ret_auto' ?_); simp only [go_sem, simprocAttr, Try.f42]
        · refine ⟨⟨c + 1, by omega, (by trivial)⟩, by simp only; omega, Imp.ao hX⟩
    · obtain rfl : c = N := by omega
      have hgM := sp_l22Go_n (Sz := Sz) (T := T) hw hl h9 hb hlc hAt (m := M) hm h8 (S.length + 1) [] (List.replicate Sz.length (-1)) (by simpa using hl.symm) (fun j hj => by
          rw [List.length_replicate] at hj
          rw [List.getD_eq_getElem?_getD, List.getElem?_replicate, if_pos hj]
          simp only [Option.getD_some]
          omega) (by have := uns_le (List.replicate Sz.length (-1)); rw [List.length_replicate] at this; omega) (by simpa using hm0)
      have eM : goL (lvs.map fun x : Link × RawV => x.1) S (S.length + 1) (List.replicate Sz.length (-1)) = extW (okLk (lvs.map fun x : Link × RawV => x.1)) S (List.replicate S.length (-1)) := by
        rw [← hl]
        exact goL_ext hw _ _ (rng_open S) (by have := uns_le (List.replicate S.length (-1)); rw [List.length_replicate] at this; omega) (fun l hlm h0 _ => by
          have h1 := hw.i l hlm
          rw [List.getD_eq_getElem?_getD, List.getElem?_replicate, if_pos (by omega)] at h0
          simp at h0)
      rw [List.nil_append, eM] at hgM
      repeat' (first | (refine evOpsX_h ?_; intro K hK; refine HkX.callR (f := 61) (caps := []) hrd hgM cal_l22Go [(0,4),(1,5)] [1] (by simp only [go_sem, simprocAttr]) (by simp [go_sem] <;> first | rfl | exact ⟨rfl, rfl⟩ | exact ⟨rfl, rfl, rfl⟩) (by simp [go_sem] <;> first | rfl | exact ⟨rfl, rfl⟩ | exact ⟨rfl, rfl, rfl⟩) ?_; all_goals try simp only [go_sem, simprocAttr]) | ((with_reducible refine evOpsX_n ?_); intro K hK; simp (contextual := true) only [go_sem, simprocAttr]) | (with_reducible refine evOpsX_nil ?_) | (refine V_at 27 (Imp.openB 4 4 _ _ rfl (Nat.succ_le_succ (Nat.zero_le _)) rfl rfl) ?_; simp only [go_sem, simprocAttr]) | (with_reducible first | refine V_seq ?_ | refine V_block ?_ | refine V_skip ?_ | refine V_ret ?_ | refine V_exit ?_) | ((with_reducible refine V_cond ?_); simp only [go_sem, simprocAttr]) | ((first | refine V_region (by rw [hn]; rfl) ?_ | refine V_drawn hmix (by rw [hn]; rfl) ?_); intro K hK) | ((first | with_reducible refine evOps_n ?_ | ((with_reducible apply evOps_g); rfl) | with_reducible refine evOpsD_n ?_ | ((with_reducible apply evOpsD_g); rfl)); intro K hK; simp (contextual := true) only [go_sem, simprocAttr]) | with_reducible refine evOps_nil ?_ | ((with_reducible refine evOpsD_nil ?_ ?_); kernel_rfl) | ((with_reducible refine hK _ ?_); clear hK K) | (with_reducible first | refine And.intro ?_ ?_ | refine nxt_n ?_ | refine nxt_r ?_ | refine nxt_e ?_ | refine blk_n ?_ | refine blk_r ?_ | refine blk_same ?_ | refine blk_other (by decide) ?_ | refine noG_n ?_ | refine noG_r ?_ | refine noG_e ?_ | refine inR_mk ?_ ?_) | ((with_reducible refine evCall_at 40 ?_); refine EvCall.rq (a := (sp_l22Repeat (x:=-1) (n:=Sz.length) ?_)) (b := cal_l22Repeat) (c := ?_); all_goals try simp only [go_sem, simprocAttr]) | (refine fun (hc : (_ : Bool) = _) => ?_; try simp only [hcS] at hc))
      all_goals try exact om_
      · (first | refine ret_auto ?_ | refine ret_auto' ?_); simp only [go_sem, simprocAttr, Try.f42]
end Go.Eng
