/- Several texts in one: R08, R09, R10. -/
import Derived.Test.YtfinbajnalaomaaGreatKaax
import Derived.Test.YtfinbajnalaomaaGreatR04q
set_option linter.unusedSimpArgs false
set_option linter.unusedVariables false
set_option maxRecDepth 100000
set_option maxHeartbeats 16000000
section
namespace Go.Eng
open Go Go.Proofs Go.Cats
attribute [local go_sem] List.set_cons_zero List.set_cons_succ belowH_nil repm_zero List.map_nil
theorem take_mk {α β : Type} {F : List β} {A : List α} {f : α → β} {n : Nat} : (F ++ (A.take n).map f).take n = (F ++ A.map f).take n := by
  rw [List.map_take, List.take_append, List.take_append (l₂ := A.map f), List.take_take, Nat.min_eq_left (by omega)]
theorem fmap_mk {c d : Cat} {P : List Int} : funX c d false 0 P = (funA c d false P).map (mkF c d P) := rfl
theorem cal_l06Search : Callable Tryz.prog 51 := ⟨_, Tryz.func51, rfl, rfl⟩
theorem sp_l06Search_no {c d : Cat} {r : Nat} {P : List Int} {F : List Fun} (sc : Shape c) (sd : Shape d) (hPl : P.length ≤ 1048576) (hF : F.length ≤ 200) (hR : ¬ Rooms c d P) :
    Spec Tryz.prog 51 [catV c, catV d, .bor [] (ints P), .sl 0] [(0, ⟨1, .arr (funsD F)⟩)] (.sl 1) [(0, ⟨1, .gone⟩), (1, ⟨1, .arr (funsD ((F ++ funX c d false r P).take 201))⟩)] := by
  have m40 := sc.m40
  have n40 := sd.m40
  have hro := sp_l06Rooms (P := P) sc sd hPl
  rw [dec_f hR] at hro
  have hno := rooms_no (d := d) (r := r) sc hR
  rw [hno, List.append_nil, List.take_of_length_le (by omega)]
  refine spec_of_V (E := TE) 1 Tryz.func51 rfl (by simp [Tryz.f51]) fun X hn hX => ?_
  repeat' (first | (refine V_at 0 (Imp.mv 3 0 1 (funsD F) rfl rfl (Nat.le_refl 1) rfl (by rw [hX]; rfl)) ?_; simp only [go_sem, simprocAttr]) | (with_reducible first | refine V_seq ?_ | refine V_block ?_ | refine V_skip ?_ | refine V_ret ?_ | refine V_exit ?_) | ((with_reducible refine V_cond ?_); simp only [go_sem, simprocAttr]) | ((first | refine V_region (by rw [hn]; rfl) ?_ | refine V_drawn hmix (by rw [hn]; rfl) ?_); intro K hK) | ((first | with_reducible refine evOps_n ?_ | ((with_reducible apply evOps_g); rfl) | with_reducible refine evOpsD_n ?_ | ((with_reducible apply evOpsD_g); rfl)); intro K hK; simp (contextual := true) only [go_sem, simprocAttr]) | with_reducible refine evOps_nil ?_ | ((with_reducible refine evOpsD_nil ?_ ?_); kernel_rfl) | ((with_reducible refine hK _ ?_); clear hK K) | (with_reducible first | refine And.intro ?_ ?_ | refine nxt_n ?_ | refine nxt_r ?_ | refine nxt_e ?_ | refine blk_n ?_ | refine blk_r ?_ | refine blk_same ?_ | refine blk_other (by decide) ?_ | refine noG_n ?_ | refine noG_r ?_ | refine noG_e ?_ | refine inR_mk ?_ ?_) | ((with_reducible refine evCall_at 72 ?_); refine EvCall.mk (hro) cal_l06Rooms [] [] (by simp [go_sem] <;> (repeat' (first | rfl | constructor))) (by simp [go_sem] <;> (repeat' (first | rfl | constructor))) ?_; all_goals try simp only [go_sem, simprocAttr]) | (refine fun (hc : (_ : Bool) = _) => ?_; try simp only [hcS] at hc))
  all_goals try exact om_
  · (first | refine ret_auto ?_ | refine ret_auto' ?_); simp only [go_sem, simprocAttr, Tryz.f51]
theorem sp_l06Search_z {c d : Cat} {P : List Int} {F : List Fun} (sc : IsCat c) (sd : IsCat d) (bc : CatB c) (bd : CatB d) (hPl : (P.length : Int) = c.ob) (hw : Within P d.ob) (hF : F.length ≤ 200) (hR : Rooms c d P) :
    Spec Tryz.prog 51 [catV c, catV d, .bor [] (ints P), .sl 0] [(0, ⟨1, .arr (funsD F)⟩)] (.sl 1) [(0, ⟨1, .gone⟩), (1, ⟨1, .arr (funsD ((F ++ funX c d false 0 P).take 201))⟩)] := by
  have m40 := sc.toShape.m40
  have n40 := sd.toShape.m40
  have tol := sc.toShape.tol
  have dol := sd.toShape.tol
  have c0 := sc.toShape.ob0
  have c8 := sc.toShape.ob8
  have d0 := sd.toShape.ob0
  have d8 := sd.toShape.ob8
  have cil := sc.toShape.idl
  have dil := sd.toShape.idl
  have hro := sp_l06Rooms (P := P) sc.toShape sd.toShape (by omega)
  rw [dec_t hR] at hro
  have hP : XOK c d false P := ⟨by omega, hw, fun h => by cases h⟩
  refine spec_of_V (E := TE) 1 Tryz.func51 rfl (by simp [Tryz.f51]) fun X hn hX => ?_
  repeat' (first | (refine V_at 0 (Imp.mv 3 0 1 (funsD F) rfl rfl (Nat.le_refl 1) rfl (by rw [hX]; rfl)) ?_; simp only [go_sem, simprocAttr]) | (with_reducible first | refine V_seq ?_ | refine V_block ?_ | refine V_skip ?_ | refine V_ret ?_ | refine V_exit ?_) | ((with_reducible refine V_cond ?_); simp only [go_sem, simprocAttr]) | ((first | refine V_region (by rw [hn]; rfl) ?_ | refine V_drawn hmix (by rw [hn]; rfl) ?_); intro K hK) | ((first | with_reducible refine evOps_n ?_ | ((with_reducible apply evOps_g); rfl) | with_reducible refine evOpsD_n ?_ | ((with_reducible apply evOpsD_g); rfl)); intro K hK; simp (contextual := true) only [go_sem, simprocAttr]) | with_reducible refine evOps_nil ?_ | ((with_reducible refine evOpsD_nil ?_ ?_); kernel_rfl) | ((with_reducible refine hK _ ?_); clear hK K) | (with_reducible first | refine And.intro ?_ ?_ | refine nxt_n ?_ | refine nxt_r ?_ | refine nxt_e ?_ | refine blk_n ?_ | refine blk_r ?_ | refine blk_same ?_ | refine blk_other (by decide) ?_ | refine noG_n ?_ | refine noG_r ?_ | refine noG_e ?_ | refine inR_mk ?_ ?_) | ((with_reducible refine evCall_at 72 ?_); refine EvCall.mk (hro) cal_l06Rooms [] [] (by simp [go_sem] <;> (repeat' (first | rfl | constructor))) (by simp [go_sem] <;> (repeat' (first | rfl | constructor))) ?_; all_goals try simp only [go_sem, simprocAttr]) | (refine fun (hc : (_ : Bool) = _) => ?_; try simp only [hcS] at hc))
  all_goals try exact om_
  refine V_loopK (G := {a : Nat // a ≤ c.fr.length ∧ (True)}) (fun ⟨a, _⟩ => [(10, iv a), (9, .sl 4), (3, .sl 1)]) [2, 4, 5, 8] (fun ⟨a, _⟩ => [(1, ⟨1, .arr (funsD F)⟩), (4, ⟨1, .arr (ints (List.replicate a (-1)))⟩)]) [1, 4] (fun zz => c.fr.length - zz.1) ⟨0, Nat.zero_le _, by first | trivial | simp⟩ ?_ ?_
  · exact Imp.au hX
  rintro ⟨a, hia, hwa⟩
  simp only [go_sem, simprocAttr]
  rcases Nat.lt_or_ge a c.fr.length with hlt | hge
  · have e1 := repm_succ a
    repeat' (first | (with_reducible first | refine V_seq ?_ | refine V_block ?_ | refine V_skip ?_ | refine V_ret ?_ | refine V_exit ?_) | ((with_reducible refine V_cond ?_); simp only [go_sem, simprocAttr]) | ((first | refine V_region (by rw [hn]; rfl) ?_ | refine V_drawn hmix (by rw [hn]; rfl) ?_); intro K hK) | ((first | with_reducible refine evOps_n ?_ | ((with_reducible apply evOps_g); rfl) | with_reducible refine evOpsD_n ?_ | ((with_reducible apply evOpsD_g); rfl)); intro K hK; simp (contextual := true) only [go_sem, simprocAttr]) | with_reducible refine evOps_nil ?_ | ((with_reducible refine evOpsD_nil ?_ ?_); kernel_rfl) | ((with_reducible refine hK _ ?_); clear hK K) | (with_reducible first | refine And.intro ?_ ?_ | refine nxt_n ?_ | refine nxt_r ?_ | refine nxt_e ?_ | refine blk_n ?_ | refine blk_r ?_ | refine blk_same ?_ | refine blk_other (by decide) ?_ | refine noG_n ?_ | refine noG_r ?_ | refine noG_e ?_ | refine inR_mk ?_ ?_) | (refine fun (hc : (_ : Bool) = _) => ?_; try simp only [hcS] at hc))
    all_goals try exact om_
    · refine ⟨⟨a + 1, by omega, (by trivial)⟩, by simp only; omega, Imp.auto hX (by simp only [go_sem, simprocAttr, e1])⟩
  · have ea : List.replicate a (-1 : Int) = startI c d P 0 := by rw [show a = c.fr.length by omega]; rfl
    rw [ea]
    repeat' (first | (with_reducible first | refine V_seq ?_ | refine V_block ?_ | refine V_skip ?_ | refine V_ret ?_ | refine V_exit ?_) | ((with_reducible refine V_cond ?_); simp only [go_sem, simprocAttr]) | ((first | refine V_region (by rw [hn]; rfl) ?_ | refine V_drawn hmix (by rw [hn]; rfl) ?_); intro K hK) | ((first | with_reducible refine evOps_n ?_ | ((with_reducible apply evOps_g); rfl) | with_reducible refine evOpsD_n ?_ | ((with_reducible apply evOpsD_g); rfl)); intro K hK; simp (contextual := true) only [go_sem, simprocAttr]) | with_reducible refine evOps_nil ?_ | ((with_reducible refine evOpsD_nil ?_ ?_); kernel_rfl) | ((with_reducible refine hK _ ?_); clear hK K) | (with_reducible first | refine And.intro ?_ ?_ | refine nxt_n ?_ | refine nxt_r ?_ | refine nxt_e ?_ | refine blk_n ?_ | refine blk_r ?_ | refine blk_same ?_ | refine blk_other (by decide) ?_ | refine noG_n ?_ | refine noG_r ?_ | refine noG_e ?_ | refine inR_mk ?_ ?_) | (refine fun (hc : (_ : Bool) = _) => ?_; try simp only [hcS] at hc))
    all_goals try exact om_
    refine V_loopK (G := {y : Nat // y ≤ P.length ∧ (True)}) (fun ⟨y, _⟩ => [(11, iv y), (9, .sl 4), (3, .sl 1)]) [2, 4, 5, 8] (fun ⟨y, _⟩ => [(1, ⟨1, .arr (funsD F)⟩), (4, ⟨1, .arr (ints (startI c d P y))⟩)]) [1, 4] (fun zz => P.length - zz.1) ⟨0, Nat.zero_le _, by first | trivial | simp⟩ ?_ ?_
    · exact Imp.au hX
    rintro ⟨y, hiy, hwy⟩
    simp only [go_sem, simprocAttr]
    have sl := startI_len (c := c) (d := d) (X := P) y
    rcases Nat.lt_or_ge y P.length with hly | hgy
    · have i1 := id_ok sc.toShape (x := y) (by omega)
      have i2 := unit_ok sc.toShape sd.toShape hP (x := y) (by omega)
      repeat' (first | (with_reducible first | refine V_seq ?_ | refine V_block ?_ | refine V_skip ?_ | refine V_ret ?_ | refine V_exit ?_) | ((with_reducible refine V_cond ?_); simp only [go_sem, simprocAttr]) | ((first | refine V_region (by rw [hn]; rfl) ?_ | refine V_drawn hmix (by rw [hn]; rfl) ?_); intro K hK) | ((first | with_reducible refine evOps_n ?_ | ((with_reducible apply evOps_g); rfl) | with_reducible refine evOpsD_n ?_ | ((with_reducible apply evOpsD_g); rfl)); intro K hK; simp (contextual := true) only [go_sem, simprocAttr]) | with_reducible refine evOps_nil ?_ | ((with_reducible refine evOpsD_nil ?_ ?_); kernel_rfl) | ((with_reducible refine hK _ ?_); clear hK K) | (with_reducible first | refine And.intro ?_ ?_ | refine nxt_n ?_ | refine nxt_r ?_ | refine nxt_e ?_ | refine blk_n ?_ | refine blk_r ?_ | refine blk_same ?_ | refine blk_other (by decide) ?_ | refine noG_n ?_ | refine noG_r ?_ | refine noG_e ?_ | refine inR_mk ?_ ?_) | (refine fun (hc : (_ : Bool) = _) => ?_; try simp only [hcS] at hc))
      all_goals try exact om_
      · refine ⟨⟨y + 1, by omega, (by trivial)⟩, by simp only; omega, Imp.auto hX (by simp only [go_sem, simprocAttr, show (startI c d P y).set (c.id.getD y 0).toNat (d.id.getD (P.getD y 0).toNat 0) = startI c d P (y + 1) from rfl])⟩
    · have ey : startI c d P y = startA c d P := by rw [show y = c.id.length by omega]; rfl
      rw [ey]
      have hnx := start_nx (b := false) sc sd hP (fun h => by cases h)
      have hun := uns_le (startA c d P)
      have hal := sp_l06Arrows_n sc.toShape sd.toShape hP (uns (startA c d P) + 1) [] (startA c d P) 0 hnx (Nat.lt_succ_self _) (fun j hj => absurd hj (Nat.not_lt_zero j)) (Nat.zero_le _) (by decide)
      rw [List.nil_append, ← funA_start sc.toShape] at hal
      have hLl : ((funA c d false P).take 201).length ≤ 201 := by rw [List.length_take]; omega
      have hfin : funX c d false 0 P = (funA c d false P).map (mkF c d P) := fmap_mk
      rw [hfin, ← take_mk]
      obtain ⟨L, hL⟩ : ∃ L, (funA c d false P).take 201 = L := ⟨_, rfl⟩
      have hrow : ∀ k, k < L.length → (L.getD k []).length = c.fr.length := fun k hk => by
        have hm : L.getD k [] ∈ funA c d false P := by rw [← hL] at hk ⊢; exact List.mem_of_mem_take (getD_mem hk)
        have := (mem_lexP.1 (mem_extW.1 hm).1).1
        rw [this]; exact List.length_replicate
      rw [hL] at hal hLl ⊢
      obtain ⟨fd, hfd⟩ : ∃ fd : Nat → List Fun, ∀ k, fd k = (F ++ (L.take k).map (mkF c d P)).take 201 := ⟨_, fun _ => rfl⟩
      have fd0 : fd 0 = F := by rw [hfd, List.take_zero, List.map_nil, List.append_nil, List.take_of_length_le (by omega)]
      have fdl : ∀ k, (fd k).length ≤ 201 := fun k => by rw [hfd]; simp only [List.length_take]; omega
      have fdE : ∀ k, L.length ≤ k → fd k = (F ++ L.map (mkF c d P)).take 201 := fun k hk => by rw [hfd, List.take_of_length_le hk]
      have fdS : ∀ k, ¬ (fd k).length ≤ 200 → fd k = (F ++ L.map (mkF c d P)).take 201 := fun k hk => by
        rw [hfd] at hk ⊢
        have e2 : L.map (mkF c d P) = (L.take k).map (mkF c d P) ++ (L.drop k).map (mkF c d P) := by rw [← List.map_append, List.take_append_drop]
        rw [e2, ← List.append_assoc, fullN (B := (L.drop k).map (mkF c d P))]
        rw [List.length_take] at hk
        omega
      have fdn : ∀ k, k < L.length → (fd k).length ≤ 200 → fd (k + 1) = fd k ++ [mkF c d P (L.getD k [])] := fun k hk h2 => by
        have e3 : fd (k + 1) = (fd k ++ [mkF c d P (L.getD k [])]).take 201 := by
          have e4 : L.take (k + 1) = L.take k ++ [L.getD k []] := by
            rw [List.take_add_one, List.getElem?_eq_getElem hk, List.getD_eq_getElem?_getD, List.getElem?_eq_getElem hk]
            rfl
          rw [hfd, hfd, take_tk, e4, List.map_append]
          rfl
        rw [e3, List.take_of_length_le (by simp; omega)]
      have hPb : P.length ≤ 1048576 := by omega
      repeat' (first | (with_reducible first | refine V_seq ?_ | refine V_block ?_ | refine V_skip ?_ | refine V_ret ?_ | refine V_exit ?_) | ((with_reducible refine V_cond ?_); simp only [go_sem, simprocAttr]) | ((first | refine V_region (by rw [hn]; rfl) ?_ | refine V_drawn hmix (by rw [hn]; rfl) ?_); intro K hK) | ((first | with_reducible refine evOps_n ?_ | ((with_reducible apply evOps_g); rfl) | with_reducible refine evOpsD_n ?_ | ((with_reducible apply evOpsD_g); rfl)); intro K hK; simp (contextual := true) only [go_sem, simprocAttr]) | with_reducible refine evOps_nil ?_ | ((with_reducible refine evOpsD_nil ?_ ?_); kernel_rfl) | ((with_reducible refine hK _ ?_); clear hK K) | (with_reducible first | refine And.intro ?_ ?_ | refine nxt_n ?_ | refine nxt_r ?_ | refine nxt_e ?_ | refine blk_n ?_ | refine blk_r ?_ | refine blk_same ?_ | refine blk_other (by decide) ?_ | refine noG_n ?_ | refine noG_r ?_ | refine noG_e ?_ | refine inR_mk ?_ ?_) | ((with_reducible refine evCall_at 73 ?_); refine EvCall.mk (hal) cal_l06Arrows [(0,5),(1,6)] [4] (by simp [go_sem] <;> (repeat' (first | rfl | constructor))) (by simp [go_sem] <;> (repeat' (first | rfl | constructor))) ?_; all_goals try simp only [go_sem, simprocAttr]) | (refine fun (hc : (_ : Bool) = _) => ?_; try simp only [hcS] at hc))
      all_goals try exact om_
      refine V_loopK (G := {k : Nat // k ≤ L.length ∧ (True)}) (fun ⟨k, _⟩ => [(13, iv k), (12, .sl 6), (9, .sl 4), (3, .sl 1)]) [2, 4, 5, 8] (fun ⟨k, _⟩ => [(4, ⟨1, .arr (ints (startA c d P))⟩), (1, ⟨1, .arr (funsD (fd k))⟩), (6, ⟨1, .arr (intss L)⟩)]) [1, 4, 6] (fun zz => L.length - zz.1) ⟨0, Nat.zero_le _, by first | trivial | simp⟩ ?_ ?_
      · exact Imp.auto hX (by simp [go_sem, simprocAttr, fd0])
      rintro ⟨k, hik, hwk⟩
      simp only [go_sem, simprocAttr]
      have l1 := fdl k
      rcases Nat.lt_or_ge k L.length with hlk | hgk
      · rcases Nat.lt_or_ge 200 (fd k).length with hg2 | hl2
        · repeat' (first | (with_reducible first | refine V_seq ?_ | refine V_block ?_ | refine V_skip ?_ | refine V_ret ?_ | refine V_exit ?_) | ((with_reducible refine V_cond ?_); simp only [go_sem, simprocAttr]) | ((first | refine V_region (by rw [hn]; rfl) ?_ | refine V_drawn hmix (by rw [hn]; rfl) ?_); intro K hK) | ((first | with_reducible refine evOps_n ?_ | ((with_reducible apply evOps_g); rfl) | with_reducible refine evOpsD_n ?_ | ((with_reducible apply evOpsD_g); rfl)); intro K hK; simp (contextual := true) only [go_sem, simprocAttr]) | with_reducible refine evOps_nil ?_ | ((with_reducible refine evOpsD_nil ?_ ?_); kernel_rfl) | ((with_reducible refine hK _ ?_); clear hK K) | (with_reducible first | refine And.intro ?_ ?_ | refine nxt_n ?_ | refine nxt_r ?_ | refine nxt_e ?_ | refine blk_n ?_ | refine blk_r ?_ | refine blk_same ?_ | refine blk_other (by decide) ?_ | refine noG_n ?_ | refine noG_r ?_ | refine noG_e ?_ | refine inR_mk ?_ ?_) | (refine fun (hc : (_ : Bool) = _) => ?_; try simp only [hcS] at hc))
          all_goals try exact om_
          · rw [← fdS k (by omega)]
            (first | refine ret_auto ?_ | refine ret_auto' ?_); simp only [go_sem, simprocAttr, Tryz.f51]
        · have rl := hrow k hlk
          have e1 : fd (k + 1) = fd k ++ [⟨⟨c.ob, c.fr, c.to, c.id, c.co⟩, ⟨d.ob, d.fr, d.to, d.id, d.co⟩, P, L.getD k []⟩] := fdn k hlk hl2
          repeat' (first | (with_reducible first | refine V_seq ?_ | refine V_block ?_ | refine V_skip ?_ | refine V_ret ?_ | refine V_exit ?_) | ((with_reducible refine V_cond ?_); simp only [go_sem, simprocAttr]) | ((first | refine V_region (by rw [hn]; rfl) ?_ | refine V_drawn hmix (by rw [hn]; rfl) ?_); intro K hK) | ((first | with_reducible refine evOps_n ?_ | ((with_reducible apply evOps_g); rfl) | with_reducible refine evOpsD_n ?_ | ((with_reducible apply evOpsD_g); rfl)); intro K hK; simp (contextual := true) only [go_sem, simprocAttr]) | with_reducible refine evOps_nil ?_ | ((with_reducible refine evOpsD_nil ?_ ?_); kernel_rfl) | ((with_reducible refine hK _ ?_); clear hK K) | (with_reducible first | refine And.intro ?_ ?_ | refine nxt_n ?_ | refine nxt_r ?_ | refine nxt_e ?_ | refine blk_n ?_ | refine blk_r ?_ | refine blk_same ?_ | refine blk_other (by decide) ?_ | refine noG_n ?_ | refine noG_r ?_ | refine noG_e ?_ | refine inR_mk ?_ ?_) | ((with_reducible refine evCall_at 36 ?_); refine EvCall.rq (a := (sp_l06Make (c:=c) (d:=d) (p:=P) (q:=(L.getD k [])) ?_ ?_ ?_ ?_)) (b := cal_l06Make) (c := ?_); all_goals try simp only [go_sem, simprocAttr]) | (refine fun (hc : (_ : Bool) = _) => ?_; try simp only [hcS] at hc))
          all_goals try exact om_
          · refine ⟨⟨k + 1, by omega, (by trivial)⟩, by simp only; omega, Imp.auto hX (by simp only [go_sem, simprocAttr, e1])⟩
      · repeat' (first | (with_reducible first | refine V_seq ?_ | refine V_block ?_ | refine V_skip ?_ | refine V_ret ?_ | refine V_exit ?_) | ((with_reducible refine V_cond ?_); simp only [go_sem, simprocAttr]) | ((first | refine V_region (by rw [hn]; rfl) ?_ | refine V_drawn hmix (by rw [hn]; rfl) ?_); intro K hK) | ((first | with_reducible refine evOps_n ?_ | ((with_reducible apply evOps_g); rfl) | with_reducible refine evOpsD_n ?_ | ((with_reducible apply evOpsD_g); rfl)); intro K hK; simp (contextual := true) only [go_sem, simprocAttr]) | with_reducible refine evOps_nil ?_ | ((with_reducible refine evOpsD_nil ?_ ?_); kernel_rfl) | ((with_reducible refine hK _ ?_); clear hK K) | (with_reducible first | refine And.intro ?_ ?_ | refine nxt_n ?_ | refine nxt_r ?_ | refine nxt_e ?_ | refine blk_n ?_ | refine blk_r ?_ | refine blk_same ?_ | refine blk_other (by decide) ?_ | refine noG_n ?_ | refine noG_r ?_ | refine noG_e ?_ | refine inR_mk ?_ ?_) | (refine fun (hc : (_ : Bool) = _) => ?_; try simp only [hcS] at hc))
        all_goals try exact om_
        · rw [← fdE k (by omega)]
          (first | refine ret_auto ?_ | refine ret_auto' ?_); simp only [go_sem, simprocAttr, Tryz.f51]
theorem sp_l06Search_n {c d : Cat} (sc : IsCat c) (sd : IsCat d) (bc : CatB c) (bd : CatB d) : ∀ (r : Nat) (P : List Int) (F : List Fun), (P.length : Int) + r = c.ob → Within P d.ob → F.length ≤ 200 →
    Spec Tryz.prog 51 [catV c, catV d, .bor [] (ints P), .sl 0] [(0, ⟨1, .arr (funsD F)⟩)] (.sl 1) [(0, ⟨1, .gone⟩), (1, ⟨1, .arr (funsD ((F ++ funX c d false r P).take 201))⟩)]
  | 0, P, F, hPl, hw, hF => by
    have c8 := sc.toShape.ob8
    by_cases hR : Rooms c d P
    · exact sp_l06Search_z sc sd bc bd (by omega) hw hF hR
    · exact sp_l06Search_no sc.toShape sd.toShape (by omega) hF hR
  | r + 1, P, F, hPl, hw, hF => by
    have m40 := sc.toShape.m40
    have n40 := sd.toShape.m40
    have tol := sc.toShape.tol
    have dol := sd.toShape.tol
    have c0 := sc.toShape.ob0
    have c8 := sc.toShape.ob8
    have d0 := sd.toShape.ob0
    have d8 := sd.toShape.ob8
    have cil := sc.toShape.idl
    have dil := sd.toShape.idl
    have hro := sp_l06Rooms (P := P) sc.toShape sd.toShape (by omega)
    by_cases hR : Rooms c d P
    · rw [dec_t hR] at hro
      rw [funX_all]
      obtain ⟨fd, hfd⟩ : ∃ fd : Nat → List Fun, ∀ k, fd k = (F ++ belowX c d false r P k).take 201 := ⟨_, fun _ => rfl⟩
      have fd0 : fd 0 = F := by rw [hfd, belowX_zero, List.append_nil, List.take_of_length_le (by omega)]
      have fdl : ∀ k, (fd k).length ≤ 201 := fun k => by rw [hfd]; simp only [List.length_take]; omega
      have fdE : fd d.ob.toNat = (F ++ belowX c d false r P d.ob.toNat).take 201 := hfd _
      have fdS : ∀ y, y ≤ d.ob.toNat → ¬ (fd y).length ≤ 200 → fd y = (F ++ belowX c d false r P d.ob.toNat).take 201 := fun y hy hk => by
        have e1 : ∃ R, belowX c d false r P d.ob.toNat = belowX c d false r P y ++ R := by
          rcases Nat.lt_or_ge y d.ob.toNat with q | q
          · obtain ⟨R, hR⟩ := belowX_split (c := c) (d := d) (b := false) (r := r) (X := P) q
            rw [belowX_succ, List.append_assoc] at hR
            exact ⟨_, hR⟩
          · exact ⟨[], by rw [List.append_nil, show y = d.ob.toNat by omega]⟩
        obtain ⟨R, hR⟩ := e1
        rw [hR, ← take_tk, ← hfd, List.take_append_of_le_length (by omega), List.take_of_length_le (fdl y)]
      have fdn : ∀ y : Nat, (fd y ++ funX c d false r (P ++ [(y : Int)])).take 201 = fd (y + 1) := fun y => by rw [hfd, hfd, belowX_succ, take_tk]
      refine spec_of_V (E := TE) 1 Tryz.func51 rfl (by simp [Tryz.f51]) fun X hn hX => ?_
      repeat' (first | (refine V_at 0 (Imp.mv 3 0 1 (funsD F) rfl rfl (Nat.le_refl 1) rfl (by rw [hX]; rfl)) ?_; simp only [go_sem, simprocAttr]) | (with_reducible first | refine V_seq ?_ | refine V_block ?_ | refine V_skip ?_ | refine V_ret ?_ | refine V_exit ?_) | ((with_reducible refine V_cond ?_); simp only [go_sem, simprocAttr]) | ((first | refine V_region (by rw [hn]; rfl) ?_ | refine V_drawn hmix (by rw [hn]; rfl) ?_); intro K hK) | ((first | with_reducible refine evOps_n ?_ | ((with_reducible apply evOps_g); rfl) | with_reducible refine evOpsD_n ?_ | ((with_reducible apply evOpsD_g); rfl)); intro K hK; simp (contextual := true) only [go_sem, simprocAttr]) | with_reducible refine evOps_nil ?_ | ((with_reducible refine evOpsD_nil ?_ ?_); kernel_rfl) | ((with_reducible refine hK _ ?_); clear hK K) | (with_reducible first | refine And.intro ?_ ?_ | refine nxt_n ?_ | refine nxt_r ?_ | refine nxt_e ?_ | refine blk_n ?_ | refine blk_r ?_ | refine blk_same ?_ | refine blk_other (by decide) ?_ | refine noG_n ?_ | refine noG_r ?_ | refine noG_e ?_ | refine inR_mk ?_ ?_) | ((with_reducible refine evCall_at 72 ?_); refine EvCall.mk (hro) cal_l06Rooms [] [] (by simp [go_sem] <;> (repeat' (first | rfl | constructor))) (by simp [go_sem] <;> (repeat' (first | rfl | constructor))) ?_; all_goals try simp only [go_sem, simprocAttr]) | (refine fun (hc : (_ : Bool) = _) => ?_; try simp only [hcS] at hc))
      all_goals try exact om_
      refine V_loopK (G := {y : Nat // y ≤ d.ob.toNat ∧ (True)}) (fun ⟨y, _⟩ => [(14, iv y), (3, .sl 1)]) [2, 4, 5, 8] (fun ⟨y, _⟩ => [(1, ⟨1, .arr (funsD (fd y))⟩)]) [1] (fun zz => d.ob.toNat - zz.1) ⟨0, Nat.zero_le _, by first | trivial | simp⟩ ?_ ?_
      · exact Imp.auto hX (by simp [go_sem, simprocAttr, fd0])
      rintro ⟨y, hiy, hwy⟩
      simp only [go_sem, simprocAttr]
      have l1 := fdl y
      rcases Nat.lt_or_ge y d.ob.toNat with hlt | hge
      · rcases Nat.lt_or_ge 200 (fd y).length with hg2 | hl2
        · repeat' (first | (with_reducible first | refine V_seq ?_ | refine V_block ?_ | refine V_skip ?_ | refine V_ret ?_ | refine V_exit ?_) | ((with_reducible refine V_cond ?_); simp only [go_sem, simprocAttr]) | ((first | refine V_region (by rw [hn]; rfl) ?_ | refine V_drawn hmix (by rw [hn]; rfl) ?_); intro K hK) | ((first | with_reducible refine evOps_n ?_ | ((with_reducible apply evOps_g); rfl) | with_reducible refine evOpsD_n ?_ | ((with_reducible apply evOpsD_g); rfl)); intro K hK; simp (contextual := true) only [go_sem, simprocAttr]) | with_reducible refine evOps_nil ?_ | ((with_reducible refine evOpsD_nil ?_ ?_); kernel_rfl) | ((with_reducible refine hK _ ?_); clear hK K) | (with_reducible first | refine And.intro ?_ ?_ | refine nxt_n ?_ | refine nxt_r ?_ | refine nxt_e ?_ | refine blk_n ?_ | refine blk_r ?_ | refine blk_same ?_ | refine blk_other (by decide) ?_ | refine noG_n ?_ | refine noG_r ?_ | refine noG_e ?_ | refine inR_mk ?_ ?_) | (refine fun (hc : (_ : Bool) = _) => ?_; try simp only [hcS] at hc))
          all_goals try exact om_
          · rw [← fdS y (by omega) (by omega)]
            (first | refine ret_auto ?_ | refine ret_auto' ?_); simp only [go_sem, simprocAttr, Tryz.f51]
        · have hrec := sp_l06Search_n sc sd bc bd r (P ++ [(y : Int)]) (fd y) (by rw [List.length_append, List.length_singleton]; omega) (within_snoc hw (by omega)) hl2
          rw [fdn] at hrec
          repeat' (first | (with_reducible first | refine V_seq ?_ | refine V_block ?_ | refine V_skip ?_ | refine V_ret ?_ | refine V_exit ?_) | ((with_reducible refine V_cond ?_); simp only [go_sem, simprocAttr]) | ((first | refine V_region (by rw [hn]; rfl) ?_ | refine V_drawn hmix (by rw [hn]; rfl) ?_); intro K hK) | ((first | with_reducible refine evOps_n ?_ | ((with_reducible apply evOps_g); rfl) | with_reducible refine evOpsD_n ?_ | ((with_reducible apply evOpsD_g); rfl)); intro K hK; simp (contextual := true) only [go_sem, simprocAttr]) | with_reducible refine evOps_nil ?_ | ((with_reducible refine evOpsD_nil ?_ ?_); kernel_rfl) | ((with_reducible refine hK _ ?_); clear hK K) | (with_reducible first | refine And.intro ?_ ?_ | refine nxt_n ?_ | refine nxt_r ?_ | refine nxt_e ?_ | refine blk_n ?_ | refine blk_r ?_ | refine blk_same ?_ | refine blk_other (by decide) ?_ | refine noG_n ?_ | refine noG_r ?_ | refine noG_e ?_ | refine inR_mk ?_ ?_) | ((with_reducible refine evCall_at 55 ?_); refine EvCall.rq (a := (sp_l01Own ?_)) (b := cal_l01Own) (c := ?_); all_goals try simp only [go_sem, simprocAttr]) | ((with_reducible refine evCall_at 51 ?_); refine EvCall.mk (hrec) cal_l06Search [(0,1),(1,7)] [6] (by simp [go_sem] <;> (repeat' (first | rfl | constructor))) (by simp [go_sem] <;> (repeat' (first | rfl | constructor))) ?_; all_goals try simp only [go_sem, simprocAttr]) | (refine fun (hc : (_ : Bool) = _) => ?_; try simp only [hcS] at hc))
          all_goals try exact om_
          · refine ⟨⟨y + 1, by omega, (by trivial)⟩, by simp only; omega, Imp.ao hX⟩
      · have ey : y = d.ob.toNat := by omega
        subst ey
        rw [← fdE]
        repeat' (first | (with_reducible first | refine V_seq ?_ | refine V_block ?_ | refine V_skip ?_ | refine V_ret ?_ | refine V_exit ?_) | ((with_reducible refine V_cond ?_); simp only [go_sem, simprocAttr]) | ((first | refine V_region (by rw [hn]; rfl) ?_ | refine V_drawn hmix (by rw [hn]; rfl) ?_); intro K hK) | ((first | with_reducible refine evOps_n ?_ | ((with_reducible apply evOps_g); rfl) | with_reducible refine evOpsD_n ?_ | ((with_reducible apply evOpsD_g); rfl)); intro K hK; simp (contextual := true) only [go_sem, simprocAttr]) | with_reducible refine evOps_nil ?_ | ((with_reducible refine evOpsD_nil ?_ ?_); kernel_rfl) | ((with_reducible refine hK _ ?_); clear hK K) | (with_reducible first | refine And.intro ?_ ?_ | refine nxt_n ?_ | refine nxt_r ?_ | refine nxt_e ?_ | refine blk_n ?_ | refine blk_r ?_ | refine blk_same ?_ | refine blk_other (by decide) ?_ | refine noG_n ?_ | refine noG_r ?_ | refine noG_e ?_ | refine inR_mk ?_ ?_) | (refine fun (hc : (_ : Bool) = _) => ?_; try simp only [hcS] at hc))
        all_goals try exact om_
        · (first | refine ret_auto ?_ | refine ret_auto' ?_); simp only [go_sem, simprocAttr, Tryz.f51]
    · exact sp_l06Search_no sc.toShape sd.toShape (by omega) hF hR
end Go.Eng
end
section
namespace Go.Eng
open Go Go.Proofs Go.Cats
noncomputable def funL (c d : Cat) : List Fun := (funX c d false c.ob.toNat []).take 201
theorem cal_l06All : Callable Tryz.prog 32 := ⟨_, Tryz.func32, rfl, rfl⟩
theorem sp_l06All {c d : Cat} (sc : IsCat c) (sd : IsCat d) (bc : CatB c) (bd : CatB d) : Spec Tryz.prog 32 [catV c, catV d] [] (.sl 0) [(0, ⟨1, .arr (funsD (funL c d))⟩)] := by
  refine spec_of_V (E := TE) 0 Tryz.func32 rfl (by simp [Tryz.f32]) fun X hn hX => ?_
  have c0 := sc.toShape.ob0
  have hse := sp_l06Search_n sc sd bc bd c.ob.toNat [] [] (by simp; omega) (fun i hi => absurd hi (Nat.not_lt_zero i)) (by decide)
  rw [List.nil_append, show (funX c d false c.ob.toNat []).take 201 = funL c d from rfl] at hse
  repeat' (first | (with_reducible first | refine V_seq ?_ | refine V_skip ?_ | refine V_ret ?_) | ((with_reducible refine V_cond ?_); simp only [go_sem, simprocAttr]) | ((refine V_region (by rw [hn]; rfl) ?_); intro K hK) | ((first | with_reducible refine evOps_n ?_ | ((with_reducible apply evOps_g); rfl)); intro K hK; simp (contextual := true) only [go_sem, simprocAttr]) | with_reducible refine evOps_nil ?_ | ((with_reducible refine hK _ ?_); clear hK K) | (with_reducible first | refine And.intro ?_ ?_ | refine nxt_n ?_ | refine nxt_r ?_ | refine inR_mk ?_ ?_) | ((with_reducible refine evCall_at 51 ?_); refine EvCall.mk (hse) cal_l06Search [(0,3),(1,4)] [2] (by simp [go_sem] <;> (repeat' (first | rfl | constructor))) (by simp [go_sem] <;> (repeat' (first | rfl | constructor))) ?_; all_goals try simp only [go_sem, simprocAttr]) | (refine fun (hc : (_ : Bool) = _) => ?_; try simp only [hcS] at hc))
  all_goals try exact om_
  · (first | refine ret_auto ?_ | refine ret_auto' ?_); simp only [go_sem, simprocAttr, Tryz.f32]
def movL (c : Cat) (f : Nat) : List Int := ((List.range f).filter fun f => !decide (c.id.getD (c.fr.getD f 0).toNat 0 = f)).map fun f : Nat => (f : Int)
theorem movL_zero (c : Cat) : movL c 0 = [] := rfl
theorem movL_unit {c : Cat} {f : Nat} (h : c.id.getD (c.fr.getD f 0).toNat 0 = f) : movL c (f + 1) = movL c f := by
  unfold movL
  rw [List.range_succ, List.filter_append, List.filter_cons_of_neg (by rw [decide_eq_true h]; decide), List.filter_nil, List.append_nil]
theorem movL_move {c : Cat} {f : Nat} (h : ¬ c.id.getD (c.fr.getD f 0).toNat 0 = f) : movL c (f + 1) = movL c f ++ [(f : Int)] := by
  unfold movL
  rw [List.range_succ, List.filter_append, List.filter_cons_of_pos (by rw [decide_eq_false h]; decide), List.filter_nil, List.map_append]
  rfl
theorem movL_le (c : Cat) (f : Nat) : (movL c f).length ≤ f := by
  unfold movL
  rw [List.length_map]
  exact Nat.le_trans (List.length_filter_le _ _) (by rw [List.length_range]; exact Nat.le_refl _)
attribute [local go_sem] movL_zero
theorem cal_l02Unit : Callable Tryz.prog 71 := ⟨_, Tryz.func71, rfl, rfl⟩
theorem sp_l02Unit {c : Cat} {f : Nat} (hs : Shape c) (hf : f < c.fr.length) : Spec Tryz.prog 71 [catV c, iv f] [] (bv (decide (c.id.getD (c.fr.getD f 0).toNat 0 = f))) [] := by
  refine spec_of_V (E := TE) 0 Tryz.func71 rfl (by simp [Tryz.f71]) fun X hn hX => ?_
  have f1 := hs.frw f hf
  have f2 := hs.idl
  repeat' (first | (with_reducible first | refine V_seq ?_ | refine V_skip ?_ | refine V_ret ?_) | ((with_reducible refine V_cond ?_); simp only [go_sem, simprocAttr]) | ((first | refine V_region (by rw [hn]; rfl) ?_ | refine V_drawn hmix (by rw [hn]; rfl) ?_); intro K hK) | ((first | with_reducible refine evOps_n ?_ | ((with_reducible apply evOps_g); rfl) | with_reducible refine evOpsD_n ?_ | ((with_reducible apply evOpsD_g); rfl)); intro K hK; simp (contextual := true) only [go_sem, simprocAttr]) | with_reducible refine evOps_nil ?_ | ((with_reducible refine evOpsD_nil ?_ ?_); kernel_rfl) | ((with_reducible refine hK _ ?_); clear hK K) | (with_reducible first | refine And.intro ?_ ?_ | refine nxt_n ?_ | refine nxt_r ?_ | refine inR_mk ?_ ?_) | (refine fun (hc : (_ : Bool) = _) => ?_; try simp only [hcS] at hc))
  all_goals try exact om_
  · (first | refine ret_auto ?_ | refine ret_auto' ?_); simp only [go_sem, simprocAttr, Tryz.f71]
theorem cal_l06Moving : Callable Tryz.prog 50 := ⟨_, Tryz.func50, rfl, rfl⟩
theorem sp_l06Moving {c : Cat} (sc : Shape c) : Spec Tryz.prog 50 [catV c] [] (.sl 0) [(0, ⟨1, .arr (ints (movL c c.fr.length))⟩)] := by
  refine spec_of_V (E := TE) 0 Tryz.func50 rfl (by simp [Tryz.f50]) fun X hn hX => ?_
  have m40 := sc.m40
  repeat' (first | (with_reducible first | refine V_seq ?_ | refine V_block ?_ | refine V_skip ?_ | refine V_ret ?_ | refine V_exit ?_) | ((with_reducible refine V_cond ?_); simp only [go_sem, simprocAttr]) | ((refine V_region (by rw [hn]; rfl) ?_); intro K hK) | ((first | with_reducible refine evOps_n ?_ | ((with_reducible apply evOps_g); rfl)); intro K hK; simp (contextual := true) only [go_sem, simprocAttr]) | with_reducible refine evOps_nil ?_ | ((with_reducible refine hK _ ?_); clear hK K) | (with_reducible first | refine And.intro ?_ ?_ | refine nxt_n ?_ | refine nxt_r ?_ | refine nxt_e ?_ | refine blk_n ?_ | refine blk_r ?_ | refine blk_same ?_ | refine blk_other (by decide) ?_ | refine noG_n ?_ | refine noG_r ?_ | refine noG_e ?_ | refine inR_mk ?_ ?_) | (refine fun (hc : (_ : Bool) = _) => ?_; try simp only [hcS] at hc))
  all_goals try exact om_
  refine V_loopK (G := {f : Nat // f ≤ c.fr.length ∧ (True)}) (fun ⟨f, _⟩ => [(4, iv f), (3, .sl 1)]) [1, 2] (fun ⟨f, _⟩ => [(1, ⟨1, .arr (ints (movL c f))⟩)]) [1] (fun zz => c.fr.length - zz.1) ⟨0, Nat.zero_le _, by first | trivial | simp⟩ ?_ ?_
  · exact Imp.au hX
  rintro ⟨f, hif, hwf⟩
  simp only [go_sem, simprocAttr]
  have ml := movL_le c f
  rcases Nat.lt_or_ge f c.fr.length with hlt | hge
  · have hu := sp_l02Unit sc hlt
    by_cases h : c.id.getD (c.fr.getD f 0).toNat 0 = f
    · have e1 := movL_unit h
      rw [decide_eq_true h] at hu
      repeat' (first | (with_reducible first | refine V_seq ?_ | refine V_block ?_ | refine V_skip ?_ | refine V_ret ?_ | refine V_exit ?_) | ((with_reducible refine V_cond ?_); simp only [go_sem, simprocAttr]) | ((refine V_region (by rw [hn]; rfl) ?_); intro K hK) | ((first | with_reducible refine evOps_n ?_ | ((with_reducible apply evOps_g); rfl)); intro K hK; simp (contextual := true) only [go_sem, simprocAttr]) | with_reducible refine evOps_nil ?_ | ((with_reducible refine hK _ ?_); clear hK K) | (with_reducible first | refine And.intro ?_ ?_ | refine nxt_n ?_ | refine nxt_r ?_ | refine nxt_e ?_ | refine blk_n ?_ | refine blk_r ?_ | refine blk_same ?_ | refine blk_other (by decide) ?_ | refine noG_n ?_ | refine noG_r ?_ | refine noG_e ?_ | refine inR_mk ?_ ?_) | ((with_reducible refine evCall_at 71 ?_); refine EvCall.mk (hu) cal_l02Unit [] [] (by simp [go_sem] <;> (repeat' (first | rfl | constructor))) (by simp [go_sem] <;> (repeat' (first | rfl | constructor))) ?_; all_goals try simp only [go_sem, simprocAttr]) | (refine fun (hc : (_ : Bool) = _) => ?_; try simp only [hcS] at hc))
      all_goals try exact om_
      · refine ⟨⟨f + 1, by omega, (by trivial)⟩, by simp only; omega, Imp.auto hX (by simp only [go_sem, simprocAttr, e1])⟩
    · have e1 := movL_move h
      rw [decide_eq_false h] at hu
      repeat' (first | (with_reducible first | refine V_seq ?_ | refine V_block ?_ | refine V_skip ?_ | refine V_ret ?_ | refine V_exit ?_) | ((with_reducible refine V_cond ?_); simp only [go_sem, simprocAttr]) | ((refine V_region (by rw [hn]; rfl) ?_); intro K hK) | ((first | with_reducible refine evOps_n ?_ | ((with_reducible apply evOps_g); rfl)); intro K hK; simp (contextual := true) only [go_sem, simprocAttr]) | with_reducible refine evOps_nil ?_ | ((with_reducible refine hK _ ?_); clear hK K) | (with_reducible first | refine And.intro ?_ ?_ | refine nxt_n ?_ | refine nxt_r ?_ | refine nxt_e ?_ | refine blk_n ?_ | refine blk_r ?_ | refine blk_same ?_ | refine blk_other (by decide) ?_ | refine noG_n ?_ | refine noG_r ?_ | refine noG_e ?_ | refine inR_mk ?_ ?_) | ((with_reducible refine evCall_at 71 ?_); refine EvCall.mk (hu) cal_l02Unit [] [] (by simp [go_sem] <;> (repeat' (first | rfl | constructor))) (by simp [go_sem] <;> (repeat' (first | rfl | constructor))) ?_; all_goals try simp only [go_sem, simprocAttr]) | (refine fun (hc : (_ : Bool) = _) => ?_; try simp only [hcS] at hc))
      all_goals try exact om_
      · refine ⟨⟨f + 1, by omega, (by trivial)⟩, by simp only; omega, Imp.auto hX (by simp only [go_sem, simprocAttr, e1])⟩
  · have ef : f = c.fr.length := by omega
    subst ef
    repeat' (first | (with_reducible first | refine V_seq ?_ | refine V_block ?_ | refine V_skip ?_ | refine V_ret ?_ | refine V_exit ?_) | ((with_reducible refine V_cond ?_); simp only [go_sem, simprocAttr]) | ((refine V_region (by rw [hn]; rfl) ?_); intro K hK) | ((first | with_reducible refine evOps_n ?_ | ((with_reducible apply evOps_g); rfl)); intro K hK; simp (contextual := true) only [go_sem, simprocAttr]) | with_reducible refine evOps_nil ?_ | ((with_reducible refine hK _ ?_); clear hK K) | (with_reducible first | refine And.intro ?_ ?_ | refine nxt_n ?_ | refine nxt_r ?_ | refine nxt_e ?_ | refine blk_n ?_ | refine blk_r ?_ | refine blk_same ?_ | refine blk_other (by decide) ?_ | refine noG_n ?_ | refine noG_r ?_ | refine noG_e ?_ | refine inR_mk ?_ ?_) | (refine fun (hc : (_ : Bool) = _) => ?_; try simp only [hcS] at hc))
    all_goals try exact om_
    · (first | refine ret_auto ?_ | refine ret_auto' ?_); simp only [go_sem, simprocAttr, Tryz.f50]
end Go.Eng
end
section
namespace Go.Eng
open Go Go.Proofs Go.Cats
theorem perm_len {α : Type} {A B : List α} (h1 : A.Nodup) (h2 : B.Nodup) (h : ∀ x, x ∈ A ↔ x ∈ B) : A.length = B.length := ((List.perm_ext_iff_of_nodup h1 h2).2 h).length_eq
theorem len_split (p : Nat → Bool) : ∀ l : List Nat, l.length = (l.filter p).length + (l.filter fun x => !p x).length
  | [] => rfl
  | a :: l => by
    have := len_split p l
    cases h : p a
    · rw [List.filter_cons_of_neg (by rw [h]; decide), List.filter_cons_of_pos (by rw [h]; rfl), List.length_cons, List.length_cons]; omega
    · rw [List.filter_cons_of_pos h, List.filter_cons_of_neg (by rw [h]; decide), List.length_cons, List.length_cons]; omega
theorem movL_len {c : Cat} (sc : Shape c) : ((movL c c.fr.length).length : Int) = c.fr.length - c.ob := by
  have c0 := sc.ob0
  have cil := sc.idl
  have e1 : ((List.range c.fr.length).filter fun f => decide (c.id.getD (c.fr.getD f 0).toNat 0 = f)).length = ((List.range c.id.length).map fun x => (c.id.getD x 0).toNat).length := by
    refine perm_len (List.nodup_range.filter _) ?_ fun f => ?_
    · refine List.Pairwise.map _ (R := fun a b => a < c.id.length ∧ b < c.id.length ∧ a ≠ b) ?_ ?_
      · rintro a b ⟨ha, hb, hn⟩ e
        have h1 := id_ok sc ha
        have h2 := id_ok sc hb
        rw [e] at h1
        have := h1.2.2.1
        have := h2.2.2.1
        omega
      · exact (List.nodup_range (n := c.id.length)).imp_of_mem fun ha hb hn => ⟨List.mem_range.1 ha, List.mem_range.1 hb, hn⟩
    · rw [List.mem_filter, List.mem_range, List.mem_map, decide_eq_true_iff]
      constructor
      · rintro ⟨hf, he⟩
        have f1 := sc.frw f hf
        exact ⟨(c.fr.getD f 0).toNat, List.mem_range.2 (by omega), by omega⟩
      · rintro ⟨x, hx, rfl⟩
        have h1 := id_ok sc (List.mem_range.1 hx)
        exact ⟨h1.1, by rw [h1.2.2.1, Int.toNat_natCast]; omega⟩
  rw [List.length_map, List.length_range] at e1
  have e2 := len_split (fun f => decide (c.id.getD (c.fr.getD f 0).toNat 0 = f)) (List.range c.fr.length)
  rw [List.length_range] at e2
  unfold movL
  rw [List.length_map]
  omega
def MovP (c d : Cat) : Prop := (c.fr.length : Int) - c.ob ≤ 8 ∧ d.fr.length ≤ 16
theorem cal_l06Small : Callable Tryz.prog 31 := ⟨_, Tryz.func31, rfl, rfl⟩
theorem sp_l06Small {c d : Cat} (sc : Shape c) (sd : Shape d) : Spec Tryz.prog 31 [catV c, catV d] [] (bv (dec (MovP c d))) [] := by
  refine spec_of_V (E := TE) 0 Tryz.func31 rfl (by simp [Tryz.f31]) fun X hn hX => ?_
  have m40 := sc.m40
  have n40 := sd.m40
  have hl := movL_len sc
  have hmo := sp_l06Moving sc
  generalize movL c c.fr.length = L at hl hmo
  by_cases h1 : (L.length : Int) ≤ 8
  · by_cases h2 : (d.fr.length : Int) ≤ 16
    · rw [show dec (MovP c d) = true from dec_t ⟨by omega, by omega⟩]
      repeat' (first | (with_reducible first | refine V_seq ?_ | refine V_skip ?_ | refine V_ret ?_) | ((with_reducible refine V_cond ?_); simp only [go_sem, simprocAttr]) | ((refine V_region (by rw [hn]; rfl) ?_); intro K hK) | ((first | with_reducible refine evOps_n ?_ | ((with_reducible apply evOps_g); rfl)); intro K hK; simp (contextual := true) only [go_sem, simprocAttr]) | with_reducible refine evOps_nil ?_ | ((with_reducible refine hK _ ?_); clear hK K) | (with_reducible first | refine And.intro ?_ ?_ | refine nxt_n ?_ | refine nxt_r ?_ | refine inR_mk ?_ ?_) | ((with_reducible refine evCall_at 50 ?_); refine EvCall.mk (hmo) cal_l06Moving [(0,2)] [] (by simp [go_sem] <;> (repeat' (first | rfl | constructor))) (by simp [go_sem] <;> (repeat' (first | rfl | constructor))) ?_; all_goals try simp only [go_sem, simprocAttr]) | (refine fun (hc : (_ : Bool) = _) => ?_; try simp only [hcS] at hc))
      all_goals try exact om_
      · (first | refine ret_auto ?_ | refine ret_auto' ?_); simp only [go_sem, simprocAttr, Tryz.f31]
        exact congrArg (fun b => Sv.v (Value.bool b)) (decide_eq_true h2)
    · rw [show dec (MovP c d) = false from dec_f fun h => by have := h.2; omega]
      repeat' (first | (with_reducible first | refine V_seq ?_ | refine V_skip ?_ | refine V_ret ?_) | ((with_reducible refine V_cond ?_); simp only [go_sem, simprocAttr]) | ((refine V_region (by rw [hn]; rfl) ?_); intro K hK) | ((first | with_reducible refine evOps_n ?_ | ((with_reducible apply evOps_g); rfl)); intro K hK; simp (contextual := true) only [go_sem, simprocAttr]) | with_reducible refine evOps_nil ?_ | ((with_reducible refine hK _ ?_); clear hK K) | (with_reducible first | refine And.intro ?_ ?_ | refine nxt_n ?_ | refine nxt_r ?_ | refine inR_mk ?_ ?_) | ((with_reducible refine evCall_at 50 ?_); refine EvCall.mk (hmo) cal_l06Moving [(0,2)] [] (by simp [go_sem] <;> (repeat' (first | rfl | constructor))) (by simp [go_sem] <;> (repeat' (first | rfl | constructor))) ?_; all_goals try simp only [go_sem, simprocAttr]) | (refine fun (hc : (_ : Bool) = _) => ?_; try simp only [hcS] at hc))
      all_goals try exact om_
      · (first | refine ret_auto ?_ | refine ret_auto' ?_); simp only [go_sem, simprocAttr, Tryz.f31]
        exact congrArg (fun b => Sv.v (Value.bool b)) (decide_eq_false h2)
  · rw [show dec (MovP c d) = false from dec_f fun h => by have := h.1; omega]
    repeat' (first | (with_reducible first | refine V_seq ?_ | refine V_skip ?_ | refine V_ret ?_) | ((with_reducible refine V_cond ?_); simp only [go_sem, simprocAttr]) | ((refine V_region (by rw [hn]; rfl) ?_); intro K hK) | ((first | with_reducible refine evOps_n ?_ | ((with_reducible apply evOps_g); rfl)); intro K hK; simp (contextual := true) only [go_sem, simprocAttr]) | with_reducible refine evOps_nil ?_ | ((with_reducible refine hK _ ?_); clear hK K) | (with_reducible first | refine And.intro ?_ ?_ | refine nxt_n ?_ | refine nxt_r ?_ | refine inR_mk ?_ ?_) | ((with_reducible refine evCall_at 50 ?_); refine EvCall.mk (hmo) cal_l06Moving [(0,2)] [] (by simp [go_sem] <;> (repeat' (first | rfl | constructor))) (by simp [go_sem] <;> (repeat' (first | rfl | constructor))) ?_; all_goals try simp only [go_sem, simprocAttr]) | (refine fun (hc : (_ : Bool) = _) => ?_; try simp only [hcS] at hc))
    all_goals try exact om_
    · (first | refine ret_auto ?_ | refine ret_auto' ?_); simp only [go_sem, simprocAttr, Tryz.f31]
theorem cal_movable : Callable Tryz.prog 42 := ⟨_, Tryz.func42, rfl, rfl⟩
theorem sp_movable {c d : Cat} (bc : CatB c) (bd : CatB d) (sc : Shape c) (sd : Shape d) : Spec Tryz.prog 42 [.bptr [] (catD c), .bptr [] (catD d)] [] (bv (dec (MovP c d))) [] := by
  refine spec_of_V (E := TE) 0 Tryz.func42 rfl (by simp [Tryz.f42]) fun X hn hX => ?_
  have m40 := sc.m40
  have n40 := sd.m40
  have c0 := sc.ob0
  have c8 := sc.ob8
  have d0 := sd.ob0
  by_cases h1 : (c.fr.length : Int) - c.ob ≤ 8
  · by_cases h2 : (d.fr.length : Int) ≤ 16
    · rw [show dec (MovP c d) = true from dec_t ⟨by omega, by omega⟩]
      repeat' (first | (with_reducible first | refine V_seq ?_ | refine V_skip ?_ | refine V_ret ?_) | ((with_reducible refine V_cond ?_); simp only [go_sem, simprocAttr]) | ((first | refine V_region (by rw [hn]; rfl) ?_ | refine V_drawn hmix (by rw [hn]; rfl) ?_); intro K hK) | ((first | with_reducible refine evOps_n ?_ | ((with_reducible apply evOps_g); rfl) | with_reducible refine evOpsD_n ?_ | ((with_reducible apply evOpsD_g); rfl)); intro K hK; simp (contextual := true) only [go_sem, simprocAttr]) | with_reducible refine evOps_nil ?_ | ((with_reducible refine evOpsD_nil ?_ ?_); kernel_rfl) | ((with_reducible refine hK _ ?_); clear hK K) | (with_reducible first | refine And.intro ?_ ?_ | refine nxt_n ?_ | refine nxt_r ?_ | refine inR_mk ?_ ?_) | ((with_reducible refine evCall_at 56 ?_); refine EvCall.rq (a := (sp_Category_arrows)) (b := cal_Category_arrows) (c := ?_); all_goals try simp only [go_sem, simprocAttr]) | (refine fun (hc : (_ : Bool) = _) => ?_; try simp only [hcS] at hc))
      all_goals try exact om_
      · (first | refine ret_auto ?_ | refine ret_auto' ?_); simp only [go_sem, simprocAttr, Tryz.f42]
        exact congrArg (fun b => Sv.v (Value.bool b)) (decide_eq_true h2)
    · rw [show dec (MovP c d) = false from dec_f fun h => by have := h.2; omega]
      repeat' (first | (with_reducible first | refine V_seq ?_ | refine V_skip ?_ | refine V_ret ?_) | ((with_reducible refine V_cond ?_); simp only [go_sem, simprocAttr]) | ((first | refine V_region (by rw [hn]; rfl) ?_ | refine V_drawn hmix (by rw [hn]; rfl) ?_); intro K hK) | ((first | with_reducible refine evOps_n ?_ | ((with_reducible apply evOps_g); rfl) | with_reducible refine evOpsD_n ?_ | ((with_reducible apply evOpsD_g); rfl)); intro K hK; simp (contextual := true) only [go_sem, simprocAttr]) | with_reducible refine evOps_nil ?_ | ((with_reducible refine evOpsD_nil ?_ ?_); kernel_rfl) | ((with_reducible refine hK _ ?_); clear hK K) | (with_reducible first | refine And.intro ?_ ?_ | refine nxt_n ?_ | refine nxt_r ?_ | refine inR_mk ?_ ?_) | ((with_reducible refine evCall_at 56 ?_); refine EvCall.rq (a := (sp_Category_arrows)) (b := cal_Category_arrows) (c := ?_); all_goals try simp only [go_sem, simprocAttr]) | (refine fun (hc : (_ : Bool) = _) => ?_; try simp only [hcS] at hc))
      all_goals try exact om_
      · (first | refine ret_auto ?_ | refine ret_auto' ?_); simp only [go_sem, simprocAttr, Tryz.f42]
        exact congrArg (fun b => Sv.v (Value.bool b)) (decide_eq_false h2)
  · rw [show dec (MovP c d) = false from dec_f fun h => by have := h.1; omega]
    repeat' (first | (with_reducible first | refine V_seq ?_ | refine V_skip ?_ | refine V_ret ?_) | ((with_reducible refine V_cond ?_); simp only [go_sem, simprocAttr]) | ((first | refine V_region (by rw [hn]; rfl) ?_ | refine V_drawn hmix (by rw [hn]; rfl) ?_); intro K hK) | ((first | with_reducible refine evOps_n ?_ | ((with_reducible apply evOps_g); rfl) | with_reducible refine evOpsD_n ?_ | ((with_reducible apply evOpsD_g); rfl)); intro K hK; simp (contextual := true) only [go_sem, simprocAttr]) | with_reducible refine evOps_nil ?_ | ((with_reducible refine evOpsD_nil ?_ ?_); kernel_rfl) | ((with_reducible refine hK _ ?_); clear hK K) | (with_reducible first | refine And.intro ?_ ?_ | refine nxt_n ?_ | refine nxt_r ?_ | refine inR_mk ?_ ?_) | ((with_reducible refine evCall_at 56 ?_); refine EvCall.rq (a := (sp_Category_arrows)) (b := cal_Category_arrows) (c := ?_); all_goals try simp only [go_sem, simprocAttr]) | (refine fun (hc : (_ : Bool) = _) => ?_; try simp only [hcS] at hc))
    all_goals try exact om_
    · (first | refine ret_auto ?_ | refine ret_auto' ?_); simp only [go_sem, simprocAttr, Tryz.f42]
end Go.Eng
end
