/- Right extensions by the program. -/
import Derived.Test.YtjdjkmgjgghodaaGreatKmx
import Derived.Test.YtjdjkmgjgghodaaGreatKdx
import Derived.Test.YtjdjkmgjgghodaaGreatKex
import Derived.Test.YtjdjkmgjgghodaaGreatC18q
import Derived.Test.YtjdjkmgjgghodaaGreatB12q
set_option linter.unusedSimpArgs false
set_option linter.unusedVariables false
set_option maxRecDepth 100000
set_option maxHeartbeats 16000000
namespace Go.Eng
open Go Go.Proofs Go.Cats
noncomputable def rAtD (k : Fun) (f : SF) (y : Int) : List Dt := [intss (exT k y), mapD Tryz.prog 9 2 (exT k y).length (pm (exT k y) (exT k y).length), intss (exL k f y), mapD Tryz.prog 9 2 (exL k f y).length (pm (exL k f y) (exL k f y).length)]
noncomputable def rAts (k : Fun) (f : SF) (n : Nat) : List Dt := (List.range n).map fun y : Nat => ptD (rAtD k f y)
section
variable {k : Fun} {f : SF} {y : Int} {n : Nat}
@[go_sem] theorem rAtD_0 : (rAtD k f y).take 1 = [intss (exT k y)] := rfl
@[go_sem] theorem rAtD_1 : ((rAtD k f y).drop 1).take 1 = [mapD Tryz.prog 9 2 (exT k y).length (pm (exT k y) (exT k y).length)] := rfl
@[go_sem] theorem rAtD_2 : ((rAtD k f y).drop 2).take 1 = [intss (exL k f y)] := rfl
@[go_sem] theorem rAtD_3 : ((rAtD k f y).drop 3).take 1 = [mapD Tryz.prog 9 2 (exL k f y).length (pm (exL k f y) (exL k f y).length)] := rfl
@[go_sem] theorem rAtD_l : (rAtD k f y).length = 4 := rfl
@[go_sem] theorem rAtD_a : (rAtD k f y).take 4 = rAtD k f y := rfl
theorem rAts_zero : rAts k f 0 = [] := rfl
theorem rAts_succ : rAts k f (n + 1) = rAts k f n ++ [ptD (rAtD k f n)] := by unfold rAts; rw [List.range_succ, List.map_append]; rfl
theorem rAts_len : (rAts k f n).length = n := by simp [rAts]
theorem rAts_at {i : Nat} (h : i < n) : (ptsD (rAts k f n)).at i = ptD (rAtD k f i) := by
  simp [ptsD, rAts, Dt.at, Dt.cells, List.getD_eq_getElem?_getD, h]
end
theorem one_nilSl5 : (Value.slice none 0 0).oneCell' = true := rfl
theorem pts_back (l : List Dt) : Dt.sl 1 (.v (.pointer none)) l = ptsD l := rfl
attribute [local go_sem] rAts_zero exSz_zero exAc_zero exRow_zero one_nilSl5 List.getD_cons_zero List.getD_cons_succ List.set_cons_zero List.set_cons_succ goneL
theorem keyOK_ex {k : Fun} {f : SF} {y : Int} (hk : IsFun k) (hf : IsSF f) (he : f.shape = k.src) : KeyOK (exL k f y) := ⟨fun r hr x hx => by
  obtain ⟨j, hj, e⟩ := mem_getD (d := 0) hx
  have := exL_val hk hf he hr hj
  omega, exL_nodup⟩
theorem cal_extendRight : Callable Tryz.prog 36 := ⟨_, Tryz.func36, rfl, rfl⟩
theorem sp_extendRight_yes {k : Fun} {f : SF} (hkb : FunB k) (hk : IsFun k) (hf : IsSF f) (he : f.shape = k.src) (hg : ∀ y : Nat, (y : Int) < k.tgt.ob → (exT k y).length ≤ 64 ∧ (exL k f y).length ≤ 16) : Spec Tryz.prog 36 [.bptr [] (funD k), .bptr [] (sfD f)] [] (.tup [.ptr 0 0, .v (.bool true)])
    [(0, ⟨1, .box [.bptr [] (funD k), iv k.tgt.ob, .sl 1, .sl 2, .sl 3, .sl 4, .sl 5, .sl 6, .sl 7]⟩), (1, ⟨1, .arr (ints k.tgt.fr)⟩), (2, ⟨1, .arr (ints k.tgt.to)⟩), (3, ⟨1, .arr (ints k.tgt.id)⟩), (4, ⟨1, .arr (intss k.tgt.co)⟩), (5, ⟨1, .arr (ints (exF k f).sizes)⟩), (6, ⟨1, .arr (intss (exF k f).acts)⟩), (7, ⟨1, .arr (ptsD (rAts k f k.tgt.ob.toNat))⟩)] := by
  refine spec_of_V (E := TE) 0 Tryz.func36 rfl (by simp [Tryz.f36]) fun X hn hX => ?_
  have ob0 := hk.tgt.ob0
  have ob8 := hk.tgt.ob8
  have m40 := hk.tgt.m40
  have tol := hk.tgt.tol
  have col := hk.tgt.col
  have coe := hk.tgt.coe
  have frw := hk.tgt.frw
  have tow := hk.tgt.tow
  have ktb := hkb.tgt
  repeat' (first | (with_reducible first | refine V_seq ?_ | refine V_block ?_ | refine V_skip ?_ | refine V_ret ?_ | refine V_exit ?_) | ((with_reducible refine V_cond ?_); simp only [go_sem, simprocAttr]) | ((first | refine V_region (by rw [hn]; rfl) ?_ | refine V_drawn hmix (by rw [hn]; rfl) ?_); intro K hK) | ((first | with_reducible refine evOps_n ?_ | ((with_reducible apply evOps_g); rfl) | with_reducible refine evOpsD_n ?_ | ((with_reducible apply evOpsD_g); rfl)); intro K hK; simp (contextual := true) only [go_sem, simprocAttr]) | with_reducible refine evOps_nil ?_ | ((with_reducible refine evOpsD_nil ?_ ?_); kernel_rfl) | ((with_reducible refine hK _ ?_); clear hK K) | (with_reducible first | refine And.intro ?_ ?_ | refine nxt_n ?_ | refine nxt_r ?_ | refine nxt_e ?_ | refine blk_n ?_ | refine blk_r ?_ | refine blk_same ?_ | refine blk_other (by decide) ?_ | refine noG_n ?_ | refine noG_r ?_ | refine noG_e ?_ | refine inR_mk ?_ ?_) | ((with_reducible refine evCall_at 65 ?_); refine EvCall.rq (a := (sp_Category_copy (c:=k.tgt) ?_)) (b := cal_Category_copy) (c := ?_); all_goals try simp only [go_sem, simprocAttr]) | (refine fun (hc : (_ : Bool) = _) => ?_; try simp only [hcS] at hc))
  all_goals try (first | (with_reducible assumption) | ((try simp only [Cat.F, Cat.T, Cat.I, Cat.C, Fun.O, Fun.A, Cat.Entry, Int.toNat_natCast] at *); omega))
  refine V_imp (Imp.adoptI 4 6 _ _ rfl rfl rfl (by rw [hX]; rfl)) ?_
  refine V_imp (Imp.adoptBs 4 7 _ _ rfl rfl rfl (by rw [hX]; rfl)) ?_
  refine V_imp (Imp.adoptPts 4 8 _ _ rfl rfl rfl (by rw [hX]; rfl)) ?_
  simp only [List.set_cons_zero, List.set_cons_succ]
  refine V_loopK (G := {y : Nat // y ≤ k.tgt.ob.toNat ∧ (True)}) (fun ⟨y, _⟩ => [(8, iv y), (7, .ptr 4 0)]) [0, 1, 6] (fun ⟨y, _⟩ => [(4, ⟨1, .box [.bptr [] (funD k), iv k.tgt.ob, .sl 0, .sl 1, .sl 2, .sl 3, .sl 5, .sl 6, .sl 7]⟩), (5, ⟨1, .arr (ints (exSz k f y))⟩), (7, ⟨1, .arr (ptsD (rAts k f y))⟩)]) [4, 5, 7] (fun zz => k.tgt.ob.toNat - zz.1) ⟨0, Nat.zero_le _, by first | trivial | simp⟩ ?_ ?_
  · exact Imp.auto hX (by simp [go_sem, simprocAttr])
  rintro ⟨y, hiy, hwy⟩
  simp only [go_sem, simprocAttr]
  rcases Nat.lt_or_ge y k.tgt.ob.toNat with hlt | hge
  · obtain ⟨g1, g2⟩ := hg y (by omega)
    have hrl := sp_rightLists_yes (y := (y : Int)) hk hf he g1
    have g2' : (rtL k f y).length ≤ 16 := g2
    rw [decide_eq_true g2', List.take_of_length_le (by omega)] at hrl
    have sp_rightLists_loc : Spec Tryz.prog 66 [.bptr [] (funD k), .bptr [] (sfD f), iv y] [] (.tup [.ptr 0 0, .v (.bool true)])
      [(0, ⟨1, .box [.sl 1, .sl 2, .sl 3, .sl 4]⟩), (1, ⟨1, .arr (intss (exT k y))⟩), (2, ⟨1, .arr (mapD Tryz.prog 9 2 (exT k y).length (pm (exT k y) (exT k y).length))⟩), (3, ⟨1, .arr (intss (exL k f y))⟩), (4, ⟨1, .arr (mapD Tryz.prog 9 2 (exL k f y).length (pm (exL k f y) (exL k f y).length))⟩)] := hrl
    have s1 := exSz_len (k := k) (f := f) (n := y)
    have s2 := rAts_len (k := k) (f := f) (n := y)
    have s3 := exSz_succ (k := k) (f := f) (n := y)
    have s4 := rAts_succ (k := k) (f := f) (n := y)
    repeat' (first | (refine V_ptClose (c := .region 9 _ _) 9 8 13 _ (rAtD k f y) [9, 10, 11, 12] rfl rfl (ownCells4 rfl rfl rfl rfl (by decide)) (by decide) (by decide) rfl ?_; intro x hx1; have hx2 := pts_ones1 hx1; simp only [go_sem, simprocAttr]) | (refine V_at 10 (Imp.trans (Imp.absorb 9 15 13 _ (.v (.pointer none)) (rAts k f y) [] (ptD (rAtD k f y)) rfl rfl (Nat.succ_le_succ (Nat.zero_le _)) rfl (by decide)) (Imp.ptOpen 9 _ _ rfl)) ?_; simp only [go_sem, simprocAttr, pts_back]) | (with_reducible first | refine V_seq ?_ | refine V_block ?_ | refine V_skip ?_ | refine V_ret ?_ | refine V_exit ?_) | ((with_reducible refine V_cond ?_); simp only [go_sem, simprocAttr]) | ((first | refine V_region (by rw [hn]; rfl) ?_ | refine V_drawn hmix (by rw [hn]; rfl) ?_); intro K hK) | ((first | with_reducible refine evOps_n ?_ | ((with_reducible apply evOps_g); rfl) | with_reducible refine evOpsD_n ?_ | ((with_reducible apply evOpsD_g); rfl)); intro K hK; simp (contextual := true) only [go_sem, simprocAttr]) | with_reducible refine evOps_nil ?_ | ((with_reducible refine evOpsD_nil ?_ ?_); kernel_rfl) | ((with_reducible refine hK _ ?_); clear hK K) | (with_reducible first | refine And.intro ?_ ?_ | refine nxt_n ?_ | refine nxt_r ?_ | refine nxt_e ?_ | refine blk_n ?_ | refine blk_r ?_ | refine blk_same ?_ | refine blk_other (by decide) ?_ | refine noG_n ?_ | refine noG_r ?_ | refine noG_e ?_ | refine inR_mk ?_ ?_) | ((with_reducible refine evCall_at 66 ?_); refine EvCall.rq (a := (sp_rightLists_loc)) (b := cal_rightLists) (c := ?_); all_goals try simp only [go_sem, simprocAttr]) | (refine fun (hc : (_ : Bool) = _) => ?_; try simp only [hcS] at hc))
    all_goals try (first | (with_reducible assumption) | ((try simp only [Cat.F, Cat.T, Cat.I, Cat.C, Fun.O, Fun.A, Cat.Entry, Int.toNat_natCast] at *); omega))
    · refine ⟨⟨y + 1, by omega, (by trivial)⟩, by simp only; omega, Imp.auto hX (by simp only [go_sem, simprocAttr, s3, s4])⟩
  · have e1 : y = k.tgt.ob.toNat := by omega
    subst e1
    obtain ⟨A, hA⟩ : ∃ A, rAts k f k.tgt.ob.toNat = A := ⟨_, rfl⟩
    have hAt : ∀ i : Nat, (i : Int) < k.tgt.ob → (ptsD A).at i = ptD (rAtD k f i) := fun i hi => by rw [← hA]; exact rAts_at (by omega)
    have hAl : A.length = k.tgt.ob.toNat := by rw [← hA]; exact rAts_len
    have hZ : (exF k f).sizes = exSz k f k.tgt.ob.toNat := rfl
    have hC : (exF k f).acts = exAc k f k.tgt.fr.length := rfl
    rw [hA, hZ, hC]
    repeat' (first | (with_reducible first | refine V_seq ?_ | refine V_block ?_ | refine V_skip ?_ | refine V_ret ?_ | refine V_exit ?_) | ((with_reducible refine V_cond ?_); simp only [go_sem, simprocAttr]) | ((first | refine V_region (by rw [hn]; rfl) ?_ | refine V_drawn hmix (by rw [hn]; rfl) ?_); intro K hK) | ((first | with_reducible refine evOps_n ?_ | ((with_reducible apply evOps_g); rfl) | with_reducible refine evOpsD_n ?_ | ((with_reducible apply evOpsD_g); rfl)); intro K hK; simp (contextual := true) only [go_sem, simprocAttr]) | with_reducible refine evOps_nil ?_ | ((with_reducible refine evOpsD_nil ?_ ?_); kernel_rfl) | ((with_reducible refine hK _ ?_); clear hK K) | (with_reducible first | refine And.intro ?_ ?_ | refine nxt_n ?_ | refine nxt_r ?_ | refine nxt_e ?_ | refine blk_n ?_ | refine blk_r ?_ | refine blk_same ?_ | refine blk_other (by decide) ?_ | refine noG_n ?_ | refine noG_r ?_ | refine noG_e ?_ | refine inR_mk ?_ ?_) | (refine fun (hc : (_ : Bool) = _) => ?_; try simp only [hcS] at hc))
    all_goals try (first | (with_reducible assumption) | ((try simp only [Cat.F, Cat.T, Cat.I, Cat.C, Fun.O, Fun.A, Cat.Entry, Int.toNat_natCast] at *); omega))
    refine V_loopK (G := {b : Nat // b ≤ k.tgt.fr.length ∧ (True)}) (fun ⟨b, _⟩ => [(77, iv b), (7, .ptr 4 0)]) [4, 5, 6, 76] (fun ⟨b, _⟩ => [(4, ⟨1, .box [.bptr [] (funD k), iv k.tgt.ob, .sl 0, .sl 1, .sl 2, .sl 3, .sl 5, .sl 6, .sl 7]⟩), (6, ⟨1, .arr (intss (exAc k f b))⟩)]) [4, 6] (fun zz => k.tgt.fr.length - zz.1) ⟨0, Nat.zero_le _, by first | trivial | simp⟩ ?_ ?_
    · exact Imp.auto hX (by simp [go_sem, simprocAttr])
    rintro ⟨b, hib, hwb⟩
    simp only [go_sem, simprocAttr]
    rcases Nat.lt_or_ge b k.tgt.fr.length with hlt2 | hge2
    · have f1 := frw b hlt2
      have f2 := tow b (by omega)
      have cb := (coe b hlt2).1
      obtain ⟨y1, hy1⟩ : ∃ y1 : Nat, k.tgt.fr.getD b 0 = y1 := ⟨_, (Int.toNat_of_nonneg f1.1).symm⟩
      obtain ⟨y2, hy2⟩ : ∃ y2 : Nat, k.tgt.to.getD b 0 = y2 := ⟨_, (Int.toNat_of_nonneg f2.1).symm⟩
      have ra1 := hAt y1 (by omega)
      have ra2 := hAt y2 (by omega)
      obtain ⟨g1, g2⟩ := hg y1 (by omega)
      obtain ⟨g3, g4⟩ := hg y2 (by omega)
      have xl := exAc_len (k := k) (f := f) (n := b)
      have xs1 := exAc_succ (k := k) (f := f) (n := b)
      rw [hy1] at xs1
      repeat' (first | (rw [hy1]) | (rw [hy2]) | (rw [ra1]) | (rw [ra2]) | (refine V_at 15 (Imp.trans (Imp.ptOpen 12 _ _ rfl) (Imp.ptOpen 13 _ _ rfl)) ?_; simp only [go_sem, simprocAttr]) | (with_reducible first | refine V_seq ?_ | refine V_block ?_ | refine V_skip ?_ | refine V_ret ?_ | refine V_exit ?_) | ((with_reducible refine V_cond ?_); simp only [go_sem, simprocAttr]) | ((first | refine V_region (by rw [hn]; rfl) ?_ | refine V_drawn hmix (by rw [hn]; rfl) ?_); intro K hK) | ((first | with_reducible refine evOps_n ?_ | ((with_reducible apply evOps_g); rfl) | with_reducible refine evOpsD_n ?_ | ((with_reducible apply evOpsD_g); rfl)); intro K hK; simp (contextual := true) only [go_sem, simprocAttr]) | with_reducible refine evOps_nil ?_ | ((with_reducible refine evOpsD_nil ?_ ?_); kernel_rfl) | ((with_reducible refine hK _ ?_); clear hK K) | (with_reducible first | refine And.intro ?_ ?_ | refine nxt_n ?_ | refine nxt_r ?_ | refine nxt_e ?_ | refine blk_n ?_ | refine blk_r ?_ | refine blk_same ?_ | refine blk_other (by decide) ?_ | refine noG_n ?_ | refine noG_r ?_ | refine noG_e ?_ | refine inR_mk ?_ ?_) | (refine fun (hc : (_ : Bool) = _) => ?_; try simp only [hcS] at hc))
      all_goals try (first | (with_reducible assumption) | ((try simp only [Cat.F, Cat.T, Cat.I, Cat.C, Fun.O, Fun.A, Cat.Entry, Int.toNat_natCast] at *); omega))
      refine V_loopK (G := {i : Nat // i ≤ (exL k f y1).length ∧ (True)}) (fun ⟨i, _⟩ => [(112, iv i), (14, .sl 8)]) [4, 5, 6, 7, 11, 12, 13, 76, 77, 110, 111] (fun ⟨i, _⟩ => [(8, ⟨1, .arr (ints (exRow k f b i))⟩)]) [8] (fun zz => (exL k f y1).length - zz.1) ⟨0, Nat.zero_le _, by first | trivial | simp⟩ ?_ ?_
      · exact Imp.auto hX (by simp [go_sem, simprocAttr])
      rintro ⟨i, hii, hwi⟩
      simp only [go_sem, simprocAttr]
      rcases Nat.lt_or_ge i (exL k f y1).length with hlt3 | hge3
      · obtain ⟨t, ht⟩ : ∃ t, (exL k f y1).getD i [] = t := ⟨_, rfl⟩
        have htm : t ∈ exL k f y1 := by rw [← ht]; exact memL_getD hlt3
        have tl := exL_len htm
        have rs1 := exRow_succ (k := k) (f := f) (b := b) (n := i) (by rw [hy1]; exact hlt3)
        have rl := exRow_len (k := k) (f := f) (b := b) (n := i)
        have mm := mv_mem hk hf he hlt2 (t := t) (by rw [hy1]; exact htm)
        have ml := mvL_len (k := k) (b := b) (t := t)
        rw [hy1, hy2, ht] at rs1
        rw [hy2] at mm ml
        have kb : ∀ x ∈ mvL k b t, 0 ≤ x ∧ x < 256 := (keyOK_ex hk hf he).b _ mm
        have kl : (mvL k b t).length ≤ 64 := by omega
        have ks := key_size kl
        have kf := pm_fnd (keyOK_ex (y := (y2 : Int)) hk hf he) (.lit (.int .i64 0)) mm
        repeat' (first | (rw [ht]) | (with_reducible first | refine V_seq ?_ | refine V_block ?_ | refine V_skip ?_ | refine V_ret ?_ | refine V_exit ?_) | ((with_reducible refine V_cond ?_); simp only [go_sem, simprocAttr]) | ((first | refine V_region (by rw [hn]; rfl) ?_ | refine V_drawn hmix (by rw [hn]; rfl) ?_); intro K hK) | ((first | with_reducible refine evOps_n ?_ | ((with_reducible apply evOps_g); rfl) | with_reducible refine evOpsD_n ?_ | ((with_reducible apply evOpsD_g); rfl)); intro K hK; simp (contextual := true) only [go_sem, simprocAttr]) | with_reducible refine evOps_nil ?_ | ((with_reducible refine evOpsD_nil ?_ ?_); kernel_rfl) | ((with_reducible refine hK _ ?_); clear hK K) | (with_reducible first | refine And.intro ?_ ?_ | refine nxt_n ?_ | refine nxt_r ?_ | refine nxt_e ?_ | refine blk_n ?_ | refine blk_r ?_ | refine blk_same ?_ | refine blk_other (by decide) ?_ | refine noG_n ?_ | refine noG_r ?_ | refine noG_e ?_ | refine inR_mk ?_ ?_) | (refine fun (hc : (_ : Bool) = _) => ?_; try simp only [hcS] at hc))
        all_goals try (first | (with_reducible assumption) | ((try simp only [Cat.F, Cat.T, Cat.I, Cat.C, Fun.O, Fun.A, Cat.Entry, Int.toNat_natCast] at *); omega))
        refine V_loopK (G := {j : Nat // j ≤ (exT k y2).length ∧ (True)}) (fun ⟨j, _⟩ => [(122, iv j), (17, .sl 9)]) [4, 5, 6, 7, 11, 12, 13, 14, 16, 76, 77, 110, 111, 112, 120, 121] (fun ⟨j, _⟩ => [(9, ⟨1, .arr (ints (((exT k y2).take j).map fun s => t.getD (mvP k b s) 0))⟩)]) [9] (fun zz => (exT k y2).length - zz.1) ⟨0, Nat.zero_le _, by first | trivial | simp⟩ ?_ ?_
        · exact Imp.auto hX (by simp [go_sem, simprocAttr])
        rintro ⟨j, hij, hwj⟩
        simp only [go_sem, simprocAttr]
        have mj := mvL_take (k := k) (b := b) (t := t) (n := j)
        rw [hy2] at mj
        rcases Nat.lt_or_ge j (exT k y2).length with hlt4 | hge4
        · obtain ⟨s, hs⟩ : ∃ s, (exT k y2).getD j [] = s := ⟨_, rfl⟩
          have hsm : s ∈ exT k y2 := by rw [← hs]; exact memL_getD hlt4
          have ok := seat_ok hk hsm
          have ok1 := ok.len
          have ok4 := ok.h0
          have ok5 := ok.h1
          obtain ⟨m1, m2, m3, m4⟩ := mv_seat hk hlt2 (s := s) (by rw [hy2]; exact hsm)
          rw [hy1] at m1 m2 m3 m4
          have hko : KeyOK (exT k y1) := keyOK_seats hk
          have mjs := mj hlt4
          rw [hs] at mjs
          repeat' (first | (rw [hs]) | (rw [m2]) | (with_reducible first | refine V_seq ?_ | refine V_block ?_ | refine V_skip ?_ | refine V_ret ?_ | refine V_exit ?_) | ((with_reducible refine V_cond ?_); simp only [go_sem, simprocAttr]) | ((first | refine V_region (by rw [hn]; rfl) ?_ | refine V_drawn hmix (by rw [hn]; rfl) ?_); intro K hK) | ((first | with_reducible refine evOps_n ?_ | ((with_reducible apply evOps_g); rfl) | with_reducible refine evOpsD_n ?_ | ((with_reducible apply evOpsD_g); rfl)); intro K hK; simp (contextual := true) only [go_sem, simprocAttr]) | with_reducible refine evOps_nil ?_ | ((with_reducible refine evOpsD_nil ?_ ?_); kernel_rfl) | ((with_reducible refine hK _ ?_); clear hK K) | (with_reducible first | refine And.intro ?_ ?_ | refine nxt_n ?_ | refine nxt_r ?_ | refine nxt_e ?_ | refine blk_n ?_ | refine blk_r ?_ | refine blk_same ?_ | refine blk_other (by decide) ?_ | refine noG_n ?_ | refine noG_r ?_ | refine noG_e ?_ | refine inR_mk ?_ ?_) | ((with_reducible refine evCall_at 67 ?_); refine EvCall.rq (a := (sp_Category_then (c:=k.tgt) ?_ ?_ ?_ ?_)) (b := cal_Category_then) (c := ?_); all_goals try simp only [go_sem, simprocAttr]) | ((with_reducible refine evCall_at 38 ?_); refine EvCall.rq (a := (sp_rightAt_seat (A:=exT k y1) (x:=s.getD 0 0) (h:=k.tgt.C b (s.getD 1 0)) ?_ ?_)) (b := cal_rightAt_seat) (c := ?_); all_goals try simp only [go_sem, simprocAttr]) | (refine fun (hc : (_ : Bool) = _) => ?_; try simp only [hcS] at hc))
          all_goals try (first | (with_reducible assumption) | ((try simp only [Cat.F, Cat.T, Cat.I, Cat.C, Fun.O, Fun.A, Cat.Entry, Int.toNat_natCast] at *); omega))
          · refine ⟨⟨j + 1, by omega, (by trivial)⟩, by simp only; omega, Imp.auto hX (by simp only [go_sem, simprocAttr, mjs])⟩
        · have e1 : (exT k y2).take j = exT k y2 := List.take_of_length_le (by omega)
          have e2 : (exT k y2).map (fun s => t.getD (mvP k b s) 0) = mvL k b t := by unfold mvL; rw [hy2]
          rw [e1, e2]
          repeat' (first | (with_reducible first | refine V_seq ?_ | refine V_block ?_ | refine V_skip ?_ | refine V_ret ?_ | refine V_exit ?_) | ((with_reducible refine V_cond ?_); simp only [go_sem, simprocAttr]) | ((first | refine V_region (by rw [hn]; rfl) ?_ | refine V_drawn hmix (by rw [hn]; rfl) ?_); intro K hK) | ((first | with_reducible refine evOps_n ?_ | ((with_reducible apply evOps_g); rfl) | with_reducible refine evOpsD_n ?_ | ((with_reducible apply evOpsD_g); rfl)); intro K hK; simp (contextual := true) only [go_sem, simprocAttr]) | with_reducible refine evOps_nil ?_ | ((with_reducible refine evOpsD_nil ?_ ?_); kernel_rfl) | ((with_reducible refine hK _ ?_); clear hK K) | (with_reducible first | refine And.intro ?_ ?_ | refine nxt_n ?_ | refine nxt_r ?_ | refine nxt_e ?_ | refine blk_n ?_ | refine blk_r ?_ | refine blk_same ?_ | refine blk_other (by decide) ?_ | refine noG_n ?_ | refine noG_r ?_ | refine noG_e ?_ | refine inR_mk ?_ ?_) | ((with_reducible refine evCall_at 53 ?_); refine EvCall.rq (a := (sp_key_one (r:=mvL k b t) (by first | omega | assumption | rfl) (by first | omega | assumption | rfl))) (b := cal_key) (c := ?_); all_goals try simp only [go_sem, simprocAttr]) | (refine hook_lookup_b mapT (by simp only [go_sem, simprocAttr]; rfl) (by simp only [go_sem, simprocAttr]) (by simp only [go_sem, simprocAttr]) ks kf ?_; simp only [go_sem, simprocAttr]) | (refine fun (hc : (_ : Bool) = _) => ?_; try simp only [hcS] at hc))
          all_goals try (first | (with_reducible assumption) | ((try simp only [Cat.F, Cat.T, Cat.I, Cat.C, Fun.O, Fun.A, Cat.Entry, Int.toNat_natCast] at *); omega))
          · refine ⟨⟨i + 1, by omega, (by trivial)⟩, by simp only; omega, Imp.auto hX (by simp only [go_sem, simprocAttr, rs1])⟩
      · have e1 : i = (exL k f y1).length := by omega
        subst e1
        repeat' (first | (with_reducible first | refine V_seq ?_ | refine V_block ?_ | refine V_skip ?_ | refine V_ret ?_ | refine V_exit ?_) | ((with_reducible refine V_cond ?_); simp only [go_sem, simprocAttr]) | ((first | refine V_region (by rw [hn]; rfl) ?_ | refine V_drawn hmix (by rw [hn]; rfl) ?_); intro K hK) | ((first | with_reducible refine evOps_n ?_ | ((with_reducible apply evOps_g); rfl) | with_reducible refine evOpsD_n ?_ | ((with_reducible apply evOpsD_g); rfl)); intro K hK; simp (contextual := true) only [go_sem, simprocAttr]) | with_reducible refine evOps_nil ?_ | ((with_reducible refine evOpsD_nil ?_ ?_); kernel_rfl) | ((with_reducible refine hK _ ?_); clear hK K) | (with_reducible first | refine And.intro ?_ ?_ | refine nxt_n ?_ | refine nxt_r ?_ | refine nxt_e ?_ | refine blk_n ?_ | refine blk_r ?_ | refine blk_same ?_ | refine blk_other (by decide) ?_ | refine noG_n ?_ | refine noG_r ?_ | refine noG_e ?_ | refine inR_mk ?_ ?_) | (refine fun (hc : (_ : Bool) = _) => ?_; try simp only [hcS] at hc))
        all_goals try (first | (with_reducible assumption) | ((try simp only [Cat.F, Cat.T, Cat.I, Cat.C, Fun.O, Fun.A, Cat.Entry, Int.toNat_natCast] at *); omega))
        · refine ⟨⟨b + 1, by omega, (by trivial)⟩, by simp only; omega, Imp.auto hX (by simp only [go_sem, simprocAttr, xs1])⟩
    · have e1 : b = k.tgt.fr.length := by omega
      subst e1
      repeat' (first | (with_reducible first | refine V_seq ?_ | refine V_block ?_ | refine V_skip ?_ | refine V_ret ?_ | refine V_exit ?_) | ((with_reducible refine V_cond ?_); simp only [go_sem, simprocAttr]) | ((first | refine V_region (by rw [hn]; rfl) ?_ | refine V_drawn hmix (by rw [hn]; rfl) ?_); intro K hK) | ((first | with_reducible refine evOps_n ?_ | ((with_reducible apply evOps_g); rfl) | with_reducible refine evOpsD_n ?_ | ((with_reducible apply evOpsD_g); rfl)); intro K hK; simp (contextual := true) only [go_sem, simprocAttr]) | with_reducible refine evOps_nil ?_ | ((with_reducible refine evOpsD_nil ?_ ?_); kernel_rfl) | ((with_reducible refine hK _ ?_); clear hK K) | (with_reducible first | refine And.intro ?_ ?_ | refine nxt_n ?_ | refine nxt_r ?_ | refine nxt_e ?_ | refine blk_n ?_ | refine blk_r ?_ | refine blk_same ?_ | refine blk_other (by decide) ?_ | refine noG_n ?_ | refine noG_r ?_ | refine noG_e ?_ | refine inR_mk ?_ ?_) | (refine fun (hc : (_ : Bool) = _) => ?_; try simp only [hcS] at hc))
      all_goals try (first | (with_reducible assumption) | ((try simp only [Cat.F, Cat.T, Cat.I, Cat.C, Fun.O, Fun.A, Cat.Entry, Int.toNat_natCast] at *); omega))
      · (first | refine ret_auto ?_ | refine ret_auto' ?_); simp only [go_sem, simprocAttr, Tryz.f36]
end Go.Eng
