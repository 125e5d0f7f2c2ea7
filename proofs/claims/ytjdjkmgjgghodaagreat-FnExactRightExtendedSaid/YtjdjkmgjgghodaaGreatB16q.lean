/- Right extensions by the program: beyond the limits; RightExtension. -/
import Derived.Test.YtjdjkmgjgghodaaGreatKdx
import Derived.Test.YtjdjkmgjgghodaaGreatB15q
import Derived.Test.YtjdjkmgjgghodaaGreatB14q
set_option linter.unusedSimpArgs false
set_option linter.unusedVariables false
set_option maxRecDepth 100000
set_option maxHeartbeats 16000000
namespace Go.Eng
open Go Go.Proofs Go.Cats
attribute [local go_sem] rAts_zero exSz_zero exAc_zero exRow_zero one_nilSl5 List.getD_cons_zero List.getD_cons_succ List.set_cons_zero List.set_cons_succ goneL
structure _root_.Go.Cats.ExBad (k : Fun) (f : SF) (y0 : Nat) : Prop where
  lt : (y0 : Int) < k.tgt.ob
  ok : ∀ y : Nat, y < y0 → (exT k y).length ≤ 64 ∧ (exL k f y).length ≤ 16
  bad : 64 < (exT k y0).length ∨ ((exT k y0).length ≤ 64 ∧ 16 < (exL k f y0).length)
theorem ex_cases (k : Fun) (f : SF) : (∃ y0, ExBad k f y0) ∨ ∀ y : Nat, (y : Int) < k.tgt.ob → (exT k y).length ≤ 64 ∧ (exL k f y).length ≤ 16 := by
  by_cases h : ∃ y : Nat, (y : Int) < k.tgt.ob ∧ ¬ ((exT k y).length ≤ 64 ∧ (exL k f y).length ≤ 16)
  · left
    obtain ⟨y, h1, h2⟩ := h
    induction y using Nat.strongRecOn with
    | ind y ih =>
      by_cases hs : ∃ z, z < y ∧ ¬ ((exT k (z : Nat)).length ≤ 64 ∧ (exL k f z).length ≤ 16)
      · obtain ⟨z, z1, z2⟩ := hs
        exact ih z z1 (by omega) z2
      · refine ⟨y, h1, fun z hz => ?_, by omega⟩
        refine Decidable.byContradiction fun q => hs ⟨z, hz, q⟩
  · right
    intro y hy
    exact Decidable.byContradiction fun q => h ⟨y, hy, q⟩
theorem sp_extendRight_no {k : Fun} {f : SF} {y0 : Nat} (hkb : FunB k) (hk : IsFun k) (hf : IsSF f) (he : f.shape = k.src) (hb : ExBad k f y0) : Spec Tryz.prog 36 [.bptr [] (funD k), .bptr [] (sfD f)] [] (.tup [.v (.pointer none), .v (.bool false)]) [] := by
  refine spec_of_V (E := TE) 0 Tryz.func36 rfl (by simp [Tryz.f36]) fun X hn hX => ?_
  have hlt0 := hb.lt
  have hg := hb.ok
  have ob0 := hk.tgt.ob0
  have ob8 := hk.tgt.ob8
  have m40 := hk.tgt.m40
  have tol := hk.tgt.tol
  have col := hk.tgt.col
  have coe := hk.tgt.coe
  have frw := hk.tgt.frw
  have tow := hk.tgt.tow
  have ktb := hkb.tgt
  repeat' (first | (with_reducible first | refine V_seq ?_ | refine V_block ?_ | refine V_skip ?_ | refine V_ret ?_ | refine V_exit ?_) | ((with_reducible refine V_cond ?_); simp only [go_sem, simprocAttr]) | ((first | refine V_region (by rw [hn]; rfl) ?_ | refine V_drawn hmix (by rw [hn]; rfl) ?_); intro K hK) | ((first | with_reducible refine evOps_n ?_ | ((with_reducible apply evOps_g); rfl) | with_reducible refine evOpsD_n ?_ | ((with_reducible apply evOpsD_g); rfl)); intro K hK; simp (contextual := true) only [go_sem, simprocAttr]) | with_reducible refine evOps_nil ?_ | ((with_reducible refine evOpsD_nil ?_ ?_); kernel_rfl) | ((with_reducible refine hK _ ?_); clear hK K) | (with_reducible first | refine And.intro ?_ ?_ | refine nxt_n ?_ | refine nxt_r ?_ | refine nxt_e ?_ | refine blk_n ?_ | refine blk_r ?_ | refine blk_same ?_ | refine blk_other (by decide) ?_ | refine noG_n ?_ | refine noG_r ?_ | refine noG_e ?_ | refine inR_mk ?_ ?_) | ((with_reducible refine evCall_at 65 ?_); refine EvCall.rq (a := (sp_Category_copy (c:=k.tgt) ?_)) (b := cal_Category_copy) (c := ?_); all_goals try simp only [go_sem, simprocAttr]) | (refine fun (hc : (_ : Bool) = _) => ?_; try simp only [hcS] at hc))
  all_goals try (first | (with_reducible assumption) | ((try simp only [Cat.F, Cat.T, Cat.I, Cat.C, Fun.O, Fun.A, Cat.Entry, Int.toNat_natCast] at *); omega))
  refine V_imp (Imp.adoptI 4 6 _ _ rfl rfl rfl (by rw [hX]; rfl)) ?_
  refine V_imp (Imp.adoptBs 4 7 _ _ rfl rfl rfl (by rw [hX]; rfl)) ?_
  refine V_imp (Imp.adoptPts 4 8 _ _ rfl rfl rfl (by rw [hX]; rfl)) ?_
  simp only [List.set_cons_zero, List.set_cons_succ]
  refine V_loopK (G := {y : Nat // y ≤ y0 ∧ (True)}) (fun ⟨y, _⟩ => [(8, iv y), (7, .ptr 4 0)]) [0, 1, 6] (fun ⟨y, _⟩ => [(4, ⟨1, .box [.bptr [] (funD k), iv k.tgt.ob, .sl 0, .sl 1, .sl 2, .sl 3, .sl 5, .sl 6, .sl 7]⟩), (5, ⟨1, .arr (ints (exSz k f y))⟩), (7, ⟨1, .arr (ptsD (rAts k f y))⟩)]) [4, 5, 7] (fun zz => y0 - zz.1) ⟨0, Nat.zero_le _, by first | trivial | simp⟩ ?_ ?_
  · exact Imp.auto hX (by simp [go_sem, simprocAttr])
  rintro ⟨y, hiy, hwy⟩
  simp only [go_sem, simprocAttr]
  rcases Nat.lt_or_ge y y0 with hlt | hge
  · obtain ⟨g1, g2⟩ := hg y (by omega)
    have hrl := sp_rightLists_yes (y := (y : Int)) hk hf he g1
    have g2' : (rtL k f y).length ≤ 16 := g2
    rw [decide_eq_true g2', List.take_of_length_le (by omega)] at hrl
    have sp_rightLists_loc : Spec Tryz.prog 66 [.bptr [] (funD k), .bptr [] (sfD f), iv y] [] (.tup [.ptr 0 0, .v (.bool true)])
      [(0, ⟨1, .box [.sl 1, .sl 2, .sl 3, .sl 4]⟩), (1, ⟨1, .arr (intss (exT k y))⟩), (2, ⟨1, .arr (mapD Tryz.prog 9 2 (exT k y).length (pm (exT k y) (exT k y).length))⟩), (3, ⟨1, .arr (intss (exL k f y))⟩), (4, ⟨1, .arr (mapD Tryz.prog 9 2 (exL k f y).length (pm (exL k f y) (exL k f y).length))⟩)] := hrl
    have s1 := exSz_len (k := k) (f := f) (n := y)
    have s2 := rAts_len (k := k) (f := f) (n := y)
    have s3 := exSz_succ (k := k) (f := f) (n := y)
    have s4 := rAts_succ (k := k) (f := f) (n := y)
    repeat' (first | (refine V_ptClose (c := .region 9 _ _) 9 8 13 _ (rAtD k f y) [9, 10, 11, 12] rfl rfl (ownCells4 rfl rfl rfl rfl (by decide)) (by decide) (by decide) rfl ?_; intro x hx1; have hx2 := pts_ones1 hx1; simp only [go_sem, simprocAttr]) | (refine V_at 10 (Imp.trans (Imp.absorb 9 15 13 _ (.v (.pointer none)) (rAts k f y) [] (ptD (rAtD k f y)) rfl rfl (Nat.succ_le_succ (Nat.zero_le _)) rfl (by decide)) (Imp.ptOpen 9 _ _ rfl)) ?_; simp only [go_sem, simprocAttr, pts_back]) | (with_reducible first | refine V_seq ?_ | refine V_block ?_ | refine V_skip ?_ | refine V_ret ?_ | refine V_exit ?_) | ((with_reducible refine V_cond ?_); simp only [go_sem, simprocAttr]) | ((first | refine V_region (by rw [hn]; rfl) ?_ | refine V_drawn hmix (by rw [hn]; rfl) ?_); intro K hK) | ((first | with_reducible refine evOps_n ?_ | ((with_reducible apply evOps_g); rfl) | with_reducible refine evOpsD_n ?_ | ((with_reducible apply evOpsD_g); rfl)); intro K hK; simp (contextual := true) only [go_sem, simprocAttr]) | with_reducible refine evOps_nil ?_ | ((with_reducible refine evOpsD_nil ?_ ?_); kernel_rfl) | ((with_reducible refine hK _ ?_); clear hK K) | (with_reducible first | refine And.intro ?_ ?_ | refine nxt_n ?_ | refine nxt_r ?_ | refine nxt_e ?_ | refine blk_n ?_ | refine blk_r ?_ | refine blk_same ?_ | refine blk_other (by decide) ?_ | refine noG_n ?_ | refine noG_r ?_ | refine noG_e ?_ | refine inR_mk ?_ ?_) | ((with_reducible refine evCall_at 66 ?_); refine EvCall.rq (a := (sp_rightLists_loc)) (b := cal_rightLists) (c := ?_); all_goals try simp only [go_sem, simprocAttr]) | (refine fun (hc : (_ : Bool) = _) => ?_; try simp only [hcS] at hc))
    all_goals try (first | (with_reducible assumption) | ((try simp only [Cat.F, Cat.T, Cat.I, Cat.C, Fun.O, Fun.A, Cat.Entry, Int.toNat_natCast] at *); omega))
    · refine ⟨⟨y + 1, by omega, (by trivial)⟩, by simp only; omega, Imp.auto hX (by simp only [go_sem, simprocAttr, s3, s4])⟩
  · have e1 : y = y0 := by omega
    subst e1
    rcases hb.bad with hS | ⟨hS, hD⟩
    · have sp_rightLists_loc : Spec Tryz.prog 66 [.bptr [] (funD k), .bptr [] (sfD f), iv y] [] (.tup [.v (.pointer none), .v (.bool false)]) [] := sp_rightLists_no hk hS
      repeat' (first | (with_reducible first | refine V_seq ?_ | refine V_block ?_ | refine V_skip ?_ | refine V_ret ?_ | refine V_exit ?_) | ((with_reducible refine V_cond ?_); simp only [go_sem, simprocAttr]) | ((first | refine V_region (by rw [hn]; rfl) ?_ | refine V_drawn hmix (by rw [hn]; rfl) ?_); intro K hK) | ((first | with_reducible refine evOps_n ?_ | ((with_reducible apply evOps_g); rfl) | with_reducible refine evOpsD_n ?_ | ((with_reducible apply evOpsD_g); rfl)); intro K hK; simp (contextual := true) only [go_sem, simprocAttr]) | with_reducible refine evOps_nil ?_ | ((with_reducible refine evOpsD_nil ?_ ?_); kernel_rfl) | ((with_reducible refine hK _ ?_); clear hK K) | (with_reducible first | refine And.intro ?_ ?_ | refine nxt_n ?_ | refine nxt_r ?_ | refine nxt_e ?_ | refine blk_n ?_ | refine blk_r ?_ | refine blk_same ?_ | refine blk_other (by decide) ?_ | refine noG_n ?_ | refine noG_r ?_ | refine noG_e ?_ | refine inR_mk ?_ ?_) | ((with_reducible refine evCall_at 66 ?_); refine EvCall.rq (a := (sp_rightLists_loc)) (b := cal_rightLists) (c := ?_); all_goals try simp only [go_sem, simprocAttr]) | (refine fun (hc : (_ : Bool) = _) => ?_; try simp only [hcS] at hc))
      all_goals try (first | (with_reducible assumption) | ((try simp only [Cat.F, Cat.T, Cat.I, Cat.C, Fun.O, Fun.A, Cat.Entry, Int.toNat_natCast] at *); omega))
      · (first | refine ret_auto ?_ | refine ret_auto' ?_); simp only [go_sem, simprocAttr, Tryz.f36]
    · have hrl := sp_rightLists_yes (y := (y : Int)) hk hf he hS
      have hD' : ¬ (rtL k f y).length ≤ 16 := by show ¬ (exL k f y).length ≤ 16; omega
      rw [decide_eq_false hD'] at hrl
      obtain ⟨M, hM⟩ : ∃ M, (rtL k f (y : Int)).take 17 = M := ⟨_, rfl⟩
      rw [hM] at hrl
      have sp_rightLists_loc : Spec Tryz.prog 66 [.bptr [] (funD k), .bptr [] (sfD f), iv y] [] (.tup [.ptr 0 0, .v (.bool false)])
        [(0, ⟨1, .box [.sl 1, .sl 2, .sl 3, .sl 4]⟩), (1, ⟨1, .arr (intss (exT k y))⟩), (2, ⟨1, .arr (mapD Tryz.prog 9 2 (exT k y).length (pm (exT k y) (exT k y).length))⟩), (3, ⟨1, .arr (intss M)⟩), (4, ⟨1, .arr (mapD Tryz.prog 9 2 M.length (pm M M.length))⟩)] := hrl
      repeat' (first | (with_reducible first | refine V_seq ?_ | refine V_block ?_ | refine V_skip ?_ | refine V_ret ?_ | refine V_exit ?_) | ((with_reducible refine V_cond ?_); simp only [go_sem, simprocAttr]) | ((first | refine V_region (by rw [hn]; rfl) ?_ | refine V_drawn hmix (by rw [hn]; rfl) ?_); intro K hK) | ((first | with_reducible refine evOps_n ?_ | ((with_reducible apply evOps_g); rfl) | with_reducible refine evOpsD_n ?_ | ((with_reducible apply evOpsD_g); rfl)); intro K hK; simp (contextual := true) only [go_sem, simprocAttr]) | with_reducible refine evOps_nil ?_ | ((with_reducible refine evOpsD_nil ?_ ?_); kernel_rfl) | ((with_reducible refine hK _ ?_); clear hK K) | (with_reducible first | refine And.intro ?_ ?_ | refine nxt_n ?_ | refine nxt_r ?_ | refine nxt_e ?_ | refine blk_n ?_ | refine blk_r ?_ | refine blk_same ?_ | refine blk_other (by decide) ?_ | refine noG_n ?_ | refine noG_r ?_ | refine noG_e ?_ | refine inR_mk ?_ ?_) | ((with_reducible refine evCall_at 66 ?_); refine EvCall.rq (a := (sp_rightLists_loc)) (b := cal_rightLists) (c := ?_); all_goals try simp only [go_sem, simprocAttr]) | (refine fun (hc : (_ : Bool) = _) => ?_; try simp only [hcS] at hc))
      all_goals try (first | (with_reducible assumption) | ((try simp only [Cat.F, Cat.T, Cat.I, Cat.C, Fun.O, Fun.A, Cat.Entry, Int.toNat_natCast] at *); omega))
      · (first | refine ret_auto ?_ | refine ret_auto' ?_); simp only [go_sem, simprocAttr, Tryz.f36]
def _root_.Go.Cats.nilSF : SF := ⟨⟨0, [], [], [], []⟩, [], []⟩
end Go.Eng
