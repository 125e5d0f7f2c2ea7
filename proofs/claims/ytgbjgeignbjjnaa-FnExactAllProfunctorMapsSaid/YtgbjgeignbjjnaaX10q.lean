/- Maps between profunctors: a list cut into the parts of a map; places2. -/
import Derived.Test.YtgbjgeignbjjnaaX08q
set_option linter.unusedSimpArgs false
set_option linter.unusedVariables false
set_option maxRecDepth 100000
set_option maxHeartbeats 16000000
namespace Go.Eng
open Go Go.Proofs Go.Cats
def gdR (R : Nat → Nat → List Int) (x n : Nat) : List (List Int) := (List.range n).map (R x)
def gdL (R : Nat → Nat → List Int) (n k : Nat) : List (List (List Int)) := (List.range k).map fun x => gdR R x n
def spE (p : Prof) (A : List Int) (x y : Nat) : List Int := (A.drop (p.off x y).toNat).take ((p.off x y + (p.sz.getD x []).getD y 0).toNat - (p.off x y).toNat)
def spL (p : Prof) (A : List Int) : List (List (List Int)) := gdL (spE p A) p.tgt.ob.toNat p.src.ob.toNat
section
variable {R : Nat → Nat → List Int} {x n k : Nat}
theorem gdR_zero : gdR R x 0 = [] := rfl
theorem gdL_zero : gdL R n 0 = [] := rfl
theorem gdR_len : (gdR R x n).length = n := by unfold gdR; rw [List.length_map, List.length_range]
theorem gdL_len : (gdL R n k).length = k := by unfold gdL; rw [List.length_map, List.length_range]
theorem gdR_succ : gdR R x (n + 1) = gdR R x n ++ [R x n] := by unfold gdR; rw [List.range_succ, List.map_append, List.map_singleton]
theorem gdL_succ : gdL R n (k + 1) = gdL R n k ++ [gdR R k n] := by unfold gdL; rw [List.range_succ, List.map_append, List.map_singleton]
end
attribute [local go_sem] gdR_zero gdL_zero
theorem cal_l32Split : Callable Try.prog 19 := ⟨_, Try.func19, rfl, rfl⟩
theorem sp_l32Split {p : Prof} {A : List Int} (s : PrShape p) (hA : (A.length : Int) = p.num) : Spec Try.prog 19 [profV p, .bor [] (ints A)] [] (.sl 0) [(0, ⟨1, .arr (intsss (spL p A))⟩)] := by
  refine spec_of_V (E := TE) 0 Try.func19 rfl (by simp [Try.f19]) fun X hn hX => ?_
  have o1 := s.src.toShape.ob0
  have o2 := s.tgt.toShape.ob0
  have o3 := s.src.toShape.ob8
  have o4 := s.tgt.toShape.ob8
  have z1 := s.szl
  have nb := num_bd s
  obtain ⟨w1, w2, _⟩ := s.w
  repeat' (first | (with_reducible first | refine V_seq ?_ | refine V_block ?_ | refine V_skip ?_ | refine V_ret ?_ | refine V_exit ?_) | ((with_reducible refine V_cond ?_); simp only [go_sem, simprocAttr]) | ((refine V_region (by rw [hn]; rfl) ?_); intro K hK) | ((first | with_reducible refine evOps_n ?_ | ((with_reducible apply evOps_g); rfl)); intro K hK; simp (contextual := true) only [go_sem, simprocAttr]) | with_reducible refine evOps_nil ?_ | ((with_reducible refine hK _ ?_); clear hK K) | (with_reducible first | refine And.intro ?_ ?_ | refine nxt_n ?_ | refine nxt_r ?_ | refine nxt_e ?_ | refine blk_n ?_ | refine blk_r ?_ | refine blk_same ?_ | refine blk_other (by decide) ?_ | refine noG_n ?_ | refine noG_r ?_ | refine noG_e ?_ | refine inR_mk ?_ ?_) | (refine fun (hc : (_ : Bool) = _) => ?_; try simp only [hcS] at hc))
  all_goals try exact om_
  refine V_loopK (G := {x : Nat // x ≤ p.src.ob.toNat ∧ (True)}) (fun ⟨x, _⟩ => [(6, iv x), (5, .sl 1)]) [1, 2, 4] (fun ⟨x, _⟩ => [(1, ⟨1, .arr (intsss (gdL (spE p A) p.tgt.ob.toNat x))⟩)]) [1] (fun zz => p.src.ob.toNat - zz.1) ⟨0, Nat.zero_le _, by first | trivial | simp⟩ ?_ ?_
  · exact Imp.au hX
  rintro ⟨x, hix, hwx⟩
  simp only [go_sem, simprocAttr]
  have l1 := gdL_len (R := spE p A) (n := p.tgt.ob.toNat) (k := x)
  rcases Nat.lt_or_ge x p.src.ob.toNat with hlx | hgx
  · have g1 := w1 x hlx
    repeat' (first | (with_reducible first | refine V_seq ?_ | refine V_block ?_ | refine V_skip ?_ | refine V_ret ?_ | refine V_exit ?_) | ((with_reducible refine V_cond ?_); simp only [go_sem, simprocAttr]) | ((refine V_region (by rw [hn]; rfl) ?_); intro K hK) | ((first | with_reducible refine evOps_n ?_ | ((with_reducible apply evOps_g); rfl)); intro K hK; simp (contextual := true) only [go_sem, simprocAttr]) | with_reducible refine evOps_nil ?_ | ((with_reducible refine hK _ ?_); clear hK K) | (with_reducible first | refine And.intro ?_ ?_ | refine nxt_n ?_ | refine nxt_r ?_ | refine nxt_e ?_ | refine blk_n ?_ | refine blk_r ?_ | refine blk_same ?_ | refine blk_other (by decide) ?_ | refine noG_n ?_ | refine noG_r ?_ | refine noG_e ?_ | refine inR_mk ?_ ?_) | (refine fun (hc : (_ : Bool) = _) => ?_; try simp only [hcS] at hc))
    all_goals try exact om_
    refine V_loopK (G := {y : Nat // y ≤ p.tgt.ob.toNat ∧ (True)}) (fun ⟨y, _⟩ => [(8, iv y), (5, .sl 1), (6, iv x), (7, .sl 2)]) [1, 2, 4] (fun ⟨y, _⟩ => [(1, ⟨1, .arr (intsss (gdL (spE p A) p.tgt.ob.toNat x))⟩), (2, ⟨1, .arr (intss (gdR (spE p A) x y))⟩)]) [1, 2] (fun zz => p.tgt.ob.toNat - zz.1) ⟨0, Nat.zero_le _, by first | trivial | simp⟩ ?_ ?_
    · exact Imp.au hX
    rintro ⟨y, hiy, hwy⟩
    simp only [go_sem, simprocAttr]
    have l2 := gdR_len (R := spE p A) (n := y) (x := x)
    rcases Nat.lt_or_ge y p.tgt.ob.toNat with hly | hgy
    · have b1 := off_bd s hlx (show y ≤ p.tgt.ob.toNat by omega)
      have b2 : 0 ≤ (p.sz.getD x []).getD y 0 ∧ (p.sz.getD x []).getD y 0 < 65 := w2 x y hlx hly
      have b3 : p.off x y + (p.sz.getD x []).getD y 0 ≤ p.num := off_le s hlx hly
      have h1 := sp_l32Offset s (x := x) (y := y) (by omega) (by omega) (by omega)
      have hel : ((A.drop (p.off x y).toNat).take ((p.off x y + (p.sz.getD x []).getD y 0).toNat - (p.off x y).toNat)).length ≤ 1048576 := by rw [List.length_take, List.length_drop]; omega
      have e1 : gdR (spE p A) x (y + 1) = gdR (spE p A) x y ++ [(A.drop (p.off x y).toNat).take ((p.off x y + (p.sz.getD x []).getD y 0).toNat - (p.off x y).toNat)] := gdR_succ
      repeat' (first | (with_reducible first | refine V_seq ?_ | refine V_block ?_ | refine V_skip ?_ | refine V_ret ?_ | refine V_exit ?_) | ((with_reducible refine V_cond ?_); simp only [go_sem, simprocAttr]) | ((refine V_region (by rw [hn]; rfl) ?_); intro K hK) | ((first | with_reducible refine evOps_n ?_ | ((with_reducible apply evOps_g); rfl)); intro K hK; simp (contextual := true) only [go_sem, simprocAttr]) | with_reducible refine evOps_nil ?_ | ((with_reducible refine hK _ ?_); clear hK K) | (with_reducible first | refine And.intro ?_ ?_ | refine nxt_n ?_ | refine nxt_r ?_ | refine nxt_e ?_ | refine blk_n ?_ | refine blk_r ?_ | refine blk_same ?_ | refine blk_other (by decide) ?_ | refine noG_n ?_ | refine noG_r ?_ | refine noG_e ?_ | refine inR_mk ?_ ?_) | ((with_reducible refine evCall_at 17 ?_); refine EvCall.mk (h1) cal_l32Offset [] [] (by simp [go_sem] <;> (repeat' (first | rfl | constructor))) (by simp [go_sem] <;> (repeat' (first | rfl | constructor))) ?_; all_goals try simp only [go_sem, simprocAttr]) | ((with_reducible refine evCall_at 43 ?_); refine EvCall.rq (a := (sp_l01Own ?_)) (b := cal_l01Own) (c := ?_); all_goals try simp only [go_sem, simprocAttr]) | (refine hook_sub (n := p.off x y) (m := p.off x y + (p.sz.getD x []).getD y 0) rfl rfl (by simp [go_sem, simprocAttr]) rfl rfl (by omega) (by omega) (by omega) ?_; simp only [go_sem, simprocAttr]) | (refine fun (hc : (_ : Bool) = _) => ?_; try simp only [hcS] at hc))
      all_goals try exact om_
      refine ⟨⟨y + 1, by omega, (by trivial)⟩, by simp only; omega, Imp.auto hX (by simp only [go_sem, simprocAttr, e1])⟩
    · have ey : y = p.tgt.ob.toNat := by omega
      subst ey
      have e1 := gdL_succ (R := spE p A) (n := p.tgt.ob.toNat) (k := x)
      repeat' (first | (with_reducible first | refine V_seq ?_ | refine V_block ?_ | refine V_skip ?_ | refine V_ret ?_ | refine V_exit ?_) | ((with_reducible refine V_cond ?_); simp only [go_sem, simprocAttr]) | ((refine V_region (by rw [hn]; rfl) ?_); intro K hK) | ((first | with_reducible refine evOps_n ?_ | ((with_reducible apply evOps_g); rfl)); intro K hK; simp (contextual := true) only [go_sem, simprocAttr]) | with_reducible refine evOps_nil ?_ | ((with_reducible refine hK _ ?_); clear hK K) | (with_reducible first | refine And.intro ?_ ?_ | refine nxt_n ?_ | refine nxt_r ?_ | refine nxt_e ?_ | refine blk_n ?_ | refine blk_r ?_ | refine blk_same ?_ | refine blk_other (by decide) ?_ | refine noG_n ?_ | refine noG_r ?_ | refine noG_e ?_ | refine inR_mk ?_ ?_) | (refine fun (hc : (_ : Bool) = _) => ?_; try simp only [hcS] at hc))
      all_goals try exact om_
      refine ⟨⟨x + 1, by omega, (by trivial)⟩, by simp only; omega, Imp.auto hX (by simp only [go_sem, simprocAttr, e1])⟩
  · have ex : x = p.src.ob.toNat := by omega
    subst ex
    rw [show gdL (spE p A) p.tgt.ob.toNat p.src.ob.toNat = spL p A from rfl]
    repeat' (first | (with_reducible first | refine V_seq ?_ | refine V_block ?_ | refine V_skip ?_ | refine V_ret ?_ | refine V_exit ?_) | ((with_reducible refine V_cond ?_); simp only [go_sem, simprocAttr]) | ((refine V_region (by rw [hn]; rfl) ?_); intro K hK) | ((first | with_reducible refine evOps_n ?_ | ((with_reducible apply evOps_g); rfl)); intro K hK; simp (contextual := true) only [go_sem, simprocAttr]) | with_reducible refine evOps_nil ?_ | ((with_reducible refine hK _ ?_); clear hK K) | (with_reducible first | refine And.intro ?_ ?_ | refine nxt_n ?_ | refine nxt_r ?_ | refine nxt_e ?_ | refine blk_n ?_ | refine blk_r ?_ | refine blk_same ?_ | refine blk_other (by decide) ?_ | refine noG_n ?_ | refine noG_r ?_ | refine noG_e ?_ | refine inR_mk ?_ ?_) | (refine fun (hc : (_ : Bool) = _) => ?_; try simp only [hcS] at hc))
    all_goals try exact om_
    (first | refine ret_auto ?_ | refine ret_auto' ?_); simp only [go_sem, simprocAttr, Try.f19]
theorem cal_places2 : Callable Try.prog 27 := ⟨_, Try.func27, rfl, rfl⟩
theorem sp_places2 {p : Prof} (s : PrShape p) {F : FuncId} {cp : LC} {R : Nat → Nat → List Int} (hF : Callable Try.prog F) (hR : ∀ x y : Nat, x < p.src.ob.toNat → y < p.tgt.ob.toNat → Spec Try.prog F ([iv x, iv y] ++ cp.l) [] (.sl 0) [(0, ⟨1, .arr (ints (R x y))⟩)]) : Spec Try.prog 27 [.bptr [] (profD p), .fn F cp.l] [] (.sl 0) [(0, ⟨1, .arr (intsss (gdL R p.tgt.ob.toNat p.src.ob.toNat))⟩)] := by
  refine spec_of_V (E := TE) 0 Try.func27 rfl (by simp [Try.f27]) fun X hn hX => ?_
  have o1 := s.src.toShape.ob0
  have o2 := s.tgt.toShape.ob0
  have o3 := s.src.toShape.ob8
  have o4 := s.tgt.toShape.ob8
  repeat' (first | (with_reducible first | refine V_seq ?_ | refine V_block ?_ | refine V_skip ?_ | refine V_ret ?_ | refine V_exit ?_) | ((with_reducible refine V_cond ?_); simp only [go_sem, simprocAttr]) | ((refine V_region (by rw [hn]; rfl) ?_); intro K hK) | ((first | with_reducible refine evOps_n ?_ | ((with_reducible apply evOps_g); rfl)); intro K hK; simp (contextual := true) only [go_sem, simprocAttr]) | with_reducible refine evOps_nil ?_ | ((with_reducible refine hK _ ?_); clear hK K) | (with_reducible first | refine And.intro ?_ ?_ | refine nxt_n ?_ | refine nxt_r ?_ | refine nxt_e ?_ | refine blk_n ?_ | refine blk_r ?_ | refine blk_same ?_ | refine blk_other (by decide) ?_ | refine noG_n ?_ | refine noG_r ?_ | refine noG_e ?_ | refine inR_mk ?_ ?_) | (refine fun (hc : (_ : Bool) = _) => ?_; try simp only [hcS] at hc))
  all_goals try exact om_
  refine V_loopK (G := {x : Nat // x ≤ p.src.ob.toNat ∧ (True)}) (fun ⟨x, _⟩ => [(15, iv x), (5, .sl 0)]) [0, 1, 4, 14] (fun ⟨x, _⟩ => [(0, ⟨1, .arr (intsss (gdL R p.tgt.ob.toNat x))⟩)]) [0] (fun zz => p.src.ob.toNat - zz.1) ⟨0, Nat.zero_le _, by first | trivial | simp⟩ ?_ ?_
  · exact Imp.au hX
  rintro ⟨x, hix, hwx⟩
  simp only [go_sem, simprocAttr]
  have l1 := gdL_len (R := R) (n := p.tgt.ob.toNat) (k := x)
  rcases Nat.lt_or_ge x p.src.ob.toNat with hlx | hgx
  · repeat' (first | (with_reducible first | refine V_seq ?_ | refine V_block ?_ | refine V_skip ?_ | refine V_ret ?_ | refine V_exit ?_) | ((with_reducible refine V_cond ?_); simp only [go_sem, simprocAttr]) | ((refine V_region (by rw [hn]; rfl) ?_); intro K hK) | ((first | with_reducible refine evOps_n ?_ | ((with_reducible apply evOps_g); rfl)); intro K hK; simp (contextual := true) only [go_sem, simprocAttr]) | with_reducible refine evOps_nil ?_ | ((with_reducible refine hK _ ?_); clear hK K) | (with_reducible first | refine And.intro ?_ ?_ | refine nxt_n ?_ | refine nxt_r ?_ | refine nxt_e ?_ | refine blk_n ?_ | refine blk_r ?_ | refine blk_same ?_ | refine blk_other (by decide) ?_ | refine noG_n ?_ | refine noG_r ?_ | refine noG_e ?_ | refine inR_mk ?_ ?_) | (refine fun (hc : (_ : Bool) = _) => ?_; try simp only [hcS] at hc))
    all_goals try exact om_
    refine V_loopK (G := {y : Nat // y ≤ p.tgt.ob.toNat ∧ (True)}) (fun ⟨y, _⟩ => [(24, iv y), (5, .sl 0), (6, iv x), (7, .sl 1)]) [0, 1, 4, 14, 15, 23] (fun ⟨y, _⟩ => [(0, ⟨1, .arr (intsss (gdL R p.tgt.ob.toNat x))⟩), (1, ⟨1, .arr (intss (gdR R x y))⟩)]) [0, 1] (fun zz => p.tgt.ob.toNat - zz.1) ⟨0, Nat.zero_le _, by first | trivial | simp⟩ ?_ ?_
    · exact Imp.au hX
    rintro ⟨y, hiy, hwy⟩
    simp only [go_sem, simprocAttr]
    have l2 := gdR_len (R := R) (n := y) (x := x)
    rcases Nat.lt_or_ge y p.tgt.ob.toNat with hly | hgy
    · have h1 := hR x y hlx hly
      have e1 := gdR_succ (R := R) (n := y) (x := x)
      repeat' (first | (with_reducible first | refine V_seq ?_ | refine V_block ?_ | refine V_skip ?_ | refine V_ret ?_ | refine V_exit ?_) | ((with_reducible refine V_cond ?_); simp only [go_sem, simprocAttr]) | ((refine V_region (by rw [hn]; rfl) ?_); intro K hK) | ((first | with_reducible refine evOps_n ?_ | ((with_reducible apply evOps_g); rfl)); intro K hK; simp (contextual := true) only [go_sem, simprocAttr]) | with_reducible refine evOps_nil ?_ | ((with_reducible refine hK _ ?_); clear hK K) | (with_reducible first | refine And.intro ?_ ?_ | refine nxt_n ?_ | refine nxt_r ?_ | refine nxt_e ?_ | refine blk_n ?_ | refine blk_r ?_ | refine blk_same ?_ | refine blk_other (by decide) ?_ | refine noG_n ?_ | refine noG_r ?_ | refine noG_e ?_ | refine inR_mk ?_ ?_) | ((with_reducible refine evCall_at F ?_); refine EvCall.mk h1 hF [(0,2)] [] (by simp [go_sem] <;> (repeat' (first | rfl | constructor))) (by simp [go_sem] <;> (repeat' (first | rfl | constructor))) ?_; all_goals try simp only [go_sem, simprocAttr]) | (refine fun (hc : (_ : Bool) = _) => ?_; try simp only [hcS] at hc))
      all_goals try exact om_
      refine ⟨⟨y + 1, by omega, (by trivial)⟩, by simp only; omega, Imp.auto hX (by simp only [go_sem, simprocAttr, e1])⟩
    · have ey : y = p.tgt.ob.toNat := by omega
      subst ey
      have e1 := gdL_succ (R := R) (n := p.tgt.ob.toNat) (k := x)
      repeat' (first | (with_reducible first | refine V_seq ?_ | refine V_block ?_ | refine V_skip ?_ | refine V_ret ?_ | refine V_exit ?_) | ((with_reducible refine V_cond ?_); simp only [go_sem, simprocAttr]) | ((refine V_region (by rw [hn]; rfl) ?_); intro K hK) | ((first | with_reducible refine evOps_n ?_ | ((with_reducible apply evOps_g); rfl)); intro K hK; simp (contextual := true) only [go_sem, simprocAttr]) | with_reducible refine evOps_nil ?_ | ((with_reducible refine hK _ ?_); clear hK K) | (with_reducible first | refine And.intro ?_ ?_ | refine nxt_n ?_ | refine nxt_r ?_ | refine nxt_e ?_ | refine blk_n ?_ | refine blk_r ?_ | refine blk_same ?_ | refine blk_other (by decide) ?_ | refine noG_n ?_ | refine noG_r ?_ | refine noG_e ?_ | refine inR_mk ?_ ?_) | (refine fun (hc : (_ : Bool) = _) => ?_; try simp only [hcS] at hc))
      all_goals try exact om_
      refine ⟨⟨x + 1, by omega, (by trivial)⟩, by simp only; omega, Imp.auto hX (by simp only [go_sem, simprocAttr, e1])⟩
  · have ex : x = p.src.ob.toNat := by omega
    subst ex
    repeat' (first | (with_reducible first | refine V_seq ?_ | refine V_block ?_ | refine V_skip ?_ | refine V_ret ?_ | refine V_exit ?_) | ((with_reducible refine V_cond ?_); simp only [go_sem, simprocAttr]) | ((refine V_region (by rw [hn]; rfl) ?_); intro K hK) | ((first | with_reducible refine evOps_n ?_ | ((with_reducible apply evOps_g); rfl)); intro K hK; simp (contextual := true) only [go_sem, simprocAttr]) | with_reducible refine evOps_nil ?_ | ((with_reducible refine hK _ ?_); clear hK K) | (with_reducible first | refine And.intro ?_ ?_ | refine nxt_n ?_ | refine nxt_r ?_ | refine nxt_e ?_ | refine blk_n ?_ | refine blk_r ?_ | refine blk_same ?_ | refine blk_other (by decide) ?_ | refine noG_n ?_ | refine noG_r ?_ | refine noG_e ?_ | refine inR_mk ?_ ?_) | (refine fun (hc : (_ : Bool) = _) => ?_; try simp only [hcS] at hc))
    all_goals try exact om_
    (first | refine ret_auto ?_ | refine ret_auto' ?_); simp only [go_sem, simprocAttr, Try.f27]
theorem cal_AllProfunctorMaps_1 : Callable Try.prog 28 := ⟨_, Try.func28, rfl, rfl⟩
theorem sp_AllProfunctorMaps_1 {p : Prof} {A : List Int} (s : PrShape p) (hA : (A.length : Int) = p.num) {x y : Nat} (hx : x < p.src.ob.toNat) (hy : y < p.tgt.ob.toNat) : Spec Try.prog 28 [iv x, iv y, .bptr [] [ints A], .bptr [] [intss (p.stL p.src.ob.toNat)], .bptr [] (profD p)] [] (.sl 0) [(0, ⟨1, .arr (ints (spE p A x y))⟩)] := by
  refine spec_of_V (E := TE) 0 Try.func28 rfl (by simp [Try.f28]) fun X hn hX => ?_
  have o1 := s.src.toShape.ob0
  have o2 := s.tgt.toShape.ob0
  have o3 := s.src.toShape.ob8
  have o4 := s.tgt.toShape.ob8
  have z1 := s.szl
  have nb := num_bd s
  obtain ⟨w1, w2, _⟩ := s.w
  have g1 := w1 x hx
  have b1 := off_bd s hx (show y ≤ p.tgt.ob.toNat by omega)
  have b2 : 0 ≤ (p.sz.getD x []).getD y 0 ∧ (p.sz.getD x []).getD y 0 < 65 := w2 x y hx hy
  have b3 : p.off x y + (p.sz.getD x []).getD y 0 ≤ p.num := off_le s hx hy
  have k1 := stL_at (p := p) (x := x) (n := p.src.ob.toNat) hx
  have k2 := stL_len (p := p) (x := p.src.ob.toNat)
  have k3 := stR_at (p := p) (x := x) (y := y) (n := p.tgt.ob.toNat) hy
  have k5 := stR_len (p := p) (x := x) (y := p.tgt.ob.toNat)
  have hel : ((A.drop (p.off x y).toNat).take ((p.off x y + (p.sz.getD x []).getD y 0).toNat - (p.off x y).toNat)).length ≤ 1048576 := by rw [List.length_take, List.length_drop]; omega
  have e1 : spE p A x y = (A.drop (p.off x y).toNat).take ((p.off x y + (p.sz.getD x []).getD y 0).toNat - (p.off x y).toNat) := rfl
  repeat' (first | (rw [k1]) | (rw [k3]) | (with_reducible first | refine V_seq ?_ | refine V_skip ?_ | refine V_ret ?_) | ((with_reducible refine V_cond ?_); simp only [go_sem, simprocAttr]) | ((first | refine V_region (by rw [hn]; rfl) ?_ | refine V_drawn hmix (by rw [hn]; rfl) ?_); intro K hK) | ((first | with_reducible refine evOps_n ?_ | ((with_reducible apply evOps_g); rfl) | with_reducible refine evOpsD_n ?_ | ((with_reducible apply evOpsD_g); rfl)); intro K hK; simp (contextual := true) only [go_sem, simprocAttr]) | with_reducible refine evOps_nil ?_ | ((with_reducible refine evOpsD_nil ?_ ?_); kernel_rfl) | ((with_reducible refine hK _ ?_); clear hK K) | (with_reducible first | refine And.intro ?_ ?_ | refine nxt_n ?_ | refine nxt_r ?_ | refine inR_mk ?_ ?_) | ((with_reducible refine evCall_at 29 ?_); refine EvCall.rq (a := (sp_clone ?_)) (b := cal_clone) (c := ?_); all_goals try simp only [go_sem, simprocAttr]) | (refine hook_sub (n := p.off x y) (m := p.off x y + (p.sz.getD x []).getD y 0) rfl rfl (by simp [go_sem, simprocAttr]) rfl rfl (by omega) (by omega) (by omega) ?_; simp only [go_sem, simprocAttr]) | (refine fun (hc : (_ : Bool) = _) => ?_; try simp only [hcS] at hc))
  all_goals try exact om_
  rw [e1]
  (first | refine ret_auto ?_ | refine ret_auto' ?_); simp only [go_sem, simprocAttr, Try.f28]
end Go.Eng
