/- Right extensions, by the program: the seats, their places. -/
import Derived.Test.YtjdjkmgjgghodaaGreatKmx
import Derived.Test.YtjdjkmgjgghodaaGreatKdx
import Derived.Test.YtjdjkmgjgghodaaGreatKex
import Derived.Test.YtjdjkmgjgghodaaGreatC02q
import Derived.Test.YtjdjkmgjgghodaaGreatC14q
import Derived.Test.YtjdjkmgjgghodaaGreatA01q
import Derived.Test.YtjdjkmgjgghodaaGreatB03q
set_option linter.unusedSimpArgs false
set_option linter.unusedVariables false
set_option maxRecDepth 100000
set_option maxHeartbeats 16000000
namespace Go.Eng
open Go Go.Proofs Go.Cats
attribute [local go_sem] rSeats_zero List.getD_cons_zero List.getD_cons_succ
theorem cal_rightSeats : Callable Tryz.prog 90 := ⟨_, Tryz.func90, rfl, rfl⟩
theorem sp_rightSeats {k : Fun} {y : Int} (hk : IsFun k) : Spec Tryz.prog 90 [.bptr [] (funD k), iv y] [] (.sl 0) [(0, ⟨1, .arr (intss (rSeats k y k.obs.length))⟩)] := by
  refine spec_of_V (E := TE) 0 Tryz.func90 rfl (by simp [Tryz.f90]) fun X hn hX => ?_
  have f1 := hk.fits.obl
  have f2 := hk.src.ob8
  have m40 := hk.tgt.m40
  have tol := hk.tgt.tol
  repeat' (first | (with_reducible first | refine V_seq ?_ | refine V_block ?_ | refine V_skip ?_ | refine V_ret ?_ | refine V_exit ?_) | ((with_reducible refine V_cond ?_); simp only [go_sem, simprocAttr]) | ((refine V_region (by rw [hn]; rfl) ?_); intro K hK) | ((first | with_reducible refine evOps_n ?_ | ((with_reducible apply evOps_g); rfl)); intro K hK; simp (contextual := true) only [go_sem, simprocAttr]) | with_reducible refine evOps_nil ?_ | ((with_reducible refine hK _ ?_); clear hK K) | (with_reducible first | refine And.intro ?_ ?_ | refine nxt_n ?_ | refine nxt_r ?_ | refine nxt_e ?_ | refine blk_n ?_ | refine blk_r ?_ | refine blk_same ?_ | refine blk_other (by decide) ?_ | refine noG_n ?_ | refine noG_r ?_ | refine noG_e ?_ | refine inR_mk ?_ ?_) | (refine fun (hc : (_ : Bool) = _) => ?_; try simp only [hcS] at hc))
  all_goals try (first | (with_reducible assumption) | ((try simp only [Cat.F, Cat.T, Cat.I, Cat.C, Fun.O, Fun.A, Cat.Entry, Int.toNat_natCast] at *); omega))
  refine V_loopK (G := {x : Nat // x ≤ k.obs.length ∧ (True)}) (fun ⟨x, _⟩ => [(16, iv x), (5, .sl 0)]) [0, 1, 4, 14, 15] (fun ⟨x, _⟩ => [(0, ⟨1, .arr (intss (rSeats k y x))⟩)]) [0] (fun zz => k.obs.length - zz.1) ⟨0, Nat.zero_le _, by first | trivial | simp⟩ ?_ ?_
  · exact Imp.auto hX (by simp [go_sem, simprocAttr])
  rintro ⟨x, hix, hwx⟩
  simp only [go_sem, simprocAttr]
  rcases Nat.lt_or_ge x k.obs.length with hlt | hge
  · have s1 := rSeats_len (k := k) (y := y) x
    have s2 : x * k.tgt.fr.length ≤ 8 * 40 := Nat.mul_le_mul (by omega) m40
    have s3 := rSe_len (k := k) (y := y) (x := x)
    have s4 := Cat.hom_len k.tgt y (k.obs.getD x 0)
    repeat' (first | (with_reducible first | refine V_seq ?_ | refine V_block ?_ | refine V_skip ?_ | refine V_ret ?_ | refine V_exit ?_) | ((with_reducible refine V_cond ?_); simp only [go_sem, simprocAttr]) | ((refine V_region (by rw [hn]; rfl) ?_); intro K hK) | ((first | with_reducible refine evOps_n ?_ | ((with_reducible apply evOps_g); rfl)); intro K hK; simp (contextual := true) only [go_sem, simprocAttr]) | with_reducible refine evOps_nil ?_ | ((with_reducible refine hK _ ?_); clear hK K) | (with_reducible first | refine And.intro ?_ ?_ | refine nxt_n ?_ | refine nxt_r ?_ | refine nxt_e ?_ | refine blk_n ?_ | refine blk_r ?_ | refine blk_same ?_ | refine blk_other (by decide) ?_ | refine noG_n ?_ | refine noG_r ?_ | refine noG_e ?_ | refine inR_mk ?_ ?_) | ((with_reducible refine evCall_at 112 ?_); refine EvCall.rq (a := (sp_Category_hom (c:=k.tgt) ?_ ?_)) (b := cal_Category_hom) (c := ?_); all_goals try simp only [go_sem, simprocAttr]) | (refine fun (hc : (_ : Bool) = _) => ?_; try simp only [hcS] at hc))
    all_goals try (first | (with_reducible assumption) | ((try simp only [Cat.F, Cat.T, Cat.I, Cat.C, Fun.O, Fun.A, Cat.Entry, Int.toNat_natCast] at *); omega))
    refine V_loopK (G := {j : Nat // j ≤ (k.tgt.hom y (k.obs.getD x 0)).length ∧ (True)}) (fun ⟨j, _⟩ => [(28, iv j), (5, .sl 0)]) [0, 1, 4, 6, 14, 15, 16, 26, 27] (fun ⟨j, _⟩ => [(0, ⟨1, .arr (intss (rSeats k y x ++ (rSe k y x).take j))⟩), (1, ⟨1, .arr (ints (k.tgt.hom y (k.obs.getD x 0)))⟩)]) [0, 1] (fun zz => (k.tgt.hom y (k.obs.getD x 0)).length - zz.1) ⟨0, Nat.zero_le _, by first | trivial | simp⟩ ?_ ?_
    · exact Imp.auto hX (by simp [go_sem, simprocAttr])
    rintro ⟨j, hij, hwj⟩
    simp only [go_sem, simprocAttr]
    rcases Nat.lt_or_ge j (k.tgt.hom y (k.obs.getD x 0)).length with hlt2 | hge2
    · have e1 := rSe_take (k := k) (y := y) (x := x) hlt2
      repeat' (first | (with_reducible first | refine V_seq ?_ | refine V_block ?_ | refine V_skip ?_ | refine V_ret ?_ | refine V_exit ?_) | ((with_reducible refine V_cond ?_); simp only [go_sem, simprocAttr]) | ((refine V_region (by rw [hn]; rfl) ?_); intro K hK) | ((first | with_reducible refine evOps_n ?_ | ((with_reducible apply evOps_g); rfl)); intro K hK; simp (contextual := true) only [go_sem, simprocAttr]) | with_reducible refine evOps_nil ?_ | ((with_reducible refine hK _ ?_); clear hK K) | (with_reducible first | refine And.intro ?_ ?_ | refine nxt_n ?_ | refine nxt_r ?_ | refine nxt_e ?_ | refine blk_n ?_ | refine blk_r ?_ | refine blk_same ?_ | refine blk_other (by decide) ?_ | refine noG_n ?_ | refine noG_r ?_ | refine noG_e ?_ | refine inR_mk ?_ ?_) | (refine fun (hc : (_ : Bool) = _) => ?_; try simp only [hcS] at hc))
      all_goals try (first | (with_reducible assumption) | ((try simp only [Cat.F, Cat.T, Cat.I, Cat.C, Fun.O, Fun.A, Cat.Entry, Int.toNat_natCast] at *); omega))
      · refine ⟨⟨j + 1, by omega, (by trivial)⟩, by simp only; omega, Imp.auto hX (by simp only [go_sem, simprocAttr, e1, ← List.append_assoc])⟩
    · have e1 : (rSe k y x).take j = rSe k y x := List.take_of_length_le (by omega)
      have e2 := rSeats_succ (k := k) (y := y) (n := x)
      repeat' (first | (with_reducible first | refine V_seq ?_ | refine V_block ?_ | refine V_skip ?_ | refine V_ret ?_ | refine V_exit ?_) | ((with_reducible refine V_cond ?_); simp only [go_sem, simprocAttr]) | ((refine V_region (by rw [hn]; rfl) ?_); intro K hK) | ((first | with_reducible refine evOps_n ?_ | ((with_reducible apply evOps_g); rfl)); intro K hK; simp (contextual := true) only [go_sem, simprocAttr]) | with_reducible refine evOps_nil ?_ | ((with_reducible refine hK _ ?_); clear hK K) | (with_reducible first | refine And.intro ?_ ?_ | refine nxt_n ?_ | refine nxt_r ?_ | refine nxt_e ?_ | refine blk_n ?_ | refine blk_r ?_ | refine blk_same ?_ | refine blk_other (by decide) ?_ | refine noG_n ?_ | refine noG_r ?_ | refine noG_e ?_ | refine inR_mk ?_ ?_) | (refine fun (hc : (_ : Bool) = _) => ?_; try simp only [hcS] at hc))
      all_goals try (first | (with_reducible assumption) | ((try simp only [Cat.F, Cat.T, Cat.I, Cat.C, Fun.O, Fun.A, Cat.Entry, Int.toNat_natCast] at *); omega))
      · refine ⟨⟨x + 1, by omega, (by trivial)⟩, by simp only; omega, Imp.auto hX (by simp only [go_sem, simprocAttr, e1, ← e2])⟩
  · obtain rfl : x = k.obs.length := by omega
    repeat' (first | (with_reducible first | refine V_seq ?_ | refine V_block ?_ | refine V_skip ?_ | refine V_ret ?_ | refine V_exit ?_) | ((with_reducible refine V_cond ?_); simp only [go_sem, simprocAttr]) | ((refine V_region (by rw [hn]; rfl) ?_); intro K hK) | ((first | with_reducible refine evOps_n ?_ | ((with_reducible apply evOps_g); rfl)); intro K hK; simp (contextual := true) only [go_sem, simprocAttr]) | with_reducible refine evOps_nil ?_ | ((with_reducible refine hK _ ?_); clear hK K) | (with_reducible first | refine And.intro ?_ ?_ | refine nxt_n ?_ | refine nxt_r ?_ | refine nxt_e ?_ | refine blk_n ?_ | refine blk_r ?_ | refine blk_same ?_ | refine blk_other (by decide) ?_ | refine noG_n ?_ | refine noG_r ?_ | refine noG_e ?_ | refine inR_mk ?_ ?_) | (refine fun (hc : (_ : Bool) = _) => ?_; try simp only [hcS] at hc))
    all_goals try (first | (with_reducible assumption) | ((try simp only [Cat.F, Cat.T, Cat.I, Cat.C, Fun.O, Fun.A, Cat.Entry, Int.toNat_natCast] at *); omega))
    · (first | refine ret_auto ?_ | refine ret_auto' ?_); simp only [go_sem, simprocAttr, Tryz.f90]
theorem cal_places : Callable Tryz.prog 91 := ⟨_, Tryz.func91, rfl, rfl⟩
theorem sp_places {A : List (List Int)} (hl : A.length ≤ 1048576) (hb : ∀ i, i < A.length → (A.getD i []).length ≤ 64) (hx : ∀ i, i < A.length → ∀ x ∈ A.getD i [], 0 ≤ x ∧ x < 256) : Spec Tryz.prog 91 [.bor [] (intss A)] [] (.sl 0) [(0, ⟨1, .arr (mapD Tryz.prog 9 2 A.length (pm A A.length))⟩)] := by
  refine spec_of_V (E := TE) 0 Tryz.func91 rfl (by simp [Tryz.f91]) fun X hn hX => ?_
  repeat' (first | (with_reducible first | refine V_seq ?_ | refine V_block ?_ | refine V_skip ?_ | refine V_ret ?_ | refine V_exit ?_) | ((with_reducible refine V_cond ?_); simp only [go_sem, simprocAttr]) | ((refine V_region (by rw [hn]; rfl) ?_); intro K hK) | ((first | with_reducible refine evOps_n ?_ | ((with_reducible apply evOps_g); rfl)); intro K hK; simp (contextual := true) only [go_sem, simprocAttr]) | with_reducible refine evOps_nil ?_ | ((with_reducible refine hK _ ?_); clear hK K) | (with_reducible first | refine And.intro ?_ ?_ | refine nxt_n ?_ | refine nxt_r ?_ | refine nxt_e ?_ | refine blk_n ?_ | refine blk_r ?_ | refine blk_same ?_ | refine blk_other (by decide) ?_ | refine noG_n ?_ | refine noG_r ?_ | refine noG_e ?_ | refine inR_mk ?_ ?_) | (refine hook_makeMap (k := 9) (e := 2) (by simp only [go_sem, simprocAttr]) ?_; simp only [go_sem, simprocAttr]) | (refine fun (hc : (_ : Bool) = _) => ?_; try simp only [hcS] at hc))
  all_goals try (first | (with_reducible assumption) | ((try simp only [Cat.F, Cat.T, Cat.I, Cat.C, Fun.O, Fun.A, Cat.Entry, Int.toNat_natCast] at *); omega))
  refine V_loopK (G := {i : Nat // i ≤ A.length ∧ (True)}) (fun ⟨i, _⟩ => [(9, iv i), (3, .sl 0)]) [2, 7, 8] (fun ⟨i, _⟩ => [(0, ⟨1, .arr (mapD Tryz.prog 9 2 i (pm A i))⟩)]) [0] (fun zz => A.length - zz.1) ⟨0, Nat.zero_le _, by first | trivial | simp⟩ ?_ ?_
  · exact Imp.auto hX (by simp [go_sem, simprocAttr])
  rintro ⟨i, hii, hwi⟩
  simp only [go_sem, simprocAttr]
  rcases Nat.lt_or_ge i A.length with hlt | hge
  · have m3 := hb i hlt
    have m4 := hx i hlt
    have m5 := key_size m3
    have m6 : i < maxLen := by unfold maxLen; omega
    repeat' (first | (with_reducible first | refine V_seq ?_ | refine V_block ?_ | refine V_skip ?_ | refine V_ret ?_ | refine V_exit ?_) | ((with_reducible refine V_cond ?_); simp only [go_sem, simprocAttr]) | ((refine V_region (by rw [hn]; rfl) ?_); intro K hK) | ((first | with_reducible refine evOps_n ?_ | ((with_reducible apply evOps_g); rfl)); intro K hK; simp (contextual := true) only [go_sem, simprocAttr]) | with_reducible refine evOps_nil ?_ | ((with_reducible refine hK _ ?_); clear hK K) | (with_reducible first | refine And.intro ?_ ?_ | refine nxt_n ?_ | refine nxt_r ?_ | refine nxt_e ?_ | refine blk_n ?_ | refine blk_r ?_ | refine blk_same ?_ | refine blk_other (by decide) ?_ | refine noG_n ?_ | refine noG_r ?_ | refine noG_e ?_ | refine inR_mk ?_ ?_) | ((with_reducible refine evCall_at 53 ?_); refine EvCall.rq (a := (sp_key_one (r:=A.getD i []) (by first | omega | assumption | rfl) (by first | omega | assumption | rfl))) (b := cal_key) (c := ?_); all_goals try simp only [go_sem, simprocAttr]) | (refine hook_mapUpdate (i := 0) (cv := 1) (n := i) (z := (i : Int)) (D := pm A i) mapT rfl (by simp only [go_sem, simprocAttr]) (by simp only [go_sem, simprocAttr]) (by simp only [go_sem, simprocAttr]) m5 (by simp only [go_sem, simprocAttr]) ⟨by omega, by omega⟩ m6 ?_; simp only [go_sem, simprocAttr]) | (refine fun (hc : (_ : Bool) = _) => ?_; try simp only [hcS] at hc))
    all_goals try (first | (with_reducible assumption) | ((try simp only [Cat.F, Cat.T, Cat.I, Cat.C, Fun.O, Fun.A, Cat.Entry, Int.toNat_natCast] at *); omega))
    · have e9 : pm A (i + 1) = (pm A i).put (.string (keyS [A.getD i []]).data.toList) (.lit (.int .i64 i)) := rfl
      refine ⟨⟨i + 1, by omega, (by trivial)⟩, by simp only; omega, Imp.auto hX (by simp only [go_sem, simprocAttr, e9])⟩
  · obtain rfl : i = A.length := by omega
    repeat' (first | (with_reducible first | refine V_seq ?_ | refine V_block ?_ | refine V_skip ?_ | refine V_ret ?_ | refine V_exit ?_) | ((with_reducible refine V_cond ?_); simp only [go_sem, simprocAttr]) | ((refine V_region (by rw [hn]; rfl) ?_); intro K hK) | ((first | with_reducible refine evOps_n ?_ | ((with_reducible apply evOps_g); rfl)); intro K hK; simp (contextual := true) only [go_sem, simprocAttr]) | with_reducible refine evOps_nil ?_ | ((with_reducible refine hK _ ?_); clear hK K) | (with_reducible first | refine And.intro ?_ ?_ | refine nxt_n ?_ | refine nxt_r ?_ | refine nxt_e ?_ | refine blk_n ?_ | refine blk_r ?_ | refine blk_same ?_ | refine blk_other (by decide) ?_ | refine noG_n ?_ | refine noG_r ?_ | refine noG_e ?_ | refine inR_mk ?_ ?_) | (refine fun (hc : (_ : Bool) = _) => ?_; try simp only [hcS] at hc))
    all_goals try (first | (with_reducible assumption) | ((try simp only [Cat.F, Cat.T, Cat.I, Cat.C, Fun.O, Fun.A, Cat.Entry, Int.toNat_natCast] at *); omega))
    · (first | refine ret_auto ?_ | refine ret_auto' ?_); simp only [go_sem, simprocAttr, Tryz.f91]
theorem cal_rightAt_seat : Callable Tryz.prog 38 := ⟨_, Tryz.func38, rfl, rfl⟩
theorem sp_rightAt_seat {A : List (List Int)} {d3 d4 : Dt} {x h : Int} (hA : KeyOK A) (hm : [x, h] ∈ A) : Spec Tryz.prog 38 [.bptr [] [intss A, mapD Tryz.prog 9 2 A.length (pm A A.length), d3, d4], iv x, iv h] [] (iv (fnd A [x, h])) [] := by
  refine spec_of_V (E := TE) 0 Tryz.func38 rfl (by simp [Tryz.f38]) fun X hn hX => ?_
  have k2 := hA.b _ hm
  have k1 : ([x, h] : List Int).length ≤ 64 := by simp
  have k3 := key_size k1
  have k4 := pm_fnd hA (.lit (.int .i64 0)) hm
  repeat' (first | (with_reducible first | refine V_seq ?_ | refine V_skip ?_ | refine V_ret ?_) | ((with_reducible refine V_cond ?_); simp only [go_sem, simprocAttr]) | ((first | refine V_region (by rw [hn]; rfl) ?_ | refine V_drawn hmix (by rw [hn]; rfl) ?_); intro K hK) | ((first | with_reducible refine evOps_n ?_ | ((with_reducible apply evOps_g); rfl) | with_reducible refine evOpsD_n ?_ | ((with_reducible apply evOpsD_g); rfl)); intro K hK; simp (contextual := true) only [go_sem, simprocAttr]) | with_reducible refine evOps_nil ?_ | ((with_reducible refine evOpsD_nil ?_ ?_); kernel_rfl) | ((with_reducible refine hK _ ?_); clear hK K) | (with_reducible first | refine And.intro ?_ ?_ | refine nxt_n ?_ | refine nxt_r ?_ | refine inR_mk ?_ ?_) | ((with_reducible refine evCall_at 53 ?_); refine EvCall.rq (a := (sp_key_one (r:=[x,h]) (by first | omega | assumption | rfl) (by first | omega | assumption | rfl))) (b := cal_key) (c := ?_); all_goals try simp only [go_sem, simprocAttr]) | (refine hook_lookup_b mapT (by simp only [go_sem, simprocAttr]; rfl) (by simp only [go_sem, simprocAttr]) (by simp only [go_sem, simprocAttr]) k3 k4 ?_; simp only [go_sem, simprocAttr]) | (refine fun (hc : (_ : Bool) = _) => ?_; try simp only [hcS] at hc))
  all_goals try (first | (with_reducible assumption) | ((try simp only [Cat.F, Cat.T, Cat.I, Cat.C, Fun.O, Fun.A, Cat.Entry, Int.toNat_natCast] at *); omega))
  · (first | refine ret_auto ?_ | refine ret_auto' ?_); simp only [go_sem, simprocAttr, Tryz.f38]
theorem one_nilMap4 : (Value.map none).oneCell' = true := rfl
theorem one_nilSl4 : (Value.slice none 0 0).oneCell' = true := rfl
theorem rvsT_nil2 {A : List (List Int)} {xs : List RawV} : rvsT A xs [] = [] := rfl
attribute [local go_sem] genT_zero szO_zero rvsT_nil2 one_nilMap4 one_nilSl4 List.set_cons_zero List.set_cons_succ
noncomputable abbrev rtL (k : Fun) (f : SF) (y : Int) : List (List Int) := genL f (rOb k y) (rJ k (rSeats k y k.obs.length))
theorem keyOK_seats {k : Fun} {y : Int} (hk : IsFun k) : KeyOK (rSeats k y k.obs.length) := by
  refine ⟨fun r hr x hx => ?_, rSeats_nodup⟩
  obtain ⟨z, h, hz, hh, rfl⟩ := mem_rSeats.1 hr
  obtain ⟨g1, g2, g3, g4⟩ := Cat.mem_hom.1 hh
  have f1 := hk.fits.obl
  have f2 := hk.src.ob8
  have m40 := hk.tgt.m40
  simp only [List.mem_cons, List.not_mem_nil, or_false] at hx
  rcases hx with rfl | rfl <;> omega
theorem cal_rightLists : Callable Tryz.prog 66 := ⟨_, Tryz.func66, rfl, rfl⟩
theorem sp_rightLists_no {k : Fun} {f : SF} {y : Int} (hk : IsFun k) (hS : 64 < (rSeats k y k.obs.length).length) : Spec Tryz.prog 66 [.bptr [] (funD k), .bptr [] (sfD f), iv y] [] (.tup [.v (.pointer none), .v (.bool false)]) [] := by
  refine spec_of_V (E := TE) 0 Tryz.func66 rfl (by simp [Tryz.f66]) fun X hn hX => ?_
  repeat' (first | (with_reducible first | refine V_seq ?_ | refine V_block ?_ | refine V_skip ?_ | refine V_ret ?_ | refine V_exit ?_) | ((with_reducible refine V_cond ?_); simp only [go_sem, simprocAttr]) | ((first | refine V_region (by rw [hn]; rfl) ?_ | refine V_drawn hmix (by rw [hn]; rfl) ?_); intro K hK) | ((first | with_reducible refine evOps_n ?_ | ((with_reducible apply evOps_g); rfl) | with_reducible refine evOpsD_n ?_ | ((with_reducible apply evOpsD_g); rfl)); intro K hK; simp (contextual := true) only [go_sem, simprocAttr]) | with_reducible refine evOps_nil ?_ | ((with_reducible refine evOpsD_nil ?_ ?_); kernel_rfl) | ((with_reducible refine hK _ ?_); clear hK K) | (with_reducible first | refine And.intro ?_ ?_ | refine nxt_n ?_ | refine nxt_r ?_ | refine nxt_e ?_ | refine blk_n ?_ | refine blk_r ?_ | refine blk_same ?_ | refine blk_other (by decide) ?_ | refine noG_n ?_ | refine noG_r ?_ | refine noG_e ?_ | refine inR_mk ?_ ?_) | ((with_reducible refine evCall_at 90 ?_); refine EvCall.rq (a := (sp_rightSeats ?_)) (b := cal_rightSeats) (c := ?_); all_goals try simp only [go_sem, simprocAttr]) | (refine fun (hc : (_ : Bool) = _) => ?_; try simp only [hcS] at hc))
  all_goals try (first | (with_reducible assumption) | ((try simp only [Cat.F, Cat.T, Cat.I, Cat.C, Fun.O, Fun.A, Cat.Entry, Int.toNat_natCast] at *); omega))
  · (first | refine ret_auto ?_ | refine ret_auto' ?_); simp only [go_sem, simprocAttr, Tryz.f66]
  all_goals omega
theorem sp_rightLists_yes {k : Fun} {f : SF} {y : Int} (hk : IsFun k) (hf : IsSF f) (he : f.shape = k.src) (hS : (rSeats k y k.obs.length).length ≤ 64) : Spec Tryz.prog 66 [.bptr [] (funD k), .bptr [] (sfD f), iv y] [] (.tup [.ptr 0 0, bv (decide ((rtL k f y).length ≤ 16))])
    [(0, ⟨1, .box [.sl 1, .sl 2, .sl 3, .sl 4]⟩), (1, ⟨1, .arr (intss (rSeats k y k.obs.length))⟩), (2, ⟨1, .arr (mapD Tryz.prog 9 2 (rSeats k y k.obs.length).length (pm (rSeats k y k.obs.length) (rSeats k y k.obs.length).length))⟩),
     (3, ⟨1, .arr (intss ((rtL k f y).take 17))⟩), (4, ⟨1, .arr (mapD Tryz.prog 9 2 ((rtL k f y).take 17).length (pm ((rtL k f y).take 17) ((rtL k f y).take 17).length))⟩)] := by
  refine spec_of_V (E := TE) 0 Tryz.func66 rfl (by simp [Tryz.f66]) fun X hn hX => ?_
  refine V_nameP 1 f (by simp only [go_sem, simprocAttr]) fun xs hx hL => ?_
  simp only [go_sem, simprocAttr]
  have m40 := hk.src.m40
  have tol := hk.src.tol
  have col := hk.tgt.col
  have coe := hk.tgt.coe
  have hko := keyOK_seats (y := y) hk
  have hgw := seat_gen (y := y) hk
  have arl := hk.fits.arl
  have arw := hk.fits.arw
  have szl := hf.szl
  have acl := hf.acl
  have sok := fun i (hi : i < (rSeats k y k.obs.length).length) => seat_ok hk (memL_getD (l := rSeats k y k.obs.length) hi)
  have snx := fun i a hi ha e => seat_next (y := y) hk (i := i) (a := a) hi ha e
  have obl := rOb_len (k := k) (y := y)
  have obA := fun i hi => rOb_at (k := k) (y := y) (i := i) hi
  have hw := gen_w hf (O := rOb k y) (J := rJ k (rSeats k y k.obs.length)) (by rw [he]; exact hgw)
  have hob : ∀ i, i < (rOb k y).length → 0 ≤ (rOb k y).getD i 0 ∧ (rOb k y).getD i 0 < f.shape.ob := by rw [he]; exact hgw.ob
  have hsz := szO_sz hf hob
  have hgl : rtL k f y = genL f (rOb k y) (rJ k (rSeats k y k.obs.length)) := rfl
  obtain ⟨L, hL2⟩ : ∃ L, rtL k f y = L := ⟨_, rfl⟩
  have hLv : ∀ Q ∈ L, Q.length = (rOb k y).length ∧ ∀ i, i < Q.length → 0 ≤ Q.getD i 0 ∧ Q.getD i 0 < 16 := fun Q hQ => by
    rw [← hL2] at hQ
    exact ⟨genL_len hQ, fun i hi => genL_val hf hob hQ hi⟩
  rw [hL2] at hgl ⊢
  unfold genL at hgl
  rw [he] at hw hgl
  obtain ⟨O, hO⟩ : ∃ O, rOb k y = O := ⟨_, rfl⟩
  obtain ⟨T, hT⟩ : ∃ T, rSeats k y k.obs.length = T := ⟨_, rfl⟩
  have sp_rs := sp_rightSeats (y := y) hk
  rw [hO] at obl obA hw hob hsz hgl hLv
  rw [hT] at hko sok snx obl obA hw sp_rs hS hgl ⊢
  obtain ⟨o, ho⟩ : ∃ o : Nat → Nat, (fun i => (O.getD i 0).toNat) = o := ⟨_, rfl⟩
  obtain ⟨J, hJ⟩ : ∃ J, rJ k T = J := ⟨_, rfl⟩
  have hJ2 : ∀ i a : Nat, J i a = (fnd T [k.src.to.getD a 0, k.tgt.C ((T.getD i []).getD 1 0) (k.ars.getD a 0)]).toNat := fun i a => by rw [← hJ]; rfl
  have ho2 : ∀ i, o i = (O.getD i 0).toNat := fun i => by rw [← ho]
  rw [ho, hJ] at hw hgl
  have heo : f.shape.ob = k.src.ob := by rw [he]
  have hem : f.shape.fr.length = k.src.fr.length := by rw [he]
  have tb : ∀ i, i < T.length → (T.getD i []).length ≤ 64 := fun i hi => by have := (sok i hi).len; omega
  have tx : ∀ i, i < T.length → ∀ x ∈ T.getD i [], 0 ≤ x ∧ x < 256 := fun i hi => hko.b _ (memL_getD hi)
  repeat' (first | (with_reducible first | refine V_seq ?_ | refine V_block ?_ | refine V_skip ?_ | refine V_ret ?_ | refine V_exit ?_) | ((with_reducible refine V_cond ?_); simp only [go_sem, simprocAttr]) | ((first | refine V_region (by rw [hn]; rfl) ?_ | refine V_drawn hmix (by rw [hn]; rfl) ?_); intro K hK) | ((first | with_reducible refine evOps_n ?_ | ((with_reducible apply evOps_g); rfl) | with_reducible refine evOpsD_n ?_ | ((with_reducible apply evOpsD_g); rfl)); intro K hK; simp (contextual := true) only [go_sem, simprocAttr]) | with_reducible refine evOps_nil ?_ | ((with_reducible refine evOpsD_nil ?_ ?_); kernel_rfl) | ((with_reducible refine hK _ ?_); clear hK K) | (with_reducible first | refine And.intro ?_ ?_ | refine nxt_n ?_ | refine nxt_r ?_ | refine nxt_e ?_ | refine blk_n ?_ | refine blk_r ?_ | refine blk_same ?_ | refine blk_other (by decide) ?_ | refine noG_n ?_ | refine noG_r ?_ | refine noG_e ?_ | refine inR_mk ?_ ?_) | ((with_reducible refine evCall_at 90 ?_); refine EvCall.mk (sp_rs) cal_rightSeats [(0,0)] [] (by simp [go_sem] <;> (repeat' (first | rfl | constructor))) (by simp [go_sem] <;> (repeat' (first | rfl | constructor))) ?_; all_goals try simp only [go_sem, simprocAttr]) | ((with_reducible refine evCall_at 91 ?_); refine EvCall.rq (a := (sp_places (A:=T) ?_ ?_ ?_)) (b := cal_places) (c := ?_); all_goals try simp only [go_sem, simprocAttr]) | (refine fun (hc : (_ : Bool) = _) => ?_; try simp only [hcS] at hc))
  all_goals try (first | (with_reducible assumption) | ((try simp only [Cat.F, Cat.T, Cat.I, Cat.C, Fun.O, Fun.A, Cat.Entry, Int.toNat_natCast] at *); omega))
  refine V_loopK (G := {i : Nat // i ≤ T.length ∧ (True)}) (fun ⟨i, _⟩ => [(43, iv i), (9, .sl 3), (10, .sl 4)]) [0, 1, 6, 7, 8, 41, 42] (fun ⟨i, _⟩ => [(3, ⟨1, .arr (ints (szO f (O.take i)))⟩), (4, ⟨1, .arr (rulesD (rvsT f.acts xs (genT k.src o J i)))⟩)]) [3, 4] (fun zz => T.length - zz.1) ⟨0, Nat.zero_le _, by first | trivial | simp⟩ ?_ ?_
  · exact Imp.auto hX (by simp [go_sem, simprocAttr])
  rintro ⟨i, hii, hwi⟩
  simp only [go_sem, simprocAttr]
  rcases Nat.lt_or_ge i T.length with hlt | hge
  · have ok := sok i hlt
    have ok1 := ok.len
    have ok2 := ok.x0
    have ok3 := ok.x1
    have ok4 := ok.h0
    have ok5 := ok.h1
    have eo := obA i hlt
    obtain ⟨x, hx'⟩ : ∃ x : Nat, (T.getD i []).getD 0 0 = x := ⟨_, (Int.toNat_of_nonneg ok2).symm⟩
    have ol := outI_len k.src x k.src.fr.length
    have t1 := genT_len (c := k.src) (o := o) (J := J) i
    have t2 : i * k.src.fr.length ≤ 64 * 40 := Nat.mul_le_mul (by omega) m40
    have t3 := rvsT_len (acts := f.acts) (xs := xs) (T := genT k.src o J i)
    have f1 := szO_take (f := f) (O := O) (i := i) (by omega)
    rw [eo, hx'] at f1
    have fl : (szO f (O.take i)).length = i := by rw [szO_len, List.length_take]; omega
    have ox : o i = x := by rw [ho2, eo, hx']; rfl
    have szx : x < f.sizes.length := by omega
    have frl := genR_lenI (c := k.src) (o := o) (J := J) (i := i) (n := k.src.fr.length)
    rw [ox] at frl
    have a4 := (coe ((T.getD i []).getD 1 0).toNat (by omega)).1
    repeat' (first | (rw [hx']) | (with_reducible first | refine V_seq ?_ | refine V_block ?_ | refine V_skip ?_ | refine V_ret ?_ | refine V_exit ?_) | ((with_reducible refine V_cond ?_); simp only [go_sem, simprocAttr]) | ((first | refine V_region (by rw [hn]; rfl) ?_ | refine V_drawn hmix (by rw [hn]; rfl) ?_); intro K hK) | ((first | with_reducible refine evOps_n ?_ | ((with_reducible apply evOps_g); rfl) | with_reducible refine evOpsD_n ?_ | ((with_reducible apply evOpsD_g); rfl)); intro K hK; simp (contextual := true) only [go_sem, simprocAttr]) | with_reducible refine evOps_nil ?_ | ((with_reducible refine evOpsD_nil ?_ ?_); kernel_rfl) | ((with_reducible refine hK _ ?_); clear hK K) | (with_reducible first | refine And.intro ?_ ?_ | refine nxt_n ?_ | refine nxt_r ?_ | refine nxt_e ?_ | refine blk_n ?_ | refine blk_r ?_ | refine blk_same ?_ | refine blk_other (by decide) ?_ | refine noG_n ?_ | refine noG_r ?_ | refine noG_e ?_ | refine inR_mk ?_ ?_) | ((with_reducible refine evCall_at 92 ?_); refine EvCall.rq (a := (sp_Category_outOf (c:=k.src) (x:=x) ?_)) (b := cal_Category_outOf) (c := ?_); all_goals try simp only [go_sem, simprocAttr]) | (refine fun (hc : (_ : Bool) = _) => ?_; try simp only [hcS] at hc))
    all_goals try (first | (with_reducible assumption) | ((try simp only [Cat.F, Cat.T, Cat.I, Cat.C, Fun.O, Fun.A, Cat.Entry, Int.toNat_natCast] at *); omega))
    refine V_loopK (G := {q : Nat // q ≤ (outI k.src x k.src.fr.length).length ∧ (True)}) (fun ⟨q, _⟩ => [(68, iv q), (9, .sl 6), (10, .sl 4), (58, .sl 5)]) [0, 1, 6, 7, 8, 11, 12, 41, 42, 43, 66, 67] (fun ⟨q, _⟩ => [(6, ⟨1, .arr (ints (szO f (O.take i) ++ [f.sizes.getD x 0]))⟩), (4, ⟨1, .arr (rulesD (rvsT f.acts xs (genT k.src o J i ++ (genR k.src o J i k.src.fr.length).take q)))⟩), (7, ⟨1, .arr (ints (outI k.src x k.src.fr.length))⟩)]) [4, 6, 7] (fun zz => (outI k.src x k.src.fr.length).length - zz.1) ⟨0, Nat.zero_le _, by first | trivial | simp⟩ ?_ ?_
    · exact Imp.auto hX (by simp [go_sem, simprocAttr])
    rintro ⟨q, hiq, hwq⟩
    simp only [go_sem, simprocAttr]
    rcases Nat.lt_or_ge q (outI k.src x k.src.fr.length).length with hlt2 | hge2
    · obtain ⟨b, b1, b2, b3, b4⟩ := outI_get hlt2
      obtain ⟨j, j1, j2, j3, j4⟩ := snx i b hlt b2 (by rw [hx']; exact b3)
      have j1' : fnd T [k.src.to.getD b 0, k.tgt.C ((T.getD i []).getD 1 0) (k.ars.getD b 0)] = j := j1
      have j4' : [k.src.to.getD b 0, k.tgt.C ((T.getD i []).getD 1 0) (k.ars.getD b 0)] ∈ T := j4
      have ab := arw b (by omega)
      have htk := genR_take (c := k.src) (o := o) (J := J) (i := i) (n := k.src.fr.length) (k := q) (b := b) (by rw [ox]; exact hlt2) (by rw [ox]; exact b4)
      have ro : Dt.sl 3 (.v (.int .i64 0)) [.v (.int .i64 i), .v (.int .i64 (fnd T [k.src.to.getD b 0, k.tgt.C ((T.getD i []).getD 1 0) (k.ars.getD b 0)])), .v (xs.getD b default).x] = rulesD (rvsT f.acts xs [trG J i b]) := by
        unfold trG
        rw [hJ2, j1']
        rfl
      have r1 : (rvsT f.acts xs [trG J i b]).length = 1 := rfl
      have rl : (rvsT f.acts xs (genT k.src o J i ++ (genR k.src o J i k.src.fr.length).take q)).length ≤ 4000 := by
        rw [rvsT_len, List.length_append, List.length_take]; omega
      have hnx : rvsT f.acts xs (genT k.src o J i ++ (genR k.src o J i k.src.fr.length).take (q + 1)) = rvsT f.acts xs (genT k.src o J i ++ (genR k.src o J i k.src.fr.length).take q) ++ rvsT f.acts xs [trG J i b] := by
        rw [htk, ← List.append_assoc, rvsT_app]
      repeat' (first | (rw [b1]) | (rw [ro]) | (with_reducible first | refine V_seq ?_ | refine V_block ?_ | refine V_skip ?_ | refine V_ret ?_ | refine V_exit ?_) | ((with_reducible refine V_cond ?_); simp only [go_sem, simprocAttr]) | ((first | refine V_region (by rw [hn]; rfl) ?_ | refine V_drawn hmix (by rw [hn]; rfl) ?_); intro K hK) | ((first | with_reducible refine evOps_n ?_ | ((with_reducible apply evOps_g); rfl) | with_reducible refine evOpsD_n ?_ | ((with_reducible apply evOpsD_g); rfl)); intro K hK; simp (contextual := true) only [go_sem, simprocAttr]) | with_reducible refine evOps_nil ?_ | ((with_reducible refine evOpsD_nil ?_ ?_); kernel_rfl) | ((with_reducible refine hK _ ?_); clear hK K) | (with_reducible first | refine And.intro ?_ ?_ | refine nxt_n ?_ | refine nxt_r ?_ | refine nxt_e ?_ | refine blk_n ?_ | refine blk_r ?_ | refine blk_same ?_ | refine blk_other (by decide) ?_ | refine noG_n ?_ | refine noG_r ?_ | refine noG_e ?_ | refine inR_mk ?_ ?_) | ((with_reducible refine evCall_at 67 ?_); refine EvCall.rq (a := (sp_Category_then (c:=k.tgt) ?_ ?_ ?_ ?_)) (b := cal_Category_then) (c := ?_); all_goals try simp only [go_sem, simprocAttr]) | ((with_reducible refine evCall_at 38 ?_); refine EvCall.rq (a := (sp_rightAt_seat (A:=T) (x:=k.src.to.getD b 0) (h:=k.tgt.C ((T.getD i []).getD 1 0) (k.ars.getD b 0)) ?_ ?_)) (b := cal_rightAt_seat) (c := ?_); all_goals try simp only [go_sem, simprocAttr]) | (refine fun (hc : (_ : Bool) = _) => ?_; try simp only [hcS] at hc))
      all_goals try (first | (with_reducible assumption) | ((try simp only [Cat.F, Cat.T, Cat.I, Cat.C, Fun.O, Fun.A, Cat.Entry, Int.toNat_natCast] at *); omega))
      · refine ⟨⟨q + 1, by omega, (by trivial)⟩, by simp only; omega, Imp.auto hX (by simp only [go_sem, simprocAttr, hnx])⟩
    · have e1 : (genR k.src o J i k.src.fr.length).take q = genR k.src o J i k.src.fr.length := List.take_of_length_le (by omega)
      have e2 := genT_succ (c := k.src) (o := o) (J := J) (k := i)
      repeat' (first | (with_reducible first | refine V_seq ?_ | refine V_block ?_ | refine V_skip ?_ | refine V_ret ?_ | refine V_exit ?_) | ((with_reducible refine V_cond ?_); simp only [go_sem, simprocAttr]) | ((first | refine V_region (by rw [hn]; rfl) ?_ | refine V_drawn hmix (by rw [hn]; rfl) ?_); intro K hK) | ((first | with_reducible refine evOps_n ?_ | ((with_reducible apply evOps_g); rfl) | with_reducible refine evOpsD_n ?_ | ((with_reducible apply evOpsD_g); rfl)); intro K hK; simp (contextual := true) only [go_sem, simprocAttr]) | with_reducible refine evOps_nil ?_ | ((with_reducible refine evOpsD_nil ?_ ?_); kernel_rfl) | ((with_reducible refine hK _ ?_); clear hK K) | (with_reducible first | refine And.intro ?_ ?_ | refine nxt_n ?_ | refine nxt_r ?_ | refine nxt_e ?_ | refine blk_n ?_ | refine blk_r ?_ | refine blk_same ?_ | refine blk_other (by decide) ?_ | refine noG_n ?_ | refine noG_r ?_ | refine noG_e ?_ | refine inR_mk ?_ ?_) | (refine fun (hc : (_ : Bool) = _) => ?_; try simp only [hcS] at hc))
      all_goals try (first | (with_reducible assumption) | ((try simp only [Cat.F, Cat.T, Cat.I, Cat.C, Fun.O, Fun.A, Cat.Entry, Int.toNat_natCast] at *); omega))
      · refine ⟨⟨i + 1, by omega, (by trivial)⟩, by simp only; omega, Imp.auto hX (by simp only [go_sem, simprocAttr, e1, ← e2, f1])⟩
  · obtain rfl : i = T.length := by omega
    have eO : O.take T.length = O := List.take_of_length_le (by omega)
    rw [obl] at hw hgl
    rw [eO]
    have t1 := genT_len (c := k.src) (o := o) (J := J) T.length
    have t2 : T.length * k.src.fr.length ≤ 64 * 40 := Nat.mul_le_mul (by omega) m40
    have hrd : RdOk X (RLent (rvsT f.acts xs (genT k.src o J T.length))) := RLent.ok (RLent.mk hw hL)
    have hso := sp_solve_n (rvs := rvsT f.acts xs (genT k.src o J T.length)) (Sz := szO f O) (M := 16) (by rw [rvsT_1]; exact hw.rules) (by rw [szO_len]; omega) (by rw [rvsT_len]; omega) (by omega) (fun i hi => by have := hsz i hi; omega)
    rw [rvsT_1, show allL ((genT k.src o J T.length).map (ruleT f.acts)) (natS (szO f O)) = L from hgl.symm, eat_L _ _ (by simp), List.nil_append] at hso
    have hsol : SpecR Tryz.prog 93 [.bor [] (ints (szO f O)), .bor [] (rulesD (rvsT f.acts xs (genT k.src o J T.length))), .v (.int .i64 16)] [] (.tup [.sl 0, bv (decide (L.length ≤ 16))]) [(0, ⟨1, .arr (intss (L.take 17))⟩)] (RLent (rvsT f.acts xs (genT k.src o J T.length))) := hso
    have lb : ∀ i, i < (L.take 17).length → ((L.take 17).getD i []) ∈ L := fun i hi => List.mem_of_mem_take (memL_getD hi)
    have l0 : (L.take 17).length ≤ 17 := by rw [List.length_take]; omega
    have l1 : ∀ i, i < (L.take 17).length → ((L.take 17).getD i []).length ≤ 64 := fun i hi => by have := (hLv _ (lb i hi)).1; omega
    have l2 : ∀ i, i < (L.take 17).length → ∀ x ∈ (L.take 17).getD i [], 0 ≤ x ∧ x < 256 := fun i hi x hx => by
      obtain ⟨j, hj, e⟩ := mem_getD (d := 0) hx
      have := (hLv _ (lb i hi)).2 j hj
      omega
    obtain ⟨M0, hM0⟩ : ∃ M0, L.take 17 = M0 := ⟨_, rfl⟩
    rw [hM0] at hsol l0 l1 l2 ⊢
    repeat' (first | (refine V_regionX (id := 16) (by rw [hn]; rfl) ?_; intro K hK) | (refine evOpsX_h ?_; intro K hK; refine HkX.callR (f := 93) (caps := []) hrd hsol cal_solve [(0,5)] [3,4] (by simp only [go_sem, simprocAttr]) (by simp [go_sem] <;> first | rfl | exact ⟨rfl, rfl⟩ | exact ⟨rfl, rfl, rfl⟩) (by simp [go_sem] <;> first | rfl | exact ⟨rfl, rfl⟩ | exact ⟨rfl, rfl, rfl⟩) ?_; all_goals try simp only [go_sem, simprocAttr]) | ((with_reducible refine evOpsX_n ?_); intro K hK; simp (contextual := true) only [go_sem, simprocAttr]) | (with_reducible refine evOpsX_nil ?_) | (with_reducible first | refine V_seq ?_ | refine V_block ?_ | refine V_skip ?_ | refine V_ret ?_ | refine V_exit ?_) | ((with_reducible refine V_cond ?_); simp only [go_sem, simprocAttr]) | ((first | refine V_region (by rw [hn]; rfl) ?_ | refine V_drawn hmix (by rw [hn]; rfl) ?_); intro K hK) | ((first | with_reducible refine evOps_n ?_ | ((with_reducible apply evOps_g); rfl) | with_reducible refine evOpsD_n ?_ | ((with_reducible apply evOpsD_g); rfl)); intro K hK; simp (contextual := true) only [go_sem, simprocAttr]) | with_reducible refine evOps_nil ?_ | ((with_reducible refine evOpsD_nil ?_ ?_); kernel_rfl) | ((with_reducible refine hK _ ?_); clear hK K) | (with_reducible first | refine And.intro ?_ ?_ | refine nxt_n ?_ | refine nxt_r ?_ | refine nxt_e ?_ | refine blk_n ?_ | refine blk_r ?_ | refine blk_same ?_ | refine blk_other (by decide) ?_ | refine noG_n ?_ | refine noG_r ?_ | refine noG_e ?_ | refine inR_mk ?_ ?_) | ((with_reducible refine evCall_at 91 ?_); refine EvCall.rq (a := (sp_places (A:=M0) ?_ ?_ ?_)) (b := cal_places) (c := ?_); all_goals try simp only [go_sem, simprocAttr]) | (refine fun (hc : (_ : Bool) = _) => ?_; try simp only [hcS] at hc))
    all_goals try (first | (with_reducible assumption) | ((try simp only [Cat.F, Cat.T, Cat.I, Cat.C, Fun.O, Fun.A, Cat.Entry, Int.toNat_natCast] at *); omega))
    · have e17 : min 17 L.length = M0.length := by rw [← hM0, List.length_take]
      (first | refine ret_auto ?_ | refine ret_auto' ?_); simp only [go_sem, simprocAttr, Tryz.f66]
      rw [e17]
end Go.Eng
