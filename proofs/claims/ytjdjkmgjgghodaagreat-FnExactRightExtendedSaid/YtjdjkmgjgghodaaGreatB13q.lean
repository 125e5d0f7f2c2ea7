/- Lists of elements at places, by the reference; the lists of a right extension by the reference. -/
import Derived.Test.YtjdjkmgjgghodaaGreatKmx
import Derived.Test.YtjdjkmgjgghodaaGreatKdx
import Derived.Test.YtjdjkmgjgghodaaGreatKix
import Derived.Test.YtjdjkmgjgghodaaGreatB10q
set_option linter.unusedSimpArgs false
set_option linter.unusedVariables false
set_option maxRecDepth 100000
set_option maxHeartbeats 16000000
namespace Go.Eng
open Go Go.Proofs Go.Cats
attribute [local go_sem] rSeats_zero List.getD_cons_zero List.getD_cons_succ genT_zero szO_zero lvsT_nil rowsT_nil genR_zero links_ones lvsT_flat1
theorem cal_l23Seats : Callable Tryz.prog 77 := ⟨_, Tryz.func77, rfl, rfl⟩
theorem sp_l23Seats {k : Fun} {y : Int} (hk : IsFun k) : Spec Tryz.prog 77 [funV k, iv y] [] (.sl 0) [(0, ⟨1, .arr (intss (rSeats k y k.obs.length))⟩)] := by
  refine spec_of_V (E := TE) 0 Tryz.func77 rfl (by simp [Tryz.f77]) fun X hn hX => ?_
  have f1 := hk.fits.obl
  have f2 := hk.src.ob8
  have m40 := hk.tgt.m40
  have tol := hk.tgt.tol
  repeat' (first | (with_reducible first | refine V_seq ?_ | refine V_block ?_ | refine V_skip ?_ | refine V_ret ?_ | refine V_exit ?_) | ((with_reducible refine V_cond ?_); simp only [go_sem, simprocAttr]) | ((first | refine V_region (by rw [hn]; rfl) ?_ | refine V_drawn hmix (by rw [hn]; rfl) ?_); intro K hK) | ((first | with_reducible refine evOps_n ?_ | ((with_reducible apply evOps_g); rfl) | with_reducible refine evOpsD_n ?_ | ((with_reducible apply evOpsD_g); rfl)); intro K hK; simp (contextual := true) only [go_sem, simprocAttr]) | with_reducible refine evOps_nil ?_ | ((with_reducible refine evOpsD_nil ?_ ?_); kernel_rfl) | ((with_reducible refine hK _ ?_); clear hK K) | (with_reducible first | refine And.intro ?_ ?_ | refine nxt_n ?_ | refine nxt_r ?_ | refine nxt_e ?_ | refine blk_n ?_ | refine blk_r ?_ | refine blk_same ?_ | refine blk_other (by decide) ?_ | refine noG_n ?_ | refine noG_r ?_ | refine noG_e ?_ | refine inR_mk ?_ ?_) | (refine fun (hc : (_ : Bool) = _) => ?_; try simp only [hcS] at hc))
  all_goals try (first | (with_reducible assumption) | ((try simp only [Cat.F, Cat.T, Cat.I, Cat.C, Fun.O, Fun.A, Cat.Entry, Int.toNat_natCast] at *); omega))
  refine V_loopK (G := {x : Nat // x ≤ k.obs.length ∧ (True)}) (fun ⟨x, _⟩ => [(6, iv x), (5, .sl 1)]) [1, 2, 4] (fun ⟨x, _⟩ => [(1, ⟨1, .arr (intss (rSeats k y x))⟩)]) [1] (fun zz => k.obs.length - zz.1) ⟨0, Nat.zero_le _, by first | trivial | simp⟩ ?_ ?_
  · exact Imp.auto hX (by simp [go_sem, simprocAttr])
  rintro ⟨x, hix, hwx⟩
  simp only [go_sem, simprocAttr]
  rcases Nat.lt_or_ge x k.obs.length with hlt | hge
  · have s1 := rSeats_len (k := k) (y := y) x
    have s2 : x * k.tgt.fr.length ≤ 8 * 40 := Nat.mul_le_mul (by omega) m40
    have s3 := rSe_len (k := k) (y := y) (x := x)
    have s4 := Cat.hom_len k.tgt y (k.obs.getD x 0)
    repeat' (first | (with_reducible first | refine V_seq ?_ | refine V_block ?_ | refine V_skip ?_ | refine V_ret ?_ | refine V_exit ?_) | ((with_reducible refine V_cond ?_); simp only [go_sem, simprocAttr]) | ((first | refine V_region (by rw [hn]; rfl) ?_ | refine V_drawn hmix (by rw [hn]; rfl) ?_); intro K hK) | ((first | with_reducible refine evOps_n ?_ | ((with_reducible apply evOps_g); rfl) | with_reducible refine evOpsD_n ?_ | ((with_reducible apply evOpsD_g); rfl)); intro K hK; simp (contextual := true) only [go_sem, simprocAttr]) | with_reducible refine evOps_nil ?_ | ((with_reducible refine evOpsD_nil ?_ ?_); kernel_rfl) | ((with_reducible refine hK _ ?_); clear hK K) | (with_reducible first | refine And.intro ?_ ?_ | refine nxt_n ?_ | refine nxt_r ?_ | refine nxt_e ?_ | refine blk_n ?_ | refine blk_r ?_ | refine blk_same ?_ | refine blk_other (by decide) ?_ | refine noG_n ?_ | refine noG_r ?_ | refine noG_e ?_ | refine inR_mk ?_ ?_) | ((with_reducible refine evCall_at 99 ?_); refine EvCall.rq (a := (sp_l02Hom (c:=k.tgt) ?_ ?_)) (b := cal_l02Hom) (c := ?_); all_goals try simp only [go_sem, simprocAttr]) | (refine fun (hc : (_ : Bool) = _) => ?_; try simp only [hcS] at hc))
    all_goals try (first | (with_reducible assumption) | ((try simp only [Cat.F, Cat.T, Cat.I, Cat.C, Fun.O, Fun.A, Cat.Entry, Int.toNat_natCast] at *); omega))
    refine V_loopK (G := {j : Nat // j ≤ (k.tgt.hom y (k.obs.getD x 0)).length ∧ (True)}) (fun ⟨j, _⟩ => [(8, iv j), (5, .sl 1)]) [1, 2, 4, 6, 7] (fun ⟨j, _⟩ => [(1, ⟨1, .arr (intss (rSeats k y x ++ (rSe k y x).take j))⟩), (2, ⟨1, .arr (ints (k.tgt.hom y (k.obs.getD x 0)))⟩)]) [1, 2] (fun zz => (k.tgt.hom y (k.obs.getD x 0)).length - zz.1) ⟨0, Nat.zero_le _, by first | trivial | simp⟩ ?_ ?_
    · exact Imp.auto hX (by simp [go_sem, simprocAttr])
    rintro ⟨j, hij, hwj⟩
    simp only [go_sem, simprocAttr]
    rcases Nat.lt_or_ge j (k.tgt.hom y (k.obs.getD x 0)).length with hlt2 | hge2
    · have e1 := rSe_take (k := k) (y := y) (x := x) hlt2
      repeat' (first | (with_reducible first | refine V_seq ?_ | refine V_block ?_ | refine V_skip ?_ | refine V_ret ?_ | refine V_exit ?_) | ((with_reducible refine V_cond ?_); simp only [go_sem, simprocAttr]) | ((first | refine V_region (by rw [hn]; rfl) ?_ | refine V_drawn hmix (by rw [hn]; rfl) ?_); intro K hK) | ((first | with_reducible refine evOps_n ?_ | ((with_reducible apply evOps_g); rfl) | with_reducible refine evOpsD_n ?_ | ((with_reducible apply evOpsD_g); rfl)); intro K hK; simp (contextual := true) only [go_sem, simprocAttr]) | with_reducible refine evOps_nil ?_ | ((with_reducible refine evOpsD_nil ?_ ?_); kernel_rfl) | ((with_reducible refine hK _ ?_); clear hK K) | (with_reducible first | refine And.intro ?_ ?_ | refine nxt_n ?_ | refine nxt_r ?_ | refine nxt_e ?_ | refine blk_n ?_ | refine blk_r ?_ | refine blk_same ?_ | refine blk_other (by decide) ?_ | refine noG_n ?_ | refine noG_r ?_ | refine noG_e ?_ | refine inR_mk ?_ ?_) | (refine fun (hc : (_ : Bool) = _) => ?_; try simp only [hcS] at hc))
      all_goals try (first | (with_reducible assumption) | ((try simp only [Cat.F, Cat.T, Cat.I, Cat.C, Fun.O, Fun.A, Cat.Entry, Int.toNat_natCast] at *); omega))
      · refine ⟨⟨j + 1, by omega, (by trivial)⟩, by simp only; omega, Imp.auto hX (by simp only [go_sem, simprocAttr, e1, ← List.append_assoc])⟩
    · have e1 : (rSe k y x).take j = rSe k y x := List.take_of_length_le (by omega)
      have e2 := rSeats_succ (k := k) (y := y) (n := x)
      repeat' (first | (with_reducible first | refine V_seq ?_ | refine V_block ?_ | refine V_skip ?_ | refine V_ret ?_ | refine V_exit ?_) | ((with_reducible refine V_cond ?_); simp only [go_sem, simprocAttr]) | ((first | refine V_region (by rw [hn]; rfl) ?_ | refine V_drawn hmix (by rw [hn]; rfl) ?_); intro K hK) | ((first | with_reducible refine evOps_n ?_ | ((with_reducible apply evOps_g); rfl) | with_reducible refine evOpsD_n ?_ | ((with_reducible apply evOpsD_g); rfl)); intro K hK; simp (contextual := true) only [go_sem, simprocAttr]) | with_reducible refine evOps_nil ?_ | ((with_reducible refine evOpsD_nil ?_ ?_); kernel_rfl) | ((with_reducible refine hK _ ?_); clear hK K) | (with_reducible first | refine And.intro ?_ ?_ | refine nxt_n ?_ | refine nxt_r ?_ | refine nxt_e ?_ | refine blk_n ?_ | refine blk_r ?_ | refine blk_same ?_ | refine blk_other (by decide) ?_ | refine noG_n ?_ | refine noG_r ?_ | refine noG_e ?_ | refine inR_mk ?_ ?_) | (refine fun (hc : (_ : Bool) = _) => ?_; try simp only [hcS] at hc))
      all_goals try (first | (with_reducible assumption) | ((try simp only [Cat.F, Cat.T, Cat.I, Cat.C, Fun.O, Fun.A, Cat.Entry, Int.toNat_natCast] at *); omega))
      · refine ⟨⟨x + 1, by omega, (by trivial)⟩, by simp only; omega, Imp.auto hX (by simp only [go_sem, simprocAttr, e1, ← e2])⟩
  · obtain rfl : x = k.obs.length := by omega
    repeat' (first | (with_reducible first | refine V_seq ?_ | refine V_block ?_ | refine V_skip ?_ | refine V_ret ?_ | refine V_exit ?_) | ((with_reducible refine V_cond ?_); simp only [go_sem, simprocAttr]) | ((first | refine V_region (by rw [hn]; rfl) ?_ | refine V_drawn hmix (by rw [hn]; rfl) ?_); intro K hK) | ((first | with_reducible refine evOps_n ?_ | ((with_reducible apply evOps_g); rfl) | with_reducible refine evOpsD_n ?_ | ((with_reducible apply evOpsD_g); rfl)); intro K hK; simp (contextual := true) only [go_sem, simprocAttr]) | with_reducible refine evOps_nil ?_ | ((with_reducible refine evOpsD_nil ?_ ?_); kernel_rfl) | ((with_reducible refine hK _ ?_); clear hK K) | (with_reducible first | refine And.intro ?_ ?_ | refine nxt_n ?_ | refine nxt_r ?_ | refine nxt_e ?_ | refine blk_n ?_ | refine blk_r ?_ | refine blk_same ?_ | refine blk_other (by decide) ?_ | refine noG_n ?_ | refine noG_r ?_ | refine noG_e ?_ | refine inR_mk ?_ ?_) | (refine fun (hc : (_ : Bool) = _) => ?_; try simp only [hcS] at hc))
    all_goals try (first | (with_reducible assumption) | ((try simp only [Cat.F, Cat.T, Cat.I, Cat.C, Fun.O, Fun.A, Cat.Entry, Int.toNat_natCast] at *); omega))
    · (first | refine ret_auto ?_ | refine ret_auto' ?_); simp only [go_sem, simprocAttr, Tryz.f77]
theorem cal_l23Links : Callable Tryz.prog 102 := ⟨_, Tryz.func102, rfl, rfl⟩
theorem sp_l23Links {k : Fun} {y : Int} {T : List (List Int)} {o : Nat → Nat} {J : Nat → Nat → Nat} (hk : IsFun k) (hT : rSeats k y k.obs.length = T) (hS : T.length ≤ 64) (ho : ∀ i, i < T.length → ((T.getD i []).getD 0 0) = o i) (hJ : ∀ i a : Nat, J i a = (fnd T [k.src.to.getD a 0, k.tgt.C ((T.getD i []).getD 1 0) (k.ars.getD a 0)]).toNat) : Spec Tryz.prog 102 [funV k, .bor [] (intss T)] [] (.sl 0) [(0, ⟨1, .arr (intss (rowsT (genT k.src o J T.length)))⟩)] := by
  refine spec_of_V (E := TE) 0 Tryz.func102 rfl (by simp [Tryz.f102]) fun X hn hX => ?_
  have m40 := hk.src.m40
  have tol := hk.src.tol
  have col := hk.tgt.col
  have coe := hk.tgt.coe
  have arl := hk.fits.arl
  have arw := hk.fits.arw
  have sok := fun i (hi : i < (rSeats k y k.obs.length).length) => seat_ok hk (memL_getD (l := rSeats k y k.obs.length) hi)
  have snx := fun i a hi ha e => seat_next (y := y) hk (i := i) (a := a) hi ha e
  rw [hT] at sok snx
  have tb : ∀ i, i < T.length → (T.getD i []).length ≤ 1048576 := fun i hi => by have := (sok i hi).len; omega
  repeat' (first | (with_reducible first | refine V_seq ?_ | refine V_block ?_ | refine V_skip ?_ | refine V_ret ?_ | refine V_exit ?_) | ((with_reducible refine V_cond ?_); simp only [go_sem, simprocAttr]) | ((first | refine V_region (by rw [hn]; rfl) ?_ | refine V_drawn hmix (by rw [hn]; rfl) ?_); intro K hK) | ((first | with_reducible refine evOps_n ?_ | ((with_reducible apply evOps_g); rfl) | with_reducible refine evOpsD_n ?_ | ((with_reducible apply evOpsD_g); rfl)); intro K hK; simp (contextual := true) only [go_sem, simprocAttr]) | with_reducible refine evOps_nil ?_ | ((with_reducible refine evOpsD_nil ?_ ?_); kernel_rfl) | ((with_reducible refine hK _ ?_); clear hK K) | (with_reducible first | refine And.intro ?_ ?_ | refine nxt_n ?_ | refine nxt_r ?_ | refine nxt_e ?_ | refine blk_n ?_ | refine blk_r ?_ | refine blk_same ?_ | refine blk_other (by decide) ?_ | refine noG_n ?_ | refine noG_r ?_ | refine noG_e ?_ | refine inR_mk ?_ ?_) | (refine fun (hc : (_ : Bool) = _) => ?_; try simp only [hcS] at hc))
  all_goals try (first | (with_reducible assumption) | ((try simp only [Cat.F, Cat.T, Cat.I, Cat.C, Fun.O, Fun.A, Cat.Entry, Int.toNat_natCast] at *); omega))
  refine V_loopK (G := {i : Nat // i ≤ T.length ∧ (True)}) (fun ⟨i, _⟩ => [(6, iv i), (5, .sl 1)]) [1, 2, 4] (fun ⟨i, _⟩ => [(1, ⟨1, .arr (intss (rowsT (genT k.src o J i)))⟩)]) [1] (fun zz => T.length - zz.1) ⟨0, Nat.zero_le _, by first | trivial | simp⟩ ?_ ?_
  · exact Imp.auto hX (by simp [go_sem, simprocAttr])
  rintro ⟨i, hii, hwi⟩
  simp only [go_sem, simprocAttr]
  rcases Nat.lt_or_ge i T.length with hlt | hge
  · have ok := sok i hlt
    have ok1 := ok.len
    have ok4 := ok.h0
    have ok5 := ok.h1
    have a4 := (coe ((T.getD i []).getD 1 0).toNat (by omega)).1
    have hx' := ho i hlt
    have t1 := genT_len (c := k.src) (o := o) (J := J) i
    have t2 : i * k.src.fr.length ≤ 64 * 40 := Nat.mul_le_mul (by omega) m40
    repeat' (first | (with_reducible first | refine V_seq ?_ | refine V_block ?_ | refine V_skip ?_ | refine V_ret ?_ | refine V_exit ?_) | ((with_reducible refine V_cond ?_); simp only [go_sem, simprocAttr]) | ((first | refine V_region (by rw [hn]; rfl) ?_ | refine V_drawn hmix (by rw [hn]; rfl) ?_); intro K hK) | ((first | with_reducible refine evOps_n ?_ | ((with_reducible apply evOps_g); rfl) | with_reducible refine evOpsD_n ?_ | ((with_reducible apply evOpsD_g); rfl)); intro K hK; simp (contextual := true) only [go_sem, simprocAttr]) | with_reducible refine evOps_nil ?_ | ((with_reducible refine evOpsD_nil ?_ ?_); kernel_rfl) | ((with_reducible refine hK _ ?_); clear hK K) | (with_reducible first | refine And.intro ?_ ?_ | refine nxt_n ?_ | refine nxt_r ?_ | refine nxt_e ?_ | refine blk_n ?_ | refine blk_r ?_ | refine blk_same ?_ | refine blk_other (by decide) ?_ | refine noG_n ?_ | refine noG_r ?_ | refine noG_e ?_ | refine inR_mk ?_ ?_) | (refine fun (hc : (_ : Bool) = _) => ?_; try simp only [hcS] at hc))
    all_goals try (first | (with_reducible assumption) | ((try simp only [Cat.F, Cat.T, Cat.I, Cat.C, Fun.O, Fun.A, Cat.Entry, Int.toNat_natCast] at *); omega))
    refine V_loopK (G := {b : Nat // b ≤ k.src.fr.length ∧ (True)}) (fun ⟨b, _⟩ => [(7, iv b), (5, .sl 1)]) [1, 2, 4, 6] (fun ⟨b, _⟩ => [(1, ⟨1, .arr (intss (rowsT (genT k.src o J i) ++ rowsT (genR k.src o J i b)))⟩)]) [1] (fun zz => k.src.fr.length - zz.1) ⟨0, Nat.zero_le _, by first | trivial | simp⟩ ?_ ?_
    · exact Imp.auto hX (by simp [go_sem, simprocAttr])
    rintro ⟨b, hib, hwb⟩
    simp only [go_sem, simprocAttr]
    rcases Nat.lt_or_ge b k.src.fr.length with hlt2 | hge2
    · have t3 := genR_len (c := k.src) (o := o) (J := J) (i := i) (n := b)
      have t4 := rowsT_len (T := genT k.src o J i)
      have t5 := rowsT_len (T := genR k.src o J i b)
      have ab := arw b (by omega)
      repeat' (first | (with_reducible first | refine V_seq ?_ | refine V_block ?_ | refine V_skip ?_ | refine V_ret ?_ | refine V_exit ?_) | ((with_reducible refine V_cond ?_); simp only [go_sem, simprocAttr]) | ((first | refine V_region (by rw [hn]; rfl) ?_ | refine V_drawn hmix (by rw [hn]; rfl) ?_); intro K hK) | ((first | with_reducible refine evOps_n ?_ | ((with_reducible apply evOps_g); rfl) | with_reducible refine evOpsD_n ?_ | ((with_reducible apply evOpsD_g); rfl)); intro K hK; simp (contextual := true) only [go_sem, simprocAttr]) | with_reducible refine evOps_nil ?_ | ((with_reducible refine evOpsD_nil ?_ ?_); kernel_rfl) | ((with_reducible refine hK _ ?_); clear hK K) | (with_reducible first | refine And.intro ?_ ?_ | refine nxt_n ?_ | refine nxt_r ?_ | refine nxt_e ?_ | refine blk_n ?_ | refine blk_r ?_ | refine blk_same ?_ | refine blk_other (by decide) ?_ | refine noG_n ?_ | refine noG_r ?_ | refine noG_e ?_ | refine inR_mk ?_ ?_) | ((with_reducible refine evCall_at 79 ?_); refine EvCall.rq (a := (sp_l02Then (c:=k.tgt) ?_ ?_ ?_ ?_)) (b := cal_l02Then) (c := ?_); all_goals try simp only [go_sem, simprocAttr]) | ((with_reducible refine evCall_at 51 ?_); refine EvCall.rq (a := (sp_l09Find (l:=T) (r:=[k.src.to.getD b 0,k.tgt.C ((T.getD i []).getD 1 0) (k.ars.getD b 0)]) ?_ ?_ ?_)) (b := cal_l09Find) (c := ?_); all_goals try simp only [go_sem, simprocAttr]) | (refine fun (hc : (_ : Bool) = _) => ?_; try simp only [hcS] at hc))
      all_goals try (first | (with_reducible assumption) | ((try simp only [Cat.F, Cat.T, Cat.I, Cat.C, Fun.O, Fun.A, Cat.Entry, Int.toNat_natCast] at *); omega))
      · obtain ⟨j, j1, j2, j3, j4⟩ := snx i b hlt hlt2 hc
        have j1' : fnd T [k.src.to.getD b 0, k.tgt.C ((T.getD i []).getD 1 0) (k.ars.getD b 0)] = j := j1
        have hr : rowsT (genR k.src o J i (b + 1)) = rowsT (genR k.src o J i b) ++ [[(i : Int), (b : Int), fnd T [k.src.to.getD b 0, k.tgt.C ((T.getD i []).getD 1 0) (k.ars.getD b 0)]]] := by
          rw [genR_yes (by rw [← hx']; exact hc), rowsT_app]
          unfold trG
          rw [hJ, j1']
          rfl
        refine ⟨⟨b + 1, by omega, (by trivial)⟩, by simp only; omega, Imp.auto hX (by simp only [go_sem, simprocAttr, hr, ← List.append_assoc])⟩
      · have hr := genR_no (c := k.src) (o := o) (J := J) (i := i) (n := b) (by rw [← hx']; exact hc)
        refine ⟨⟨b + 1, by omega, (by trivial)⟩, by simp only; omega, Imp.auto hX (by simp only [go_sem, simprocAttr, hr])⟩
    · have e2 := genT_succ (c := k.src) (o := o) (J := J) (k := i)
      repeat' (first | (with_reducible first | refine V_seq ?_ | refine V_block ?_ | refine V_skip ?_ | refine V_ret ?_ | refine V_exit ?_) | ((with_reducible refine V_cond ?_); simp only [go_sem, simprocAttr]) | ((first | refine V_region (by rw [hn]; rfl) ?_ | refine V_drawn hmix (by rw [hn]; rfl) ?_); intro K hK) | ((first | with_reducible refine evOps_n ?_ | ((with_reducible apply evOps_g); rfl) | with_reducible refine evOpsD_n ?_ | ((with_reducible apply evOpsD_g); rfl)); intro K hK; simp (contextual := true) only [go_sem, simprocAttr]) | with_reducible refine evOps_nil ?_ | ((with_reducible refine evOpsD_nil ?_ ?_); kernel_rfl) | ((with_reducible refine hK _ ?_); clear hK K) | (with_reducible first | refine And.intro ?_ ?_ | refine nxt_n ?_ | refine nxt_r ?_ | refine nxt_e ?_ | refine blk_n ?_ | refine blk_r ?_ | refine blk_same ?_ | refine blk_other (by decide) ?_ | refine noG_n ?_ | refine noG_r ?_ | refine noG_e ?_ | refine inR_mk ?_ ?_) | (refine fun (hc : (_ : Bool) = _) => ?_; try simp only [hcS] at hc))
      all_goals try (first | (with_reducible assumption) | ((try simp only [Cat.F, Cat.T, Cat.I, Cat.C, Fun.O, Fun.A, Cat.Entry, Int.toNat_natCast] at *); omega))
      · refine ⟨⟨i + 1, by omega, (by trivial)⟩, by simp only; omega, Imp.auto hX (by simp only [go_sem, simprocAttr, e2, rowsT_app, show b = k.src.fr.length by omega])⟩
  · repeat' (first | (with_reducible first | refine V_seq ?_ | refine V_block ?_ | refine V_skip ?_ | refine V_ret ?_ | refine V_exit ?_) | ((with_reducible refine V_cond ?_); simp only [go_sem, simprocAttr]) | ((first | refine V_region (by rw [hn]; rfl) ?_ | refine V_drawn hmix (by rw [hn]; rfl) ?_); intro K hK) | ((first | with_reducible refine evOps_n ?_ | ((with_reducible apply evOps_g); rfl) | with_reducible refine evOpsD_n ?_ | ((with_reducible apply evOpsD_g); rfl)); intro K hK; simp (contextual := true) only [go_sem, simprocAttr]) | with_reducible refine evOps_nil ?_ | ((with_reducible refine evOpsD_nil ?_ ?_); kernel_rfl) | ((with_reducible refine hK _ ?_); clear hK K) | (with_reducible first | refine And.intro ?_ ?_ | refine nxt_n ?_ | refine nxt_r ?_ | refine nxt_e ?_ | refine blk_n ?_ | refine blk_r ?_ | refine blk_same ?_ | refine blk_other (by decide) ?_ | refine noG_n ?_ | refine noG_r ?_ | refine noG_e ?_ | refine inR_mk ?_ ?_) | (refine fun (hc : (_ : Bool) = _) => ?_; try simp only [hcS] at hc))
    all_goals try (first | (with_reducible assumption) | ((try simp only [Cat.F, Cat.T, Cat.I, Cat.C, Fun.O, Fun.A, Cat.Entry, Int.toNat_natCast] at *); omega))
    · obtain rfl : i = T.length := by omega
      (first | refine ret_auto ?_ | refine ret_auto' ?_); simp only [go_sem, simprocAttr, Tryz.f102]
theorem cal_l23Find : Callable Tryz.prog 100 := ⟨_, Tryz.func100, rfl, rfl⟩
theorem sp_l23Find {f : SF} {O : List Int} {T : List Tr} (hf : IsSF f) (hob : ∀ i, i < O.length → 0 ≤ O.getD i 0 ∧ O.getD i 0 < f.shape.ob) (w : TrW (szN f O) f.acts T) (hO : O.length ≤ 64) (hT : T.length ≤ 4096) : Spec Tryz.prog 100 [sfV f, .bor [] (ints O), .bor [] (intss (rowsT T))] [] (.sl 0) [(0, ⟨1, .arr (intss ((extW (okW (T.map (ruleT f.acts))) (szN f O) (List.replicate (szN f O).length (-1))).take 17))⟩)] := by
  refine spec_of_V (E := TE) 0 Tryz.func100 rfl (by simp [Tryz.f100]) fun X hn hX => ?_
  refine V_nameA 0 f rfl fun xs hx hL => ?_
  simp only [go_sem, simprocAttr]
  have szl := hf.szl
  have acl := hf.acl
  have hrl := rowsT_len (T := T)
  have hsz := szO_sz hf hob
  have hnI : ∀ i, (szO f O).getD i 0 = ((szN f O).getD i 0 : Nat) := natS_at fun i hi => (hsz i hi).1
  repeat' (first | (with_reducible first | refine V_seq ?_ | refine V_block ?_ | refine V_skip ?_ | refine V_ret ?_ | refine V_exit ?_) | ((with_reducible refine V_cond ?_); simp only [go_sem, simprocAttr]) | ((first | refine V_region (by rw [hn]; rfl) ?_ | refine V_drawn hmix (by rw [hn]; rfl) ?_); intro K hK) | ((first | with_reducible refine evOps_n ?_ | ((with_reducible apply evOps_g); rfl) | with_reducible refine evOpsD_n ?_ | ((with_reducible apply evOpsD_g); rfl)); intro K hK; simp (contextual := true) only [go_sem, simprocAttr]) | with_reducible refine evOps_nil ?_ | ((with_reducible refine evOpsD_nil ?_ ?_); kernel_rfl) | ((with_reducible refine hK _ ?_); clear hK K) | (with_reducible first | refine And.intro ?_ ?_ | refine nxt_n ?_ | refine nxt_r ?_ | refine nxt_e ?_ | refine blk_n ?_ | refine blk_r ?_ | refine blk_same ?_ | refine blk_other (by decide) ?_ | refine noG_n ?_ | refine noG_r ?_ | refine noG_e ?_ | refine inR_mk ?_ ?_) | (refine fun (hc : (_ : Bool) = _) => ?_; try simp only [hcS] at hc))
  all_goals try (first | (with_reducible assumption) | ((try simp only [Cat.F, Cat.T, Cat.I, Cat.C, Fun.O, Fun.A, Cat.Entry, Int.toNat_natCast] at *); omega))
  refine V_loopK (G := {i : Nat // i ≤ O.length ∧ (True)}) (fun ⟨i, _⟩ => [(9, iv i), (7, .sl 1), (8, .sl 2)]) [1, 2, 3, 6] (fun ⟨i, _⟩ => [(1, ⟨1, .arr (ints (szO f (O.take i)))⟩)]) [1] (fun zz => O.length - zz.1) ⟨0, Nat.zero_le _, by first | trivial | simp⟩ ?_ ?_
  · exact Imp.auto hX (by simp [go_sem, simprocAttr])
  rintro ⟨i, hii, hwi⟩
  simp only [go_sem, simprocAttr]
  rcases Nat.lt_or_ge i O.length with hlt | hge
  · have ho := hob i hlt
    have f1 := szO_take (f := f) hlt
    have fl : (szO f (O.take i)).length = i := by rw [szO_len, List.length_take]; omega
    repeat' (first | (with_reducible first | refine V_seq ?_ | refine V_block ?_ | refine V_skip ?_ | refine V_ret ?_ | refine V_exit ?_) | ((with_reducible refine V_cond ?_); simp only [go_sem, simprocAttr]) | ((first | refine V_region (by rw [hn]; rfl) ?_ | refine V_drawn hmix (by rw [hn]; rfl) ?_); intro K hK) | ((first | with_reducible refine evOps_n ?_ | ((with_reducible apply evOps_g); rfl) | with_reducible refine evOpsD_n ?_ | ((with_reducible apply evOpsD_g); rfl)); intro K hK; simp (contextual := true) only [go_sem, simprocAttr]) | with_reducible refine evOps_nil ?_ | ((with_reducible refine evOpsD_nil ?_ ?_); kernel_rfl) | ((with_reducible refine hK _ ?_); clear hK K) | (with_reducible first | refine And.intro ?_ ?_ | refine nxt_n ?_ | refine nxt_r ?_ | refine nxt_e ?_ | refine blk_n ?_ | refine blk_r ?_ | refine blk_same ?_ | refine blk_other (by decide) ?_ | refine noG_n ?_ | refine noG_r ?_ | refine noG_e ?_ | refine inR_mk ?_ ?_) | (refine fun (hc : (_ : Bool) = _) => ?_; try simp only [hcS] at hc))
    all_goals try (first | (with_reducible assumption) | ((try simp only [Cat.F, Cat.T, Cat.I, Cat.C, Fun.O, Fun.A, Cat.Entry, Int.toNat_natCast] at *); omega))
    · refine ⟨⟨i + 1, by omega, (by trivial)⟩, by simp only; omega, Imp.auto hX (by simp only [go_sem, simprocAttr, f1])⟩
  · have e1 : i = O.length := by omega
    subst e1
    rw [List.take_length]
    repeat' (first | (with_reducible first | refine V_seq ?_ | refine V_block ?_ | refine V_skip ?_ | refine V_ret ?_ | refine V_exit ?_) | ((with_reducible refine V_cond ?_); simp only [go_sem, simprocAttr]) | ((first | refine V_region (by rw [hn]; rfl) ?_ | refine V_drawn hmix (by rw [hn]; rfl) ?_); intro K hK) | ((first | with_reducible refine evOps_n ?_ | ((with_reducible apply evOps_g); rfl) | with_reducible refine evOpsD_n ?_ | ((with_reducible apply evOpsD_g); rfl)); intro K hK; simp (contextual := true) only [go_sem, simprocAttr]) | with_reducible refine evOps_nil ?_ | ((with_reducible refine evOpsD_nil ?_ ?_); kernel_rfl) | ((with_reducible refine hK _ ?_); clear hK K) | (with_reducible first | refine And.intro ?_ ?_ | refine nxt_n ?_ | refine nxt_r ?_ | refine nxt_e ?_ | refine blk_n ?_ | refine blk_r ?_ | refine blk_same ?_ | refine blk_other (by decide) ?_ | refine noG_n ?_ | refine noG_r ?_ | refine noG_e ?_ | refine inR_mk ?_ ?_) | (refine fun (hc : (_ : Bool) = _) => ?_; try simp only [hcS] at hc))
    all_goals try (first | (with_reducible assumption) | ((try simp only [Cat.F, Cat.T, Cat.I, Cat.C, Fun.O, Fun.A, Cat.Entry, Int.toNat_natCast] at *); omega))
    refine V_loopK (G := {k : Nat // k ≤ T.length ∧ (True)}) (fun ⟨k, _⟩ => [(10, iv k), (8, .sl 2)]) [2, 3, 6, 7] (fun ⟨k, _⟩ => [(2, ⟨1, .arr (linksD (lvsT f.acts (szN f O) xs (T.take k)))⟩)]) [2] (fun zz => T.length - zz.1) ⟨0, Nat.zero_le _, by first | trivial | simp⟩ ?_ ?_
    · exact Imp.auto hX (by simp [go_sem, simprocAttr])
    rintro ⟨k, hik, hwk⟩
    simp only [go_sem, simprocAttr]
    rcases Nat.lt_or_ge k T.length with hlt2 | hge2
    · obtain ⟨t, ht⟩ : ∃ t, T.getD k default = t := ⟨_, rfl⟩
      have tm := tr_mem hlt2
      have hrow := rowsT_at hlt2
      have htk := take_tr hlt2
      rw [ht] at tm hrow htk
      have w1 := w.fr t tm
      have w2 := w.to t tm
      have w3 := w.arr t tm
      rw [szN_len] at w1 w2
      have hsz1 := hnI t.2.2
      have hsz2 : (szN f O).getD t.2.2 0 ≤ 1048576 := by have := (hsz t.2.2 (by rw [szO_len]; exact w2)).2; omega
      have fsl := szO_len (f := f) (O := O)
      have ro : Dt.sl 4 (.v (.int .i64 0)) [.v (.int .i64 t.1), .v (.int .i64 t.2.2), .v (xs.getD t.2.1 default).x, ints (nums ((szN f O).getD t.2.2 0))] = linksD (lvsT f.acts (szN f O) xs [t]) := rfl
      have hnx : lvsT f.acts (szN f O) xs (T.take (k + 1)) = lvsT f.acts (szN f O) xs (T.take k) ++ lvsT f.acts (szN f O) xs [t] := by rw [htk, lvsT_app]
      have hll : (lvsT f.acts (szN f O) xs (T.take k)).length ≤ 4096 := by rw [lvsT_len, List.length_take]; omega
      have hl1 : (lvsT f.acts (szN f O) xs [t]).length = 1 := rfl
      repeat' (first | (rw [hrow]) | (rw [hsz1]) | (rw [ro]) | (with_reducible first | refine V_seq ?_ | refine V_block ?_ | refine V_skip ?_ | refine V_ret ?_ | refine V_exit ?_) | ((with_reducible refine V_cond ?_); simp only [go_sem, simprocAttr]) | ((first | refine V_region (by rw [hn]; rfl) ?_ | refine V_drawn hmix (by rw [hn]; rfl) ?_); intro K hK) | ((first | with_reducible refine evOps_n ?_ | ((with_reducible apply evOps_g); rfl) | with_reducible refine evOpsD_n ?_ | ((with_reducible apply evOpsD_g); rfl)); intro K hK; simp (contextual := true) only [go_sem, simprocAttr]) | with_reducible refine evOps_nil ?_ | ((with_reducible refine evOpsD_nil ?_ ?_); kernel_rfl) | ((with_reducible refine hK _ ?_); clear hK K) | (with_reducible first | refine And.intro ?_ ?_ | refine nxt_n ?_ | refine nxt_r ?_ | refine nxt_e ?_ | refine blk_n ?_ | refine blk_r ?_ | refine blk_same ?_ | refine blk_other (by decide) ?_ | refine noG_n ?_ | refine noG_r ?_ | refine noG_e ?_ | refine inR_mk ?_ ?_) | ((with_reducible refine evCall_at 118 ?_); refine EvCall.rq (a := (sp_l23Count (n:=(szN f O).getD t.2.2 0) ?_)) (b := cal_l23Count) (c := ?_); all_goals try simp only [go_sem, simprocAttr]) | (refine fun (hc : (_ : Bool) = _) => ?_; try simp only [hcS] at hc))
      all_goals try (first | (with_reducible assumption) | ((try simp only [Cat.F, Cat.T, Cat.I, Cat.C, Fun.O, Fun.A, Cat.Entry, Int.toNat_natCast] at *); omega))
      · refine ⟨⟨k + 1, by omega, (by trivial)⟩, by simp only; omega, Imp.auto hX (by simp only [go_sem, simprocAttr, hnx])⟩
    · rw [List.take_of_length_le hge2]
      have hrd : RdOk X (LLent (lvsT f.acts (szN f O) xs T)) := LLent.ok (LLent.mk w hL)
      have hll := lvsT_len (acts := f.acts) (S := szN f O) (xs := xs) (T := T)
      have hso := sp_l22Solve_n (lvs := lvsT f.acts (szN f O) xs T) (S := szN f O) (Sz := szO f O) (M := 17) (by rw [lvsT_1]; exact w.links) (by rw [szN_len, szO_len]) hnI (fun i => by
        have h1 := hnI i
        by_cases hi : i < O.length
        · have := (hsz i (by rw [szO_len]; exact hi)).2; omega
        · rw [List.getD_eq_getElem?_getD, List.getElem?_eq_none (by rw [szN_len]; omega)]; simp) (by omega) (by omega) (by omega) (by rw [szN_len]; omega)
      rw [lvsT_1, w.ext] at hso
      have hsol : SpecR Tryz.prog 119 [.bor [] (ints (szO f O)), .bor [] (linksD (lvsT f.acts (szN f O) xs T)), .v (.int .i64 17)] [] (.sl 0) [(0, ⟨1, .arr (intss ((extW (okW (T.map (ruleT f.acts))) (szN f O) (List.replicate (szN f O).length (-1))).take 17))⟩)] (LLent (lvsT f.acts (szN f O) xs T)) := hso
      repeat' (first | (refine V_regionX (id := 10) (by rw [hn]; rfl) ?_; intro K hK) | (refine evOpsX_h ?_; intro K hK; refine HkX.callR (f := 119) (caps := []) hrd hsol cal_l22Solve [(0,3)] [1,2] (by simp only [go_sem, simprocAttr]) (by simp [go_sem] <;> first | rfl | exact ⟨rfl, rfl⟩ | exact ⟨rfl, rfl, rfl⟩) (by simp [go_sem] <;> first | rfl | exact ⟨rfl, rfl⟩ | exact ⟨rfl, rfl, rfl⟩) ?_; all_goals try simp only [go_sem, simprocAttr]) | ((with_reducible refine evOpsX_n ?_); intro K hK; simp (contextual := true) only [go_sem, simprocAttr]) | (with_reducible refine evOpsX_nil ?_) | (with_reducible first | refine V_seq ?_ | refine V_block ?_ | refine V_skip ?_ | refine V_ret ?_ | refine V_exit ?_) | ((with_reducible refine V_cond ?_); simp only [go_sem, simprocAttr]) | ((first | refine V_region (by rw [hn]; rfl) ?_ | refine V_drawn hmix (by rw [hn]; rfl) ?_); intro K hK) | ((first | with_reducible refine evOps_n ?_ | ((with_reducible apply evOps_g); rfl) | with_reducible refine evOpsD_n ?_ | ((with_reducible apply evOpsD_g); rfl)); intro K hK; simp (contextual := true) only [go_sem, simprocAttr]) | with_reducible refine evOps_nil ?_ | ((with_reducible refine evOpsD_nil ?_ ?_); kernel_rfl) | ((with_reducible refine hK _ ?_); clear hK K) | (with_reducible first | refine And.intro ?_ ?_ | refine nxt_n ?_ | refine nxt_r ?_ | refine nxt_e ?_ | refine blk_n ?_ | refine blk_r ?_ | refine blk_same ?_ | refine blk_other (by decide) ?_ | refine noG_n ?_ | refine noG_r ?_ | refine noG_e ?_ | refine inR_mk ?_ ?_) | (refine fun (hc : (_ : Bool) = _) => ?_; try simp only [hcS] at hc))
      all_goals try (first | (with_reducible assumption) | ((try simp only [Cat.F, Cat.T, Cat.I, Cat.C, Fun.O, Fun.A, Cat.Entry, Int.toNat_natCast] at *); omega))
      · (first | refine ret_auto ?_ | refine ret_auto' ?_); simp only [go_sem, simprocAttr, Tryz.f100]
theorem cal_l23Lists : Callable Tryz.prog 78 := ⟨_, Tryz.func78, rfl, rfl⟩
theorem sp_l23Lists {k : Fun} {f : SF} {y : Int} (hk : IsFun k) (hf : IsSF f) (he : f.shape = k.src) (hS : (rSeats k y k.obs.length).length ≤ 64) : Spec Tryz.prog 78 [funV k, sfV f, iv y] [] (.sl 0) [(0, ⟨1, .arr (intss ((genL f (rOb k y) (rJ k (rSeats k y k.obs.length))).take 17))⟩)] := by
  refine spec_of_V (E := TE) 0 Tryz.func78 rfl (by simp [Tryz.f78]) fun X hn hX => ?_
  have m40 := hk.src.m40
  have hgw := seat_gen (y := y) hk
  have sok := fun i (hi : i < (rSeats k y k.obs.length).length) => seat_ok hk (memL_getD (l := rSeats k y k.obs.length) hi)
  have obl := rOb_len (k := k) (y := y)
  have obA := fun i hi => rOb_at (k := k) (y := y) (i := i) hi
  have hw := gen_w hf (O := rOb k y) (J := rJ k (rSeats k y k.obs.length)) (by rw [he]; exact hgw)
  have hob : ∀ i, i < (rOb k y).length → 0 ≤ (rOb k y).getD i 0 ∧ (rOb k y).getD i 0 < f.shape.ob := by rw [he]; exact hgw.ob
  unfold genL
  rw [he] at hw ⊢
  obtain ⟨o, ho⟩ : ∃ o : Nat → Nat, (fun i => ((rOb k y).getD i 0).toNat) = o := ⟨_, rfl⟩
  obtain ⟨J, hJ⟩ : ∃ J, rJ k (rSeats k y k.obs.length) = J := ⟨_, rfl⟩
  rw [ho, hJ] at hw ⊢
  have hJ2 : ∀ i a : Nat, J i a = (fnd (rSeats k y k.obs.length) [k.src.to.getD a 0, k.tgt.C (((rSeats k y k.obs.length).getD i []).getD 1 0) (k.ars.getD a 0)]).toNat := fun i a => by rw [← hJ]; rfl
  have ho2 : ∀ i, i < (rSeats k y k.obs.length).length → (((rSeats k y k.obs.length).getD i []).getD 0 0) = o i := fun i hi => by
    rw [← ho]
    have := (sok i hi).x0
    simp only
    rw [obA i hi]; omega
  have hrd : rOb k y = colN (rSeats k y k.obs.length) 0 (rSeats k y k.obs.length).length := rfl
  obtain ⟨O, hO⟩ : ∃ O, rOb k y = O := ⟨_, rfl⟩
  rw [hO] at hrd hob hw obl ⊢
  have sp_rs := sp_l23Seats (y := y) hk
  obtain ⟨T, hT⟩ : ∃ T, rSeats k y k.obs.length = T := ⟨_, rfl⟩
  rw [hT] at sp_rs hrd hS hJ2 ho2 obl sok
  have sp_lk := sp_l23Links hk hT hS ho2 hJ2
  have t1 := genT_len (c := k.src) (o := o) (J := J) T.length
  have t2 : T.length * k.src.fr.length ≤ 64 * 40 := Nat.mul_le_mul (by omega) m40
  rw [obl] at hw ⊢
  have sp_fi := sp_l23Find hf hob hw (by omega) (by omega)
  have sp_cl := sp_l09Column (l := T) (k := 0) (by omega) (fun i hi => by have := (sok i hi).len; omega)
  rw [← hrd] at sp_cl
  have sp_l23Seats_loc := sp_rs
  have sp_l23Links_loc := sp_lk
  have sp_l23Find_loc := sp_fi
  have sp_l09Column_loc : Spec Tryz.prog 101 [.bor [] (intss T), .v (.int .i64 0)] [] (.sl 0) [(0, ⟨1, .arr (ints O)⟩)] := sp_cl
  repeat' (first | (with_reducible first | refine V_seq ?_ | refine V_skip ?_ | refine V_ret ?_) | ((with_reducible refine V_cond ?_); simp only [go_sem, simprocAttr]) | ((first | refine V_region (by rw [hn]; rfl) ?_ | refine V_drawn hmix (by rw [hn]; rfl) ?_); intro K hK) | ((first | with_reducible refine evOps_n ?_ | ((with_reducible apply evOps_g); rfl) | with_reducible refine evOpsD_n ?_ | ((with_reducible apply evOpsD_g); rfl)); intro K hK; simp (contextual := true) only [go_sem, simprocAttr]) | with_reducible refine evOps_nil ?_ | ((with_reducible refine evOpsD_nil ?_ ?_); kernel_rfl) | ((with_reducible refine hK _ ?_); clear hK K) | (with_reducible first | refine And.intro ?_ ?_ | refine nxt_n ?_ | refine nxt_r ?_ | refine inR_mk ?_ ?_) | ((with_reducible refine evCall_at 77 ?_); refine EvCall.rq (a := (sp_l23Seats_loc)) (b := cal_l23Seats) (c := ?_); all_goals try simp only [go_sem, simprocAttr]) | ((with_reducible refine evCall_at 102 ?_); refine EvCall.rq (a := (sp_l23Links_loc)) (b := cal_l23Links) (c := ?_); all_goals try simp only [go_sem, simprocAttr]) | ((with_reducible refine evCall_at 101 ?_); refine EvCall.rq (a := (sp_l09Column_loc)) (b := cal_l09Column) (c := ?_); all_goals try simp only [go_sem, simprocAttr]) | ((with_reducible refine evCall_at 100 ?_); refine EvCall.rq (a := (sp_l23Find_loc)) (b := cal_l23Find) (c := ?_); all_goals try simp only [go_sem, simprocAttr]) | (refine fun (hc : (_ : Bool) = _) => ?_; try simp only [hcS] at hc))
  all_goals try (first | (with_reducible assumption) | ((try simp only [Cat.F, Cat.T, Cat.I, Cat.C, Fun.O, Fun.A, Cat.Entry, Int.toNat_natCast] at *); omega))
  · (first | refine ret_auto ?_ | refine ret_auto' ?_); simp only [go_sem, simprocAttr, Tryz.f78]
end Go.Eng
