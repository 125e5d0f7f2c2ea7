/- The search of natural maps by the reference: in depth, up to a number of results. -/
import Derived.Test.YtjcilokfgngpmaaKmx
import Derived.Test.YtjcilokfgngpmaaKex
import Derived.Test.YtjcilokfgngpmaaA06q
set_option linter.unusedSimpArgs false
set_option linter.unusedVariables false
set_option maxRecDepth 100000
set_option maxHeartbeats 16000000
namespace Go.Eng
open Go Go.Proofs Go.Cats

theorem toNat_back (n i : Nat) : ((n : Int) - 1 - (i : Int)).toNat = n - 1 - i := by omega
theorem pX_none : pX none = -1 := rfl
theorem pE_none : pE none = -1 := rfl
theorem pX_some (x e : Nat) : pX (some (x, e)) = x := rfl
theorem pE_some (x e : Nat) : pE (some (x, e)) = e := rfl
attribute [local go_sem] toNat_back pX_none pE_none pX_some pE_some bkR_zero bkI_zero List.set_cons_succ List.set_cons_zero

theorem sp_l19Choices_at {f g : SF} {b : Bool} {m : Int} {F : List (List (List Int))} {P : List (List Int)} {x e : Int} (h : SPair f g) (hP : P.length = f.sizes.length) (hR : ∀ y, y < P.length → ((P.getD y []).length : Int) = f.sizes.getD y 0) (h0 : 0 ≤ x ∧ 0 ≤ e ∧ x.toNat < f.sizes.length ∧ e < f.sizes.getD x.toNat 0) :
    Spec Try.prog 132 [.bptr [] (srD f g b m F), .bor [] (intss P), iv x, iv e] [] (.sl 0) [(0, ⟨1, .arr (ints (chI f g b x.toNat e.toNat P (g.sizes.getD x.toNat 0).toNat))⟩)] := by
  have h1 := sp_l19Choices (b := b) (m := m) (F := F) (x := x.toNat) (e := e.toNat) h hP hR h0.2.2.1 (by rw [Int.toNat_of_nonneg h0.2.1]; exact h0.2.2.2)
  rwa [Int.toNat_of_nonneg h0.1, Int.toNat_of_nonneg h0.2.1] at h1
theorem sp_l19Set_at {f g : SF} {b : Bool} {m : Int} {F : List (List (List Int))} {P : List (List Int)} {Q : List (List Int)} {x e u : Nat} {w : Int} (h : SPair f g) (hP : P.length = f.sizes.length) (hR : ∀ y, y < P.length → ((P.getD y []).length : Int) = f.sizes.getD y 0) (he : (e : Int) < f.sizes.getD x 0) (hu : (u : Int) < g.sizes.getD x 0)
    (hN : setS f g b x e u P = some Q) (hw : w = u) : Spec Try.prog 133 [.bptr [] (srD f g b m F), .bor [] (intss P), iv x, iv e, iv w] [] (.tup [.sl 0, .v (.bool true)]) [(0, ⟨1, .arr (intss Q)⟩)] := by
  subst hw
  exact sp_l19Set_yes h hP hR he hu hN

theorem cal_l19Go : Callable Try.prog 87 := ⟨_, Try.func87, rfl, rfl⟩
theorem sp_l19Go_n {f g : SF} {b : Bool} {m : Nat} (h : SPair f g) (hm : m ≤ 4096) : ∀ (n : Nat) (F : List (List (List Int))) (P : List (List Int)), Cats.Good f g b P → nu P < n → F.length < m →
    Spec Try.prog 87 [.ptr 0 0, .sl 1] [(0, ⟨1, .bx [iv f.shape.ob, .bor [] (ints f.shape.fr), .bor [] (ints f.shape.to), .bor [] (ints f.shape.id), .bor [] (intss f.shape.co), .bor [] (ints f.sizes), .bor [] (intss f.acts), iv g.shape.ob, .bor [] (ints g.shape.fr), .bor [] (ints g.shape.to), .bor [] (ints g.shape.id), .bor [] (intss g.shape.co), .bor [] (ints g.sizes), .bor [] (intss g.acts), .v (.bool b), iv m, .dead] 16 (intsss F)⟩), (1, ⟨1, .arr (intss P)⟩)] (.tup [])
      [(0, ⟨1, .bx [iv f.shape.ob, .bor [] (ints f.shape.fr), .bor [] (ints f.shape.to), .bor [] (ints f.shape.id), .bor [] (intss f.shape.co), .bor [] (ints f.sizes), .bor [] (intss f.acts), iv g.shape.ob, .bor [] (ints g.shape.fr), .bor [] (ints g.shape.to), .bor [] (ints g.shape.id), .bor [] (intss g.shape.co), .bor [] (ints g.sizes), .bor [] (intss g.acts), .v (.bool b), iv m, .dead] 16 (intsss ((F ++ dfs f g b n P).take m))⟩), (1, ⟨1, .gone⟩)]
  | 0, _, _, _, hk, _ => by omega
  | n + 1, F, P, hG, hk, hF => by
    have hP := hG.len
    have hR := hG.row
    have t1 := h.src.szl
    have t2 := h.src.cat.ob8
    have hrow : ∀ y, y < P.length → (P.getD y []).length ≤ 16 := fun y hy => by
      have h1 := hR y hy
      have h2 := h.src.szw y (by omega)
      omega
    refine spec_of_V (E := TE) 2 Try.func87 rfl (by simp [Try.f87]) fun X hn hX => ?_
    refine V_endQ ?_
    have hcut : ∀ y d : Nat, y < P.length → d < (P.getD y []).length → (chI f g b y d P (g.sizes.getD y 0).toNat).length = 0 → (F ++ dfs f g b (n + 1) P).take m = F := fun y d hy hd hc0 => by
      have w := h.tgt.szw y (by have := h.tgt.szl; rw [← h.one] at this; omega)
      rw [dfs_cut h hG hy hd fun u hu => chI_none hc0 u (by omega), List.append_nil, List.take_of_length_le (by omega)]
    cases hf : fuP P with
    | none =>
      repeat' (first
        | (refine V_at 0 (Imp.openB 0 16 _ _ rfl (Nat.le_refl 1) rfl rfl) ?_; simp only [go_sem, ↓reduceIte, Nat.reduceAdd, Nat.reduceSub, Nat.reduceMul, Nat.reduceDiv, Nat.reduceLT, Nat.reduceLeDiff, Nat.reduceEqDiff, Int.reduceToNat, reduceCtorEq, List.set_cons_succ, List.set_cons_zero])
        | with_reducible first | refine V_seq ?_ | refine V_block ?_ | refine V_skip ?_ | refine V_ret ?_ | refine V_exit ?_
        | ((with_reducible refine V_cond ?_); simp only [go_sem, ↓reduceIte, Nat.reduceAdd, Nat.reduceSub, Nat.reduceMul, Nat.reduceDiv, Nat.reduceLT, Nat.reduceLeDiff, Nat.reduceEqDiff, Int.reduceToNat, reduceCtorEq])
        | ((first | refine V_region (by rw [hn]; rfl) ?_ | refine V_drawn hmix (by rw [hn]; rfl) ?_); intro K hK)
        | ((first | with_reducible refine evOps_n ?_ | ((with_reducible apply evOps_g); rfl) | with_reducible refine evOpsD_n ?_ | ((with_reducible apply evOpsD_g); rfl)); intro K hK; simp (contextual := true) only [go_sem, ↓reduceIte, Nat.reduceAdd, Nat.reduceSub, Nat.reduceMul, Nat.reduceDiv, Nat.reduceLT, Nat.reduceLeDiff, Nat.reduceEqDiff, Int.reduceToNat, reduceCtorEq])
        | with_reducible refine evOps_nil ?_
        | ((with_reducible refine evOpsD_nil ?_ ?_); kernel_rfl)
        | ((with_reducible refine hK _ ?_); clear hK K)
        | with_reducible first | refine And.intro ?_ ?_ | refine nxt_n ?_ | refine nxt_r ?_ | refine nxt_e ?_ | refine blk_n ?_ | refine blk_r ?_ | refine blk_same ?_ | refine blk_other (by decide) ?_ | refine noG_n ?_ | refine noG_r ?_ | refine noG_e ?_ | refine inR_mk ?_ ?_
        | (refine fun (hc : (_ : Bool) = _) => ?_; try simp only [decide_eq_true_eq, decide_eq_false_iff_not, Bool.not_eq_true', Bool.not_eq_false', Int.not_lt, Int.not_le, Cats.dec_iff, Cats.dec_not, Bool.and_eq_true, Bool.or_eq_true, Bool.and_eq_false_iff, Bool.or_eq_false_iff, Bool.not_eq_true, Bool.not_eq_false, Decidable.not_not, not_true_eq_false, not_false_eq_true] at hc))
      all_goals try (first | (with_reducible assumption) | ((try simp only [Cat.F, Cat.T, Cat.I, Cat.C, Fun.O, Fun.A, Cat.Entry, Int.toNat_natCast] at *); omega))
      refine V_loopK (G := {i : Nat // i ≤ P.length ∧ (True)}) (fun ⟨i, _⟩ => [(6, iv ((P.length : Int) - 1 - i)), (4, iv (pX (bkR P i))), (5, iv (pE (bkR P i)))]) [0, 1] (fun ⟨i, _⟩ => []) [] (fun zz => P.length - zz.1) ⟨0, Nat.zero_le _, by first | trivial | simp⟩ ?_ ?_
      · exact Imp.auto hX (by simp [go_sem, ↓reduceIte, Nat.reduceAdd, Nat.reduceSub, Nat.reduceMul, Nat.reduceDiv, Nat.reduceLT, Nat.reduceLeDiff, Nat.reduceEqDiff, Int.reduceToNat, reduceCtorEq])
      rintro ⟨i, hii, hwi⟩
      simp only [go_sem, ↓reduceIte, Nat.reduceAdd, Nat.reduceSub, Nat.reduceMul, Nat.reduceDiv, Nat.reduceLT, Nat.reduceLeDiff, Nat.reduceEqDiff, Int.reduceToNat, reduceCtorEq]
      have r1 := hrow (P.length - 1 - i)
      have r2 := hR (P.length - 1 - i)
      have r3 := fuP_none.1 hf (P.length - 1 - i)
      repeat' (first
        | (refine V_at 10 (Imp.refl _ _) ?_; rw [show bkR P i = none from by rw [show i = P.length by omega, bkR_all]; exact hf])
        | with_reducible first | refine V_seq ?_ | refine V_block ?_ | refine V_skip ?_ | refine V_ret ?_ | refine V_exit ?_
        | ((with_reducible refine V_cond ?_); simp only [go_sem, ↓reduceIte, Nat.reduceAdd, Nat.reduceSub, Nat.reduceMul, Nat.reduceDiv, Nat.reduceLT, Nat.reduceLeDiff, Nat.reduceEqDiff, Int.reduceToNat, reduceCtorEq])
        | ((first | refine V_region (by rw [hn]; rfl) ?_ | refine V_drawn hmix (by rw [hn]; rfl) ?_); intro K hK)
        | ((first | with_reducible refine evOps_n ?_ | ((with_reducible apply evOps_g); rfl) | with_reducible refine evOpsD_n ?_ | ((with_reducible apply evOpsD_g); rfl)); intro K hK; simp (contextual := true) only [go_sem, ↓reduceIte, Nat.reduceAdd, Nat.reduceSub, Nat.reduceMul, Nat.reduceDiv, Nat.reduceLT, Nat.reduceLeDiff, Nat.reduceEqDiff, Int.reduceToNat, reduceCtorEq])
        | with_reducible refine evOps_nil ?_
        | ((with_reducible refine evOpsD_nil ?_ ?_); kernel_rfl)
        | ((with_reducible refine hK _ ?_); clear hK K)
        | with_reducible first | refine And.intro ?_ ?_ | refine nxt_n ?_ | refine nxt_r ?_ | refine nxt_e ?_ | refine blk_n ?_ | refine blk_r ?_ | refine blk_same ?_ | refine blk_other (by decide) ?_ | refine noG_n ?_ | refine noG_r ?_ | refine noG_e ?_ | refine inR_mk ?_ ?_
        | ((with_reducible refine evCall_at 132 ?_); refine EvCall.rd (by first | (simp only [go_sem, ↓reduceIte, Nat.reduceAdd, Nat.reduceSub, Nat.reduceMul, Nat.reduceDiv, Nat.reduceLT, Nat.reduceLeDiff, Nat.reduceEqDiff, Int.reduceToNat, reduceCtorEq]; rfl) | rfl) (sp_l19Choices_at (f:=f) (g:=g) (b:=b) (m:=m) (F:=F) (P:=P) (by first | omega | assumption | rfl | exact (by assumption : SMB _).src | exact (by assumption : SMB _).tgt) (by first | omega | assumption | rfl | exact (by assumption : SMB _).src | exact (by assumption : SMB _).tgt) (by first | omega | assumption | rfl | exact (by assumption : SMB _).src | exact (by assumption : SMB _).tgt) (by first | omega | assumption | rfl | exact (by assumption : SMB _).src | exact (by assumption : SMB _).tgt)) cal_l19Choices (by simp [go_sem]) (by simp [go_sem]) ?_; all_goals try simp only [go_sem, ↓reduceIte, Nat.reduceAdd, Nat.reduceSub, Nat.reduceMul, Nat.reduceDiv, Nat.reduceLT, Nat.reduceLeDiff, Nat.reduceEqDiff, Int.reduceToNat, reduceCtorEq])
        | (refine fun (hc : (_ : Bool) = _) => ?_; try simp only [decide_eq_true_eq, decide_eq_false_iff_not, Bool.not_eq_true', Bool.not_eq_false', Int.not_lt, Int.not_le, Cats.dec_iff, Cats.dec_not, Bool.and_eq_true, Bool.or_eq_true, Bool.and_eq_false_iff, Bool.or_eq_false_iff, Bool.not_eq_true, Bool.not_eq_false, Decidable.not_not, not_true_eq_false, not_false_eq_true] at hc))
      all_goals try (first | (with_reducible assumption) | ((try simp only [Cat.F, Cat.T, Cat.I, Cat.C, Fun.O, Fun.A, Cat.Entry, Int.toNat_natCast] at *); omega))
      · refine V_loopK (G := {j : Nat // j ≤ (P.getD (P.length - 1 - i) []).length ∧ (True)}) (fun ⟨j, _⟩ => [(7, iv (((P.getD (P.length - 1 - i) []).length : Int) - 1 - j)), (4, iv (pX (bkI P i j))), (5, iv (pE (bkI P i j)))]) [0, 1, 6] (fun ⟨j, _⟩ => []) [] (fun zz => (P.getD (P.length - 1 - i) []).length - zz.1) ⟨0, Nat.zero_le _, by first | trivial | simp⟩ ?_ ?_
        · exact Imp.auto hX (by simp [go_sem, ↓reduceIte, Nat.reduceAdd, Nat.reduceSub, Nat.reduceMul, Nat.reduceDiv, Nat.reduceLT, Nat.reduceLeDiff, Nat.reduceEqDiff, Int.reduceToNat, reduceCtorEq])
        rintro ⟨j, hij, hwj⟩
        simp only [go_sem, ↓reduceIte, Nat.reduceAdd, Nat.reduceSub, Nat.reduceMul, Nat.reduceDiv, Nat.reduceLT, Nat.reduceLeDiff, Nat.reduceEqDiff, Int.reduceToNat, reduceCtorEq]
        repeat' (first
          | with_reducible first | refine V_seq ?_ | refine V_block ?_ | refine V_skip ?_ | refine V_ret ?_ | refine V_exit ?_
          | ((with_reducible refine V_cond ?_); simp only [go_sem, ↓reduceIte, Nat.reduceAdd, Nat.reduceSub, Nat.reduceMul, Nat.reduceDiv, Nat.reduceLT, Nat.reduceLeDiff, Nat.reduceEqDiff, Int.reduceToNat, reduceCtorEq])
          | ((first | refine V_region (by rw [hn]; rfl) ?_ | refine V_drawn hmix (by rw [hn]; rfl) ?_); intro K hK)
          | ((first | with_reducible refine evOps_n ?_ | ((with_reducible apply evOps_g); rfl) | with_reducible refine evOpsD_n ?_ | ((with_reducible apply evOpsD_g); rfl)); intro K hK; simp (contextual := true) only [go_sem, ↓reduceIte, Nat.reduceAdd, Nat.reduceSub, Nat.reduceMul, Nat.reduceDiv, Nat.reduceLT, Nat.reduceLeDiff, Nat.reduceEqDiff, Int.reduceToNat, reduceCtorEq])
          | with_reducible refine evOps_nil ?_
          | ((with_reducible refine evOpsD_nil ?_ ?_); kernel_rfl)
          | ((with_reducible refine hK _ ?_); clear hK K)
          | with_reducible first | refine And.intro ?_ ?_ | refine nxt_n ?_ | refine nxt_r ?_ | refine nxt_e ?_ | refine blk_n ?_ | refine blk_r ?_ | refine blk_same ?_ | refine blk_other (by decide) ?_ | refine noG_n ?_ | refine noG_r ?_ | refine noG_e ?_ | refine inR_mk ?_ ?_
          | (refine fun (hc : (_ : Bool) = _) => ?_; try simp only [decide_eq_true_eq, decide_eq_false_iff_not, Bool.not_eq_true', Bool.not_eq_false', Int.not_lt, Int.not_le, Cats.dec_iff, Cats.dec_not, Bool.and_eq_true, Bool.or_eq_true, Bool.and_eq_false_iff, Bool.or_eq_false_iff, Bool.not_eq_true, Bool.not_eq_false, Decidable.not_not, not_true_eq_false, not_false_eq_true] at hc))
        all_goals try (first | (with_reducible assumption) | ((try simp only [Cat.F, Cat.T, Cat.I, Cat.C, Fun.O, Fun.A, Cat.Entry, Int.toNat_natCast] at *); omega))
        · exact absurd (r3 ((P.getD (P.length - 1 - i) []).length - 1 - j) (by omega) (by omega)) (by unfold pv; omega)
        · have e1 := bkI_miss (P := P) (i := i) (j := j) (by unfold pv; omega)
          have e2 : ((P.getD (P.length - 1 - i) []).length : Int) - 1 - ((j : Int) + 1) = (P.getD (P.length - 1 - i) []).length - 1 - (j : Int) - 1 := by omega
          refine ⟨⟨j + 1, by omega, (by trivial)⟩, by simp only; omega, Imp.auto hX (by simp only [go_sem, ↓reduceIte, Nat.reduceAdd, Nat.reduceSub, Nat.reduceMul, Nat.reduceDiv, Nat.reduceLT, Nat.reduceLeDiff, Nat.reduceEqDiff, Int.reduceToNat, reduceCtorEq, e1, e2])⟩
        · have e1 : bkI P i j = bkR P (i + 1) := by rw [show j = (P.getD (P.length - 1 - i) []).length by omega]; exact bkI_all
          have e2 : (P.length : Int) - 1 - ((i : Int) + 1) = P.length - 1 - (i : Int) - 1 := by omega
          refine ⟨⟨i + 1, by omega, (by trivial)⟩, by simp only; omega, Imp.auto hX (by simp only [go_sem, ↓reduceIte, Nat.reduceAdd, Nat.reduceSub, Nat.reduceMul, Nat.reduceDiv, Nat.reduceLT, Nat.reduceLeDiff, Nat.reduceEqDiff, Int.reduceToNat, reduceCtorEq, e1, e2])⟩
      · refine endQ_mk (Imp.closeB 0 4 16 _ _ rfl rfl rfl (by decide)) ?_
        rw [dfs_leaf hf, List.take_of_length_le (show (F ++ [P]).length ≤ m by simp; omega)]
        (first | refine ret_auto ?_ | refine ret_auto' ?_); simp only [go_sem, ↓reduceIte, Nat.reduceAdd, Nat.reduceSub, Nat.reduceMul, Nat.reduceDiv, Nat.reduceLT, Nat.reduceLeDiff, Nat.reduceEqDiff, Int.reduceToNat, reduceCtorEq, Try.f87]
    | some p =>
      obtain ⟨x, e⟩ := p
      obtain ⟨p1, p2, p3⟩ := fuP_some hf
      have w1 := hR x p1
      have hob : f.shape.ob = g.shape.ob := by rw [h.one]
      have hgl := h.tgt.szl
      have w2 := h.tgt.szw x (by omega)
      have lc := chI_len f g b x e P (g.sizes.getD x 0).toNat
      have hdf : dfs f g b (n + 1) P = belowL f g b n x e P (chI f g b x e P (g.sizes.getD x 0).toNat) := by rw [dfs_node hf, belowL_ch]
      obtain ⟨fd, hfd⟩ : ∃ fd : Nat → List (List (List Int)), ∀ k, fd k = (F ++ belowL f g b n x e P ((chI f g b x e P (g.sizes.getD x 0).toNat).take k)).take m := ⟨_, fun _ => rfl⟩
      have fd0 : fd 0 = F := by rw [hfd, belowL_zero, List.append_nil, List.take_of_length_le (by omega)]
      have fdl : ∀ k, (fd k).length ≤ m := fun k => by rw [hfd]; simp only [List.length_take]; omega
      have fdE : ∀ k, (chI f g b x e P (g.sizes.getD x 0).toNat).length ≤ k → fd k = (F ++ dfs f g b (n + 1) P).take m := fun k hk => by rw [hfd, hdf, List.take_of_length_le hk]
      have fdS : ∀ k, ¬ (fd k).length < m → fd k = (F ++ dfs f g b (n + 1) P).take m := fun k hk => by
        have e1 : belowL f g b n x e P (chI f g b x e P (g.sizes.getD x 0).toNat) = belowL f g b n x e P ((chI f g b x e P (g.sizes.getD x 0).toNat).take k) ++ belowL f g b n x e P ((chI f g b x e P (g.sizes.getD x 0).toNat).drop k) := by
          unfold belowL
          rw [← List.flatMap_append, List.take_append_drop]
        rw [hfd] at hk
        rw [hdf, e1, ← List.append_assoc, take_full _ _ hk, hfd]
      have hx1 : 0 ≤ (x : Int) ∧ 0 ≤ (e : Int) ∧ (x : Int).toNat < f.sizes.length ∧ (e : Int) < f.sizes.getD (x : Int).toNat 0 := ⟨by omega, by omega, by rw [Int.toNat_natCast]; omega, by rw [Int.toNat_natCast]; omega⟩
      repeat' (first
        | (refine V_at 0 (Imp.openB 0 16 _ _ rfl (Nat.le_refl 1) rfl rfl) ?_; simp only [go_sem, ↓reduceIte, Nat.reduceAdd, Nat.reduceSub, Nat.reduceMul, Nat.reduceDiv, Nat.reduceLT, Nat.reduceLeDiff, Nat.reduceEqDiff, Int.reduceToNat, reduceCtorEq])
        | with_reducible first | refine V_seq ?_ | refine V_block ?_ | refine V_skip ?_ | refine V_ret ?_ | refine V_exit ?_
        | ((with_reducible refine V_cond ?_); simp only [go_sem, ↓reduceIte, Nat.reduceAdd, Nat.reduceSub, Nat.reduceMul, Nat.reduceDiv, Nat.reduceLT, Nat.reduceLeDiff, Nat.reduceEqDiff, Int.reduceToNat, reduceCtorEq])
        | ((first | refine V_region (by rw [hn]; rfl) ?_ | refine V_drawn hmix (by rw [hn]; rfl) ?_); intro K hK)
        | ((first | with_reducible refine evOps_n ?_ | ((with_reducible apply evOps_g); rfl) | with_reducible refine evOpsD_n ?_ | ((with_reducible apply evOpsD_g); rfl)); intro K hK; simp (contextual := true) only [go_sem, ↓reduceIte, Nat.reduceAdd, Nat.reduceSub, Nat.reduceMul, Nat.reduceDiv, Nat.reduceLT, Nat.reduceLeDiff, Nat.reduceEqDiff, Int.reduceToNat, reduceCtorEq])
        | with_reducible refine evOps_nil ?_
        | ((with_reducible refine evOpsD_nil ?_ ?_); kernel_rfl)
        | ((with_reducible refine hK _ ?_); clear hK K)
        | with_reducible first | refine And.intro ?_ ?_ | refine nxt_n ?_ | refine nxt_r ?_ | refine nxt_e ?_ | refine blk_n ?_ | refine blk_r ?_ | refine blk_same ?_ | refine blk_other (by decide) ?_ | refine noG_n ?_ | refine noG_r ?_ | refine noG_e ?_ | refine inR_mk ?_ ?_
        | (refine fun (hc : (_ : Bool) = _) => ?_; try simp only [decide_eq_true_eq, decide_eq_false_iff_not, Bool.not_eq_true', Bool.not_eq_false', Int.not_lt, Int.not_le, Cats.dec_iff, Cats.dec_not, Bool.and_eq_true, Bool.or_eq_true, Bool.and_eq_false_iff, Bool.or_eq_false_iff, Bool.not_eq_true, Bool.not_eq_false, Decidable.not_not, not_true_eq_false, not_false_eq_true] at hc))
      all_goals try (first | (with_reducible assumption) | ((try simp only [Cat.F, Cat.T, Cat.I, Cat.C, Fun.O, Fun.A, Cat.Entry, Int.toNat_natCast] at *); omega))
      refine V_loopK (G := {i : Nat // i ≤ P.length ∧ (True)}) (fun ⟨i, _⟩ => [(6, iv ((P.length : Int) - 1 - i)), (4, iv (pX (bkR P i))), (5, iv (pE (bkR P i)))]) [0, 1] (fun ⟨i, _⟩ => []) [] (fun zz => P.length - zz.1) ⟨0, Nat.zero_le _, by first | trivial | simp⟩ ?_ ?_
      · exact Imp.auto hX (by simp [go_sem, ↓reduceIte, Nat.reduceAdd, Nat.reduceSub, Nat.reduceMul, Nat.reduceDiv, Nat.reduceLT, Nat.reduceLeDiff, Nat.reduceEqDiff, Int.reduceToNat, reduceCtorEq])
      rintro ⟨i, hii, hwi⟩
      simp only [go_sem, ↓reduceIte, Nat.reduceAdd, Nat.reduceSub, Nat.reduceMul, Nat.reduceDiv, Nat.reduceLT, Nat.reduceLeDiff, Nat.reduceEqDiff, Int.reduceToNat, reduceCtorEq]
      have r1 := hrow (P.length - 1 - i)
      have r2 := hR (P.length - 1 - i)
      repeat' (first
        | (refine V_at 10 (Imp.refl _ _) ?_; rw [show bkR P i = some (x, e) from by rw [show i = P.length by omega, bkR_all]; exact hf])
        | (refine V_at 13 (Imp.refl _ _) ?_; rw [← fd0])
        | with_reducible first | refine V_seq ?_ | refine V_block ?_ | refine V_skip ?_ | refine V_ret ?_ | refine V_exit ?_
        | ((with_reducible refine V_cond ?_); simp only [go_sem, ↓reduceIte, Nat.reduceAdd, Nat.reduceSub, Nat.reduceMul, Nat.reduceDiv, Nat.reduceLT, Nat.reduceLeDiff, Nat.reduceEqDiff, Int.reduceToNat, reduceCtorEq])
        | ((first | refine V_region (by rw [hn]; rfl) ?_ | refine V_drawn hmix (by rw [hn]; rfl) ?_); intro K hK)
        | ((first | with_reducible refine evOps_n ?_ | ((with_reducible apply evOps_g); rfl) | with_reducible refine evOpsD_n ?_ | ((with_reducible apply evOpsD_g); rfl)); intro K hK; simp (contextual := true) only [go_sem, ↓reduceIte, Nat.reduceAdd, Nat.reduceSub, Nat.reduceMul, Nat.reduceDiv, Nat.reduceLT, Nat.reduceLeDiff, Nat.reduceEqDiff, Int.reduceToNat, reduceCtorEq])
        | with_reducible refine evOps_nil ?_
        | ((with_reducible refine evOpsD_nil ?_ ?_); kernel_rfl)
        | ((with_reducible refine hK _ ?_); clear hK K)
        | with_reducible first | refine And.intro ?_ ?_ | refine nxt_n ?_ | refine nxt_r ?_ | refine nxt_e ?_ | refine blk_n ?_ | refine blk_r ?_ | refine blk_same ?_ | refine blk_other (by decide) ?_ | refine noG_n ?_ | refine noG_r ?_ | refine noG_e ?_ | refine inR_mk ?_ ?_
        | ((with_reducible refine evCall_at 132 ?_); refine EvCall.rd (by first | (simp only [go_sem, ↓reduceIte, Nat.reduceAdd, Nat.reduceSub, Nat.reduceMul, Nat.reduceDiv, Nat.reduceLT, Nat.reduceLeDiff, Nat.reduceEqDiff, Int.reduceToNat, reduceCtorEq]; rfl) | rfl) (sp_l19Choices_at (f:=f) (g:=g) (b:=b) (m:=m) (F:=F) (P:=P) (by first | omega | assumption | rfl | exact (by assumption : SMB _).src | exact (by assumption : SMB _).tgt) (by first | omega | assumption | rfl | exact (by assumption : SMB _).src | exact (by assumption : SMB _).tgt) (by first | omega | assumption | rfl | exact (by assumption : SMB _).src | exact (by assumption : SMB _).tgt) (by first | omega | assumption | rfl | exact (by assumption : SMB _).src | exact (by assumption : SMB _).tgt)) cal_l19Choices (by simp [go_sem]) (by simp [go_sem]) ?_; all_goals try simp only [go_sem, ↓reduceIte, Nat.reduceAdd, Nat.reduceSub, Nat.reduceMul, Nat.reduceDiv, Nat.reduceLT, Nat.reduceLeDiff, Nat.reduceEqDiff, Int.reduceToNat, reduceCtorEq])
        | (refine fun (hc : (_ : Bool) = _) => ?_; try simp only [decide_eq_true_eq, decide_eq_false_iff_not, Bool.not_eq_true', Bool.not_eq_false', Int.not_lt, Int.not_le, Cats.dec_iff, Cats.dec_not, Bool.and_eq_true, Bool.or_eq_true, Bool.and_eq_false_iff, Bool.or_eq_false_iff, Bool.not_eq_true, Bool.not_eq_false, Decidable.not_not, not_true_eq_false, not_false_eq_true] at hc))
      all_goals try (first | (with_reducible assumption) | ((try simp only [Cat.F, Cat.T, Cat.I, Cat.C, Fun.O, Fun.A, Cat.Entry, Int.toNat_natCast] at *); omega))
      · refine V_loopK (G := {j : Nat // j ≤ (P.getD (P.length - 1 - i) []).length ∧ (True)}) (fun ⟨j, _⟩ => [(7, iv (((P.getD (P.length - 1 - i) []).length : Int) - 1 - j)), (4, iv (pX (bkI P i j))), (5, iv (pE (bkI P i j)))]) [0, 1, 6] (fun ⟨j, _⟩ => []) [] (fun zz => (P.getD (P.length - 1 - i) []).length - zz.1) ⟨0, Nat.zero_le _, by first | trivial | simp⟩ ?_ ?_
        · exact Imp.auto hX (by simp [go_sem, ↓reduceIte, Nat.reduceAdd, Nat.reduceSub, Nat.reduceMul, Nat.reduceDiv, Nat.reduceLT, Nat.reduceLeDiff, Nat.reduceEqDiff, Int.reduceToNat, reduceCtorEq])
        rintro ⟨j, hij, hwj⟩
        simp only [go_sem, ↓reduceIte, Nat.reduceAdd, Nat.reduceSub, Nat.reduceMul, Nat.reduceDiv, Nat.reduceLT, Nat.reduceLeDiff, Nat.reduceEqDiff, Int.reduceToNat, reduceCtorEq]
        rcases Nat.lt_or_ge j (P.getD (P.length - 1 - i) []).length with hlt | hge
        · have hx0 : 0 ≤ (P.length : Int) - 1 - i ∧ 0 ≤ ((P.getD (P.length - 1 - i) []).length : Int) - 1 - j ∧ ((P.length : Int) - 1 - i).toNat < f.sizes.length ∧ ((P.getD (P.length - 1 - i) []).length : Int) - 1 - j < f.sizes.getD ((P.length : Int) - 1 - i).toNat 0 := ⟨by omega, by omega, by omega, by rw [toNat_back]; omega⟩
          repeat' (first
            | with_reducible first | refine V_seq ?_ | refine V_block ?_ | refine V_skip ?_ | refine V_ret ?_ | refine V_exit ?_
            | ((with_reducible refine V_cond ?_); simp only [go_sem, ↓reduceIte, Nat.reduceAdd, Nat.reduceSub, Nat.reduceMul, Nat.reduceDiv, Nat.reduceLT, Nat.reduceLeDiff, Nat.reduceEqDiff, Int.reduceToNat, reduceCtorEq])
            | ((first | refine V_region (by rw [hn]; rfl) ?_ | refine V_drawn hmix (by rw [hn]; rfl) ?_); intro K hK)
            | ((first | with_reducible refine evOps_n ?_ | ((with_reducible apply evOps_g); rfl) | with_reducible refine evOpsD_n ?_ | ((with_reducible apply evOpsD_g); rfl)); intro K hK; simp (contextual := true) only [go_sem, ↓reduceIte, Nat.reduceAdd, Nat.reduceSub, Nat.reduceMul, Nat.reduceDiv, Nat.reduceLT, Nat.reduceLeDiff, Nat.reduceEqDiff, Int.reduceToNat, reduceCtorEq])
            | with_reducible refine evOps_nil ?_
            | ((with_reducible refine evOpsD_nil ?_ ?_); kernel_rfl)
            | ((with_reducible refine hK _ ?_); clear hK K)
            | with_reducible first | refine And.intro ?_ ?_ | refine nxt_n ?_ | refine nxt_r ?_ | refine nxt_e ?_ | refine blk_n ?_ | refine blk_r ?_ | refine blk_same ?_ | refine blk_other (by decide) ?_ | refine noG_n ?_ | refine noG_r ?_ | refine noG_e ?_ | refine inR_mk ?_ ?_
            | ((with_reducible refine evCall_at 132 ?_); refine EvCall.rd (by first | (simp only [go_sem, ↓reduceIte, Nat.reduceAdd, Nat.reduceSub, Nat.reduceMul, Nat.reduceDiv, Nat.reduceLT, Nat.reduceLeDiff, Nat.reduceEqDiff, Int.reduceToNat, reduceCtorEq]; rfl) | rfl) (sp_l19Choices_at (f:=f) (g:=g) (b:=b) (m:=m) (F:=F) (P:=P) (by first | omega | assumption | rfl | exact (by assumption : SMB _).src | exact (by assumption : SMB _).tgt) (by first | omega | assumption | rfl | exact (by assumption : SMB _).src | exact (by assumption : SMB _).tgt) (by first | omega | assumption | rfl | exact (by assumption : SMB _).src | exact (by assumption : SMB _).tgt) (by first | omega | assumption | rfl | exact (by assumption : SMB _).src | exact (by assumption : SMB _).tgt)) cal_l19Choices (by simp [go_sem]) (by simp [go_sem]) ?_; all_goals try simp only [go_sem, ↓reduceIte, Nat.reduceAdd, Nat.reduceSub, Nat.reduceMul, Nat.reduceDiv, Nat.reduceLT, Nat.reduceLeDiff, Nat.reduceEqDiff, Int.reduceToNat, reduceCtorEq])
            | (refine fun (hc : (_ : Bool) = _) => ?_; try simp only [decide_eq_true_eq, decide_eq_false_iff_not, Bool.not_eq_true', Bool.not_eq_false', Int.not_lt, Int.not_le, Cats.dec_iff, Cats.dec_not, Bool.and_eq_true, Bool.or_eq_true, Bool.and_eq_false_iff, Bool.or_eq_false_iff, Bool.not_eq_true, Bool.not_eq_false, Decidable.not_not, not_true_eq_false, not_false_eq_true] at hc))
          all_goals try (first | (with_reducible assumption) | ((try simp only [Cat.F, Cat.T, Cat.I, Cat.C, Fun.O, Fun.A, Cat.Entry, Int.toNat_natCast] at *); omega))
          · have e0 := hcut (P.length - 1 - i) ((P.getD (P.length - 1 - i) []).length - 1 - j) (by omega) (by omega) (by omega)
            refine endQ_mk (Imp.trans (Imp.closeB 0 2 16 _ _ rfl rfl rfl (by decide)) (Imp.drop 1 (Nat.succ_le_succ (Nat.zero_le _)))) ?_
            rw [e0]
            (first | refine ret_auto ?_ | refine ret_auto' ?_); simp only [go_sem, ↓reduceIte, Nat.reduceAdd, Nat.reduceSub, Nat.reduceMul, Nat.reduceDiv, Nat.reduceLT, Nat.reduceLeDiff, Nat.reduceEqDiff, Int.reduceToNat, reduceCtorEq, Try.f87]
          · have e1 : pX (bkI P i (j + 1)) = (P.length : Int) - 1 - i := by rw [bkI_hit (by unfold pv; omega)]; show ((P.length - 1 - i : Nat) : Int) = _; omega
            have e2 : pE (bkI P i (j + 1)) = ((P.getD (P.length - 1 - i) []).length : Int) - 1 - j := by rw [bkI_hit (by unfold pv; omega)]; show (((P.getD (P.length - 1 - i) []).length - 1 - j : Nat) : Int) = _; omega
            have e3 : ((P.getD (P.length - 1 - i) []).length : Int) - 1 - ((j : Int) + 1) = (P.getD (P.length - 1 - i) []).length - 1 - (j : Int) - 1 := by omega
            refine ⟨⟨j + 1, by omega, (by trivial)⟩, by simp only; omega, Imp.auto hX (by simp only [go_sem, ↓reduceIte, Nat.reduceAdd, Nat.reduceSub, Nat.reduceMul, Nat.reduceDiv, Nat.reduceLT, Nat.reduceLeDiff, Nat.reduceEqDiff, Int.reduceToNat, reduceCtorEq, e1, e2, e3])⟩
          · have e1 := bkI_miss (P := P) (i := i) (j := j) (by unfold pv; omega)
            have e2 : ((P.getD (P.length - 1 - i) []).length : Int) - 1 - ((j : Int) + 1) = (P.getD (P.length - 1 - i) []).length - 1 - (j : Int) - 1 := by omega
            refine ⟨⟨j + 1, by omega, (by trivial)⟩, by simp only; omega, Imp.auto hX (by simp only [go_sem, ↓reduceIte, Nat.reduceAdd, Nat.reduceSub, Nat.reduceMul, Nat.reduceDiv, Nat.reduceLT, Nat.reduceLeDiff, Nat.reduceEqDiff, Int.reduceToNat, reduceCtorEq, e1, e2])⟩
        · repeat' (first
            | with_reducible first | refine V_seq ?_ | refine V_block ?_ | refine V_skip ?_ | refine V_ret ?_ | refine V_exit ?_
            | ((with_reducible refine V_cond ?_); simp only [go_sem, ↓reduceIte, Nat.reduceAdd, Nat.reduceSub, Nat.reduceMul, Nat.reduceDiv, Nat.reduceLT, Nat.reduceLeDiff, Nat.reduceEqDiff, Int.reduceToNat, reduceCtorEq])
            | ((first | refine V_region (by rw [hn]; rfl) ?_ | refine V_drawn hmix (by rw [hn]; rfl) ?_); intro K hK)
            | ((first | with_reducible refine evOps_n ?_ | ((with_reducible apply evOps_g); rfl) | with_reducible refine evOpsD_n ?_ | ((with_reducible apply evOpsD_g); rfl)); intro K hK; simp (contextual := true) only [go_sem, ↓reduceIte, Nat.reduceAdd, Nat.reduceSub, Nat.reduceMul, Nat.reduceDiv, Nat.reduceLT, Nat.reduceLeDiff, Nat.reduceEqDiff, Int.reduceToNat, reduceCtorEq])
            | with_reducible refine evOps_nil ?_
            | ((with_reducible refine evOpsD_nil ?_ ?_); kernel_rfl)
            | ((with_reducible refine hK _ ?_); clear hK K)
            | with_reducible first | refine And.intro ?_ ?_ | refine nxt_n ?_ | refine nxt_r ?_ | refine nxt_e ?_ | refine blk_n ?_ | refine blk_r ?_ | refine blk_same ?_ | refine blk_other (by decide) ?_ | refine noG_n ?_ | refine noG_r ?_ | refine noG_e ?_ | refine inR_mk ?_ ?_
            | (refine fun (hc : (_ : Bool) = _) => ?_; try simp only [decide_eq_true_eq, decide_eq_false_iff_not, Bool.not_eq_true', Bool.not_eq_false', Int.not_lt, Int.not_le, Cats.dec_iff, Cats.dec_not, Bool.and_eq_true, Bool.or_eq_true, Bool.and_eq_false_iff, Bool.or_eq_false_iff, Bool.not_eq_true, Bool.not_eq_false, Decidable.not_not, not_true_eq_false, not_false_eq_true] at hc))
          all_goals try (first | (with_reducible assumption) | ((try simp only [Cat.F, Cat.T, Cat.I, Cat.C, Fun.O, Fun.A, Cat.Entry, Int.toNat_natCast] at *); omega))
          · have e1 : bkI P i j = bkR P (i + 1) := by rw [show j = (P.getD (P.length - 1 - i) []).length by omega]; exact bkI_all
            have e2 : (P.length : Int) - 1 - ((i : Int) + 1) = P.length - 1 - (i : Int) - 1 := by omega
            refine ⟨⟨i + 1, by omega, (by trivial)⟩, by simp only; omega, Imp.auto hX (by simp only [go_sem, ↓reduceIte, Nat.reduceAdd, Nat.reduceSub, Nat.reduceMul, Nat.reduceDiv, Nat.reduceLT, Nat.reduceLeDiff, Nat.reduceEqDiff, Int.reduceToNat, reduceCtorEq, e1, e2])⟩
      · refine V_loopK (G := {k : Nat // k ≤ (chI f g b x e P (g.sizes.getD x 0).toNat).length ∧ (True)}) (fun ⟨k, _⟩ => [(9, iv k)]) [0, 1, 4, 5, 8] (fun ⟨k, _⟩ => [(2, ⟨1, .arr (intsss (fd k))⟩)]) [2] (fun zz => (chI f g b x e P (g.sizes.getD x 0).toNat).length - zz.1) ⟨0, Nat.zero_le _, by first | trivial | simp⟩ ?_ ?_
        · exact Imp.auto hX (by simp [go_sem, ↓reduceIte, Nat.reduceAdd, Nat.reduceSub, Nat.reduceMul, Nat.reduceDiv, Nat.reduceLT, Nat.reduceLeDiff, Nat.reduceEqDiff, Int.reduceToNat, reduceCtorEq])
        rintro ⟨k, hik, hwk⟩
        simp only [go_sem, ↓reduceIte, Nat.reduceAdd, Nat.reduceSub, Nat.reduceMul, Nat.reduceDiv, Nat.reduceLT, Nat.reduceLeDiff, Nat.reduceEqDiff, Int.reduceToNat, reduceCtorEq]
        have l1 := fdl k
        rcases Nat.lt_or_ge k (chI f g b x e P (g.sizes.getD x 0).toNat).length with hlt | hge
        · obtain ⟨u, hu, eu, Q, hQ⟩ := chI_get hlt
          obtain ⟨g1, g2, g3⟩ := good_set h hG p1 p2 (by omega) hQ
          have g4 := nu_set g2 p1 p2 p3 (by rw [g3]; omega)
          have fdn : (fd k ++ dfs f g b n Q).take m = fd (k + 1) := by rw [hfd, hfd, belowL_succ hlt, eu, Int.toNat_natCast, below_some hQ, take_take]
          rcases Nat.lt_or_ge (fd k).length m with hl2 | hg2
          · have sp_l19Go := sp_l19Go_n h hm n (fd k) Q g1 (by omega) hl2
            rw [fdn] at sp_l19Go
            have q1 : (e : Int) < f.sizes.getD x 0 := by omega
            have q2 : (u : Int) < g.sizes.getD x 0 := by omega
            repeat' (first
              | (refine V_at 17 (Imp.closeB 0 2 16 _ _ rfl rfl rfl (by decide)) ?_; simp only [go_sem, ↓reduceIte, Nat.reduceAdd, Nat.reduceSub, Nat.reduceMul, Nat.reduceDiv, Nat.reduceLT, Nat.reduceLeDiff, Nat.reduceEqDiff, Int.reduceToNat, reduceCtorEq])
              | (refine V_at 15 (Imp.openB 0 16 _ _ rfl (Nat.succ_le_succ (Nat.zero_le _)) rfl rfl) ?_; simp only [go_sem, ↓reduceIte, Nat.reduceAdd, Nat.reduceSub, Nat.reduceMul, Nat.reduceDiv, Nat.reduceLT, Nat.reduceLeDiff, Nat.reduceEqDiff, Int.reduceToNat, reduceCtorEq])
              | with_reducible first | refine V_seq ?_ | refine V_block ?_ | refine V_skip ?_ | refine V_ret ?_ | refine V_exit ?_
              | ((with_reducible refine V_cond ?_); simp only [go_sem, ↓reduceIte, Nat.reduceAdd, Nat.reduceSub, Nat.reduceMul, Nat.reduceDiv, Nat.reduceLT, Nat.reduceLeDiff, Nat.reduceEqDiff, Int.reduceToNat, reduceCtorEq])
              | ((first | refine V_region (by rw [hn]; rfl) ?_ | refine V_drawn hmix (by rw [hn]; rfl) ?_); intro K hK)
              | ((first | with_reducible refine evOps_n ?_ | ((with_reducible apply evOps_g); rfl) | with_reducible refine evOpsD_n ?_ | ((with_reducible apply evOpsD_g); rfl)); intro K hK; simp (contextual := true) only [go_sem, ↓reduceIte, Nat.reduceAdd, Nat.reduceSub, Nat.reduceMul, Nat.reduceDiv, Nat.reduceLT, Nat.reduceLeDiff, Nat.reduceEqDiff, Int.reduceToNat, reduceCtorEq])
              | with_reducible refine evOps_nil ?_
              | ((with_reducible refine evOpsD_nil ?_ ?_); kernel_rfl)
              | ((with_reducible refine hK _ ?_); clear hK K)
              | with_reducible first | refine And.intro ?_ ?_ | refine nxt_n ?_ | refine nxt_r ?_ | refine nxt_e ?_ | refine blk_n ?_ | refine blk_r ?_ | refine blk_same ?_ | refine blk_other (by decide) ?_ | refine noG_n ?_ | refine noG_r ?_ | refine noG_e ?_ | refine inR_mk ?_ ?_
              | ((with_reducible refine evCall_at 133 ?_); refine EvCall.rd (by first | (simp only [go_sem, ↓reduceIte, Nat.reduceAdd, Nat.reduceSub, Nat.reduceMul, Nat.reduceDiv, Nat.reduceLT, Nat.reduceLeDiff, Nat.reduceEqDiff, Int.reduceToNat, reduceCtorEq]; rfl) | rfl) (sp_l19Set_at (f:=f) (g:=g) (b:=b) (m:=m) (F:=fd k) (P:=P) (Q:=Q) (x:=x) (e:=e) (u:=u) (by first | omega | assumption | rfl | exact (by assumption : SMB _).src | exact (by assumption : SMB _).tgt) (by first | omega | assumption | rfl | exact (by assumption : SMB _).src | exact (by assumption : SMB _).tgt) (by first | omega | assumption | rfl | exact (by assumption : SMB _).src | exact (by assumption : SMB _).tgt) (by first | omega | assumption | rfl | exact (by assumption : SMB _).src | exact (by assumption : SMB _).tgt) (by first | omega | assumption | rfl | exact (by assumption : SMB _).src | exact (by assumption : SMB _).tgt) (by first | omega | assumption | rfl | exact (by assumption : SMB _).src | exact (by assumption : SMB _).tgt) (by first | omega | assumption | rfl | exact (by assumption : SMB _).src | exact (by assumption : SMB _).tgt)) cal_l19Set (by simp [go_sem]) (by simp [go_sem]) ?_; all_goals try simp only [go_sem, ↓reduceIte, Nat.reduceAdd, Nat.reduceSub, Nat.reduceMul, Nat.reduceDiv, Nat.reduceLT, Nat.reduceLeDiff, Nat.reduceEqDiff, Int.reduceToNat, reduceCtorEq])
              | ((with_reducible refine evCall_at 87 ?_); refine EvCall.mk (sp_l19Go) cal_l19Go [(0,0),(1,4)] [] (by simp [go_sem] <;> first | rfl | exact ⟨rfl, rfl⟩ | exact ⟨rfl, rfl, rfl⟩) (by simp [go_sem] <;> first | rfl | exact ⟨rfl, rfl⟩ | exact ⟨rfl, rfl, rfl⟩) ?_; all_goals try simp only [go_sem, ↓reduceIte, Nat.reduceAdd, Nat.reduceSub, Nat.reduceMul, Nat.reduceDiv, Nat.reduceLT, Nat.reduceLeDiff, Nat.reduceEqDiff, Int.reduceToNat, reduceCtorEq])
              | (refine fun (hc : (_ : Bool) = _) => ?_; try simp only [decide_eq_true_eq, decide_eq_false_iff_not, Bool.not_eq_true', Bool.not_eq_false', Int.not_lt, Int.not_le, Cats.dec_iff, Cats.dec_not, Bool.and_eq_true, Bool.or_eq_true, Bool.and_eq_false_iff, Bool.or_eq_false_iff, Bool.not_eq_true, Bool.not_eq_false, Decidable.not_not, not_true_eq_false, not_false_eq_true] at hc))
            all_goals try (first | (with_reducible assumption) | ((try simp only [Cat.F, Cat.T, Cat.I, Cat.C, Fun.O, Fun.A, Cat.Entry, Int.toNat_natCast] at *); omega))
            · refine ⟨⟨k + 1, by omega, (by trivial)⟩, by simp only; omega, Imp.auto hX (by simp only [go_sem, ↓reduceIte, Nat.reduceAdd, Nat.reduceSub, Nat.reduceMul, Nat.reduceDiv, Nat.reduceLT, Nat.reduceLeDiff, Nat.reduceEqDiff, Int.reduceToNat, reduceCtorEq])⟩
          · repeat' (first
              | with_reducible first | refine V_seq ?_ | refine V_block ?_ | refine V_skip ?_ | refine V_ret ?_ | refine V_exit ?_
              | ((with_reducible refine V_cond ?_); simp only [go_sem, ↓reduceIte, Nat.reduceAdd, Nat.reduceSub, Nat.reduceMul, Nat.reduceDiv, Nat.reduceLT, Nat.reduceLeDiff, Nat.reduceEqDiff, Int.reduceToNat, reduceCtorEq])
              | ((first | refine V_region (by rw [hn]; rfl) ?_ | refine V_drawn hmix (by rw [hn]; rfl) ?_); intro K hK)
              | ((first | with_reducible refine evOps_n ?_ | ((with_reducible apply evOps_g); rfl) | with_reducible refine evOpsD_n ?_ | ((with_reducible apply evOpsD_g); rfl)); intro K hK; simp (contextual := true) only [go_sem, ↓reduceIte, Nat.reduceAdd, Nat.reduceSub, Nat.reduceMul, Nat.reduceDiv, Nat.reduceLT, Nat.reduceLeDiff, Nat.reduceEqDiff, Int.reduceToNat, reduceCtorEq])
              | with_reducible refine evOps_nil ?_
              | ((with_reducible refine evOpsD_nil ?_ ?_); kernel_rfl)
              | ((with_reducible refine hK _ ?_); clear hK K)
              | with_reducible first | refine And.intro ?_ ?_ | refine nxt_n ?_ | refine nxt_r ?_ | refine nxt_e ?_ | refine blk_n ?_ | refine blk_r ?_ | refine blk_same ?_ | refine blk_other (by decide) ?_ | refine noG_n ?_ | refine noG_r ?_ | refine noG_e ?_ | refine inR_mk ?_ ?_
              | (refine fun (hc : (_ : Bool) = _) => ?_; try simp only [decide_eq_true_eq, decide_eq_false_iff_not, Bool.not_eq_true', Bool.not_eq_false', Int.not_lt, Int.not_le, Cats.dec_iff, Cats.dec_not, Bool.and_eq_true, Bool.or_eq_true, Bool.and_eq_false_iff, Bool.or_eq_false_iff, Bool.not_eq_true, Bool.not_eq_false, Decidable.not_not, not_true_eq_false, not_false_eq_true] at hc))
            all_goals try (first | (with_reducible assumption) | ((try simp only [Cat.F, Cat.T, Cat.I, Cat.C, Fun.O, Fun.A, Cat.Entry, Int.toNat_natCast] at *); omega))
            · refine endQ_mk (Imp.trans (Imp.closeB 0 2 16 _ _ rfl rfl rfl (by decide)) (Imp.drop 1 (Nat.succ_le_succ (Nat.zero_le _)))) ?_
              rw [fd0, ← fdS k (by omega)]
              (first | refine ret_auto ?_ | refine ret_auto' ?_); simp only [go_sem, ↓reduceIte, Nat.reduceAdd, Nat.reduceSub, Nat.reduceMul, Nat.reduceDiv, Nat.reduceLT, Nat.reduceLeDiff, Nat.reduceEqDiff, Int.reduceToNat, reduceCtorEq, Try.f87]
        · repeat' (first
            | with_reducible first | refine V_seq ?_ | refine V_block ?_ | refine V_skip ?_ | refine V_ret ?_ | refine V_exit ?_
            | ((with_reducible refine V_cond ?_); simp only [go_sem, ↓reduceIte, Nat.reduceAdd, Nat.reduceSub, Nat.reduceMul, Nat.reduceDiv, Nat.reduceLT, Nat.reduceLeDiff, Nat.reduceEqDiff, Int.reduceToNat, reduceCtorEq])
            | ((first | refine V_region (by rw [hn]; rfl) ?_ | refine V_drawn hmix (by rw [hn]; rfl) ?_); intro K hK)
            | ((first | with_reducible refine evOps_n ?_ | ((with_reducible apply evOps_g); rfl) | with_reducible refine evOpsD_n ?_ | ((with_reducible apply evOpsD_g); rfl)); intro K hK; simp (contextual := true) only [go_sem, ↓reduceIte, Nat.reduceAdd, Nat.reduceSub, Nat.reduceMul, Nat.reduceDiv, Nat.reduceLT, Nat.reduceLeDiff, Nat.reduceEqDiff, Int.reduceToNat, reduceCtorEq])
            | with_reducible refine evOps_nil ?_
            | ((with_reducible refine evOpsD_nil ?_ ?_); kernel_rfl)
            | ((with_reducible refine hK _ ?_); clear hK K)
            | with_reducible first | refine And.intro ?_ ?_ | refine nxt_n ?_ | refine nxt_r ?_ | refine nxt_e ?_ | refine blk_n ?_ | refine blk_r ?_ | refine blk_same ?_ | refine blk_other (by decide) ?_ | refine noG_n ?_ | refine noG_r ?_ | refine noG_e ?_ | refine inR_mk ?_ ?_
            | (refine fun (hc : (_ : Bool) = _) => ?_; try simp only [decide_eq_true_eq, decide_eq_false_iff_not, Bool.not_eq_true', Bool.not_eq_false', Int.not_lt, Int.not_le, Cats.dec_iff, Cats.dec_not, Bool.and_eq_true, Bool.or_eq_true, Bool.and_eq_false_iff, Bool.or_eq_false_iff, Bool.not_eq_true, Bool.not_eq_false, Decidable.not_not, not_true_eq_false, not_false_eq_true] at hc))
          all_goals try (first | (with_reducible assumption) | ((try simp only [Cat.F, Cat.T, Cat.I, Cat.C, Fun.O, Fun.A, Cat.Entry, Int.toNat_natCast] at *); omega))
          · refine endQ_mk (Imp.trans (Imp.closeB 0 2 16 _ _ rfl rfl rfl (by decide)) (Imp.drop 1 (Nat.succ_le_succ (Nat.zero_le _)))) ?_
            rw [fd0, ← fdE k (by omega)]
            (first | refine ret_auto ?_ | refine ret_auto' ?_); simp only [go_sem, ↓reduceIte, Nat.reduceAdd, Nat.reduceSub, Nat.reduceMul, Nat.reduceDiv, Nat.reduceLT, Nat.reduceLeDiff, Nat.reduceEqDiff, Int.reduceToNat, reduceCtorEq, Try.f87]
end Go.Eng
