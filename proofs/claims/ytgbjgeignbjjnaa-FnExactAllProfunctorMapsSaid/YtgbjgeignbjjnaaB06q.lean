/- Links, by the reference: the search in depth, up to a number of results. -/
import Derived.Test.YtgbjgeignbjjnaaB05q
set_option linter.unusedSimpArgs false
set_option linter.unusedVariables false
set_option maxRecDepth 100000
set_option maxHeartbeats 16000000
namespace Go.Eng
open Go Go.Proofs Go.Cats
theorem toNat_back4 (n i : Nat) : ((n : Int) - 1 - (i : Int)).toNat = n - 1 - i := by omega
theorem pI_none : pI none = -1 := rfl
theorem pI_some (x : Nat) : pI (some x) = x := rfl
theorem chB_none (ls : List Link) (A : List Int) (S : List Nat) : chB ls A S none = [] := rfl
theorem chB_some (ls : List Link) (A : List Int) (S : List Nat) (x : Nat) : chB ls A S (some x) = chL ls A x (S.getD x 0) := rfl
attribute [local go_sem] toNat_back4 pI_none pI_some chB_none chB_some bkL_zero List.set_cons_succ List.set_cons_zero
theorem cal_l22Go : Callable Try.prog 61 := ⟨_, Try.func61, rfl, rfl⟩
theorem sp_l22Go_n {lvs : List (Link × RawV)} {S : List Nat} {Sz : List Int} {T : List (List Int)} {m : Nat} (hw : LinksW S (lvs.map (·.1))) (hl : S.length = Sz.length) (h9 : ∀ i, Sz.getD i 0 = S.getD i 0) (hb : ∀ i, S.getD i 0 ≤ 1048576) (hlc : lvs.length ≤ 1048576)
    (hT : AtW (lvs.map (·.1)) S T) (hm : m ≤ 4096) (h8 : S.length ≤ 4096) : ∀ (n : Nat) (F : List (List Int)) (A : List Int), A.length = S.length → (∀ j, j < A.length → A.getD j 0 < S.getD j 0) → uns A < n → F.length < m →
    SpecR Try.prog 61 [.ptr 0 0, .sl 1] [(0, ⟨1, .bx [.bor [] (ints Sz), .bor [] (linksD lvs), .bor [] (intss T), iv m, .dead] 4 (intss F)⟩), (1, ⟨1, .arr (ints A)⟩)] (.tup [])
      [(0, ⟨1, .bx [.bor [] (ints Sz), .bor [] (linksD lvs), .bor [] (intss T), iv m, .dead] 4 (intss ((F ++ goL (lvs.map (·.1)) S n A).take m))⟩), (1, ⟨1, .arr (ints A)⟩)] (LLent lvs)
  | 0, _, _, _, _, hk, _ => by omega
  | n + 1, F, A, hA, hr, hk, hF => by
    refine specR_of_V (E := TE) 2 Try.func61 rfl (by simp [Try.f61]) fun X hn hX hLL => ?_
    refine V_endQ ?_
    have hrd := LLent.ok hLL
    have hch : ∀ x, x < S.length → ∀ F' : List (List Int), SpecR Try.prog 76 [.bptr [] [ints Sz, linksD lvs, intss T, .v (.int .i64 m), intss F'], .bor [] (ints A), iv x] [] (.sl 0) [(0, ⟨1, .arr (ints (chL (lvs.map (·.1)) A x (S.getD x 0)))⟩)] (LLent lvs) := fun x hx F' =>
      sp_l22Choices_n hw hl h9 hb hlc hT hA hr hx
    cases hf : fqL A with
    | none =>
      repeat' (first | (refine V_at 0 (Imp.openB 0 4 _ _ rfl (Nat.le_refl 1) rfl rfl) ?_; simp only [go_sem, simprocAttr]) | (with_reducible first | refine V_seq ?_ | refine V_block ?_ | refine V_skip ?_ | refine V_ret ?_ | refine V_exit ?_) | ((with_reducible refine V_cond ?_); simp only [go_sem, simprocAttr]) | ((first | refine V_region (by rw [hn]; rfl) ?_ | refine V_drawn hmix (by rw [hn]; rfl) ?_); intro K hK) | ((first | with_reducible refine evOps_n ?_ | ((with_reducible apply evOps_g); rfl) | with_reducible refine evOpsD_n ?_ | ((with_reducible apply evOpsD_g); rfl)); intro K hK; simp (contextual := true) only [go_sem, simprocAttr]) | with_reducible refine evOps_nil ?_ | ((with_reducible refine evOpsD_nil ?_ ?_); kernel_rfl) | ((with_reducible refine hK _ ?_); clear hK K) | (with_reducible first | refine And.intro ?_ ?_ | refine nxt_n ?_ | refine nxt_r ?_ | refine nxt_e ?_ | refine blk_n ?_ | refine blk_r ?_ | refine blk_same ?_ | refine blk_other (by decide) ?_ | refine noG_n ?_ | refine noG_r ?_ | refine noG_e ?_ | refine inR_mk ?_ ?_) | (refine fun (hc : (_ : Bool) = _) => ?_; try simp only [hcS] at hc))
      all_goals try exact om_
      refine V_loopK (G := {i : Nat // i ≤ A.length ∧ (True)}) (fun ⟨i, _⟩ => [(6, iv ((A.length : Int) - 1 - i)), (4, iv (pI (bkL A i))), (5, .sl 3)]) [0, 1] (fun ⟨i, _⟩ => [(3, ⟨1, .arr (ints (chB (lvs.map (·.1)) A S (bkL A i)))⟩)]) [3] (fun zz => A.length - zz.1) ⟨0, Nat.zero_le _, by first | trivial | simp⟩ ?_ ?_
      · exact Imp.au hX
      rintro ⟨i, hii, hwi⟩
      simp only [go_sem, simprocAttr]
      have r3 := fqL_none.1 hf (A.length - 1 - i)
      repeat' (first | (refine V_at 9 (Imp.refl _ _) ?_; rw [show bkL A i = none from by rw [show i = A.length by omega, bkL_all]; exact hf]) | (with_reducible first | refine V_seq ?_ | refine V_block ?_ | refine V_skip ?_ | refine V_ret ?_ | refine V_exit ?_) | ((with_reducible refine V_cond ?_); simp only [go_sem, simprocAttr]) | ((first | refine V_region (by rw [hn]; rfl) ?_ | refine V_drawn hmix (by rw [hn]; rfl) ?_); intro K hK) | ((first | with_reducible refine evOps_n ?_ | ((with_reducible apply evOps_g); rfl) | with_reducible refine evOpsD_n ?_ | ((with_reducible apply evOpsD_g); rfl)); intro K hK; simp (contextual := true) only [go_sem, simprocAttr]) | with_reducible refine evOps_nil ?_ | ((with_reducible refine evOpsD_nil ?_ ?_); kernel_rfl) | ((with_reducible refine hK _ ?_); clear hK K) | (with_reducible first | refine And.intro ?_ ?_ | refine nxt_n ?_ | refine nxt_r ?_ | refine nxt_e ?_ | refine blk_n ?_ | refine blk_r ?_ | refine blk_same ?_ | refine blk_other (by decide) ?_ | refine noG_n ?_ | refine noG_r ?_ | refine noG_e ?_ | refine inR_mk ?_ ?_) | ((with_reducible refine evCall_at 43 ?_); refine EvCall.rq (a := (sp_l01Own ?_)) (b := cal_l01Own) (c := ?_); all_goals try simp only [go_sem, simprocAttr]) | (refine fun (hc : (_ : Bool) = _) => ?_; try simp only [hcS] at hc))
      all_goals try exact om_
      · have e1 := bkL_miss hc
        have e2 : (A.length : Int) - 1 - ((i : Int) + 1) = A.length - 1 - (i : Int) - 1 := by omega
        refine ⟨⟨i + 1, by omega, (by trivial)⟩, by simp only; omega, Imp.auto hX (by simp only [go_sem, simprocAttr, e1, e2])⟩
      · refine endQ_mk (Imp.closeB 0 6 4 _ _ rfl rfl rfl (by decide)) ?_
        rw [goL_leaf hf, List.take_of_length_le (show (F ++ [A]).length ≤ m by simp; omega)]
        (first | refine ret_auto ?_ | refine ret_auto' ?_); simp only [go_sem, simprocAttr, Try.f61]
    | some x =>
      obtain ⟨p1, p2, p3⟩ := fqL_some hf
      have hcut : ∀ k, k < A.length → A.getD k 0 = -1 → (chL (lvs.map (·.1)) A k (S.getD k 0)).length = 0 → (F ++ goL (lvs.map (·.1)) S (n + 1) A).take m = F := fun k hk h1 h0 => by
        rw [goL_cut hw (n + 1) A hA k hk h1 h0, List.append_nil, List.take_of_length_le (by omega)]
      have hdf : goL (lvs.map (·.1)) S (n + 1) A = belQ (lvs.map (·.1)) S n x A (chL (lvs.map (·.1)) A x (S.getD x 0)) := goL_node hf
      have lc := chL_len (ls := lvs.map (·.1)) (A := A) (n := x) (S.getD x 0)
      have hbx := hb x
      obtain ⟨C, hC⟩ : ∃ C, chL (lvs.map (·.1)) A x (S.getD x 0) = C := ⟨_, rfl⟩
      rw [hC] at lc
      obtain ⟨fd, hfd⟩ : ∃ fd : Nat → List (List Int), ∀ k, fd k = (F ++ belQ (lvs.map (·.1)) S n x A (C.take k)).take m := ⟨_, fun _ => rfl⟩
      have fd0 : fd 0 = F := by rw [hfd, belQ_zero, List.append_nil, List.take_of_length_le (by omega)]
      have fdl : ∀ k, (fd k).length ≤ m := fun k => by rw [hfd]; simp only [List.length_take]; omega
      have fdE : ∀ k, C.length ≤ k → fd k = (F ++ goL (lvs.map (·.1)) S (n + 1) A).take m := fun k hk => by rw [hfd, hdf, hC, List.take_of_length_le hk]
      have fdS : ∀ k, ¬ (fd k).length < m → fd k = (F ++ goL (lvs.map (·.1)) S (n + 1) A).take m := fun k hk => by
        have e1 : belQ (lvs.map (·.1)) S n x A C = belQ (lvs.map (·.1)) S n x A (C.take k) ++ belQ (lvs.map (·.1)) S n x A (C.drop k) := by
          unfold belQ
          rw [← List.flatMap_append, List.take_append_drop]
        rw [hfd] at hk
        rw [hdf, hC, e1, ← List.append_assoc, fullQ _ _ hk, hfd]
      repeat' (first | (refine V_at 0 (Imp.openB 0 4 _ _ rfl (Nat.le_refl 1) rfl rfl) ?_; simp only [go_sem, simprocAttr]) | (with_reducible first | refine V_seq ?_ | refine V_block ?_ | refine V_skip ?_ | refine V_ret ?_ | refine V_exit ?_) | ((with_reducible refine V_cond ?_); simp only [go_sem, simprocAttr]) | ((first | refine V_region (by rw [hn]; rfl) ?_ | refine V_drawn hmix (by rw [hn]; rfl) ?_); intro K hK) | ((first | with_reducible refine evOps_n ?_ | ((with_reducible apply evOps_g); rfl) | with_reducible refine evOpsD_n ?_ | ((with_reducible apply evOpsD_g); rfl)); intro K hK; simp (contextual := true) only [go_sem, simprocAttr]) | with_reducible refine evOps_nil ?_ | ((with_reducible refine evOpsD_nil ?_ ?_); kernel_rfl) | ((with_reducible refine hK _ ?_); clear hK K) | (with_reducible first | refine And.intro ?_ ?_ | refine nxt_n ?_ | refine nxt_r ?_ | refine nxt_e ?_ | refine blk_n ?_ | refine blk_r ?_ | refine blk_same ?_ | refine blk_other (by decide) ?_ | refine noG_n ?_ | refine noG_r ?_ | refine noG_e ?_ | refine inR_mk ?_ ?_) | (refine fun (hc : (_ : Bool) = _) => ?_; try simp only [hcS] at hc))
      all_goals try exact om_
      refine V_loopK (G := {i : Nat // i ≤ A.length ∧ (True)}) (fun ⟨i, _⟩ => [(6, iv ((A.length : Int) - 1 - i)), (4, iv (pI (bkL A i))), (5, .sl 3)]) [0, 1] (fun ⟨i, _⟩ => [(3, ⟨1, .arr (ints (chB (lvs.map (·.1)) A S (bkL A i)))⟩)]) [3] (fun zz => A.length - zz.1) ⟨0, Nat.zero_le _, by first | trivial | simp⟩ ?_ ?_
      · exact Imp.au hX
      rintro ⟨i, hii, hwi⟩
      simp only [go_sem, simprocAttr]
      rcases Nat.lt_or_ge i A.length with hlt | hge
      · have hci := hch (A.length - 1 - i) (by omega) F
        have ei : (A.length : Int) - 1 - i = ((A.length - 1 - i : Nat) : Int) := by omega
        rw [← ei] at hci
        have e2 : (A.length : Int) - 1 - ((i : Int) + 1) = A.length - 1 - (i : Int) - 1 := by omega
        repeat' (first | (refine V_regionX (id := 7) (by rw [hn]; rfl) ?_; intro K hK) | (refine evOpsX_h ?_; intro K hK; refine HkX.callR (f := 76) (caps := []) hrd hci cal_l22Choices [(0,4)] [0,2,1] (by simp only [go_sem, simprocAttr]) (by simp [go_sem] <;> first | rfl | exact ⟨rfl, rfl⟩ | exact ⟨rfl, rfl, rfl⟩) (by simp only [go_sem, simprocAttr]; exact .inl ⟨_, rfl, by simp only [go_sem, simprocAttr, List.take_succ_cons, List.take_zero, List.take_nil]⟩) ?_; all_goals try simp only [go_sem, simprocAttr]) | ((with_reducible refine evOpsX_n ?_); intro K hK; simp (contextual := true) only [go_sem, simprocAttr]) | (with_reducible refine evOpsX_nil ?_) | (with_reducible first | refine V_seq ?_ | refine V_block ?_ | refine V_skip ?_ | refine V_ret ?_ | refine V_exit ?_) | ((with_reducible refine V_cond ?_); simp only [go_sem, simprocAttr]) | ((first | refine V_region (by rw [hn]; rfl) ?_ | refine V_drawn hmix (by rw [hn]; rfl) ?_); intro K hK) | ((first | with_reducible refine evOps_n ?_ | ((with_reducible apply evOps_g); rfl) | with_reducible refine evOpsD_n ?_ | ((with_reducible apply evOpsD_g); rfl)); intro K hK; simp (contextual := true) only [go_sem, simprocAttr]) | with_reducible refine evOps_nil ?_ | ((with_reducible refine evOpsD_nil ?_ ?_); kernel_rfl) | ((with_reducible refine hK _ ?_); clear hK K) | (with_reducible first | refine And.intro ?_ ?_ | refine nxt_n ?_ | refine nxt_r ?_ | refine nxt_e ?_ | refine blk_n ?_ | refine blk_r ?_ | refine blk_same ?_ | refine blk_other (by decide) ?_ | refine noG_n ?_ | refine noG_r ?_ | refine noG_e ?_ | refine inR_mk ?_ ?_) | (refine fun (hc : (_ : Bool) = _) => ?_; try simp only [hcS] at hc))
        all_goals try exact om_
        · refine endQ_mk (Imp.closeB 0 2 4 _ _ rfl rfl rfl (by decide)) ?_
          rw [hcut (A.length - 1 - i) (by omega) (by assumption) (by omega)]
          (first | refine ret_auto ?_ | refine ret_auto' ?_); simp only [go_sem, simprocAttr, Try.f61]
        · have e1 := bkL_hit (A := A) (i := i) (by assumption)
          refine ⟨⟨i + 1, by omega, (by trivial)⟩, by simp only; omega, Imp.auto hX (by simp only [go_sem, simprocAttr, e1, e2, ← ei])⟩
        · have e1 := bkL_miss (A := A) (i := i) (by assumption)
          refine ⟨⟨i + 1, by omega, (by trivial)⟩, by simp only; omega, Imp.auto hX (by simp only [go_sem, simprocAttr, e1, e2])⟩
      · repeat' (first | (refine V_at 9 (Imp.refl _ _) ?_; rw [show bkL A i = some x from by rw [show i = A.length by omega, bkL_all]; exact hf, chB_some, hC, ← fd0]; simp only [go_sem, simprocAttr]) | (with_reducible first | refine V_seq ?_ | refine V_block ?_ | refine V_skip ?_ | refine V_ret ?_ | refine V_exit ?_) | ((with_reducible refine V_cond ?_); simp only [go_sem, simprocAttr]) | ((first | refine V_region (by rw [hn]; rfl) ?_ | refine V_drawn hmix (by rw [hn]; rfl) ?_); intro K hK) | ((first | with_reducible refine evOps_n ?_ | ((with_reducible apply evOps_g); rfl) | with_reducible refine evOpsD_n ?_ | ((with_reducible apply evOpsD_g); rfl)); intro K hK; simp (contextual := true) only [go_sem, simprocAttr]) | with_reducible refine evOps_nil ?_ | ((with_reducible refine evOpsD_nil ?_ ?_); kernel_rfl) | ((with_reducible refine hK _ ?_); clear hK K) | (with_reducible first | refine And.intro ?_ ?_ | refine nxt_n ?_ | refine nxt_r ?_ | refine nxt_e ?_ | refine blk_n ?_ | refine blk_r ?_ | refine blk_same ?_ | refine blk_other (by decide) ?_ | refine noG_n ?_ | refine noG_r ?_ | refine noG_e ?_ | refine inR_mk ?_ ?_) | (refine fun (hc : (_ : Bool) = _) => ?_; try simp only [hcS] at hc))
        all_goals try exact om_
        refine V_loopK (G := {k : Nat // k ≤ C.length ∧ (True)}) (fun ⟨k, _⟩ => [(7, iv k)]) [0, 1, 4, 5] (fun ⟨k, _⟩ => [(2, ⟨1, .arr (intss (fd k))⟩)]) [2] (fun zz => C.length - zz.1) ⟨0, Nat.zero_le _, by first | trivial | simp⟩ ?_ ?_
        · exact Imp.au hX
        rintro ⟨k, hik, hwk⟩
        simp only [go_sem, simprocAttr]
        have l1 := fdl k
        rcases Nat.lt_or_ge k C.length with hlt2 | hge2
        · rcases Nat.lt_or_ge (fd k).length m with hl2 | hg2
          · obtain ⟨u, hu, hus⟩ := chL_get (ls := lvs.map (·.1)) (A := A) (n := x) (m := S.getD x 0) (k := k) (by rw [hC]; exact hlt2)
            rw [hC] at hu
            have hx : XtL A (A.set x (C.getD k 0)) := .setL p1 p2
            have hun := hx.uns_lt p1 (by omega) (by rw [set_getD p1, if_pos rfl]; omega)
            have fdn : (fd k ++ goL (lvs.map (·.1)) S n (A.set x (C.getD k 0))).take m = fd (k + 1) := by rw [hfd, hfd, belQ_succ hlt2, takeQ]
            have hrec := sp_l22Go_n (Sz := Sz) (T := T) hw hl h9 hb hlc hT hm h8 n (fd k) (A.set x (C.getD k 0)) (by simpa using hA) (fun j hj => by
              rw [set_getD p1]
              split
              · rename_i q; rw [q]; omega
              · exact hr j (by simpa using hj)) (by omega) hl2
            rw [fdn] at hrec
            repeat' (first | (refine V_at 16 (Imp.closeB 0 2 4 _ _ rfl rfl rfl (by decide)) ?_; simp only [go_sem, simprocAttr]) | (refine V_at 13 (Imp.trans (Imp.openB 0 4 _ _ rfl (Nat.succ_le_succ (Nat.zero_le _)) rfl rfl) (Imp.drop 4 (Nat.succ_le_succ (Nat.zero_le _)))) ?_; simp only [go_sem, simprocAttr]) | (refine V_regionX (id := 16) (by rw [hn]; rfl) ?_; intro K hK) | (refine evOpsX_h ?_; intro K hK; refine HkX.callR (f := 61) (caps := []) hrd hrec cal_l22Go [(0,0),(1,4)] [] (by simp only [go_sem, simprocAttr]) (by simp [go_sem] <;> first | rfl | exact ⟨rfl, rfl⟩ | exact ⟨rfl, rfl, rfl⟩) (by simp [go_sem] <;> first | rfl | exact ⟨rfl, rfl⟩ | exact ⟨rfl, rfl, rfl⟩) ?_; all_goals try simp only [go_sem, simprocAttr]) | ((with_reducible refine evOpsX_n ?_); intro K hK; simp (contextual := true) only [go_sem, simprocAttr]) | (with_reducible refine evOpsX_nil ?_) | (with_reducible first | refine V_seq ?_ | refine V_block ?_ | refine V_skip ?_ | refine V_ret ?_ | refine V_exit ?_) | ((with_reducible refine V_cond ?_); simp only [go_sem, simprocAttr]) | ((first | refine V_region (by rw [hn]; rfl) ?_ | refine V_drawn hmix (by rw [hn]; rfl) ?_); intro K hK) | ((first | with_reducible refine evOps_n ?_ | ((with_reducible apply evOps_g); rfl) | with_reducible refine evOpsD_n ?_ | ((with_reducible apply evOpsD_g); rfl)); intro K hK; simp (contextual := true) only [go_sem, simprocAttr]) | with_reducible refine evOps_nil ?_ | ((with_reducible refine evOpsD_nil ?_ ?_); kernel_rfl) | ((with_reducible refine hK _ ?_); clear hK K) | (with_reducible first | refine And.intro ?_ ?_ | refine nxt_n ?_ | refine nxt_r ?_ | refine nxt_e ?_ | refine blk_n ?_ | refine blk_r ?_ | refine blk_same ?_ | refine blk_other (by decide) ?_ | refine noG_n ?_ | refine noG_r ?_ | refine noG_e ?_ | refine inR_mk ?_ ?_) | ((with_reducible refine evCall_at 43 ?_); refine EvCall.rq (a := (sp_l01Own ?_)) (b := cal_l01Own) (c := ?_); all_goals try simp only [go_sem, simprocAttr]) | (refine fun (hc : (_ : Bool) = _) => ?_; try simp only [hcS] at hc))
            all_goals try exact om_
            · refine ⟨⟨k + 1, by omega, (by trivial)⟩, by simp only; omega, Imp.ao hX⟩
          · repeat' (first | (with_reducible first | refine V_seq ?_ | refine V_block ?_ | refine V_skip ?_ | refine V_ret ?_ | refine V_exit ?_) | ((with_reducible refine V_cond ?_); simp only [go_sem, simprocAttr]) | ((first | refine V_region (by rw [hn]; rfl) ?_ | refine V_drawn hmix (by rw [hn]; rfl) ?_); intro K hK) | ((first | with_reducible refine evOps_n ?_ | ((with_reducible apply evOps_g); rfl) | with_reducible refine evOpsD_n ?_ | ((with_reducible apply evOpsD_g); rfl)); intro K hK; simp (contextual := true) only [go_sem, simprocAttr]) | with_reducible refine evOps_nil ?_ | ((with_reducible refine evOpsD_nil ?_ ?_); kernel_rfl) | ((with_reducible refine hK _ ?_); clear hK K) | (with_reducible first | refine And.intro ?_ ?_ | refine nxt_n ?_ | refine nxt_r ?_ | refine nxt_e ?_ | refine blk_n ?_ | refine blk_r ?_ | refine blk_same ?_ | refine blk_other (by decide) ?_ | refine noG_n ?_ | refine noG_r ?_ | refine noG_e ?_ | refine inR_mk ?_ ?_) | (refine fun (hc : (_ : Bool) = _) => ?_; try simp only [hcS] at hc))
            all_goals try exact om_
            · refine endQ_mk (Imp.closeB 0 2 4 _ _ rfl rfl rfl (by decide)) ?_
              rw [fd0, ← fdS k (by omega)]
              (first | refine ret_auto ?_ | refine ret_auto' ?_); simp only [go_sem, simprocAttr, Try.f61]
        · repeat' (first | (with_reducible first | refine V_seq ?_ | refine V_block ?_ | refine V_skip ?_ | refine V_ret ?_ | refine V_exit ?_) | ((with_reducible refine V_cond ?_); simp only [go_sem, simprocAttr]) | ((first | refine V_region (by rw [hn]; rfl) ?_ | refine V_drawn hmix (by rw [hn]; rfl) ?_); intro K hK) | ((first | with_reducible refine evOps_n ?_ | ((with_reducible apply evOps_g); rfl) | with_reducible refine evOpsD_n ?_ | ((with_reducible apply evOpsD_g); rfl)); intro K hK; simp (contextual := true) only [go_sem, simprocAttr]) | with_reducible refine evOps_nil ?_ | ((with_reducible refine evOpsD_nil ?_ ?_); kernel_rfl) | ((with_reducible refine hK _ ?_); clear hK K) | (with_reducible first | refine And.intro ?_ ?_ | refine nxt_n ?_ | refine nxt_r ?_ | refine nxt_e ?_ | refine blk_n ?_ | refine blk_r ?_ | refine blk_same ?_ | refine blk_other (by decide) ?_ | refine noG_n ?_ | refine noG_r ?_ | refine noG_e ?_ | refine inR_mk ?_ ?_) | (refine fun (hc : (_ : Bool) = _) => ?_; try simp only [hcS] at hc))
          all_goals try exact om_
          · refine endQ_mk (Imp.closeB 0 2 4 _ _ rfl rfl rfl (by decide)) ?_
            rw [fd0, ← fdE k (by omega)]
            (first | refine ret_auto ?_ | refine ret_auto' ?_); simp only [go_sem, simprocAttr, Try.f61]
end Go.Eng
