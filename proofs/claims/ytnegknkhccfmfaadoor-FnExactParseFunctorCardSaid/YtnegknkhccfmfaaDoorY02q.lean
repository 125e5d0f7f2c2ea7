/- Texts, by the program: words, lists of numbers. -/
import Derived.Test.YtnegknkhccfmfaaDoorY01q
import Derived.Test.YtnegknkhccfmfaaDoorShDq
set_option linter.unusedSimpArgs false
set_option linter.unusedVariables false
set_option maxRecDepth 100000
set_option maxHeartbeats 16000000
namespace Go.Eng
open Go Go.Proofs Go.Cats
abbrev ErR (x : Value) : World → (Nat → Prop) → Prop := GlR 0 x 1
theorem ErR.m {x : Value} : ∀ w S, ErR x w S → ∃ m : Int, w.cell? ⟨1, 0, none⟩ = some (.int .i64 m) := fun w S h => h.2.2.2
theorem cal_Split : Callable Tryd.prog 57 := ⟨_, Tryd.func57, rfl, rfl⟩
theorem sp_Split {x : Value} {s : Bts} (hl : s.length ≤ 1048576) : SpecR Tryd.prog 57 [.v (bst s), .v (bst [32])] [] (.sl 0) [(0, ⟨1, .arr (strsD (spl 32 s))⟩)] (ErR x) := by
  have h := specR_split (P := Tryd.prog) (f := 57) (g1 := 1) (R := ErR x) (s := s) (sep := [32]) ErR.m (fun s sep m w a b c => Tryd.strings_Split s sep m w a b c) (by omega) (by decide)
  rwa [split_spl] at h
theorem cal_words : Callable Tryd.prog 44 := ⟨_, Tryd.func44, rfl, rfl⟩
theorem sp_words_no {x : Value} {s : Bts} (hs : s = [45]) : SpecR Tryd.prog 44 [.v (bst s)] [] (.v (.slice none 0 0)) [] (ErR x) := by
  refine specR_of_V (E := TE) 0 Tryd.func44 rfl (by simp [Tryd.f44]) fun X hn hX hG => ?_
  repeat' (first | (with_reducible first | refine V_seq ?_ | refine V_skip ?_ | refine V_ret ?_) | ((with_reducible refine V_cond ?_); simp only [go_sem, simprocAttr]) | ((refine V_region (by rw [hn]; rfl) ?_); intro K hK) | ((first | with_reducible refine evOps_n ?_ | ((with_reducible apply evOps_g); rfl)); intro K hK; simp (contextual := true) only [go_sem, simprocAttr]) | with_reducible refine evOps_nil ?_ | ((with_reducible refine hK _ ?_); clear hK K) | (with_reducible first | refine And.intro ?_ ?_ | refine nxt_n ?_ | refine nxt_r ?_ | refine inR_mk ?_ ?_) | (refine hook_seq (a := s) (b := [45]) Tryd.underlying9 (by simp only [go_sem, simprocAttr]) rfl ?_; simp only [go_sem, simprocAttr]) | (refine fun (hc : (_ : Bool) = _) => ?_; try simp only [hcS] at hc))
  all_goals try exact om_
  all_goals first | contradiction | skip
  all_goals ((first | refine ret_auto ?_ | refine ret_auto' ?_); simp only [go_sem, simprocAttr, Tryd.f44])
theorem sp_words_yes {x : Value} {s : Bts} (hl : s.length ≤ 1048576) (hs : ¬ s = [45]) : SpecR Tryd.prog 44 [.v (bst s)] [] (.sl 0) [(0, ⟨1, .arr (strsD (wordsT s))⟩)] (ErR x) := by
  have hso := sp_Split (x := x) hl
  rw [show spl 32 s = wordsT s from by unfold wordsT; rw [if_neg hs]] at hso
  refine specR_of_V (E := TE) 0 Tryd.func44 rfl (by simp [Tryd.f44]) fun X hn hX hG => ?_
  have hrd : RdOk X (ErR x) := GlR.ok hG
  repeat' (first | (refine (id ?_ : V _ _ (Code.region 3 _ _) _ _); refine V_regionX (by rw [hn]; rfl) ?_; intro K hK) | (refine evOpsX_h ?_; intro K hK; refine HkX.callR (f := 57) (caps := []) hrd hso cal_Split [(0,0)] [] (by simp only [go_sem, simprocAttr]) (by simp [go_sem] <;> first | rfl | exact ⟨rfl, rfl⟩ | exact ⟨rfl, rfl, rfl⟩) (by simp [go_sem] <;> first | rfl | exact ⟨rfl, rfl⟩ | exact ⟨rfl, rfl, rfl⟩) ?_; all_goals try simp only [go_sem, simprocAttr]) | ((with_reducible refine evOpsX_n ?_); intro K hK; simp (contextual := true) only [go_sem, simprocAttr]) | (with_reducible refine evOpsX_nil ?_) | (with_reducible first | refine V_seq ?_ | refine V_skip ?_ | refine V_ret ?_) | ((with_reducible refine V_cond ?_); simp only [go_sem, simprocAttr]) | ((refine V_region (by rw [hn]; rfl) ?_); intro K hK) | ((first | with_reducible refine evOps_n ?_ | ((with_reducible apply evOps_g); rfl)); intro K hK; simp (contextual := true) only [go_sem, simprocAttr]) | with_reducible refine evOps_nil ?_ | ((with_reducible refine hK _ ?_); clear hK K) | (with_reducible first | refine And.intro ?_ ?_ | refine nxt_n ?_ | refine nxt_r ?_ | refine inR_mk ?_ ?_) | (refine hook_seq (a := s) (b := [45]) Tryd.underlying9 (by simp only [go_sem, simprocAttr]) rfl ?_; simp only [go_sem, simprocAttr]) | (refine fun (hc : (_ : Bool) = _) => ?_; try simp only [hcS] at hc))
  all_goals try exact om_
  all_goals first | contradiction | skip
  all_goals ((first | refine ret_auto ?_ | refine ret_auto' ?_); simp only [go_sem, simprocAttr, Tryd.f44])
theorem words_ok {s : Bts} (hl : s.length ≤ 1048576) : (wordsT s).length ≤ 1048577 ∧ ∀ i, i < (wordsT s).length → ((wordsT s).getD i []).length ≤ 1048576 := by
  have key : ∀ s : Bts, (spl 32 s).length ≤ s.length + 1 ∧ ∀ w ∈ spl 32 s, w.length ≤ s.length := fun s => by
    induction s with
    | nil => simp [spl]
    | cons b l ih =>
      by_cases h : b = 32
      · subst h
        rw [spl_eq]
        refine ⟨by simp only [List.length_cons]; omega, fun w hw => ?_⟩
        rcases List.mem_cons.1 hw with h | h
        · rw [h]; simp
        · have := ih.2 w h; simp only [List.length_cons]; omega
      · rw [spl_cons h]
        obtain ⟨w, r, hwr⟩ : ∃ w r, spl 32 l = w :: r := by
          cases hx : spl 32 l with
          | nil => exact absurd hx spl_ne
          | cons w r => exact ⟨w, r, rfl⟩
        rw [hwr] at ih ⊢
        refine ⟨by have := ih.1; simp only [pj, List.length_cons] at this ⊢; omega, fun v hv => ?_⟩
        simp only [pj] at hv
        rcases List.mem_cons.1 hv with h | h
        · have := ih.2 w (by simp)
          rw [h]; simp; omega
        · have := ih.2 v (by simp [h]); simp only [List.length_cons]; omega
  unfold wordsT
  split
  · exact ⟨by simp, fun i hi => by simp at hi⟩
  · obtain ⟨k1, k2⟩ := key s
    refine ⟨by omega, fun i hi => ?_⟩
    have := k2 ((spl 32 s).getD i []) (by rw [List.getD_eq_getElem?_getD, List.getElem?_eq_getElem hi]; exact List.getElem_mem hi)
    omega
theorem cal_list : Callable Tryd.prog 25 := ⟨_, Tryd.func25, rfl, rfl⟩
def LsO (s : Bts) : Prop := ∀ w ∈ wordsT s, DigOk w
def numsI (s : Bts) (i : Nat) : List Int := ((wordsT s).take i).map fun w => (val w : Int)
theorem numsI_zero {s : Bts} : numsI s 0 = [] := rfl
theorem numsI_len {s : Bts} {i : Nat} (h : i ≤ (wordsT s).length) : (numsI s i).length = i := by unfold numsI; rw [List.length_map, List.length_take]; omega
theorem numsI_succ {s : Bts} {i : Nat} (h : i < (wordsT s).length) : numsI s (i + 1) = numsI s i ++ [(val ((wordsT s).getD i []) : Int)] := by
  unfold numsI
  rw [List.take_succ_eq_append_getElem h, List.map_append, List.getD_eq_getElem?_getD, List.getElem?_eq_getElem h]; rfl
theorem numsI_end {s : Bts} : numsI s (wordsT s).length = numsT s := by unfold numsI numsT; rw [List.take_length]
attribute [local go_sem] numsI_zero
theorem sp_list_dash {x : Value} {s : Bts} (hs : s = [45]) : SpecR Tryd.prog 25 [.v (bst s)] [] (.tup [.sl 0, .v .nilIface]) [(0, ⟨1, .arr (ints (numsT s))⟩)] (ErR x) := by
  have hso := sp_words_no (x := x) hs
  have hnt : numsT s = [] := by unfold numsT wordsT; rw [if_pos hs]; rfl
  rw [hnt]
  refine specR_of_V (E := TE) 0 Tryd.func25 rfl (by simp [Tryd.f25]) fun X hn hX hG => ?_
  have hrd : RdOk X (ErR x) := GlR.ok hG
  repeat' (first | (refine (id ?_ : V _ _ (Code.region 2 _ _) _ _); refine V_regionX (by rw [hn]; rfl) ?_; intro K hK) | (refine evOpsX_h ?_; intro K hK; refine HkX.callR (f := 44) (caps := []) hrd hso cal_words [] [] (by simp only [go_sem, simprocAttr]) (by simp [go_sem] <;> first | rfl | exact ⟨rfl, rfl⟩ | exact ⟨rfl, rfl, rfl⟩) (by simp [go_sem] <;> first | rfl | exact ⟨rfl, rfl⟩ | exact ⟨rfl, rfl, rfl⟩) ?_; all_goals try simp only [go_sem, simprocAttr]) | ((with_reducible refine evOpsX_n ?_); intro K hK; simp (contextual := true) only [go_sem, simprocAttr]) | (with_reducible refine evOpsX_nil ?_) | (with_reducible first | refine V_seq ?_ | refine V_block ?_ | refine V_skip ?_ | refine V_ret ?_ | refine V_exit ?_) | ((with_reducible refine V_cond ?_); simp only [go_sem, simprocAttr]) | ((refine V_region (by rw [hn]; rfl) ?_); intro K hK) | ((first | with_reducible refine evOps_n ?_ | ((with_reducible apply evOps_g); rfl)); intro K hK; simp (contextual := true) only [go_sem, simprocAttr]) | with_reducible refine evOps_nil ?_ | ((with_reducible refine hK _ ?_); clear hK K) | (with_reducible first | refine And.intro ?_ ?_ | refine nxt_n ?_ | refine nxt_r ?_ | refine nxt_e ?_ | refine blk_n ?_ | refine blk_r ?_ | refine blk_same ?_ | refine blk_other (by decide) ?_ | refine noG_n ?_ | refine noG_r ?_ | refine noG_e ?_ | refine inR_mk ?_ ?_) | (refine fun (hc : (_ : Bool) = _) => ?_; try simp only [hcS] at hc))
  all_goals try exact om_
  refine V_loopK (G := {i : Nat // i ≤ (0 : Nat) ∧ (True)}) (fun ⟨i, _⟩ => [(13, iv i), (4, .sl 0), (11, .v (.slice none 0 0))]) [12] (fun ⟨i, _⟩ => []) [] (fun zz => (0 : Nat) - zz.1) ⟨0, Nat.zero_le _, by first | trivial | simp⟩ ?_ ?_
  · exact Imp.au hX
  rintro ⟨i, hii, hwi⟩
  simp only [go_sem, simprocAttr]
  obtain rfl : i = 0 := by omega
  repeat' (first | (with_reducible first | refine V_seq ?_ | refine V_block ?_ | refine V_skip ?_ | refine V_ret ?_ | refine V_exit ?_) | ((with_reducible refine V_cond ?_); simp only [go_sem, simprocAttr]) | ((refine V_region (by rw [hn]; rfl) ?_); intro K hK) | ((first | with_reducible refine evOps_n ?_ | ((with_reducible apply evOps_g); rfl)); intro K hK; simp (contextual := true) only [go_sem, simprocAttr]) | with_reducible refine evOps_nil ?_ | ((with_reducible refine hK _ ?_); clear hK K) | (with_reducible first | refine And.intro ?_ ?_ | refine nxt_n ?_ | refine nxt_r ?_ | refine nxt_e ?_ | refine blk_n ?_ | refine blk_r ?_ | refine blk_same ?_ | refine blk_other (by decide) ?_ | refine noG_n ?_ | refine noG_r ?_ | refine noG_e ?_ | refine inR_mk ?_ ?_) | (refine fun (hc : (_ : Bool) = _) => ?_; try simp only [hcS] at hc))
  all_goals try exact om_
  all_goals try (exfalso; omega)
  all_goals ((first | refine ret_auto ?_ | refine ret_auto' ?_); simp only [go_sem, simprocAttr, Tryd.f25])
theorem sp_list_yes {x : Value} {s : Bts} (hx : x = .nilIface ∨ ∃ u z, x = .iface u z) (hl : s.length ≤ 1048576) (hs : ¬ s = [45]) (ho : LsO s) : SpecR Tryd.prog 25 [.v (bst s)] [] (.tup [.sl 0, .v .nilIface]) [(0, ⟨1, .arr (ints (numsT s))⟩)] (ErR x) := by
  have hso := sp_words_yes (x := x) hl hs
  obtain ⟨wl, wb⟩ := words_ok hl
  refine specR_of_V (E := TE) 0 Tryd.func25 rfl (by simp [Tryd.f25]) fun X hn hX hG => ?_
  have hrd : RdOk X (ErR x) := GlR.ok hG
  repeat' (first | (refine (id ?_ : V _ _ (Code.region 2 _ _) _ _); refine V_regionX (by rw [hn]; rfl) ?_; intro K hK) | (refine evOpsX_h ?_; intro K hK; refine HkX.callR (f := 44) (caps := []) hrd hso cal_words [(0,1)] [] (by simp only [go_sem, simprocAttr]) (by simp [go_sem] <;> first | rfl | exact ⟨rfl, rfl⟩ | exact ⟨rfl, rfl, rfl⟩) (by simp [go_sem] <;> first | rfl | exact ⟨rfl, rfl⟩ | exact ⟨rfl, rfl, rfl⟩) ?_; all_goals try simp only [go_sem, simprocAttr]) | ((with_reducible refine evOpsX_n ?_); intro K hK; simp (contextual := true) only [go_sem, simprocAttr]) | (with_reducible refine evOpsX_nil ?_) | (with_reducible first | refine V_seq ?_ | refine V_block ?_ | refine V_skip ?_ | refine V_ret ?_ | refine V_exit ?_) | ((with_reducible refine V_cond ?_); simp only [go_sem, simprocAttr]) | ((refine V_region (by rw [hn]; rfl) ?_); intro K hK) | ((first | with_reducible refine evOps_n ?_ | ((with_reducible apply evOps_g); rfl)); intro K hK; simp (contextual := true) only [go_sem, simprocAttr]) | with_reducible refine evOps_nil ?_ | ((with_reducible refine hK _ ?_); clear hK K) | (with_reducible first | refine And.intro ?_ ?_ | refine nxt_n ?_ | refine nxt_r ?_ | refine nxt_e ?_ | refine blk_n ?_ | refine blk_r ?_ | refine blk_same ?_ | refine blk_other (by decide) ?_ | refine noG_n ?_ | refine noG_r ?_ | refine noG_e ?_ | refine inR_mk ?_ ?_) | (refine fun (hc : (_ : Bool) = _) => ?_; try simp only [hcS] at hc))
  all_goals try exact om_
  refine V_loopK (G := {i : Nat // i ≤ (wordsT s).length ∧ (True)}) (fun ⟨i, _⟩ => [(13, iv i), (4, .sl 0), (11, .sl 1)]) [12] (fun ⟨i, _⟩ => [(0, ⟨1, .arr (ints (numsI s i))⟩)]) [0] (fun zz => (wordsT s).length - zz.1) ⟨0, Nat.zero_le _, by first | trivial | simp⟩ ?_ ?_
  · exact Imp.au hX
  rintro ⟨i, hii, hwi⟩
  simp only [go_sem, simprocAttr]
  have nl := numsI_len hii
  rcases Nat.lt_or_ge i (wordsT s).length with hlt | hge
  · have hmem : (wordsT s).getD i [] ∈ wordsT s := by rw [List.getD_eq_getElem?_getD, List.getElem?_eq_getElem hlt]; exact List.getElem_mem hlt
    have hdo : DgO ((wordsT s).getD i []) x (val ((wordsT s).getD i [])) .nilIface := .inl ⟨ho _ hmem, rfl, rfl⟩
    have hdg := sp_digits (wb i hlt) hx hdo
    have hnx := numsI_succ hlt
    repeat' (first | (refine (id ?_ : V _ _ (Code.region 5 _ _) _ _); refine V_regionX (by rw [hn]; rfl) ?_; intro K hK) | (refine evOpsX_h ?_; intro K hK; refine HkX.callR (f := 45) (caps := []) hrd hdg cal_digits [] [] (by simp only [go_sem, simprocAttr]) (by simp [go_sem] <;> first | rfl | exact ⟨rfl, rfl⟩ | exact ⟨rfl, rfl, rfl⟩) (by simp [go_sem] <;> first | rfl | exact ⟨rfl, rfl⟩ | exact ⟨rfl, rfl, rfl⟩) ?_; all_goals try simp only [go_sem, simprocAttr]) | ((with_reducible refine evOpsX_n ?_); intro K hK; simp (contextual := true) only [go_sem, simprocAttr]) | (with_reducible refine evOpsX_nil ?_) | (with_reducible first | refine V_seq ?_ | refine V_block ?_ | refine V_skip ?_ | refine V_ret ?_ | refine V_exit ?_) | ((with_reducible refine V_cond ?_); simp only [go_sem, simprocAttr]) | ((refine V_region (by rw [hn]; rfl) ?_); intro K hK) | ((first | with_reducible refine evOps_n ?_ | ((with_reducible apply evOps_g); rfl)); intro K hK; simp (contextual := true) only [go_sem, simprocAttr]) | with_reducible refine evOps_nil ?_ | ((with_reducible refine hK _ ?_); clear hK K) | (with_reducible first | refine And.intro ?_ ?_ | refine nxt_n ?_ | refine nxt_r ?_ | refine nxt_e ?_ | refine blk_n ?_ | refine blk_r ?_ | refine blk_same ?_ | refine blk_other (by decide) ?_ | refine noG_n ?_ | refine noG_r ?_ | refine noG_e ?_ | refine inR_mk ?_ ?_) | (refine hook_ene (v := .nilIface) Tryd.underlying55 (by simp only [go_sem, simprocAttr]) (.inl rfl) ?_; simp only [go_sem, simprocAttr, isErr]) | (refine fun (hc : (_ : Bool) = _) => ?_; try simp only [hcS] at hc))
    all_goals try exact om_
    all_goals try contradiction
    refine ⟨⟨i + 1, by omega, (by trivial)⟩, by simp only; omega, Imp.auto hX (by simp only [go_sem, simprocAttr, hnx])⟩
  · obtain rfl : i = (wordsT s).length := by omega
    rw [numsI_end]
    repeat' (first | (with_reducible first | refine V_seq ?_ | refine V_block ?_ | refine V_skip ?_ | refine V_ret ?_ | refine V_exit ?_) | ((with_reducible refine V_cond ?_); simp only [go_sem, simprocAttr]) | ((refine V_region (by rw [hn]; rfl) ?_); intro K hK) | ((first | with_reducible refine evOps_n ?_ | ((with_reducible apply evOps_g); rfl)); intro K hK; simp (contextual := true) only [go_sem, simprocAttr]) | with_reducible refine evOps_nil ?_ | ((with_reducible refine hK _ ?_); clear hK K) | (with_reducible first | refine And.intro ?_ ?_ | refine nxt_n ?_ | refine nxt_r ?_ | refine nxt_e ?_ | refine blk_n ?_ | refine blk_r ?_ | refine blk_same ?_ | refine blk_other (by decide) ?_ | refine noG_n ?_ | refine noG_r ?_ | refine noG_e ?_ | refine inR_mk ?_ ?_) | (refine fun (hc : (_ : Bool) = _) => ?_; try simp only [hcS] at hc))
    all_goals try exact om_
    all_goals try contradiction
    all_goals ((first | refine ret_auto ?_ | refine ret_auto' ?_); simp only [go_sem, simprocAttr, Tryd.f25])
theorem sp_list_no {x u z : Value} {q : TypeId} {s : Bts} (hx : x = .iface q z) (hl : s.length ≤ 1048576) (hs : ¬ s = [45]) (ho : ¬ LsO s) : SpecR Tryd.prog 25 [.v (bst s)] [] (.tup [.v (.slice none 0 0), .v x]) [] (ErR x) := by
  have hso := sp_words_yes (x := x) hl hs
  obtain ⟨wl, wb⟩ := words_ok hl
  have hx2 : x = .nilIface ∨ ∃ u z, x = .iface u z := .inr ⟨q, z, hx⟩
  have hxe : isErr x = true := by rw [hx]; rfl
  refine specR_of_V (E := TE) 0 Tryd.func25 rfl (by simp [Tryd.f25]) fun X hn hX hG => ?_
  have hrd : RdOk X (ErR x) := GlR.ok hG
  repeat' (first | (refine (id ?_ : V _ _ (Code.region 2 _ _) _ _); refine V_regionX (by rw [hn]; rfl) ?_; intro K hK) | (refine evOpsX_h ?_; intro K hK; refine HkX.callR (f := 44) (caps := []) hrd hso cal_words [(0,1)] [] (by simp only [go_sem, simprocAttr]) (by simp [go_sem] <;> first | rfl | exact ⟨rfl, rfl⟩ | exact ⟨rfl, rfl, rfl⟩) (by simp [go_sem] <;> first | rfl | exact ⟨rfl, rfl⟩ | exact ⟨rfl, rfl, rfl⟩) ?_; all_goals try simp only [go_sem, simprocAttr]) | ((with_reducible refine evOpsX_n ?_); intro K hK; simp (contextual := true) only [go_sem, simprocAttr]) | (with_reducible refine evOpsX_nil ?_) | (with_reducible first | refine V_seq ?_ | refine V_block ?_ | refine V_skip ?_ | refine V_ret ?_ | refine V_exit ?_) | ((with_reducible refine V_cond ?_); simp only [go_sem, simprocAttr]) | ((refine V_region (by rw [hn]; rfl) ?_); intro K hK) | ((first | with_reducible refine evOps_n ?_ | ((with_reducible apply evOps_g); rfl)); intro K hK; simp (contextual := true) only [go_sem, simprocAttr]) | with_reducible refine evOps_nil ?_ | ((with_reducible refine hK _ ?_); clear hK K) | (with_reducible first | refine And.intro ?_ ?_ | refine nxt_n ?_ | refine nxt_r ?_ | refine nxt_e ?_ | refine blk_n ?_ | refine blk_r ?_ | refine blk_same ?_ | refine blk_other (by decide) ?_ | refine noG_n ?_ | refine noG_r ?_ | refine noG_e ?_ | refine inR_mk ?_ ?_) | (refine fun (hc : (_ : Bool) = _) => ?_; try simp only [hcS] at hc))
  all_goals try exact om_
  refine V_loopK (G := {i : Nat // i ≤ (wordsT s).length ∧ (∀ k, k < i → DigOk ((wordsT s).getD k []))}) (fun ⟨i, _⟩ => [(13, iv i), (4, .sl 0), (11, .sl 1)]) [12] (fun ⟨i, _⟩ => [(0, ⟨1, .arr (ints (numsI s i))⟩)]) [0] (fun zz => (wordsT s).length - zz.1) ⟨0, Nat.zero_le _, by exact (fun k hk => absurd hk (Nat.not_lt_zero k))⟩ ?_ ?_
  · exact Imp.au hX
  rintro ⟨i, hii, hwi⟩
  simp only [go_sem, simprocAttr]
  have nl := numsI_len hii
  rcases Nat.lt_or_ge i (wordsT s).length with hlt | hge
  · by_cases hd : DigOk ((wordsT s).getD i [])
    · have hdo : DgO ((wordsT s).getD i []) x (val ((wordsT s).getD i [])) .nilIface := .inl ⟨hd, rfl, rfl⟩
      have hdg := sp_digits (wb i hlt) hx2 hdo
      have hnx := numsI_succ hlt
      repeat' (first | (refine (id ?_ : V _ _ (Code.region 5 _ _) _ _); refine V_regionX (by rw [hn]; rfl) ?_; intro K hK) | (refine evOpsX_h ?_; intro K hK; refine HkX.callR (f := 45) (caps := []) hrd hdg cal_digits [] [] (by simp only [go_sem, simprocAttr]) (by simp [go_sem] <;> first | rfl | exact ⟨rfl, rfl⟩ | exact ⟨rfl, rfl, rfl⟩) (by simp [go_sem] <;> first | rfl | exact ⟨rfl, rfl⟩ | exact ⟨rfl, rfl, rfl⟩) ?_; all_goals try simp only [go_sem, simprocAttr]) | ((with_reducible refine evOpsX_n ?_); intro K hK; simp (contextual := true) only [go_sem, simprocAttr]) | (with_reducible refine evOpsX_nil ?_) | (with_reducible first | refine V_seq ?_ | refine V_block ?_ | refine V_skip ?_ | refine V_ret ?_ | refine V_exit ?_) | ((with_reducible refine V_cond ?_); simp only [go_sem, simprocAttr]) | ((refine V_region (by rw [hn]; rfl) ?_); intro K hK) | ((first | with_reducible refine evOps_n ?_ | ((with_reducible apply evOps_g); rfl)); intro K hK; simp (contextual := true) only [go_sem, simprocAttr]) | with_reducible refine evOps_nil ?_ | ((with_reducible refine hK _ ?_); clear hK K) | (with_reducible first | refine And.intro ?_ ?_ | refine nxt_n ?_ | refine nxt_r ?_ | refine nxt_e ?_ | refine blk_n ?_ | refine blk_r ?_ | refine blk_same ?_ | refine blk_other (by decide) ?_ | refine noG_n ?_ | refine noG_r ?_ | refine noG_e ?_ | refine inR_mk ?_ ?_) | (refine hook_ene (v := .nilIface) Tryd.underlying55 (by simp only [go_sem, simprocAttr]) (.inl rfl) ?_; simp only [go_sem, simprocAttr, isErr]) | (refine fun (hc : (_ : Bool) = _) => ?_; try simp only [hcS] at hc))
      all_goals try exact om_
      all_goals try contradiction
      refine ⟨⟨i + 1, by omega, (by exact (fun k hk => by rcases Nat.lt_or_ge k i with h | h; exact hwi k h; rw [show k = i by omega]; exact hd))⟩, by simp only; omega, Imp.auto hX (by simp only [go_sem, simprocAttr, hnx])⟩
    · have hdo : DgO ((wordsT s).getD i []) x 0 x := .inr ⟨hd, rfl, rfl⟩
      have hdg := sp_digits (wb i hlt) hx2 hdo
      repeat' (first | (refine (id ?_ : V _ _ (Code.region 5 _ _) _ _); refine V_regionX (by rw [hn]; rfl) ?_; intro K hK) | (refine evOpsX_h ?_; intro K hK; refine HkX.callR (f := 45) (caps := []) hrd hdg cal_digits [] [] (by simp only [go_sem, simprocAttr]) (by simp [go_sem] <;> first | rfl | exact ⟨rfl, rfl⟩ | exact ⟨rfl, rfl, rfl⟩) (by simp [go_sem] <;> first | rfl | exact ⟨rfl, rfl⟩ | exact ⟨rfl, rfl, rfl⟩) ?_; all_goals try simp only [go_sem, simprocAttr]) | ((with_reducible refine evOpsX_n ?_); intro K hK; simp (contextual := true) only [go_sem, simprocAttr]) | (with_reducible refine evOpsX_nil ?_) | (with_reducible first | refine V_seq ?_ | refine V_block ?_ | refine V_skip ?_ | refine V_ret ?_ | refine V_exit ?_) | ((with_reducible refine V_cond ?_); simp only [go_sem, simprocAttr]) | ((refine V_region (by rw [hn]; rfl) ?_); intro K hK) | ((first | with_reducible refine evOps_n ?_ | ((with_reducible apply evOps_g); rfl)); intro K hK; simp (contextual := true) only [go_sem, simprocAttr]) | with_reducible refine evOps_nil ?_ | ((with_reducible refine hK _ ?_); clear hK K) | (with_reducible first | refine And.intro ?_ ?_ | refine nxt_n ?_ | refine nxt_r ?_ | refine nxt_e ?_ | refine blk_n ?_ | refine blk_r ?_ | refine blk_same ?_ | refine blk_other (by decide) ?_ | refine noG_n ?_ | refine noG_r ?_ | refine noG_e ?_ | refine inR_mk ?_ ?_) | (refine hook_ene (v := x) Tryd.underlying55 (by simp only [go_sem, simprocAttr]) hx2 ?_; simp only [go_sem, simprocAttr, hxe]) | (refine fun (hc : (_ : Bool) = _) => ?_; try simp only [hcS] at hc))
      all_goals try exact om_
      all_goals try contradiction
      all_goals ((first | refine ret_auto ?_ | refine ret_auto' ?_); simp only [go_sem, simprocAttr, Tryd.f25])
  · exfalso
    refine ho fun w hw => ?_
    obtain ⟨k, hk, e⟩ := List.getElem_of_mem hw
    have := hwi k (by omega)
    rw [List.getD_eq_getElem?_getD, List.getElem?_eq_getElem hk] at this
    rw [← e]; exact this
end Go.Eng
