/- Relations drawn by the reference, closed. -/
import Derived.Test.YtbflkfamigcncaaGreatZ01q
set_option linter.unusedSimpArgs false
set_option linter.unusedVariables false
set_option maxRecDepth 100000
set_option maxHeartbeats 16000000
namespace Go.Eng
open Go Go.Proofs Go.Cats
def rlJ (s : RnS) (i : Nat) (r : List Int) : Nat → List Int × RnS
  | 0 => (r, s)
  | k + 1 => ((rlJ s i r k).1.set (i + 1 + k) (nextF (rlJ s i r k).2 2), nextS (rlJ s i r k).2 2)
def row0 (n i : Nat) : List Int := (List.replicate n 0).set i 1
def rlI (s : RnS) (n : Nat) : Nat → List (List Int) × RnS
  | 0 => ([], s)
  | i + 1 => ((rlI s n i).1 ++ [(rlJ (rlI s n i).2 i (row0 n i) (n - (i + 1))).1], (rlJ (rlI s n i).2 i (row0 n i) (n - (i + 1))).2)
def rlX (s : RnS) (n : Nat) : Option Nat × RnS :=
  if 1 < n then (if nextF s 4 = 0 then (some (nextF (nextS s 4) n).toNat, nextS (nextS s 4) n) else (none, nextS s 4)) else (none, s)
def relF (s : RnS) (n : Nat) : List (List Int) := wK (relX n (rlI s n n).1 (rlX (rlI s n n).2 n).1) n n
def relS (s : RnS) (n : Nat) : RnS := (rlX (rlI s n n).2 n).2
section
variable {s : RnS} {n i : Nat} {r : List Int}
theorem row0_len : (row0 n i).length = n := by unfold row0; simp
theorem rlJ_ok (h : RnOk s) : ∀ k, RnOk (rlJ s i r k).2
  | 0 => h
  | k + 1 => nextS_ok (n := 2) (rlJ_ok h k)
theorem rlJ_len : ∀ k, (rlJ s i r k).1.length = r.length
  | 0 => rfl
  | k + 1 => by rw [rlJ]; simp only [List.length_set]; exact rlJ_len k
theorem rlI_ok (h : RnOk s) : ∀ i, RnOk (rlI s n i).2
  | 0 => h
  | i + 1 => rlJ_ok (rlI_ok h i) _
theorem rlI_len : ∀ i, (rlI s n i).1.length = i
  | 0 => rfl
  | i + 1 => by rw [rlI]; simp only [List.length_append, List.length_singleton, rlI_len i]
theorem rlX_ok (h : RnOk s) : RnOk (rlX s n).2 := by
  unfold rlX
  split
  · split
    · exact nextS_ok (n := n) (nextS_ok (n := 4) h)
    · exact nextS_ok (n := 4) h
  · exact h
theorem relS_ok (h : RnOk s) : RnOk (relS s n) := rlX_ok (rlI_ok h n)
theorem set_at {l : List Int} {j k : Nat} {v : Int} (hk : k < l.length) : (l.set k v).getD j 0 = if j = k then v else l.getD j 0 := by
  rw [List.getD_eq_getElem?_getD, List.getElem?_set, List.getD_eq_getElem?_getD]
  by_cases h : k = j
  · subst h; rw [if_pos rfl, if_pos hk, if_pos rfl]; rfl
  · rw [if_neg h, if_neg (fun e => h e.symm)]
theorem row0_at {j : Nat} (hi : i < n) : (row0 n i).getD j 0 = if j = i then 1 else 0 := by
  unfold row0
  rw [set_at (by simp; exact hi)]
  split
  · rfl
  · rw [List.getD_eq_getElem?_getD, List.getElem?_replicate]; split <;> rfl
theorem rlJ_row (h : RnOk s) (hi : i < n) : ∀ k, i + 1 + k ≤ n → ∀ j, (j < i → (rlJ s i (row0 n i) k).1.getD j 0 = 0) ∧ (j = i → (rlJ s i (row0 n i) k).1.getD j 0 = 1) ∧ (i < j → (rlJ s i (row0 n i) k).1.getD j 0 = 0 ∨ (rlJ s i (row0 n i) k).1.getD j 0 = 1)
  | 0, _, j => by
    show (j < i → (row0 n i).getD j 0 = 0) ∧ (j = i → (row0 n i).getD j 0 = 1) ∧ (i < j → (row0 n i).getD j 0 = 0 ∨ (row0 n i).getD j 0 = 1)
    rw [row0_at hi]
    refine ⟨fun q => if_neg (by omega), fun q => if_pos q, fun q => .inl (if_neg (by omega))⟩
  | k + 1, hk, j => by
    have ih := rlJ_row h hi k (by omega) j
    have hb := nextF_b (n := 2) (rlJ_ok (i := i) (r := row0 n i) h k) (by decide)
    rw [rlJ]
    simp only
    rw [set_at (by rw [rlJ_len, row0_len]; omega)]
    by_cases e : j = i + 1 + k
    · rw [if_pos e]
      exact ⟨fun q => by omega, fun q => by omega, fun _ => by omega⟩
    · rw [if_neg e]; exact ih
theorem rlI_row (h : RnOk s) : ∀ m, m ≤ n → ∀ i, i < m → RowOk n i ((rlI s n m).1.getD i [])
  | 0, _, i, hi => absurd hi (Nat.not_lt_zero i)
  | m + 1, hm, i, hi => by
    rw [rlI]
    simp only
    rcases Nat.lt_or_ge i m with h1 | h1
    · have ih := rlI_row h m (by omega) i h1
      rw [List.getD_eq_getElem?_getD, List.getElem?_append_left (by rw [rlI_len]; exact h1), ← List.getD_eq_getElem?_getD]
      exact ih
    · obtain rfl : i = m := by omega
      rw [List.getD_eq_getElem?_getD, List.getElem?_append_right (by rw [rlI_len]; omega), rlI_len, Nat.sub_self]
      refine ⟨by show (rlJ _ _ _ _).1.length = n; rw [rlJ_len, row0_len], fun j hj => ?_⟩
      exact rlJ_row (rlI_ok h i) (by omega) _ (by omega) j
theorem relF_po (h : RnOk s) (hn : n < 5) : PoOK (relF s n) n := by
  refine rel_po hn ⟨rlI_len n, rlI_row h n (Nat.le_refl n)⟩ fun y hy => ?_
  unfold rlX at hy
  split at hy
  · split at hy
    · simp only [Option.some.injEq] at hy
      have hb := nextF_b (n := (n : Int)) (nextS_ok (n := 4) (rlI_ok (n := n) h n)) (by omega)
      omega
    · cases hy
  · cases hy
end
def Dim (n : Nat) (R : List (List Int)) : Prop := R.length = n ∧ ∀ j, j < n → (R.getD j []).length = n
section
variable {n k i j : Nat} {R : List (List Int)}
theorem Dim.put (h : Dim n R) (i : Nat) {r : List Int} (hr : i < n → r.length = n) : Dim n (R.set i r) := by
  refine ⟨by rw [List.length_set]; exact h.1, fun j hj => ?_⟩
  rw [List.getD_eq_getElem?_getD, List.getElem?_set]
  by_cases e : i = j
  · subst e; rw [if_pos rfl, if_pos (by rw [h.1]; exact hj)]; exact hr hj
  · rw [if_neg e, ← List.getD_eq_getElem?_getD]; exact h.2 j hj
theorem wS_dim (h : Dim n R) : Dim n (wS R k i j) := by
  unfold wS
  split
  · exact h.put i fun hi => by rw [List.length_set]; exact h.2 i hi
  · exact h
theorem wJ_dim (h : Dim n R) : ∀ j, Dim n (wJ R k i j)
  | 0 => h
  | j + 1 => wS_dim (wJ_dim h j)
theorem wI_dim (h : Dim n R) : ∀ i, Dim n (wI R n k i)
  | 0 => h
  | i + 1 => wJ_dim (wI_dim h i) n
theorem wK_dim (h : Dim n R) : ∀ k, Dim n (wK R n k)
  | 0 => h
  | k + 1 => wI_dim (wK_dim h k) n
theorem relX_dim (h : Dim n R) (x : Option Nat) : Dim n (relX n R x) := by
  cases x with
  | none => exact h
  | some y => exact h.put (n - 1) fun hi => by rw [List.length_set]; exact h.2 _ hi
theorem wS_yes (h1 : mE R i k = 1) (h2 : mE R k j = 1) : wS R k i j = R.set i ((R.getD i []).set j 1) := if_pos ⟨h1, h2⟩
theorem wS_no (h : ¬ (mE R i k = 1 ∧ mE R k j = 1)) : wS R k i j = R := if_neg h
end
theorem rlJ_zero (s i r) : rlJ s i r 0 = (r, s) := rfl
theorem rlI_zero (s n) : rlI s n 0 = ([], s) := rfl
attribute [local go_sem] rlJ_zero rlI_zero List.set_cons_zero List.set_cons_succ
theorem cal_l02Relation : Callable Tryz.prog 234 := ⟨_, Tryz.func234, rfl, rfl⟩
theorem sp_l02Relation {s : RnS} {n : Nat} (hs : RnOk s) (hn5 : n < 5) : Spec Tryz.prog 234 [.ptr 0 0, iv n] [(0, srcR s)] (.sl 1) [(0, srcR (relS s n)), (1, ⟨1, .arr (intss (relF s n))⟩)] := by
  refine spec_of_V (E := TE) 1 Tryz.func234 rfl (by simp [Tryz.f234]) fun X hn hX => ?_
  repeat' (first | with_reducible refine St.f ?_ | ((with_reducible refine V_cond ?_); simp only [go_sem, simprocAttr]) | ((first | refine V_rg ?_ | refine V_dr ?_); intro K hK) | ((first | with_reducible refine So.f ?_ | ((with_reducible apply evOps_g); rfl) | ((with_reducible apply evOpsD_g); rfl)); intro K hK; simp (contextual := true) only [go_sem, simprocAttr]) | ((with_reducible refine evOpsD_nil ?_ ?_); kernel_rfl) | ((with_reducible refine hK _ ?_); clear hK K) | (with_reducible first | refine And.intro ?_ ?_ | refine blk_other (by decide) ?_ | refine inR_mk ?_ ?_) | (refine fun (hc : (_ : Bool) = _) => ?_; try simp only [hcS] at hc))
  all_goals try exact om_
  refine V_loopK (G := {i : Nat // i ≤ n ∧ (True)}) (fun ⟨i, _⟩ => [(6, iv i), (0, .ptr 0 0), (5, .sl 1)]) [1, 4] (fun ⟨i, _⟩ => [(0, srcR (rlI s n i).2), (1, ⟨1, .arr (intss (rlI s n i).1)⟩)]) [0, 1] (fun zz => n - zz.1) ⟨0, Nat.zero_le _, by first | trivial | simp⟩ ?_ ?_
  · exact Imp.au hX
  rintro ⟨i, hii, hwi⟩
  simp only [go_sem, simprocAttr]
  have ok1 := rlI_ok (n := n) hs i
  have l1 := rlI_len (s := s) (n := n) i
  rcases Nat.lt_or_ge i n with hlt | hge
  · repeat' (first | with_reducible refine St.f ?_ | ((with_reducible refine V_cond ?_); simp only [go_sem, simprocAttr]) | ((first | refine V_rg ?_ | refine V_dr ?_); intro K hK) | ((first | with_reducible refine So.f ?_ | ((with_reducible apply evOps_g); rfl) | ((with_reducible apply evOpsD_g); rfl)); intro K hK; simp (contextual := true) only [go_sem, simprocAttr]) | ((with_reducible refine evOpsD_nil ?_ ?_); kernel_rfl) | ((with_reducible refine hK _ ?_); clear hK K) | (with_reducible first | refine And.intro ?_ ?_ | refine blk_other (by decide) ?_ | refine inR_mk ?_ ?_) | (refine fun (hc : (_ : Bool) = _) => ?_; try simp only [hcS] at hc))
    all_goals try exact om_
    refine V_loopK (G := {k : Nat // i + 1 + k ≤ n}) (fun k => [(8, iv (((i + 1 + k.1 : Nat) : Int))), (0, .ptr 0 0), (5, .sl 1), (7, .sl 2), (6, iv i)]) [1, 4] (fun k => [(0, srcR (rlJ (rlI s n i).2 i (row0 n i) k.1).2), (1, ⟨1, .arr (intss (rlI s n i).1)⟩), (2, ⟨1, .arr (ints (rlJ (rlI s n i).2 i (row0 n i) k.1).1)⟩)]) [0, 1, 2] (fun k => n - (i + 1 + k.1)) ⟨0, by omega⟩ ?_ ?_
    · exact Imp.auto hX (by simp [go_sem, simprocAttr, row0])
    rintro ⟨k, hk⟩
    simp only [go_sem, simprocAttr]
    have ok2 := rlJ_ok (i := i) (r := row0 n i) ok1 k
    have l2 := rlJ_len (s := (rlI s n i).2) (i := i) (r := row0 n i) k
    rw [row0_len] at l2
    rcases Nat.lt_or_ge (i + 1 + k) n with hk1 | hk1
    · have hno := sp_l01Next (n := 2) ok2
      have et : ((i : Int) + 1 + (k : Int)).toNat = i + 1 + k := by omega
      repeat' (first | with_reducible refine St.f ?_ | ((with_reducible refine V_cond ?_); simp only [go_sem, simprocAttr]) | ((first | refine V_rg ?_ | refine V_dr ?_); intro K hK) | ((first | with_reducible refine So.f ?_ | ((with_reducible apply evOps_g); rfl) | ((with_reducible apply evOpsD_g); rfl)); intro K hK; simp (contextual := true) only [go_sem, simprocAttr]) | ((with_reducible refine evOpsD_nil ?_ ?_); kernel_rfl) | ((with_reducible refine hK _ ?_); clear hK K) | (with_reducible first | refine And.intro ?_ ?_ | refine blk_other (by decide) ?_ | refine inR_mk ?_ ?_) | ((with_reducible refine evCall_at 146 ?_); refine EvCall.mq (hno) cal_l01Next [(0,0)] [] ?_; all_goals try simp only [go_sem, simprocAttr]) | (refine fun (hc : (_ : Bool) = _) => ?_; try simp only [hcS] at hc))
      all_goals try exact om_
      all_goals try (exfalso; omega)
      · exact ⟨⟨k + 1, by omega⟩, by simp only; omega, Imp.auto hX (by simp [go_sem, simprocAttr, rlJ, et]; omega)⟩
    · have ek : k = n - (i + 1) := by omega
      subst ek
      have e1 : rlI s n (i + 1) = ((rlI s n i).1 ++ [(rlJ (rlI s n i).2 i (row0 n i) (n - (i + 1))).1], (rlJ (rlI s n i).2 i (row0 n i) (n - (i + 1))).2) := rfl
      repeat' (first | with_reducible refine St.f ?_ | ((with_reducible refine V_cond ?_); simp only [go_sem, simprocAttr]) | ((first | refine V_rg ?_ | refine V_dr ?_); intro K hK) | ((first | with_reducible refine So.f ?_ | ((with_reducible apply evOps_g); rfl) | ((with_reducible apply evOpsD_g); rfl)); intro K hK; simp (contextual := true) only [go_sem, simprocAttr]) | ((with_reducible refine evOpsD_nil ?_ ?_); kernel_rfl) | ((with_reducible refine hK _ ?_); clear hK K) | (with_reducible first | refine And.intro ?_ ?_ | refine blk_other (by decide) ?_ | refine inR_mk ?_ ?_) | (refine fun (hc : (_ : Bool) = _) => ?_; try simp only [hcS] at hc))
      all_goals try exact om_
      all_goals try (exfalso; omega)
      · refine ⟨⟨i + 1, by omega, (by (trivial))⟩, by simp only; omega, Imp.auto hX (by simp only [go_sem, simprocAttr, e1])⟩
  · obtain rfl : i = n := by omega
    have h1 := sp_l01Next (n := 4) ok1
    have h2 := sp_l01Next (n := (i : Int)) (nextS_ok (n := 4) ok1)
    have hb := fun q : 1 < i => nextF_b (n := (i : Int)) (nextS_ok (n := 4) ok1) (by omega)
    have em : ((i : Int) - 1).toNat = i - 1 := by omega
    have lr : 1 < i → ((rlI s i i).1.getD (i - 1) []).length = i := fun q => (rlI_row (n := i) hs i (Nat.le_refl i) (i - 1) (by omega)).1
    repeat' (first | (rw [em]) | (refine V_at 13 (Imp.open_ 1 (i - 1) (intss (rlI s i i).1) [] (.inr ⟨rfl, rfl⟩) (Nat.le_refl 1) (by simp only [go_sem, simprocAttr]; omega) rfl (by simp only [go_sem, simprocAttr]) rfl) ?_; simp only [go_sem, simprocAttr]) | (refine V_at 14 (Imp.closeA 1 2 (i - 1) (intss (rlI s i i).1) _ rfl rfl (by decide) (by simp only [go_sem, simprocAttr]; omega)) ?_; simp only [go_sem, simprocAttr]) | with_reducible refine St.f ?_ | ((with_reducible refine V_cond ?_); simp only [go_sem, simprocAttr]) | ((first | refine V_rg ?_ | refine V_dr ?_); intro K hK) | ((first | with_reducible refine So.f ?_ | ((with_reducible apply evOps_g); rfl) | ((with_reducible apply evOpsD_g); rfl)); intro K hK; simp (contextual := true) only [go_sem, simprocAttr]) | ((with_reducible refine evOpsD_nil ?_ ?_); kernel_rfl) | ((with_reducible refine hK _ ?_); clear hK K) | (with_reducible first | refine And.intro ?_ ?_ | refine blk_other (by decide) ?_ | refine inR_mk ?_ ?_) | ((with_reducible refine (id ?_ : EvCall _ _ [.ptr 0 0,iv 4] _ _)); refine EvCall.mq (h1) cal_l01Next [(0,0)] [] ?_; all_goals try simp only [go_sem, simprocAttr]) | ((with_reducible refine (id ?_ : EvCall _ _ [.ptr 0 0,iv i] _ _)); refine EvCall.mq (h2) cal_l01Next [(0,0)] [] ?_; all_goals try simp only [go_sem, simprocAttr]) | (refine fun (hc : (_ : Bool) = _) => ?_; try simp only [hcS] at hc))
    all_goals try exact om_
    all_goals try (exfalso; omega)
    all_goals first
      | have eX : rlX (rlI s i i).2 i = (some (nextF (nextS (rlI s i i).2 4) i).toNat, nextS (nextS (rlI s i i).2 4) i) := by unfold rlX; rw [if_pos (by omega), if_pos (by assumption)]
      | have eX : rlX (rlI s i i).2 i = (none, nextS (rlI s i i).2 4) := by unfold rlX; rw [if_pos (by omega), if_neg (by assumption)]
      | have eX : rlX (rlI s i i).2 i = (none, (rlI s i i).2) := by unfold rlX; rw [if_neg (by omega)]
    all_goals (
      refine V_loopK (G := {k : Nat // k ≤ i ∧ (True)}) (fun ⟨k, _⟩ => [(9, iv k), (0, .ptr 0 0), (5, .sl 1)]) [1, 4] (fun ⟨k, _⟩ => [(0, srcR (rlX (rlI s i i).2 i).2), (1, ⟨1, .arr (intss (wK (relX i (rlI s i i).1 (rlX (rlI s i i).2 i).1) i k))⟩)]) [0, 1] (fun zz => i - zz.1) ⟨0, Nat.zero_le _, by trivial⟩ ?_ ?_
      · exact Imp.auto hX (by simp [go_sem, simprocAttr, eX, relX, wK])
      rintro ⟨k, hik, hwk⟩
      simp only [go_sem, simprocAttr]
      have d0 : Dim i (relX i (rlI s i i).1 (rlX (rlI s i i).2 i).1) := relX_dim ⟨l1, fun j hj => (rlI_row (n := i) hs i (Nat.le_refl i) j hj).1⟩ _
      have eR : relF s i = wK (relX i (rlI s i i).1 (rlX (rlI s i i).2 i).1) i i := rfl
      have eS : relS s i = (rlX (rlI s i i).2 i).2 := rfl
      rw [eR, eS]
      clear eX hb lr
      generalize (rlX (rlI s i i).2 i).2 = s4
      generalize relX i (rlI s i i).1 (rlX (rlI s i i).2 i).1 = R at d0 ⊢
      rcases Nat.lt_or_ge k i with hk1 | hk1
      · have d1 := wK_dim d0 k
        have eK : wK R i (k + 1) = wI (wK R i k) i k i := rfl
        generalize wK R i k = R1 at d1 eK ⊢
        repeat' (first | with_reducible refine St.f ?_ | ((with_reducible refine V_cond ?_); simp only [go_sem, simprocAttr]) | ((first | refine V_rg ?_ | refine V_dr ?_); intro K hK) | ((first | with_reducible refine So.f ?_ | ((with_reducible apply evOps_g); rfl) | ((with_reducible apply evOpsD_g); rfl)); intro K hK; simp (contextual := true) only [go_sem, simprocAttr]) | ((with_reducible refine evOpsD_nil ?_ ?_); kernel_rfl) | ((with_reducible refine hK _ ?_); clear hK K) | (with_reducible first | refine And.intro ?_ ?_ | refine blk_other (by decide) ?_ | refine inR_mk ?_ ?_) | (refine fun (hc : (_ : Bool) = _) => ?_; try simp only [hcS] at hc))
        all_goals try exact om_
        all_goals try (exfalso; omega)
        refine V_loopK (G := {a : Nat // a ≤ i ∧ (True)}) (fun ⟨a, _⟩ => [(10, iv a), (0, .ptr 0 0), (5, .sl 1), (9, iv k)]) [1, 4] (fun ⟨a, _⟩ => [(0, srcR s4), (1, ⟨1, .arr (intss (wI R1 i k a))⟩)]) [0, 1] (fun zz => i - zz.1) ⟨0, Nat.zero_le _, by trivial⟩ ?_ ?_
        · exact Imp.auto hX (by simp [go_sem, simprocAttr, wI])
        rintro ⟨a, hia, hwa⟩
        simp only [go_sem, simprocAttr]
        rcases Nat.lt_or_ge a i with ha | ha
        · have d2 := wI_dim (k := k) d1 a
          have eI : wI R1 i k (a + 1) = wJ (wI R1 i k a) k a i := rfl
          generalize wI R1 i k a = R2 at d2 eI ⊢
          repeat' (first | with_reducible refine St.f ?_ | ((with_reducible refine V_cond ?_); simp only [go_sem, simprocAttr]) | ((first | refine V_rg ?_ | refine V_dr ?_); intro K hK) | ((first | with_reducible refine So.f ?_ | ((with_reducible apply evOps_g); rfl) | ((with_reducible apply evOpsD_g); rfl)); intro K hK; simp (contextual := true) only [go_sem, simprocAttr]) | ((with_reducible refine evOpsD_nil ?_ ?_); kernel_rfl) | ((with_reducible refine hK _ ?_); clear hK K) | (with_reducible first | refine And.intro ?_ ?_ | refine blk_other (by decide) ?_ | refine inR_mk ?_ ?_) | (refine fun (hc : (_ : Bool) = _) => ?_; try simp only [hcS] at hc))
          all_goals try exact om_
          all_goals try (exfalso; omega)
          refine V_loopK (G := {b : Nat // b ≤ i ∧ (True)}) (fun ⟨b, _⟩ => [(11, iv b), (0, .ptr 0 0), (5, .sl 1), (9, iv k), (10, iv a)]) [1, 4] (fun ⟨b, _⟩ => [(0, srcR s4), (1, ⟨1, .arr (intss (wJ R2 k a b))⟩)]) [0, 1] (fun zz => i - zz.1) ⟨0, Nat.zero_le _, by trivial⟩ ?_ ?_
          · exact Imp.auto hX (by simp [go_sem, simprocAttr, wJ])
          rintro ⟨b, hib, hwb⟩
          simp only [go_sem, simprocAttr]
          rcases Nat.lt_or_ge b i with hb1 | hb1
          · have d3 := wJ_dim (k := k) (i := a) d2 b
            have eJ : wJ R2 k a (b + 1) = wS (wJ R2 k a b) k a b := rfl
            generalize wJ R2 k a b = M at d3 eJ ⊢
            obtain ⟨dl, dr⟩ := d3
            have da := dr a ha
            have dk := dr k hk1
            by_cases h1 : mE M a k = 1 ∧ mE M k b = 1
            · rw [wS_yes h1.1 h1.2] at eJ
              unfold mE at h1
              repeat' (first | (refine V_at 24 (Imp.open_ 1 a (intss M) [] (.inr ⟨rfl, rfl⟩) (Nat.le_refl 1) (by simp only [go_sem, simprocAttr]; omega) rfl (by simp only [go_sem, simprocAttr]) rfl) ?_; simp only [go_sem, simprocAttr]) | (refine V_at 22 (Imp.closeA 1 3 a (intss M) _ rfl rfl (by decide) (by simp only [go_sem, simprocAttr]; omega)) ?_; simp only [go_sem, simprocAttr]) | (refine V_at 22 (Imp.closeA 1 2 a (intss M) _ rfl rfl (by decide) (by simp only [go_sem, simprocAttr]; omega)) ?_; simp only [go_sem, simprocAttr]) | with_reducible refine St.f ?_ | ((with_reducible refine V_cond ?_); simp only [go_sem, simprocAttr]) | ((first | refine V_rg ?_ | refine V_dr ?_); intro K hK) | ((first | with_reducible refine So.f ?_ | ((with_reducible apply evOps_g); rfl) | ((with_reducible apply evOpsD_g); rfl)); intro K hK; simp (contextual := true) only [go_sem, simprocAttr]) | ((with_reducible refine evOpsD_nil ?_ ?_); kernel_rfl) | ((with_reducible refine hK _ ?_); clear hK K) | (with_reducible first | refine And.intro ?_ ?_ | refine blk_other (by decide) ?_ | refine inR_mk ?_ ?_) | (refine fun (hc : (_ : Bool) = _) => ?_; try simp only [hcS] at hc))
              all_goals try exact om_
              all_goals try (exfalso; omega)
              refine ⟨⟨b + 1, by omega, (by (trivial))⟩, by simp only; omega, Imp.auto hX (by simp only [go_sem, simprocAttr, eJ])⟩
            · rw [wS_no h1] at eJ
              unfold mE at h1
              repeat' (first | with_reducible refine St.f ?_ | ((with_reducible refine V_cond ?_); simp only [go_sem, simprocAttr]) | ((first | refine V_rg ?_ | refine V_dr ?_); intro K hK) | ((first | with_reducible refine So.f ?_ | ((with_reducible apply evOps_g); rfl) | ((with_reducible apply evOpsD_g); rfl)); intro K hK; simp (contextual := true) only [go_sem, simprocAttr]) | ((with_reducible refine evOpsD_nil ?_ ?_); kernel_rfl) | ((with_reducible refine hK _ ?_); clear hK K) | (with_reducible first | refine And.intro ?_ ?_ | refine blk_other (by decide) ?_ | refine inR_mk ?_ ?_) | (refine fun (hc : (_ : Bool) = _) => ?_; try simp only [hcS] at hc))
              all_goals try exact om_
              all_goals try (exfalso; omega)
              all_goals try (exfalso; exact h1 ⟨by assumption, by assumption⟩)
              all_goals (refine ⟨⟨b + 1, by omega, (by (trivial))⟩, by simp only; omega, Imp.auto hX (by simp only [go_sem, simprocAttr, eJ])⟩)
          · obtain rfl : b = i := by omega
            repeat' (first | with_reducible refine St.f ?_ | ((with_reducible refine V_cond ?_); simp only [go_sem, simprocAttr]) | ((first | refine V_rg ?_ | refine V_dr ?_); intro K hK) | ((first | with_reducible refine So.f ?_ | ((with_reducible apply evOps_g); rfl) | ((with_reducible apply evOpsD_g); rfl)); intro K hK; simp (contextual := true) only [go_sem, simprocAttr]) | ((with_reducible refine evOpsD_nil ?_ ?_); kernel_rfl) | ((with_reducible refine hK _ ?_); clear hK K) | (with_reducible first | refine And.intro ?_ ?_ | refine blk_other (by decide) ?_ | refine inR_mk ?_ ?_) | (refine fun (hc : (_ : Bool) = _) => ?_; try simp only [hcS] at hc))
            all_goals try exact om_
            all_goals try (exfalso; omega)
            refine ⟨⟨a + 1, by omega, (by (trivial))⟩, by simp only; omega, Imp.auto hX (by simp only [go_sem, simprocAttr, eI])⟩
        · obtain rfl : a = i := by omega
          repeat' (first | with_reducible refine St.f ?_ | ((with_reducible refine V_cond ?_); simp only [go_sem, simprocAttr]) | ((first | refine V_rg ?_ | refine V_dr ?_); intro K hK) | ((first | with_reducible refine So.f ?_ | ((with_reducible apply evOps_g); rfl) | ((with_reducible apply evOpsD_g); rfl)); intro K hK; simp (contextual := true) only [go_sem, simprocAttr]) | ((with_reducible refine evOpsD_nil ?_ ?_); kernel_rfl) | ((with_reducible refine hK _ ?_); clear hK K) | (with_reducible first | refine And.intro ?_ ?_ | refine blk_other (by decide) ?_ | refine inR_mk ?_ ?_) | (refine fun (hc : (_ : Bool) = _) => ?_; try simp only [hcS] at hc))
          all_goals try exact om_
          all_goals try (exfalso; omega)
          refine ⟨⟨k + 1, by omega, (by (trivial))⟩, by simp only; omega, Imp.auto hX (by simp only [go_sem, simprocAttr, eK])⟩
      · obtain rfl : k = i := by omega
        repeat' (first | with_reducible refine St.f ?_ | ((with_reducible refine V_cond ?_); simp only [go_sem, simprocAttr]) | ((first | refine V_rg ?_ | refine V_dr ?_); intro K hK) | ((first | with_reducible refine So.f ?_ | ((with_reducible apply evOps_g); rfl) | ((with_reducible apply evOpsD_g); rfl)); intro K hK; simp (contextual := true) only [go_sem, simprocAttr]) | ((with_reducible refine evOpsD_nil ?_ ?_); kernel_rfl) | ((with_reducible refine hK _ ?_); clear hK K) | (with_reducible first | refine And.intro ?_ ?_ | refine blk_other (by decide) ?_ | refine inR_mk ?_ ?_) | (refine fun (hc : (_ : Bool) = _) => ?_; try simp only [hcS] at hc))
        all_goals try exact om_
        all_goals try (exfalso; omega)
        (first | refine ret_auto ?_ | refine ret_auto' ?_); simp only [go_sem, simprocAttr, Tryz.f234]
    )
end Go.Eng
