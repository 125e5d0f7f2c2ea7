/- The family of small categories that are drawn. -/
import Derived.Test.YtbflkfamigcncaaGreatZ09q
set_option linter.unusedSimpArgs false
set_option linter.unusedVariables false
set_option maxRecDepth 100000
set_option maxHeartbeats 32000000
namespace Go.Eng
open Go Go.Proofs Go.Cats
attribute [local go_sem] List.set_cons_zero List.set_cons_succ
theorem relF_dim {s : RnS} {n : Nat} (h : RnOk s) : Dim n (relF s n) := wK_dim (relX_dim ⟨rlI_len n, fun j hj => (rlI_row h n (Nat.le_refl n) j hj).1⟩ _) n
def grG (s : RnS) (n : Int) : Nat → List Int × List Int × RnS
  | 0 => ([], [], s)
  | k + 1 =>
    let a := nextF (grG s n k).2.2 (n - 1)
    let s' := nextS (grG s n k).2.2 (n - 1)
    ((grG s n k).1 ++ [a], (grG s n k).2.1 ++ [a + 1 + nextF s' (n - 1 - a)], nextS s' (n - 1 - a))
section
variable {s : RnS} {n : Int} {k : Nat}
theorem grG_ok (h : RnOk s) : ∀ k, RnOk (grG s n k).2.2
  | 0 => h
  | k + 1 => nextS_ok (nextS_ok (grG_ok h k))
theorem grG_len1 : ∀ k, (grG s n k).1.length = k
  | 0 => rfl
  | k + 1 => by rw [grG]; simp only [List.length_append, List.length_singleton, grG_len1 k]
theorem grG_len2 : ∀ k, (grG s n k).2.1.length = k
  | 0 => rfl
  | k + 1 => by rw [grG]; simp only [List.length_append, List.length_singleton, grG_len2 k]
theorem grG_edge (h : RnOk s) (hn : 2 ≤ n) : ∀ k e, e < k → 0 ≤ (grG s n k).1.getD e 0 ∧ (grG s n k).1.getD e 0 < (grG s n k).2.1.getD e 0 ∧ (grG s n k).2.1.getD e 0 < n
  | 0, e, he => absurd he (Nat.not_lt_zero e)
  | k + 1, e, he => by
    have l1 := grG_len1 (s := s) (n := n) k
    have l2 := grG_len2 (s := s) (n := n) k
    rw [grG]
    simp only
    rcases Nat.lt_or_ge e k with h1 | h1
    · rw [List.getD_eq_getElem?_getD, List.getD_eq_getElem?_getD, List.getElem?_append_left (by omega), List.getElem?_append_left (by omega), ← List.getD_eq_getElem?_getD, ← List.getD_eq_getElem?_getD]
      exact grG_edge h hn k e h1
    · obtain rfl : e = k := by omega
      have b1 := nextF_b (n := n - 1) (grG_ok (n := n) h e) (by omega)
      have b2 := nextF_b (n := n - 1 - nextF (grG s n e).2.2 (n - 1)) (nextS_ok (n := n - 1) (grG_ok (n := n) h e)) (by omega)
      rw [List.getD_eq_getElem?_getD, List.getD_eq_getElem?_getD, List.getElem?_append_right (by omega), List.getElem?_append_right (by omega), l1, l2, Nat.sub_self]
      simp only [List.getElem?_cons_zero, Option.getD_some]
      omega
end
theorem grG_gr {s : RnS} {n k : Nat} (h : RnOk s) (hn : n = 2 ∨ n = 3) (hk : k ≤ 3) : GrOk n (grG s n k).1 (grG s n k).2.1 :=
  ⟨hn, by rw [grG_len1]; exact hk, by rw [grG_len1, grG_len2], fun e he => grG_edge h (by omega) k e (by rw [grG_len1] at he; exact he)⟩
theorem gr_fix : GrOk 2 [0, 0] [1, 1] := ⟨.inl rfl, by decide, rfl, fun e he => by
  obtain _ | _ | e := e
  · decide
  · decide
  · simp at he; omega⟩
theorem gr_fix3 : GrOk 3 [0, 1, 0] [1, 2, 2] := ⟨.inr rfl, by decide, rfl, fun e he => by
  obtain _ | _ | _ | e := e
  · decide
  · decide
  · decide
  · simp at he; omega⟩
def famP (s : RnS) : Nat → Cat × RnS
  | 0 => (poC (relF (nextS s 5) (nextF s 5).toNat) (nextF s 5).toNat, relS (nextS s 5) (nextF s 5).toNat)
  | 1 => (poC [[1, 1], [0, 1]] 2, s)
  | 2 => (poC [[1, 1, 1], [0, 1, 0], [0, 0, 1]] 3, s)
  | 3 => (ptC 2 (allP 2 [0, 0] [1, 1]), s)
  | 4 => (moC (moT (nextF s 8).toNat), nextS s 8)
  | 5 => (poC (allOne (1 + (nextF s 3).toNat)) (1 + (nextF s 3).toNat), nextS s 3)
  | 6 => (ptC 3 (allP 3 [0, 1, 0] [1, 2, 2]), s)
  | 7 => (splC, s)
  | 8 => (opC (jnC (moC (moT (nextF s 8).toNat)) one1), nextS s 8)
  | 9 => (jnC (moC (moT (nextF s 8).toNat)) one1, nextS s 8)
  | 10 => (poC (relF (nextS s 2) (2 + (nextF s 2).toNat)) (2 + (nextF s 2).toNat), relS (nextS s 2) (2 + (nextF s 2).toNat))
  | _ => (ptC (2 + (nextF s 2).toNat) (allP (2 + (nextF s 2).toNat) (grG (nextS (nextS s 2) 4) ((2 + (nextF s 2).toNat : Nat) : Int) (nextF (nextS s 2) 4).toNat).1 (grG (nextS (nextS s 2) 4) ((2 + (nextF s 2).toNat : Nat) : Int) (nextF (nextS s 2) 4).toNat).2.1), (grG (nextS (nextS s 2) 4) ((2 + (nextF s 2).toNat : Nat) : Int) (nextF (nextS s 2) 4).toNat).2.2)
def famF (s : RnS) : Cat × RnS := famP (nextS s 12) (nextF s 12).toNat
theorem mo_dim (k : Nat) : (moT k).length ≤ 8 ∧ ∀ i, i < (moT k).length → ((moT k).getD i []).length ≤ 8 := moT_cases (fun t => t.length ≤ 8 ∧ ∀ i, i < t.length → (t.getD i []).length ≤ 8) (fun i hi => by
  obtain rfl | rfl | rfl | rfl | rfl | rfl | rfl | rfl : i = 0 ∨ i = 1 ∨ i = 2 ∨ i = 3 ∨ i = 4 ∨ i = 5 ∨ i = 6 ∨ i = 7 := by omega
  all_goals decide) k
theorem all_dim {n : Nat} : Dim n (allOne n) := ⟨by unfold allOne; simp, fun j hj => by unfold allOne; rw [List.getD_eq_getElem?_getD, List.getElem?_replicate, if_pos hj]; simp⟩
theorem cal_l02Family : Callable Tryz.prog 207 := ⟨_, Tryz.func207, rfl, rfl⟩
theorem sp_l02Family_0 {s z : RnS} (hs : RnOk s) (h0 : Spec Tryz.prog 146 [.ptr 0 0, iv 12] [(0, srcR z)] (iv 0) [(0, srcR s)]) : Spec Tryz.prog 207 [.ptr 0 0] [(0, srcR z)] (.agg [iv (famP s 0).1.ob, .sl 1, .sl 2, .sl 3, .sl 4]) [(0, srcR (famP s 0).2), (1, ⟨1, .arr (ints (famP s 0).1.fr)⟩), (2, ⟨1, .arr (ints (famP s 0).1.to)⟩), (3, ⟨1, .arr (ints (famP s 0).1.id)⟩), (4, ⟨1, .arr (intss (famP s 0).1.co)⟩)] := by
  have hb := nextF_b (n := 5) hs (by decide)
  have h1 := sp_l01Next (n := 5) hs
  obtain ⟨n, hv⟩ : ∃ n : Nat, nextF s 5 = n := ⟨(nextF s 5).toNat, by omega⟩
  have e : famP s 0 = (poC (relF (nextS s 5) n) n, relS (nextS s 5) n) := by unfold famP; rw [hv]; rfl
  rw [e]
  rw [hv] at hb h1
  have ok := nextS_ok (n := 5) hs
  have h2 := sp_l02Relation (n := n) ok (by omega)
  have dm := relF_dim (n := n) ok
  have h4 := sp_l03Poset (relF_po (n := n) ok (by omega)) dm.1 dm.2
  refine spec_of_V (E := TE) 1 Tryz.func207 rfl (by simp [Tryz.f207]) fun X hn hX => ?_
  repeat' (first | with_reducible refine St.f ?_ | ((with_reducible refine V_cond ?_); simp only [go_sem, simprocAttr]) | ((refine V_rg ?_); intro K hK) | ((first | with_reducible refine So.f ?_ | ((with_reducible apply evOps_g); rfl)); intro K hK; simp (contextual := true) only [go_sem, simprocAttr]) | ((with_reducible refine hK _ ?_); clear hK K) | (with_reducible first | refine And.intro ?_ ?_ | refine blk_other (by decide) ?_ | refine inR_mk ?_ ?_) | ((with_reducible refine (id ?_ : EvCall _ _ [.ptr 0 0,iv 12] _ _)); refine EvCall.mq (h0) cal_l01Next [(0,0)] [] ?_; all_goals try simp only [go_sem, simprocAttr]) | ((with_reducible refine (id ?_ : EvCall _ _ [.ptr 0 0,iv 5] _ _)); refine EvCall.mq (h1) cal_l01Next [(0,0)] [] ?_; all_goals try simp only [go_sem, simprocAttr]) | ((with_reducible refine evCall_at 234 ?_); refine EvCall.mq (h2) cal_l02Relation [(0,0),(1,2)] [] ?_; all_goals try simp only [go_sem, simprocAttr]) | ((with_reducible refine evCall_at 153 ?_); refine EvCall.mq (h4) cal_l03Poset [(0,3),(1,4),(2,5),(3,6)] [2] ?_; all_goals try simp only [go_sem, simprocAttr]) | (refine fun (hc : (_ : Bool) = _) => ?_; try simp only [hcS] at hc))
  all_goals try exact om_
  all_goals try (exfalso; omega)
  (first | refine ret_auto ?_ | refine ret_auto' ?_); simp only [go_sem, simprocAttr, Tryz.f207]
theorem sp_l02Family_1 {s z : RnS} (hs : RnOk s) (h0 : Spec Tryz.prog 146 [.ptr 0 0, iv 12] [(0, srcR z)] (iv 1) [(0, srcR s)]) : Spec Tryz.prog 207 [.ptr 0 0] [(0, srcR z)] (.agg [iv (famP s 1).1.ob, .sl 1, .sl 2, .sl 3, .sl 4]) [(0, srcR (famP s 1).2), (1, ⟨1, .arr (ints (famP s 1).1.fr)⟩), (2, ⟨1, .arr (ints (famP s 1).1.to)⟩), (3, ⟨1, .arr (ints (famP s 1).1.id)⟩), (4, ⟨1, .arr (intss (famP s 1).1.co)⟩)] := by
  have h4 := sp_l03Poset po2 rfl (by decide)
  have e : famP s 1 = (poC [[1, 1], [0, 1]] 2, s) := rfl
  rw [e]
  refine spec_of_V (E := TE) 1 Tryz.func207 rfl (by simp [Tryz.f207]) fun X hn hX => ?_
  repeat' (first | with_reducible refine St.f ?_ | ((with_reducible refine V_cond ?_); simp only [go_sem, simprocAttr]) | ((refine V_rg ?_); intro K hK) | ((first | with_reducible refine So.f ?_ | ((with_reducible apply evOps_g); rfl)); intro K hK; simp (contextual := true) only [go_sem, simprocAttr]) | ((with_reducible refine hK _ ?_); clear hK K) | (with_reducible first | refine And.intro ?_ ?_ | refine blk_other (by decide) ?_ | refine inR_mk ?_ ?_) | ((with_reducible refine (id ?_ : EvCall _ _ [.ptr 0 0,iv 12] _ _)); refine EvCall.mq (h0) cal_l01Next [(0,0)] [] ?_; all_goals try simp only [go_sem, simprocAttr]) | ((with_reducible refine evCall_at 153 ?_); refine EvCall.mq (h4) cal_l03Poset [(0,5),(1,6),(2,7),(3,8)] [4] ?_; all_goals try simp only [go_sem, simprocAttr]) | (refine fun (hc : (_ : Bool) = _) => ?_; try simp only [hcS] at hc))
  all_goals try exact om_
  all_goals try (exfalso; omega)
  (first | refine ret_auto ?_ | refine ret_auto' ?_); simp only [go_sem, simprocAttr, Tryz.f207]
theorem sp_l02Family_2 {s z : RnS} (hs : RnOk s) (h0 : Spec Tryz.prog 146 [.ptr 0 0, iv 12] [(0, srcR z)] (iv 2) [(0, srcR s)]) : Spec Tryz.prog 207 [.ptr 0 0] [(0, srcR z)] (.agg [iv (famP s 2).1.ob, .sl 1, .sl 2, .sl 3, .sl 4]) [(0, srcR (famP s 2).2), (1, ⟨1, .arr (ints (famP s 2).1.fr)⟩), (2, ⟨1, .arr (ints (famP s 2).1.to)⟩), (3, ⟨1, .arr (ints (famP s 2).1.id)⟩), (4, ⟨1, .arr (intss (famP s 2).1.co)⟩)] := by
  have h4 := sp_l03Poset po3 rfl (by decide)
  have e : famP s 2 = (poC [[1, 1, 1], [0, 1, 0], [0, 0, 1]] 3, s) := rfl
  rw [e]
  refine spec_of_V (E := TE) 1 Tryz.func207 rfl (by simp [Tryz.f207]) fun X hn hX => ?_
  repeat' (first | with_reducible refine St.f ?_ | ((with_reducible refine V_cond ?_); simp only [go_sem, simprocAttr]) | ((refine V_rg ?_); intro K hK) | ((first | with_reducible refine So.f ?_ | ((with_reducible apply evOps_g); rfl)); intro K hK; simp (contextual := true) only [go_sem, simprocAttr]) | ((with_reducible refine hK _ ?_); clear hK K) | (with_reducible first | refine And.intro ?_ ?_ | refine blk_other (by decide) ?_ | refine inR_mk ?_ ?_) | ((with_reducible refine (id ?_ : EvCall _ _ [.ptr 0 0,iv 12] _ _)); refine EvCall.mq (h0) cal_l01Next [(0,0)] [] ?_; all_goals try simp only [go_sem, simprocAttr]) | ((with_reducible refine evCall_at 153 ?_); refine EvCall.mq (h4) cal_l03Poset [(0,6),(1,7),(2,8),(3,9)] [5] ?_; all_goals try simp only [go_sem, simprocAttr]) | (refine fun (hc : (_ : Bool) = _) => ?_; try simp only [hcS] at hc))
  all_goals try exact om_
  all_goals try (exfalso; omega)
  (first | refine ret_auto ?_ | refine ret_auto' ?_); simp only [go_sem, simprocAttr, Tryz.f207]
theorem sp_l02Family_3 {s z : RnS} (hs : RnOk s) (h0 : Spec Tryz.prog 146 [.ptr 0 0, iv 12] [(0, srcR z)] (iv 3) [(0, srcR s)]) : Spec Tryz.prog 207 [.ptr 0 0] [(0, srcR z)] (.agg [iv (famP s 3).1.ob, .sl 1, .sl 2, .sl 3, .sl 4]) [(0, srcR (famP s 3).2), (1, ⟨1, .arr (ints (famP s 3).1.fr)⟩), (2, ⟨1, .arr (ints (famP s 3).1.to)⟩), (3, ⟨1, .arr (ints (famP s 3).1.id)⟩), (4, ⟨1, .arr (intss (famP s 3).1.co)⟩)] := by
  have h4 := sp_l03Paths gr_fix
  rw [show ((2 : Nat) : Int) = 2 from rfl] at h4
  have e : famP s 3 = (ptC 2 (allP 2 [0, 0] [1, 1]), s) := rfl
  rw [e]
  refine spec_of_V (E := TE) 1 Tryz.func207 rfl (by simp [Tryz.f207]) fun X hn hX => ?_
  repeat' (first | with_reducible refine St.f ?_ | ((with_reducible refine V_cond ?_); simp only [go_sem, simprocAttr]) | ((refine V_rg ?_); intro K hK) | ((first | with_reducible refine So.f ?_ | ((with_reducible apply evOps_g); rfl)); intro K hK; simp (contextual := true) only [go_sem, simprocAttr]) | ((with_reducible refine hK _ ?_); clear hK K) | (with_reducible first | refine And.intro ?_ ?_ | refine blk_other (by decide) ?_ | refine inR_mk ?_ ?_) | ((with_reducible refine (id ?_ : EvCall _ _ [.ptr 0 0,iv 12] _ _)); refine EvCall.mq (h0) cal_l01Next [(0,0)] [] ?_; all_goals try simp only [go_sem, simprocAttr]) | ((with_reducible refine evCall_at 235 ?_); refine EvCall.mq (h4) cal_l03Paths [(0,4),(1,5),(2,6),(3,7)] [2,3] ?_; all_goals try simp only [go_sem, simprocAttr]) | (refine fun (hc : (_ : Bool) = _) => ?_; try simp only [hcS] at hc))
  all_goals try exact om_
  all_goals try (exfalso; omega)
  (first | refine ret_auto ?_ | refine ret_auto' ?_); simp only [go_sem, simprocAttr, Tryz.f207]
theorem sp_l02Family_6 {s z : RnS} (hs : RnOk s) (h0 : Spec Tryz.prog 146 [.ptr 0 0, iv 12] [(0, srcR z)] (iv 6) [(0, srcR s)]) : Spec Tryz.prog 207 [.ptr 0 0] [(0, srcR z)] (.agg [iv (famP s 6).1.ob, .sl 1, .sl 2, .sl 3, .sl 4]) [(0, srcR (famP s 6).2), (1, ⟨1, .arr (ints (famP s 6).1.fr)⟩), (2, ⟨1, .arr (ints (famP s 6).1.to)⟩), (3, ⟨1, .arr (ints (famP s 6).1.id)⟩), (4, ⟨1, .arr (intss (famP s 6).1.co)⟩)] := by
  have h4 := sp_l03Paths gr_fix3
  rw [show ((3 : Nat) : Int) = 3 from rfl] at h4
  have e : famP s 6 = (ptC 3 (allP 3 [0, 1, 0] [1, 2, 2]), s) := rfl
  rw [e]
  refine spec_of_V (E := TE) 1 Tryz.func207 rfl (by simp [Tryz.f207]) fun X hn hX => ?_
  repeat' (first | with_reducible refine St.f ?_ | ((with_reducible refine V_cond ?_); simp only [go_sem, simprocAttr]) | ((refine V_rg ?_); intro K hK) | ((first | with_reducible refine So.f ?_ | ((with_reducible apply evOps_g); rfl)); intro K hK; simp (contextual := true) only [go_sem, simprocAttr]) | ((with_reducible refine hK _ ?_); clear hK K) | (with_reducible first | refine And.intro ?_ ?_ | refine blk_other (by decide) ?_ | refine inR_mk ?_ ?_) | ((with_reducible refine (id ?_ : EvCall _ _ [.ptr 0 0,iv 12] _ _)); refine EvCall.mq (h0) cal_l01Next [(0,0)] [] ?_; all_goals try simp only [go_sem, simprocAttr]) | ((with_reducible refine evCall_at 235 ?_); refine EvCall.mq (h4) cal_l03Paths [(0,4),(1,5),(2,6),(3,7)] [2,3] ?_; all_goals try simp only [go_sem, simprocAttr]) | (refine fun (hc : (_ : Bool) = _) => ?_; try simp only [hcS] at hc))
  all_goals try exact om_
  all_goals try (exfalso; omega)
  (first | refine ret_auto ?_ | refine ret_auto' ?_); simp only [go_sem, simprocAttr, Tryz.f207]
theorem sp_l02Family_4 {s z : RnS} (hs : RnOk s) (h0 : Spec Tryz.prog 146 [.ptr 0 0, iv 12] [(0, srcR z)] (iv 4) [(0, srcR s)]) : Spec Tryz.prog 207 [.ptr 0 0] [(0, srcR z)] (.agg [iv (famP s 4).1.ob, .sl 1, .sl 2, .sl 3, .sl 4]) [(0, srcR (famP s 4).2), (1, ⟨1, .arr (ints (famP s 4).1.fr)⟩), (2, ⟨1, .arr (ints (famP s 4).1.to)⟩), (3, ⟨1, .arr (ints (famP s 4).1.id)⟩), (4, ⟨1, .arr (intss (famP s 4).1.co)⟩)] := by
  have h2 := sp_l02Monoid hs
  have h3 := sp_l03Monoid (mo_dim (nextF s 8).toNat).1 (mo_dim (nextF s 8).toNat).2
  have e : famP s 4 = (moC (moT (nextF s 8).toNat), nextS s 8) := rfl
  rw [e]
  refine spec_of_V (E := TE) 1 Tryz.func207 rfl (by simp [Tryz.f207]) fun X hn hX => ?_
  repeat' (first | with_reducible refine St.f ?_ | ((with_reducible refine V_cond ?_); simp only [go_sem, simprocAttr]) | ((refine V_rg ?_); intro K hK) | ((first | with_reducible refine So.f ?_ | ((with_reducible apply evOps_g); rfl)); intro K hK; simp (contextual := true) only [go_sem, simprocAttr]) | ((with_reducible refine hK _ ?_); clear hK K) | (with_reducible first | refine And.intro ?_ ?_ | refine blk_other (by decide) ?_ | refine inR_mk ?_ ?_) | ((with_reducible refine (id ?_ : EvCall _ _ [.ptr 0 0,iv 12] _ _)); refine EvCall.mq (h0) cal_l01Next [(0,0)] [] ?_; all_goals try simp only [go_sem, simprocAttr]) | ((with_reducible refine evCall_at 237 ?_); refine EvCall.mq (h2) cal_l02Monoid [(0,0),(1,2)] [] ?_; all_goals try simp only [go_sem, simprocAttr]) | ((with_reducible refine evCall_at 236 ?_); refine EvCall.mq (h3) cal_l03Monoid [(0,3),(1,4),(2,5),(3,6)] [2] ?_; all_goals try simp only [go_sem, simprocAttr]) | (refine fun (hc : (_ : Bool) = _) => ?_; try simp only [hcS] at hc))
  all_goals try exact om_
  all_goals try (exfalso; omega)
  (first | refine ret_auto ?_ | refine ret_auto' ?_); simp only [go_sem, simprocAttr, Tryz.f207]
theorem sp_l02Family_7 {s z : RnS} (hs : RnOk s) (h0 : Spec Tryz.prog 146 [.ptr 0 0, iv 12] [(0, srcR z)] (iv 7) [(0, srcR s)]) : Spec Tryz.prog 207 [.ptr 0 0] [(0, srcR z)] (.agg [iv (famP s 7).1.ob, .sl 1, .sl 2, .sl 3, .sl 4]) [(0, srcR (famP s 7).2), (1, ⟨1, .arr (ints (famP s 7).1.fr)⟩), (2, ⟨1, .arr (ints (famP s 7).1.to)⟩), (3, ⟨1, .arr (ints (famP s 7).1.id)⟩), (4, ⟨1, .arr (intss (famP s 7).1.co)⟩)] := by
  have h2 := sp_l02Split
  have e : famP s 7 = (splC, s) := rfl
  rw [e]
  refine spec_of_V (E := TE) 1 Tryz.func207 rfl (by simp [Tryz.f207]) fun X hn hX => ?_
  repeat' (first | with_reducible refine St.f ?_ | ((with_reducible refine V_cond ?_); simp only [go_sem, simprocAttr]) | ((refine V_rg ?_); intro K hK) | ((first | with_reducible refine So.f ?_ | ((with_reducible apply evOps_g); rfl)); intro K hK; simp (contextual := true) only [go_sem, simprocAttr]) | ((with_reducible refine hK _ ?_); clear hK K) | (with_reducible first | refine And.intro ?_ ?_ | refine blk_other (by decide) ?_ | refine inR_mk ?_ ?_) | ((with_reducible refine (id ?_ : EvCall _ _ [.ptr 0 0,iv 12] _ _)); refine EvCall.mq (h0) cal_l01Next [(0,0)] [] ?_; all_goals try simp only [go_sem, simprocAttr]) | ((with_reducible refine evCall_at 238 ?_); refine EvCall.mq (h2) cal_l02Split [(0,2),(1,3),(2,4),(3,5)] [] ?_; all_goals try simp only [go_sem, simprocAttr]) | (refine fun (hc : (_ : Bool) = _) => ?_; try simp only [hcS] at hc))
  all_goals try exact om_
  all_goals try (exfalso; omega)
  (first | refine ret_auto ?_ | refine ret_auto' ?_); simp only [go_sem, simprocAttr, Tryz.f207]
theorem sp_l02Family_9 {s z : RnS} (hs : RnOk s) (h0 : Spec Tryz.prog 146 [.ptr 0 0, iv 12] [(0, srcR z)] (iv 9) [(0, srcR s)]) : Spec Tryz.prog 207 [.ptr 0 0] [(0, srcR z)] (.agg [iv (famP s 9).1.ob, .sl 1, .sl 2, .sl 3, .sl 4]) [(0, srcR (famP s 9).2), (1, ⟨1, .arr (ints (famP s 9).1.fr)⟩), (2, ⟨1, .arr (ints (famP s 9).1.to)⟩), (3, ⟨1, .arr (ints (famP s 9).1.id)⟩), (4, ⟨1, .arr (intss (famP s 9).1.co)⟩)] := by
  have h2 := sp_l02Monoid hs
  have h3 := sp_l03Monoid (mo_dim (nextF s 8).toNat).1 (mo_dim (nextF s 8).toNat).2
  have h4 : Spec Tryz.prog 153 [.bor [] (intss [[1]])] [] (.agg [iv one1.ob, .sl 0, .sl 1, .sl 2, .sl 3]) [(0, ⟨1, .arr (ints one1.fr)⟩), (1, ⟨1, .arr (ints one1.to)⟩), (2, ⟨1, .arr (ints one1.id)⟩), (3, ⟨1, .arr (intss one1.co)⟩)] := sp_l03Poset po1 rfl (by decide)
  have hmc := mo_cat (nextF s 8).toNat
  have hmd := mo_dim (nextF s 8).toNat
  have hoc : IsCat one1 := po1.cat
  have ho1 : one1.ob = 1 := rfl
  have hm1 : (moC (moT (nextF s 8).toNat)).ob = 1 := rfl
  have hof : one1.fr.length = 1 := rfl
  have hmf : (moC (moT (nextF s 8).toNat)).fr.length = (moT (nextF s 8).toNat).length := List.length_replicate ..
  have h5 := sp_l03Join hmc.toShape hoc.toShape hm1 ho1 (smC_cat hmc hoc (by omega) (by omega))
  have e : famP s 9 = (jnC (moC (moT (nextF s 8).toNat)) one1, nextS s 8) := rfl
  rw [e]
  refine spec_of_V (E := TE) 1 Tryz.func207 rfl (by simp [Tryz.f207]) fun X hn hX => ?_
  repeat' (first | with_reducible refine St.f ?_ | ((with_reducible refine V_cond ?_); simp only [go_sem, simprocAttr]) | ((refine V_rg ?_); intro K hK) | ((first | with_reducible refine So.f ?_ | ((with_reducible apply evOps_g); rfl)); intro K hK; simp (contextual := true) only [go_sem, simprocAttr]) | ((with_reducible refine hK _ ?_); clear hK K) | (with_reducible first | refine And.intro ?_ ?_ | refine blk_other (by decide) ?_ | refine inR_mk ?_ ?_) | ((with_reducible refine (id ?_ : EvCall _ _ [.ptr 0 0,iv 12] _ _)); refine EvCall.mq (h0) cal_l01Next [(0,0)] [] ?_; all_goals try simp only [go_sem, simprocAttr]) | ((with_reducible refine evCall_at 237 ?_); refine EvCall.mq (h2) cal_l02Monoid [(0,0),(1,2)] [] ?_; all_goals try simp only [go_sem, simprocAttr]) | ((with_reducible refine evCall_at 236 ?_); refine EvCall.mq (h3) cal_l03Monoid [(0,3),(1,4),(2,5),(3,6)] [2] ?_; all_goals try simp only [go_sem, simprocAttr]) | ((with_reducible refine evCall_at 153 ?_); refine EvCall.mq (h4) cal_l03Poset [(0,9),(1,10),(2,11),(3,12)] [8] ?_; all_goals try simp only [go_sem, simprocAttr]) | ((with_reducible refine evCall_at 240 ?_); refine EvCall.mq (h5) cal_l03Join [(0,13),(1,14),(2,15),(3,16)] [3,4,5,6,9,10,11,12] ?_; all_goals try simp only [go_sem, simprocAttr]) | (refine fun (hc : (_ : Bool) = _) => ?_; try simp only [hcS] at hc))
  all_goals try exact om_
  all_goals try (exfalso; omega)
  (first | refine ret_auto ?_ | refine ret_auto' ?_); simp only [go_sem, simprocAttr, Tryz.f207]
theorem sp_l02Family_8 {s z : RnS} (hs : RnOk s) (h0 : Spec Tryz.prog 146 [.ptr 0 0, iv 12] [(0, srcR z)] (iv 8) [(0, srcR s)]) : Spec Tryz.prog 207 [.ptr 0 0] [(0, srcR z)] (.agg [iv (famP s 8).1.ob, .sl 1, .sl 2, .sl 3, .sl 4]) [(0, srcR (famP s 8).2), (1, ⟨1, .arr (ints (famP s 8).1.fr)⟩), (2, ⟨1, .arr (ints (famP s 8).1.to)⟩), (3, ⟨1, .arr (ints (famP s 8).1.id)⟩), (4, ⟨1, .arr (intss (famP s 8).1.co)⟩)] := by
  have h2 := sp_l02Monoid hs
  have h3 := sp_l03Monoid (mo_dim (nextF s 8).toNat).1 (mo_dim (nextF s 8).toNat).2
  have h4 : Spec Tryz.prog 153 [.bor [] (intss [[1]])] [] (.agg [iv one1.ob, .sl 0, .sl 1, .sl 2, .sl 3]) [(0, ⟨1, .arr (ints one1.fr)⟩), (1, ⟨1, .arr (ints one1.to)⟩), (2, ⟨1, .arr (ints one1.id)⟩), (3, ⟨1, .arr (intss one1.co)⟩)] := sp_l03Poset po1 rfl (by decide)
  have hmc := mo_cat (nextF s 8).toNat
  have hmd := mo_dim (nextF s 8).toNat
  have hoc : IsCat one1 := po1.cat
  have ho1 : one1.ob = 1 := rfl
  have hm1 : (moC (moT (nextF s 8).toNat)).ob = 1 := rfl
  have hof : one1.fr.length = 1 := rfl
  have hmf : (moC (moT (nextF s 8).toNat)).fr.length = (moT (nextF s 8).toNat).length := List.length_replicate ..
  have h5 := sp_l03Join hmc.toShape hoc.toShape hm1 ho1 (smC_cat hmc hoc (by omega) (by omega))
  have h6 := sp_l03Op (jn_cat (nextF s 8).toNat).toShape
  have e : famP s 8 = (opC (jnC (moC (moT (nextF s 8).toNat)) one1), nextS s 8) := rfl
  rw [e]
  refine spec_of_V (E := TE) 1 Tryz.func207 rfl (by simp [Tryz.f207]) fun X hn hX => ?_
  repeat' (first | with_reducible refine St.f ?_ | ((with_reducible refine V_cond ?_); simp only [go_sem, simprocAttr]) | ((refine V_rg ?_); intro K hK) | ((first | with_reducible refine So.f ?_ | ((with_reducible apply evOps_g); rfl)); intro K hK; simp (contextual := true) only [go_sem, simprocAttr]) | ((with_reducible refine hK _ ?_); clear hK K) | (with_reducible first | refine And.intro ?_ ?_ | refine blk_other (by decide) ?_ | refine inR_mk ?_ ?_) | ((with_reducible refine (id ?_ : EvCall _ _ [.ptr 0 0,iv 12] _ _)); refine EvCall.mq (h0) cal_l01Next [(0,0)] [] ?_; all_goals try simp only [go_sem, simprocAttr]) | ((with_reducible refine evCall_at 237 ?_); refine EvCall.mq (h2) cal_l02Monoid [(0,0),(1,2)] [] ?_; all_goals try simp only [go_sem, simprocAttr]) | ((with_reducible refine evCall_at 236 ?_); refine EvCall.mq (h3) cal_l03Monoid [(0,3),(1,4),(2,5),(3,6)] [2] ?_; all_goals try simp only [go_sem, simprocAttr]) | ((with_reducible refine evCall_at 153 ?_); refine EvCall.mq (h4) cal_l03Poset [(0,9),(1,10),(2,11),(3,12)] [8] ?_; all_goals try simp only [go_sem, simprocAttr]) | ((with_reducible refine evCall_at 240 ?_); refine EvCall.mq (h5) cal_l03Join [(0,13),(1,14),(2,15),(3,16)] [3,4,5,6,9,10,11,12] ?_; all_goals try simp only [go_sem, simprocAttr]) | ((with_reducible refine evCall_at 239 ?_); refine EvCall.mq (h6) cal_l03Op [(0,17),(1,18),(2,19),(3,20)] [13,14,15,16] ?_; all_goals try simp only [go_sem, simprocAttr]) | (refine fun (hc : (_ : Bool) = _) => ?_; try simp only [hcS] at hc))
  all_goals try exact om_
  all_goals try (exfalso; omega)
  (first | refine ret_auto ?_ | refine ret_auto' ?_); simp only [go_sem, simprocAttr, Tryz.f207]
theorem sp_l02Family_10 {s z : RnS} (hs : RnOk s) (h0 : Spec Tryz.prog 146 [.ptr 0 0, iv 12] [(0, srcR z)] (iv 10) [(0, srcR s)]) : Spec Tryz.prog 207 [.ptr 0 0] [(0, srcR z)] (.agg [iv (famP s 10).1.ob, .sl 1, .sl 2, .sl 3, .sl 4]) [(0, srcR (famP s 10).2), (1, ⟨1, .arr (ints (famP s 10).1.fr)⟩), (2, ⟨1, .arr (ints (famP s 10).1.to)⟩), (3, ⟨1, .arr (ints (famP s 10).1.id)⟩), (4, ⟨1, .arr (intss (famP s 10).1.co)⟩)] := by
  have hb := nextF_b (n := 2) hs (by decide)
  have h1 := sp_l01Next (n := 2) hs
  obtain ⟨n, hv⟩ : ∃ n : Nat, nextF s 2 = n := ⟨(nextF s 2).toNat, by omega⟩
  have e : famP s 10 = (poC (relF (nextS s 2) (2 + n)) (2 + n), relS (nextS s 2) (2 + n)) := by unfold famP; rw [hv]; rfl
  rw [e]
  rw [hv] at hb h1
  have ok := nextS_ok (n := 2) hs
  have h2 := sp_l02Relation (n := 2 + n) ok (by omega)
  rw [show ((2 + n : Nat) : Int) = 2 + (n : Int) by omega] at h2
  have dm := relF_dim (n := 2 + n) ok
  have h4 := sp_l03Poset (relF_po (n := 2 + n) ok (by omega)) dm.1 dm.2
  refine spec_of_V (E := TE) 1 Tryz.func207 rfl (by simp [Tryz.f207]) fun X hn hX => ?_
  repeat' (first | with_reducible refine St.f ?_ | ((with_reducible refine V_cond ?_); simp only [go_sem, simprocAttr]) | ((refine V_rg ?_); intro K hK) | ((first | with_reducible refine So.f ?_ | ((with_reducible apply evOps_g); rfl)); intro K hK; simp (contextual := true) only [go_sem, simprocAttr]) | ((with_reducible refine hK _ ?_); clear hK K) | (with_reducible first | refine And.intro ?_ ?_ | refine blk_other (by decide) ?_ | refine inR_mk ?_ ?_) | ((with_reducible refine (id ?_ : EvCall _ _ [.ptr 0 0,iv 12] _ _)); refine EvCall.mq (h0) cal_l01Next [(0,0)] [] ?_; all_goals try simp only [go_sem, simprocAttr]) | ((with_reducible refine (id ?_ : EvCall _ _ [.ptr 0 0,iv 2] _ _)); refine EvCall.mq (h1) cal_l01Next [(0,0)] [] ?_; all_goals try simp only [go_sem, simprocAttr]) | ((with_reducible refine evCall_at 234 ?_); refine EvCall.mq (h2) cal_l02Relation [(0,0),(1,2)] [] ?_; all_goals try simp only [go_sem, simprocAttr]) | ((with_reducible refine evCall_at 153 ?_); refine EvCall.mq (h4) cal_l03Poset [(0,3),(1,4),(2,5),(3,6)] [2] ?_; all_goals try simp only [go_sem, simprocAttr]) | (refine fun (hc : (_ : Bool) = _) => ?_; try simp only [hcS] at hc))
  all_goals try exact om_
  all_goals try (exfalso; omega)
  (first | refine ret_auto ?_ | refine ret_auto' ?_); simp only [go_sem, simprocAttr, Tryz.f207]
theorem sp_l02Family_5 {s z : RnS} (hs : RnOk s) (h0 : Spec Tryz.prog 146 [.ptr 0 0, iv 12] [(0, srcR z)] (iv 5) [(0, srcR s)]) : Spec Tryz.prog 207 [.ptr 0 0] [(0, srcR z)] (.agg [iv (famP s 5).1.ob, .sl 1, .sl 2, .sl 3, .sl 4]) [(0, srcR (famP s 5).2), (1, ⟨1, .arr (ints (famP s 5).1.fr)⟩), (2, ⟨1, .arr (ints (famP s 5).1.to)⟩), (3, ⟨1, .arr (ints (famP s 5).1.id)⟩), (4, ⟨1, .arr (intss (famP s 5).1.co)⟩)] := by
  have hb := nextF_b (n := 3) hs (by decide)
  have h1 := sp_l01Next (n := 3) hs
  obtain ⟨n, hv⟩ : ∃ n : Nat, nextF s 3 = n := ⟨(nextF s 3).toNat, by omega⟩
  have e : famP s 5 = (poC (allOne (1 + n)) (1 + n), nextS s 3) := by unfold famP; rw [hv]; rfl
  rw [e]
  rw [hv] at hb h1
  have h4 := sp_l03Poset (allOne_po (n := 1 + n) (by omega)) all_dim.1 all_dim.2
  have ea : allOne (1 + n) = List.replicate (1 + n) (List.replicate (1 + n) 1) := rfl
  rw [ea] at h4 ⊢
  refine spec_of_V (E := TE) 1 Tryz.func207 rfl (by simp [Tryz.f207]) fun X hn hX => ?_
  repeat' (first | with_reducible refine St.f ?_ | ((with_reducible refine V_cond ?_); simp only [go_sem, simprocAttr]) | ((refine V_rg ?_); intro K hK) | ((first | with_reducible refine So.f ?_ | ((with_reducible apply evOps_g); rfl)); intro K hK; simp (contextual := true) only [go_sem, simprocAttr]) | ((with_reducible refine hK _ ?_); clear hK K) | (with_reducible first | refine And.intro ?_ ?_ | refine blk_other (by decide) ?_ | refine inR_mk ?_ ?_) | ((with_reducible refine (id ?_ : EvCall _ _ [.ptr 0 0,iv 12] _ _)); refine EvCall.mq (h0) cal_l01Next [(0,0)] [] ?_; all_goals try simp only [go_sem, simprocAttr]) | ((with_reducible refine (id ?_ : EvCall _ _ [.ptr 0 0,iv 3] _ _)); refine EvCall.mq (h1) cal_l01Next [(0,0)] [] ?_; all_goals try simp only [go_sem, simprocAttr]) | (refine fun (hc : (_ : Bool) = _) => ?_; try simp only [hcS] at hc))
  all_goals try exact om_
  all_goals try (exfalso; omega)
  refine V_loopK (G := {x : Nat // x ≤ (1 + n) ∧ (True)}) (fun ⟨x, _⟩ => [(5, iv x), (2, .ptr 1 0), (3, iv (1 + (n : Int))), (4, .sl 2)]) [0] (fun ⟨x, _⟩ => [(2, ⟨1, .arr (intss (List.replicate x (List.replicate (1 + n) 1)))⟩)]) [2] (fun zz => (1 + n) - zz.1) ⟨0, Nat.zero_le _, by trivial⟩ ?_ ?_
  · exact Imp.auto hX (by simp [go_sem, simprocAttr, List.replicate_zero])
  rintro ⟨x, hix, hwx⟩
  simp only [go_sem, simprocAttr]
  rcases Nat.lt_or_ge x (1 + n) with hx1 | hx1
  · have e1 : List.replicate (x + 1) (List.replicate (1 + n) (1 : Int)) = List.replicate x (List.replicate (1 + n) 1) ++ [List.replicate (1 + n) 1] := List.replicate_succ'
    repeat' (first | with_reducible refine St.f ?_ | ((with_reducible refine V_cond ?_); simp only [go_sem, simprocAttr]) | ((refine V_rg ?_); intro K hK) | ((first | with_reducible refine So.f ?_ | ((with_reducible apply evOps_g); rfl)); intro K hK; simp (contextual := true) only [go_sem, simprocAttr]) | ((with_reducible refine hK _ ?_); clear hK K) | (with_reducible first | refine And.intro ?_ ?_ | refine blk_other (by decide) ?_ | refine inR_mk ?_ ?_) | (refine fun (hc : (_ : Bool) = _) => ?_; try simp only [hcS] at hc))
    all_goals try exact om_
    all_goals try (exfalso; omega)
    refine V_loopK (G := {y : Nat // y ≤ (1 + n) ∧ (True)}) (fun ⟨y, _⟩ => [(7, iv y), (5, iv x), (2, .ptr 1 0), (3, iv (1 + (n : Int))), (4, .sl 2), (6, .sl 3)]) [0] (fun ⟨y, _⟩ => [(2, ⟨1, .arr (intss (List.replicate x (List.replicate (1 + n) 1)))⟩), (3, ⟨1, .arr (ints (List.replicate y 1))⟩)]) [2, 3] (fun zz => (1 + n) - zz.1) ⟨0, Nat.zero_le _, by trivial⟩ ?_ ?_
    · exact Imp.auto hX (by simp [go_sem, simprocAttr, List.replicate_zero])
    rintro ⟨y, hiy, hwy⟩
    simp only [go_sem, simprocAttr]
    rcases Nat.lt_or_ge y (1 + n) with hy1 | hy1
    · have e2 : List.replicate (y + 1) (1 : Int) = List.replicate y 1 ++ [1] := List.replicate_succ'
      repeat' (first | with_reducible refine St.f ?_ | ((with_reducible refine V_cond ?_); simp only [go_sem, simprocAttr]) | ((refine V_rg ?_); intro K hK) | ((first | with_reducible refine So.f ?_ | ((with_reducible apply evOps_g); rfl)); intro K hK; simp (contextual := true) only [go_sem, simprocAttr]) | ((with_reducible refine hK _ ?_); clear hK K) | (with_reducible first | refine And.intro ?_ ?_ | refine blk_other (by decide) ?_ | refine inR_mk ?_ ?_) | (refine fun (hc : (_ : Bool) = _) => ?_; try simp only [hcS] at hc))
      all_goals try exact om_
      all_goals try (exfalso; omega)
      refine ⟨⟨y + 1, by omega, (by (trivial))⟩, by simp only; omega, Imp.auto hX (by simp only [go_sem, simprocAttr, e2])⟩
    · obtain rfl : y = 1 + n := by omega
      repeat' (first | with_reducible refine St.f ?_ | ((with_reducible refine V_cond ?_); simp only [go_sem, simprocAttr]) | ((refine V_rg ?_); intro K hK) | ((first | with_reducible refine So.f ?_ | ((with_reducible apply evOps_g); rfl)); intro K hK; simp (contextual := true) only [go_sem, simprocAttr]) | ((with_reducible refine hK _ ?_); clear hK K) | (with_reducible first | refine And.intro ?_ ?_ | refine blk_other (by decide) ?_ | refine inR_mk ?_ ?_) | (refine fun (hc : (_ : Bool) = _) => ?_; try simp only [hcS] at hc))
      all_goals try exact om_
      all_goals try (exfalso; omega)
      refine ⟨⟨x + 1, by omega, (by (trivial))⟩, by simp only; omega, Imp.auto hX (by simp only [go_sem, simprocAttr, e1])⟩
  · obtain rfl : x = 1 + n := by omega
    repeat' (first | with_reducible refine St.f ?_ | ((with_reducible refine V_cond ?_); simp only [go_sem, simprocAttr]) | ((refine V_rg ?_); intro K hK) | ((first | with_reducible refine So.f ?_ | ((with_reducible apply evOps_g); rfl)); intro K hK; simp (contextual := true) only [go_sem, simprocAttr]) | ((with_reducible refine hK _ ?_); clear hK K) | (with_reducible first | refine And.intro ?_ ?_ | refine blk_other (by decide) ?_ | refine inR_mk ?_ ?_) | ((with_reducible refine evCall_at 153 ?_); refine EvCall.mq (h4) cal_l03Poset [(0,3),(1,4),(2,5),(3,6)] [2] ?_; all_goals try simp only [go_sem, simprocAttr]) | (refine fun (hc : (_ : Bool) = _) => ?_; try simp only [hcS] at hc))
    all_goals try exact om_
    all_goals try (exfalso; omega)
    (first | refine ret_auto ?_ | refine ret_auto' ?_); simp only [go_sem, simprocAttr, Tryz.f207]
theorem sp_l02Family_11 {s z : RnS} (hs : RnOk s) (h0 : Spec Tryz.prog 146 [.ptr 0 0, iv 12] [(0, srcR z)] (iv 11) [(0, srcR s)]) : Spec Tryz.prog 207 [.ptr 0 0] [(0, srcR z)] (.agg [iv (famP s 11).1.ob, .sl 1, .sl 2, .sl 3, .sl 4]) [(0, srcR (famP s 11).2), (1, ⟨1, .arr (ints (famP s 11).1.fr)⟩), (2, ⟨1, .arr (ints (famP s 11).1.to)⟩), (3, ⟨1, .arr (ints (famP s 11).1.id)⟩), (4, ⟨1, .arr (intss (famP s 11).1.co)⟩)] := by
  have hb := nextF_b (n := 2) hs (by decide)
  have h1 := sp_l01Next (n := 2) hs
  have ok1 := nextS_ok (n := 2) hs
  have hc4 := nextF_b (n := 4) ok1 (by decide)
  have h2 := sp_l01Next (n := 4) ok1
  have ok2 := nextS_ok (n := 4) ok1
  obtain ⟨m, hv⟩ : ∃ n : Nat, nextF s 2 = n := ⟨(nextF s 2).toNat, by omega⟩
  obtain ⟨q, hq⟩ : ∃ n : Nat, nextF (nextS s 2) 4 = n := ⟨(nextF (nextS s 2) 4).toNat, by omega⟩
  obtain ⟨r, hr⟩ : ∃ r, nextS (nextS s 2) 4 = r := ⟨_, rfl⟩
  have e : famP s 11 = (ptC (2 + m) (allP (2 + m) (grG r (2 + (m : Int)) q).1 (grG r (2 + (m : Int)) q).2.1), (grG r (2 + (m : Int)) q).2.2) := by
    have hN : ((2 + (nextF s 2).toNat : Nat) : Int) = 2 + (m : Int) := by omega
    have hM : (nextF s 2).toNat = m := by omega
    have hQ : (nextF (nextS s 2) 4).toNat = q := by omega
    show (ptC (2 + (nextF s 2).toNat) (allP (2 + (nextF s 2).toNat) (grG (nextS (nextS s 2) 4) ((2 + (nextF s 2).toNat : Nat) : Int) (nextF (nextS s 2) 4).toNat).1 (grG (nextS (nextS s 2) 4) ((2 + (nextF s 2).toNat : Nat) : Int) (nextF (nextS s 2) 4).toNat).2.1), (grG (nextS (nextS s 2) 4) ((2 + (nextF s 2).toNat : Nat) : Int) (nextF (nextS s 2) 4).toNat).2.2) = _
    rw [hN, hM, hQ, hr]
  rw [e]
  rw [hv] at hb h1
  rw [hq] at hc4 h2
  rw [hr] at h2 ok2
  have hgr := grG_gr (n := 2 + m) (k := q) ok2 (by omega) (by omega)
  rw [show ((2 + m : Nat) : Int) = 2 + (m : Int) by omega] at hgr
  have h4 := sp_l03Paths hgr
  rw [show ((2 + m : Nat) : Int) = 2 + (m : Int) by omega] at h4
  refine spec_of_V (E := TE) 1 Tryz.func207 rfl (by simp [Tryz.f207]) fun X hn hX => ?_
  repeat' (first | with_reducible refine St.f ?_ | ((with_reducible refine V_cond ?_); simp only [go_sem, simprocAttr]) | ((refine V_rg ?_); intro K hK) | ((first | with_reducible refine So.f ?_ | ((with_reducible apply evOps_g); rfl)); intro K hK; simp (contextual := true) only [go_sem, simprocAttr]) | ((with_reducible refine hK _ ?_); clear hK K) | (with_reducible first | refine And.intro ?_ ?_ | refine blk_other (by decide) ?_ | refine inR_mk ?_ ?_) | ((with_reducible refine (id ?_ : EvCall _ _ [.ptr 0 0,iv 12] _ _)); refine EvCall.mq (h0) cal_l01Next [(0,0)] [] ?_; all_goals try simp only [go_sem, simprocAttr]) | ((with_reducible refine (id ?_ : EvCall _ _ [.ptr 0 0,iv 2] _ _)); refine EvCall.mq (h1) cal_l01Next [(0,0)] [] ?_; all_goals try simp only [go_sem, simprocAttr]) | ((with_reducible refine (id ?_ : EvCall _ _ [.ptr 0 0,iv 4] _ _)); refine EvCall.mq (h2) cal_l01Next [(0,0)] [] ?_; all_goals try simp only [go_sem, simprocAttr]) | (refine fun (hc : (_ : Bool) = _) => ?_; try simp only [hcS] at hc))
  all_goals try exact om_
  all_goals try (exfalso; omega)
  refine V_loopK (G := {k : Nat // k ≤ q}) (fun k => [(11, iv ((q : Int) - (k.1 : Int))), (0, .ptr 0 0), (2, .ptr 1 0), (8, iv (2 + (m : Int))), (9, .sl 2), (10, .sl 3)]) [] (fun k => [(0, srcR (grG r (2 + (m : Int)) k.1).2.2), (2, ⟨1, .arr (ints (grG r (2 + (m : Int)) k.1).1)⟩), (3, ⟨1, .arr (ints (grG r (2 + (m : Int)) k.1).2.1)⟩)]) [0, 2, 3] (fun k => q - k.1) ⟨0, Nat.zero_le _⟩ ?_ ?_
  · exact Imp.auto hX (by simp [go_sem, simprocAttr, grG])
  rintro ⟨k, hk⟩
  simp only [go_sem, simprocAttr]
  have okk := grG_ok (n := 2 + (m : Int)) ok2 k
  rcases Nat.lt_or_ge k q with hk1 | hk1
  · obtain ⟨a, ha⟩ : ∃ a, nextF (grG r (2 + (m : Int)) k).2.2 (2 + (m : Int) - 1) = a := ⟨_, rfl⟩
    have ba := nextF_b (n := 2 + (m : Int) - 1) okk (by omega)
    have h5 := sp_l01Next (n := 2 + (m : Int) - 1) okk
    have ok5 := nextS_ok (n := 2 + (m : Int) - 1) okk
    rw [ha] at ba h5
    have bb := nextF_b (n := 2 + (m : Int) - 1 - a) ok5 (by omega)
    have h6 := sp_l01Next (n := 2 + (m : Int) - 1 - a) ok5
    have l1 := grG_len1 (s := r) (n := 2 + (m : Int)) k
    have l2 := grG_len2 (s := r) (n := 2 + (m : Int)) k
    have eG : grG r (2 + (m : Int)) (k + 1) = ((grG r (2 + (m : Int)) k).1 ++ [a], (grG r (2 + (m : Int)) k).2.1 ++ [a + 1 + nextF (nextS (grG r (2 + (m : Int)) k).2.2 (2 + (m : Int) - 1)) (2 + (m : Int) - 1 - a)], nextS (nextS (grG r (2 + (m : Int)) k).2.2 (2 + (m : Int) - 1)) (2 + (m : Int) - 1 - a)) := by rw [grG]; simp only [ha]
    have eN : (q : Int) - (k : Int) - 1 = (q : Int) - ((k + 1 : Nat) : Int) := by omega
    repeat' (first | with_reducible refine St.f ?_ | ((with_reducible refine V_cond ?_); simp only [go_sem, simprocAttr]) | ((refine V_rg ?_); intro K hK) | ((first | with_reducible refine So.f ?_ | ((with_reducible apply evOps_g); rfl)); intro K hK; simp (contextual := true) only [go_sem, simprocAttr]) | ((with_reducible refine hK _ ?_); clear hK K) | (with_reducible first | refine And.intro ?_ ?_ | refine blk_other (by decide) ?_ | refine inR_mk ?_ ?_) | ((with_reducible refine (id ?_ : EvCall _ _ [.ptr 0 0,iv (2+(m:Int)-1)] _ _)); refine EvCall.mq (h5) cal_l01Next [(0,0)] [] ?_; all_goals try simp only [go_sem, simprocAttr]) | ((with_reducible refine (id ?_ : EvCall _ _ [.ptr 0 0,iv (2+(m:Int)-1-a)] _ _)); refine EvCall.mq (h6) cal_l01Next [(0,0)] [] ?_; all_goals try simp only [go_sem, simprocAttr]) | (refine fun (hc : (_ : Bool) = _) => ?_; try simp only [hcS] at hc))
    all_goals try exact om_
    all_goals try (exfalso; omega)
    exact ⟨⟨k + 1, by omega⟩, by simp only; omega, Imp.auto hX (by simp only [go_sem, simprocAttr, eG, eN])⟩
  · obtain rfl : k = q := by omega
    repeat' (first | with_reducible refine St.f ?_ | ((with_reducible refine V_cond ?_); simp only [go_sem, simprocAttr]) | ((refine V_rg ?_); intro K hK) | ((first | with_reducible refine So.f ?_ | ((with_reducible apply evOps_g); rfl)); intro K hK; simp (contextual := true) only [go_sem, simprocAttr]) | ((with_reducible refine hK _ ?_); clear hK K) | (with_reducible first | refine And.intro ?_ ?_ | refine blk_other (by decide) ?_ | refine inR_mk ?_ ?_) | ((with_reducible refine evCall_at 235 ?_); refine EvCall.mq (h4) cal_l03Paths [(0,4),(1,5),(2,6),(3,7)] [2,3] ?_; all_goals try simp only [go_sem, simprocAttr]) | (refine fun (hc : (_ : Bool) = _) => ?_; try simp only [hcS] at hc))
    all_goals try exact om_
    all_goals try (exfalso; omega)
    (first | refine ret_auto ?_ | refine ret_auto' ?_); simp only [go_sem, simprocAttr, Tryz.f207]
theorem famP_ok {s : RnS} (h : RnOk s) : ∀ {k : Nat}, k < 12 → RnOk (famP s k).2 ∧ IsCat (famP s k).1 ∧ (famP s k).1.ob ≤ 5 := fun {k} hk => by
  have b2 := nextF_b (n := 2) h (by decide)
  have b3 := nextF_b (n := 3) h (by decide)
  have b5 := nextF_b (n := 5) h (by decide)
  have o2 := nextS_ok (n := 2) h
  have o5 := nextS_ok (n := 5) h
  have b4 := nextF_b (n := 4) o2 (by decide)
  have hg := grG_gr (n := 2 + (nextF s 2).toNat) (k := (nextF (nextS s 2) 4).toNat) (nextS_ok (n := 4) o2) (by omega) (by omega)
  obtain rfl | rfl | rfl | rfl | rfl | rfl | rfl | rfl | rfl | rfl | rfl | rfl : k = 0 ∨ k = 1 ∨ k = 2 ∨ k = 3 ∨ k = 4 ∨ k = 5 ∨ k = 6 ∨ k = 7 ∨ k = 8 ∨ k = 9 ∨ k = 10 ∨ k = 11 := by omega
  · exact ⟨relS_ok o5, (relF_po o5 (by omega)).cat, by show (((nextF s 5).toNat : Nat) : Int) ≤ 5; omega⟩
  · exact ⟨h, po2.cat, by show ((2 : Nat) : Int) ≤ 5; omega⟩
  · exact ⟨h, po3.cat, by show ((3 : Nat) : Int) ≤ 5; omega⟩
  · exact ⟨h, gr_fix.cat, by show ((2 : Nat) : Int) ≤ 5; omega⟩
  · exact ⟨nextS_ok (n := 8) h, mo_cat _, by show (1 : Int) ≤ 5; omega⟩
  · exact ⟨nextS_ok (n := 3) h, (allOne_po (by omega)).cat, by show ((1 + (nextF s 3).toNat : Nat) : Int) ≤ 5; omega⟩
  · exact ⟨h, gr_fix3.cat, by show ((3 : Nat) : Int) ≤ 5; omega⟩
  · exact ⟨h, spl_cat, by show (2 : Int) ≤ 5; omega⟩
  · exact ⟨nextS_ok (n := 8) h, opjn_cat _, by show (1 : Int) + ((1 : Nat) : Int) ≤ 5; omega⟩
  · exact ⟨nextS_ok (n := 8) h, jn_cat _, by show (1 : Int) + ((1 : Nat) : Int) ≤ 5; omega⟩
  · exact ⟨relS_ok o2, (relF_po o2 (by omega)).cat, by show ((2 + (nextF s 2).toNat : Nat) : Int) ≤ 5; omega⟩
  · exact ⟨grG_ok (nextS_ok o2) _, hg.cat, by show ((2 + (nextF s 2).toNat : Nat) : Int) ≤ 5; omega⟩
theorem famF_ok {s : RnS} (h : RnOk s) : RnOk (famF s).2 ∧ IsCat (famF s).1 ∧ (famF s).1.ob ≤ 5 := by
  have b := nextF_b (n := 12) h (by decide)
  exact famP_ok (nextS_ok h) (by omega)
theorem sp_l02Family {z : RnS} (hz : RnOk z) : Spec Tryz.prog 207 [.ptr 0 0] [(0, srcR z)] (.agg [iv (famF z).1.ob, .sl 1, .sl 2, .sl 3, .sl 4]) [(0, srcR (famF z).2), (1, ⟨1, .arr (ints (famF z).1.fr)⟩), (2, ⟨1, .arr (ints (famF z).1.to)⟩), (3, ⟨1, .arr (ints (famF z).1.id)⟩), (4, ⟨1, .arr (intss (famF z).1.co)⟩)] := by
  have b := nextF_b (n := 12) hz (by decide)
  have h0 := sp_l01Next (n := 12) hz
  have ok := nextS_ok (n := 12) hz
  unfold famF
  obtain ⟨k, hk⟩ : ∃ n : Nat, nextF z 12 = n := ⟨(nextF z 12).toNat, by omega⟩
  rw [hk] at b h0 ⊢
  rw [Int.toNat_natCast]
  obtain rfl | rfl | rfl | rfl | rfl | rfl | rfl | rfl | rfl | rfl | rfl | rfl : k = 0 ∨ k = 1 ∨ k = 2 ∨ k = 3 ∨ k = 4 ∨ k = 5 ∨ k = 6 ∨ k = 7 ∨ k = 8 ∨ k = 9 ∨ k = 10 ∨ k = 11 := by omega
  · exact sp_l02Family_0 ok h0
  · exact sp_l02Family_1 ok h0
  · exact sp_l02Family_2 ok h0
  · exact sp_l02Family_3 ok h0
  · exact sp_l02Family_4 ok h0
  · exact sp_l02Family_5 ok h0
  · exact sp_l02Family_6 ok h0
  · exact sp_l02Family_7 ok h0
  · exact sp_l02Family_8 ok h0
  · exact sp_l02Family_9 ok h0
  · exact sp_l02Family_10 ok h0
  · exact sp_l02Family_11 ok h0
end Go.Eng
