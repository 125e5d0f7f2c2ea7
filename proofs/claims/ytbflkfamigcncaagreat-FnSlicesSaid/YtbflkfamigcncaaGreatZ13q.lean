/- A category is spoilt, rarely, by the reference. -/
import Derived.Test.YtbflkfamigcncaaGreatZ12q
import Derived.Test.YtbflkfamigcncaaGreatEngBeq
set_option linter.unusedSimpArgs false
set_option linter.unusedVariables false
set_option maxRecDepth 100000
set_option maxHeartbeats 32000000
namespace Go.Eng
open Go Go.Proofs Go.Cats
attribute [local go_sem] List.set_cons_zero List.set_cons_succ
def bendAt (k : Int) (f : Nat) (s : RnS) (c : Cat) : Cat × RnS :=
  if k = 0 then (⟨[c.ob + 1, -1, 9].getD (nextF s 3).toNat 0, c.fr, c.to, c.id, c.co⟩, nextS s 3)
  else if k = 1 then (⟨c.ob, c.fr ++ [0], c.to, c.id, c.co⟩, s)
  else if k = 2 then (if 0 < c.id.length then (⟨c.ob, c.fr, c.to, c.id.set 0 (nextF s (c.fr.length + 1)), c.co⟩, nextS s (c.fr.length + 1)) else (c, s))
  else if k = 3 ∨ k = 4 ∨ k = 5 then (if 0 < c.fr.length then (⟨c.ob, c.fr, c.to, c.id, c.co.set f ((c.co.getD f []).set (nextF s c.fr.length).toNat (nextF (nextS s c.fr.length) (c.fr.length + 1) - 1))⟩, nextS (nextS s c.fr.length) (c.fr.length + 1)) else (c, s))
  else if k = 6 then (if 0 < c.fr.length then (⟨c.ob, c.fr, c.to.set f (nextF s (c.ob + 1)), c.id, c.co⟩, nextS s (c.ob + 1)) else (c, s))
  else (if 0 < c.fr.length then (⟨c.ob, c.fr, c.to, c.id, c.co.set f ((c.co.getD f []).drop 1)⟩, s) else (c, s))
def bendF (s : RnS) (c : Cat) : Cat × RnS := bendAt (nextF (nextS s c.fr.length) 8) (nextF s c.fr.length).toNat (nextS (nextS s c.fr.length) 8) c
abbrev catQ (n : Nat) (c : Cat) : List (Nat × Rs) := [(n, ⟨1, .arr (ints c.fr)⟩), (n + 1, ⟨1, .arr (ints c.to)⟩), (n + 2, ⟨1, .arr (ints c.id)⟩), (n + 3, ⟨1, .arr (intss c.co)⟩)]
abbrev catR (n : Nat) (c : Cat) : List (Nat × Rs) := [(n, ⟨1, .arr (ints c.fr)⟩), (n + 1, ⟨1, .arr (ints c.to)⟩), (n + 2, ⟨1, .arr (ints c.id)⟩), (n + 3, ⟨1, .arr (rdA (intss c.co))⟩)]
abbrev catO (n : Nat) (c : Cat) : Sv := .agg [iv c.ob, .sl n, .sl (n + 1), .sl (n + 2), .sl (n + 3)]
section
variable {s : RnS} {c : Cat} {k : Int} {f : Nat}
theorem shape_B (h : Shape c) : CatB c := by
  have h1 := h.ob0
  have h2 := h.ob8
  have h3 := h.m40
  have h4 := h.tol
  have h5 := h.idl
  have h6 := h.col
  exact ⟨by omega, by omega, by omega, by omega, by omega, by omega, fun f hf => by rw [(h.coe f (by omega)).1]; omega⟩
theorem set_rowB {R : List (List Int)} {r : List Int} (h : ∀ f, f < R.length → (R.getD f []).length ≤ 1048576) (hr : r.length ≤ 1048576) : ∀ g, g < (R.set f r).length → ((R.set f r).getD g []).length ≤ 1048576 := by
  intro g hg
  rw [List.length_set] at hg
  rw [List.getD_eq_getElem?_getD, List.getElem?_set]
  by_cases e : f = g
  · subst e; rw [if_pos rfl, if_pos hg]; exact hr
  · rw [if_neg e, ← List.getD_eq_getElem?_getD]; exact h g hg
theorem bendAt_ok (hs : RnOk s) (h : Shape c) (hf : c.fr.length = 0 ∨ f < c.fr.length) : RnOk (bendAt k f s c).2 ∧ CatB (bendAt k f s c).1 := by
  have h1 := h.ob0
  have h2 := h.ob8
  have h3 := h.m40
  have hB := shape_B h
  have hl := h.col
  unfold bendAt
  split
  · refine ⟨nextS_ok (n := 3) hs, ?_⟩
    have b := nextF_b (n := 3) hs (by decide)
    have e : [c.ob + 1, -1, 9].getD (nextF s 3).toNat 0 = c.ob + 1 ∨ [c.ob + 1, -1, 9].getD (nextF s 3).toNat 0 = -1 ∨ [c.ob + 1, -1, 9].getD (nextF s 3).toNat 0 = 9 := by
      have : (nextF s 3).toNat = 0 ∨ (nextF s 3).toNat = 1 ∨ (nextF s 3).toNat = 2 := by omega
      rcases this with q | q | q <;> rw [q] <;> simp
    refine ⟨?_, ?_, hB.fr, hB.to, hB.id, hB.co, hB.row⟩ <;> (simp only; omega)
  split
  · refine ⟨hs, hB.ob1, hB.ob2, ?_, hB.to, hB.id, hB.co, hB.row⟩
    simp only [List.length_append, List.length_singleton]; omega
  split
  · split
    · refine ⟨nextS_ok (n := c.fr.length + 1) hs, hB.ob1, hB.ob2, hB.fr, hB.to, ?_, hB.co, hB.row⟩
      rw [List.length_set]; exact hB.id
    · exact ⟨hs, hB⟩
  split
  · split
    · refine ⟨nextS_ok (n := c.fr.length + 1) (nextS_ok (n := c.fr.length) hs), hB.ob1, hB.ob2, hB.fr, hB.to, hB.id, ?_, ?_⟩
      · rw [List.length_set]; exact hB.co
      · refine set_rowB hB.row ?_
        rw [List.length_set]
        exact hB.row f (by omega)
    · exact ⟨hs, hB⟩
  split
  · split
    · refine ⟨nextS_ok (n := c.ob + 1) hs, hB.ob1, hB.ob2, hB.fr, ?_, hB.id, hB.co, hB.row⟩
      rw [List.length_set]; exact hB.to
    · exact ⟨hs, hB⟩
  · split
    · refine ⟨hs, hB.ob1, hB.ob2, hB.fr, hB.to, hB.id, ?_, ?_⟩
      · rw [List.length_set]; exact hB.co
      · refine set_rowB hB.row ?_
        have := hB.row f (by omega)
        rw [List.length_drop]; omega
    · exact ⟨hs, hB⟩
theorem bendF_ok (hs : RnOk s) (h : Shape c) : RnOk (bendF s c).2 ∧ CatB (bendF s c).1 := by
  refine bendAt_ok (nextS_ok (nextS_ok hs)) h ?_
  rcases Nat.eq_zero_or_pos c.fr.length with q | q
  · exact .inl q
  · have := nextF_b (n := (c.fr.length : Int)) hs (by omega)
    right; omega
end
section
variable {s : RnS} {c : Cat} {k : Int} {f : Nat}
theorem bend_0 (h : k = 0) : bendAt k f s c = (⟨[c.ob + 1, -1, 9].getD (nextF s 3).toNat 0, c.fr, c.to, c.id, c.co⟩, nextS s 3) := by unfold bendAt; rw [if_pos h]
theorem bend_1 (h : k = 1) : bendAt k f s c = (⟨c.ob, c.fr ++ [0], c.to, c.id, c.co⟩, s) := by subst h; rfl
theorem bend_2 (h : k = 2) (q : 0 < c.id.length) : bendAt k f s c = (⟨c.ob, c.fr, c.to, c.id.set 0 (nextF s (c.fr.length + 1)), c.co⟩, nextS s (c.fr.length + 1)) := by unfold bendAt; rw [if_neg (by omega), if_neg (by omega), if_pos h, if_pos q]
theorem bend_3 (h : k = 3 ∨ k = 4 ∨ k = 5) (q : 0 < c.fr.length) : bendAt k f s c = (⟨c.ob, c.fr, c.to, c.id, c.co.set f ((c.co.getD f []).set (nextF s c.fr.length).toNat (nextF (nextS s c.fr.length) (c.fr.length + 1) - 1))⟩, nextS (nextS s c.fr.length) (c.fr.length + 1)) := by unfold bendAt; rw [if_neg (by omega), if_neg (by omega), if_neg (by omega), if_pos h, if_pos q]
theorem bend_6 (h : k = 6) (q : 0 < c.fr.length) : bendAt k f s c = (⟨c.ob, c.fr, c.to.set f (nextF s (c.ob + 1)), c.id, c.co⟩, nextS s (c.ob + 1)) := by unfold bendAt; rw [if_neg (by omega), if_neg (by omega), if_neg (by omega), if_neg (by omega), if_pos h, if_pos q]
theorem bend_7 (h0 : 0 ≤ k) (h : 6 < k) (q : 0 < c.fr.length) : bendAt k f s c = (⟨c.ob, c.fr, c.to, c.id, c.co.set f ((c.co.getD f []).drop 1)⟩, s) := by unfold bendAt; rw [if_neg (by omega), if_neg (by omega), if_neg (by omega), if_neg (by omega), if_neg (by omega), if_pos q]
theorem bend_no (h : 2 ≤ k) (q : k = 2 ∧ c.id.length = 0 ∨ k ≠ 2 ∧ c.fr.length = 0) : bendAt k f s c = (c, s) := by
  unfold bendAt
  rw [if_neg (by omega), if_neg (by omega)]
  split
  · rw [if_neg (by omega)]
  split
  · rw [if_neg (by omega)]
  split <;> rw [if_neg (by omega)]
theorem bag_at {Z : Zs} {L : List (List Int)} {k : Nat} (z1 : Z.map (·.2) = L) (z3 : ∀ p ∈ Z, p.2 ≠ [] → ∃ g cap, p.1 = .slice (some ⟨g, 0, none⟩) p.2.length cap ∧ p.2.length ≤ cap ∧ cap ≤ maxLen) (hk : k < L.length) (hr : 0 < (L.getD k []).length) :
    ∃ (p : Value × List Int) (a : Addr) (m cap : Nat), Z.getD k p = p ∧ p.2 = L.getD k [] ∧ p.1 = .slice (some a) m cap ∧ 1 ≤ m ∧ m ≤ cap ∧ (rawsV (Z.map (·.1))).at k = .v p.1 ∧ k < Z.length ∧ p.2 ≠ [] ∧ (tailV p.1).oneCell' = true := by
  have hl : k < Z.length := by rw [← z1, List.length_map] at hk; exact hk
  have e1 : Z[k]? = some Z[k] := List.getElem?_eq_getElem hl
  have e2 : (Z[k]).2 = L.getD k [] := by rw [← z1, List.getD_eq_getElem?_getD, List.getElem?_map, e1]; rfl
  have hne : (Z[k]).2 ≠ [] := fun e => by rw [← e2, e] at hr; simp at hr
  obtain ⟨g, cap, q1, q2, q3⟩ := z3 _ (List.getElem_mem hl) hne
  refine ⟨Z[k], ⟨g, 0, none⟩, _, cap, by rw [List.getD_eq_getElem?_getD, e1]; rfl, e2, q1, by rw [e2]; exact hr, q2, ?_, hl, hne, by rw [q1]; rfl⟩
  rw [rawsV_at (by rw [List.length_map]; exact hl) (.bool true), List.getD_eq_getElem?_getD, List.getElem?_map, e1]; rfl
end
theorem cal_l02Bend : Callable Tryz.prog 147 := ⟨_, Tryz.func147, rfl, rfl⟩
theorem sp_l02Bend {s : RnS} {c : Cat} (hs : RnOk s) (h : Shape c) : Spec Tryz.prog 147 [.ptr 0 0, catO 1 c] [(0, srcR s), (1, ⟨1, .arr (ints c.fr)⟩), (2, ⟨1, .arr (ints c.to)⟩), (3, ⟨1, .arr (ints c.id)⟩), (4, ⟨1, .arr (intss c.co)⟩)] (catO 5 (bendF s c).1) [(0, srcR (bendF s c).2), (1, ⟨1, .arr (ints c.fr)⟩), (2, ⟨1, .arr (ints c.to)⟩), (3, ⟨1, .arr (ints c.id)⟩), (4, ⟨1, .arr (intss c.co)⟩), (5, ⟨1, .arr (ints (bendF s c).1.fr)⟩), (6, ⟨1, .arr (ints (bendF s c).1.to)⟩), (7, ⟨1, .arr (ints (bendF s c).1.id)⟩), (8, ⟨1, .arr (rdA (intss (bendF s c).1.co))⟩)] := by
  refine spec_of_V (E := TE) 5 Tryz.func147 rfl (by simp [Tryz.f147]) fun X hn hX => ?_
  have o1 := h.ob0
  have o2 := h.ob8
  have m4 := h.m40
  have tl := h.tol
  have il := h.idl
  have cl := h.col
  have hB := shape_B h
  have ok1 := nextS_ok (n := (c.fr.length : Int)) hs
  have ok2 := nextS_ok (n := 8) ok1
  have hOwn := sp_l02Own hB
  have h1 := sp_l01Next (n := (c.fr.length : Int)) hs
  have h2 := sp_l01Next (n := 8) ok1
  have b1 := fun q : 0 < c.fr.length => nextF_b (n := (c.fr.length : Int)) hs (by omega)
  have b2 := nextF_b (n := 8) ok1 (by decide)
  have eb : bendF s c = bendAt (nextF (nextS s c.fr.length) 8) (nextF s c.fr.length).toNat (nextS (nextS s c.fr.length) 8) c := rfl
  rw [eb]
  clear eb
  have rl : 0 < c.fr.length → (c.co.getD (nextF s c.fr.length).toNat []).length = c.fr.length := fun q => (h.coe _ (by have := b1 q; omega)).1
  generalize nextS (nextS s c.fr.length) 8 = t at ok2 h2 ⊢
  generalize nextF (nextS s c.fr.length) 8 = k at b2 h2 ⊢
  generalize nextS s c.fr.length = t1 at ok1 h1 h2
  generalize nextF s c.fr.length = f at b1 h1 rl ⊢
  have hP : Spec Tryz.prog 75 [.ptr 0 0, .sl 1] [(0, srcR t), (1, ⟨1, .arr (ints [c.ob + 1, -1, 9])⟩)] (iv ([c.ob + 1, -1, 9].getD (nextF t 3).toNat 0)) [(0, srcR (nextS t 3)), (1, ⟨1, .arr (ints [c.ob + 1, -1, 9])⟩)] := sp_l01Pick (l := [c.ob + 1, -1, 9]) ok2 (by simp) (by simp)
  have hC := sp_l01Next (n := (c.fr.length : Int) + 1) ok2
  have hD := sp_l01Next (n := (c.fr.length : Int)) ok2
  have hE := sp_l01Next (n := (c.fr.length : Int) + 1) (nextS_ok (n := (c.fr.length : Int)) ok2)
  have hF := sp_l01Next (n := c.ob + 1) ok2
  have bD := fun q : 0 < c.fr.length => nextF_b (n := (c.fr.length : Int)) ok2 (by omega)
  have bE := nextF_b (n := (c.fr.length : Int) + 1) (nextS_ok (n := (c.fr.length : Int)) ok2) (by omega)
  repeat' (first | ((with_reducible refine (id ?_ : EvCall _ _ [.ptr 0 0, iv (c.fr.length + 1)] _ _)); clear hD; refine EvCall.mq (hC) cal_l01Next [(0,0)] [] ?_; all_goals try simp only [go_sem, simprocAttr]) | ((with_reducible refine (id ?_ : V _ _ (Code.region 6 _ _) _ _)); refine V_bag 10 _ c.co rfl (by decide) rfl ?_; intro Z z1 z2; refine V_bagF 11 _ Z rfl ?_; intro z3; obtain ⟨p, a, m, cap, p1, p2, p3, p4, p5, p6, p7, p8, p9⟩ := bag_at z1 z3 (k := f.toNat) (by omega) (by have := rl (by omega); omega); simp only [go_sem, simprocAttr]) | (rw [p6]; simp only [go_sem, simprocAttr]) | (refine V_at 22 (Imp.tailAb 10 11 _ _ f.toNat Z p rfl rfl (by decide) (by decide) p7 p1 p8 ⟨a, m, cap, p3⟩) ?_; simp only [go_sem, simprocAttr, z1, p2]) | (refine V_at 22 (Imp.closeA 10 11 f.toNat (intss c.co) _ rfl rfl (by decide) (by simp only [go_sem, simprocAttr]; omega)) ?_; simp only [go_sem, simprocAttr]) | (refine V_at 22 (Imp.arrAb 10 _ (intss c.co) rfl rfl) ?_; simp only [go_sem, simprocAttr]) | (refine V_at 22 (Imp.arrAb 10 _ (intss (c.co.set f.toNat ((c.co.getD f.toNat []).set (nextF t c.fr.length).toNat (nextF (nextS t c.fr.length) (c.fr.length + 1) - 1)))) rfl rfl) ?_; simp only [go_sem, simprocAttr]) | (refine V_at 18 (Imp.open_ 10 f.toNat (intss c.co) [] (.inr ⟨rfl, rfl⟩) (Nat.le_refl 1) (by simp only [go_sem, simprocAttr]; omega) rfl (by simp only [go_sem, simprocAttr]) rfl) ?_; simp only [go_sem, simprocAttr]) | with_reducible refine St.f ?_ | ((with_reducible refine V_cond ?_); simp only [go_sem, simprocAttr]) | ((first | refine V_rg ?_ | refine V_dr ?_); intro K hK) | ((first | with_reducible refine So.f ?_ | ((with_reducible apply evOps_g); rfl) | ((with_reducible apply evOpsD_g); rfl)); intro K hK; simp (contextual := true) only [go_sem, simprocAttr]) | ((with_reducible refine evOpsD_nil ?_ ?_); kernel_rfl) | ((with_reducible refine hK _ ?_); clear hK K) | (with_reducible first | refine And.intro ?_ ?_ | refine blk_other (by decide) ?_ | refine inR_mk ?_ ?_) | ((with_reducible refine evCall_at 169 ?_); refine EvCall.mq (hOwn) cal_l02Own [(0,7),(1,8),(2,9),(3,10)] [1,2,3,4] ?_; all_goals try simp only [go_sem, simprocAttr]) | ((with_reducible refine evCall_at 146 ?_); refine EvCall.mq (h1) cal_l01Next [(0,0)] [] ?_; clear h1; all_goals try simp only [go_sem, simprocAttr]) | ((with_reducible refine evCall_at 146 ?_); refine EvCall.mq (h2) cal_l01Next [(0,0)] [] ?_; clear h2; all_goals try simp only [go_sem, simprocAttr]) | ((with_reducible refine (id ?_ : EvCall _ _ [.ptr 0 0,iv (c.ob + 1)] _ _)); refine EvCall.mq (hF) cal_l01Next [(0,0)] [] ?_; all_goals try simp only [go_sem, simprocAttr]) | ((with_reducible refine (id ?_ : EvCall _ _ [.ptr 0 0,iv c.fr.length] _ _)); refine EvCall.mq (hD) cal_l01Next [(0,0)] [] ?_; clear hD; all_goals try simp only [go_sem, simprocAttr]) | ((with_reducible refine (id ?_ : EvCall _ _ [.ptr 0 0,iv (c.fr.length + 1)] _ _)); refine EvCall.mq (hE) cal_l01Next [(0,0)] [] ?_; all_goals try simp only [go_sem, simprocAttr]) | ((with_reducible refine evCall_at 75 ?_); refine EvCall.mq (hP) cal_l01Pick [(0,0),(1,11)] [] ?_; all_goals try simp only [go_sem, simprocAttr]) | (refine hook_tail (k := .i64) (v := p.1) (a := a) (m := m) (cap := cap) (by rfl) (by first | (simp only [go_sem, simprocAttr]; done) | (simp only [go_sem, simprocAttr]; rfl)) p3 p4 p5 (by first | (simp only [go_sem, simprocAttr]; done) | (simp only [go_sem, simprocAttr]; rfl)) ?_; simp only [go_sem, simprocAttr]) | (refine fun (hc : (_ : Bool) = _) => ?_; try simp only [hcS] at hc))
  all_goals try exact om_
  all_goals first
    | rw [bend_0 (by omega)]
    | rw [bend_1 (by omega)]
    | rw [bend_2 (by omega) (by omega)]
    | rw [bend_3 (by omega) (by omega)]
    | rw [bend_6 (by omega) (by omega)]
    | rw [bend_7 (by omega) (by omega) (by omega)]
    | rw [bend_no (by omega) (by omega)]
  all_goals ((first | refine ret_auto ?_ | refine ret_auto' ?_); simp only [go_sem, simprocAttr, Tryz.f147])
end Go.Eng
