/- The engine, part PQ: plain law: the rules of maps between profunctors; links instead of rules. -/
import Derived.Test.YtgbjgeignbjjnaaEngPnq
set_option linter.unusedVariables false
set_option linter.unusedSimpArgs false
namespace Go.Cats
open Go.Eng
def linkR (S : List Nat) (r : Rule) : Link := ⟨r.fr, r.to, r.by_, nums (S.getD r.to.toNat 0)⟩
theorem RulesW.links {S : List Nat} {rs : List Rule} (h : RulesW S rs) : LinksW S (rs.map (linkR S)) := by
  constructor
  all_goals
    intro l hl
    obtain ⟨r, hr, rfl⟩ := List.mem_map.1 hl
  · exact h.fr r hr
  · exact h.to r hr
  · exact h.len r hr
  · simp [linkR, nums_len]
theorem RulesW.same {S : List Nat} {rs : List Rule} (h : RulesW S rs) {Q : List Int} (hQ : Q ∈ lexP S) : okLk (rs.map (linkR S)) Q = okW rs Q := by
  obtain ⟨q1, q2⟩ := mem_lexP.1 hQ
  unfold okLk okW
  rw [List.all_map]
  refine Bool.eq_iff_iff.2 ?_
  simp only [List.all_eq_true, Function.comp]
  refine ⟨fun k r hr => ?_, fun k r hr => ?_⟩
  all_goals
    have k1 := k r hr
    have f1 := h.fr r hr
    have f2 := h.to r hr
    have b2 := q2 r.to.toNat (by omega)
    have e1 : (nums (S.getD r.to.toNat 0)).getD (Q.getD r.to.toNat 0).toNat 0 = Q.getD r.to.toNat 0 := by rw [nums_at (by omega)]; omega
    have k2 := of_decide_eq_true k1
    refine decide_eq_true ?_
    simp only [linkR] at k2 ⊢
    rw [e1] at *
    exact k2.symm
theorem RulesW.ext {S : List Nat} {rs : List Rule} (h : RulesW S rs) (A : List Int) : extW (okLk (rs.map (linkR S))) S A = extW (okW rs) S A := by
  unfold extW
  refine List.filter_congr fun Q hQ => ?_
  rw [h.same hQ]
section
variable {α : Type} {g : Nat → Nat → Nat → α} {len : Nat → Nat → Nat} {n m a y e : Nat} {r : α}
def gE (g : Nat → Nat → Nat → α) (a y e : Nat) : List α := (List.range e).map (g a y)
def gR (g : Nat → Nat → Nat → α) (len : Nat → Nat → Nat) (a y : Nat) : List α := coll y fun y => gE g a y (len a y)
def gP (g : Nat → Nat → Nat → α) (len : Nat → Nat → Nat) (n a y : Nat) : List α := coll a (fun a => gR g len a n) ++ gR g len a y
theorem gE_zero : gE g a y 0 = [] := rfl
theorem gE_succ : gE g a y (e + 1) = gE g a y e ++ [g a y e] := by unfold gE; rw [List.range_succ, List.map_append, List.map_singleton]
theorem gE_len : (gE g a y e).length = e := by unfold gE; rw [List.length_map, List.length_range]
theorem gP_zero : gP g len n 0 0 = [] := rfl
theorem gP_succ : gP g len n a (y + 1) = gP g len n a y ++ gE g a y (len a y) := by unfold gP gR; rw [coll_succ, List.append_assoc]
theorem gP_next : gP g len n (a + 1) 0 = gP g len n a n := by unfold gP; rw [coll_succ, gR, gR, coll_zero, List.append_nil]
theorem gR_len (h : ∀ y, y < n → len a y ≤ 64) (hy : y ≤ n) : (gR g len a y).length ≤ y * 64 := coll_length_le fun i hi => by rw [gE_len]; exact h i (by omega)
theorem gP_len (h : ∀ a, a < m → ∀ y, y < n → len a y ≤ 64) (h8 : n ≤ 8) (hm : m ≤ 40) (ha : a < m) (hy : y ≤ n) : (gP g len n a y).length ≤ 20992 := by
  unfold gP
  rw [List.length_append]
  have h1 := gR_len (g := g) (h a ha) hy
  have h2 : (coll a fun a => gR g len a n).length ≤ a * 512 := coll_length_le fun i hi => Nat.le_trans (gR_len (g := g) (h i (by omega)) (Nat.le_refl n)) (by omega)
  omega
theorem gA_len (h : ∀ a, a < m → ∀ y, y < n → len a y ≤ 64) (h8 : n ≤ 8) (hm : m ≤ 40) : (gP g len n m 0).length ≤ 20992 := by
  unfold gP
  rw [List.length_append]
  have h2 : (coll m fun a => gR g len a n).length ≤ m * 512 := coll_length_le fun i hi => Nat.le_trans (gR_len (g := g) (h i (by omega)) (Nat.le_refl n)) (by omega)
  have h3 : (gR g len m 0).length = 0 := rfl
  omega
theorem mem_gA : r ∈ gP g len n m 0 ↔ ∃ a y e, a < m ∧ y < n ∧ e < len a y ∧ r = g a y e := by
  unfold gP
  rw [show gR g len m 0 = [] from rfl, List.append_nil, mem_coll]
  constructor
  · rintro ⟨a, ha, h⟩
    obtain ⟨y, hy, h⟩ := mem_coll.1 h
    obtain ⟨e, he, rfl⟩ := List.mem_map.1 h
    exact ⟨a, y, e, ha, hy, List.mem_range.1 he, rfl⟩
  · rintro ⟨a, y, e, ha, hy, he, rfl⟩
    exact ⟨a, ha, mem_coll.2 ⟨y, hy, List.mem_map.2 ⟨e, List.mem_range.2 he, rfl⟩⟩⟩
theorem gA_map {β : Type} (f : α → β) : (gP g len n m 0).map f = gP (fun a y e => f (g a y e)) len n m 0 := by
  unfold gP gR gE coll
  simp [List.map_flatMap, Function.comp_def]
end
end Go.Cats
