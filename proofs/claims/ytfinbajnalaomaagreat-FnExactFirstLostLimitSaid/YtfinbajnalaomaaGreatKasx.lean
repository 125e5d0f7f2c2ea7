/- Plain law: functor categories: the list of their arrows, that identities and composites are in it, that none is in it twice. -/
import Derived.Test.YtfinbajnalaomaaGreatKux
set_option linter.unusedSimpArgs false
set_option linter.unusedVariables false
namespace Go.Cats
open Go.Eng
def FL (c d : Cat) (L : List Fun) : Prop := ∀ i, i < L.length → (L.getD i default).src = c ∧ (L.getD i default).tgt = d ∧ Fits (L.getD i default)
theorem Fun.eta {f : Fun} {c d : Cat} (h1 : f.src = c) (h2 : f.tgt = d) : (⟨c, d, f.obs, f.ars⟩ : Fun) = f := by subst h1; subst h2; rfl
theorem FL.of_funX {c d : Cat} {r : Nat} {X : List Int} : FL c d (funX c d false r X) := fun i hi => by
  have hm := mem_funX (getD_mem (d := default) hi)
  obtain ⟨h1, h2, _, h4⟩ := hm
  have h5 := (WA_iff.1 h4).1
  rw [Fun.eta h1 h2] at h5
  exact ⟨h1, h2, h5⟩
theorem mem_natA {f g : Fun} {t : List Int} : t ∈ natA f g ↔ t.length = f.src.ob.toNat ∧ NatP f g t := by
  unfold natA natX
  rw [mem_extW, natW_iff, mem_lexP, sN_len]
  constructor
  · rintro ⟨⟨h1, _⟩, _, h3⟩; exact ⟨h1, h3⟩
  · rintro ⟨h1, h3⟩
    refine ⟨⟨h1, fun i hi => ?_⟩, contB_iff.2 ⟨by simp [h1], fun j hj h0 => ?_⟩, h3⟩
    · have := Cat.mem_hom.1 (h3.end_ i hi)
      rw [sN_getD (by omega)]
      exact ⟨this.1, this.2.1⟩
    · rw [List.nil_append] at h0 hj
      rw [List.length_replicate] at hj
      rw [rp_getD, if_pos hj] at h0
      omega
/-! ### The arrows -/
noncomputable def fcE (L : List Fun) (i j : Nat) : List (List Int) := (natA (L.getD i default) (L.getD j default)).map fun t => (i : Int) :: (j : Int) :: t
noncomputable def fcR (L : List Fun) (i j : Nat) : List (List Int) := coll j fun j => fcE L i j
noncomputable def fcP (L : List Fun) (i j : Nat) : List (List Int) := coll i (fun i => fcR L i L.length) ++ fcR L i j
noncomputable def fcA (L : List Fun) : List (List Int) := fcP L L.length 0
section
variable {c d : Cat} {L : List Fun} {i j : Nat} {r t s : List Int}
theorem fcP_zero : fcP L 0 0 = [] := rfl
theorem fcA_eq : fcA L = coll L.length fun i => fcR L i L.length := by
  unfold fcA fcP fcR; rw [coll_zero, List.append_nil]
theorem coll_pre {α : Type} {n i : Nat} {f : Nat → List α} (h : i ≤ n) : ∃ r, coll n f = coll i f ++ r := by
  induction n with
  | zero => exact ⟨[], by rw [List.append_nil, show i = 0 by omega]⟩
  | succ n ih =>
    by_cases e : i = n + 1
    · subst e; exact ⟨[], by rw [List.append_nil]⟩
    · obtain ⟨r, hr⟩ := ih (by omega)
      exact ⟨r ++ f n, by rw [coll_succ, hr, List.append_assoc]⟩
structure ArrF (c d : Cat) (L : List Fun) (r : List Int) : Prop where
  len : r.length = c.ob.toNat + 2
  i0 : 0 ≤ r.getD 0 0
  i1 : (r.getD 0 0).toNat < L.length
  j0 : 0 ≤ r.getD 1 0
  j1 : (r.getD 1 0).toNat < L.length
  nat : r.drop 2 ∈ natA (L.getD (r.getD 0 0).toNat default) (L.getD (r.getD 1 0).toNat default)
/-! ### Identities and composites -/
def cmpL (d : Cat) (s t : List Int) : List Int := (List.range s.length).map fun x => d.C (s.getD x 0) (t.getD x 0)
def unitL (f : Fun) : List Int := f.obs.map fun y => f.tgt.id.getD y.toNat 0
theorem fit_obj {f : Fun} (hf : Fits f) {x : Int} (h0 : 0 ≤ x) (h1 : x < f.src.ob) : 0 ≤ f.O x ∧ f.O x < f.tgt.ob := by
  have := hf.obl
  have := hf.obw x.toNat (by omega)
  exact this
theorem fit_hom {f : Fun} (sc : Shape f.src) (hf : Fits f) {a : Nat} (ha : a < f.src.fr.length) : f.ars.getD a 0 ∈ f.tgt.hom (f.O (f.src.fr.getD a 0)) (f.O (f.src.to.getD a 0)) := by
  have h1 := hf.arl
  have h2 := hf.arw a (by omega)
  have h3 := hf.endf a (by omega)
  exact Cat.mem_hom.2 ⟨h2.1, h2.2, h3.1, h3.2⟩
def fcI (L : List Fun) (i : Nat) : List Int := (i : Int) :: (i : Int) :: unitL (L.getD i default)
def fcC (d : Cat) (a b : List Int) : List Int := a.getD 0 0 :: b.getD 1 0 :: cmpL d (a.drop 2) (b.drop 2)
/-! ### The category -/
noncomputable def fcN (d : Cat) (L : List Fun) (A : List (List Int)) (m n : Nat) : Cat :=
  ⟨L.length, (A.take n).map fun r => r.getD 0 0, (A.take n).map fun r => r.getD 1 0, (List.range m).map fun i => fnd A (fcI L i),
    (List.range n).map fun a => (List.range A.length).map fun b => if (A.getD a []).getD 1 0 = (A.getD b []).getD 0 0 then fnd A (fcC d (A.getD a []) (A.getD b [])) else -1⟩
noncomputable def fcK (d : Cat) (L : List Fun) : Cat := fcN d L (fcA L) L.length (fcA L).length
end
end Go.Cats
