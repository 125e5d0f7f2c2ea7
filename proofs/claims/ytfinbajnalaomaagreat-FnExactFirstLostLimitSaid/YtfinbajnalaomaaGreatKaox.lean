/- Several texts in one: U03, U04, U05. -/
import Derived.Test.YtfinbajnalaomaaGreatKaqx
import Derived.Test.YtfinbajnalaomaaGreatKaex
set_option linter.unusedSimpArgs false
set_option linter.unusedVariables false
set_option maxRecDepth 100000
set_option maxHeartbeats 16000000
section
namespace Go.Cats
open Go.Eng
structure EndF (c : Cat) (f : Fun) : Prop where
  sc : IsCat c
  es : f.src = c
  et : f.tgt = c
  fit : Fits f
def LawX (c : Cat) (f : Fun) (u j : List Int) (x : Nat) : Prop :=
  c.C (f.ars.getD (u.getD x 0).toNat 0) (j.getD x 0) = c.I (f.obs.getD x 0) ∧ c.C (u.getD (f.obs.getD x 0).toNat 0) (j.getD x 0) = c.I (f.obs.getD x 0) ∧ c.C (f.ars.getD (j.getD x 0).toNat 0) (j.getD x 0) = c.C (j.getD (f.obs.getD x 0).toNat 0) (j.getD x 0)
def LawP (c : Cat) (f : Fun) (u j : List Int) : Prop := ∀ x, x < c.ob.toNat → LawX c f u j x
noncomputable def unitsL (c : Cat) (f : Fun) : List (List Int) := natA (selfF c) f
noncomputable def joinsL (f : Fun) : List (List Int) := natA (thF f f) f
noncomputable def moJ (c : Cat) (f : Fun) (J : List (List Int)) (u : List Int) (k : Nat) : List Mon := ((J.take k).filter fun j => dec (LawP c f u j)).map fun j => ⟨f, u, j⟩
noncomputable def moU (c : Cat) (f : Fun) (U J : List (List Int)) (i k : Nat) : List Mon := (coll i fun i => moJ c f J (U.getD i []) J.length) ++ moJ c f J (U.getD i []) k
noncomputable def moF (c : Cat) (f : Fun) : List Mon := moU c f (unitsL c f) (joinsL f) (unitsL c f).length 0
noncomputable def moA (c : Cat) (L : List Fun) (i : Nat) : List Mon := coll i fun i => moF c (L.getD i default)
section
variable {c : Cat} {f : Fun} {U J : List (List Int)} {u j : List Int} {i k x : Nat} {L : List Fun}
theorem moU_zero : moU c f U J 0 0 = [] := rfl
theorem moA_zero : moA c L 0 = [] := rfl
theorem moA_succ : moA c L (i + 1) = moA c L i ++ moF c (L.getD i default) := by unfold moA; rw [coll_succ]
structure MoX (c : Cat) (f : Fun) (u j : List Int) (x : Nat) : Prop where
  y0 : 0 ≤ f.obs.getD x 0
  y1 : f.obs.getD x 0 < c.ob
  u0 : 0 ≤ u.getD x 0 ∧ u.getD x 0 < c.fr.length
  fu : 0 ≤ f.ars.getD (u.getD x 0).toNat 0 ∧ f.ars.getD (u.getD x 0).toNat 0 < c.fr.length
  jx : 0 ≤ j.getD x 0 ∧ j.getD x 0 < c.fr.length
  uy : 0 ≤ u.getD (f.obs.getD x 0).toNat 0 ∧ u.getD (f.obs.getD x 0).toNat 0 < c.fr.length
  fj : 0 ≤ f.ars.getD (j.getD x 0).toNat 0 ∧ f.ars.getD (j.getD x 0).toNat 0 < c.fr.length
  jy : 0 ≤ j.getD (f.obs.getD x 0).toNat 0 ∧ j.getD (f.obs.getD x 0).toNat 0 < c.fr.length
  c1 : c.C (f.ars.getD (u.getD x 0).toNat 0) (j.getD x 0) ∈ c.hom (f.obs.getD x 0) (f.obs.getD x 0)
  c2 : c.C (u.getD (f.obs.getD x 0).toNat 0) (j.getD x 0) ∈ c.hom (f.obs.getD x 0) (f.obs.getD x 0)
end
def MoOK (c : Cat) (L : List Fun) (i : Nat) : Prop := (∀ k, k < i → (unitsL c (L.getD k default)).length ≤ 200 ∧ (joinsL (L.getD k default)).length ≤ 200) ∧ (moA c L i).length ≤ 200
def MoOut (c : Cat) (F : List Mon) (code : Int) : Prop :=
  (¬ IsCat c ∧ F = [] ∧ code = 1) ∨ (IsCat c ∧ ((¬ (c.fr.length ≤ 6 ∧ (fcL c c).length ≤ 200 ∧ MoOK c (fcL c c) (fcL c c).length) ∧ F = [] ∧ code = 3) ∨ ((c.fr.length ≤ 6 ∧ (fcL c c).length ≤ 200 ∧ MoOK c (fcL c c) (fcL c c).length) ∧ F = moA c (fcL c c) (fcL c c).length ∧ code = 0)))
end Go.Cats
end
section
namespace Go.Eng
open Go Go.Proofs Go.Cats
end Go.Eng
end
section
namespace Go.Eng
open Go Go.Proofs Go.Cats
end Go.Eng
end
