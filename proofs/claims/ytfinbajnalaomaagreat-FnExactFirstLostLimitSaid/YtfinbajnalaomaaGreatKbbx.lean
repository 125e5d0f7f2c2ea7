/- Several texts in one: R14, R11, R15. -/
import Derived.Test.YtfinbajnalaomaaGreatKwx
import Derived.Test.YtfinbajnalaomaaGreatKbcx
import Derived.Test.YtfinbajnalaomaaGreatKamx
set_option linter.unusedSimpArgs false
set_option linter.unusedVariables false
set_option maxRecDepth 100000
set_option maxHeartbeats 16000000
section
namespace Go.Eng
open Go Go.Proofs Go.Cats
noncomputable def fcL (c d : Cat) : List Fun := funX c d false c.ob.toNat []
def FcY (c d : Cat) : Prop := MovP c d ∧ (fcL c d).length ≤ 8 ∧ (fcA (fcL c d)).length ≤ 40
def col0 (A : List (List Int)) : List Int := A.map fun r => r.getD 0 0
def col1 (A : List (List Int)) : List Int := A.map fun r => r.getD 1 0
theorem col0_nil : col0 [] = [] := rfl
theorem col1_nil : col1 [] = [] := rfl
noncomputable def idsL (A : List (List Int)) (L : List Fun) (i : Nat) : List Int := ((List.range i).map fun i => fnd A (fcI L i)) ++ List.replicate (L.length - i) 0
theorem idsL_zero (A L) : idsL A L 0 = List.replicate L.length 0 := rfl
theorem Imp.kill {X : Cx} {σ : Ss} (k : Nat) {j : Nat} (h : lk σ.tm k = .sl j) : Imp X σ ⟨(k, .dead) :: σ.tm, σ.rs, σ.nx⟩ := by
  rintro w1 U1 dfs a w ⟨hd, hn, c, hp, ht, hpin⟩
  refine ⟨hd, hn, c, hp, fun s => ?_, hpin⟩
  show Sv.ok w X.S c (rsL σ.rs) (lk ((k, _) :: σ.tm) s) _
  simp only [lk]
  split
  · simp [Sv.ok]
  · exact ht s
attribute [local go_sem] List.set_cons_zero List.set_cons_succ col0_nil col1_nil idsL_zero fcP_zero
end Go.Eng
end
section
namespace Go.Eng
open Go Go.Proofs Go.Cats
theorem cmpT_zero (d : Cat) (s t : List Int) : (cmpL d s t).take 0 = [] := List.take_zero
attribute [local go_sem] cmpT_zero
end Go.Eng
end
section
namespace Go.Eng
open Go Go.Proofs Go.Cats
noncomputable def rowF (d : Cat) (A : List (List Int)) (a b : Nat) : List Int := (List.range b).map fun b => if (A.getD a []).getD 1 0 = (A.getD b []).getD 0 0 then fnd A (fcC d (A.getD a []) (A.getD b [])) else -1
noncomputable def rowsF (d : Cat) (A : List (List Int)) (a : Nat) : List (List Int) := (List.range a).map fun a => rowF d A a A.length
theorem rowF_zero (d A a) : rowF d A a 0 = [] := rfl
theorem rowsF_zero (d A) : rowsF d A 0 = [] := rfl
theorem rowF_no {d : Cat} {A : List (List Int)} {a b : Nat} (h : ¬ (A.getD a []).getD 1 0 = (A.getD b []).getD 0 0) : rowF d A a (b + 1) = rowF d A a b ++ [-1] := by
  unfold rowF; rw [List.range_succ, List.map_append, List.map_singleton, if_neg h]
noncomputable def idF (A : List (List Int)) (L : List Fun) (i : Nat) : List Int := (List.range i).map fun i => fnd A (fcI L i)
theorem idF_zero (A L) : idF A L 0 = [] := rfl
theorem ckF_zero {A : List (List Int)} {h : List Int → Int} : (A.take 0).map h = [] := rfl
attribute [local go_sem] List.set_cons_zero List.set_cons_succ rowF_zero rowsF_zero idF_zero fcP_zero ckF_zero
end Go.Eng
end
