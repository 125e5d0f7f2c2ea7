/- Several texts in one: R18, R19. -/
import Derived.Test.YtmpopmololpaoaaGreatKabx
set_option linter.unusedSimpArgs false
set_option linter.unusedVariables false
set_option maxRecDepth 100000
set_option maxHeartbeats 16000000
section
namespace Go.Eng
open Go Go.Proofs Go.Cats
def kO (p q : List Int) : Lit:=.string (keyS [p,q]).data.toList
def pmO (L : List Fun) : Nat → DataW Unit
  | 0=>.map []
  | i + 1=>(pmO L i).put (kO (L.getD i default).obs (L.getD i default).ars) (.lit (.int .i64 i))
theorem pmO_zero (L : List Fun) : pmO L 0 = .map []:=rfl
structure ObOK (L : List Fun) (p q : List Int) (i : Nat) : Prop where
  n8 : L.length ≤ 8
  lt : i < L.length
  ol : ∀ j,j < L.length → (L.getD j default).obs.length = p.length
  ob : ∀ j,j < L.length → ∀ x ∈ (L.getD j default).obs,0 ≤ x ∧ x < 256
  ar : ∀ j,j < L.length → ∀ x ∈ (L.getD j default).ars,0 ≤ x ∧ x < 256
  al : ∀ j,j < L.length → (L.getD j default).ars.length ≤ 64
  pl : p.length ≤ 64
  po : (L.getD i default).obs = p
  qo : (L.getD i default).ars = q
  un : ∀ j,j < L.length → (L.getD j default).obs = p → (L.getD j default).ars = q → j = i
attribute [local go_sem] List.set_cons_zero List.set_cons_succ pmO_zero
end Go.Eng
end
section
namespace Go.Eng
open Go Go.Proofs Go.Cats
open Classical in
noncomputable def fcAt (L : List Fun) (p q : List Int) : Nat:=if h : ∃ i,i < L.length ∧ (L.getD i default).obs = p ∧ (L.getD i default).ars = q then h.choose else 0
end Go.Eng
end
