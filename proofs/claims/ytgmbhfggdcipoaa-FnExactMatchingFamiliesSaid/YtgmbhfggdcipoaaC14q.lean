/- The comma category by the program: its places, its identities, its composites. -/
import Derived.Test.YtgmbhfggdcipoaaKmx
import Derived.Test.YtgmbhfggdcipoaaKix
import Derived.Test.YtgmbhfggdcipoaaC07q
set_option linter.unusedSimpArgs false
set_option linter.unusedVariables false
set_option maxRecDepth 100000
set_option maxHeartbeats 16000000
namespace Go.Eng
open Go Go.Proofs Go.Cats

/-- A comma, as it is lent. -/
def comD (f e : Fun) (O A : List (List Int)) : List Dt := [.pt (funD f), .pt (funD e), intss O, intss A]
section
variable {f e : Fun} {O A : List (List Int)} {ts : List (Nat × Nat)}
@[go_sem] theorem comD_0 : (comD f e O A).take 1 = [.pt (funD f)] := rfl
@[go_sem] theorem comD_1 : ((comD f e O A).drop 1).take 1 = [.pt (funD e)] := rfl
@[go_sem] theorem comD_2 : ((comD f e O A).drop 2).take 1 = [intss O] := rfl
@[go_sem] theorem comD_3 : ((comD f e O A).drop 3).take 1 = [intss A] := rfl
@[go_sem] theorem comD_l : (comD f e O A).length = 4 := rfl
@[go_sem] theorem comD_a : (comD f e O A).take 4 = comD f e O A := rfl
end
/-- The key of a list; the places of the first lists. -/
def kL (r : List Int) : Lit := .string (keyS [r]).data.toList
def pm (A : List (List Int)) : Nat → DataW Unit
  | 0 => .map []
  | i + 1 => (pm A i).put (kL (A.getD i [])) (.lit (.int .i64 i))
/-- Lists of bytes, none of them twice. -/
structure KeyOK (A : List (List Int)) : Prop where
  b : ∀ r ∈ A, ∀ x ∈ r, 0 ≤ x ∧ x < 256
  nd : A.Nodup
/-- A list that is filled from its head on. -/
def flS (n : Nat) (F : Nat → Int) (i : Nat) : List Int := tb i F ++ List.replicate (n - i) 0
theorem flS_zero (n : Nat) (F : Nat → Int) : flS n F 0 = List.replicate n 0 := by simp [flS, tb_zero]
/-- What the closure has captured. -/
noncomputable def cmLC (f e : Fun) : LC := ⟨[.bptr [] [.pt (comD f e (cObj f e) (cmA f e))], .bptr [] [mapD Try.prog 9 2 (cmA f e).length (pm (cmA f e) (cmA f e).length)], .bptr [] [.pt (catD f.src)], .bptr [] [.pt (catD e.src)]], rfl⟩
@[go_sem] theorem cmLC_l (f e : Fun) : (cmLC f e).l = [.bptr [] [.pt (comD f e (cObj f e) (cmA f e))], .bptr [] [mapD Try.prog 9 2 (cmA f e).length (pm (cmA f e) (cmA f e).length)], .bptr [] [.pt (catD f.src)], .bptr [] [.pt (catD e.src)]] := rfl
@[go_sem] theorem pm_zero (A : List (List Int)) : pm A 0 = .map [] := rfl
attribute [local go_sem] colN_zero flS_zero
end Go.Eng
