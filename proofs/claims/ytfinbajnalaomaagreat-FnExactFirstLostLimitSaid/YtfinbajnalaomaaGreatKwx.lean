/- Several texts in one: R12, R13. -/
import Derived.Test.YtfinbajnalaomaaGreatKasx
import Derived.Test.YtfinbajnalaomaaGreatR01q
import Derived.Test.YtfinbajnalaomaaGreatKsx
import Derived.Test.YtfinbajnalaomaaGreatKzx
set_option linter.unusedSimpArgs false
set_option linter.unusedVariables false
set_option maxRecDepth 100000
set_option maxHeartbeats 16000000
section
namespace Go.Eng
open Go Go.Proofs Go.Cats
theorem cmp_none (d : Cat) (s t : List Int) : (cmpL d s t).take 0 ++ List.replicate (s.length - 0) 0 = List.replicate s.length 0 := by
  rw [List.take_zero, Nat.sub_zero, List.nil_append]
attribute [local go_sem] List.set_cons_zero List.set_cons_succ cmp_none
section
variable {A : List (List Int)}
end
structure TwoA (d : Cat) (A : List (List Int)) (a b : Nat) : Prop where
  a1 : a < A.length
  b1 : b < A.length
  la : 2 ≤ (A.getD a []).length
  l6 : (A.getD a []).length ≤ 60
  lb : (A.getD b []).length = (A.getD a []).length
  wa : Within ((A.getD a []).drop 2) d.fr.length
  wb : Within ((A.getD b []).drop 2) d.fr.length
  mem : fcC d (A.getD a []) (A.getD b []) ∈ A
end Go.Eng
end
section
namespace Go.Eng
open Go Go.Proofs Go.Cats
attribute [local go_sem] List.set_cons_zero List.set_cons_succ
end Go.Eng
end
