/- Several texts in one: G05, G06. -/
import Derived.Test.YtbflkfamigcncaaGreatKgx
set_option linter.unusedSimpArgs false
set_option linter.unusedVariables false
set_option maxRecDepth 100000
set_option maxHeartbeats 8000000
section
namespace Go.Eng
open Go Go.Proofs Go.Cats
@[go_sem] theorem marks_zero (k : Int) : marks k 0 = [] := rfl
theorem sumLen_nil : sumLen [] = 0 := rfl
attribute [go_sem] sumLen_nil Int.add_zero Int.sub_zero Int.natCast_zero Int.ofNat_zero List.take_zero List.drop_zero
structure CatL (c : Cat) : Prop where
  fr : (c.fr.length : Int) ≤ 9223372036854775807
  to : (c.to.length : Int) ≤ 9223372036854775807
  id : (c.id.length : Int) ≤ 9223372036854775807
  co : (c.co.length : Int) ≤ 9223372036854775807
  row : ∀ f, f < c.co.length → ((c.co.getD f []).length : Int) ≤ 9223372036854775807
def catSz (c : Cat) : Nat := c.fr.length + c.to.length + c.id.length + (c.co.length + sumLen c.co)
end Go.Eng
end
section
namespace Go.Eng
open Go Go.Proofs Go.Cats
end Go.Eng
end
