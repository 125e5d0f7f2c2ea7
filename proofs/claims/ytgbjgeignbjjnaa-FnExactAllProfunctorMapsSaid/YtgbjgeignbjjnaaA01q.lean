/- The search of natural maps: small functions of the program and of the reference. -/
import Derived.Test.YtgbjgeignbjjnaaC02q
import Derived.Test.YtgbjgeignbjjnaaG11q
set_option linter.unusedSimpArgs false
set_option linter.unusedVariables false
set_option maxRecDepth 100000
set_option maxHeartbeats 8000000
namespace Go.Eng
open Go Go.Proofs Go.Cats
attribute [go_sem] outI_zero sumI_zero
theorem cal_repeated : Callable Try.prog 47 := ⟨_, Try.func47, rfl, rfl⟩
end Go.Eng
