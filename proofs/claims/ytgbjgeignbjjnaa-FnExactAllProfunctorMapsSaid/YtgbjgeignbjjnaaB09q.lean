/- Matching families: all of them, up to a number, by the program and by the reference. -/
import Derived.Test.YtgbjgeignbjjnaaB03q
import Derived.Test.YtgbjgeignbjjnaaB08q
set_option linter.unusedSimpArgs false
set_option linter.unusedVariables false
set_option maxRecDepth 100000
set_option maxHeartbeats 16000000
namespace Go.Eng
open Go Go.Proofs Go.Cats
theorem rvsT_nil {A : List (List Int)} {xs : List RawV} : rvsT A xs [] = [] := rfl
attribute [local go_sem] famS_zero famT_zero rvsT_nil
end Go.Eng
