/- Sieves: what is checked, by the program and by the reference. -/
import Derived.Test.YtgbjgeignbjjnaaA01q
import Derived.Test.YtgbjgeignbjjnaaB04q
set_option linter.unusedSimpArgs false
set_option linter.unusedVariables false
set_option maxRecDepth 100000
set_option maxHeartbeats 16000000
namespace Go.Eng
open Go Go.Proofs Go.Cats
end Go.Eng
