/- Comma categories by the program: more arrows or objects than the limits let by. -/
import Derived.Test.YtjcilokfgngpmaaC12q
set_option linter.unusedSimpArgs false
set_option linter.unusedVariables false
set_option maxRecDepth 100000
set_option maxHeartbeats 16000000
namespace Go.Eng
open Go Go.Proofs Go.Cats
attribute [local go_sem] cA_zero cmK cmL idML cmI

end Go.Eng
