/- Comma categories by the program: too many arrows; too many objects. -/
import Derived.Test.YtjcilokfgngpmaaC08q
set_option linter.unusedSimpArgs false
set_option linter.unusedVariables false
set_option maxRecDepth 100000
set_option maxHeartbeats 16000000
namespace Go.Eng
open Go Go.Proofs Go.Cats

attribute [local go_sem] cmK cmL

end Go.Eng
