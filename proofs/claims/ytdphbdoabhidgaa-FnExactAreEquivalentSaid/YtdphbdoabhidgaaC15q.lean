/- The comma category of two functors, by the program: the code, the answer. -/
import Derived.Test.YtdphbdoabhidgaaKdx
import Derived.Test.YtdphbdoabhidgaaKix
import Derived.Test.YtdphbdoabhidgaaC14q
set_option linter.unusedSimpArgs false
set_option linter.unusedVariables false
set_option maxRecDepth 100000
set_option maxHeartbeats 16000000
namespace Go.Eng
open Go Go.Proofs Go.Cats
attribute [local go_sem] one_nil_c8 one_ptr_c8
end Go.Eng
