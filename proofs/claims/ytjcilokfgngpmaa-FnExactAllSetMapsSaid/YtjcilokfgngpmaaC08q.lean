/- Comma categories by the program: the arrows between two objects, all arrows. -/
import Derived.Test.YtjcilokfgngpmaaC04q
import Derived.Test.YtjcilokfgngpmaaKex
import Derived.Test.YtjcilokfgngpmaaC09q
set_option linter.unusedSimpArgs false
set_option linter.unusedVariables false
set_option maxRecDepth 100000
set_option maxHeartbeats 16000000
namespace Go.Eng
open Go Go.Proofs Go.Cats

attribute [local go_sem] cA_zero cmK
@[go_sem] theorem one_nil_c8 : (Value.slice none 0 0).oneCell' = true := rfl
@[go_sem] theorem one_ptr_c8 : (Value.pointer none).oneCell' = true := rfl
attribute [local go_sem] cmL idML cmI
end Go.Eng
