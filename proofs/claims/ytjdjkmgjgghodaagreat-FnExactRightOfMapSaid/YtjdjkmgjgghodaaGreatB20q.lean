/- Counits of right extensions by the program; by the reference. -/
import Derived.Test.YtjdjkmgjgghodaaGreatKdx
import Derived.Test.YtjdjkmgjgghodaaGreatB18q
import Derived.Test.YtjdjkmgjgghodaaGreatB19q
set_option linter.unusedSimpArgs false
set_option linter.unusedVariables false
set_option maxRecDepth 100000
set_option maxHeartbeats 16000000
namespace Go.Eng
open Go Go.Proofs Go.Cats
theorem exF_shape {k : Fun} {f : SF} : (exF k f).shape = k.tgt := rfl
theorem alF_shape {k : Fun} {g : SF} : (alF k g).shape = k.src := rfl
attribute [local go_sem] exF_shape alF_shape alSz_zero alAc_zero cuR_zero one_nilSl5 List.getD_cons_zero List.getD_cons_succ List.set_cons_zero List.set_cons_succ goneL
end Go.Eng
