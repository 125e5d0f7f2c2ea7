/- The reference's comma categories: objects, columns, arrows. -/
import Derived.Test.YtjcilokfgngpmaaKmx
import Derived.Test.YtjcilokfgngpmaaC01q
import Derived.Test.YtjcilokfgngpmaaG11q
set_option linter.unusedSimpArgs false
set_option linter.unusedVariables false
set_option maxRecDepth 100000
set_option maxHeartbeats 8000000
namespace Go.Eng
open Go Go.Proofs Go.Cats
attribute [local go_sem] cO_zero colN_zero colN_len cA_zero

end Go.Eng
