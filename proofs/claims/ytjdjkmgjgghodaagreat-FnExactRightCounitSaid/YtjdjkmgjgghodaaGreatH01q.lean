/- Functions of the program: natural maps. -/
import Derived.Test.YtjdjkmgjgghodaaGreatKdx
import Derived.Test.YtjdjkmgjgghodaaGreatG07q
set_option linter.unusedSimpArgs false
set_option linter.unusedVariables false
set_option maxRecDepth 100000
set_option maxHeartbeats 8000000
namespace Go.Eng
open Go Go.Proofs Go.Cats
def smS (ts : List (Nat × Nat)) (m : SM) : List Sv := sfS ts m.src ++ sfS ts m.tgt ++ [.bor ts (intss m.parts)]
abbrev smV (m : SM) : Sv := .agg (smS [] m)
section
variable (m : SM) (ts : List (Nat × Nat))
attribute [go_sem] smS
end
end Go.Eng
