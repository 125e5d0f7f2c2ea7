/- The engine, part SC: the head of a list is lent; a list is copied over another one of the same length. -/
import Derived.Test.YtbflkfamigcncaaGreatKex
import Derived.Laws.CopyRow
set_option linter.unusedVariables false
set_option linter.unusedSimpArgs false
namespace Go.Eng
open Go
section
variable {E : Env} {d : Option Nat} {σ : Ss} {K : Ss → Prop}
end
end Go.Eng
