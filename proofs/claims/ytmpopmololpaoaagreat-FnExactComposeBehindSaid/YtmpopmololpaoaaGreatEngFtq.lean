/- The engine, part FT: a functor is taken out of a list of one. -/
import Derived.Test.YtmpopmololpaoaaGreatKux
set_option linter.unusedVariables false
set_option linter.unusedSimpArgs false
namespace Go.Eng
open Go Go.Cats
section
variable {E : Env} {dst : Option Nat} {σ : Ss} {K : Ss → Prop}
end
end Go.Eng
