/- The engine, part SO: scopes that are gone through without a jump, labels; the greater of two numbers; the rest of a list behind its first entries. -/
import Derived.Test.YtbflkfamigcncaaGreatKux
import Derived.Scope
import Derived.Laws.Small
set_option linter.unusedVariables false
set_option linter.unusedSimpArgs false
namespace Go.Eng
open Go
section
variable {P:Program} {b:Frame} {a:Act} {k:List Item} {cs:List Frame} {w:World} {Q:Exit→Act→World→Prop}
end
section
variable {X:Cx} {E:Env} {σ:Ss} {Q:Exit→Ss→Prop}
end
section
variable {E:Env} {d:Option Nat} {σ:Ss} {K:Ss→Prop}
end
end Go.Eng
