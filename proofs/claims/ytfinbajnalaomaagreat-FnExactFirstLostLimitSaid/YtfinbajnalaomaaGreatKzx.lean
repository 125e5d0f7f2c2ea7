/- Several texts in one: EngLd, EngCp, EngMr. -/
import Derived.Test.YtfinbajnalaomaaGreatKalx
import Derived.Maps.Range
import Derived.Maps.Views
import Derived.StringKeys
import Derived.Laws.Small
import Derived.Laws.Strings
import Derived.WideShapes
set_option linter.unusedVariables false
set_option linter.unusedSimpArgs false
section
namespace Go.Eng
open Go
def unAb : Ab := ⟨fun _ _ _ => True, fun _ h => h⟩
def unD : Dt := .ab unAb
end Go.Eng
end
section
namespace Go.Eng
open Go
end Go.Eng
end
section
namespace Go.Eng
open Go Go.Maps Go.RowKit Go.WideMaps
section
variable {X : Cx} {E : Env} {c : Code} {σ : Ss} {Q : Exit → Ss → Prop} {k e : TypeId} {n : Nat} {D : DataW Unit} {mv : Value} {W : Lit} {z : Int}
end
section
variable {E : Env} {d : Option Nat} {σ : Ss} {K : Ss → Prop} {k e : TypeId} {n cv i j m : Nat} {D : DataW Unit} {mv : Value} {W : Lit} {z : Int} {x : Operand} {φ : Nat → Prop}
end
end Go.Eng
end
