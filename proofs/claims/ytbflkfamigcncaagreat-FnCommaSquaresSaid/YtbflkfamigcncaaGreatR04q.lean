/- Transformations, by the reference: all of them, up to a number of results. -/
import Derived.Test.YtbflkfamigcncaaGreatKbax
import Derived.Test.YtbflkfamigcncaaGreatB04q
set_option linter.unusedSimpArgs false
set_option linter.unusedVariables false
set_option maxRecDepth 100000
set_option maxHeartbeats 16000000
namespace Go.Eng
open Go Go.Proofs Go.Cats
def aVb (c:Cat) (a:Nat):List (List Int):=(List.range a).map fun a=>[c.fr.getD a 0,c.to.getD a 0]
theorem aHB (c:Cat):aVb c 0=[]:=rfl
def stI (L:List Int) (x:Nat) (y:Nat):List Int:=(List.range y).map fun y=>if L.getD y 0=x then-1 else-2
theorem aKf (L:List Int) (x:Nat):stI L x 0=[]:=rfl
theorem aHD (x:Nat):List.replicate (x+1) (-1:Int)=List.replicate x (-1)++[-1]:=List.replicate_succ'
theorem aCk:List.replicate 0 (-1:Int)=[]:=rfl
attribute [local go_sem] aHB aKf aCk List.set_cons_succ List.set_cons_zero
end Go.Eng
