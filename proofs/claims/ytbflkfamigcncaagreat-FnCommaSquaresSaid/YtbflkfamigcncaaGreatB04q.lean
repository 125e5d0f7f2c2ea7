/- Lists of numbers by the reference: an index, a count, a repetition, the top, classes, classes joined. -/
import Derived.Test.YtbflkfamigcncaaGreatKfx
import Derived.Test.YtbflkfamigcncaaGreatKjx
set_option linter.unusedSimpArgs false
set_option linter.unusedVariables false
set_option maxRecDepth 100000
set_option maxHeartbeats 16000000
namespace Go.Eng
open Go Go.Proofs Go.Cats
attribute [local go_sem] wD
def _root_.Go.Cats.topI (l:List Int):Nat→Int
 |0=>0
 |i+1=>if l.getD i 0+1>topI l i then l.getD i 0+1 else topI l i
theorem aH3 (l:List Int):topI l 0=0:=rfl
attribute [local go_sem] aH3
def _root_.Go.Cats.clsI (l:List Int):Nat→List Int×List Int
 |0=>([],[])
 |i+1=>if idxOf (clsI l i).2 (l.getD i 0)<0 then((clsI l i).1++[((clsI l i).2.length:Int)],(clsI l i).2++[l.getD i 0])else((clsI l i).1++[idxOf (clsI l i).2 (l.getD i 0)],(clsI l i).2)
theorem aGZ (l:List Int):clsI l 0=([],[]):=rfl
attribute [local go_sem] aGZ
def _root_.Go.Cats.joI (L:List Int) (a b:Int) (i:Nat):List Int:=(L.take i).map (fun v=>if v=b then a else v)++L.drop i
theorem aIV (L:List Int) (a b:Int):joI L a b 0=L:=by simp [joI]
theorem aGf (L:List Int) (a b:Int) (i:Nat):(joI L a b i).length=L.length:=by simp [joI];omega
def _root_.Go.Cats.joK (n:Nat) (ps:List (List Int)):Nat→List Int
 |0=>nums n
 |k+1=>joI (joK n ps k) ((joK n ps k).getD ((ps.getD k []).getD 0 0).toNat 0) ((joK n ps k).getD ((ps.getD k []).getD 1 0).toNat 0) n
theorem aGg (n:Nat) (ps:List (List Int)):∀k,(joK n ps k).length=n
 |0=>iK n
 |k+1=>by rw [joK,aGf,aGg]
theorem aIW (n:Nat) (ps:List (List Int)):joK n ps 0=nums n:=rfl
attribute [local go_sem] aIV aGf aGg aIW
end Go.Eng
