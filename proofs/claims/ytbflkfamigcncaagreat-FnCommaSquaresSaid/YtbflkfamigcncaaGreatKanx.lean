/- Several texts in one: G05, G06, G07. -/
import Derived.Test.YtbflkfamigcncaaGreatKgx
set_option linter.unusedSimpArgs false
set_option linter.unusedVariables false
set_option maxRecDepth 100000
set_option maxHeartbeats 8000000
section
namespace Go.Eng
open Go Go.Proofs Go.Cats
@[go_sem] theorem aNB (k:Int):marks k 0=[]:=rfl
theorem aFF:oF []=0:=rfl
attribute [go_sem] aFF Int.add_zero Int.sub_zero Int.natCast_zero Int.ofNat_zero List.take_zero List.drop_zero
theorem aFE (l:List (List Int)) (i:Nat) (h:i<l.length):(l.getD i []).length≤oF l:=by
 have h2:=aEA l i h
 have h4:=aHZ l (i+1)
 omega
structure CatL (c:Cat):Prop where
 fr:(c.fr.length:Int)≤9223372036854775807
 to:(c.to.length:Int)≤9223372036854775807
 id:(c.id.length:Int)≤9223372036854775807
 co:(c.co.length:Int)≤9223372036854775807
 row:∀f,f<c.co.length→((c.co.getD f []).length:Int)≤9223372036854775807
def aFZ (c:Cat):Nat:=c.fr.length+c.to.length+c.id.length+(c.co.length+oF c.co)
end Go.Eng
end
section
namespace Go.Eng
open Go Go.Proofs Go.Cats
end Go.Eng
end
section
namespace Go.Eng
open Go Go.Proofs Go.Cats
end Go.Eng
end
