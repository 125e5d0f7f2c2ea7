/- Several texts in one: R02, R03. -/
import Derived.Test.YtbflkfamigcncaaGreatR01q
set_option linter.unusedSimpArgs false
set_option linter.unusedVariables false
set_option maxRecDepth 100000
set_option maxHeartbeats 16000000
section
namespace Go.Eng
open Go Go.Proofs Go.Cats
section
variable {f g:Fun} {b:Bool} {m:Int} {F:List (List Int)}
end
noncomputable def aUW (f g:Fun) (B:List Int) (x a:Nat):Bool:=dec (∀c,c<a→aPr f g B x c)
theorem aG7 (f g:Fun) (B:List Int) (x:Nat):aUW f g B x 0=true:=dQ fun c hc=>absurd hc (Nat.not_lt_zero c)
attribute [local go_sem] List.set_cons_zero List.set_cons_succ aG7 aHr
end Go.Eng
end
section
namespace Go.Eng
open Go Go.Proofs Go.Cats
theorem aEF (n i:Nat):((n:Int)-1-(i:Int)).toNat=n-1-i:=by omega
theorem aJd:pI none= -1:=rfl
theorem aJe (x:Nat):pI (some x)=x:=rfl
theorem aGS (A:List Int):bkL A 0=none:=rfl
attribute [local go_sem] aEF aJd aJe aGS List.set_cons_succ List.set_cons_zero
end Go.Eng
end
