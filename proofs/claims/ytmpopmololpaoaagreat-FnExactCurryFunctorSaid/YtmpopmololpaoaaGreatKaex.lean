/- What is asked ahead, as a value. -/
import Derived.Test.YtmpopmololpaoaaGreatKadx
set_option linter.unusedSimpArgs false
set_option linter.unusedVariables false
set_option maxRecDepth 100000
set_option maxHeartbeats 16000000
namespace Go.Eng
open Go Go.Proofs Go.Cats
theorem is_v {f : Fun} {v : Bool} (hb : FunB f) (h : dec (IsFun f) = v) : Spec Tryz.prog 75 [.bptr [] (funD f)] [] (bv v) []:=by
  subst h
  exact sp_Functor_isFunctor hb
theorem sp_l06Is_v {f : Fun} {v : Bool} (hb : FunB f) (h : dec (IsFun f) = v) : Spec Tryz.prog 71 [funV f] [] (bv v) []:=by
  subst h
  exact sp_l06Is hb
end Go.Eng
