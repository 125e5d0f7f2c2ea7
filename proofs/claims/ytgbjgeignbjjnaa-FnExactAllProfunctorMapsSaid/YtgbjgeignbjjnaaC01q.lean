/- Functors: what it is to be one, by the program and by the reference. -/
import Derived.Test.YtgbjgeignbjjnaaKhx
set_option linter.unusedSimpArgs false
set_option linter.unusedVariables false
set_option maxRecDepth 100000
set_option maxHeartbeats 8000000
namespace Go.Eng
open Go Go.Proofs Go.Cats
structure FunB (f : Fun) : Prop where
  src : CatB f.src
  tgt : CatB f.tgt
  obs : f.obs.length ≤ 1048576
  ars : f.ars.length ≤ 1048576
end Go.Eng
