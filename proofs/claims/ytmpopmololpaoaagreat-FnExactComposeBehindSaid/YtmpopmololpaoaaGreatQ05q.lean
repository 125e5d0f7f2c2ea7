/- Isomorphisms by the program: the first one. -/
import Derived.Test.YtmpopmololpaoaaGreatKdx
import Derived.Test.YtmpopmololpaoaaGreatKex
import Derived.Test.YtmpopmololpaoaaGreatKix
import Derived.Test.YtmpopmololpaoaaGreatEngFtq
import Derived.Test.YtmpopmololpaoaaGreatQ04q
set_option linter.unusedSimpArgs false
set_option linter.unusedVariables false
set_option maxRecDepth 100000
set_option maxHeartbeats 16000000
namespace Go.Eng
open Go Go.Proofs Go.Cats
attribute [local go_sem] List.set_cons_zero List.set_cons_succ
structure _root_.Go.Cats.IYes (c d : Cat) (g : Fun) : Prop where
  src : IsCat c
  tgt : IsCat d
  small : c.fr.length ≤ 16 ∧ d.fr.length ≤ 16
  ob : c.ob = d.ob
  ar : c.fr.length = d.fr.length
  fst : ∃ D,funX c d true c.ob.toNat [] = g :: D
end Go.Eng
