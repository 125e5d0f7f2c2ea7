/- Several texts in one: Z15, A01. -/
import Derived.Test.YtbflkfamigcncaaGreatC02q
import Derived.Test.YtbflkfamigcncaaGreatKcfx
set_option linter.unusedSimpArgs false
set_option linter.unusedVariables false
set_option maxRecDepth 100000
set_option maxHeartbeats 16000000
section
namespace Go.Eng
open Go Go.Proofs Go.Cats
attribute [local go_sem] List.set_cons_zero List.set_cons_succ
structure CodeOk (l:List Int):Prop where
 len:l.length≤4096
 b:∀i,i<l.length→0≤l.getD i 0∧l.getD i 0<256
theorem CodeOk.src {l:List Int} (h:CodeOk l):RnOk (from_ l):=aK1 h.len h.b
end Go.Eng
end
section
namespace Go.Eng
open Go Go.Proofs Go.Cats
attribute [go_sem] aHu aHY
end Go.Eng
end
