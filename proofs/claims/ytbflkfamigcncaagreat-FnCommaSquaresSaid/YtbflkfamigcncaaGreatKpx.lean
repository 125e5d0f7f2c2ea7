/- Several texts in one: D01, D03. -/
import Derived.Test.YtbflkfamigcncaaGreatC02q
set_option linter.unusedSimpArgs false
set_option linter.unusedVariables false
set_option maxRecDepth 100000
section
namespace Go.Eng
open Go Go.Proofs Go.Cats Go.ChangeShapes
structure CatT (c:Cat):Prop where
 len:CatL c
 ob:In64 c.ob
 fr:∀n∈c.fr,In64 n
 to:∀n∈c.to,In64 n
 id:∀n∈c.id,In64 n
 co:∀r∈c.co,∀n∈r,In64 n
section
variable {H:Type} {enc:TypeId×Value→H} {w:World} {held:Bool} {cn:Nat→Cn} {rs:Nat→Rs}
structure SFT (f:SF):Prop where
 shape:CatT f.shape
 bsz:(f.sizes.length:Int)≤9223372036854775807
 bac:(f.acts.length:Int)≤9223372036854775807
 row:∀a,a<f.acts.length→((f.acts.getD a []).length:Int)≤9223372036854775807
 sizes:∀n∈f.sizes,In64 n
 acts:∀r∈f.acts,∀n∈r,In64 n
end
end Go.Eng
end
section
namespace Go.Eng
open Go Go.Proofs Go.Cats Go.ChangeShapes
structure FunT (f:Fun):Prop where
 src:CatT f.src
 tgt:CatT f.tgt
 bob:(f.obs.length:Int)≤9223372036854775807
 bar:(f.ars.length:Int)≤9223372036854775807
 obs:∀n∈f.obs,In64 n
 ars:∀n∈f.ars,In64 n
theorem CatT.b1 {c:Cat} (h:CatT c) (k:aFZ c≤1048576):CatB c:=by
 unfold aFZ at k
 have h0:=h.ob
 unfold In64 at h0
 exact⟨h0.1,h0.2,by omega,by omega,by omega,by omega,fun f hf=>by have:=aFE c.co f hf;omega⟩
theorem FunT.b {f:Fun} (h:FunT f) (k:aMl f≤1048576):FunB f:=by
 unfold aMl at k
 exact⟨h.src.b1 (by omega),h.tgt.b1 (by omega),by omega,by omega⟩
theorem FunT.l {f:Fun} (h:FunT f):FunL f:=⟨h.src.len,h.tgt.len,h.bob,h.bar⟩
section
variable {H:Type} {enc:TypeId×Value→H} {w:World} {held:Bool} {cn:Nat→Cn} {rs:Nat→Rs}
end
end Go.Eng
end
