/- The door: functors handed to a law. -/
import Derived.Test.YtmpopmololpaoaaKdx
import Derived.Test.YtmpopmololpaoaaC02q
import Derived.Test.YtmpopmololpaoaaD01q
set_option linter.unusedSimpArgs false
set_option linter.unusedVariables false
set_option maxRecDepth 100000
namespace Go.Eng
open Go Go.Proofs Go.Cats Go.ChangeShapes
structure FunT (f : Fun) : Prop where
  src : CatT f.src
  tgt : CatT f.tgt
  bob : (f.obs.length : Int) ≤ 9223372036854775807
  bar : (f.ars.length : Int) ≤ 9223372036854775807
  obs : ∀ n ∈ f.obs, In64 n
  ars : ∀ n ∈ f.ars, In64 n
theorem CatT.b1 {c : Cat} (h : CatT c) (k : catSz c ≤ 1048576) : CatB c := by
  unfold catSz at k
  have h0 := h.ob
  unfold In64 at h0
  exact ⟨h0.1, h0.2, by omega, by omega, by omega, by omega, fun f hf => by have := sumLen_get c.co f hf; omega⟩
theorem FunT.b {f : Fun} (h : FunT f) (k : funSz f ≤ 1048576) : FunB f := by
  unfold funSz at k
  exact ⟨h.src.b1 (by omega), h.tgt.b1 (by omega), by omega, by omega⟩
theorem FunT.l {f : Fun} (h : FunT f) : FunL f := ⟨h.src.len, h.tgt.len, h.bob, h.bar⟩
section
variable {H : Type} {enc : TypeId × Value → H} {w : World} {held : Bool} {cn : Nat → Cn} {rs : Nat → Rs}
end
end Go.Eng
