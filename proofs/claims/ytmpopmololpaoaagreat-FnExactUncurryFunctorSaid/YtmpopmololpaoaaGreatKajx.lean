/- Several texts in one: R31, R32. -/
import Derived.Test.YtmpopmololpaoaaGreatKaix
set_option linter.unusedSimpArgs false
set_option linter.unusedVariables false
set_option maxRecDepth 100000
set_option maxHeartbeats 16000000
section
namespace Go.Eng
open Go Go.Proofs Go.Cats
noncomputable def cuI (c d : Cat) (f : Fun) (i : Nat) : Nat:=fcAt (fcL d f.tgt) (fxF c d f i).obs (fxF c d f i).ars
noncomputable def cuO (c d : Cat) (f : Fun) (i : Nat) : List Int:=(List.range i).map fun i=>(cuI c d f i : Int)
noncomputable def cuK (c d : Cat) (f : Fun) (a : Nat) : List Int:=(cuI c d f (c.fr.getD a 0).toNat : Int) :: (cuI c d f (c.to.getD a 0).toNat : Int) :: cuC d f a d.ob.toNat
noncomputable def cuA (c d : Cat) (f : Fun) (a : Nat) : List Int:=(List.range a).map fun a=>fnd (fcA (fcL d f.tgt)) (cuK c d f a)
noncomputable def cuF (c d : Cat) (f : Fun) : Fun:=⟨c,fcK f.tgt (fcL d f.tgt),cuO c d f c.ob.toNat,cuA c d f c.fr.length⟩
section
variable {c d : Cat} {f : Fun} {i a : Nat}
theorem cuO_zero (c d f) : cuO c d f 0 = []:=rfl
theorem cuA_zero (c d f) : cuA c d f 0 = []:=rfl
end
def CuOut (c d : Cat) (f : Fun) (g : Fun) (code : Int) : Prop :=
  (¬ CurB c d f ∧ g = nilF ∧ code = 1) ∨ (CurB c d f ∧ ((¬ f.src = prC c d ∧ g = nilF ∧ code = 5) ∨ (f.src = prC c d ∧ ((¬ FcY d f.tgt ∧ g = nilF ∧ code = 3) ∨ (FcY d f.tgt ∧ g = cuF c d f ∧ code = 0)))))
attribute [local go_sem] List.set_cons_zero List.set_cons_succ cuO_zero cuA_zero cuC_zero
end Go.Eng
end
section
namespace Go.Eng
open Go Go.Proofs Go.Cats
attribute [local go_sem] List.set_cons_zero List.set_cons_succ cuO_zero cuA_zero cuC_zero
end Go.Eng
end
