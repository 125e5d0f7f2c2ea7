/- The projections of comma categories: functors, by the program and by the reference. -/
import Derived.Test.YtgbjgeignbjjnaaKox
set_option linter.unusedSimpArgs false
set_option linter.unusedVariables false
set_option maxRecDepth 100000
set_option maxHeartbeats 16000000
namespace Go.Eng
open Go Go.Proofs Go.Cats
attribute [local go_sem] one_nil_c8 one_ptr_c8
noncomputable def cmF (f e : Fun) : Fun := ⟨cmC f e (cmA f e).length, f.src, colN (cObj f e) 0 (cObj f e).length, colN (cmA f e) 2 (cmA f e).length⟩
noncomputable def cmG (f e : Fun) : Fun := ⟨cmC f e (cmA f e).length, e.src, colN (cObj f e) 1 (cObj f e).length, colN (cmA f e) 3 (cmA f e).length⟩
def nilF : Fun := ⟨⟨0, [], [], [], []⟩, ⟨0, [], [], [], []⟩, [], []⟩
def CommaLeftOut (f e g : Fun) (code : Int) : Prop := (CYes f e ∧ g = cmF f e ∧ code = 0) ∨ (CNo f e code ∧ g = nilF)
def CommaRightOut (f e g : Fun) (code : Int) : Prop := (CYes f e ∧ g = cmG f e ∧ code = 0) ∨ (CNo f e code ∧ g = nilF)
end Go.Eng
