/- FindIsomorphism, by the reference. -/
import Derived.Test.YtdphbdoabhidgaaKdx
import Derived.Test.YtdphbdoabhidgaaKex
import Derived.Test.YtdphbdoabhidgaaQ15q
set_option linter.unusedSimpArgs false
set_option linter.unusedVariables false
set_option maxRecDepth 100000
set_option maxHeartbeats 16000000
namespace Go.Eng
open Go Go.Proofs Go.Cats
attribute [local go_sem] List.set_cons_zero List.set_cons_succ
theorem sp_l02Is_k {c : Cat} {v : Bool} (hb : CatB c) (h : dec (IsCat c) = v) : Spec Try.prog 47 [catV c] [] (bv v) [] := by
  subst h
  exact sp_l02Is hb
theorem sp_l10All_1 {c d : Cat} {F : List Fun} (sc : IsCat c) (sd : IsCat d) (bc : CatB c) (bd : CatB d) (h : allI c d 1 = F) : Spec Try.prog 70 [catV c, catV d, iv 1] [] (.sl 0) [(0, ⟨1, .arr (funsD F)⟩)] := by
  subst h
  exact sp_l10All (m := 1) sc sd bc bd (by decide) (by decide)
end Go.Eng
