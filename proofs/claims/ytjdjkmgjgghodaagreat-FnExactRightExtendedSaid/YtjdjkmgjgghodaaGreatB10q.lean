/- Matching families by the reference: the triples of a sieve, the links, what satisfies them. -/
import Derived.Test.YtjdjkmgjgghodaaGreatKdx
import Derived.Test.YtjdjkmgjgghodaaGreatB07q
import Derived.Test.YtjdjkmgjgghodaaGreatB09q
set_option linter.unusedSimpArgs false
set_option linter.unusedVariables false
set_option maxRecDepth 100000
set_option maxHeartbeats 16000000
namespace Go.Eng
open Go Go.Proofs Go.Cats
theorem lvsT_nil {A : List (List Int)} {S : List Nat} {xs : List RawV} : lvsT A S xs [] = [] := rfl
theorem links_ones (l : List (Link × RawV)) : (linksD l).ones = true := by
  simp only [linksD, Dt.ones, Dt.cells, List.all_eq_true, List.mem_flatMap, forall_exists_index, and_imp]
  rintro x p _ hx
  simp only [linkC, List.mem_cons, List.not_mem_nil, or_false] at hx
  rcases hx with rfl | rfl | rfl | rfl
  · rfl
  · rfl
  · exact p.2.one
  · rfl
theorem lvsT_flat1 {A : List (List Int)} {S : List Nat} {xs : List RawV} {t : Tr} : (linksD (lvsT A S xs [t])).flat = false := rfl
attribute [local go_sem] links_ones lvsT_flat1 List.getD_cons_zero List.getD_cons_succ famS_zero famT_zero lvsT_nil rowsT_nil famR_zero
end Go.Eng
