/- Several texts in one: R16, R17. -/
import Derived.Test.YtmpopmololpaoaaGreatR15q
set_option linter.unusedSimpArgs false
set_option linter.unusedVariables false
set_option maxRecDepth 100000
set_option maxHeartbeats 16000000
section
namespace Go.Eng
open Go Go.Proofs Go.Cats
theorem sp_l02Is_v {c : Cat} {v : Bool} (hb : CatB c) (h : dec (IsCat c) = v) : Spec Tryz.prog 51 [catV c] [] (bv v) []:=by
  subst h
  exact sp_l02Is hb
def FcOut (c d K : Cat) (L : List Fun) (A : List (List Int)) (code : Int) : Prop :=
  (¬ (IsCat c ∧ IsCat d) ∧ K = Cat.nil ∧ L = [] ∧ A = [] ∧ code = 1) ∨ (IsCat c ∧ IsCat d ∧ ¬ FcY c d ∧ K = Cat.nil ∧ L = [] ∧ A = [] ∧ code = 3) ∨ (IsCat c ∧ IsCat d ∧ FcY c d ∧ K = fcK d (fcL c d) ∧ L = fcL c d ∧ A = fcA (fcL c d) ∧ code = 0)
end Go.Eng
end
section
namespace Go.Eng
open Go Go.Proofs Go.Cats
theorem fcK_b (d : Cat) {L : List Fun} (hL : L.length ≤ 8) (hA : (fcA L).length ≤ 40) : CatB (fcK d L):=by
  refine ⟨?_,?_,?_,?_,?_,?_,fun f hf=>?_⟩
  · show (-9223372036854775808 : Int) ≤ (L.length : Int);omega
  · show (L.length : Int) ≤ 9223372036854775807;omega
  · show (((fcA L).take (fcA L).length).map _).length ≤ 1048576;rw [List.length_map,List.take_length];omega
  · show (((fcA L).take (fcA L).length).map _).length ≤ 1048576;rw [List.length_map,List.take_length];omega
  · show ((List.range L.length).map _).length ≤ 1048576;rw [List.length_map,List.length_range];omega
  · show ((List.range (fcA L).length).map _).length ≤ 1048576;rw [List.length_map,List.length_range];omega
  · have hf2 : f < (fcA L).length:=by
      have : f < ((List.range (fcA L).length).map _).length:=hf
      rwa [List.length_map,List.length_range] at this
    have e : (fcK d L).co.getD f [] = rowF d (fcA L) f (fcA L).length:=by
      show ((List.range (fcA L).length).map _).getD f [] = _
      rw [List.getD_eq_getElem?_getD,List.getElem?_map,List.getElem?_range hf2];rfl
    rw [e,rowF_len];omega
def evlO (L : List Fun) (x : Int) (i : Nat) : List Int:=(L.take i).map fun f=>f.obs.getD x.toNat 0
def evlA (A : List (List Int)) (x : Int) (a : Nat) : List Int:=(A.take a).map fun t=>t.getD (2 + x).toNat 0
noncomputable def evF (c d : Cat) (x : Int) : Fun:=⟨fcK d (fcL c d),d,evlO (fcL c d) x (fcL c d).length,evlA (fcA (fcL c d)) x (fcA (fcL c d)).length⟩
theorem evlO_zero (L x) : evlO L x 0 = []:=rfl
theorem evlA_zero (A x) : evlA A x 0 = []:=rfl
def EvOut (c d : Cat) (x : Int) (g : Fun) (code : Int) : Prop :=
  (¬ (IsCat c ∧ IsCat d) ∧ g = nilF ∧ code = 1) ∨ (IsCat c ∧ IsCat d ∧ ((¬ (0 ≤ x ∧ x < c.ob) ∧ g = nilF ∧ code = 2) ∨ ((0 ≤ x ∧ x < c.ob) ∧ ((¬ FcY c d ∧ g = nilF ∧ code = 3) ∨ (FcY c d ∧ g = evF c d x ∧ code = 0)))))
attribute [local go_sem] List.set_cons_zero List.set_cons_succ evlO_zero evlA_zero
end Go.Eng
end
