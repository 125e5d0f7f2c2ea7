/- Several texts in one: R29, R30. -/
import Derived.Test.YtmpopmololpaoaaGreatKahx
set_option linter.unusedSimpArgs false
set_option linter.unusedVariables false
set_option maxRecDepth 100000
set_option maxHeartbeats 16000000
section
namespace Go.Eng
open Go Go.Proofs Go.Cats
attribute [local go_sem] List.set_cons_zero List.set_cons_succ fxO_zero fxA_zero
end Go.Eng
end
section
namespace Go.Eng
open Go Go.Proofs Go.Cats
theorem prC_b {c d : Cat} (sc : Shape c) (sd : Shape d) : CatB (prC c d):=by
  have c0:=sc.ob0
  have c8:=sc.ob8
  have d0:=sd.ob0
  have d8:=sd.ob8
  have e0:=mul_b c0 (by omega) d0 (by omega)
  have le:=Nat.mul_le_mul sc.m40 sd.m40
  have cil:=sc.idl
  have dil:=sd.idl
  have li:=Nat.mul_le_mul (show c.id.length ≤ 8 by omega) (show d.id.length ≤ 8 by omega)
  refine ⟨?_,?_,?_,?_,?_,?_,fun k hk=>?_⟩
  · show _ ≤ c.ob * d.ob;omega
  · show c.ob * d.ob ≤ _;omega
  · show (pq _ _ _ _ _).length ≤ _;rw [pq_len];omega
  · show (pq _ _ _ _ _).length ≤ _;rw [pq_len];omega
  · show (pq _ _ _ _ _).length ≤ _;rw [pq_len];omega
  · show (prT _ _ _).length ≤ _;rw [prT_len];omega
  · have hk' : k < c.fr.length * d.fr.length:=by have e : (prT c d (c.fr.length * d.fr.length)).length = _:=prT_len;exact e ▸ hk
    show ((prT c d (c.fr.length * d.fr.length)).getD k []).length ≤ _
    have r1 : (prT c d (c.fr.length * d.fr.length)).getD k [] = prW c d k (c.fr.length * d.fr.length):=by
      unfold prT;rw [List.getD_eq_getElem?_getD,List.getElem?_map,List.getElem?_range hk'];rfl
    rw [r1,prW_len];omega
theorem cal_product : Callable Tryz.prog 89:=⟨_,Tryz.func89,rfl,rfl⟩
theorem cal_l03Product : Callable Tryz.prog 86:=⟨_,Tryz.func86,rfl,rfl⟩
def CurB (c d : Cat) (f : Fun) : Prop:=IsCat c ∧ IsCat d ∧ IsFun f
end Go.Eng
end
