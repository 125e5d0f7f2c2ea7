/- The engine, part DB: a law's argument that is a list of bytes. -/
import Derived.Test.YtbflkfamigcncaaGreatKex
set_option linter.unusedVariables false
set_option linter.unusedSimpArgs false
namespace Go.Eng
open Go Go.ChangeShapes
section
variable {H:Type} {enc:TypeId×Value→H} {P:Program} {w:World} {held:Bool}
theorem aN2 {t e:TypeId} (ht:P.underlying t=some (.slice e)) (he:P.underlying e=some (.int .u8)) (hc:P.cellsOf e=1) {fuel:Nat} {cs:List Value} {x:DataW H×List MemPlace}
  (h:DataW.trod enc P w 0 (fun _=>true) held fuel t cs=some x):
  ∃u l,cs=[u]∧u.oneCell'=true∧RdV w (Old w) (bys l) u∧(l.length:Int)≤9223372036854775807∧∀i,i<l.length→0≤l.getD i 0∧l.getD i 0<256:=by
 rcases open_ints ht he hc h with⟨rfl,_⟩|⟨a,len,cap,zs,rfl,_,h1,h2,h3,_,h4,h5⟩
 ·exact⟨_,[],rfl,rfl,by simp [bys,RdV],by simp,by simp⟩
 simp only [if_true]at h3
 refine⟨_,zs.take len,rfl,rfl,?_,?_,fun i hi=>?_⟩
 ·have hl:(zs.take len).length=len:=by simp;omega
  simp only [bys,RdV]
  refine⟨by decide, .inr ⟨a.block,a.off,a.spot,len,cap,(zs.take len).map (.int .u8),?_,by simp;omega,h1,h2,fun hne=>?_,?_,fun k y hk=>?_⟩⟩
  ·obtain⟨b,o,s⟩:=a;rfl
  ·have h0:0<zs.length:=by
    cases zs with
    |nil=>simp at hne
    |cons=>simp
   have h6:=h4 0 h0
   exact⟨by have:=World.cell?_spot h6;simpa [Addr.add]using this,by have:=aIn h6;simpa [Addr.add]using this⟩
  ·have hf:((zs.take len).map fun x=>Dt.v (.int .u8 x)).all Dt.isV=true:=by
    rw [List.all_map];exact List.all_eq_true.2 fun _ _=>rfl
   rw [RdL.flat hf,List.map_map];rfl
  ·have hkl:k<len:=by
    have:=(List.getElem?_eq_some_iff.1 hk).1
    simp at this;omega
   have h6:=h4 k (by omega)
   have h7:=h4 0 (by omega)
   have hs:a.spot=none:=by have:=World.cell?_spot h7;simpa [Addr.add]using this
   have h8:=aEW hs h6
   rw [h8]
   simp only [List.getElem?_map,List.getElem?_take]at hk
   rw [if_pos hkl]at hk
   have hz:zs[k]? =some (zs.getD k 0):=by simp [List.getD_eq_getElem?_getD,show k<zs.length by omega]
   rw [hz]at hk
   simpa using hk
 ·have hcap:cap≤9223372036854775807:=by have:=h2;unfold maxLen at this;exact this
  simp;omega
 ·have hi':i<zs.length:=by simp at hi;omega
  have hm:(zs.take len).getD i 0∈zs:=by
   have:(zs.take len).getD i 0=zs.getD i 0:=by
    simp only [List.getD_eq_getElem?_getD,List.getElem?_take]
    rw [if_pos (by simp at hi;omega)]
   rw [this,List.getD_eq_getElem?_getD,List.getElem?_eq_getElem hi',Option.getD_some]
   exact List.getElem_mem hi'
  have:=h5 _ hm
  generalize (zs.take len).getD i 0=n at this⊢
  simp [Lit.wf,IntKind.min,IntKind.max,IntKind.bits,IntKind.signed]at this
  omega
end
end Go.Eng
