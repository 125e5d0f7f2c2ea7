/- Several texts in one: EngDb, P43a. -/
import Derived.Test.YtipohdpnhodnmaaGreatE26q
import Derived.Test.YtipohdpnhodnmaaGreatRows
import Derived.JoinedOf
import Derived.ProofKit
set_option linter.unusedVariables false
set_option linter.unusedSimpArgs false
set_option maxRecDepth 100000
set_option maxHeartbeats 16000000
section
namespace Go.Eng
open Go Go.ChangeShapes
section
variable {H:Type} {enc:TypeId×Value→H} {P:Program} {w:World} {held:Bool}
theorem aPf {t e:TypeId} (ht:P.underlying t=some (.slice e)) (he:P.underlying e=some (.int .u8)) (hc:P.cellsOf e=1) {fuel:Nat} {cs:List Value} {x:DataW H×List MemPlace}
  (h:DataW.trod enc P w 0 (fun _=>true) held fuel t cs=some x):
  ∃u l,cs=[u]∧u.oneCell'=true∧RdV w (Old w) (bys l) u∧(l.length:Int)≤9223372036854775807∧∀i,i<l.length→0≤l.getD i 0∧l.getD i 0<256:=by
 rcases open_ints ht he hc h with⟨rfl,_⟩|⟨a,len,cap,zs,rfl,_,h1,h2,h3,_,h4,h5⟩
 ·exact⟨_,[],rfl,rfl,by simp [bys,RdV],by simp,by simp⟩
 simp only [if_true]at h3
 refine⟨_,zs.take len,rfl,rfl,?_,?_,fun i hi=>?_⟩
 ·have hl:(zs.take len).length=len:=by simp;omega
  simp only [bys,RdV]
  refine⟨by decide, .inr ⟨a.block,a.off,a.spot,len,cap,(zs.take len).map (.int .u8),?_,by simp;omega,h1,h2,fun hne=>?_,?_,fun k y hk=>?_⟩⟩
  ·obtain⟨b,o,s⟩:=a;rfl
  ·have h0:0<zs.length:=by
    cases zs with
    |nil=>simp at hne
    |cons=>simp
   have h6:=h4 0 h0
   exact⟨by have:=World.cell?_spot h6;simpa [Addr.add]using this,by have:=aII h6;simpa [Addr.add]using this⟩
  ·have hf:((zs.take len).map fun x=>Dt.v (.int .u8 x)).all Dt.isV=true:=by
    rw [List.all_map];exact List.all_eq_true.2 fun _ _=>rfl
   rw [RdL.flat hf,List.map_map];rfl
  ·have hkl:k<len:=by
    have:=(List.getElem?_eq_some_iff.1 hk).1
    simp at this;omega
   have h6:=h4 k (by omega)
   have h7:=h4 0 (by omega)
   have hs:a.spot=none:=by have:=World.cell?_spot h7;simpa [Addr.add]using this
   have h8:=aEP hs h6
   rw [h8]
   simp only [List.getElem?_map,List.getElem?_take]at hk
   rw [if_pos hkl]at hk
   have hz:zs[k]? =some (zs.getD k 0):=by simp [List.getD_eq_getElem?_getD,show k<zs.length by omega]
   rw [hz]at hk
   simpa using hk
 ·have hcap:cap≤9223372036854775807:=by have:=h2;unfold maxLen at this;exact this
  simp;omega
 ·have hi':i<zs.length:=by simp at hi;omega
  have hm:(zs.take len).getD i 0∈zs:=by
   have:(zs.take len).getD i 0=zs.getD i 0:=by
    simp only [List.getD_eq_getElem?_getD,List.getElem?_take]
    rw [if_pos (by simp at hi;omega)]
   rw [this,List.getD_eq_getElem?_getD,List.getElem?_eq_getElem hi',Option.getD_some]
   exact List.getElem_mem hi'
  have:=h5 _ hm
  generalize (zs.take len).getD i 0=n at this⊢
  simp [Lit.wf,IntKind.min,IntKind.max,IntKind.bits,IntKind.signed]at this
  omega
end
end Go.Eng
end
section
namespace Go.Proofs.YtipohdpnhodnmaaGreat
open Go Go.Eng Go.Cats Go.ChangeShapes Go.WideShapes Go.RowKit
theorem Tryz.own43_:ownKnob Tryz.checked.prog.godebug=none:=by kernel_rfl
theorem Tryz.laidOut43_:laidOutB Tryz.prog=true:=by kernel_rfl
theorem lV (os:Os) (started:os.Started) (H:Type) (enc:TypeId×Value→H):
  ReturnsInHanded {} Tryz.checked os 4 .any (Rows.fnUniversalElementsSpec.pre6 enc Tryz.prog Tryz.f4 Rows.fnUniversalElementsRow.domain Rows.fnUniversalElementsRow.apart) (Rows.fnUniversalElementsSpec.post enc Tryz.prog Tryz.f4 Rows.fnUniversalElementsRow.apart Rows.fnUniversalElementsRow.fresh Rows.fnUniversalElementsRow.handsOn Rows.fnUniversalElementsRow.again):=by
 refine returnsInHanded_of_change (C:=Tryz.checked) Tryz.own43_ started (by kernel_rfl) Tryz.func4
  (ChangeSpec.witness6 (enc:=enc) (C:=Tryz.checked) false ⟨#[],#[.slice none 0 0],[]⟩ 8 (by kernel_rfl) (by kernel_rfl) (by kernel_rfl) (by kernel_rfl)) ?_
 intro W base args ds gs before hval0 hW hcnd _
 have hval:∀(j:Nat) t v,Tryz.f4.params[j]? =some t→args[j]? =some v→Value.okWide Tryz.prog W .any base t v:=hval0
 have hW':=hW
 obtain⟨p,q,hA0,hV,rfl,hfz,hnd⟩:=hW
 obtain⟨rfl,rfl⟩:=trodVars_none hV
 have hA:DataW.TrodAll enc Tryz.prog W 0 (fun _=>true) true [22] args.toList ds p:=hA0
 obtain⟨v0,d0,rfl,rfl,h0⟩:=trodAll_one hA
 obtain⟨x0,y0,z0,rfl⟩:=okWide_slice Tryz.underlying22 (hval 0 22 v0 rfl rfl)
 obtain⟨fuel0,hf0⟩:=h0
 have hg0:=hf0
 rw [show(Value.slice x0 y0 z0).cells.toList=[Value.slice x0 y0 z0] from rfl]at hf0
 obtain⟨u0,a0,hu0,ho0,hr0,hb0,hB0⟩:=aPf Tryz.underlying22 Tryz.underlying5 (by kernel_rfl) hf0
 obtain rfl:Value.slice x0 y0 z0=u0:=by simpa using hu0
 have hlt:∀y∈p,y.block<W.heap.size:=fun y hy=>hW'.lt y (by simpa using hy)
 refine(nF (l:=a0) hb0 hB0 W (Old W) (Old W) _ [.slice x0 y0 z0] (aJq W) ?_).mono fun ed W' ⟨v,c1,he,hp,hv,_⟩=>?_
 ·simp only [Sv.okL,Sv.ok]
  exact⟨_,_,rfl,⟨fun p hp=>(by simp at hp),ho0,fun _=>RdV.mono (fun b hb=> .inl hb) _ _ hr0⟩,rfl⟩
 ·simp only [Sv.ok]at hv
  subst hv
  subst he
  have hb:=aCY hp
  refine⟨_,rfl,aKf hW' rfl rfl Tryz.underlying4 rfl hb ?_⟩
  rw [List.append_nil]
  exact trodAll_mk1 (Below.trod Tryz.laidOut43_ (by kernel_rfl) (of_decide_eq_true (by kernel_rfl)) ⟨fuel0,hg0⟩ hb (fun y hy=>hlt y (by simp [hy])))
end Go.Proofs.YtipohdpnhodnmaaGreat
end
