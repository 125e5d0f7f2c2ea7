/- Several texts in one: G12, EngDb. -/
import Derived.Test.YthgijhnmcglppaaGreatKex
import Derived.Test.YthgijhnmcglppaaGreatKgx
set_option linter.unusedSimpArgs false
set_option linter.unusedVariables false
set_option maxRecDepth 100000
set_option maxHeartbeats 16000000
section
namespace Go.Eng
open Go Go.Proofs Go.Cats
theorem tT:aE Tryz.prog 116:=⟨_,Tryz.func116,rfl,rfl⟩
theorem yN {c:Cat} {x y:Int} (hl:c.fr.length≤1048576) (ht:c.to.length=c.fr.length):Spec Tryz.prog 116 [bK c,iv x,iv y] [] (.sl 0) [(0,⟨1, .arr (ints (c.hom x y))⟩)]:=by
 refine aD (E:=TE) 0 Tryz.func116 rfl (by simp [Tryz.f116]) fun X hn hX=>?_
 repeat'(first|refine wkQ ?_|refine Tw.f ?_ ?_|(refine fun(hc:(_:Bool)=_)=>?_;try simp only [hcS]at hc))
 all_goals try exact om_
 refine aG (G:={i:Nat//i≤c.fr.length∧(True)}) (fun⟨i,_⟩=>[(8,iv i),(7, .sl 1)]) [1,2,3,6] (fun⟨i,_⟩=>[(1,⟨1, .arr (ints (c.homI x y i))⟩)]) [1] (fun zz=>c.fr.length-zz.1) ⟨0,Nat.zero_le _,by first|trivial|simp⟩ ?_ ?_
 ·exact Imp.au hX
 rintro⟨i,hii,hwi⟩
 simp only [go_sem,simprocAttr]
 have hlen:=c.homI_len x y i
 repeat'(first|refine wkQ ?_|refine Tw.f ?_ ?_|(refine fun(hc:(_:Bool)=_)=>?_;try simp only [hcS]at hc))
 all_goals try exact om_
 all_goals try(refine⟨⟨i+1,by omega,(by trivial)⟩,by simp only;omega,Imp.auto hX (by simp only [go_sem,simprocAttr,Cat.homI_succ, *])⟩)
 ·(first|refine aB ?_|refine aA ?_);simp only [go_sem,simprocAttr,Tryz.f116]
  have:i=c.fr.length:=by omega
  subst this
  simp [Cat.hom]
theorem vG:aE Tryz.prog 183:=⟨_,Tryz.func183,rfl,rfl⟩
theorem yK {c:Cat} (hb:CatB c):Spec Tryz.prog 183 [.bptr [] (aU c)] [] (.agg [iv c.ob, .sl 0, .sl 1, .sl 2, .sl 3]) [(0,⟨1, .arr (ints c.fr)⟩),(1,⟨1, .arr (ints c.to)⟩),(2,⟨1, .arr (ints c.id)⟩),(3,⟨1, .arr (aF c.co)⟩)]:=by
 refine aD (E:=TE) 0 Tryz.func183 rfl (by simp [Tryz.f183]) fun X hn hX=>?_
 obtain⟨b1,b2,b3,b4,b5,b6,b7⟩:=hb
 repeat'(first|refine wkQ ?_|refine Tw.f ?_ ?_|(refine kcQ nE ?_;refine krQ (rO ?_) ?_)|(refine kcQ aGL ?_;refine krQ (aKk ?_ ?_) ?_)|(refine fun(hc:(_:Bool)=_)=>?_;try simp only [hcS]at hc))
 all_goals try exact om_
 (first|refine aB ?_|refine aA ?_);simp only [go_sem,simprocAttr,Tryz.f183]
end Go.Eng
end
section
namespace Go.Eng
open Go Go.ChangeShapes
section
variable {H:Type} {enc:TypeId×Value→H} {P:Program} {w:World} {held:Bool}
theorem aMS {t e:TypeId} (ht:P.underlying t=some (.slice e)) (he:P.underlying e=some (.int .u8)) (hc:P.cellsOf e=1) {fuel:Nat} {cs:List Value} {x:DataW H×List MemPlace}
  (h:DataW.trod enc P w 0 (fun _=>true) held fuel t cs=some x):
  ∃u l,cs=[u]∧u.oneCell'=true∧RdV w (Old w) (bys l) u∧(l.length:Int)≤9223372036854775807∧∀i,i<l.length→0≤l.getD i 0∧l.getD i 0<256:=by
 rcases open_ints ht he hc h with⟨rfl,_⟩|⟨a,len,cap,zs,rfl,_,h1,h2,h3,_,h4,h5⟩
 ·exact⟨_,[],rfl,rfl,by simp [bys,RdV],by simp,by simp⟩
 simp only [if_true]at h3
 refine⟨_,zs.take len,rfl,rfl,?_,?_,fun i hi=>?_⟩
 ·have hl:(zs.take len).length=len:=by simp;omega
  simp only [bys,RdV]
  refine⟨by decide, .inr ⟨a.block,a.off,a.spot,len,cap,(zs.take len).map (.int .u8),?_,by simp;omega,h1,h2,fun hne=>?_,?_,fun k y hk=>?_⟩⟩
  ·obtain⟨b,o,s⟩:=a;rfl
  ·have h0:0<zs.length:=by
    cases zs with
    |nil=>simp at hne
    |cons=>simp
   have h6:=h4 0 h0
   exact⟨by have:=World.cell?_spot h6;simpa [Addr.add]using this,by have:=aK1 h6;simpa [Addr.add]using this⟩
  ·have hf:((zs.take len).map fun x=>Dt.v (.int .u8 x)).all Dt.isV=true:=by
    rw [List.all_map];exact List.all_eq_true.2 fun _ _=>rfl
   rw [RdL.flat hf,List.map_map];rfl
  ·have hkl:k<len:=by
    have:=(List.getElem?_eq_some_iff.1 hk).1
    simp at this;omega
   have h6:=h4 k (by omega)
   have h7:=h4 0 (by omega)
   have hs:a.spot=none:=by have:=World.cell?_spot h7;simpa [Addr.add]using this
   have h8:=aGP hs h6
   rw [h8]
   simp only [List.getElem?_map,List.getElem?_take]at hk
   rw [if_pos hkl]at hk
   have hz:zs[k]? =some (zs.getD k 0):=by simp [List.getD_eq_getElem?_getD,show k<zs.length by omega]
   rw [hz]at hk
   simpa using hk
 ·have hcap:cap≤9223372036854775807:=by have:=h2;unfold maxLen at this;exact this
  simp;omega
 ·have hi':i<zs.length:=by simp at hi;omega
  have hm:(zs.take len).getD i 0∈zs:=by
   have:(zs.take len).getD i 0=zs.getD i 0:=by
    simp only [List.getD_eq_getElem?_getD,List.getElem?_take]
    rw [if_pos (by simp at hi;omega)]
   rw [this,List.getD_eq_getElem?_getD,List.getElem?_eq_getElem hi',Option.getD_some]
   exact List.getElem_mem hi'
  have:=h5 _ hm
  generalize (zs.take len).getD i 0=n at this⊢
  simp [Lit.wf,IntKind.min,IntKind.max,IntKind.bits,IntKind.signed]at this
  omega
end
end Go.Eng
end
