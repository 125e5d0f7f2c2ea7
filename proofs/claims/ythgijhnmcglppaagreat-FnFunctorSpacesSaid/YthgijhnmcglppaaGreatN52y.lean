/- Several texts in one: N52, J02. -/
import Derived.Test.YthgijhnmcglppaaGreatKabx
set_option linter.unusedSimpArgs false
set_option linter.unusedVariables false
set_option maxRecDepth 100000
set_option maxHeartbeats 16000000
section
namespace Go.Cats
open Go.Eng
section
variable {c d:Cat} {L:List Fun} {i j:Nat} {r t s q:List Int} {f g:Fun}
theorem nP {l m:List Int} (h:l.length=m.length) (k:∀i,i<l.length→l.getD i 0=m.getD i 0):l=m:=by
 refine List.ext_getElem h fun i h1 h2=>?_
 have:=k i h1
 rw [List.getD_eq_getElem?_getD,List.getElem?_eq_getElem h1,List.getD_eq_getElem?_getD,List.getElem?_eq_getElem h2]at this
 exact this
theorem oR (d:Cat) (L:List Fun):fcK d L=gS L.length (fcA L) (fcI L) (fcC d):=by
 unfold fcK fcN gS tH
 simp only [List.take_length]
theorem jR {x:Nat}:(r.drop 2).getD x 0=r.getD (x+2) 0:=by
 rw [List.getD_eq_getElem?_getD,List.getElem?_drop,List.getD_eq_getElem?_getD,Nat.add_comm]
theorem yW:(fQ f).length=f.obs.length:=by unfold fQ;rw [List.length_map]
theorem aN5 (sd:IsCat d) (hf:f.tgt=d) (hl:t.length=f.obs.length) (ht:∀x,x<t.length→t.getD x 0∈d.hom (f.obs.getD x 0) (g.obs.getD x 0)):cmpL d (fQ f) t=t:=by
 refine nP (by rw [bS,yW,hl]) fun x hx=>?_
 rw [bS,yW]at hx
 rw [gK (by rw [yW];exact hx),oC hx,hf]
 obtain⟨a0,a1,a2,a3⟩:=Cat.mem_hom.1 (ht x (by omega))
 have:=sd.unl (t.getD x 0).toNat (by omega)
 rw [Int.toNat_of_nonneg a0]at this
 have e:d.F (t.getD x 0)=f.obs.getD x 0:=a2
 rw [e]at this
 exact this
theorem aN6 (sd:IsCat d) (hg:g.tgt=d) (hl:t.length=g.obs.length) (ht:∀x,x<t.length→t.getD x 0∈d.hom (f.obs.getD x 0) (g.obs.getD x 0)):cmpL d t (fQ g)=t:=by
 refine nP (by rw [bS]) fun x hx=>?_
 rw [bS]at hx
 rw [gK hx,oC (by omega),hg]
 obtain⟨a0,a1,a2,a3⟩:=Cat.mem_hom.1 (ht x hx)
 have:=sd.unr (t.getD x 0).toNat (by omega)
 rw [Int.toNat_of_nonneg a0]at this
 have e:d.T (t.getD x 0)=g.obs.getD x 0:=a3
 rw [e]at this
 exact this
theorem ArrF.hom (h:FL c d L) (a:ArrF c d L r) {x:Nat} (hx:x<c.ob.toNat):r.getD (x+2) 0∈d.hom ((L.getD (r.getD 0 0).toNat default).obs.getD x 0) ((L.getD (r.getD 1 0).toNat default).obs.getD x 0):=by
 have hl:=a.len
 have:=(mem_natA.1 a.nat).2.end_ x (by rw [List.length_drop];omega)
 rw [jR,(h _ a.i1).2.1]at this
 exact this
theorem FL.obl (h:FL c d L) (sc:IsCat c) (hi:i<L.length):(L.getD i default).obs.length=c.ob.toNat:=by
 have:=(h i hi).2.2.obl
 rw [(h i hi).1]at this
 have:=sc.toShape.ob0
 omega
theorem aGY (h:FL c d L) (sc:IsCat c) (sd:IsCat d) (h8:L.length≤8) (h40:(fcA L).length≤40):TabOK L.length (fcA L) (fcI L) (fcC d):=by
 refine⟨h8,h40,aC8,fun r hr=>?_,fun r hr=>?_,fun i hi=>⟨aD7 h sc sd hi,rfl,rfl⟩,fun r hr s hs e=>⟨aId h sc sd hr hs e,rfl,rfl⟩,fun r hr=>?_,fun r hr=>?_,fun r hr s hs q hq e1 e2=>?_⟩
 ·have a:=h.arr hr
  exact⟨a.i0,by have:=a.i1;have:=a.i0;omega⟩
 ·have a:=h.arr hr
  exact⟨a.j0,by have:=a.j1;have:=a.j0;omega⟩
 ·have a:=h.arr hr
  have hl:=a.len
  have ho:=h.obl sc a.i1
  have hu:cmpL d (fQ (L.getD (r.getD 0 0).toNat default)) (r.drop 2)=r.drop 2:=aN5 (g:=L.getD (r.getD 1 0).toNat default) sd (h _ a.i1).2.1 (by rw [List.length_drop];omega) fun x hx=>by
   rw [List.length_drop]at hx
   rw [jR];exact a.hom h (by omega)
  show(((r.getD 0 0).toNat:Nat):Int)::r.getD 1 0::cmpL d (fQ (L.getD (r.getD 0 0).toNat default)) (r.drop 2)=r
  rw [hu,Int.toNat_of_nonneg a.i0,←a.eta]
 ·have a:=h.arr hr
  have hl:=a.len
  have ho:=h.obl sc a.j1
  have hu:cmpL d (r.drop 2) (fQ (L.getD (r.getD 1 0).toNat default))=r.drop 2:=aN6 (f:=L.getD (r.getD 0 0).toNat default) sd (h _ a.j1).2.1 (by rw [List.length_drop];omega) fun x hx=>by
   rw [List.length_drop]at hx
   rw [jR];exact a.hom h (by omega)
  show r.getD 0 0::(((r.getD 1 0).toNat:Nat):Int)::cmpL d (r.drop 2) (fQ (L.getD (r.getD 1 0).toNat default))=r
  rw [hu,Int.toNat_of_nonneg a.j0,←a.eta]
 ·have a:=h.arr hr
  have b:=h.arr hs
  have k:=h.arr hq
  have al:=a.len
  have bl:=b.len
  have kl:=k.len
  show r.getD 0 0::q.getD 1 0::cmpL d (cmpL d (r.drop 2) (s.drop 2)) (q.drop 2)=r.getD 0 0::q.getD 1 0::cmpL d (r.drop 2) (cmpL d (s.drop 2) (q.drop 2))
  refine congrArg (fun z=>r.getD 0 0::q.getD 1 0::z) (nP (by rw [bS,bS,bS]) fun x hx=>?_)
  rw [bS,bS,List.length_drop]at hx
  rw [gK (by rw [bS,List.length_drop];omega),gK (by rw [List.length_drop];omega),gK (by rw [List.length_drop];omega),gK (by rw [List.length_drop];omega)]
  have h1:=a.hom h (x:=x) (by omega)
  have h2:=b.hom h (x:=x) (by omega)
  have h3:=k.hom h (x:=x) (by omega)
  rw [←e1]at h2
  rw [←e2]at h3
  rw [jR,jR,jR]
  exact assI sd h1 h2 h3
theorem aIe (h:FL c d L) (sc:IsCat c) (sd:IsCat d) (h8:L.length≤8) (h40:(fcA L).length≤40):IsCat (fcK d L):=by
 rw [oR];exact(aGY h sc sd h8 h40).cat
theorem aQK (h:FL c d L) (sc:IsCat c) (sd:IsCat d) (h8:L.length≤8) (h40:(fcA L).length≤40) {x:Nat} (hx:x<c.ob.toNat):
  IsFun ⟨fcK d L,d,L.map fun f=>f.obs.getD x 0,(fcA L).map fun t=>t.getD (x+2) 0⟩:=by
 have e:(L.map fun f=>f.obs.getD x 0)=(List.range L.length).map fun i=>(L.getD i default).obs.getD x 0:=by
  refine List.ext_getElem (by rw [List.length_map,List.length_map,List.length_range]) fun i h1 h2=>?_
  rw [List.length_map]at h1
  rw [List.getElem_map,List.getElem_map,List.getElem_range,List.getD_eq_getElem?_getD (l:=L),List.getElem?_eq_getElem h1];rfl
 rw [oR,e]
 refine(aGY h sc sd h8 h40).func (P:=fun i=>(L.getD i default).obs.getD x 0) (k:=x+2) sd (fun i hi=>?_) (fun r hr=>?_) (fun r hr=>?_) (fun i hi=>?_) (fun r hr s hs e=>?_)
 ·have ho:=h.obl sc hi
  have:=(h i hi).2.2.obw x (by omega)
  rw [(h i hi).2.1]at this
  exact this
 ·exact h.comp hr x hx
 ·obtain⟨a0,a1,a2,a3⟩:=Cat.mem_hom.1 ((h.arr hr).hom h hx)
  exact⟨a2,a3⟩
 ·have ho:=h.obl sc hi
  show(fQ (L.getD i default)).getD x 0=_
  rw [oC (by omega),(h i hi).2.1]
 ·have hl:=(h.arr hr).len
  show(cmpL d (r.drop 2) (s.drop 2)).getD x 0=_
  rw [gK (by rw [List.length_drop];omega),jR,jR]
end
end Go.Cats
end
section
namespace Go.Eng
open Go Go.Proofs Go.Cats
section
variable {c d:Cat} {x:Nat}
theorem aGS {a n:Nat} (h:a<n):(diA c d n).getD a 0=fnd (fcA (fcL c d)) (diK c d a):=by
 unfold diA;rw [List.getD_eq_getElem?_getD,List.getElem?_map,List.getElem?_range h];rfl
theorem rC {n x:Nat} {z:Int} (h:x<n):(List.replicate n z).getD x 0=z:=by
 rw [List.getD_eq_getElem?_getD,List.getElem?_replicate,if_pos h];rfl
theorem aFd (sc:IsCat c) (sd:IsCat d) (hL:(fcL c d).length≤8) {a:Nat} (ha:a<d.fr.length):∃k:Nat,k<(fcA (fcL c d)).length∧(fcA (fcL c d)).getD k []=diK c d a∧(diA c d d.fr.length).getD a 0=k:=by
 obtain⟨k,h1,h2,h3⟩:=vW (aH7 sc sd hL ha)
 exact⟨k,h1,h2,by rw [aGS ha,h3]⟩
theorem aLk:evF c d (x:Int)=⟨fcK d (fcL c d),d,(fcL c d).map fun f=>f.obs.getD x 0,(fcA (fcL c d)).map fun t=>t.getD (x+2) 0⟩:=by
 unfold evF qP uB
 rw [List.take_length,List.take_length,Int.toNat_natCast,show(2+(x:Int)).toNat=x+2 by omega]
theorem aIa (sc:IsCat c) (sd:IsCat d) (hy:FcY c d) (hx:x<c.ob.toNat):IsFun (evF c d (x:Int)):=by
 rw [aLk]
 exact aQK FL.of_funX sc sd hy.2.1 hy.2.2 hx
theorem aQE (sc:IsCat c) (sd:IsCat d) (hy:FcY c d):IsFun (diF c d):=by
 have hfl:FL c d (fcL c d):=FL.of_funX
 have hT:=aGY hfl sc sd hy.2.1 hy.2.2
 have hK:=aIe hfl sc sd hy.2.1 hy.2.2
 have d0:=sd.toShape.ob0
 have dl:=sd.toShape.tol
 have il:=sd.toShape.idl
 have hob:=fun(y:Nat) (h:(y:Int)<d.ob)=>aCR sc sd hy.2.1 h
 have hm:=aGv (n:=(fcL c d).length) (A:=fcA (fcL c d)) (U:=fcI (fcL c d)) (cp:=fcC d)
 have hO:∀y:Int,0≤y→y<d.ob→(diO c d d.ob.toNat).getD y.toNat 0=(cnI c d y.toNat:Int):=fun y h0 h1=>qM (by omega)
 refine⟨sd,hK,?_,?_,fun y hl=>?_,fun a ha=>?_,fun a ha=>?_,fun y hl=>?_,fun a b ha hb h0=>?_⟩
 ·show((diO c d d.ob.toNat).length:Int)=d.ob;rw [iT];omega
 ·show(diA c d d.fr.length).length=d.fr.length;rw [iS]
 ·have hl:y<d.ob.toNat:=by
   have:y<(diO c d d.ob.toNat).length:=hl
   rwa [iT]at this
  show 0≤(diO c d d.ob.toNat).getD y 0∧(diO c d d.ob.toNat).getD y 0<((fcL c d).length:Int)
  rw [qM hl]
  have:=(hob y (by omega)).lt
  omega
 ·have ha:a<d.fr.length:=by
   have:a<(diA c d d.fr.length).length:=ha
   rwa [iS]at this
  obtain⟨k,k1,k2,k3⟩:=aFd sc sd hy.2.1 ha
  show 0≤(diA c d d.fr.length).getD a 0∧(diA c d d.fr.length).getD a 0<((fcK d (fcL c d)).fr.length:Int)
  rw [k3,oR,hm]
  omega
 ·have ha:a<d.fr.length:=by
   have:a<(diA c d d.fr.length).length:=ha
   rwa [iS]at this
  obtain⟨k,k1,k2,k3⟩:=aFd sc sd hy.2.1 ha
  have f1:=sd.toShape.frw a ha
  have f2:=sd.toShape.tow a (by omega)
  show(fcK d (fcL c d)).F ((diA c d d.fr.length).getD a 0)=(diO c d d.ob.toNat).getD (d.F (a:Int)).toNat 0∧(fcK d (fcL c d)).T ((diA c d d.fr.length).getD a 0)=(diO c d d.ob.toNat).getD (d.T (a:Int)).toNat 0
  unfold Cat.F Cat.T
  rw [Int.toNat_natCast,hO _ f1.1 f1.2,hO _ f2.1 f2.2,k3,Int.toNat_natCast,oR,aCa k1,aCb k1,k2]
  exact⟨rfl,rfl⟩
 ·have hl:y<d.id.length:=hl
  have iw:=sd.toShape.idw y hl
  have ie:=sd.toShape.ide y hl
  have hyo:(y:Int)<d.ob:=by omega
  have o:=hob y hyo
  show(diA c d d.fr.length).getD (d.id.getD y 0).toNat 0=(fcK d (fcL c d)).id.getD ((diO c d d.ob.toNat).getD (y:Int).toNat 0).toNat 0
  rw [aGS (by omega),Int.toNat_natCast,qM (by omega),Int.toNat_natCast,oR,aNG o.lt]
  have e1:d.fr.getD (d.id.getD y 0).toNat 0=y:=ie.1
  have e2:d.to.getD (d.id.getD y 0).toNat 0=y:=ie.2
  congr 1
  unfold diK fcI
  rw [e1,e2,Int.toNat_natCast]
  refine congrArg (fun z=>(cnI c d y:Int)::(cnI c d y:Int)::z) ?_
  rw [aGx (hfl _ o.lt).2.1,o.po]
  unfold cnO
  rw [List.map_replicate,Int.toNat_natCast,Int.toNat_of_nonneg iw.1]
 ·have ha:a<d.fr.length:=ha
  have hb:b<d.fr.length:=hb
  have h0:0≤d.C (a:Int) (b:Int):=h0
  have hT2:d.T (a:Int)=d.F (b:Int):=by
   have:=sd.toShape.neg ha hb
   exact Classical.byContradiction fun q=>by have:=this.2 q;omega
  obtain⟨c0,c1,c2,c3⟩:=sd.toShape.compI (f:=(a:Int)) (g:=(b:Int)) (by omega) (by omega) (by omega) (by omega) hT2
  obtain⟨k,k1,k2,k3⟩:=aFd sc sd hy.2.1 ha
  obtain⟨l,l1,l2,l3⟩:=aFd sc sd hy.2.1 hb
  have tb:d.to.getD a 0=d.fr.getD b 0:=by
   have:=hT2
   unfold Cat.T Cat.F at this
   rwa [Int.toNat_natCast,Int.toNat_natCast]at this
  show(diA c d d.fr.length).getD (d.C (a:Int) (b:Int)).toNat 0=(fcK d (fcL c d)).C ((diA c d d.fr.length).getD (a:Int).toNat 0) ((diA c d d.fr.length).getD (b:Int).toNat 0)
  rw [Int.toNat_natCast,Int.toNat_natCast,k3,l3,aGS (by omega),oR,aIP k1 l1,k2,l2]
  have e0:(diK c d a).getD 1 0=(cnI c d (d.to.getD a 0).toNat:Int):=rfl
  have e1:(diK c d b).getD 0 0=(cnI c d (d.fr.getD b 0).toNat:Int):=rfl
  rw [if_pos (by rw [e0,e1,tb])]
  congr 1
  have g2:d.fr.getD (d.C (a:Int) (b:Int)).toNat 0=d.fr.getD a 0:=by
   have:=c2
   unfold Cat.F at this
   rwa [Int.toNat_natCast]at this
  have g3:d.to.getD (d.C (a:Int) (b:Int)).toNat 0=d.to.getD b 0:=by
   have:=c3
   unfold Cat.T at this
   rwa [Int.toNat_natCast]at this
  show diK c d (d.C (a:Int) (b:Int)).toNat=(diK c d a).getD 0 0::(diK c d b).getD 1 0::cmpL d ((diK c d a).drop 2) ((diK c d b).drop 2)
  have g4:(diK c d a).drop 2=List.replicate c.ob.toNat (a:Int):=rfl
  have g5:(diK c d b).drop 2=List.replicate c.ob.toNat (b:Int):=rfl
  rw [g4,g5]
  unfold diK
  rw [g2,g3]
  refine congrArg (fun z=>(cnI c d (d.fr.getD a 0).toNat:Int)::(cnI c d (d.to.getD b 0).toNat:Int)::z) (nP (by rw [bS,List.length_replicate,List.length_replicate]) fun i hi=>?_)
  rw [List.length_replicate]at hi
  rw [rC hi,gK (by rw [List.length_replicate];exact hi),rC hi,rC hi]
  omega
theorem aTr (sc:IsCat c) (sd:IsCat d) (hy:FcY c d) (hx:x<c.ob.toNat):thF (diF c d) (evF c d (x:Int))=cX d:=by
 have d0:=sd.toShape.ob0
 have h1:thn (diO c d d.ob.toNat) ((fcL c d).map fun f=>f.obs.getD x 0)=nums d.ob.toNat:=by
  refine nP (by rw [thn_len,iT,eV]) fun y hl=>?_
  rw [thn_len,iT]at hl
  rw [thn_at (by rw [iT];exact hl),qM hl,Int.toNat_natCast,aEf hl]
  have o:=aCR (y:=y) sc sd hy.2.1 (by omega)
  rw [List.getD_eq_getElem?_getD,List.getElem?_map,List.getElem?_eq_getElem o.lt]
  have e:(fcL c d)[cnI c d y]'o.lt=(fcL c d).getD (cnI c d y) default:=by rw [List.getD_eq_getElem?_getD,List.getElem?_eq_getElem o.lt];rfl
  show((fcL c d)[cnI c d y]'o.lt).obs.getD x 0=y
  rw [e,o.po]
  unfold cnO
  rw [rC hx]
 have h2:thn (diA c d d.fr.length) ((fcA (fcL c d)).map fun t=>t.getD (x+2) 0)=nums d.fr.length:=by
  refine nP (by rw [thn_len,iS,eV]) fun a hl=>?_
  rw [thn_len,iS]at hl
  obtain⟨k,k1,k2,k3⟩:=aFd sc sd hy.2.1 hl
  rw [thn_at (by rw [iS];exact hl),k3,Int.toNat_natCast,lL (f:=fun t=>t.getD (x+2) 0) k1,k2,aEf hl]
  show(List.replicate c.ob.toNat (a:Int)).getD x 0=a
  rw [rC hx]
 rw [aLk]
 show(⟨d,d,thn (diO c d d.ob.toNat) _,thn (diA c d d.fr.length) _⟩:Fun)=⟨d,d,nums d.ob.toNat,nums d.fr.length⟩
 rw [h1,h2]
end
end Go.Eng
end
