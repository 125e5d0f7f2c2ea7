/- Plain law: the identity and the inverse of natural maps; composites; isomorphic set functors have as many natural maps into them. -/
import Derived.Test.YtipohdpnhodnmaaGreatA11y
set_option linter.unusedSimpArgs false
set_option linter.unusedVariables false
set_option maxRecDepth 100000
namespace Go.Eng
open Go Go.Proofs Go.Cats
def iuP (f:SF) (i:Nat):List (List Int):=(List.range i).map fun x=>nums (f.sizes.getD x 0).toNat
def bwP (P:List (List Int)) (i:Nat):List (List Int):=(List.range i).map fun x=>bwL (P.getD x []) (P.getD x []).length
section
variable {f g h:SF} {P Q R:List (List Int)} {i x:Nat}
theorem aF3 {F:Nat→List Int} (h:x<i):((List.range i).map F).getD x []=F x:=by
 rw [List.getD_eq_getElem?_getD,List.getElem?_map,List.getElem?_range h];rfl
theorem aAa:iuP f 0=[]:=rfl
theorem aEm:iuP f (i+1)=iuP f i++[nums (f.sizes.getD i 0).toNat]:=by unfold iuP;rw [List.range_succ,List.map_append];rfl
theorem lO:(iuP f i).length=i:=by unfold iuP;rw [List.length_map,List.length_range]
theorem zZ (h:x<i):(iuP f i).getD x []=nums (f.sizes.getD x 0).toNat:=aF3 h
theorem aDL:bwP P 0=[]:=rfl
theorem aJj:bwP P (i+1)=bwP P i++[bwL (P.getD i []) (P.getD i []).length]:=by unfold bwP;rw [List.range_succ,List.map_append];rfl
theorem bwP_len:(bwP P i).length=i:=by unfold bwP;rw [List.length_map,List.length_range]
theorem vC (h:x<i):(bwP P i).getD x []=bwL (P.getD x []) (P.getD x []).length:=aF3 h
theorem aA9 (h:x<i):(thP P Q i).getD x []=thn (P.getD x []) (Q.getD x []):=aF3 h
theorem aPz (hm:IsSM ⟨f,g,P⟩) (hk:IsSM ⟨g,h,Q⟩):IsSM ⟨f,h,thP P Q P.length⟩:=by
 have fl:P.length=f.sizes.length:=hm.fits.len
 have gl:Q.length=g.sizes.length:=hk.fits.len
 have fs:=hm.src.szl
 have gs:=hm.tgt.szl
 have e1:f.shape=g.shape:=hm.same
 have e2:g.shape=h.shape:=hk.same
 have hp:SPair f g:=⟨hm.src,hm.tgt,e1⟩
 have fs:(f.sizes.length:Int)=f.shape.ob:=fs
 have gs:(g.sizes.length:Int)=g.shape.ob:=gs
 rw [e1]at fs
 refine {src:=hm.src,tgt:=hk.tgt,same:=e1.trans e2,fits:=⟨(yT _ _ _).trans fl,fun x hx=>?_⟩,nat:=fun a ha e he=>?_}
 ·have hx:x<P.length:=by have:x<(thP P Q P.length).length:=hx;rwa [yT]at this
  show(((thP P Q P.length).getD x []).length:Int)=f.sizes.getD x 0∧Within ((thP P Q P.length).getD x []) (h.sizes.getD x 0)
  rw [aA9 hx,thn_len]
  have h1:((P.getD x []).length:Int)=f.sizes.getD x 0∧Within (P.getD x []) (g.sizes.getD x 0):=hm.fits.map x hx
  have h2:((Q.getD x []).length:Int)=g.sizes.getD x 0∧Within (Q.getD x []) (h.sizes.getD x 0):=hk.fits.map x (show x<Q.length by omega)
  exact⟨h1.1,thn_in (by rw [h2.1];exact h1.2) h2.2⟩
 ·have ha:a<f.shape.fr.length:=ha
  have he:e<(f.acts.getD a []).length:=he
  obtain⟨t1,t2,t3,t4⟩:=hp.ft ha
  have t1:(f.shape.fr.getD a 0).toNat<f.sizes.length:=t1
  have t2:(f.shape.to.getD a 0).toNat<f.sizes.length:=t2
  have A:=hm.src.act a (by have:=hm.src.acl;show a<f.acts.length;have:f.acts.length=f.shape.fr.length:=this;omega)
  have A1:((f.acts.getD a []).length:Int)=f.sizes.getD (f.shape.fr.getD a 0).toNat 0:=A.1
  have A2:=A.2 e he
  have A2:0≤(f.acts.getD a []).getD e 0∧(f.acts.getD a []).getD e 0<f.sizes.getD (f.shape.to.getD a 0).toNat 0:=A2
  have B:=hm.tgt.act a (by have:g.acts.length=g.shape.fr.length:=hm.tgt.acl;show a<g.acts.length;rw [this,←e1];exact ha)
  have B1:((g.acts.getD a []).length:Int)=g.sizes.getD (g.shape.fr.getD a 0).toNat 0:=B.1
  have X:=hm.fits.map (f.shape.fr.getD a 0).toNat (by show _<P.length;omega)
  have Y:=hm.fits.map (f.shape.to.getD a 0).toNat (by show _<P.length;omega)
  have X1:((P.getD (f.shape.fr.getD a 0).toNat []).length:Int)=f.sizes.getD (f.shape.fr.getD a 0).toNat 0:=X.1
  have X2:Within (P.getD (f.shape.fr.getD a 0).toNat []) (g.sizes.getD (f.shape.fr.getD a 0).toNat 0):=X.2
  have Y1:((P.getD (f.shape.to.getD a 0).toNat []).length:Int)=f.sizes.getD (f.shape.to.getD a 0).toNat 0:=Y.1
  have x2:=X2 e (by omega)
  have n1:(P.getD (f.shape.to.getD a 0).toNat []).getD ((f.acts.getD a []).getD e 0).toNat 0=(g.acts.getD a []).getD ((P.getD (f.shape.fr.getD a 0).toNat []).getD e 0).toNat 0:=hm.nat a ha e he
  rw [←e1]at B1
  have n2:(Q.getD (g.shape.to.getD a 0).toNat []).getD ((g.acts.getD a []).getD ((P.getD (f.shape.fr.getD a 0).toNat []).getD e 0).toNat 0).toNat 0=(h.acts.getD a []).getD ((Q.getD (g.shape.fr.getD a 0).toNat []).getD ((P.getD (f.shape.fr.getD a 0).toNat []).getD e 0).toNat 0).toNat 0:=hk.nat a (by show a<g.shape.fr.length;rw [←e1];exact ha) _ (by show _<(g.acts.getD a []).length;omega)
  rw [←e1]at n2
  show((thP P Q P.length).getD (f.shape.to.getD a 0).toNat []).getD ((f.acts.getD a []).getD e 0).toNat 0=(h.acts.getD a []).getD (((thP P Q P.length).getD (f.shape.fr.getD a 0).toNat []).getD e 0).toNat 0
  rw [aA9 (by omega),aA9 (by omega),thn_at (by omega),thn_at (by omega),n1,n2]
theorem aQ8 (s:IsSF f):IsSM ⟨f,f,iuP f f.sizes.length⟩:=by
 have hp:SPair f f:=⟨s,s,rfl⟩
 refine {src:=s,tgt:=s,same:=rfl,fits:=⟨lO,fun x hx=>?_⟩,nat:=fun a ha e he=>?_}
 ·have hx:x<f.sizes.length:=by have:x<(iuP f f.sizes.length).length:=hx;rwa [lO]at this
  show(((iuP f f.sizes.length).getD x []).length:Int)=f.sizes.getD x 0∧Within ((iuP f f.sizes.length).getD x []) (f.sizes.getD x 0)
  rw [zZ hx,bR]
  have:=s.szw x hx
  refine⟨by omega,fun i hi=>?_⟩
  rw [bR]at hi
  rw [jT hi];omega
 ·have ha:a<f.shape.fr.length:=ha
  have he:e<(f.acts.getD a []).length:=he
  obtain⟨t1,t2,t3,t4⟩:=hp.ft ha
  have t1:(f.shape.fr.getD a 0).toNat<f.sizes.length:=t1
  have t2:(f.shape.to.getD a 0).toNat<f.sizes.length:=t2
  have A:=s.act a (by have:f.acts.length=f.shape.fr.length:=s.acl;show a<f.acts.length;omega)
  have A1:((f.acts.getD a []).length:Int)=f.sizes.getD (f.shape.fr.getD a 0).toNat 0:=A.1
  have A2:0≤(f.acts.getD a []).getD e 0∧(f.acts.getD a []).getD e 0<f.sizes.getD (f.shape.to.getD a 0).toNat 0:=A.2 e he
  show((iuP f f.sizes.length).getD (f.shape.to.getD a 0).toNat []).getD ((f.acts.getD a []).getD e 0).toNat 0=(f.acts.getD a []).getD (((iuP f f.sizes.length).getD (f.shape.fr.getD a 0).toNat []).getD e 0).toNat 0
  rw [zZ t1,zZ t2,jT (by omega),jT (by omega),Int.toNat_natCast]
  omega
theorem aND (hm:IsSM ⟨f,g,Q⟩) (hs:f.sizes=g.sizes) (hb:∀x,x<Q.length→Bij (f.sizes.getD x 0).toNat (Q.getD x [])):IsSM ⟨g,f,bwP Q Q.length⟩:=by
 have fl:Q.length=f.sizes.length:=hm.fits.len
 have e1:f.shape=g.shape:=hm.same
 have hp:SPair f g:=⟨hm.src,hm.tgt,e1⟩
 refine {src:=hm.tgt,tgt:=hm.src,same:=e1.symm,fits:=⟨bwP_len.trans (fl.trans (congrArg List.length hs)),fun x hx=>?_⟩,nat:=fun a ha e he=>?_}
 ·have hx:x<Q.length:=by have:x<(bwP Q Q.length).length:=hx;rwa [bwP_len]at this
  show(((bwP Q Q.length).getD x []).length:Int)=g.sizes.getD x 0∧Within ((bwP Q Q.length).getD x []) (f.sizes.getD x 0)
  have h1:=hm.src.szw x (by show x<f.sizes.length;omega)
  have b:=hb x hx
  have bb:=aCv b
  have bl:=b.len
  have h1:0≤f.sizes.getD x 0:=h1.1
  rw [vC hx,bl,bb.len,←hs]
  refine⟨by omega,fun i hi=>?_⟩
  have:=bb.win i hi
  omega
 ·have ha:a<g.shape.fr.length:=ha
  have he:e<(g.acts.getD a []).length:=he
  obtain⟨t1,t2,t3,t4⟩:=hp.ft (a:=a) (by rw [e1];exact ha)
  have t1:(f.shape.fr.getD a 0).toNat<f.sizes.length:=t1
  have t2:(f.shape.to.getD a 0).toNat<f.sizes.length:=t2
  have A:=hm.src.act a (by have:f.acts.length=f.shape.fr.length:=hm.src.acl;show a<f.acts.length;rw [this,e1];exact ha)
  have A1:((f.acts.getD a []).length:Int)=f.sizes.getD (f.shape.fr.getD a 0).toNat 0:=A.1
  have A2:Within (f.acts.getD a []) (f.sizes.getD (f.shape.to.getD a 0).toNat 0):=A.2
  have B:=hm.tgt.act a (by have:g.acts.length=g.shape.fr.length:=hm.tgt.acl;show a<g.acts.length;omega)
  have B1:((g.acts.getD a []).length:Int)=g.sizes.getD (g.shape.fr.getD a 0).toNat 0:=B.1
  rw [←e1,←hs]at B1
  have bx:=hb (f.shape.fr.getD a 0).toNat (by omega)
  have bY:=hb (f.shape.to.getD a 0).toNat (by omega)
  have r:=jB bx (y:=e) (by omega)
  obtain⟨d,hd⟩:∃d:Nat,(bwL (Q.getD (f.shape.fr.getD a 0).toNat []) (f.sizes.getD (f.shape.fr.getD a 0).toNat 0).toNat).getD e 0=d:=⟨_,(Int.toNat_of_nonneg r.1).symm⟩
  rw [hd,Int.toNat_natCast]at r
  have n1:(Q.getD (f.shape.to.getD a 0).toNat []).getD ((f.acts.getD a []).getD d 0).toNat 0=(g.acts.getD a []).getD ((Q.getD (f.shape.fr.getD a 0).toNat []).getD d 0).toNat 0:=hm.nat a (by show a<f.shape.fr.length;rw [e1];exact ha) d (by show d<(f.acts.getD a []).length;omega)
  rw [r.2.2,Int.toNat_natCast]at n1
  have w:=A2 d (by omega)
  have l:=nF bY (x:=((f.acts.getD a []).getD d 0).toNat) (by omega)
  rw [n1]at l
  show((bwP Q Q.length).getD (g.shape.to.getD a 0).toNat []).getD ((g.acts.getD a []).getD e 0).toNat 0=(f.acts.getD a []).getD (((bwP Q Q.length).getD (g.shape.fr.getD a 0).toNat []).getD e 0).toNat 0
  rw [←e1,vC (by omega),vC (by omega),bx.len,bY.len,hd,l,Int.toNat_natCast]
  omega
theorem aPy (hl:Q.length=f.sizes.length) (hb:∀x,x<Q.length→Bij (f.sizes.getD x 0).toNat (Q.getD x [])):thP Q (bwP Q Q.length) Q.length=iuP f f.sizes.length:=by
 unfold thP iuP
 rw [←hl]
 refine List.map_congr_left fun x hx=>?_
 have hx:=List.mem_range.1 hx
 have b:=hb x hx
 have bl:=b.len
 rw [vC hx,bl]
 refine List.ext_getElem (by rw [thn_len,bR,bl]) fun k k1 k2=>?_
 have q1:=thn_at (f:=Q.getD x []) (g:=bwL (Q.getD x []) (f.sizes.getD x 0).toNat) (i:=k) (by rwa [thn_len]at k1)
 rw [bR]at k2
 have q2:=jT k2
 rw [nF b k2]at q1
 rw [List.getD_eq_getElem?_getD,List.getElem?_eq_getElem k1]at q1
 rw [List.getD_eq_getElem?_getD,List.getElem?_eq_getElem (by rw [bR];exact k2)]at q2
 exact q1.trans q2.symm
theorem mJ (h:SPair f g):Q∈allM f g false↔IsSM ⟨f,g,Q⟩:=by
 have hg:=iM false h
 constructor
 ·intro hQ
  obtain⟨g1,_,g3⟩:=pC h _ _ hg Q hQ
  exact aGU h g1 (fuP_none.1 g3)
 ·intro hm
  obtain⟨k1,k2⟩:=aNm h hm
  exact aGL h _ _ hg (Nat.lt_succ_self _) k1 k2 (aKs k1)
theorem count_le (hp:SPair f g) (hm:IsSM ⟨g,h,Q⟩) (hb:∀x,x<Q.length→Bij (g.sizes.getD x 0).toNat (Q.getD x [])):(allM f g false).length≤(allM f h false).length:=by
 have nd:=vF hp (nu (dD f.sizes)+1) _ (iM false hp)
 have nd:(allM f g false).Nodup:=nd
 have e1:g.shape=h.shape:=hm.same
 have hq:SPair f h:=⟨hp.src,hm.tgt,hp.one.trans e1⟩
 have gl:Q.length=g.sizes.length:=hm.fits.len
 have fs:(f.sizes.length:Int)=f.shape.ob:=hp.src.szl
 have gs:(g.sizes.length:Int)=g.shape.ob:=hp.tgt.szl
 rw [hp.one]at fs
 have nd2:((allM f g false).map fun P=>thP P Q P.length).Nodup:=by
  refine List.Pairwise.map _ (R:=fun a b=>a≠b∧IsSM ⟨f,g,a⟩∧IsSM ⟨f,g,b⟩) (fun a b hab e=>?_) ?_
  ·obtain⟨q,qa,qb⟩:=hab
   have la:a.length=f.sizes.length:=qa.fits.len
   have lb:b.length=f.sizes.length:=qb.fits.len
   refine q (aKj (la.trans lb.symm) (fun y hy=>?_) fun y i hy hi=>?_)
   ·have h1:((a.getD y []).length:Int)=f.sizes.getD y 0:=(qa.fits.map y hy).1
    have h2:((b.getD y []).length:Int)=f.sizes.getD y 0:=(qb.fits.map y (by show y<b.length;omega)).1
    omega
   ·have h1:((a.getD y []).length:Int)=f.sizes.getD y 0∧Within (a.getD y []) (g.sizes.getD y 0):=qa.fits.map y hy
    have h2:((b.getD y []).length:Int)=f.sizes.getD y 0∧Within (b.getD y []) (g.sizes.getD y 0):=qb.fits.map y (by show y<b.length;omega)
    have w1:=h1.2 i hi
    have w2:=h2.2 i (by omega)
    have ey:=congrArg (fun L:List (List Int)=>(L.getD y []).getD i 0) e
    have ey:((thP a Q a.length).getD y []).getD i 0=((thP b Q b.length).getD y []).getD i 0:=ey
    rw [aA9 hy,aA9 (by omega),thn_at hi,thn_at (by omega)]at ey
    have:=(hb y (by omega)).eq (by omega) (by omega) ey
    show(a.getD y []).getD i 0=(b.getD y []).getD i 0
    omega
  ·exact List.Pairwise.imp_of_mem (R:=fun a b=>a≠b) (fun {a b} ha hb q=>⟨q,(mJ hp).1 ha,(mJ hp).1 hb⟩) nd
 have:=List.Nodup.length_le_of_subset nd2 (l₂:=allM f h false) fun R hR=>by
  obtain⟨P,hP,rfl⟩:=List.mem_map.1 hR
  exact(mJ hq).2 (aPz ((mJ hp).1 hP) hm)
 rwa [List.length_map]at this
theorem aJ2 (hp:SPair f g) (hs:f.sizes=g.sizes) (hQ:Q∈allM f g true):IsSM ⟨f,g,Q⟩∧∀x,x<Q.length→Bij (f.sizes.getD x 0).toNat (Q.getD x []):=by
 obtain⟨g1,_,g3⟩:=pC hp _ _ (iM true hp) Q hQ
 have hF:=fuP_none.1 g3
 refine⟨aGU hp g1 hF,fun x hx=>?_⟩
 have r:=g1.row x hx
 refine⟨by omega,fun i hi=>?_,fun i j hij hj h0 e=>?_⟩
 ·have h1:=hF x i hx hi
  have h2:=(g1.rng x i hx hi).2
  have h1:0≤(Q.getD x []).getD i 0:=h1
  have h2:(Q.getD x []).getD i 0<g.sizes.getD x 0:=h2
  rw [←hs]at h2
  omega
 ·have:=g1.inj rfl x i j hx (by omega) hj h0 e
  omega
theorem aIc (hp:SPair f g) (hs:f.sizes=g.sizes) (hm:IsSM ⟨f,g,Q⟩) (hb:∀x,x<Q.length→Bij (f.sizes.getD x 0).toNat (Q.getD x [])):(allM f g false).length=(allM f f false).length:=by
 have hf:SPair f f:=⟨hp.src,hp.src,rfl⟩
 have h1:=count_le hf hm hb
 have h2:=count_le (f:=f) hp (aND hm hs hb) fun x hx=>by
  rw [bwP_len]at hx
  have b:=hb x hx
  rw [vC hx,b.len,←hs]
  exact aCv b
 omega
end
end Go.Eng
