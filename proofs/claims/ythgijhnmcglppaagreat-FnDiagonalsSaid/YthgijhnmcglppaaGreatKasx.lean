/- Plain law: functor categories: the list of their arrows, that identities and composites are in it, that none is in it twice. -/
import Derived.Test.YthgijhnmcglppaaGreatKux
set_option linter.unusedSimpArgs false
set_option linter.unusedVariables false
namespace Go.Cats
open Go.Eng
def FL (c d:Cat) (L:List Fun):Prop:=∀i,i<L.length→(L.getD i default).src=c∧(L.getD i default).tgt=d∧Fits (L.getD i default)
theorem FL.par {c d:Cat} {L:List Fun} (h:FL c d L) (sc:IsCat c) (sd:IsCat d) {i j:Nat} (hi:i<L.length) (hj:j<L.length):Par (L.getD i default) (L.getD j default):=by
 obtain⟨a1,a2,a3⟩:=h i hi
 obtain⟨b1,b2,b3⟩:=h j hj
 exact⟨by rw [a1];exact sc,by rw [a2];exact sd,a3,b3,by rw [a1,b1],by rw [a2,b2]⟩
theorem Fun.eta {f:Fun} {c d:Cat} (h1:f.src=c) (h2:f.tgt=d):(⟨c,d,f.obs,f.ars⟩:Fun)=f:=by subst h1;subst h2;rfl
theorem FL.of_funX {c d:Cat} {r:Nat} {X:List Int}:FL c d (dU c d false r X):=fun i hi=>by
 have hm:=qW (bI (d:=default) hi)
 obtain⟨h1,h2,_,h4⟩:=hm
 have h5:=(WA_iff.1 h4).1
 rw [Fun.eta h1 h2]at h5
 exact⟨h1,h2,h5⟩
theorem FL.take {c d:Cat} {L:List Fun} (h:FL c d L) (n:Nat):FL c d (L.take n):=fun i hi=>by
 have hl:i<n∧i<L.length:=by rw [List.length_take]at hi;omega
 have e:(L.take n).getD i default=L.getD i default:=by
  rw [List.getD_eq_getElem?_getD,List.getElem?_take,if_pos hl.1,←List.getD_eq_getElem?_getD]
 rw [e];exact h i hl.2
theorem mem_natA {f g:Fun} {t:List Int}:t∈gQ f g↔t.length=f.src.ob.toNat∧NatP f g t:=by
 unfold gQ qB
 rw [mem_extW,natW_iff,mem_lexP,kE]
 constructor
 ·rintro⟨⟨h1,_⟩,_,h3⟩;exact⟨h1,h3⟩
 ·rintro⟨h1,h3⟩
  refine⟨⟨h1,fun i hi=>?_⟩,contB_iff.2 ⟨by simp [h1],fun j hj h0=>?_⟩,h3⟩
  ·have:=Cat.mem_hom.1 (h3.end_ i hi)
   rw [xA (by omega)]
   exact⟨this.1,this.2.1⟩
  ·rw [List.nil_append]at h0 hj
   rw [List.length_replicate]at hj
   rw [sR,if_pos hj]at h0
   omega
theorem aHf (f g:Fun):(gQ f g).Nodup:=by
 unfold gQ qB dE
 exact List.Pairwise.filter _ (uH _)
/-! ### The arrows -/
noncomputable def fcE (L:List Fun) (i j:Nat):List (List Int):=(gQ (L.getD i default) (L.getD j default)).map fun t=>(i:Int)::(j:Int)::t
noncomputable def fcR (L:List Fun) (i j:Nat):List (List Int):=gO j fun j=>fcE L i j
noncomputable def fcP (L:List Fun) (i j:Nat):List (List Int):=gO i (fun i=>fcR L i L.length)++fcR L i j
noncomputable def fcA (L:List Fun):List (List Int):=fcP L L.length 0
section
variable {c d:Cat} {L:List Fun} {i j:Nat} {r t s:List Int}
theorem qR:fcP L 0 0=[]:=rfl
theorem aA8:fcP L i (j+1)=fcP L i j++fcE L i j:=by
 unfold fcP fcR;rw [iI,List.append_assoc]
theorem aFm:fcP L i L.length=fcP L (i+1) 0:=by
 unfold fcP;rw [iI,fcR,fcR,xX,List.append_nil]
theorem aGW:fcA L=gO L.length fun i=>fcR L i L.length:=by
 unfold fcA fcP fcR;rw [xX,List.append_nil]
theorem aFb {α:Type} {n i:Nat} {f:Nat→List α} (h:i≤n):∃r,gO n f=gO i f++r:=by
 induction n with
 |zero=>exact⟨[],by rw [List.append_nil,show i=0 by omega]⟩
 |succ n ih=>
  by_cases e:i=n+1
  ·subst e;exact⟨[],by rw [List.append_nil]⟩
  ·obtain⟨r,hr⟩:=ih (by omega)
   exact⟨r++f n,by rw [iI,hr,List.append_assoc]⟩
theorem aOn (hi:i<L.length) (hj:j≤L.length):∃R,fcA L=fcP L i j++R:=by
 obtain⟨r1,h1⟩:=aFb (f:=fun i=>fcR L i L.length) (show i+1≤L.length from hi)
 obtain⟨r2,h2⟩:=aFb (f:=fun j=>fcE L i j) hj
 rw [iI]at h1
 refine⟨r2++r1,?_⟩
 rw [aGW,h1]
 unfold fcP
 rw [show fcR L i L.length=fcR L i j++r2 from h2]
 simp
theorem aGX (hi:i<L.length) (hj:j≤L.length):(fcP L i j).length≤(fcA L).length:=by
 obtain⟨R,hR⟩:=aOn hi hj
 rw [hR,List.length_append];omega
theorem aD6:(fcE L i j).length=(gQ (L.getD i default) (L.getD j default)).length:=by unfold fcE;rw [List.length_map]
theorem mem_fcE:r∈fcE L i j↔∃t,t∈gQ (L.getD i default) (L.getD j default)∧r=(i:Int)::(j:Int)::t:=by
 unfold fcE
 rw [List.mem_map]
 constructor
 ·rintro⟨t,h,rfl⟩;exact⟨t,h,rfl⟩
 ·rintro⟨t,h,rfl⟩;exact⟨t,h,rfl⟩
theorem mem_fcA:r∈fcA L↔∃i j:Nat,∃t,i<L.length∧j<L.length∧t∈gQ (L.getD i default) (L.getD j default)∧r=(i:Int)::(j:Int)::t:=by
 rw [aGW,mem_coll]
 constructor
 ·rintro⟨i,hi,h⟩
  obtain⟨j,hj,h⟩:=mem_coll.1 h
  obtain⟨t,ht,e⟩:=mem_fcE.1 h
  exact⟨i,j,t,hi,hj,ht,e⟩
 ·rintro⟨i,j,t,hi,hj,ht,e⟩
  exact⟨i,hi,mem_coll.2 ⟨j,hj,mem_fcE.2 ⟨t,ht,e⟩⟩⟩
theorem aC8:(fcA L).Nodup:=by
 rw [aGW]
 refine lD (fun i _=>lD (fun j _=>?_) ?_) ?_
 ·unfold fcE
  refine(aHf _ _).map _ ?_
  intro a b h1 h2
  simp only [List.cons.injEq,true_and]at h2
  exact h1 h2
 ·intro j j' x _ _ h h'
  obtain⟨t,_,e⟩:=mem_fcE.1 h
  obtain⟨t',_,e'⟩:=mem_fcE.1 h'
  rw [e]at e'
  simp only [List.cons.injEq,true_and]at e'
  omega
 ·intro j j' x _ _ h h'
  obtain⟨k,_,h⟩:=mem_coll.1 h
  obtain⟨k',_,h'⟩:=mem_coll.1 h'
  obtain⟨t,_,e⟩:=mem_fcE.1 h
  obtain⟨t',_,e'⟩:=mem_fcE.1 h'
  rw [e]at e'
  simp only [List.cons.injEq]at e'
  omega
structure ArrF (c d:Cat) (L:List Fun) (r:List Int):Prop where
 len:r.length=c.ob.toNat+2
 i0:0≤r.getD 0 0
 i1:(r.getD 0 0).toNat<L.length
 j0:0≤r.getD 1 0
 j1:(r.getD 1 0).toNat<L.length
 nat:r.drop 2∈gQ (L.getD (r.getD 0 0).toNat default) (L.getD (r.getD 1 0).toNat default)
theorem FL.arr (h:FL c d L) (hr:r∈fcA L):ArrF c d L r:=by
 obtain⟨i,j,t,hi,hj,ht,rfl⟩:=mem_fcA.1 hr
 have h1:=(mem_natA.1 ht).1
 rw [(h i hi).1]at h1
 exact⟨by simp [h1],by simp,by simpa using hi,by simp,by simpa using hj,by simpa using ht⟩
theorem ArrF.eta (h:ArrF c d L r):r=r.getD 0 0::r.getD 1 0::r.drop 2:=by
 have:=h.len
 match r,this with
 |a::b::l,_=>rfl
theorem FL.comp (h:FL c d L) (hr:r∈fcA L):∀x,x<c.ob.toNat→0≤r.getD (x+2) 0∧r.getD (x+2) 0<d.fr.length:=fun x hx=>by
 have ha:=h.arr hr
 have h1:=(mem_natA.1 ha.nat)
 have hl:=ha.len
 have h2:=Cat.mem_hom.1 (h1.2.end_ x (by rw [List.length_drop];omega))
 rw [(h _ ha.i1).2.1]at h2
 have e:(r.drop 2).getD x 0=r.getD (x+2) 0:=by
  rw [List.getD_eq_getElem?_getD,List.getElem?_drop,List.getD_eq_getElem?_getD,Nat.add_comm]
 rw [e]at h2
 exact⟨h2.1,h2.2.1⟩
theorem FL.comp_d (h:FL c d L) (hr:r∈fcA L):Within (r.drop 2) d.fr.length:=fun x hx=>by
 have hl:=(h.arr hr).len
 rw [List.length_drop]at hx
 have e:(r.drop 2).getD x 0=r.getD (x+2) 0:=by
  rw [List.getD_eq_getElem?_getD,List.getElem?_drop,List.getD_eq_getElem?_getD,Nat.add_comm]
 rw [e]
 exact h.comp hr x (by omega)
/-! ### Identities and composites -/
def cmpL (d:Cat) (s t:List Int):List Int:=(List.range s.length).map fun x=>d.C (s.getD x 0) (t.getD x 0)
theorem bS {d:Cat}:(cmpL d s t).length=s.length:=by unfold cmpL;rw [List.length_map,List.length_range]
theorem gK {d:Cat} {x:Nat} (hx:x<s.length):(cmpL d s t).getD x 0=d.C (s.getD x 0) (t.getD x 0):=by
 unfold cmpL
 rw [List.getD_eq_getElem?_getD,List.getElem?_map,List.getElem?_range hx];rfl
def fQ (f:Fun):List Int:=f.obs.map fun y=>f.tgt.id.getD y.toNat 0
theorem oC {f:Fun} {x:Nat} (hx:x<f.obs.length):(fQ f).getD x 0=f.tgt.I (f.obs.getD x 0):=by
 unfold fQ
 rw [List.getD_eq_getElem?_getD,List.getElem?_map,List.getElem?_eq_getElem hx,List.getD_eq_getElem?_getD (l:=f.obs),List.getElem?_eq_getElem hx];rfl
theorem aAw {f:Fun} (sc:Shape f.src) (hf:Fits f) {a:Nat} (ha:a<f.src.fr.length):f.ars.getD a 0∈f.tgt.hom (f.O (f.src.fr.getD a 0)) (f.O (f.src.to.getD a 0)):=by
 have h1:=hf.arl
 have h2:=hf.arw a (by omega)
 have h3:=hf.endf a (by omega)
 exact Cat.mem_hom.2 ⟨h2.1,h2.2,h3.1,h3.2⟩
theorem aQS {c:Cat} (sc:IsCat c) {x:Int} (h0:0≤x) (h1:x<c.ob):c.I x∈c.hom x x:=by
 have hl:=sc.toShape.idl
 have h2:=sc.toShape.idw x.toNat (by omega)
 have h3:=sc.toShape.ide x.toNat (by omega)
 rw [Int.toNat_of_nonneg h0]at h3
 exact Cat.mem_hom.2 ⟨h2.1,h2.2,h3.1,h3.2⟩
theorem aOO {f:Fun} (hs:IsCat f.src) (ht:IsCat f.tgt) (hf:Fits f):fQ f∈gQ f f:=by
 have hl:=hf.obl
 have h0:=hs.toShape.ob0
 refine mem_natA.2 ⟨by unfold fQ;rw [List.length_map];omega,fun x hx=>?_,fun a ha=>?_⟩
 ·have hx:x<f.obs.length:=by unfold fQ at hx;rwa [List.length_map]at hx
  rw [oC hx]
  have:=hf.obw x hx
  exact aQS ht this.1 this.2
 ·have f1:=hs.toShape.frw a ha
  have f2:=hs.toShape.tow a (by rw [hs.toShape.tol];exact ha)
  have hh:=Cat.mem_hom.1 (aAw hs.toShape hf ha)
  unfold SqP
  rw [oC (by omega),oC (by omega)]
  have e1:=ht.unr (f.ars.getD a 0).toNat (by omega)
  have e2:=ht.unl (f.ars.getD a 0).toNat (by omega)
  rw [Int.toNat_of_nonneg hh.1]at e1 e2
  have e3:f.tgt.T (f.ars.getD a 0)=f.obs.getD (f.src.to.getD a 0).toNat 0:=hh.2.2.2
  have e4:f.tgt.F (f.ars.getD a 0)=f.obs.getD (f.src.fr.getD a 0).toNat 0:=hh.2.2.1
  rw [e3]at e1
  rw [e4]at e2
  rw [e1,e2]
theorem aLE {d:Cat} (sd:IsCat d) {x y z a b:Int} (ha:a∈d.hom x y) (hb:b∈d.hom y z):d.C a b∈d.hom x z:=by
 obtain⟨a0,a1,a2,a3⟩:=Cat.mem_hom.1 ha
 obtain⟨b0,b1,b2,b3⟩:=Cat.mem_hom.1 hb
 have h:=(sd.toShape.coe a.toNat (by omega)).2 b.toNat (by omega)
 unfold Cat.Entry at h
 rw [Int.toNat_of_nonneg a0,Int.toNat_of_nonneg b0]at h
 rcases h with⟨h1,h2,h3,h4⟩|⟨h1,_⟩
 ·exact Cat.mem_hom.2 ⟨h2.1,h2.2,h3.trans a2,h4.trans b3⟩
 ·exact absurd (a3.trans b2.symm) h1
theorem assI {d:Cat} (sd:IsCat d) {x y z w a b e:Int} (ha:a∈d.hom x y) (hb:b∈d.hom y z) (he:e∈d.hom z w):d.C (d.C a b) e=d.C a (d.C b e):=by
 obtain⟨a0,a1,a2,a3⟩:=Cat.mem_hom.1 ha
 obtain⟨b0,b1,b2,b3⟩:=Cat.mem_hom.1 hb
 obtain⟨e0,e1,e2,e3⟩:=Cat.mem_hom.1 he
 have:=sd.ass a.toNat b.toNat e.toNat (by omega) (by omega) (by omega)
 rw [Int.toNat_of_nonneg a0,Int.toNat_of_nonneg b0,Int.toNat_of_nonneg e0]at this
 exact this (a3.trans b2.symm) (b3.trans e2.symm)
theorem aJL {f g k:Fun} (p:Par f g) (q:Par g k) (hs:s∈gQ f g) (ht:t∈gQ g k):cmpL f.tgt s t∈gQ f k:=by
 obtain⟨s1,s2⟩:=mem_natA.1 hs
 obtain⟨t1,t2⟩:=mem_natA.1 ht
 have eg:=p.es
 have et:=p.et
 rw [eg]at t1
 have h0:=p.src.toShape.ob0
 have t2e:=t2.end_
 have t2s:=t2.sq
 rw [et]at t2e
 rw [eg]at t2s
 have hend:∀x,x<f.src.ob.toNat→(cmpL f.tgt s t).getD x 0∈f.tgt.hom (f.obs.getD x 0) (k.obs.getD x 0):=fun x hx=>by
  rw [gK (by omega)]
  exact aLE p.tgt (s2.end_ x (by omega)) (t2e x (by omega))
 refine mem_natA.2 ⟨by rw [bS,s1],fun x hx=>hend x (by rw [bS]at hx;omega),fun a ha=>?_⟩
 have f1:=p.src.toShape.frw a ha
 have f2:=p.src.toShape.tow a (by rw [p.src.toShape.tol];exact ha)
 have hf:=aAw p.src.toShape p.fit ha
 have hg:=aAw (eg▸p.src.toShape) p.fit2 (a:=a) (by rw [eg];exact ha)
 have hk:=aAw (by rw [q.es,eg];exact p.src.toShape) q.fit2 (a:=a) (by rw [q.es,eg];exact ha)
 rw [et,eg]at hg
 rw [q.et,et,q.es,eg]at hk
 have sa:=s2.sq a ha
 have ta:=t2s a ha
 unfold SqP at sa ta⊢
 rw [et,eg]at ta
 rw [gK (by omega),gK (by omega)]
 have se:=s2.end_ (f.src.fr.getD a 0).toNat (by omega)
 have se2:=s2.end_ (f.src.to.getD a 0).toNat (by omega)
 have te:=t2e (f.src.fr.getD a 0).toNat (by omega)
 have te2:=t2e (f.src.to.getD a 0).toNat (by omega)
 rw [←assI p.tgt hf se2 te2,sa,assI p.tgt se hg te2,ta,←assI p.tgt se te hk]
theorem aGx {f:Fun} (h:f.tgt=d):fQ f=f.obs.map fun y=>d.id.getD y.toNat 0:=by unfold fQ;rw [h]
def fcI (L:List Fun) (i:Nat):List Int:=(i:Int)::(i:Int)::fQ (L.getD i default)
def fcC (d:Cat) (a b:List Int):List Int:=a.getD 0 0::b.getD 1 0::cmpL d (a.drop 2) (b.drop 2)
theorem aD7 (h:FL c d L) (sc:IsCat c) (sd:IsCat d) (hi:i<L.length):fcI L i∈fcA L:=by
 have p:=h.par sc sd hi hi
 exact mem_fcA.2 ⟨i,i,_,hi,hi,aOO p.src p.tgt p.fit,rfl⟩
theorem aId (h:FL c d L) (sc:IsCat c) (sd:IsCat d) (hr:r∈fcA L) (hs:s∈fcA L) (e:r.getD 1 0=s.getD 0 0):fcC d r s∈fcA L:=by
 obtain⟨i,j,t,hi,hj,ht,rfl⟩:=mem_fcA.1 hr
 obtain⟨j',k,u,hj',hk,hu,rfl⟩:=mem_fcA.1 hs
 have e:(j:Int)=(j':Int):=by simpa using e
 have e:j=j':=by omega
 subst e
 have:=aJL (h.par sc sd hi hj) (h.par sc sd hj hk) ht hu
 rw [(h i hi).2.1]at this
 exact mem_fcA.2 ⟨i,k,_,hi,hk,this,rfl⟩
/-! ### The category -/
noncomputable def fcN (d:Cat) (L:List Fun) (A:List (List Int)) (m n:Nat):Cat:=
 ⟨L.length,(A.take n).map fun r=>r.getD 0 0,(A.take n).map fun r=>r.getD 1 0,(List.range m).map fun i=>fnd A (fcI L i),
  (List.range n).map fun a=>(List.range A.length).map fun b=>if(A.getD a []).getD 1 0=(A.getD b []).getD 0 0 then fnd A (fcC d (A.getD a []) (A.getD b []))else-1⟩
noncomputable def fcK (d:Cat) (L:List Fun):Cat:=fcN d L (fcA L) L.length (fcA L).length
end
end Go.Cats
