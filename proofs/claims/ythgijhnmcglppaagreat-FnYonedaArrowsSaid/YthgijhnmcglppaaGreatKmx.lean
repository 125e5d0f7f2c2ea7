/- Several texts in one: M01, M02, M03, M04, M05, M06, M07, M08, M09, M10, M11, M12, N02, N03, N04, N05, N06, N07, N08, N09, N10, N11, N12, N13, N14, N15, N16, N24, N25, N33, N01, N18, N26, N27, N28, N39, N49, N29, N30, N31, N19, N20, N51, N32, N43, N45, N46, N47, N48, N36, N44, N53, N61, N54. -/
set_option linter.unusedSimpArgs false
set_option linter.unusedVariables false
set_option linter.unusedSectionVars false
section
namespace Go.Cats
noncomputable def dec (P:Prop):Bool:= @decide P (Classical.propDecidable P)
theorem cV {P:Prop} (h:P):dec P=true:=by simp [dec,h]
theorem iZ {P:Prop} (h:¬P):dec P=false:=by simp [dec,h]
theorem dec_iff {P:Prop}:dec P=true↔P:=by simp [dec]
theorem dec_not {P:Prop}:dec P=false↔¬P:=by simp [dec]
theorem bU {P Q:Prop} (h:P↔Q):dec P=dec Q:=by
 by_cases p:P
 ·rw [cV p,cV (h.1 p)]
 ·rw [iZ p,iZ fun q=>p (h.2 q)]
theorem nZ {P:Prop} [Decidable P]:dec P=decide P:=by by_cases h:P<;>simp [dec,h]
/-! ### Scans -/
def aZ {α:Type} (n:Nat) (p:Nat→Option α):Option α:=(List.range n).findSome? p
theorem gB {α:Type} (n:Nat) (p:Nat→Option α):aZ (n+1) p=(aZ n p).or (p n):=by
 unfold aZ
 rw [List.range_succ,List.findSome?_append]
 simp [List.findSome?]
 cases p n<;>rfl
theorem bJ {α:Type} {n:Nat} {p:Nat→Option α} (h:aZ n p=none) (k:p n=none):aZ (n+1) p=none:=by
 rw [gB,h,k];rfl
theorem scan_none {α:Type} {n:Nat} {p:Nat→Option α}:aZ n p=none↔∀i,i<n→p i=none:=by
 simp [aZ,List.findSome?_eq_none_iff]
theorem fD {α:Type} {n i:Nat} {p:Nat→Option α} {r:α} (hi:i<n) (h:aZ i p=none) (k:p i=some r):aZ n p=some r:=by
 induction n with
 |zero=>omega
 |succ n ih=>
  rw [gB]
  by_cases e:i=n
  ·subst e;rw [h,k];rfl
  ·rw [ih (by omega)];rfl
theorem cR {α:Type} {n:Nat} {p:Nat→Option α} {r:α} (h:aZ n p=some r):∃i,i<n∧p i=some r:=by
 unfold aZ at h
 obtain⟨i,hi,k⟩:=List.exists_of_findSome?_eq_some h
 exact⟨i,by simpa using hi,k⟩
theorem bB {P:Nat→Prop} {n:Nat} (h:∀i,i<n→P i) (k:P n):∀i,i<n+1→P i:=fun i hi=>by
 by_cases e:i=n
 ·subst e;exact k
 ·exact h i (by omega)
def fA {α:Type} (n:Nat) (f:Nat→List α):List α:=(List.range n).flatMap f
theorem aDu {α:Type} (f:Nat→List α):fA 0 f=[]:=rfl
theorem oK {α:Type} (n:Nat) (f:Nat→List α):fA (n+1) f=fA n f++f n:=by
 simp [fA,List.range_succ]
theorem mem_coll {α:Type} {n:Nat} {f:Nat→List α} {x:α}:x∈fA n f↔∃i,i<n∧x∈f i:=by
 simp [fA,List.mem_flatMap]
theorem mJ {α:Type} {n k:Nat} {f:Nat→List α} (h:∀i,i<n→(f i).length≤k):(fA n f).length≤n*k:=by
 induction n with
 |zero=>simp [fA]
 |succ n ih=>
  rw [oK,List.length_append,Nat.succ_mul]
  have:=ih fun i hi=>h i (by omega)
  have:=h n (by omega)
  omega
theorem aX {α:Type} {l:List α} {i:Nat} {d:α} (h:i<l.length):l.getD i d∈l:=by
 simp [List.getD_eq_getElem?_getD,h]
theorem fX {α:Type} {l:List α} {x d:α} (h:x∈l):∃i,i<l.length∧l.getD i d=x:=by
 obtain⟨i,hi,e⟩:=List.getElem_of_mem h
 exact⟨i,hi,by simp [List.getD_eq_getElem?_getD,hi,e]⟩
def Within (l:List Int) (n:Int):Prop:=∀i,i<l.length→0≤l.getD i 0∧l.getD i 0<n
theorem Within.mem {l:List Int} {n:Int} (h:Within l n) {x:Int} (hx:x∈l):0≤x∧x<n:=by
 obtain⟨i,hi,e⟩:=fX (d:=0) hx
 have:=h i hi
 rw [e]at this
 exact this
/-! ### Categories -/
structure Cat where
 ob:Int
 fr:List Int
 to:List Int
 id:List Int
 co:List (List Int)
def Cat.nil:Cat:=⟨0,[],[],[],[]⟩
abbrev Cat.F (c:Cat) (f:Int):Int:=c.fr.getD f.toNat 0
abbrev Cat.T (c:Cat) (f:Int):Int:=c.to.getD f.toNat 0
abbrev Cat.I (c:Cat) (x:Int):Int:=c.id.getD x.toNat 0
abbrev Cat.C (c:Cat) (f g:Int):Int:=(c.co.getD f.toNat []).getD g.toNat 0
structure CatB (c:Cat):Prop where
 ob1: -9223372036854775808≤c.ob
 ob2:c.ob≤9223372036854775807
 fr:c.fr.length≤1048576
 to:c.to.length≤1048576
 id:c.id.length≤1048576
 co:c.co.length≤1048576
 row:∀f,f<c.co.length→(c.co.getD f []).length≤1048576
def Cat.Entry (c:Cat) (f g:Nat):Prop:=
 (c.to.getD f 0=c.fr.getD g 0∧(0≤c.C f g∧c.C f g<c.fr.length)∧c.F (c.C f g)=c.fr.getD f 0∧c.T (c.C f g)=c.to.getD g 0)∨
 (c.to.getD f 0≠c.fr.getD g 0∧c.C f g= -1)
structure Shape (c:Cat):Prop where
 ob0:0≤c.ob
 ob8:c.ob≤8
 m40:c.fr.length≤40
 tol:c.to.length=c.fr.length
 frw:Within c.fr c.ob
 tow:Within c.to c.ob
 idl:(c.id.length:Int)=c.ob
 idw:Within c.id c.fr.length
 col:c.co.length=c.fr.length
 ide:∀x,x<c.id.length→c.F (c.id.getD x 0)=x∧c.T (c.id.getD x 0)=x
 coe:∀f,f<c.fr.length→(c.co.getD f []).length=c.fr.length∧∀g,g<c.fr.length→c.Entry f g
def Cat.fault1 (c:Cat) (f:Nat):Option (Int×Int×Int×Int):=
 if c.C (c.I (c.F f)) f≠f∨c.C f (c.I (c.T f))≠f then some (1,f,0,0)else none
def Cat.fault2 (c:Cat) (f g h:Nat):Option (Int×Int×Int×Int):=
 if 0≤c.C g h∧c.C (c.C f g) h≠c.C f (c.C g h)then some (2,f,g,h)else none
def Cat.fault2g (c:Cat) (f g:Nat):Option (Int×Int×Int×Int):=
 if c.C f g<0 then none else aZ c.fr.length fun h=>c.fault2 f g h
def Cat.fault (c:Cat):Int×Int×Int×Int:=
 ((aZ c.fr.length c.fault1).or (aZ c.fr.length fun f=>aZ c.fr.length fun g=>c.fault2g f g)).getD (0,0,0,0)
structure IsCat (c:Cat):Prop extends Shape c where
 unl:∀f:Nat,f<c.fr.length→c.C (c.I (c.F f)) f=f
 unr:∀f:Nat,f<c.fr.length→c.C f (c.I (c.T f))=f
 ass:∀f g h:Nat,f<c.fr.length→g<c.fr.length→h<c.fr.length→c.T f=c.F g→c.T g=c.F h→c.C (c.C f g) h=c.C f (c.C g h)
theorem Shape.neg {c:Cat} (s:Shape c) {f g:Nat} (hf:f<c.fr.length) (hg:g<c.fr.length):c.C f g<0↔c.T f≠c.F g:=by
 have:=(s.coe f hf).2 g hg
 unfold Cat.Entry at this
 simp only [Cat.T,Cat.F,Int.toNat_natCast]
 rcases this with⟨h1,h2,h3⟩|⟨h1,h2⟩
 ·constructor
  ·intro h;omega
  ·intro h;exact absurd h1 h
 ·constructor
  ·intro _;exact h1
  ·intro _;omega
theorem Shape.fault_zero {c:Cat} (s:Shape c):c.fault.1=0↔IsCat c:=by
 unfold Cat.fault
 constructor
 ·intro h
  cases h1:aZ c.fr.length c.fault1 with
  |some r=>
   obtain⟨i,hi,k⟩:=cR h1
   unfold Cat.fault1 at k
   split at k
   ·simp at k;subst k;simp [h1]at h
   ·cases k
  |none=>
   rw [h1]at h
   cases h2:(aZ c.fr.length fun f=>aZ c.fr.length fun g=>c.fault2g f g)with
   |some r=>
    obtain⟨i,hi,k⟩:=cR h2
    obtain⟨j,hj,k⟩:=cR k
    unfold Cat.fault2g at k
    split at k
    ·cases k
    ·obtain⟨l,hl,k⟩:=cR k
     unfold Cat.fault2 at k
     split at k
     ·simp at k;subst k;simp [h2]at h
     ·cases k
   |none=>
    rw [scan_none]at h1 h2
    refine⟨s,fun f hf=>?_,fun f hf=>?_,fun f g h hf hg hh e1 e2=>?_⟩
    ·have:=h1 f hf
     unfold Cat.fault1 at this
     split at this
     ·cases this
     ·rename_i n;exact Classical.byContradiction fun q=>n (.inl q)
    ·have:=h1 f hf
     unfold Cat.fault1 at this
     split at this
     ·cases this
     ·rename_i n;exact Classical.byContradiction fun q=>n (.inr q)
    ·have:=h2 f hf
     rw [scan_none]at this
     have:=this g hg
     unfold Cat.fault2g at this
     rw [if_neg (by rw [s.neg hf hg];exact fun q=>q e1),scan_none]at this
     have:=this h hh
     unfold Cat.fault2 at this
     split at this
     ·cases this
     ·rename_i n
      refine Classical.byContradiction fun q=>n ⟨?_,q⟩
      have:=(s.neg hg hh)
      exact Int.not_lt.1 fun q=>this.1 q e2
 ·intro h
  have h1:aZ c.fr.length c.fault1=none:=scan_none.2 fun f hf=>by
   unfold Cat.fault1
   rw [if_neg]
   rintro(q|q)
   ·exact q (h.unl f hf)
   ·exact q (h.unr f hf)
  have h2:(aZ c.fr.length fun f=>aZ c.fr.length fun g=>c.fault2g f g)=none:=scan_none.2 fun f hf=>scan_none.2 fun g hg=>by
   unfold Cat.fault2g
   split
   ·rfl
   ·rename_i n1
    refine scan_none.2 fun h' hh=>?_
    unfold Cat.fault2
    rw [if_neg]
    rintro⟨q1,q2⟩
    have e1:=s.neg hf hg
    have e2:=s.neg hg hh
    exact q2 (h.ass f g h' hf hg hh (Classical.byContradiction fun q=>n1 (e1.2 q)) (Classical.byContradiction fun q=>by have:=e2.2 q;omega))
  rw [h1,h2];rfl
theorem Cat.fault1_t {c:Cat} {f:Nat} (h:c.C (c.I (c.F f)) f≠f∨c.C f (c.I (c.T f))≠f):c.fault1 f=some ((1:Int),(f:Int),(0:Int),(0:Int)):=if_pos h
theorem Cat.fault1_f {c:Cat} {f:Nat} (h:c.C (c.I (c.F f)) f=f) (k:c.C f (c.I (c.T f))=f):c.fault1 f=none:=if_neg fun q=>q.elim (fun q=>q h) fun q=>q k
theorem Cat.fault2_t {c:Cat} {f g h:Nat} (a:0≤c.C g h) (b:c.C (c.C f g) h≠c.C f (c.C g h)):c.fault2 f g h=some ((2:Int),(f:Int),(g:Int),(h:Int)):=if_pos ⟨a,b⟩
theorem Cat.fault2_f {c:Cat} {f g h:Nat} (a:0≤c.C g h→c.C (c.C f g) h=c.C f (c.C g h)):c.fault2 f g h=none:=if_neg fun q=>q.2 (a q.1)
theorem Cat.fault2g_f {c:Cat} {f g:Nat} (a:c.C f g<0):c.fault2g f g=none:=if_pos a
theorem Cat.fault2g_t {c:Cat} {f g:Nat} (a:¬c.C f g<0):c.fault2g f g=aZ c.fr.length fun h=>c.fault2 f g h:=if_neg a
theorem Cat.fault_1 {c:Cat} {f:Nat} {r:Int×Int×Int×Int} (h:aZ f c.fault1=none) (hf:f<c.fr.length) (k:c.fault1 f=some r):c.fault=r:=by
 unfold Cat.fault
 rw [fD hf h k];rfl
theorem Cat.fault_2 {c:Cat} {f g h:Nat} {r:Int×Int×Int×Int} (a:aZ c.fr.length c.fault1=none) (h1:aZ f (fun f=>aZ c.fr.length fun g=>c.fault2g f g)=none) (hf:f<c.fr.length)
  (h2:aZ g (fun g=>c.fault2g f g)=none) (hg:g<c.fr.length) (n:¬c.C f g<0) (h3:aZ h (fun h=>c.fault2 f g h)=none) (hh:h<c.fr.length) (k:c.fault2 f g h=some r):c.fault=r:=by
 unfold Cat.fault
 rw [a,fD hf h1 (fD hg h2 (by rw [Cat.fault2g_t n];exact fD hh h3 k))];rfl
theorem Cat.fault_0 {c:Cat} (a:aZ c.fr.length c.fault1=none) (h1:aZ c.fr.length (fun f=>aZ c.fr.length fun g=>c.fault2g f g)=none):c.fault=(0,0,0,0):=by
 unfold Cat.fault
 rw [a,h1];rfl
def Cat.homI (c:Cat) (x y:Int) (i:Nat):List Int:=fA i fun f=>if c.fr.getD f 0=x∧c.to.getD f 0=y then [(f:Int)]else []
def Cat.hom (c:Cat) (x y:Int):List Int:=c.homI x y c.fr.length
theorem Cat.homI_zero (c:Cat) (x y:Int):c.homI x y 0=[]:=rfl
theorem Cat.homI_succ (c:Cat) (x y:Int) (i:Nat):c.homI x y (i+1)=c.homI x y i++if c.fr.getD i 0=x∧c.to.getD i 0=y then [(i:Int)]else []:=oK _ _
theorem Cat.homI_len (c:Cat) (x y:Int) (i:Nat):(c.homI x y i).length≤i:=by
 have:=mJ (n:=i) (k:=1) (f:=fun f=>if c.fr.getD f 0=x∧c.to.getD f 0=y then [(f:Int)]else []) fun j _=>by split<;>simp
 simpa [Cat.homI]using this
theorem Cat.mem_hom {c:Cat} {x y f:Int}:f∈c.hom x y↔0≤f∧f<c.fr.length∧c.F f=x∧c.T f=y:=by
 unfold Cat.hom Cat.homI
 rw [mem_coll]
 constructor
 ·rintro⟨i,hi,h⟩
  split at h
  ·rename_i e;simp at h;subst h
   simp only [Cat.F,Cat.T,Int.toNat_natCast]
   exact⟨by omega,by omega,e.1,e.2⟩
  ·simp at h
 ·rintro⟨h1,h2,h3,h4⟩
  refine⟨f.toNat,by omega,?_⟩
  rw [if_pos ⟨h3,h4⟩]
  simp;omega
/-! ### Functors -/
structure Fun where
 src:Cat
 tgt:Cat
 obs:List Int
 ars:List Int
def Fun.nil:Fun:=⟨.nil, .nil,[],[]⟩
abbrev Fun.O (f:Fun) (x:Int):Int:=f.obs.getD x.toNat 0
abbrev Fun.A (f:Fun) (a:Int):Int:=f.ars.getD a.toNat 0
structure Fits (f:Fun):Prop where
 obl:(f.obs.length:Int)=f.src.ob
 arl:f.ars.length=f.src.fr.length
 obw:Within f.obs f.tgt.ob
 arw:Within f.ars f.tgt.fr.length
 endf:∀a,a<f.ars.length→f.tgt.F (f.ars.getD a 0)=f.O (f.src.F a)∧f.tgt.T (f.ars.getD a 0)=f.O (f.src.T a)
 unit:∀x,x<f.src.id.length→f.A (f.src.id.getD x 0)=f.tgt.I (f.O x)
 comp:∀a b:Nat,a<f.src.fr.length→b<f.src.fr.length→0≤f.src.C a b→f.A (f.src.C a b)=f.tgt.C (f.A a) (f.A b)
structure IsFun (f:Fun):Prop where
 src:IsCat f.src
 tgt:IsCat f.tgt
 fits:Fits f
/-! ### Set functors -/
structure SF where
 shape:Cat
 sizes:List Int
 acts:List (List Int)
structure SM where
 src:SF
 tgt:SF
 parts:List (List Int)
def SF.nil:SF:=⟨.nil,[],[]⟩
def SM.nil:SM:=⟨.nil, .nil,[]⟩
end Go.Cats
end
section
namespace Go.Cats
theorem cX {α:Type} {p:Nat→Option α} {i n:Nat} (h:aZ i p=none) (a:i≤n) (b:n≤i):aZ n p=none:=by
 have:i=n:=by omega
 rw [←this];exact h
theorem kN {α:Type} {a b:List α} {d:α} {i:Nat} (h:a.take i=b.take i) (ha:i<a.length) (hb:i<b.length) (e:a.getD i d=b.getD i d):a.take (i+1)=b.take (i+1):=by
 have e1:a.getD i d=a[i]:=by simp [List.getD_eq_getElem?_getD,ha]
 have e2:b.getD i d=b[i]:=by simp [List.getD_eq_getElem?_getD,hb]
 rw [e1,e2]at e
 rw [List.take_succ_eq_append_getElem ha,List.take_succ_eq_append_getElem hb,h,e]
theorem sM {α:Type} {a b:List α} {i:Nat} (h:a.take i=b.take i) (ha:a.length≤i) (hb:b.length≤i):a=b:=by
 rwa [List.take_of_length_le ha,List.take_of_length_le hb]at h
theorem aEm {α:Type} {a:List α} {d:α} {i:Nat} (ha:i<a.length):a.take (i+1)=a.take i++[a.getD i d]:=by
 rw [List.take_succ_eq_append_getElem ha]
 simp [List.getD_eq_getElem?_getD,ha]
theorem Cat.eq {c d:Cat} (h1:c.ob=d.ob) (h2:c.fr=d.fr) (h3:c.to=d.to) (h4:c.id=d.id) (h5:c.co=d.co):c=d:=by
 cases c;cases d;simp_all
end Go.Cats
end
section
namespace Go.Cats
structure SFB (f:SF):Prop where
 shape:CatB f.shape
 sizes:f.sizes.length≤1048576
 acts:f.acts.length≤1048576
 row:∀a,a<f.acts.length→(f.acts.getD a []).length≤1048576
abbrev SF.act (f:SF) (a:Nat):List Int:=f.acts.getD a []
structure SFShape (f:SF):Prop where
 cat:IsCat f.shape
 szl:(f.sizes.length:Int)=f.shape.ob
 szw:Within f.sizes 17
 acl:f.acts.length=f.shape.fr.length
 act:∀a,a<f.acts.length→((f.acts.getD a []).length:Int)=f.sizes.getD (f.shape.fr.getD a 0).toNat 0∧Within (f.acts.getD a []) (f.sizes.getD (f.shape.to.getD a 0).toNat 0)
def SF.fault1 (f:SF) (x e:Nat):Option (Int×Int×Int×Int):=
 if(f.acts.getD (f.shape.id.getD x 0).toNat []).getD e 0≠e then some ((1:Int),(x:Int),(e:Int),(0:Int))else none
def SF.fault1x (f:SF) (x:Nat):Option (Int×Int×Int×Int):=aZ (f.acts.getD (f.shape.id.getD x 0).toNat []).length fun e=>f.fault1 x e
def SF.fault2 (f:SF) (a b e:Nat):Option (Int×Int×Int×Int):=
 if(f.acts.getD ((f.shape.co.getD a []).getD b 0).toNat []).getD e 0≠(f.acts.getD b []).getD ((f.acts.getD a []).getD e 0).toNat 0 then some ((2:Int),(a:Int),(b:Int),(e:Int))else none
def SF.fault2b (f:SF) (a b:Nat):Option (Int×Int×Int×Int):=
 if(f.shape.co.getD a []).getD b 0<0 then none else aZ (f.acts.getD a []).length fun e=>f.fault2 a b e
def SF.fault2a (f:SF) (a:Nat):Option (Int×Int×Int×Int):=aZ (f.shape.co.getD a []).length fun b=>f.fault2b a b
def SF.fault (f:SF):Int×Int×Int×Int:=
 ((aZ f.shape.id.length f.fault1x).or (aZ f.shape.co.length f.fault2a)).getD (0,0,0,0)
structure IsSF (f:SF):Prop extends SFShape f where
 unit:∀x,x<f.shape.id.length→∀e,e<(f.acts.getD (f.shape.id.getD x 0).toNat []).length→(f.acts.getD (f.shape.id.getD x 0).toNat []).getD e 0=e
 comp:∀a b,a<f.shape.fr.length→b<f.shape.fr.length→0≤(f.shape.co.getD a []).getD b 0→∀e,e<(f.acts.getD a []).length→
  (f.acts.getD ((f.shape.co.getD a []).getD b 0).toNat []).getD e 0=(f.acts.getD b []).getD ((f.acts.getD a []).getD e 0).toNat 0
theorem SF.fault1_t {f:SF} {x e:Nat} (h:(f.acts.getD (f.shape.id.getD x 0).toNat []).getD e 0≠e):f.fault1 x e=some ((1:Int),(x:Int),(e:Int),(0:Int)):=if_pos h
theorem SF.fault1_f {f:SF} {x e:Nat} (h:(f.acts.getD (f.shape.id.getD x 0).toNat []).getD e 0=e):f.fault1 x e=none:=if_neg fun q=>q h
theorem SF.fault2_t {f:SF} {a b e:Nat} (h:(f.acts.getD ((f.shape.co.getD a []).getD b 0).toNat []).getD e 0≠(f.acts.getD b []).getD ((f.acts.getD a []).getD e 0).toNat 0):f.fault2 a b e=some ((2:Int),(a:Int),(b:Int),(e:Int)):=if_pos h
theorem SF.fault2_f {f:SF} {a b e:Nat} (h:(f.acts.getD ((f.shape.co.getD a []).getD b 0).toNat []).getD e 0=(f.acts.getD b []).getD ((f.acts.getD a []).getD e 0).toNat 0):f.fault2 a b e=none:=if_neg fun q=>q h
theorem SF.fault2b_f {f:SF} {a b:Nat} (h:(f.shape.co.getD a []).getD b 0<0):f.fault2b a b=none:=if_pos h
theorem SF.fault2b_t {f:SF} {a b:Nat} (h:¬(f.shape.co.getD a []).getD b 0<0):f.fault2b a b=aZ (f.acts.getD a []).length fun e=>f.fault2 a b e:=if_neg h
theorem SF.fault_1 {f:SF} {x e:Nat} {r:Int×Int×Int×Int} (h:aZ x f.fault1x=none) (hx:x<f.shape.id.length) (h2:(aZ e fun e=>f.fault1 x e)=none) (he:e<(f.acts.getD (f.shape.id.getD x 0).toNat []).length) (k:f.fault1 x e=some r):f.fault=r:=by
 unfold SF.fault
 rw [fD hx h (show f.fault1x x=some r from fD he h2 k)];rfl
theorem SF.fault_2 {f:SF} {a b e:Nat} {r:Int×Int×Int×Int} (h0:aZ f.shape.id.length f.fault1x=none) (h1:aZ a f.fault2a=none) (ha:a<f.shape.co.length) (h2:(aZ b fun b=>f.fault2b a b)=none) (hb:b<(f.shape.co.getD a []).length) (n:¬(f.shape.co.getD a []).getD b 0<0)
  (h3:(aZ e fun e=>f.fault2 a b e)=none) (he:e<(f.acts.getD a []).length) (k:f.fault2 a b e=some r):f.fault=r:=by
 unfold SF.fault
 rw [h0,fD ha h1 (show f.fault2a a=some r from fD hb h2 (by rw [SF.fault2b_t n];exact fD he h3 k))];rfl
theorem SF.fault_0 {f:SF} (h0:aZ f.shape.id.length f.fault1x=none) (h1:aZ f.shape.co.length f.fault2a=none):f.fault=(0,0,0,0):=by
 unfold SF.fault
 rw [h0,h1];rfl
theorem SFShape.fault_zero {f:SF} (s:SFShape f):f.fault.1=0↔IsSF f:=by
 have hco:=s.cat.col
 constructor
 ·intro h
  unfold SF.fault at h
  cases h1:aZ f.shape.id.length f.fault1x with
  |some r=>
   obtain⟨x,hx,k⟩:=cR h1
   obtain⟨e,he,k⟩:=cR k
   unfold SF.fault1 at k
   split at k
   ·simp at k;subst k;simp [h1]at h
   ·cases k
  |none=>
   rw [h1]at h
   cases h2:aZ f.shape.co.length f.fault2a with
   |some r=>
    obtain⟨a,ha,k⟩:=cR h2
    obtain⟨b,hb,k⟩:=cR k
    unfold SF.fault2b at k
    split at k
    ·cases k
    ·obtain⟨e,he,k⟩:=cR k
     unfold SF.fault2 at k
     split at k
     ·simp at k;subst k;simp [h2]at h
     ·cases k
   |none=>
    refine⟨s,fun x hx e he=>?_,fun a b ha hb hn e he=>?_⟩
    ·have k:=scan_none.1 (scan_none.1 h1 x hx) e he
     unfold SF.fault1 at k
     split at k
     ·cases k
     ·rename_i n;exact Classical.byContradiction n
    ·have k:=scan_none.1 (scan_none.1 h2 a (by omega)) b (by have:=(s.cat.coe a ha).1;omega)
     simp only [SF.fault2b]at k
     rw [if_neg (by omega)]at k
     have k:=scan_none.1 k e he
     unfold SF.fault2 at k
     split at k
     ·cases k
     ·rename_i n;exact Classical.byContradiction n
 ·intro h
  rw [SF.fault_0]
  ·exact scan_none.2 fun x hx=>scan_none.2 fun e he=>SF.fault1_f (h.unit x hx e he)
  ·refine scan_none.2 fun a ha=>scan_none.2 fun b hb=>?_
   by_cases n:(f.shape.co.getD a []).getD b 0<0
   ·exact SF.fault2b_f n
   ·rw [SF.fault2b_t n]
    exact scan_none.2 fun e he=>SF.fault2_f (h.comp a b (by omega) (by have:=(s.cat.coe a (by omega)).1;omega) (by omega) e he)
/-! ### Natural maps -/
structure SMB (m:SM):Prop where
 src:SFB m.src
 tgt:SFB m.tgt
 parts:m.parts.length≤1048576
 row:∀x,x<m.parts.length→(m.parts.getD x []).length≤1048576
structure SMFits (m:SM):Prop where
 len:m.parts.length=m.src.sizes.length
 map:∀x,x<m.parts.length→((m.parts.getD x []).length:Int)=m.src.sizes.getD x 0∧Within (m.parts.getD x []) (m.tgt.sizes.getD x 0)
structure SMShape (m:SM):Prop where
 src:IsSF m.src
 tgt:IsSF m.tgt
 same:m.src.shape=m.tgt.shape
 fits:SMFits m
def SM.bad (m:SM) (a e:Nat):Option (Int×Int):=
 if(m.parts.getD (m.src.shape.to.getD a 0).toNat []).getD ((m.src.acts.getD a []).getD e 0).toNat 0≠(m.tgt.acts.getD a []).getD ((m.parts.getD (m.src.shape.fr.getD a 0).toNat []).getD e 0).toNat 0 then some ((a:Int),(e:Int))else none
def SM.bada (m:SM) (a:Nat):Option (Int×Int):=aZ (m.src.acts.getD a []).length fun e=>m.bad a e
def SM.unnat (m:SM):Int×Int:=(aZ m.src.shape.fr.length m.bada).getD (-1,0)
structure IsSM (m:SM):Prop extends SMShape m where
 nat:∀a,a<m.src.shape.fr.length→∀e,e<(m.src.acts.getD a []).length→
  (m.parts.getD (m.src.shape.to.getD a 0).toNat []).getD ((m.src.acts.getD a []).getD e 0).toNat 0=(m.tgt.acts.getD a []).getD ((m.parts.getD (m.src.shape.fr.getD a 0).toNat []).getD e 0).toNat 0
theorem SM.bad_t {m:SM} {a e:Nat} (h:(m.parts.getD (m.src.shape.to.getD a 0).toNat []).getD ((m.src.acts.getD a []).getD e 0).toNat 0≠(m.tgt.acts.getD a []).getD ((m.parts.getD (m.src.shape.fr.getD a 0).toNat []).getD e 0).toNat 0):m.bad a e=some ((a:Int),(e:Int)):=if_pos h
theorem SM.bad_f {m:SM} {a e:Nat} (h:(m.parts.getD (m.src.shape.to.getD a 0).toNat []).getD ((m.src.acts.getD a []).getD e 0).toNat 0=(m.tgt.acts.getD a []).getD ((m.parts.getD (m.src.shape.fr.getD a 0).toNat []).getD e 0).toNat 0):m.bad a e=none:=if_neg fun q=>q h
theorem SM.unnat_1 {m:SM} {a e:Nat} {r:Int×Int} (h:aZ a m.bada=none) (ha:a<m.src.shape.fr.length) (h2:(aZ e fun e=>m.bad a e)=none) (he:e<(m.src.acts.getD a []).length) (k:m.bad a e=some r):m.unnat=r:=by
 unfold SM.unnat
 rw [fD ha h (show m.bada a=some r from fD he h2 k)];rfl
theorem SM.unnat_0 {m:SM} (h:aZ m.src.shape.fr.length m.bada=none):m.unnat=(-1,0):=by
 unfold SM.unnat
 rw [h];rfl
theorem SMShape.unnat_neg {m:SM} (s:SMShape m):m.unnat.1<0↔IsSM m:=by
 constructor
 ·intro h
  refine⟨s,fun a ha e he=>?_⟩
  cases h1:aZ m.src.shape.fr.length m.bada with
  |some r=>
   unfold SM.unnat at h
   rw [h1]at h
   obtain⟨a,ha,k⟩:=cR h1
   obtain⟨e,he,k⟩:=cR k
   unfold SM.bad at k
   split at k
   ·simp at k;subst k;simp at h;omega
   ·cases k
  |none=>
   have k:=scan_none.1 (scan_none.1 h1 a ha) e he
   unfold SM.bad at k
   split at k
   ·cases k
   ·rename_i n;exact Classical.byContradiction n
 ·intro h
  rw [SM.unnat_0]
  ·decide
  ·exact scan_none.2 fun a ha=>scan_none.2 fun e he=>SM.bad_f (h.nat a ha e he)
theorem SF.eq {f g:SF} (h1:f.shape=g.shape) (h2:f.sizes=g.sizes) (h3:f.acts=g.acts):f=g:=by
 cases f;cases g;simp_all
theorem SM.eq {f g:SM} (h1:f.src=g.src) (h2:f.tgt=g.tgt) (h3:f.parts=g.parts):f=g:=by
 cases f;cases g;simp_all
end Go.Cats
end
section
namespace Go.Cats
def iO (l:List Int) (n:Int) (i:Nat):Option Int:=if l.getD i 0=n then some (i:Int)else none
def idxOf (l:List Int) (n:Int):Int:=(aZ l.length (iO l n)).getD (-1)
theorem idxOf_hit {l:List Int} {n:Int} {i:Nat} (h:aZ i (iO l n)=none) (hi:i<l.length) (k:l.getD i 0=n):idxOf l n=i:=by
 unfold idxOf
 rw [fD hi h (show iO l n i=some (i:Int) from if_pos k)];rfl
theorem pJ {l:List Int} {n:Int} (h:aZ l.length (iO l n)=none):idxOf l n= -1:=by
 unfold idxOf
 rw [h];rfl
theorem aHC {l:List Int} {n:Int} {i:Nat} (k:¬l.getD i 0=n):iO l n i=none:=if_neg k
theorem aF7 {l:List Int} {n:Int} (h:idxOf l n≠-1):0≤idxOf l n∧idxOf l n<l.length∧l.getD (idxOf l n).toNat 0=n:=by
 unfold idxOf at h⊢
 cases hs:aZ l.length (iO l n)with
 |none=>rw [hs]at h;exact absurd rfl h
 |some r=>
  obtain⟨i,hi,k⟩:=cR hs
  unfold iO at k
  split at k
  ·rename_i q;simp at k;subst k
   simp only [Option.getD_some,Int.toNat_natCast]
   exact⟨by omega,by omega,q⟩
  ·cases k
theorem yS {l:List Int} {n:Int} (h:n∈l):0≤idxOf l n∧idxOf l n<l.length∧l.getD (idxOf l n).toNat 0=n:=by
 refine aF7 fun e=>?_
 unfold idxOf at e
 cases hs:aZ l.length (iO l n)with
 |none=>
  obtain⟨i,hi,k⟩:=fX (d:=0) h
  have:=scan_none.1 hs i hi
  unfold iO at this
  rw [if_pos k]at this
  cases this
 |some r=>
  rw [hs]at e
  obtain⟨i,hi,k⟩:=cR hs
  unfold iO at k
  split at k
  ·simp at k;subst k;simp at e
  ·cases k
/-! ### Representables -/
def Cat.homs (c:Cat) (x:Int) (n:Nat):List (List Int):=(List.range n).map fun y:Nat=>c.hom x y
def Cat.small (c:Cat) (x:Int):Prop:=∀y:Nat,(y:Int)<c.ob→(c.hom x y).length≤16
def Cat.repAct (c:Cat) (x:Int) (a:Nat):List Int:=(c.hom x (c.fr.getD a 0)).map fun h=>idxOf (c.hom x (c.to.getD a 0)) ((c.co.getD h.toNat []).getD a 0)
def Cat.rep (c:Cat) (x:Int):SF:=⟨c,(List.range c.ob.toNat).map fun y:Nat=>((c.hom x y).length:Int),(List.range c.fr.length).map (c.repAct x)⟩
theorem Cat.hom_len (c:Cat) (x y:Int):(c.hom x y).length≤c.fr.length:=c.homI_len x y _
end Go.Cats
end
section
namespace Go.Cats
theorem Cat.rep_sfb {c:Cat} (hs:Shape c) (hb:CatB c) (x:Int):SFB (c.rep x):=by
 have h1:=hs.ob8
 have h2:=hs.m40
 refine⟨hb,?_,?_,fun a ha=>?_⟩
 ·simp [Cat.rep];omega
 ·simp [Cat.rep];omega
 ·have h3:a<c.fr.length:=by simpa [Cat.rep]using ha
  have e:(c.rep x).acts.getD a []=c.repAct x a:=by simp [Cat.rep,List.getD_eq_getElem?_getD,h3]
  have h4:=c.hom_len x (c.fr.getD a 0)
  rw [e];unfold Cat.repAct;rw [List.length_map];omega
open Classical in
noncomputable def SM.elemR (m:SM) (x:Int):Int×Int:=
 if IsSM m then(if 0≤x∧x<m.src.shape.ob then(if m.src.shape.small x∧m.src=m.src.shape.rep x then
  ((m.parts.getD x.toNat []).getD (idxOf (m.src.shape.hom x x) (m.src.shape.id.getD x.toNat 0)).toNat 0,0)else(0,5))else(0,2))else(0,1)
theorem SM.elemR_1 {m:SM} {x:Int} (h:¬IsSM m):m.elemR x=(0,1):=if_neg h
theorem SM.elemR_2 {m:SM} {x:Int} (h:IsSM m) (k:¬(0≤x∧x<m.src.shape.ob)):m.elemR x=(0,2):=by
 unfold SM.elemR;rw [if_pos h,if_neg k]
theorem SM.elemR_5 {m:SM} {x:Int} (h:IsSM m) (k:0≤x∧x<m.src.shape.ob) (n:¬(m.src.shape.small x∧m.src=m.src.shape.rep x)):m.elemR x=(0,5):=by
 unfold SM.elemR;rw [if_pos h,if_pos k,if_neg n]
theorem SM.elemR_0 {m:SM} {x:Int} (h:IsSM m) (k:0≤x∧x<m.src.shape.ob) (n:m.src.shape.small x∧m.src=m.src.shape.rep x):
  m.elemR x=((m.parts.getD x.toNat []).getD (idxOf (m.src.shape.hom x x) (m.src.shape.id.getD x.toNat 0)).toNat 0,0):=by
 unfold SM.elemR;rw [if_pos h,if_pos k,if_pos n]
theorem Cat.id_place {c:Cat} (hs:Shape c) {x:Int} (h:0≤x∧x<c.ob):x.toNat<c.id.length∧0≤idxOf (c.hom x x) (c.id.getD x.toNat 0)∧idxOf (c.hom x x) (c.id.getD x.toNat 0)<((c.hom x x).length:Int):=by
 have h1:=hs.idl
 have h2:x.toNat<c.id.length:=by omega
 have h3:=hs.ide x.toNat h2
 have h4:=hs.idw x.toNat h2
 have h5:c.id.getD x.toNat 0∈c.hom x x:=by
  rw [Cat.mem_hom]
  exact⟨h4.1,h4.2,by rw [h3.1];omega,by rw [h3.2];omega⟩
 have h6:=yS h5
 exact⟨h2,h6.1,h6.2.1⟩
theorem SM.elem_row {m:SM} (h:IsSM m) {x:Int} (k:0≤x∧x<m.src.shape.ob) (e:m.src=m.src.shape.rep x):
  x.toNat<m.parts.length∧(m.parts.getD x.toNat []).length=(m.src.shape.hom x x).length:=by
 have h1:=h.fits.len
 have h2:=h.src.szl
 have h3:x.toNat<m.parts.length:=by omega
 refine⟨h3,?_⟩
 have h4:=(h.fits.map x.toNat h3).1
 have h5:m.src.sizes.getD x.toNat 0=((m.src.shape.hom x x).length:Int):=by
  have:m.src.sizes=(m.src.shape.rep x).sizes:=congrArg SF.sizes e
  rw [this]
  have hlt:x.toNat<m.src.shape.ob.toNat:=by omega
  have hx:((x.toNat:Nat):Int)=x:=by omega
  simp only [Cat.rep,List.getD_eq_getElem?_getD,List.getElem?_map,List.getElem?_range hlt,Option.map_some,Option.getD_some,hx]
 omega
end Go.Cats
end
section
namespace Go.Cats
def SF.eRow (f:SF) (x e:Int) (y k:Nat):List Int:=((f.shape.hom x y).take k).map fun h=>(f.acts.getD h.toNat []).getD e.toNat 0
def SF.eParts (f:SF) (x e:Int) (y:Nat):List (List Int):=(List.range y).map fun y:Nat=>(f.shape.hom x y).map fun h=>(f.acts.getD h.toNat []).getD e.toNat 0
theorem SF.eRow_zero (f:SF) (x e:Int) (y:Nat):f.eRow x e y 0=[]:=rfl
theorem SF.eRow_len (f:SF) (x e:Int) (y k:Nat):(f.eRow x e y k).length=min k (f.shape.hom x y).length:=by simp [SF.eRow]
theorem SF.eParts_zero (f:SF) (x e:Int):f.eParts x e 0=[]:=rfl
theorem SF.eParts_len (f:SF) (x e:Int) (y:Nat):(f.eParts x e y).length=y:=by simp [SF.eParts]
end Go.Cats
end
section
namespace Go.Cats
theorem Shape.comp_lt {c:Cat} (s:Shape c) {f g:Nat} (hf:f<c.fr.length) (hg:g<c.fr.length) (h:0≤(c.co.getD f []).getD g 0):(c.co.getD f []).getD g 0<c.fr.length∧c.to.getD f 0=c.fr.getD g 0:=by
 rcases(s.coe f hf).2 g hg with⟨h1,h2,_⟩|⟨_,h2⟩
 ·have e:c.C f g=(c.co.getD f []).getD g 0:=by simp [Cat.C]
  rw [e]at h2
  exact⟨h2.2,h1⟩
 ·have e:c.C f g=(c.co.getD f []).getD g 0:=by simp [Cat.C]
  rw [e]at h2
  omega
theorem Shape.comp_nn {c:Cat} (s:Shape c) {f g:Nat} (hf:f<c.fr.length) (hg:g<c.fr.length) (h:c.to.getD f 0=c.fr.getD g 0):0≤(c.co.getD f []).getD g 0:=by
 rcases(s.coe f hf).2 g hg with⟨_,h2,_⟩|⟨h2,_⟩
 ·have e:c.C f g=(c.co.getD f []).getD g 0:=by simp [Cat.C]
  rw [e]at h2;exact h2.1
 ·exact absurd h h2
theorem Shape.comp_row {c:Cat} (s:Shape c) {f:Int} (h0:0≤f) (h1:f<c.fr.length):(c.co.getD f.toNat []).length=c.fr.length:=(s.coe f.toNat (by omega)).1
end Go.Cats
end
section
namespace Go.Cats
def cH (f g:Fun) (a b:Nat):List Int:=f.tgt.hom (f.obs.getD a 0) (g.obs.getD b 0)
def cO (f g:Fun) (a b k:Nat):List (List Int):=
 (fA a fun a=>fA g.obs.length fun b=>(cH f g a b).map fun h=>[(a:Int),(b:Int),h])++(fA b fun b=>(cH f g a b).map fun h=>[(a:Int),(b:Int),h])++((cH f g a b).take k).map fun h=>[(a:Int),(b:Int),h]
def vP (f g:Fun):List (List Int):=cO f g f.obs.length 0 0
theorem aIA (f g:Fun):cO f g 0 0 0=[]:=by simp [cO,fA]
def aBG (l:List (List Int)) (k n:Nat):List Int:=(l.take n).map fun r=>r.getD k 0
theorem sQ (l:List (List Int)) (k:Nat):aBG l k 0=[]:=rfl
theorem jO (l:List (List Int)) (k n:Nat):(aBG l k n).length=min n l.length:=by simp [aBG]
end Go.Cats
end
section
namespace Go.Cats
abbrev rw' (O:List (List Int)) (p k:Nat):Int:=(O.getD p []).getD k 0
def cU (f:Fun) (k:Nat) (O:List (List Int)) (s t:Nat):List Int:=f.src.hom (rw' O s k) (rw' O t k)
def cC (f e:Fun) (O:List (List Int)) (s t:Nat) (u v:Int):Prop:=f.tgt.C (f.A u) (rw' O t 2)=f.tgt.C (rw' O s 2) (e.A v)
open Classical in
noncomputable def cE (f e:Fun) (O:List (List Int)) (s t i j:Nat):List (List Int):=
 if cC f e O s t ((cU f 0 O s t).getD i 0) ((cU e 1 O s t).getD j 0)then [[(s:Int),(t:Int),(cU f 0 O s t).getD i 0,(cU e 1 O s t).getD j 0]]else []
noncomputable def aTq (f e:Fun) (O:List (List Int)) (s t i:Nat):List (List Int):=fA (cU e 1 O s t).length fun j=>cE f e O s t i j
noncomputable def aPP (f e:Fun) (O:List (List Int)) (s t:Nat):List (List Int):=fA (cU f 0 O s t).length fun i=>aTq f e O s t i
noncomputable def cA (f e:Fun) (O:List (List Int)) (s t i j:Nat):List (List Int):=
 (fA s fun s=>fA O.length fun t=>aPP f e O s t)++(fA t fun t=>aPP f e O s t)++(fA i fun i=>aTq f e O s t i)++(fA j fun j=>cE f e O s t i j)
noncomputable def aZp (f e:Fun) (O:List (List Int)):List (List Int):=cA f e O O.length 0 0 0
variable {f e:Fun} {O:List (List Int)} {s t i j:Nat}
theorem aEw:cA f e O 0 0 0 0=[]:=by simp [cA,fA]
structure ObjR (f e:Fun) (r:List Int):Prop where
 len:r.length=3
 lo:0≤r.getD 0 0
 lh:r.getD 0 0<f.src.ob
 ro:0≤r.getD 1 0
 rh:r.getD 1 0<e.src.ob
 ao:0≤r.getD 2 0
 ah:r.getD 2 0<f.tgt.fr.length
 frm:f.tgt.F (r.getD 2 0)=f.O (r.getD 0 0)
 to:f.tgt.T (r.getD 2 0)=e.O (r.getD 1 0)
def aC4 (l:List (List Int)) (r:List Int) (i:Nat):Option Int:=if l.getD i []=r then some (i:Int)else none
def fnd (l:List (List Int)) (r:List Int):Int:=(aZ l.length (aC4 l r)).getD (-1)
theorem aLX {l:List (List Int)} {r:List Int} {i:Nat} (h:¬l.getD i []=r):aC4 l r i=none:=if_neg h
theorem aOF {l:List (List Int)} {r:List Int} {i:Nat} (h:aZ i (aC4 l r)=none) (hi:i<l.length) (e:l.getD i []=r):fnd l r=i:=by
 unfold fnd
 rw [fD hi h (show aC4 l r i=some (i:Int) from if_pos e)];rfl
theorem aFV {l:List (List Int)} {r:List Int} (h:aZ l.length (aC4 l r)=none):fnd l r= -1:=by unfold fnd;rw [h];rfl
end Go.Cats
end
section
namespace Go.Cats
def tb {α:Type} (n:Nat) (F:Nat→α):List α:=(List.range n).map F
theorem aJz {α:Type} (F:Nat→α):tb 0 F=[]:=rfl
theorem aCW {α:Type} (n:Nat) (F:Nat→α):(tb n F).length=n:=by simp [tb]
theorem tb_at {α:Type} (n:Nat) (F:Nat→α) (d:α) {i:Nat} (h:i<n):(tb n F).getD i d=F i:=by simp [tb,h]
def bId (A:List (List Int)) (a b:Cat) (L R:List Int) (x:Nat):Int:=fnd A [(x:Int),(x:Int),a.id.getD (L.getD x 0).toNat 0,b.id.getD (R.getD x 0).toNat 0]
def aZl (A:List (List Int)) (a b:Cat) (i j:Nat):List Int:=[rw' A i 0,rw' A j 1,a.C (rw' A i 2) (rw' A j 2),b.C (rw' A i 3) (rw' A j 3)]
def aZk (A:List (List Int)) (a b:Cat) (i j:Nat):Int:=if rw' A i 1=rw' A j 0 then fnd A (aZl A a b i j)else-1
def aEs (N:Nat) (A:List (List Int)) (a b:Cat) (L R:List Int) (k:Nat):Cat:=
 ⟨N,aBG A 0 A.length,aBG A 1 A.length,tb N (bId A a b L R),tb k fun i=>tb A.length (aZk A a b i)⟩
structure ArrR (a b:Cat) (r:List Int):Prop where
 len:r.length=4
 ul:0≤r.getD 2 0
 uh:r.getD 2 0<a.fr.length
 vl:0≤r.getD 3 0
 vh:r.getD 3 0<b.fr.length
noncomputable def cmA (f e:Fun):List (List Int):=aZp f e (vP f e)
noncomputable def cmC (f e:Fun) (k:Nat):Cat:=aEs (vP f e).length (cmA f e) f.src e.src (aBG (vP f e) 0 (vP f e).length) (aBG (vP f e) 1 (vP f e).length) k
end Go.Cats
end
section
namespace Go.Cats
variable {f e:Fun} {O:List (List Int)} {s t i j:Nat}
end Go.Cats
end
section
namespace Go.Cats
theorem aHq {α:Type} {n:Nat} {f:Nat→List α} (h1:∀i,i<n→(f i).Nodup) (h2:∀i j x,i<n→j<n→x∈f i→x∈f j→i=j):(fA n f).Nodup:=by
 unfold fA List.Nodup
 rw [List.pairwise_flatMap]
 refine⟨fun a ha=>h1 a (List.mem_range.1 ha),?_⟩
 refine List.Pairwise.imp_of_mem ?_ (List.pairwise_lt_range (n:=n))
 intro a b ha hb hab x hx y hy e
 subst e
 have:=h2 a b x (List.mem_range.1 ha) (List.mem_range.1 hb) hx hy
 omega
theorem Cat.hom_nodup (c:Cat) (x y:Int):(c.hom x y).Nodup:=by
 unfold Cat.hom Cat.homI
 refine aHq (fun i _=>by split<;>simp) fun i j z _ _ hi hj=>?_
 split at hi
 ·split at hj
  ·simp at hi hj;omega
  ·simp at hj
 ·simp at hi
variable {f e:Fun} {O:List (List Int)} {s t i j:Nat}
theorem aAY {l:List (List Int)} {r:List Int} (h:r∈l):∃i:Nat,i<l.length∧l.getD i []=r∧fnd l r=i:=by
 cases hs:aZ l.length (aC4 l r)with
 |none=>
  exfalso
  obtain⟨i,hi,rfl⟩:=List.getElem_of_mem h
  have:=scan_none.1 hs i hi
  unfold aC4 at this
  rw [if_pos (by rw [List.getD_eq_getElem?_getD,List.getElem?_eq_getElem hi];rfl)]at this
  cases this
 |some x=>
  obtain⟨i,hi,k⟩:=cR hs
  unfold aC4 at k
  split at k
  ·rename_i e
   cases k
   exact⟨i,hi,e,by unfold fnd;rw [hs];rfl⟩
  ·cases k
/-! ### Identities and composites -/
theorem IsCat.unlI {c:Cat} (h:IsCat c) {f:Int} (h0:0≤f) (h1:f<c.fr.length):c.C (c.I (c.F f)) f=f:=by
 have:=h.unl f.toNat (by omega)
 rwa [Int.toNat_of_nonneg h0]at this
theorem IsCat.unrI {c:Cat} (h:IsCat c) {f:Int} (h0:0≤f) (h1:f<c.fr.length):c.C f (c.I (c.T f))=f:=by
 have:=h.unr f.toNat (by omega)
 rwa [Int.toNat_of_nonneg h0]at this
theorem IsCat.assI {c:Cat} (k:IsCat c) {f g h:Int} (f0:0≤f) (f1:f<c.fr.length) (g0:0≤g) (g1:g<c.fr.length) (h0:0≤h) (h1:h<c.fr.length) (e1:c.T f=c.F g) (e2:c.T g=c.F h):c.C (c.C f g) h=c.C f (c.C g h):=by
 have:=k.ass f.toNat g.toNat h.toNat (by omega) (by omega) (by omega)
 rw [Int.toNat_of_nonneg f0,Int.toNat_of_nonneg g0,Int.toNat_of_nonneg h0]at this
 exact this e1 e2
theorem IsCat.compI {c:Cat} (k:IsCat c) {f g:Int} (f0:0≤f) (f1:f<c.fr.length) (g0:0≤g) (g1:g<c.fr.length) (e1:c.T f=c.F g):0≤c.C f g∧c.C f g<c.fr.length∧c.F (c.C f g)=c.F f∧c.T (c.C f g)=c.T g:=by
 have h:=(k.coe f.toNat (by omega)).2 g.toNat (by omega)
 unfold Cat.Entry at h
 rw [Int.toNat_of_nonneg f0,Int.toNat_of_nonneg g0]at h
 rcases h with⟨_,h2,h3,h4⟩|⟨h2,_⟩
 ·exact⟨h2.1,h2.2,h3,h4⟩
 ·exact absurd e1 h2
theorem IsCat.idI {c:Cat} (k:IsCat c) {x:Int} (h0:0≤x) (h1:x<c.ob):0≤c.I x∧c.I x<c.fr.length∧c.F (c.I x)=x∧c.T (c.I x)=x:=by
 have hl:=k.idl
 have h2:=k.idw x.toNat (by omega)
 have h3:=k.ide x.toNat (by omega)
 rw [Int.toNat_of_nonneg h0]at h3
 exact⟨h2.1,h2.2,h3.1,h3.2⟩
end Go.Cats
end
section
namespace Go.Cats
abbrev pv (P:List (List Int)) (y i:Nat):Int:=(P.getD y []).getD i 0
def pset (P:List (List Int)) (y i:Nat) (k:Int):List (List Int):=P.set y ((P.getD y []).set i k)
theorem aM1 (P:List (List Int)) (y i:Nat) (k:Int):(pset P y i k).length=P.length:=by simp [pset]
theorem pset_row {P:List (List Int)} {y i z:Nat} {k:Int}:((pset P y i k).getD z []).length=(P.getD z []).length:=by
 unfold pset
 by_cases h:z=y
 ·subst h
  by_cases hz:z<P.length
  ·simp [List.getD_eq_getElem?_getD,hz]
  ·simp [List.getD_eq_getElem?_getD,hz]
 ·simp [List.getD_eq_getElem?_getD,List.getElem?_set_ne (Ne.symm h)]
theorem aHS {P:List (List Int)} {y i z j:Nat} {k:Int} (h:¬(z=y∧j=i)):pv (pset P y i k) z j=pv P z j:=by
 unfold pv pset
 by_cases hz:z=y
 ·subst hz
  have hj:j≠i:=fun e=>h ⟨rfl,e⟩
  by_cases hl:z<P.length
  ·rw [List.getD_eq_getElem?_getD (l:=P.set z _),List.getElem?_set_self hl]
   simp only [Option.getD_some]
   rw [List.getD_eq_getElem?_getD,List.getElem?_set_ne (Ne.symm hj),←List.getD_eq_getElem?_getD]
  ·rw [List.set_eq_of_length_le (by omega)]
 ·rw [List.getD_eq_getElem?_getD (l:=P.set y _),List.getElem?_set_ne (Ne.symm hz),←List.getD_eq_getElem?_getD]
section
variable (f g:SF) (once:Bool)
abbrev SF.av (f:SF) (a:Nat) (e:Nat):Int:=(f.acts.getD a []).getD e 0
abbrev SF.ty (f:SF) (a:Nat):Nat:=(f.shape.to.getD a 0).toNat
abbrev SF.fx (f:SF) (a:Nat):Nat:=(f.shape.fr.getD a 0).toNat
def aUP (e u:Nat) (P:List (List Int)) (a:Nat):Option (List (List Int)):=
 if 0≤pv P (f.ty a) (f.av a e).toNat then(if pv P (f.ty a) (f.av a e).toNat=g.av a u then some P else none)
 else if once=true∧g.av a u∈P.getD (f.ty a) []then none else some (pset P (f.ty a) (f.av a e).toNat (g.av a u))
def aPr (x e u:Nat) (P:List (List Int)):Nat→Option (List (List Int))
 |0=>some P
 |n+1=>(aPr x e u P n).bind fun Q=>if f.shape.fr.getD n 0=x then aUP f g once e u Q n else some Q
def aRL (x e u:Nat) (P:List (List Int)):Option (List (List Int)):=aPr f g once x e u P f.shape.fr.length
structure Good (P:List (List Int)):Prop where
 len:P.length=f.sizes.length
 row:∀y,y<P.length→((P.getD y []).length:Int)=f.sizes.getD y 0
 rng:∀y i,y<P.length→i<(P.getD y []).length→-1≤pv P y i∧pv P y i<g.sizes.getD y 0
 cl:∀b i,b<f.shape.fr.length→i<(P.getD (f.fx b) []).length→0≤pv P (f.fx b) i→pv P (f.ty b) (f.av b i).toNat=g.av b (pv P (f.fx b) i).toNat
 inj:once=true→∀y i j,y<P.length→i<(P.getD y []).length→j<(P.getD y []).length→0≤pv P y i→pv P y i=pv P y j→i=j
def Ext' (P Q:List (List Int)):Prop:=P.length=Q.length∧(∀y,(P.getD y []).length=(Q.getD y []).length)∧∀y i,y<P.length→i<(P.getD y []).length→0≤pv P y i→pv Q y i=pv P y i
end
theorem Ext'.refl (P:List (List Int)):Ext' P P:=⟨rfl,fun _=>rfl,fun _ _ _ _ _=>rfl⟩
theorem Ext'.trans {P Q R:List (List Int)} (h:Ext' P Q) (k:Ext' Q R):Ext' P R:=
 ⟨h.1.trans k.1,fun y=>(h.2.1 y).trans (k.2.1 y),fun y i hy hi h0=>by
  have e1:=h.2.2 y i hy hi h0
  have e2:=k.2.2 y i (by rw [←h.1];exact hy) (by rw [←h.2.1];exact hi) (by rw [e1];exact h0)
  rw [e2,e1]⟩
theorem Ext'.pset {P:List (List Int)} {y i:Nat} {k:Int} (h:¬0≤pv P y i):Ext' P (pset P y i k):=
 ⟨(aM1 P y i k).symm,fun z=>pset_row.symm,fun z j hz hj h0=>aHS fun⟨e1,e2⟩=>h (by subst e1;subst e2;exact h0)⟩
variable {f g:SF} {once:Bool} {x e u:Nat} {P Q:List (List Int)}
structure SPair (f g:SF):Prop where
 src:IsSF f
 tgt:IsSF g
 one:f.shape=g.shape
theorem SPair.ft (h:SPair f g) {a:Nat} (ha:a<f.shape.fr.length):f.fx a<f.sizes.length∧f.ty a<f.sizes.length∧f.shape.fr.getD a 0=f.fx a∧f.shape.to.getD a 0=f.ty a:=by
 have h1:=h.src.cat.frw a ha
 have h2:=h.src.cat.tow a (by rw [h.src.cat.tol];exact ha)
 have h3:=h.src.szl
 unfold SF.fx SF.ty
 omega
theorem SPair.fa (h:SPair f g) {a e:Nat} (ha:a<f.shape.fr.length) (he:(e:Int)<f.sizes.getD (f.fx a) 0):0≤f.av a e∧f.av a e<f.sizes.getD (f.ty a) 0:=by
 have h1:=h.src.act a (by rw [h.src.acl];exact ha)
 exact h1.2 e (by have:=h1.1;unfold SF.fx at he;omega)
theorem SPair.ga (h:SPair f g) {a u:Nat} (ha:a<f.shape.fr.length) (hu:(u:Int)<g.sizes.getD (f.fx a) 0):0≤g.av a u∧g.av a u<g.sizes.getD (f.ty a) 0:=by
 have h1:=h.tgt.act a (by rw [h.tgt.acl,←h.one];exact ha)
 rw [←h.one]at h1
 exact h1.2 u (by have:=h1.1;unfold SF.fx at hu;omega)
structure Gd (f g:SF) (once:Bool) (P:List (List Int)):Prop where
 len:P.length=f.sizes.length
 row:∀y,y<P.length→((P.getD y []).length:Int)=f.sizes.getD y 0
 rng:∀y i,y<P.length→i<(P.getD y []).length→-1≤pv P y i∧pv P y i<g.sizes.getD y 0
 inj:once=true→∀y i j,y<P.length→i<(P.getD y []).length→j<(P.getD y []).length→0≤pv P y i→pv P y i=pv P y j→i=j
theorem Good.gd (h:Good f g once P):Gd f g once P:=⟨h.len,h.row,h.rng,h.inj⟩
end Go.Cats
end
section
namespace Go.Cats
def fuI (P:List (List Int)) (y:Nat) (i:Nat):Option (Nat×Nat):=if pv P y i<0 then some (y,i)else none
def fuR (P:List (List Int)) (y:Nat):Option (Nat×Nat):=aZ (P.getD y []).length (fuI P y)
def fuP (P:List (List Int)):Option (Nat×Nat):=aZ P.length (fuR P)
section
variable (f g:SF) (once:Bool)
def dfs:Nat→List (List Int)→List (List (List Int))
 |0,_=>[]
 |n+1,P=>match fuP P with
  |none=>[P]
  |some (x,e)=>(List.range (g.sizes.getD x 0).toNat).flatMap fun u=>match aRL f g once x e u P with
   |none=>[]
   |some Q=>dfs n Q
end
variable {f g:SF} {once:Bool} {x e u:Nat} {P Q:List (List Int)}
theorem aEC:∀{r s:List Int},r.length=s.length→(∀i,i<r.length→0≤r.getD i 0→s.getD i 0=r.getD i 0)→(s.filter fun v=>decide (v<0)).length≤(r.filter fun v=>decide (v<0)).length
 |[],[],_,_=>Nat.le_refl _
 |[],_::_,h,_=>by simp at h
 |_::_,[],h,_=>by simp at h
 |a::r,b::s,hl,h=>by
  have ih:=aEC (r:=r) (s:=s) (by simpa using hl) (fun i hi h0=>by
   have:=h (i+1) (by simp;omega) (by simpa using h0)
   simpa using this)
  have h0:=h 0 (by simp)
  simp only [List.getD_cons_zero]at h0
  simp only [List.filter_cons]
  by_cases ha:a<0
  ·by_cases hb:b<0
   ·simp [ha,hb];exact ih
   ·simp [ha,hb];omega
  ·have:=h0 (by omega)
   subst this
   simp [ha];exact ih
theorem aII:∀{r s:List Int},r.length=s.length→(∀i,i<r.length→0≤r.getD i 0→s.getD i 0=r.getD i 0)→∀j,j<r.length→r.getD j 0<0→0≤s.getD j 0→(s.filter fun v=>decide (v<0)).length<(r.filter fun v=>decide (v<0)).length
 |[],_,_,_,j,hj,_,_=>by simp at hj
 |_::_,[],h,_,_,_,_,_=>by simp at h
 |a::r,b::s,hl,h,j,hj,h1,h2=>by
  have hl':r.length=s.length:=by simpa using hl
  have hs:∀i,i<r.length→0≤r.getD i 0→s.getD i 0=r.getD i 0:=fun i hi h0=>by
   have:=h (i+1) (by simp;omega) (by simpa using h0)
   simpa using this
  have h0:=h 0 (by simp)
  simp only [List.getD_cons_zero]at h0
  simp only [List.filter_cons]
  cases j with
  |zero=>
   have ha:a<0:=by simpa using h1
   have hb:¬b<0:=by
    have:0≤b:=by simpa using h2
    omega
   have:=aEC hl' hs
   simp [ha,hb];omega
  |succ j=>
   have ih:=aII hl' hs j (by simpa using hj) (by simpa using h1) (by simpa using h2)
   by_cases ha:a<0
   ·by_cases hb:b<0
    ·simp [ha,hb];exact ih
    ·simp [ha,hb];omega
   ·have:=h0 (by omega)
    subst this
    simp [ha];exact ih
end Go.Cats
end
section
namespace Go.Cats
section
variable (f g:SF) (once:Bool)
def aUe (e:Nat) (P:List (List Int)) (a:Nat):Prop:=¬0≤pv P (f.ty a) (f.av a e).toNat
instance (e:Nat) (P:List (List Int)) (a:Nat):Decidable (aUe f e P a):=by unfold aUe;infer_instance
def aZT (c:Cat) (x:Nat) (n:Nat):List Nat:=(List.range n).filter fun a=>decide (c.fr.getD a 0=x)
end
variable {f g:SF} {once:Bool} {x e u:Nat} {P Q:List (List Int)}
def bA3 (P:List (List Int)) (N:List (Int×Int)):List (List Int):=N.foldl (fun P p=>pset P p.1.toNat p.2.toNat (-1)) P
end Go.Cats
end
section
namespace Go.Cats
def aUQ (l:List Int):Nat→Int
 |0=>0
 |n+1=>aUQ l n+l.getD n 0
theorem aK6 (l:List Int):aUQ l 0=0:=rfl
def aZS (c:Cat) (x n:Nat):List Int:=(aZT c x n).map fun a:Nat=>(a:Int)
theorem aKt (c:Cat) (x:Nat):aZS c x 0=[]:=rfl
theorem aIK {l:List Int} {n:Int} {i:Nat} (hi:i<l.length) (h:l.getD i 0=n):n∈l:=by
 rw [←h,List.getD_eq_getElem?_getD,List.getElem?_eq_getElem hi];exact List.getElem_mem hi
theorem aF1 {l:List Int} {n:Int} {i:Nat} (h:∀j,j<i→¬l.getD j 0=n) (hi:l.length≤i):¬n∈l:=by
 intro hm
 obtain⟨j,hj,e⟩:=List.getElem_of_mem hm
 refine h j (by omega) ?_
 rw [List.getD_eq_getElem?_getD,List.getElem?_eq_getElem hj];exact e
end Go.Cats
end
section
namespace Go.Cats
section
variable (f g:SF) (once:Bool)
end
variable {f g:SF} {once:Bool} {x e u j a:Nat} {P Q:List (List Int)} {N:List (Int×Int)}
variable {y i k:Int}
end Go.Cats
end
section
namespace Go.Cats
section
variable (f g:SF) (once:Bool)
def aZW (x e u:Nat) (P:List (List Int)) (a:Nat):List (List Int):=(aPr f g once x e u P a).getD P
end
variable {f g:SF} {once:Bool} {x e u a:Nat} {P Q:List (List Int)}
section
variable (h:aPr f g once x e u P a=some (aZW f g once x e u P a)) (ha:a<f.shape.fr.length) (hx:f.shape.fr.getD a 0=x)
include h ha hx
end
end Go.Cats
end
section
namespace Go.Cats
section
variable (f g:SF) (once:Bool)
end
variable {f g:SF} {once:Bool} {x e n:Nat} {P Q:List (List Int)}
end Go.Cats
end
section
namespace Go.Cats
section
variable (f g:SF) (once:Bool)
end
variable {f g:SF} {once:Bool} {n x e u:Nat} {P Q:List (List Int)}
theorem take_take (A B C:List (List (List Int))) (k:Nat):((A++B).take k++C).take k=(A++(B++C)).take k:=by
 rw [←List.append_assoc,List.take_append,List.take_append (l₁:=A++B),List.take_take,Nat.min_self,List.length_take]
 by_cases h:k≤(A++B).length
 ·rw [Nat.min_eq_left h,Nat.sub_self,Nat.sub_eq_zero_of_le h]
 ·rw [Nat.min_eq_right (by omega)]
end Go.Cats
end
section
namespace Go.Cats
section
variable (f g:SF) (once:Bool)
end
variable {f g:SF} {once:Bool} {n x e u:Nat} {P Q:List (List Int)}
end Go.Cats
end
section
namespace Go.Cats
/-! ### Results, taken up one by one -/
section
variable {α β:Type} (s:α→β→Bool×α)
def eat:α→List β→Bool×α
 |o,[]=>(true,o)
 |o,q::D=>if(s o q).1=true then eat (s o q).2 D else(false,(s o q).2)
end
section
variable {α β:Type} {s:α→β→Bool×α} {o:α} {D E:List β} {q:β}
theorem aIE:eat s o []=(true,o):=rfl
theorem wH (h:(s o q).1=true):eat s o (q::D)=eat s (s o q).2 D:=by rw [eat];exact if_pos h
theorem aDw (h:(s o q).1=false):eat s o (q::D)=(false,(s o q).2):=by rw [eat];exact if_neg (by rw [h];simp)
theorem aOv:eat s o [q]=s o q:=by
 cases h:(s o q).1 with
 |true=>rw [wH h,aIE,←h]
 |false=>rw [aDw h,←h]
theorem aHr:∀{D:List β} {o:α},(eat s o D).1=true→eat s o (D++E)=eat s (eat s o D).2 E
 |[],o,_=>rfl
 |q::D,o,h=>by
  cases hq:(s o q).1 with
  |true=>
   rw [wH hq]at h
   rw [List.cons_append,wH hq,wH hq,aHr h]
  |false=>rw [aDw hq]at h;cases h
theorem aBL:∀{D:List β} {o:α},(eat s o D).1=false→eat s o (D++E)=eat s o D
 |[],o,h=>by cases h
 |q::D,o,h=>by
  cases hq:(s o q).1 with
  |true=>
   rw [wH hq]at h
   rw [List.cons_append,wH hq,wH hq,aBL h]
  |false=>rw [List.cons_append,aDw hq,aDw hq]
end
/-! ### The way back -/
variable {f g:SF} {once:Bool} {x e u n:Nat} {P Q:List (List Int)} {N:List (Int×Int)}
structure ChF (f g:SF) (once:Bool) (x e u:Nat) (P Q:List (List Int)) (N:List (Int×Int)) (ok:Bool):Prop where
 len:Q.length=P.length
 row:∀y,(Q.getD y []).length=(P.getD y []).length
 nl:N.length≤4096
 at1:∀i,i<N.length→0≤(N.getD i (0,0)).1∧(N.getD i (0,0)).1.toNat<P.length∧0≤(N.getD i (0,0)).2∧(N.getD i (0,0)).2.toNat<(P.getD (N.getD i (0,0)).1.toNat []).length
 back:bA3 Q N=P
 yes:ok=true→aRL f g once x e u P=some Q
 no:ok=false→aRL f g once x e u P=none
end Go.Cats
end
section
namespace Go.Cats
def aAz:List Nat→List (List Int)
 |[]=>[[]]
 |s::S=>(List.range s).flatMap fun v:Nat=>(aAz S).map fun l=>(v:Int)::l
def fB:List Int→List Int→Bool
 |[],[]=>true
 |a::A,q::Q=>(decide (a<0)||decide (q=a))&&fB A Q
 |_,_=>false
def dO (W:List Int→Bool) (S:List Nat) (A:List Int):List (List Int):=(aAz S).filter fun Q=>fB A Q&&W Q
theorem mem_lexP:∀{S:List Nat} {Q:List Int},Q∈aAz S↔Q.length=S.length∧∀i,i<Q.length→0≤Q.getD i 0∧Q.getD i 0<S.getD i 0
 |[],Q=>by
  simp only [aAz,List.mem_singleton,List.length_nil]
  constructor
  ·rintro rfl;exact⟨rfl,fun i hi=>by simp at hi⟩
  ·rintro⟨h,_⟩;exact List.length_eq_zero_iff.1 h
 |s::S,Q=>by
  simp only [aAz,List.mem_flatMap,List.mem_range,List.mem_map]
  constructor
  ·rintro⟨v,hv,l,hl,rfl⟩
   obtain⟨h1,h2⟩:=mem_lexP.1 hl
   refine⟨by simp [h1],fun i hi=>?_⟩
   cases i with
   |zero=>simpa using hv
   |succ i=>simpa using h2 i (by simpa using hi)
  ·rintro⟨h1,h2⟩
   cases Q with
   |nil=>simp at h1
   |cons q Q=>
    have h0:=h2 0 (by simp)
    simp only [List.getD_cons_zero]at h0
    refine⟨q.toNat,by omega,Q,mem_lexP.2 ⟨by simpa using h1,fun i hi=>by have:=h2 (i+1) (by simp;omega);simpa using this⟩,?_⟩
    rw [Int.toNat_of_nonneg h0.1]
theorem contB_iff:∀{A Q:List Int},fB A Q=true↔A.length=Q.length∧∀i,i<A.length→0≤A.getD i 0→Q.getD i 0=A.getD i 0
 |[],[]=>by simp [fB]
 |[],_::_=>by simp [fB]
 |_::_,[]=>by simp [fB]
 |a::A,q::Q=>by
  simp only [fB,Bool.and_eq_true,Bool.or_eq_true,decide_eq_true_eq,contB_iff (A:=A) (Q:=Q),List.length_cons,Nat.add_right_cancel_iff]
  constructor
  ·rintro⟨h0,h1,h2⟩
   refine⟨h1,fun i hi h=>?_⟩
   cases i with
   |zero=>simp only [List.getD_cons_zero]at h⊢;omega
   |succ i=>simp only [List.getD_cons_succ]at h⊢;exact h2 i (by omega) h
  ·rintro⟨h1,h2⟩
   refine⟨?_,h1,fun i hi h=>?_⟩
   ·have:=h2 0 (by omega)
    simp only [List.getD_cons_zero]at this
    omega
   ·have:=h2 (i+1) (by omega)
    simpa using this (by simpa using h)
theorem mem_extW {W:List Int→Bool} {S:List Nat} {A Q:List Int}:Q∈dO W S A↔Q∈aAz S∧fB A Q=true∧W Q=true:=by
 unfold dO
 rw [List.mem_filter,Bool.and_eq_true]
theorem uL {W:List Int→Bool} {S:List Nat} {A B:List Int} (h:∀Q,Q∈aAz S→W Q=true→(fB A Q=true↔fB B Q=true)):dO W S A=dO W S B:=by
 unfold dO
 refine List.filter_congr fun Q hQ=>?_
 cases hW:W Q with
 |false=>rw [Bool.and_false,Bool.and_false]
 |true=>
  rw [Bool.and_true,Bool.and_true]
  have:=h Q hQ hW
  cases h1:fB A Q<;>cases h2:fB B Q<;>simp_all
theorem rD {W:List Int→Bool} {S:List Nat} {A:List Int} (h:∀Q,Q∈aAz S→W Q=true→fB A Q=true→False):dO W S A=[]:=by
 rw [List.eq_nil_iff_forall_not_mem]
 intro Q hQ
 obtain⟨h1,h2,h3⟩:=mem_extW.1 hQ
 exact h Q h1 h3 h2
theorem aLW {β:Type} {s:Nat} {a:Int} {g:Nat→List β}:((List.range s).flatMap fun v:Nat=>if(v:Int)=a then g v else [])=if 0≤a∧a<s then g a.toNat else []:=by
 induction s with
 |zero=>rw [if_neg (by omega)];rfl
 |succ s ih=>
  rw [List.range_succ,List.flatMap_append,ih,List.flatMap_cons,List.flatMap_nil,List.append_nil]
  by_cases h:(s:Int)=a
  ·subst h
   rw [if_neg (by omega),if_pos rfl,if_pos (by omega),List.nil_append,Int.toNat_natCast]
  ·rw [if_neg h,List.append_nil]
   by_cases h1:0≤a∧a<s
   ·rw [if_pos h1,if_pos (by omega)]
   ·rw [if_neg h1,if_neg (by omega)]
theorem aDG {W:List Int→Bool} {s:Nat} {S:List Nat} {a:Int} {A:List Int}:
  dO W (s::S) (a::A)=(List.range s).flatMap fun v:Nat=>if a<0∨(v:Int)=a then(dO (fun Q=>W ((v:Int)::Q)) S A).map fun l=>(v:Int)::l else []:=by
 unfold dO
 rw [aAz,List.filter_flatMap]
 congr 1
 funext v
 rw [List.filter_map]
 by_cases h:a<0∨(v:Int)=a
 ·rw [if_pos h]
  congr 1
  refine List.filter_congr fun Q _=>?_
  have:(decide (a<0)||decide ((v:Int)=a))=true:=by simpa using h
  simp only [Function.comp,fB,this,Bool.true_and]
 ·rw [if_neg h]
  have:(decide (a<0)||decide ((v:Int)=a))=false:=by simpa using h
  have e:((fun Q=>fB (a::A) Q&&W Q)∘fun l=>(v:Int)::l)=fun _=>false:=by
   funext Q
   simp only [Function.comp,fB,this,Bool.false_and]
  rw [e]
  simp
theorem wL {W:List Int→Bool} {s:Nat} {S:List Nat} {a:Int} {A:List Int} (h:0≤a):dO W (s::S) (a::A)=if a<s then(dO (fun Q=>W (a::Q)) S A).map fun l=>a::l else []:=by
 rw [aDG]
 have:(fun v:Nat=>if a<0∨(v:Int)=a then(dO (fun Q=>W ((v:Int)::Q)) S A).map (fun l=>(v:Int)::l)else [])=fun v:Nat=>if(v:Int)=a then(dO (fun Q=>W ((v:Int)::Q)) S A).map (fun l=>(v:Int)::l)else []:=by
  funext v
  by_cases h1:(v:Int)=a
  ·rw [if_pos (.inr h1),if_pos h1]
  ·rw [if_neg (by omega),if_neg h1]
 rw [this,aLW]
 by_cases h1:a<s
 ·rw [if_pos ⟨h,h1⟩,if_pos h1,Int.toNat_of_nonneg h]
 ·rw [if_neg (by omega),if_neg h1]
theorem aAg:∀{W:List Int→Bool} {S:List Nat} {A:List Int} {i:Nat},A.length=S.length→i<A.length→(∀j,j<i→0≤A.getD j 0)→A.getD i 0<0→
  dO W S A=(List.range (S.getD i 0)).flatMap fun u:Nat=>dO W S (A.set i (u:Int))
 |W,[],A,i,hl,hi,_,_=>by simp at hl;subst hl;simp at hi
 |W,s::S,[],i,hl,hi,_,_=>by simp at hi
 |W,s::S,a::A,0,hl,hi,_,h0=>by
  simp only [List.getD_cons_zero]at h0⊢
  rw [aDG]
  rw [List.flatMap_def,List.flatMap_def]
  congr 1
  refine List.map_congr_left fun u hu=>?_
  have hu:=List.mem_range.1 hu
  rw [List.set_cons_zero,wL (by omega),if_pos (Or.inl h0),if_pos (show(u:Int)<s by omega)]
 |W,s::S,a::A,i+1,hl,hi,hlt,h0=>by
  have ha:=hlt 0 (by omega)
  simp only [List.getD_cons_zero,List.getD_cons_succ]at ha h0⊢
  have ih:=aAg (W:=fun Q=>W (a::Q)) (S:=S) (A:=A) (i:=i) (by simpa using hl) (by simpa using hi) (fun j hj=>by have:=hlt (j+1) (by omega);simpa using this) h0
  rw [wL ha]
  have:(fun u:Nat=>dO W (s::S) ((a::A).set (i+1) (u:Int)))=fun u:Nat=>if a<s then(dO (fun Q=>W (a::Q)) S (A.set i (u:Int))).map (fun l=>a::l)else []:=by
   funext u
   rw [List.set_cons_succ,wL ha]
  rw [this]
  by_cases h1:a<s
  ·rw [if_pos h1,ih,List.map_flatMap]
   simp only [if_pos h1]
  ·rw [if_neg h1]
   simp only [if_neg h1]
   simp
theorem aDH:∀{W:List Int→Bool} {S:List Nat} {A:List Int},A.length=S.length→(∀j,j<A.length→0≤A.getD j 0∧A.getD j 0<S.getD j 0)→dO W S A=if W A=true then [A]else []
 |W,[],A,hl,_=>by
  have:A=[]:=List.length_eq_zero_iff.1 hl
  subst this
  cases h:W []<;>simp [dO,aAz,fB,h]
 |W,s::S,[],hl,_=>by simp at hl
 |W,s::S,a::A,hl,h=>by
  have h0:=h 0 (by simp)
  simp only [List.getD_cons_zero]at h0
  rw [wL h0.1,if_pos h0.2,aDH (by simpa using hl) (fun j hj=>by have:=h (j+1) (by simp;omega);simpa using this)]
  split<;>simp_all
end Go.Cats
end
section
namespace Go.Cats
structure Rule where
 fr:Int
 to:Int
 by_:List Int
instance:Inhabited Rule:=⟨⟨0,0,[]⟩⟩
def aBd (rs:List Rule) (i:Nat):List Rule:=rs.filter fun r=>decide (r.fr=i)
def okW (rs:List Rule) (Q:List Int):Bool:=rs.all fun r=>decide (Q.getD r.to.toNat 0=r.by_.getD (Q.getD r.fr.toNat 0).toNat 0)
structure RulesW (S:List Nat) (rs:List Rule):Prop where
 fr:∀r∈rs,0≤r.fr∧r.fr<S.length
 to:∀r∈rs,0≤r.to∧r.to<S.length
 len:∀r∈rs,r.by_.length=S.getD r.fr.toNat 0
 val:∀r∈rs,∀e:Nat,e<S.getD r.fr.toNat 0→0≤r.by_.getD e 0∧r.by_.getD e 0<S.getD r.to.toNat 0
theorem aAm {rs:List Rule} {i:Nat} {r:Rule} (h:r∈aBd rs i):r∈rs∧r.fr=i:=by
 unfold aBd at h
 simpa [List.mem_filter]using h
abbrev St:=Bool×List Int×List Int
section
variable {f:Nat→Int→List Int→List Int→St} {e:Int} {r:Rule} {l m:List Rule} {A B C N Q:List Int} {rs:List Rule} {S:List Nat} {n i:Nat}
def XtL (A B:List Int):Prop:=A.length=B.length∧∀j,j<A.length→0≤A.getD j 0→B.getD j 0=A.getD j 0
theorem XtL.refl (A:List Int):XtL A A:=⟨rfl,fun _ _ _=>rfl⟩
theorem XtL.trans (h:XtL A B) (k:XtL B C):XtL A C:=⟨h.1.trans k.1,fun j hj h0=>by
 have e1:=h.2 j hj h0
 rw [k.2 j (by rw [←h.1];exact hj) (by rw [e1];exact h0),e1]⟩
def uns (A:List Int):Nat:=(A.filter fun v=>decide (v<0)).length
theorem XtL.uns (h:XtL A B):uns B≤uns A:=aEC h.1 h.2
theorem XtL.uns_lt (h:XtL A B) {j:Nat} (hj:j<A.length) (h0:A.getD j 0<0) (h1:0≤B.getD j 0):Cats.uns B<Cats.uns A:=aII h.1 h.2 j hj h0 h1
theorem bV {i j:Nat} {k:Int} (hi:i<A.length):(A.set i k).getD j 0=if j=i then k else A.getD j 0:=by
 rw [List.getD_eq_getElem?_getD,List.getElem?_set]
 by_cases h:j=i
 ·subst h;rw [if_pos rfl,if_pos hi,if_pos rfl];rfl
 ·rw [if_neg (fun q=>h q.symm),if_neg h,List.getD_eq_getElem?_getD]
theorem XtL.set (hi:i<A.length) (h:¬0≤A.getD i 0):XtL A (A.set i e):=⟨by simp,fun j hj h0=>by
 rw [bV hi,if_neg (fun q=>h (by rw [←q];exact h0))]⟩
theorem XtL.cont (h:XtL A B) (k:fB B Q=true):fB A Q=true:=by
 rw [contB_iff]at k⊢
 refine⟨h.1.trans k.1,fun j hj h0=>?_⟩
 have e1:=h.2 j hj h0
 rw [k.2 j (by rw [←h.1];exact hj) (by rw [e1];exact h0),e1]
def RngL (S:List Nat) (A:List Int):Prop:=A.length=S.length∧∀j,j<A.length→-1≤A.getD j 0∧A.getD j 0<S.getD j 0
theorem RngL.set (h:RngL S A) (hi:i<A.length) (he:0≤e∧e<S.getD i 0):RngL S (A.set i e):=⟨by simp [h.1],fun j hj=>by
 rw [bV hi]
 by_cases q:j=i
 ·subst q;rw [if_pos rfl];omega
 ·rw [if_neg q];exact h.2 j (by simpa using hj)⟩
def ClF (rs:List Rule) (A B:List Int):Prop:=∀j,j<A.length→A.getD j 0<0→0≤B.getD j 0→∀r∈aBd rs j,B.getD r.to.toNat 0=r.by_.getD (B.getD j 0).toNat 0
theorem ClF.refl (A:List Int):ClF rs A A:=fun j _ h0 h1=>by omega
theorem ClF.trans (hw:RulesW S rs) (hB:RngL S B) (h:ClF rs A B) (x:XtL A B) (y:XtL B C) (k:ClF rs B C):ClF rs A C:=fun j hj h0 h1 r hr=>by
 by_cases hb:0≤B.getD j 0
 ·have e1:=h j hj h0 hb r hr
  have e2:=y.2 j (by rw [←x.1];exact hj) hb
  obtain⟨m1,m2⟩:=aAm hr
  have b1:=hB.2 j (by rw [←x.1];exact hj)
  have t1:=hw.to r m1
  have v1:=hw.val r m1 (B.getD j 0).toNat (by rw [m2];simp only [Int.toNat_natCast];omega)
  have e3:=y.2 r.to.toNat (by have:=hB.1;omega) (by rw [e1];exact v1.1)
  rw [e3,e2,e1]
 ·exact k j (by rw [←x.1];exact hj) (by omega) h1 r hr
def aN5 (A N:List Int):List Int:=N.foldl (fun A k=>A.set k.toNat (-1)) A
structure Fct (S:List Nat) (A N:List Int) (t:St):Prop where
 ext:XtL A t.2.1
 rng:RngL S t.2.1
 und:aN5 t.2.1 t.2.2=aN5 A N
 nts:∀k∈t.2.2,k∈N∨(0≤k∧k.toNat<A.length)
 cnt:t.2.2.length+uns t.2.1≤N.length+uns A
theorem Fct.refl {b:Bool} (h:RngL S A):Fct S A N (b,A,N):=⟨.refl _,h,rfl,fun k hk=> .inl hk,Nat.le_refl _⟩
theorem Fct.trans {t u:St} (h:Fct S A N t) (k:Fct S t.2.1 t.2.2 u):Fct S A N u:=
 ⟨h.ext.trans k.ext,k.rng,k.und.trans h.und,fun x hx=>by
  rcases k.nts x hx with h1|h1
  ·exact h.nts x h1
  ·exact .inr (by rw [h.ext.1];exact h1),Nat.le_trans k.cnt h.cnt⟩
def ClL (rs:List Rule) (A:List Int):Prop:=∀j,j<A.length→0≤A.getD j 0→∀r∈aBd rs j,A.getD r.to.toNat 0=r.by_.getD (A.getD j 0).toNat 0
theorem ClL.step (hw:RulesW S rs) (hA:RngL S A) (h:ClL rs A) (x:XtL A B) (k:ClF rs A B):ClL rs B:=fun j hj h0 r hr=>by
 rw [←x.1]at hj
 by_cases q:0≤A.getD j 0
 ·have e1:=h j hj q r hr
  have e2:=x.2 j hj q
  obtain⟨m1,m2⟩:=aAm hr
  have b1:=hA.2 j hj
  have t1:=hw.to r m1
  have v1:=hw.val r m1 (A.getD j 0).toNat (by rw [m2];simp only [Int.toNat_natCast];omega)
  rw [x.2 r.to.toNat (by have:=hA.1;omega) (by rw [e1];exact v1.1),e2,e1]
 ·exact k j hj (by omega) h0 r hr
end
end Go.Cats
end
section
namespace Go.Cats
def stL {β:Type} (M:Nat) (o:List β) (q:β):Bool×List β:=(decide (o.length+1≤M),o++[q])
theorem aID {β:Type} {M:Nat}:∀(D o:List β),o.length≤M→eat (stL M) o D=(decide ((o++D).length≤M),(o++D).take (M+1))
 |[],o,h=>by
  rw [aIE,List.append_nil,List.take_of_length_le (by omega),decide_eq_true h]
 |q::D,o,h=>by
  by_cases h1:o.length+1≤M
  ·rw [wH (decide_eq_true h1),show(stL M o q).2=o++[q] from rfl,aID D _ (by simp;omega)]
   simp
  ·rw [aDw (decide_eq_false h1),show(stL M o q).2=o++[q] from rfl]
   have e1:o.length=M:=by omega
   have e2:decide ((o++q::D).length≤M)=false:=decide_eq_false (by simp;omega)
   rw [e2,←e1,List.take_append,List.take_of_length_le (by omega),show o.length+1-o.length=1 by omega]
   simp
theorem aFP {β:Type} {M:Nat} {D o:List β} (h:o.length≤M) (h1:(eat (stL M) o D).1=true):(eat (stL M) o D).2.length≤M:=by
 rw [aID _ _ h]at h1⊢
 simp only [decide_eq_true_eq]at h1
 simp only [List.length_take]
 omega
section
variable {f:Nat→Int→List Int→List Int→St} {e:Int} {l:List Rule} {A N:List Int} {k:Nat}
end
/-! ### The search -/
theorem aCm {α:Type} {p:Nat→Option α} {r:α}:∀{n:Nat},aZ n p=some r→∃i,i<n∧p i=some r∧aZ i p=none
 |0,h=>by cases h
 |n+1,h=>by
  rw [gB]at h
  cases hs:aZ n p with
  |none=>rw [hs]at h;exact⟨n,Nat.lt_succ_self _,h,hs⟩
  |some q=>
   rw [hs]at h
   obtain⟨i,h1,h2,h3⟩:=aCm hs
   have:q=r:=Option.some.inj h
   subst this
   exact⟨i,by omega,h2,h3⟩
theorem aDP {S:List Nat} {A:List Int} (hA:RngL S A):(idxOf A (-1)= -1∧∀j,j<A.length→0≤A.getD j 0)∨∃i:Nat,idxOf A (-1)=i∧i<A.length∧A.getD i 0= -1∧∀j,j<i→0≤A.getD j 0:=by
 have hne:∀j,j<A.length→iO A (-1) j=none→0≤A.getD j 0:=fun j hj h=>by
  have h1:=(hA.2 j hj).1
  unfold iO at h
  split at h
  ·cases h
  ·omega
 cases hs:aZ A.length (iO A (-1))with
 |none=>exact .inl ⟨pJ hs,fun j hj=>hne j hj (scan_none.1 hs j hj)⟩
 |some r=>
  obtain⟨i,h1,h2,h3⟩:=aCm hs
  have h4:A.getD i 0= -1:=by
   unfold iO at h2
   split at h2
   ·assumption
   ·cases h2
  exact .inr ⟨i,idxOf_hit h3 h1 h4,h1,h4,fun j hj=>hne j (by omega) (scan_none.1 h3 j hj)⟩
theorem aN6 (A:List Int):uns A≤A.length:=List.length_filter_le _ _
structure TryF (rs:List Rule) (S:List Nat) (A:List Int) (i u:Nat) (T:St):Prop where
 len:T.2.1.length=A.length
 nl:T.2.2.length≤A.length
 at1:∀j,j<T.2.2.length→0≤T.2.2.getD j 0∧(T.2.2.getD j 0).toNat<A.length
 back:aN5 T.2.1 T.2.2=A
 yes:T.1=true→RngL S T.2.1∧ClL rs T.2.1∧uns T.2.1<uns A∧dO (okW rs) S (A.set i (u:Int))=dO (okW rs) S T.2.1
 no:T.1=false→dO (okW rs) S (A.set i (u:Int))=[]
end Go.Cats
end
section
namespace Go.Cats
structure Link where
 i:Int
 j:Int
 left:List Int
 right:List Int
instance:Inhabited Link:=⟨⟨0,0,[],[]⟩⟩
structure LinksW (S:List Nat) (ls:List Link):Prop where
 i:∀l∈ls,0≤l.i∧l.i<S.length
 j:∀l∈ls,0≤l.j∧l.j<S.length
 left:∀l∈ls,l.left.length=S.getD l.i.toNat 0
 right:∀l∈ls,l.right.length=S.getD l.j.toNat 0
def aRi (ls:List Link) (Q:List Int):Bool:=ls.all fun l=>decide (l.left.getD (Q.getD l.i.toNat 0).toNat 0=l.right.getD (Q.getD l.j.toNat 0).toNat 0)
def aA3 (A:List Int) (n:Nat) (e:Int) (l:Link):Bool:=
 if l.i=n∧l.j=n then decide (l.left.getD e.toNat 0=l.right.getD e.toNat 0)
 else if l.i=n∧0≤A.getD l.j.toNat 0 then decide (l.left.getD e.toNat 0=l.right.getD (A.getD l.j.toNat 0).toNat 0)
 else if l.j=n∧0≤A.getD l.i.toNat 0 then decide (l.left.getD (A.getD l.i.toNat 0).toNat 0=l.right.getD e.toNat 0)
 else true
def atL (ls:List Link) (n:Nat) (m:Nat):List Nat:=(List.range m).filter fun k=>decide ((ls.getD k default).i=n)||decide ((ls.getD k default).j=n)
def aP3 (ls:List Link) (A:List Int) (n:Nat) (e:Int):Bool:=(atL ls n ls.length).all fun k=>aA3 A n e (ls.getD k default)
section
variable {ls:List Link} {S:List Nat} {A B Q:List Int} {n i m:Nat} {e:Int} {l:Link}
theorem aLU (h:aP3 ls A n e=true) (hl:l∈ls):aA3 A n e l=true:=by
 by_cases hn:l.i=n∨l.j=n
 ·obtain⟨k,hk,e1⟩:=List.getElem_of_mem hl
  have hg:ls.getD k default=l:=by rw [List.getD_eq_getElem?_getD,List.getElem?_eq_getElem hk,Option.getD_some,e1]
  have:=List.all_eq_true.1 h k (List.mem_filter.2 ⟨List.mem_range.2 hk,by rw [hg];simpa using hn⟩)
  rwa [hg]at this
 ·unfold aA3
  rw [if_neg (fun q=>hn (.inl q.1)),if_neg (fun q=>hn (.inl q.1)),if_neg (fun q=>hn (.inr q.1))]
def CoL (ls:List Link) (A:List Int):Prop:=∀l∈ls,0≤A.getD l.i.toNat 0→0≤A.getD l.j.toNat 0→l.left.getD (A.getD l.i.toNat 0).toNat 0=l.right.getD (A.getD l.j.toNat 0).toNat 0
theorem CoL.set (hw:LinksW S ls) (hA:A.length=S.length) (hi:i<A.length) (h:CoL ls A) {u:Nat} (hu:aP3 ls A i u=true):CoL ls (A.set i (u:Int)):=fun l hl h1 h2=>by
 have hf:=aLU hu hl
 have w1:=hw.i l hl
 have w2:=hw.j l hl
 rw [bV hi]at h1 h2⊢
 rw [bV hi]
 unfold aA3 at hf
 by_cases c1:l.i.toNat=i
 ·have e1:l.i=i:=by omega
  rw [if_pos c1]
  by_cases c2:l.j.toNat=i
  ·have e2:l.j=i:=by omega
   rw [if_pos c2]
   rw [if_pos ⟨e1,e2⟩]at hf
   simpa using hf
  ·rw [if_neg c2]at h2⊢
   rw [if_neg (fun q=>c2 (by omega)),if_pos ⟨e1,h2⟩]at hf
   simpa using hf
 ·rw [if_neg c1]at h1⊢
  by_cases c2:l.j.toNat=i
  ·have e2:l.j=i:=by omega
   rw [if_pos c2]
   rw [if_neg (fun q=>c1 (by omega)),if_neg (fun q=>c1 (by omega)),if_pos ⟨e2,h1⟩]at hf
   simpa using hf
  ·rw [if_neg c2]at h2⊢
   exact h l hl h1 h2
end
end Go.Cats
end
section
namespace Go.Cats
end Go.Cats
end
section
namespace Go.Cats
abbrev Fs:=Bool×Bool×List Int
abbrev Cat.cp (c:Cat) (a b:Nat):Int:=(c.co.getD a []).getD b 0
def stF (c d:Cat) (a b:Nat) (s:Fs):Fs:=
 if c.cp a b<0∨s.2.2.getD a 0<0∨s.2.2.getD b 0<0 then s
 else if s.2.2.getD (c.cp a b).toNat 0<0 then(true,true,s.2.2.set (c.cp a b).toNat (d.C (s.2.2.getD a 0) (s.2.2.getD b 0)))
 else(decide (s.2.2.getD (c.cp a b).toNat 0=d.C (s.2.2.getD a 0) (s.2.2.getD b 0)),s.2.1,s.2.2)
def gV (c d:Cat) (a:Nat):Nat→Fs→Fs
 |0,s=>s
 |b+1,s=>if(gV c d a b s).1=true then stF c d a b (gV c d a b s)else gV c d a b s
def bS (c d:Cat) (m:Nat):Nat→Fs→Fs
 |0,s=>s
 |a+1,s=>if(bS c d m a s).1=true then gV c d a m (bS c d m a s)else bS c d m a s
def fM (c d:Cat):Nat→List Int→Bool×List Int
 |0,A=>(false,A)
 |k+1,A=>if(bS c d c.fr.length c.fr.length (true,false,A)).1=true then
   (if(bS c d c.fr.length c.fr.length (true,false,A)).2.1=true then fM c d k (bS c d c.fr.length c.fr.length (true,false,A)).2.2 else(true,(bS c d c.fr.length c.fr.length (true,false,A)).2.2))
   else(false,(bS c d c.fr.length c.fr.length (true,false,A)).2.2)
section
variable {c d:Cat} {a b m n k:Nat} {s t u:Fs} {O A B Q:List Int} {g:Bool}
theorem sJ (h:c.cp a b<0∨s.2.2.getD a 0<0∨s.2.2.getD b 0<0):stF c d a b s=s:=if_pos h
theorem aFb (h:¬(c.cp a b<0∨s.2.2.getD a 0<0∨s.2.2.getD b 0<0)) (k:s.2.2.getD (c.cp a b).toNat 0<0):stF c d a b s=(true,true,s.2.2.set (c.cp a b).toNat (d.C (s.2.2.getD a 0) (s.2.2.getD b 0))):=by
 unfold stF;rw [if_neg h,if_pos k]
theorem aBg (h:¬(c.cp a b<0∨s.2.2.getD a 0<0∨s.2.2.getD b 0<0)) (k:¬s.2.2.getD (c.cp a b).toNat 0<0):stF c d a b s=(decide (s.2.2.getD (c.cp a b).toNat 0=d.C (s.2.2.getD a 0) (s.2.2.getD b 0)),s.2.1,s.2.2):=by
 unfold stF;rw [if_neg h,if_neg k]
theorem aEb:gV c d a 0 s=s:=rfl
theorem xF (h:(gV c d a b s).1=true):gV c d a (b+1) s=stF c d a b (gV c d a b s):=by rw [gV];exact if_pos h
theorem aET (h:(gV c d a b s).1=false):gV c d a (b+1) s=gV c d a b s:=by rw [gV];exact if_neg (by rw [h];simp)
theorem aEa (h:(gV c d a b s).1=false):∀{n:Nat},b≤n→gV c d a n s=gV c d a b s
 |0,hn=>by rw [show b=0 by omega]
 |n+1,hn=>by
  by_cases e:b=n+1
  ·rw [e]
  ·have ih:=aEa h (n:=n) (by omega)
   rw [aET (by rw [ih];exact h),ih]
theorem aB7:bS c d m 0 s=s:=rfl
theorem rJ (h:(bS c d m a s).1=true):bS c d m (a+1) s=gV c d a m (bS c d m a s):=by rw [bS];exact if_pos h
theorem aB5 (h:(bS c d m a s).1=false):bS c d m (a+1) s=bS c d m a s:=by rw [bS];exact if_neg (by rw [h];simp)
theorem aB6 (h:(bS c d m a s).1=false):∀{n:Nat},a≤n→bS c d m n s=bS c d m a s
 |0,hn=>by rw [show a=0 by omega]
 |n+1,hn=>by
  by_cases e:a=n+1
  ·rw [e]
  ·have ih:=aB6 h (n:=n) (by omega)
   rw [aB5 (by rw [ih];exact h),ih]
structure VA (c d:Cat) (O A:List Int):Prop where
 len:A.length=c.fr.length
 lo:∀f:Nat,f<A.length→-1≤A.getD f 0
 hi:∀f:Nat,f<A.length→0≤A.getD f 0→A.getD f 0<d.fr.length∧d.fr.getD (A.getD f 0).toNat 0=O.getD (c.fr.getD f 0).toNat 0∧d.to.getD (A.getD f 0).toNat 0=O.getD (c.to.getD f 0).toNat 0
theorem fL (hc:Shape c) (ha:a<c.fr.length) (hb:b<c.fr.length) (h0:0≤c.cp a b):c.to.getD a 0=c.fr.getD b 0∧(c.cp a b).toNat<c.fr.length∧c.fr.getD (c.cp a b).toNat 0=c.fr.getD a 0∧c.to.getD (c.cp a b).toNat 0=c.to.getD b 0:=by
 have:=(hc.coe a ha).2 b hb
 unfold Cat.Entry at this
 simp only [Cat.F,Cat.T,Cat.C,Int.toNat_natCast]at this
 rcases this with⟨h1,h2,h3,h4⟩|⟨h1,h2⟩
 ·exact⟨h1,by show((c.co.getD a []).getD b 0).toNat<_;omega,h3,h4⟩
 ·exact absurd h0 (by show¬0≤(c.co.getD a []).getD b 0;omega)
theorem aLL (hd:Shape d) (ha:a<d.fr.length) (hb:b<d.fr.length) (h:d.to.getD a 0=d.fr.getD b 0):0≤d.cp a b∧d.cp a b<d.fr.length∧d.fr.getD (d.cp a b).toNat 0=d.fr.getD a 0∧d.to.getD (d.cp a b).toNat 0=d.to.getD b 0:=by
 have:=(hd.coe a ha).2 b hb
 unfold Cat.Entry at this
 simp only [Cat.F,Cat.T,Cat.C,Int.toNat_natCast]at this
 rcases this with⟨h1,h2,h3,h4⟩|⟨h1,h2⟩
 ·exact⟨h2.1,h2.2,h3,h4⟩
 ·exact absurd h h1
theorem VA.comp (hc:Shape c) (hd:Shape d) (h:VA c d O A) (ha:a<c.fr.length) (hb:b<c.fr.length) (h0:0≤c.cp a b) (a0:0≤A.getD a 0) (b0:0≤A.getD b 0):
  0≤d.C (A.getD a 0) (A.getD b 0)∧d.C (A.getD a 0) (A.getD b 0)<d.fr.length∧d.fr.getD (d.C (A.getD a 0) (A.getD b 0)).toNat 0=O.getD (c.fr.getD (c.cp a b).toNat 0).toNat 0∧d.to.getD (d.C (A.getD a 0) (A.getD b 0)).toNat 0=O.getD (c.to.getD (c.cp a b).toNat 0).toNat 0:=by
 obtain⟨e1,e2,e3,e4⟩:=fL hc ha hb h0
 obtain⟨p1,p2,p3⟩:=h.hi a (by rw [h.len];exact ha) a0
 obtain⟨q1,q2,q3⟩:=h.hi b (by rw [h.len];exact hb) b0
 obtain⟨r1,r2,r3,r4⟩:=aLL hd (a:=(A.getD a 0).toNat) (b:=(A.getD b 0).toNat) (by omega) (by omega) (by rw [p3,q2,e1])
 exact⟨r1,r2,by rw [e3,←p2];exact r3,by rw [e4,←q3];exact r4⟩
theorem VA.set (h:VA c d O A) {i:Nat} {v:Int} (hi:i<A.length) (v0:0≤v) (v1:v<d.fr.length) (v2:d.fr.getD v.toNat 0=O.getD (c.fr.getD i 0).toNat 0) (v3:d.to.getD v.toNat 0=O.getD (c.to.getD i 0).toNat 0):VA c d O (A.set i v):=by
 refine⟨by simp [h.len],fun f hf=>?_,fun f hf=>?_⟩
 ·rw [bV hi]
  by_cases e:f=i
  ·rw [if_pos e];omega
  ·rw [if_neg e];exact h.lo f (by simpa using hf)
 ·rw [bV hi]
  by_cases e:f=i
  ·subst e;rw [if_pos rfl];exact fun _=>⟨v1,v2,v3⟩
  ·rw [if_neg e];exact h.hi f (by simpa using hf)
theorem VA.rng (h:VA c d O A):RngL (List.replicate c.fr.length d.fr.length) A:=⟨by rw [List.length_replicate];exact h.len,fun j hj=>by
 have h1:=h.lo j hj
 have h2:=h.hi j hj
 have h3:=h.len
 have e:(List.replicate c.fr.length d.fr.length).getD j 0=d.fr.length:=by
  rw [List.getD_eq_getElem?_getD,List.getElem?_replicate,if_pos (by omega)];rfl
 rw [e]
 by_cases h0:0≤A.getD j 0
 ·exact⟨h1,(h2 h0).1⟩
 ·exact⟨h1,by omega⟩⟩
def Cmp (c d:Cat) (Q:List Int):Prop:=∀a b:Nat,a<c.fr.length→b<c.fr.length→0≤c.cp a b→Q.getD (c.cp a b).toNat 0=d.C (Q.getD a 0) (Q.getD b 0)
structure Ff (c d:Cat) (O A:List Int) (g:Bool) (t:Fs):Prop where
 va:VA c d O t.2.2
 ext:XtL A t.2.2
 keep:t.2.1=false→g=false∧t.2.2=A
 prog:t.2.1=true→g=true∨uns t.2.2<uns A
 snd:∀Q,Cmp c d Q→fB A Q=true→t.1=true∧fB t.2.2 Q=true
theorem Ff.refl (h:VA c d O A):Ff c d O A g (true,g,A):=⟨h, .refl _,fun e=>⟨e,rfl⟩,fun e=> .inl e,fun _ _ h=>⟨rfl,h⟩⟩
theorem Ff.trans (h:Ff c d O A g t) (k:Ff c d O t.2.2 t.2.1 u):Ff c d O A g u:=by
 refine⟨k.va,h.ext.trans k.ext,fun e=>?_,fun e=>?_,fun Q hq hA=>k.snd Q hq (h.snd Q hq hA).2⟩
 ·obtain⟨e1,e2⟩:=k.keep e
  obtain⟨e3,e4⟩:=h.keep e1
  exact⟨e3,e2.trans e4⟩
 ·have u1:=h.ext.uns
  have u2:=k.ext.uns
  rcases k.prog e with e1|e1
  ·rcases h.prog e1 with e2|e2
   ·exact .inl e2
   ·exact .inr (by omega)
  ·exact .inr (by omega)
theorem aKY (hc:Shape c) (hd:Shape d) (h:VA c d O s.2.2) (ha:a<c.fr.length) (hb:b<c.fr.length) (h1:s.1=true):Ff c d O s.2.2 s.2.1 (stF c d a b s):=by
 have es:s=(true,s.2.1,s.2.2):=by rw [←h1]
 by_cases hk:c.cp a b<0∨s.2.2.getD a 0<0∨s.2.2.getD b 0<0
 ·rw [sJ hk,es]
  exact .refl h
 ·have c0:0≤c.cp a b:=by omega
  have a0:0≤s.2.2.getD a 0:=by omega
  have b0:0≤s.2.2.getD b 0:=by omega
  obtain⟨v0,v1,v2,v3⟩:=h.comp hc hd ha hb c0 a0 b0
  have hh:=(fL hc ha hb c0).2.1
  have hl:=h.len
  have hQ:∀Q,Cmp c d Q→fB s.2.2 Q=true→Q.getD (c.cp a b).toNat 0=d.C (s.2.2.getD a 0) (s.2.2.getD b 0):=fun Q hq hA=>by
   have e1:=(contB_iff.1 hA).2 a (by omega) a0
   have e2:=(contB_iff.1 hA).2 b (by omega) b0
   rw [hq a b ha hb c0,e1,e2]
  by_cases hn:s.2.2.getD (c.cp a b).toNat 0<0
  ·rw [aFb hk hn]
   refine⟨h.set (by omega) v0 v1 v2 v3, .set (by omega) (by omega),fun e=>(Bool.noConfusion e),fun _=> .inr ?_,fun Q hq hA=>⟨rfl,?_⟩⟩
   ·refine(XtL.set (e:=d.C (s.2.2.getD a 0) (s.2.2.getD b 0)) (A:=s.2.2) (i:=(c.cp a b).toNat) (by omega) (by omega)).uns_lt (j:=(c.cp a b).toNat) (by omega) hn ?_
    rw [bV (by omega),if_pos rfl];exact v0
   ·have e:=hQ Q hq hA
    rw [contB_iff]at hA⊢
    refine⟨by simpa using hA.1,fun j hj h1=>?_⟩
    show Q.getD j 0=(s.2.2.set _ _).getD j 0
    have h1:0≤(s.2.2.set _ _).getD j 0:=h1
    rw [bV (by omega)]at h1⊢
    by_cases q:j=(c.cp a b).toNat
    ·rw [if_pos q,q];exact e
    ·rw [if_neg q]at h1⊢;exact hA.2 j (by simpa using hj) h1
  ·rw [aBg hk hn]
   refine⟨h, .refl _,fun e=>⟨e,rfl⟩,fun e=> .inl e,fun Q hq hA=>⟨?_,hA⟩⟩
   have e:=hQ Q hq hA
   rw [(contB_iff.1 hA).2 _ (by omega) (by omega)]at e
   exact decide_eq_true e
theorem uX (hc:Shape c) (hd:Shape d) (h:VA c d O s.2.2) (ha:a<c.fr.length) (h1:s.1=true):∀{n:Nat},n≤c.fr.length→Ff c d O s.2.2 s.2.1 (gV c d a n s)
 |0,_=>by
  have es:s=(true,s.2.1,s.2.2):=by rw [←h1]
  rw [aEb]
  rw [es]
  exact .refl h
 |n+1,hn=>by
  have ih:=uX hc hd h ha h1 (n:=n) (by omega)
  cases hr:(gV c d a n s).1 with
  |true=>rw [xF hr];exact ih.trans (aKY hc hd ih.va ha (by omega) hr)
  |false=>rw [aET hr];exact ih
theorem rI (hc:Shape c) (hd:Shape d) (h:VA c d O s.2.2) (h1:s.1=true):∀{n:Nat},n≤c.fr.length→Ff c d O s.2.2 s.2.1 (bS c d c.fr.length n s)
 |0,_=>by
  have es:s=(true,s.2.1,s.2.2):=by rw [←h1]
  rw [aB7]
  rw [es]
  exact .refl h
 |n+1,hn=>by
  have ih:=rI hc hd h h1 (n:=n) (by omega)
  cases hr:(bS c d c.fr.length n s).1 with
  |true=>rw [rJ hr];exact ih.trans (uX hc hd ih.va (by omega) hr (Nat.le_refl _))
  |false=>rw [aB5 hr];exact ih
def Clo (c d:Cat) (A:List Int) (a b:Nat):Prop:=0≤c.cp a b→0≤A.getD a 0→0≤A.getD b 0→A.getD (c.cp a b).toNat 0=d.C (A.getD a 0) (A.getD b 0)
theorem aPE (h1:(stF c d a b s).1=true) (h2:(stF c d a b s).2.1=false):Clo c d s.2.2 a b∧(stF c d a b s).2.2=s.2.2∧s.2.1=false:=by
 by_cases hk:c.cp a b<0∨s.2.2.getD a 0<0∨s.2.2.getD b 0<0
 ·rw [sJ hk]at h2⊢
  exact⟨fun _ _ _=>by omega,rfl,h2⟩
 ·by_cases hn:s.2.2.getD (c.cp a b).toNat 0<0
  ·rw [aFb hk hn]at h2;cases h2
  ·rw [aBg hk hn]at h1 h2⊢
   exact⟨fun _ _ _=>by simpa using h1,rfl,h2⟩
theorem aGH:∀{n:Nat},(gV c d a n s).1=true→(gV c d a n s).2.1=false→(∀b,b<n→Clo c d s.2.2 a b)∧(gV c d a n s).2.2=s.2.2∧s.2.1=false
 |0,_,h2=>⟨fun b hb=>by omega,rfl,h2⟩
 |n+1,h1,h2=>by
  cases hr:(gV c d a n s).1 with
  |true=>
   rw [xF hr]at h1 h2⊢
   obtain⟨e1,e2,e3⟩:=aPE h1 h2
   obtain⟨i1,i2,i3⟩:=aGH hr e3
   rw [i2]at e1 e2
   exact⟨bB i1 e1,e2,i3⟩
  |false=>rw [aET hr,hr]at h1;cases h1
theorem aD1:∀{n:Nat},(bS c d m n s).1=true→(bS c d m n s).2.1=false→(∀a,a<n→∀b,b<m→Clo c d s.2.2 a b)∧(bS c d m n s).2.2=s.2.2∧s.2.1=false
 |0,_,h2=>⟨fun b hb=>by omega,rfl,h2⟩
 |n+1,h1,h2=>by
  cases hr:(bS c d m n s).1 with
  |true=>
   rw [rJ hr]at h1 h2⊢
   obtain⟨e1,e2,e3⟩:=aGH h1 h2
   obtain⟨i1,i2,i3⟩:=aD1 hr e3
   rw [i2]at e1 e2
   exact⟨bB i1 e1,e2,i3⟩
  |false=>rw [aB5 hr,hr]at h1;cases h1
theorem aDJ (h1:(bS c d c.fr.length c.fr.length (true,false,A)).1=true) (h2:(bS c d c.fr.length c.fr.length (true,false,A)).2.1=true):fM c d (k+1) A=fM c d k (bS c d c.fr.length c.fr.length (true,false,A)).2.2:=by
 rw [fM,if_pos h1,if_pos h2]
theorem aBT (h1:(bS c d c.fr.length c.fr.length (true,false,A)).1=true) (h2:(bS c d c.fr.length c.fr.length (true,false,A)).2.1=false):fM c d (k+1) A=(true,(bS c d c.fr.length c.fr.length (true,false,A)).2.2):=by
 rw [fM,if_pos h1,if_neg (by rw [h2];simp)]
theorem aDK (h1:(bS c d c.fr.length c.fr.length (true,false,A)).1=false):fM c d (k+1) A=(false,(bS c d c.fr.length c.fr.length (true,false,A)).2.2):=by
 rw [fM,if_neg (by rw [h1];simp)]
structure Fo (c d:Cat) (O A:List Int) (t:Bool×List Int):Prop where
 va:VA c d O t.2
 ext:XtL A t.2
 clo:t.1=true→∀a,a<c.fr.length→∀b,b<c.fr.length→Clo c d t.2 a b
 snd:∀Q,Cmp c d Q→fB A Q=true→t.1=true∧fB t.2 Q=true
theorem wM (hc:Shape c) (hd:Shape d):∀{k:Nat} {A:List Int},VA c d O A→uns A<k→Fo c d O A (fM c d k A)
 |0,A,_,h=>by omega
 |k+1,A,h,hk=>by
  have f:=rI (s:=(true,false,A)) hc hd h rfl (Nat.le_refl _)
  cases h1:(bS c d c.fr.length c.fr.length (true,false,A)).1 with
  |false=>
   rw [aDK h1]
   exact⟨f.va,f.ext,fun e=>Bool.noConfusion e,fun Q hq hA=>by have:=(f.snd Q hq hA).1;rw [h1]at this;cases this⟩
  |true=>
   cases h2:(bS c d c.fr.length c.fr.length (true,false,A)).2.1 with
   |true=>
    rw [aDJ h1 h2]
    have hu:uns (bS c d c.fr.length c.fr.length (true,false,A)).2.2<uns A:=by
     rcases f.prog h2 with e|e
     ·cases e
     ·exact e
    have ih:=wM hc hd (k:=k) f.va (by omega)
    exact⟨ih.va,f.ext.trans ih.ext,ih.clo,fun Q hq hA=>ih.snd Q hq (f.snd Q hq hA).2⟩
   |false=>
    rw [aBT h1 h2]
    obtain⟨g1,g2,_⟩:=aD1 h1 h2
    have g2:(bS c d c.fr.length c.fr.length (true,false,A)).2.2=A:=g2
    exact⟨f.va,f.ext,fun _=>by rw [g2];exact g1,fun Q hq hA=>⟨rfl,(f.snd Q hq hA).2⟩⟩
def NdI (A:List Int):Prop:=∀i j:Nat,i<j→j<A.length→0≤A.getD i 0→A.getD i 0≠A.getD j 0
theorem NdI.of_cont (h:NdI Q) (k:fB A Q=true):NdI A:=fun i j hij hj h0 e=>by
 rw [contB_iff]at k
 have e1:=k.2 i (by omega) h0
 have e2:=k.2 j hj (by omega)
 exact h i j hij (by omega) (by omega) (by omega)
noncomputable def eL (c d:Cat) (b:Bool) (A:List Int):Bool×List Int:=((fM c d (c.fr.length+1) A).1&&(!b||dec (NdI (fM c d (c.fr.length+1) A).2)),(fM c d (c.fr.length+1) A).2)
noncomputable def WA (c d:Cat) (b:Bool) (O Q:List Int):Bool:=dec (Fits ⟨c,d,O,Q⟩∧(b=true→NdI O∧NdI Q))
theorem WA_iff {b:Bool}:WA c d b O Q=true↔Fits ⟨c,d,O,Q⟩∧(b=true→NdI O∧NdI Q):=dec_iff
theorem Fits.cmp (h:Fits ⟨c,d,O,Q⟩):Cmp c d Q:=fun a b ha hb h0=>by
 have:=h.comp a b ha hb (by simpa only [Cat.C,Int.toNat_natCast]using h0)
 simpa only [Cat.C,Fun.A,Int.toNat_natCast]using this
structure Sp (c d:Cat) (b:Bool) (O A:List Int) (t:Bool×List Int):Prop where
 va:VA c d O t.2
 ext:XtL A t.2
 clo:t.1=true→∀a,a<c.fr.length→∀b,b<c.fr.length→Clo c d t.2 a b
 nd:t.1=true→b=true→NdI t.2
 snd:∀Q,WA c d b O Q=true→fB A Q=true→t.1=true∧fB t.2 Q=true
theorem aDd {b:Bool} (hc:Shape c) (hd:Shape d) (h:VA c d O A):Sp c d b O A (eL c d b A):=by
 have f:=wM hc hd (k:=c.fr.length+1) h (by have:=aN6 A;have:=h.len;omega)
 unfold eL
 refine⟨f.va,f.ext,fun e=>f.clo ?_,fun e hb=>?_,fun Q hQ hA=>?_⟩
 ·simp only [Bool.and_eq_true]at e;exact e.1
 ·subst hb
  simp only [Bool.and_eq_true,Bool.not_true,Bool.false_or]at e
  exact dec_iff.1 e.2
 ·obtain⟨w1,w2⟩:=WA_iff.1 hQ
  obtain⟨s1,s2⟩:=f.snd Q w1.cmp hA
  refine⟨?_,s2⟩
  simp only [Bool.and_eq_true]
  refine⟨s1,?_⟩
  cases b with
  |false=>rfl
  |true=>simp only [Bool.not_true,Bool.false_or];exact dec_iff.2 ((w2 rfl).2.of_cont s2)
end
end Go.Cats
end
section
namespace Go.Cats
structure XOK (c d:Cat) (b:Bool) (X:List Int):Prop where
 len:(X.length:Int)=c.ob
 wi:Within X d.ob
 nd:b=true→NdI X
structure NX (c d:Cat) (b:Bool) (X A:List Int):Prop where
 va:VA c d X A
 clo:∀a,a<c.fr.length→∀b,b<c.fr.length→Clo c d A a b
 nd:b=true→NdI A
 un:∀x:Nat,x<c.id.length→A.getD (c.id.getD x 0).toNat 0=d.id.getD (X.getD x 0).toNat 0
abbrev sA (c d:Cat):List Nat:=List.replicate c.fr.length d.fr.length
def bW (c d:Cat) (X:List Int):Nat→List Int
 |0=>List.replicate c.fr.length (-1)
 |y+1=>(bW c d X y).set (c.id.getD y 0).toNat (d.id.getD (X.getD y 0).toNat 0)
def iE (c d:Cat) (X:List Int):List Int:=bW c d X c.id.length
noncomputable def aJ1 (c d:Cat) (b:Bool) (X:List Int):List (List Int):=dO (WA c d b X) (sA c d) (List.replicate c.fr.length (-1))
noncomputable def cZ (c d:Cat) (b:Bool):Nat→List Int→List Fun
 |0,X=>(aJ1 c d b X).map fun Q=>⟨c,d,X,Q⟩
 |r+1,X=>(List.range d.ob.toNat).flatMap fun y:Nat=>cZ c d b r (X++[(y:Int)])
def dQ (W:List Int→Bool) (S:List Nat) (A:List Int) (i:Nat) (L:List Int):List (List Int):=L.flatMap fun v=>dO W S (A.set i v)
section
variable {c d:Cat} {b:Bool} {X A Q L:List Int} {i k:Nat} {v:Int} {W:List Int→Bool} {S:List Nat}
theorem aEV (h:i<c.fr.length):(sA c d).getD i 0=d.fr.length:=by
 rw [List.getD_eq_getElem?_getD,List.getElem?_replicate,if_pos h];rfl
theorem NX.leaf (hX:XOK c d b X) (h:NX c d b X A) (hf:∀j,j<A.length→0≤A.getD j 0):dO (WA c d b X) (sA c d) A=[A]:=by
 have hr:=h.va.rng
 rw [aDH hr.1 fun j hj=>⟨hf j hj,(hr.2 j hj).2⟩,if_pos]
 have hl:=h.va.len
 refine WA_iff.2 ⟨⟨hX.len,hl,hX.wi,fun i hi=>⟨hf i hi,(h.va.hi i hi (hf i hi)).1⟩,fun a ha=>?_,fun x hx=>?_,fun a b ha hb h0=>?_⟩,fun e=>⟨hX.nd e,h.nd e⟩⟩
 ·have:=h.va.hi a ha (hf a ha)
  simp only [Cat.F,Cat.T,Fun.O,Int.toNat_natCast]
  exact this.2
 ·have:=h.un x hx
  simp only [Cat.I,Fun.A,Fun.O,Int.toNat_natCast]
  exact this
 ·have h0:0≤c.cp a b:=by simpa only [Cat.C,Int.toNat_natCast]using h0
  have:=h.clo a ha b hb h0 (hf a (by rw [hl];exact ha)) (hf b (by rw [hl];exact hb))
  simp only [Cat.C,Fun.A,Int.toNat_natCast]
  exact this
theorem tZ:dQ W S A i []=[]:=rfl
theorem zR (h:k<L.length):dQ W S A i (L.take (k+1))=dQ W S A i (L.take k)++dO W S (A.set i (L.getD k 0)):=by
 unfold dQ
 rw [List.take_add_one,List.getElem?_eq_getElem h,List.flatMap_append,List.getD_eq_getElem?_getD,List.getElem?_eq_getElem h]
 simp
theorem aEu (h:k<L.length):∃R,dQ W S A i L=dQ W S A i (L.take (k+1))++R:=by
 refine⟨dQ W S A i (L.drop (k+1)),?_⟩
 unfold dQ
 rw [←List.flatMap_append,List.take_append_drop]
theorem aA0 (h:VA c d X A) (hi:i<A.length) (hv:v∈d.hom (X.getD (c.fr.getD i 0).toNat 0) (X.getD (c.to.getD i 0).toNat 0)):VA c d X (A.set i v):=by
 obtain⟨h1,h2,h3,h4⟩:=Cat.mem_hom.1 hv
 exact h.set hi h1 h2 h3 h4
theorem aBt (h:VA c d X A) (hi:i<A.length) (h0:A.getD i 0= -1) (hlt:∀j,j<i→0≤A.getD j 0):
  dO (WA c d b X) (sA c d) A=dQ (WA c d b X) (sA c d) A i (d.hom (X.getD (c.fr.getD i 0).toNat 0) (X.getD (c.to.getD i 0).toNat 0)):=by
 have hl:=h.len
 rw [aAg h.rng.1 hi hlt (by omega),aEV (by omega)]
 unfold dQ Cat.hom Cat.homI fA
 rw [List.flatMap_assoc,List.flatMap_def,List.flatMap_def]
 congr 1
 refine List.map_congr_left fun u hu=>?_
 have hu:=List.mem_range.1 hu
 by_cases e:d.fr.getD u 0=X.getD (c.fr.getD i 0).toNat 0∧d.to.getD u 0=X.getD (c.to.getD i 0).toNat 0
 ·rw [if_pos e];simp
 ·rw [if_neg e,List.flatMap_nil]
  refine rD fun Q hQ hW hc=>e ?_
  have e1:=(contB_iff.1 hc).2 i (by simpa using hi) (by rw [bV hi,if_pos rfl];omega)
  rw [bV hi,if_pos rfl]at e1
  obtain⟨w1,_⟩:=WA_iff.1 hW
  have:=w1.endf i (by show i<Q.length;rw [←(contB_iff.1 hc).1];simpa using hi)
  simp only [Cat.F,Cat.T,Fun.O,Int.toNat_natCast,e1]at this
  exact this
theorem qE (hc:Shape c) {x:Nat} (hx:x<c.id.length):(c.id.getD x 0).toNat<c.fr.length∧0≤c.id.getD x 0∧c.fr.getD (c.id.getD x 0).toNat 0=x∧c.to.getD (c.id.getD x 0).toNat 0=x:=by
 have h1:=hc.idw x hx
 have h2:=hc.ide x hx
 exact⟨by omega,h1.1,h2.1,h2.2⟩
theorem lX (hc:Shape c) (hd:Shape d) (hX:XOK c d b X) {x:Nat} (hx:x<c.id.length):0≤X.getD x 0∧(X.getD x 0).toNat<d.id.length∧0≤d.id.getD (X.getD x 0).toNat 0∧d.id.getD (X.getD x 0).toNat 0<d.fr.length∧d.fr.getD (d.id.getD (X.getD x 0).toNat 0).toNat 0=X.getD x 0∧d.to.getD (d.id.getD (X.getD x 0).toNat 0).toNat 0=X.getD x 0:=by
 have h1:=hX.len
 have h2:=hc.idl
 have h3:=hX.wi x (by omega)
 have h4:=hd.idl
 have hx':(X.getD x 0).toNat<d.id.length:=by omega
 have h5:=hd.idw _ hx'
 have h6:=hd.ide _ hx'
 refine⟨h3.1,hx',h5.1,h5.2,?_,?_⟩
 ·have:=h6.1;simp only [Cat.F]at this;rw [this];omega
 ·have:=h6.2;simp only [Cat.T]at this;rw [this];omega
structure TryN (c d:Cat) (b:Bool) (X A:List Int) (E:List (List Int)) (t:Bool×List Int):Prop where
 va:VA c d X t.2
 ext:XtL A t.2
 yes:t.1=true→NX c d b X t.2∧E=dO (WA c d b X) (sA c d) t.2
 no:t.1=false→E=[]
theorem aCK (hc:Shape c) (hd:Shape d) (hX:XOK c d b X) (hA:VA c d X A) (hu:∀x:Nat,x<c.id.length→A.getD (c.id.getD x 0).toNat 0=d.id.getD (X.getD x 0).toNat 0):TryN c d b X A (dO (WA c d b X) (sA c d) A) (eL c d b A):=by
 have f:=aDd (b:=b) hc hd hA
 refine⟨f.va,f.ext,fun e=>⟨⟨f.va,f.clo e,f.nd e,fun x hx=>?_⟩,?_⟩,fun e=>?_⟩
 ·have h1:=qE hc hx
  have h2:=lX hc hd hX hx
  rw [f.ext.2 _ (by rw [hA.len];exact h1.1) (by rw [hu x hx];exact h2.2.2.1),hu x hx]
 ·exact uL fun Q hQ hW=>⟨fun k=>(f.snd Q hW k).2,fun k=>f.ext.cont k⟩
 ·exact rD fun Q hQ hW k=>by have:=(f.snd Q hW k).1;rw [e]at this;cases this
theorem NX.try_ (hc:Shape c) (hd:Shape d) (hX:XOK c d b X) (h:NX c d b X A) (hi:i<A.length) (h0:A.getD i 0= -1) (hv:v∈d.hom (X.getD (c.fr.getD i 0).toNat 0) (X.getD (c.to.getD i 0).toNat 0)):
  TryN c d b X (A.set i v) (dO (WA c d b X) (sA c d) (A.set i v)) (eL c d b (A.set i v))∧uns (eL c d b (A.set i v)).2<uns A:=by
 have t:=aCK (b:=b) (X:=X) (A:=A.set i v) hc hd hX (aA0 h.va hi hv) fun x hx=>by
  have h1:=h.un x hx
  have h2:=lX hc hd hX hx
  rw [bV hi,if_neg,h1]
  intro e
  rw [e,h0]at h1
  omega
 have hv0:=(Cat.mem_hom.1 hv).1
 refine⟨t,?_⟩
 have x1:XtL A (A.set i v):= .set hi (by omega)
 have e1:=t.ext.2 i (by simpa using hi) (by rw [bV hi,if_pos rfl];exact hv0)
 rw [bV hi,if_pos rfl]at e1
 exact(x1.trans t.ext).uns_lt hi (by omega) (by rw [e1];exact hv0)
theorem dX:∀k,(bW c d X k).length=c.fr.length
 |0=>by simp [bW]
 |k+1=>by rw [bW,List.length_set,dX k]
theorem pO {n j:Nat}:(List.replicate n (-1:Int)).getD j 0=if j<n then-1 else 0:=by
 rw [List.getD_eq_getElem?_getD,List.getElem?_replicate]
 split<;>rfl
theorem tB (hc:Shape c) (hd:Shape d) (hX:XOK c d b X):∀{k:Nat},k≤c.id.length→VA c d X (bW c d X k)
 |0,_=>by
  refine⟨by simp [bW],fun f hf=>?_,fun f hf h0=>?_⟩
  ·have hf:f<c.fr.length:=by simpa [bW]using hf
   rw [bW,pO,if_pos hf];omega
  ·have hf:f<c.fr.length:=by simpa [bW]using hf
   rw [bW,pO,if_pos hf]at h0;omega
 |k+1,hk=>by
  have ih:=tB hc hd hX (k:=k) (by omega)
  have h1:=qE hc (x:=k) (by omega)
  have h2:=lX hc hd hX (x:=k) (by omega)
  rw [bW]
  exact ih.set (by rw [dX];exact h1.1) h2.2.2.1 h2.2.2.2.1 (by rw [h2.2.2.2.2.1,h1.2.2.1,Int.toNat_natCast]) (by rw [h2.2.2.2.2.2,h1.2.2.2,Int.toNat_natCast])
theorem mC (hc:Shape c):∀{k:Nat},k≤c.id.length→∀x:Nat,x<k→(bW c d X k).getD (c.id.getD x 0).toNat 0=d.id.getD (X.getD x 0).toNat 0
 |0,_,x,hx=>by omega
 |k+1,hk,x,hx=>by
  have h1:=qE hc (x:=k) (by omega)
  have h2:=qE hc (x:=x) (by omega)
  rw [bW,bV (by rw [dX];exact h1.1)]
  by_cases e:x=k
  ·rw [e,if_pos rfl]
  ·rw [if_neg]
   ·exact mC hc (by omega) x (by omega)
   ·intro q
    have a1:=h1.2.2.1
    have a2:=h2.2.2.1
    rw [q]at a2
    omega
theorem sK (hc:Shape c) (hQ:Fits ⟨c,d,X,Q⟩):∀{k:Nat},k≤c.id.length→fB (bW c d X k) Q=true
 |0,_=>by
  rw [contB_iff]
  refine⟨by rw [bW,List.length_replicate];exact hQ.arl.symm,fun i hi h0=>?_⟩
  have hi:i<c.fr.length:=by simpa [bW]using hi
  rw [bW,pO,if_pos hi]at h0
  omega
 |k+1,hk=>by
  have ih:=sK hc hQ (k:=k) (by omega)
  have h1:=qE hc (x:=k) (by omega)
  rw [contB_iff]at ih⊢
  rw [bW]
  refine⟨by simpa using ih.1,fun i hi h0=>?_⟩
  rw [bV (by rw [dX];exact h1.1)]at h0⊢
  by_cases e:i=(c.id.getD k 0).toNat
  ·rw [if_pos e,e]
   have:=hQ.unit k (by show k<c.id.length;omega)
   simpa only [Cat.I,Fun.A,Fun.O,Int.toNat_natCast]using this
  ·rw [if_neg e]at h0⊢
   exact ih.2 i (by simpa using hi) h0
theorem aK0 (hc:Shape c) (hd:Shape d) (hX:XOK c d b X):TryN c d b X (iE c d X) (aJ1 c d b X) (eL c d b (iE c d X)):=by
 have hva:=tB hc hd hX (Nat.le_refl _)
 have t:=aCK (b:=b) (X:=X) (A:=iE c d X) hc hd hX hva fun x hx=>mC hc (Nat.le_refl _) x hx
 have e:aJ1 c d b X=dO (WA c d b X) (sA c d) (iE c d X):=by
  unfold aJ1
  refine uL fun Q hQ hW=>⟨fun _=>sK hc (WA_iff.1 hW).1 (Nat.le_refl _),fun k=>?_⟩
  rw [contB_iff]at k⊢
  refine⟨by rw [←k.1,List.length_replicate];exact(dX _).symm,fun i hi h0=>?_⟩
  rw [List.length_replicate]at hi
  rw [pO,if_pos hi]at h0
  omega
 rw [e];exact t
/-! ### Objects -/
theorem rF:∀{r:Nat} {X:List Int} {g:Fun},g∈cZ c d b r X→g.src=c∧g.tgt=d∧g.obs.take X.length=X∧WA c d b g.obs g.ars=true
 |0,X,g,h=>by
  rw [cZ]at h
  obtain⟨Q,hQ,rfl⟩:=List.mem_map.1 h
  exact⟨rfl,rfl,List.take_length,(mem_extW.1 hQ).2.2⟩
 |r+1,X,g,h=>by
  rw [cZ]at h
  obtain⟨y,hy,hg⟩:=List.mem_flatMap.1 h
  obtain⟨h1,h2,h3,h4⟩:=rF hg
  refine⟨h1,h2,?_,h4⟩
  have:=congrArg (List.take X.length) h3
  rw [List.take_take,List.length_append,List.length_singleton,Nat.min_eq_left (by omega),List.take_append_of_le_length (Nat.le_refl _),List.take_length]at this
  exact this
theorem wO {r:Nat} (h:∀O Q:List Int,O.take X.length=X→WA c d b O Q=true→False):cZ c d b r X=[]:=by
 rw [List.eq_nil_iff_forall_not_mem]
 intro g hg
 obtain⟨h1,h2,h3,h4⟩:=rF hg
 exact h _ _ h3 h4
theorem sX:∀{L M:List Int},L.Nodup→(∀x∈L,x∈M)→L.length≤M.length
 |[],M,_,_=>Nat.zero_le _
 |a::L,M,hn,hs=>by
  have ha:=hs a (List.mem_cons_self ..)
  have hn':=List.nodup_cons.1 hn
  have:=sX (L:=L) (M:=M.erase a) hn'.2 fun x hx=>by
   have hne:x≠a:=fun e=>hn'.1 (e▸hx)
   exact(List.mem_erase_of_ne hne).2 (hs x (List.mem_cons_of_mem _ hx))
  rw [List.length_erase_of_mem ha]at this
  have hp:0<M.length:=List.length_pos_of_mem ha
  simp only [List.length_cons]
  omega
def aOf (c:Cat) (b:Bool) (p q:Int):Nat:=if b=true then(c.hom p q).length else 1
def PlF (c d:Cat) (b:Bool) (X:List Int) (x:Nat) (f:Nat):Prop:=c.fr.getD f 0≤x→c.to.getD f 0≤x→(c.fr.getD f 0=x∨c.to.getD f 0=x)→aOf c b (c.fr.getD f 0) (c.to.getD f 0)≤(d.hom (X.getD (c.fr.getD f 0).toNat 0) (X.getD (c.to.getD f 0).toNat 0)).length
def pA (c d:Cat) (b:Bool) (X:List Int) (x:Nat):Prop:=∀f,f<c.fr.length→PlF c d b X x f
theorem aJZ {O:List Int} {f:Nat} (h:WA c d b O Q=true) (hf:f<c.fr.length):aOf c b (c.fr.getD f 0) (c.to.getD f 0)≤(d.hom (O.getD (c.fr.getD f 0).toNat 0) (O.getD (c.to.getD f 0).toNat 0)).length:=by
 obtain⟨w1,w2⟩:=WA_iff.1 h
 have hm:∀g:Nat,g<c.fr.length→c.fr.getD g 0=c.fr.getD f 0→c.to.getD g 0=c.to.getD f 0→Q.getD g 0∈d.hom (O.getD (c.fr.getD f 0).toNat 0) (O.getD (c.to.getD f 0).toNat 0):=fun g hg e1 e2=>by
  have a1:Q.length=c.fr.length:=w1.arl
  have a2:=w1.arw g (by show g<Q.length;omega)
  have a3:=w1.endf g (by show g<Q.length;omega)
  simp only [Cat.F,Cat.T,Fun.O,Int.toNat_natCast,e1,e2]at a3
  exact Cat.mem_hom.2 ⟨a2.1,a2.2,a3.1,a3.2⟩
 unfold aOf
 split
 ·rename_i hb
  have hn:=(w2 hb).2
  have e:((c.hom (c.fr.getD f 0) (c.to.getD f 0)).map fun g=>Q.getD g.toNat 0).length=(c.hom (c.fr.getD f 0) (c.to.getD f 0)).length:=List.length_map ..
  rw [←e]
  refine sX ?_ fun x hx=>?_
  ·unfold List.Nodup
   rw [List.pairwise_map]
   refine List.Pairwise.imp_of_mem ?_ (Cat.hom_nodup c (c.fr.getD f 0) (c.to.getD f 0))
   intro g g' hg hg' hne e
   obtain⟨g1,g2,g3,g4⟩:=Cat.mem_hom.1 hg
   obtain⟨k1,k2,k3,k4⟩:=Cat.mem_hom.1 hg'
   have a1:Q.length=c.fr.length:=w1.arl
   have a2:=w1.arw g.toNat (by show _<Q.length;omega)
   have a3:=w1.arw g'.toNat (by show _<Q.length;omega)
   simp only at a2 a3
   rcases Nat.lt_trichotomy g.toNat g'.toNat with q|q|q
   ·exact hn _ _ q (by omega) a2.1 e
   ·exact hne (by omega)
   ·exact hn _ _ q (by omega) a3.1 e.symm
  ·obtain⟨g,hg,rfl⟩:=List.mem_map.1 hx
   obtain⟨g1,g2,g3,g4⟩:=Cat.mem_hom.1 hg
   exact hm g.toNat (by omega) g3 g4
 ·exact List.length_pos_of_mem (hm f hf rfl rfl)
theorem getD_take {l m:List Int} {n i:Nat} (h:l.take n=m) (hi:i<m.length):l.getD i 0=m.getD i 0:=by
 subst h
 rw [List.length_take]at hi
 rw [List.getD_eq_getElem?_getD,List.getD_eq_getElem?_getD,List.getElem?_take,if_pos (by omega)]
theorem aKu {r:Nat} {x:Nat} (hc:Shape c) (hx:X.length=x+1) (h:¬pA c d b X x):cZ c d b r X=[]:=by
 refine wO fun O Q hO hW=>h fun f hf h1 h2 _=>?_
 have:=aJZ hW hf
 have f1:=hc.frw f hf
 have f2:=hc.tow f (by rw [hc.tol];exact hf)
 rw [getD_take hO (by omega),getD_take hO (by omega)]at this
 exact this
theorem aIY {r y:Nat} (h:(y:Int)∈X):cZ c d true r (X++[(y:Int)])=[]:=by
 refine wO fun O Q hO hW=>?_
 have hn:=((WA_iff.1 hW).2 rfl).1
 obtain⟨i,hi,e⟩:=fX (d:=0) h
 have hl:X.length<O.length:=by
  have:=congrArg List.length hO
  simp only [List.length_take,List.length_append,List.length_singleton]at this
  omega
 have e1:O.getD i 0=y:=by
  rw [getD_take hO (by simp;omega),List.getD_eq_getElem?_getD,List.getElem?_append_left hi,←List.getD_eq_getElem?_getD,e]
 have e2:O.getD X.length 0=y:=by
  rw [getD_take hO (by simp),List.getD_eq_getElem?_getD,List.getElem?_append_right (Nat.le_refl _)]
  simp
 exact hn i X.length hi hl (by omega) (by rw [e1,e2])
noncomputable def gC (c d:Cat) (b:Bool) (r:Nat) (X:List Int) (y:Nat):List Fun:=(List.range y).flatMap fun v:Nat=>cZ c d b r (X++[(v:Int)])
theorem zS {r:Nat}:gC c d b r X 0=[]:=rfl
theorem nI {r y:Nat}:gC c d b r X (y+1)=gC c d b r X y++cZ c d b r (X++[(y:Int)]):=by
 unfold gC
 rw [List.range_succ,List.flatMap_append]
 simp
theorem vN {r y K:Nat} (h:y<K):∃R,gC c d b r X K=gC c d b r X (y+1)++R:=by
 induction K with
 |zero=>omega
 |succ K ih=>
  by_cases hu:y=K
  ·subst hu;exact⟨[],(List.append_nil _).symm⟩
  ·obtain⟨R,hR⟩:=ih (by omega)
   exact⟨R++cZ c d b r (X++[(K:Int)]),by rw [nI,hR,List.append_assoc]⟩
theorem aFW {r:Nat}:cZ c d b (r+1) X=gC c d b r X d.ob.toNat:=rfl
end
end Go.Cats
end
section
namespace Go.Cats
structure ChW (W:List Int→Bool) (S:List Nat) (ch:List Int→Nat→List Int) (Co:List Int→Prop):Prop where
 out:∀A (i:Nat),A.length=S.length→i<A.length→∃p:Nat→Bool,ch A i=((List.range (S.getD i 0)).filter p).map fun e:Nat=>(e:Int)
 mono:∀A B (i:Nat) u,A.length=S.length→XtL A B→i<A.length→u∈ch B i→u∈ch A i
 comp:∀Q A (i:Nat),Q∈aAz S→W Q=true→A.length=S.length→(∀j,j<A.length→j≠i→0≤A.getD j 0→Q.getD j 0=A.getD j 0)→i<A.length→Q.getD i 0∈ch A i
 leaf:∀A:List Int,A.length=S.length→(∀j,j<A.length→0≤A.getD j 0∧A.getD j 0<S.getD j 0)→Co A→W A=true
 step:∀A (i:Nat) u,A.length=S.length→i<A.length→A.getD i 0= -1→Co A→u∈ch A i→Co (A.set i u)
section
variable {W:List Int→Bool} {S:List Nat} {ch:List Int→Nat→List Int} {Co:List Int→Prop} {A B Q C:List Int} {n i k x:Nat} {u:Int}
theorem ChW.rng (h:ChW W S ch Co) (hA:A.length=S.length) (hi:i<A.length) (hu:u∈ch A i):0≤u∧u<S.getD i 0:=by
 obtain⟨p,hp⟩:=h.out A i hA hi
 rw [hp]at hu
 obtain⟨e,he,rfl⟩:=List.mem_map.1 hu
 have:=List.mem_range.1 (List.mem_filter.1 he).1
 omega
end
/-! ### Transformations -/
def SqP (f g:Fun) (A:List Int) (a:Nat):Prop:=f.tgt.C (f.ars.getD a 0) (A.getD (f.src.to.getD a 0).toNat 0)=f.tgt.C (A.getD (f.src.fr.getD a 0).toNat 0) (g.ars.getD a 0)
structure NatP (f g:Fun) (A:List Int):Prop where
 end_:∀x,x<A.length→A.getD x 0∈f.tgt.hom (f.obs.getD x 0) (g.obs.getD x 0)
 sq:∀a,a<f.src.fr.length→SqP f g A a
noncomputable def aUc (f g:Fun) (A:List Int):Bool:=dec (NatP f g A)
theorem aMD {f g:Fun} {A:List Int}:aUc f g A=true↔NatP f g A:=dec_iff
abbrev sN (f:Fun):List Nat:=List.replicate f.src.ob.toNat f.tgt.fr.length
noncomputable def aUd (f g:Fun) (r:Nat) (X:List Int):List (List Int):=dO (aUc f g) (sN f) (X++List.replicate r (-1))
noncomputable def aKo (f g:Fun):List (List Int):=aUd f g f.src.ob.toNat []
structure Par (f g:Fun):Prop where
 src:IsCat f.src
 tgt:IsCat f.tgt
 fit:Fits f
 fit2:Fits g
 es:g.src=f.src
 et:g.tgt=f.tgt
section
variable {f g:Fun} {A B P Q X C:List Int} {a x r k n:Nat} {b u:Int}
theorem aPp (h:x<f.src.ob.toNat):(sN f).getD x 0=f.tgt.fr.length:=by
 rw [List.getD_eq_getElem?_getD,List.getElem?_replicate,if_pos h];rfl
theorem aRK:(sN f).length=f.src.ob.toNat:=by rw [List.length_replicate]
structure NatK (f g:Fun) (X:List Int):Prop where
 end_:∀x,x<X.length→X.getD x 0∈f.tgt.hom (f.obs.getD x 0) (g.obs.getD x 0)
 sq:∀a,a<f.src.fr.length→(f.src.fr.getD a 0).toNat<X.length→(f.src.to.getD a 0).toNat<X.length→SqP f g X a
theorem NatK.nil:NatK f g []:=⟨fun x hx=>by simp at hx,fun a _ h=>by simp at h⟩
theorem aPl {i:Nat}:(List.replicate r (-1:Int)).getD i 0=if i<r then-1 else 0:=by
 rw [List.getD_eq_getElem?_getD,List.getElem?_replicate]
 split<;>rfl
/-! ### The program's search -/
def SqX (f g:Fun) (P:List Int) (x:Nat):Prop:=∀a,a<f.src.fr.length→max (f.src.fr.getD a 0) (f.src.to.getD a 0)=x→SqP f g P a
abbrev NSt:=Bool×List (List Int)×List Int
open Classical in
noncomputable def aUO (f g:Fun) (run:List Int→List (List Int)→NSt) (x:Nat) (s:NSt) (b:Int):NSt:=
 if s.1=true then(if SqX f g (s.2.2.set x b) x then run (s.2.2.set x b) s.2.1 else(true,s.2.1,s.2.2.set x b))else s
noncomputable def aHK (f g:Fun) (M:Nat):Nat→List Int→List (List Int)→NSt
 |0,P,F=>((stL M F P).1,(stL M F P).2,P)
 |r+1,P,F=>(f.tgt.hom (f.obs.getD (f.src.ob.toNat-(r+1)) 0) (g.obs.getD (f.src.ob.toNat-(r+1)) 0)).foldl (aUO f g (aHK f g M r) (f.src.ob.toNat-(r+1))) (true,F,P)
variable {run:List Int→List (List Int)→NSt} {s:NSt} {F:List (List Int)} {M:Nat}
structure RunW (f g:Fun) (M r:Nat) (X P:List Int) (F:List (List Int)) (s:NSt) (L:List (List Int)):Prop where
 ok:s.1=(eat (stL M) F L).1
 out:s.2.1=(eat (stL M) F L).2
 len:s.2.2.length=P.length
 pre:s.2.2.take X.length=X
structure StW (f g:Fun) (M r x:Nat) (P:List Int) (F:List (List Int)) (C:List Int) (st:Nat→NSt):Prop where
 zero:st 0=(true,F,P)
 all:aHK f g M (r+1) P F=st C.length
 yes:∀k,k<C.length→(st k).1=true→SqX f g ((st k).2.2.set x (C.getD k 0)) x→st (k+1)=aHK f g M r ((st k).2.2.set x (C.getD k 0)) (st k).2.1
 no:∀k,k<C.length→(st k).1=true→¬SqX f g ((st k).2.2.set x (C.getD k 0)) x→st (k+1)=(true,(st k).2.1,(st k).2.2.set x (C.getD k 0))
 stop:∀k,k<C.length→(st (k+1)).1=false→st C.length=st (k+1)
 len:∀k,k≤C.length→(st k).2.2.length=f.src.ob.toNat
 few:∀k,k≤C.length→(st k).1=true→(st k).2.1.length≤M
 rng:∀k,k<C.length→∀i,i≤x→0≤((st k).2.2.set x (C.getD k 0)).getD i 0∧((st k).2.2.set x (C.getD k 0)).getD i 0<f.tgt.fr.length
 good:∀k,k<C.length→SqX f g ((st k).2.2.set x (C.getD k 0)) x→NatK f g (((st k).2.2.set x (C.getD k 0)).take (x+1))
end
end Go.Cats
end
section
namespace Go.Cats
def nums (n:Nat):List Int:=(List.range n).map fun i:Nat=>(i:Int)
theorem yY:nums 0=[]:=rfl
theorem cW (n:Nat):(nums n).length=n:=by simp [nums]
theorem aKr (n:Nat):nums (n+1)=nums n++[(n:Int)]:=by simp [nums,List.range_succ]
theorem gL {n i:Nat} (h:i<n):(nums n).getD i 0=i:=by simp [nums,h]
theorem aQc {n:Nat} {y:Int} (h0:0≤y) (h1:y<n):(nums n).getD y.toNat 0=y:=by
 rw [gL (by omega)];omega
def oneC:Cat:=⟨1,[0],[0],[0],[[0]]⟩
def jC (c:Cat):Fun:=⟨c,c,nums c.ob.toNat,nums c.fr.length⟩
def uT (c:Cat) (x:Int):Fun:=⟨oneC,c,[x],[c.I x]⟩
theorem aKG {c:Cat} (h:IsCat c):IsFun (jC c):=by
 have h0:=h.ob0
 have hO:∀{y:Int},0≤y→y<c.ob→(jC c).O y=y:=fun a b=>aQc a (by omega)
 have hA:∀{y:Int},0≤y→y<c.fr.length→(jC c).A y=y:=fun a b=>aQc a (by omega)
 refine⟨h,h,⟨?_,?_,fun i hi=>?_,fun i hi=>?_,fun a ha=>?_,fun x hx=>?_,fun a b ha hb hc=>?_⟩⟩
 ·simp only [jC,cW];omega
 ·simp only [jC,cW]
 ·simp only [jC,cW]at hi⊢
  rw [gL hi];omega
 ·simp only [jC,cW]at hi⊢
  rw [gL hi];omega
 ·have ha':a<c.fr.length:=by simpa [jC,cW]using ha
  have e:(jC c).ars.getD a 0=a:=gL ha'
  rw [e]
  have f1:=h.frw a ha'
  have f2:=h.tow a (by have:=h.tol;omega)
  refine⟨?_,?_⟩
  ·exact(hO (y:=c.F a) (by simpa using f1.1) (by simpa using f1.2)).symm
  ·exact(hO (y:=c.T a) (by simpa using f2.1) (by simpa using f2.2)).symm
 ·have hx':x<c.id.length:=hx
  have w:=h.idw x hx'
  have hl:=h.idl
  rw [show(jC c).src.id.getD x 0=c.id.getD x 0 from rfl,hA w.1 w.2,hO (by omega) (by omega)]
  simp [jC]
 ·have ha':a<c.fr.length:=ha
  have hb':b<c.fr.length:=hb
  have e:=(h.coe a ha').2 b hb'
  unfold Cat.Entry at e
  have hc':0≤c.C a b:=hc
  have hlt:c.C a b<c.fr.length:=by
   rcases e with⟨_,e2,_⟩|⟨_,e2⟩
   ·exact e2.2
   ·omega
  rw [show(jC c).src.C a b=c.C a b from rfl,hA hc' hlt,hA (by omega) (by omega),hA (by omega) (by omega)]
  rfl
end Go.Cats
end
section
namespace Go.Cats
abbrev Tr:=Nat×Nat×Nat
def aJl (acts:List (List Int)) (t:Tr):Rule:=⟨t.1,t.2.2,acts.getD t.2.1 []⟩
def aIR (acts:List (List Int)) (S:List Nat) (t:Tr):Link:=⟨t.1,t.2.2,acts.getD t.2.1 [],nums (S.getD t.2.2 0)⟩
structure TrW (S:List Nat) (acts:List (List Int)) (T:List Tr):Prop where
 fr:∀t∈T,t.1<S.length
 to:∀t∈T,t.2.2<S.length
 len:∀t∈T,(acts.getD t.2.1 []).length=S.getD t.1 0
 val:∀t∈T,∀e:Nat,e<S.getD t.1 0→0≤(acts.getD t.2.1 []).getD e 0∧(acts.getD t.2.1 []).getD e 0<S.getD t.2.2 0
 arr:∀t∈T,t.2.1<acts.length
variable {S:List Nat} {acts:List (List Int)} {T:List Tr}
theorem TrW.same (h:TrW S acts T) {Q:List Int} (hQ:Q∈aAz S):aRi (T.map (aIR acts S)) Q=okW (T.map (aJl acts)) Q:=by
 obtain⟨q1,q2⟩:=mem_lexP.1 hQ
 unfold aRi okW
 rw [List.all_map,List.all_map]
 refine Bool.eq_iff_iff.2 ?_
 simp only [List.all_eq_true,Function.comp]
 refine⟨fun k t ht=>?_,fun k t ht=>?_⟩
 all_goals
  have k1:=k t ht
  have f1:=h.fr t ht
  have f2:=h.to t ht
  have b1:=q2 t.1 (by omega)
  have b2:=q2 t.2.2 (by omega)
  have e1:(nums (S.getD t.2.2 0)).getD (Q.getD t.2.2 0).toNat 0=Q.getD t.2.2 0:=by rw [gL (by omega)];omega
  have k2:=of_decide_eq_true k1
  refine decide_eq_true ?_
  simp only [aIR,aJl,Int.toNat_natCast]at k2⊢
  rw [e1]at *
  exact k2.symm
theorem TrW.ext (h:TrW S acts T) (A:List Int):dO (aRi (T.map (aIR acts S))) S A=dO (okW (T.map (aJl acts))) S A:=by
 unfold dO
 refine List.filter_congr fun Q hQ=>?_
 rw [h.same hQ]
end Go.Cats
end
section
namespace Go.Cats
section
variable {c d:Cat} {b:Bool} {X A Q L:List Int} {i k:Nat} {v:Int}
theorem aJE (hc:IsCat c) {x:Nat} (hx:x<c.id.length):c.cp (c.id.getD x 0).toNat (c.id.getD x 0).toNat=c.id.getD x 0:=by
 have h1:=qE hc.toShape hx
 have h2:=hc.unl (c.id.getD x 0).toNat h1.1
 simp only [Cat.C,Cat.I,Cat.F,Int.toNat_natCast]at h2
 rw [h1.2.2.1,Int.toNat_natCast]at h2
 show(c.co.getD _ []).getD _ 0=_
 rw [h2];omega
theorem kX (hc:Shape c) {j:Nat} (hj:j<c.fr.length):∀{k:Nat},k≤c.id.length→0≤(bW c d X k).getD j 0→∃x,x<k∧j=(c.id.getD x 0).toNat
 |0,_,h0=>by rw [bW,pO,if_pos hj]at h0;omega
 |k+1,hk,h0=>by
  have h1:=qE hc (x:=k) (by omega)
  rw [bW,bV (by rw [dX];exact h1.1)]at h0
  by_cases e:j=(c.id.getD k 0).toNat
  ·exact⟨k,by omega,e⟩
  ·rw [if_neg e]at h0
   obtain⟨x,h2,h3⟩:=kX hc hj (by omega) h0
   exact⟨x,by omega,h3⟩
theorem aKZ (hc:IsCat c) (hd:IsCat d) (hX:XOK c d b X):∀a,a<c.fr.length→∀b,b<c.fr.length→Clo c d (iE c d X) a b:=fun p hp q hq h0 a0 b0=>by
 obtain⟨x,hx,e1⟩:=kX hc.toShape hp (Nat.le_refl _) a0
 obtain⟨y,hy,e2⟩:=kX hc.toShape hq (Nat.le_refl _) b0
 obtain⟨g1,_,_,_⟩:=fL hc.toShape hp hq h0
 have i1:=qE hc.toShape hx
 have i2:=qE hc.toShape hy
 rw [e1,e2,i1.2.2.2,i2.2.2.1]at g1
 have e:x=y:=by omega
 subst e
 have u1:=aJE hc hx
 have s1:=mC (d:=d) (X:=X) hc.toShape (Nat.le_refl c.id.length) x hx
 have u2:=lX hc.toShape hd.toShape hX hx
 subst e1 e2
 rw [u1]
 unfold iE
 rw [s1]
 have u3:=aJE hd (x:=(X.getD x 0).toNat) u2.2.1
 exact u3.symm
theorem aHw (hc:Shape c):aJ1 c d b X=dO (WA c d b X) (sA c d) (iE c d X):=by
 unfold aJ1
 refine uL fun Q hQ hW=>⟨fun _=>sK hc (WA_iff.1 hW).1 (Nat.le_refl _),fun k=>?_⟩
 rw [contB_iff]at k⊢
 refine⟨by rw [←k.1,List.length_replicate];exact(dX _).symm,fun i hi h0=>?_⟩
 rw [List.length_replicate]at hi
 rw [pO,if_pos hi]at h0
 omega
theorem aBi {α:Type} {A B C:List α} {n:Nat}:((A++B).take n++C).take n=(A++(B++C)).take n:=by
 rw [←List.append_assoc]
 by_cases h:(A++B).length≤n
 ·rw [List.take_of_length_le h]
 ·have hl:((A++B).take n).length=n:=by rw [List.length_take];omega
  rw [List.take_append_of_le_length (l₁:=(A++B).take n) (by omega),List.take_take,Nat.min_self,List.take_append_of_le_length (l₁:=A++B) (by omega)]
end
end Go.Cats
end
section
namespace Go.Cats
def dB:List Int→List Int→Bool
 |[],[]=>false
 |[],_::_=>true
 |_::_,[]=>false
 |a::A,b::B=>if a=b then dB A B else decide (a<b)
theorem uO:∀{a b:List Int},dB a b=true→dB b a=false
 |[],[],h=>rfl
 |[],_::_,h=>rfl
 |_::_,[],h=>by cases h
 |a::A,b::B,h=>by
  rw [dB]at h⊢
  by_cases e:a=b
  ·rw [if_pos e]at h;rw [if_pos e.symm];exact uO h
  ·rw [if_neg e]at h;rw [if_neg fun q=>e q.symm]
   simp only [decide_eq_true_eq,decide_eq_false_iff_not]at h⊢;omega
theorem aDV:∀{a b:List Int},dB a b=false→dB b a=false→a=b
 |[],[],_,_=>rfl
 |[],_::_,h,_=>by cases h
 |_::_,[],_,h=>by cases h
 |a::A,b::B,h,k=>by
  rw [dB]at h k
  by_cases e:a=b
  ·rw [if_pos e]at h;rw [if_pos e.symm]at k;rw [e,aDV h k]
  ·rw [if_neg e]at h;rw [if_neg fun q=>e q.symm]at k
   simp only [decide_eq_false_iff_not]at h k;omega
theorem aAl:∀{a b c:List Int},dB b a=false→dB c b=false→dB c a=false
 |[],[],[],_,_=>rfl
 |[],[],_::_,_,_=>rfl
 |[],_::_,[],_,h=>by cases h
 |[],_::_,_::_,_,_=>rfl
 |_::_,[],_,h,_=>by cases h
 |_::_,_::_,[],_,h=>by cases h
 |a::A,b::B,c::C,h,k=>by
  rw [dB]at h k⊢
  by_cases e:b=a
  ·rw [if_pos e]at h
   by_cases f:c=b
   ·rw [if_pos f]at k;rw [if_pos (f.trans e)];exact aAl h k
   ·rw [if_neg f]at k;rw [if_neg (by omega)];simp only [decide_eq_false_iff_not]at k⊢;omega
  ·rw [if_neg e]at h
   simp only [decide_eq_false_iff_not]at h
   by_cases f:c=b
   ·rw [if_neg (by omega)];simp only [decide_eq_false_iff_not];omega
   ·rw [if_neg f]at k
    simp only [decide_eq_false_iff_not]at k
    rw [if_neg (by omega)];simp only [decide_eq_false_iff_not];omega
def leL (a b:List Int):Bool:= !dB b a
theorem leL_iff {a b:List Int}:leL a b=true↔dB b a=false:=by unfold leL;simp
theorem aDU (a b c:List Int) (h:leL a b=true) (k:leL b c=true):leL a c=true:=leL_iff.2 (aAl (leL_iff.1 h) (leL_iff.1 k))
theorem aKk (a b:List Int):(leL a b||leL b a)=true:=by
 cases h:dB a b with
 |true=>have:=uO h;simp [leL,this]
 |false=>simp [leL,h]
theorem aMu {a b:List Int} (h:leL a b=true) (k:leL b a=true):a=b:=aDV (leL_iff.1 k) (leL_iff.1 h)
def srt (L:List (List Int)):List (List Int):=L.mergeSort leL
theorem mY (L:List (List Int)):(srt L).Perm L:=List.mergeSort_perm L leL
theorem vJ (L:List (List Int)):(srt L).Pairwise fun a b=>leL a b=true:=List.pairwise_mergeSort aDU aKk L
theorem aFa {L M:List (List Int)} (h:L.Perm M) (k:M.Pairwise fun a b=>leL a b=true):srt L=M:=
 List.Perm.eq_of_pairwise (fun a b _ _=>aMu) (vJ L) k ((mY L).trans h)
theorem aKX {L M:List (List Int)} (h:L.Perm M):srt L=srt M:=aFa (h.trans (mY M).symm) (vJ M)
theorem aPC:srt []=[]:=aFa (List.Perm.refl _) List.Pairwise.nil
theorem aBf (L:List (List Int)):(srt L).length=L.length:=(mY L).length_eq
section
variable {S R L:List (List Int)} {x:List Int} {k:Nat}
def oS (S:List (List Int)) (x:List Int) (k:Nat) (R:List (List Int)):List (List Int):=S.take k++x::(S.drop k++R)
theorem aKe:oS S x S.length R=S++x::R:=by
 unfold oS
 rw [List.take_length,List.drop_length,List.nil_append]
theorem aQX (hk:k≤S.length):(oS S x k R).getD k []=x:=by
 unfold oS
 rw [List.getD_eq_getElem?_getD,List.getElem?_append_right (by rw [List.length_take];omega),List.length_take,Nat.min_eq_left hk,Nat.sub_self]
 rfl
theorem aHD (hk:k<S.length):(oS S x (k+1) R).getD k []=S.getD k []:=by
 unfold oS
 rw [List.getD_eq_getElem?_getD,List.getElem?_append_left (by rw [List.length_take];omega),List.getElem?_take,if_pos (by omega),←List.getD_eq_getElem?_getD]
theorem aMc (hk:k<S.length):((oS S x (k+1) R).set (k+1) (S.getD k [])).set k x=oS S x k R:=by
 unfold oS
 have e1:S.take (k+1)=S.take k++[S.getD k []]:=by
  rw [List.take_add_one,List.getElem?_eq_getElem hk,List.getD_eq_getElem?_getD,List.getElem?_eq_getElem hk];rfl
 have e2:S.drop k=S.getD k []::S.drop (k+1):=by
  rw [List.drop_eq_getElem_cons hk,List.getD_eq_getElem?_getD,List.getElem?_eq_getElem hk];rfl
 have l1:(S.take k).length=k:=by rw [List.length_take];omega
 rw [e1,e2,List.append_assoc,List.set_append_right _ _ (by omega),l1,show k+1-k=1 by omega]
 simp only [List.singleton_append,List.set_cons_succ,List.set_cons_zero]
 rw [List.set_append_right _ _ (by omega),l1,Nat.sub_self,List.set_cons_zero]
 rfl
theorem aMa (hS:S.Pairwise fun a b=>leL a b=true) (hk:k≤S.length) (h:∀y∈S.drop k,dB x y=true) (h2:k=0∨dB x (S.getD (k-1) [])=false):(S.take k++x::S.drop k).Pairwise fun a b=>leL a b=true:=by
 have hS':(S.take k++S.drop k).Pairwise fun a b=>leL a b=true:=by rw [List.take_append_drop];exact hS
 rw [List.pairwise_append]at hS'⊢
 obtain⟨p1,p2,p3⟩:=hS'
 refine⟨p1,List.pairwise_cons.2 ⟨fun y hy=>leL_iff.2 (uO (h y hy)),p2⟩,fun a ha b hb=>?_⟩
 rcases List.mem_cons.1 hb with rfl|hb
 ·rcases h2 with rfl|h2
  ·simp at ha
  ·obtain⟨k',rfl⟩:∃k',k=k'+1:=⟨k-1,by
    rcases Nat.eq_zero_or_pos k with rfl|q
    ·simp at ha
    ·omega⟩
   simp only [Nat.add_sub_cancel]at h2
   have hx:leL (S.getD k' []) b=true:=leL_iff.2 h2
   obtain⟨i,hi,e⟩:=fX (d:=[]) ha
   rw [List.length_take]at hi
   rw [List.getD_eq_getElem?_getD,List.getElem?_take,if_pos (by omega)]at e
   by_cases q:i=k'
   ·subst q;rw [←e,←List.getD_eq_getElem?_getD];exact hx
   ·refine aDU _ _ _ ?_ hx
    have:=List.pairwise_iff_getElem.1 hS i k' (by omega) (by omega) (by omega)
    rw [List.getElem?_eq_getElem (by omega)]at e
    rw [←e,List.getD_eq_getElem?_getD,List.getElem?_eq_getElem (show k'<S.length by omega)]
    exact this
 ·exact p3 a ha b hb
theorem aMb:(S++[x]).Perm (S.take k++x::S.drop k):=by
 have h1:(S.take k++x::S.drop k).Perm (x::(S.take k++S.drop k)):=List.perm_middle
 rw [List.take_append_drop]at h1
 exact(List.perm_append_singleton x S).trans h1.symm
theorem aJv {i:Nat} (hi:i<L.length) (hk:k≤i) (h:∀y∈(srt (L.take i)).drop k,dB (L.getD i []) y=true) (h2:k=0∨dB (L.getD i []) ((srt (L.take i)).getD (k-1) [])=false):oS (srt (L.take i)) (L.getD i []) k (L.drop (i+1))=srt (L.take (i+1))++L.drop (i+1):=by
 have hl:(srt (L.take i)).length=i:=by rw [aBf,List.length_take];omega
 have e1:L.take (i+1)=L.take i++[L.getD i []]:=by
  rw [List.take_add_one,List.getElem?_eq_getElem hi,List.getD_eq_getElem?_getD,List.getElem?_eq_getElem hi];rfl
 have e2:srt (L.take (i+1))=(srt (L.take i)).take k++L.getD i []::(srt (L.take i)).drop k:=by
  refine aFa ?_ (aMa (vJ _) (by omega) h h2)
  rw [e1]
  exact(List.Perm.append_right _ (mY _).symm).trans aMb
 rw [e2]
 unfold oS
 simp
end
end Go.Cats
end
section
namespace Go.Cats
structure IsoQ (c d:Cat) (O Q:List Int):Prop where
 hc:IsCat c
 hd:IsCat d
 fit:Fits ⟨c,d,O,Q⟩
 no:NdI O
 nq:NdI Q
 ob:c.ob=d.ob
 ar:c.fr.length=d.fr.length
section
variable {c d:Cat} {O Q A B cc dd:List Int} {f g:Nat}
theorem NdI.inj (h:NdI A) (h0:∀i,i<A.length→0≤A.getD i 0) {i j:Nat} (hi:i<A.length) (hj:j<A.length) (e:A.getD i 0=A.getD j 0):i=j:=by
 rcases Nat.lt_trichotomy i j with q|q|q
 ·exact absurd e (h i j q hj (h0 i hi))
 ·exact q
 ·exact absurd e.symm (h j i q hi (h0 j hj))
theorem IsoQ.len (h:IsoQ c d O Q):Q.length=c.fr.length:=h.fit.arl
theorem IsoQ.rng (h:IsoQ c d O Q) (hf:f<c.fr.length):0≤Q.getD f 0∧Q.getD f 0<d.fr.length:=h.fit.arw f (by show f<Q.length;rw [h.len];exact hf)
theorem IsoQ.nat (h:IsoQ c d O Q) (hf:f<c.fr.length):(Q.getD f 0).toNat<d.fr.length:=by have:=h.rng hf;omega
theorem IsoQ.inj (h:IsoQ c d O Q) (hf:f<c.fr.length) (hg:g<c.fr.length) (e:Q.getD f 0=Q.getD g 0):f=g:=
 h.nq.inj (fun i hi=>(h.rng (by rw [←h.len];exact hi)).1) (by rw [h.len];exact hf) (by rw [h.len];exact hg) e
theorem IsoQ.perm (h:IsoQ c d O Q):((List.range c.fr.length).map fun f=>(Q.getD f 0).toNat).Perm (List.range d.fr.length):=by
 have hn:((List.range c.fr.length).map fun f=>(Q.getD f 0).toNat).Nodup:=by
  unfold List.Nodup
  rw [List.pairwise_map]
  refine List.Pairwise.imp_of_mem ?_ (List.pairwise_lt_range (n:=c.fr.length))
  intro a b ha hb hab e
  have ha:=List.mem_range.1 ha
  have hb:=List.mem_range.1 hb
  have h1:=h.rng ha
  have h2:=h.rng hb
  have:=h.inj ha hb (by omega)
  omega
 have hs:∀x∈(List.range c.fr.length).map fun f=>(Q.getD f 0).toNat,x∈List.range d.fr.length:=fun x hx=>by
  obtain⟨f,hf,rfl⟩:=List.mem_map.1 hx
  exact List.mem_range.2 (h.nat (List.mem_range.1 hf))
 rw [List.perm_ext_iff_of_nodup hn List.nodup_range]
 intro x
 refine⟨hs x,fun hx=>Classical.byContradiction fun hno=>?_⟩
 have hsub:∀y∈(List.range c.fr.length).map fun f=>(Q.getD f 0).toNat,y∈(List.range d.fr.length).erase x:=fun y hy=>by
  have hne:y≠x:=fun e=>hno (e▸hy)
  exact(List.mem_erase_of_ne hne).2 (hs y hy)
 have h1:=List.Nodup.length_le_of_subset hn hsub
 rw [List.length_map,List.length_range,List.length_erase_of_mem hx,List.length_range]at h1
 have h2:=List.mem_range.1 hx
 have h3:=h.ar
 omega
theorem IsoQ.surj (h:IsoQ c d O Q) {g:Nat} (hg:g<d.fr.length):∃f,f<c.fr.length∧Q.getD f 0=g:=by
 have:=(h.perm.mem_iff (a:=g)).2 (List.mem_range.2 hg)
 obtain⟨f,hf,e⟩:=List.mem_map.1 this
 have hf:=List.mem_range.1 hf
 exact⟨f,hf,by have:=h.rng hf;omega⟩
theorem IsoQ.fr (h:IsoQ c d O Q) (hf:f<c.fr.length):d.fr.getD (Q.getD f 0).toNat 0=O.getD (c.fr.getD f 0).toNat 0∧d.to.getD (Q.getD f 0).toNat 0=O.getD (c.to.getD f 0).toNat 0:=by
 have:=h.fit.endf f (by show f<Q.length;rw [h.len];exact hf)
 simpa only [Cat.F,Cat.T,Fun.O,Int.toNat_natCast]using this
theorem IsoQ.oinj (h:IsoQ c d O Q) {p q:Int} (hp:0≤p∧p<c.ob) (hq:0≤q∧q<c.ob) (e:O.getD p.toNat 0=O.getD q.toNat 0):p=q:=by
 have hl:(O.length:Int)=c.ob:=h.fit.obl
 have:=h.no.inj (fun i hi=>(h.fit.obw i hi).1) (by omega:p.toNat<O.length) (by omega:q.toNat<O.length) e
 omega
theorem IsoQ.cp (h:IsoQ c d O Q) (hf:f<c.fr.length) (hg:g<c.fr.length):(0≤c.cp f g↔0≤d.cp (Q.getD f 0).toNat (Q.getD g 0).toNat)∧(0≤c.cp f g→(c.cp f g).toNat<c.fr.length∧d.cp (Q.getD f 0).toNat (Q.getD g 0).toNat=Q.getD (c.cp f g).toNat 0):=by
 have key:0≤c.cp f g→(c.cp f g).toNat<c.fr.length∧d.cp (Q.getD f 0).toNat (Q.getD g 0).toNat=Q.getD (c.cp f g).toNat 0:=fun h0=>by
  have:=h.fit.cmp f g hf hg h0
  exact⟨(fL h.hc.toShape hf hg h0).2.1,this.symm⟩
 refine⟨⟨fun h0=>?_,fun h0=>?_⟩,key⟩
 ·obtain⟨k1,k2⟩:=key h0
  rw [k2];exact(h.rng k1).1
 ·have e:=(fL h.hd.toShape (h.nat hf) (h.nat hg) h0).1
  rw [(h.fr hf).2,(h.fr hg).1]at e
  have:=h.oinj (by have:=h.hc.tow f (by rw [h.hc.tol];exact hf);exact this) (h.hc.frw g hg) e
  exact h.hc.toShape.comp_nn hf hg this
theorem IsoQ.hom (h:IsoQ c d O Q) {p q:Int} (hp:0≤p∧p<c.ob) (hq:0≤q∧q<c.ob):(c.hom p q).length=(d.hom (O.getD p.toNat 0) (O.getD q.toNat 0)).length:=by
 have hmap:∀f∈c.hom p q,Q.getD f.toNat 0∈d.hom (O.getD p.toNat 0) (O.getD q.toNat 0):=fun f hf=>by
  obtain⟨h1,h2,h3,h4⟩:=Cat.mem_hom.1 hf
  have hf':f.toNat<c.fr.length:=by omega
  have e:=h.fr hf'
  have r:=h.rng hf'
  have h3:c.fr.getD f.toNat 0=p:=h3
  have h4:c.to.getD f.toNat 0=q:=h4
  rw [h3,h4]at e
  exact Cat.mem_hom.2 ⟨r.1,r.2,e.1,e.2⟩
 refine Nat.le_antisymm ?_ ?_
 ·have e:((c.hom p q).map fun g=>Q.getD g.toNat 0).length=(c.hom p q).length:=List.length_map ..
  rw [←e]
  refine sX ?_ fun x hx=>?_
  ·unfold List.Nodup
   rw [List.pairwise_map]
   refine List.Pairwise.imp_of_mem ?_ (Cat.hom_nodup c p q)
   intro g g' hg hg' hne e
   obtain⟨g1,g2,g3,g4⟩:=Cat.mem_hom.1 hg
   obtain⟨k1,k2,k3,k4⟩:=Cat.mem_hom.1 hg'
   have:=h.inj (by omega) (by omega) e
   exact hne (by omega)
  ·obtain⟨g,hg,rfl⟩:=List.mem_map.1 hx
   exact hmap g hg
 ·have e:((c.hom p q).map fun g=>Q.getD g.toNat 0).length=(c.hom p q).length:=List.length_map ..
  rw [←e]
  refine sX (Cat.hom_nodup _ _ _) fun x hx=>?_
  obtain⟨h1,h2,h3,h4⟩:=Cat.mem_hom.1 hx
  obtain⟨f,hf,e⟩:=h.surj (g:=x.toNat) (by omega)
  have k:=h.fr hf
  rw [e,Int.toNat_natCast]at k
  have h3:d.fr.getD x.toNat 0=O.getD p.toNat 0:=h3
  have h4:d.to.getD x.toNat 0=O.getD q.toNat 0:=h4
  rw [h3,h4]at k
  have e1:=h.oinj hp (h.hc.frw f hf) k.1
  have e2:=h.oinj hq (by have:=h.hc.tow f (by rw [h.hc.tol];exact hf);exact this) k.2
  refine List.mem_map.2 ⟨(f:Int),Cat.mem_hom.2 ⟨by omega,by omega,?_,?_⟩,?_⟩
  ·show c.fr.getD (f:Int).toNat 0=p;rw [Int.toNat_natCast];exact e1.symm
  ·show c.to.getD (f:Int).toNat 0=q;rw [Int.toNat_natCast];exact e2.symm
  ·rw [Int.toNat_natCast,e];omega
/-! ### Colours -/
def whi (h f g:Int):Int:=(if h=f then 1 else 0)+(if h=g then 2 else 0)
def gS (c:Cat) (col:List Int) (f g:Nat):List (List Int):=
 (if 0≤c.cp f g then [[0,col.getD g 0,col.getD (c.cp f g).toNat 0,whi (c.cp f g) f g]]else [])++(if 0≤c.cp g f then [[1,col.getD g 0,col.getD (c.cp g f).toNat 0,whi (c.cp g f) f g]]else [])
def look (c:Cat) (col:List Int) (f:Nat):List Int:=col.getD f 0::(srt (fA c.fr.length (gS c col f))).flatten
def aBk (c d:Cat) (cc dd:List Int):Prop:=∀O Q,IsoQ c d O Q→∀f,f<c.fr.length→cc.getD f 0=dd.getD (Q.getD f 0).toNat 0
theorem aJF (h:IsoQ c d O Q) {k:Nat} (hk:k<c.fr.length) (hf:f<c.fr.length) (hg:g<c.fr.length):whi (Q.getD k 0) ((Q.getD f 0).toNat:Int) ((Q.getD g 0).toNat:Int)=whi k f g:=by
 have a:=h.rng hk
 have b:=h.rng hf
 have c:=h.rng hg
 rw [Int.toNat_of_nonneg b.1,Int.toNat_of_nonneg c.1]
 unfold whi
 have e1:Q.getD k 0=Q.getD f 0↔(k:Int)=(f:Int):=⟨fun e=>by rw [h.inj hk hf e],fun e=>by rw [show k=f by omega]⟩
 have e2:Q.getD k 0=Q.getD g 0↔(k:Int)=(g:Int):=⟨fun e=>by rw [h.inj hk hg e],fun e=>by rw [show k=g by omega]⟩
 simp only [e1,e2]
theorem aKl (h:IsoQ c d O Q) (hk:∀f,f<c.fr.length→cc.getD f 0=dd.getD (Q.getD f 0).toNat 0) (hf:f<c.fr.length) (hg:g<c.fr.length):gS d dd (Q.getD f 0).toNat (Q.getD g 0).toNat=gS c cc f g:=by
 unfold gS
 obtain⟨p1,p2⟩:=h.cp hf hg
 obtain⟨q1,q2⟩:=h.cp hg hf
 congr 1
 ·by_cases h0:0≤c.cp f g
  ·obtain⟨r1,r2⟩:=p2 h0
   have r3:=h.rng r1
   rw [if_pos h0,if_pos (p1.1 h0),r2,←hk g hg,←hk _ r1,aJF h r1 hf hg,Int.toNat_of_nonneg h0]
  ·rw [if_neg h0,if_neg fun q=>h0 (p1.2 q)]
 ·by_cases h0:0≤c.cp g f
  ·obtain⟨r1,r2⟩:=q2 h0
   have r3:=h.rng r1
   rw [if_pos h0,if_pos (q1.1 h0),r2,←hk g hg,←hk _ r1,aJF h r1 hf hg,Int.toNat_of_nonneg h0]
  ·rw [if_neg h0,if_neg fun q=>h0 (q1.2 q)]
theorem aMA (h:IsoQ c d O Q) (hk:∀f,f<c.fr.length→cc.getD f 0=dd.getD (Q.getD f 0).toNat 0) (hf:f<c.fr.length):look c cc f=look d dd (Q.getD f 0).toNat:=by
 unfold look
 rw [hk f hf]
 congr 2
 refine aKX ?_
 unfold fA
 have e:(List.range c.fr.length).flatMap (gS c cc f)=((List.range c.fr.length).map fun g=>(Q.getD g 0).toNat).flatMap (gS d dd (Q.getD f 0).toNat):=by
  rw [List.flatMap_map,List.flatMap_def,List.flatMap_def]
  congr 1
  exact List.map_congr_left fun g hg=>(aKl h hk hf (List.mem_range.1 hg)).symm
 rw [e]
 exact h.perm.flatMap_right _
def eH (c d:Cat) (cc dd:List Int):List (List Int):=(List.range c.fr.length).map (look c cc)++(List.range d.fr.length).map (look d dd)
def gE (L:List (List Int)):Nat→List (List Int)
 |0=>[]
 |k+1=>if fnd (gE L k) (L.getD k [])<0 then gE L k++[L.getD k []]else gE L k
def iC (c d:Cat) (cc dd:List Int):List (List Int):=gE (eH c d cc dd) (eH c d cc dd).length
def wE (c d:Cat) (cc dd:List Int):List Int:=(List.range c.fr.length).map fun f=>fnd (iC c d cc dd) (look c cc f)
def wG (c d:Cat) (cc dd:List Int):List Int:=(List.range d.fr.length).map fun f=>fnd (iC c d cc dd) (look d dd f)
def rA (c d:Cat):Nat→List Int→List Int→Nat→List Int×List Int
 |0,cc,dd,_=>(cc,dd)
 |k+1,cc,dd,n=>if(iC c d cc dd).length=n then(wE c d cc dd,wG c d cc dd)else rA c d k (wE c d cc dd) (wG c d cc dd) (iC c d cc dd).length
def iN (c:Cat):List Int:=(List.range c.fr.length).map fun f=>if c.id.getD (c.fr.getD f 0).toNat 0=f then 1 else 0
theorem dS {α:Type} {n i:Nat} {k:Nat→α} {x:α} (h:i<n):((List.range n).map k).getD i x=k i:=by
 rw [List.getD_eq_getElem?_getD,List.getElem?_map,List.getElem?_range h];rfl
theorem aT4:aBk c d (iN c) (iN d):=fun O Q h f hf=>by
 unfold iN
 rw [dS hf,dS (h.nat hf)]
 have hfr:=h.hc.frw f hf
 have hx:(c.fr.getD f 0).toNat<c.id.length:=by have:=h.hc.idl;omega
 have i1:=qE h.hc.toShape hx
 have hu:=h.fit.unit (c.fr.getD f 0).toNat hx
 simp only [Cat.I,Fun.A,Fun.O,Int.toNat_natCast]at hu
 have e:d.id.getD (d.fr.getD (Q.getD f 0).toNat 0).toNat 0=Q.getD (c.id.getD (c.fr.getD f 0).toNat 0).toNat 0:=by
  rw [(h.fr hf).1];exact hu.symm
 rw [e]
 have r1:=h.rng hf
 have r2:=h.rng i1.1
 rw [Int.toNat_of_nonneg r1.1]
 by_cases q:c.id.getD (c.fr.getD f 0).toNat 0=f
 ·rw [if_pos q,if_pos (by rw [q,Int.toNat_natCast])]
 ·rw [if_neg q,if_neg fun q'=>q (by have:=h.inj i1.1 hf q';omega)]
theorem aDQ (h:aBk c d cc dd):aBk c d (wE c d cc dd) (wG c d cc dd):=fun O Q hi f hf=>by
 unfold wE wG
 rw [dS hf,dS (hi.nat hf),aMA hi (h O Q hi) hf]
theorem aQb:∀{k:Nat} {cc dd:List Int} {n:Nat},aBk c d cc dd→aBk c d (rA c d k cc dd n).1 (rA c d k cc dd n).2
 |0,_,_,_,h=>h
 |k+1,_,_,_,h=>by
  rw [rA]
  split
  ·exact aDQ h
  ·exact aQb (aDQ h)
theorem aBE:(wE c d cc dd).length=c.fr.length:=by simp [wE]
theorem aBF:(wG c d cc dd).length=d.fr.length:=by simp [wG]
theorem aDS (L:List (List Int)):∀k,(gE L k).length≤k
 |0=>Nat.le_refl _
 |k+1=>by
  have:=aDS L k
  rw [gE]
  split
  ·simp;omega
  ·omega
theorem uM {L:List (List Int)}:∀{k j:Nat},j<k→L.getD j []∈gE L k
 |0,j,h=>by omega
 |k+1,j,h=>by
  rw [gE]
  by_cases e:j=k
  ·subst e
   split
   ·simp
   ·rename_i hn
    refine Classical.byContradiction fun hno=>hn ?_
    have:aZ (gE L j).length (aC4 (gE L j) (L.getD j []))=none:=scan_none.2 fun i hi=>by
     refine aLX fun e=>hno ?_
     rw [←e];exact aX hi
    rw [aFV this];decide
  ·have ih:=uM (L:=L) (k:=k) (j:=j) (by omega)
   split
   ·exact List.mem_append_left _ ih
   ·exact ih
theorem uN {L:List (List Int)}:∀{k:Nat} {r:List Int},r∈gE L k→∃j,j<k∧L.getD j []=r
 |0,r,h=>by simp [gE]at h
 |k+1,r,h=>by
  rw [gE]at h
  split at h
  ·rcases List.mem_append.1 h with h|h
   ·obtain⟨j,h1,h2⟩:=uN h;exact⟨j,by omega,h2⟩
   ·exact⟨k,by omega,(List.mem_singleton.1 h).symm⟩
  ·obtain⟨j,h1,h2⟩:=uN h;exact⟨j,by omega,h2⟩
theorem aDT {L:List (List Int)}:∀(k:Nat),(gE L k).Nodup
 |0=>List.nodup_nil
 |k+1=>by
  have ih:=aDT (L:=L) k
  rw [gE]
  split
  ·rename_i hn
   rw [List.nodup_append]
   refine⟨ih,by simp,fun a ha b hb e=>?_⟩
   rw [List.mem_singleton.1 hb]at e
   subst e
   obtain⟨i,h1,h2,h3⟩:=aAY ha
   omega
  ·exact ih
theorem aEE {L:List (List Int)} (h:L.Nodup) {i:Nat} (hi:i<L.length):fnd L (L.getD i [])=i:=by
 obtain⟨j,h1,h2,h3⟩:=aAY (aX (d:=[]) hi)
 rw [h3]
 have:j=i:=by
  rw [List.getD_eq_getElem?_getD,List.getD_eq_getElem?_getD,List.getElem?_eq_getElem h1,List.getElem?_eq_getElem hi,Option.getD_some,Option.getD_some]at h2
  unfold List.Nodup at h
  rw [List.pairwise_iff_getElem]at h
  rcases Nat.lt_trichotomy j i with q|q|q
  ·exact absurd h2 (h j i h1 hi q)
  ·exact q
  ·exact absurd h2.symm (h i j hi h1 q)
 omega
def Cov (c d:Cat) (cc dd:List Int) (n:Nat):Prop:=∀v:Nat,v<n→(∃f,f<c.fr.length∧cc.getD f 0=v)∨∃f,f<d.fr.length∧dd.getD f 0=v
theorem jA:(eH c d cc dd).length=c.fr.length+d.fr.length:=by simp [eH]
theorem yW (hf:f<c.fr.length):(eH c d cc dd).getD f []=look c cc f:=by
 unfold eH
 rw [List.getD_eq_getElem?_getD,List.getElem?_append_left (by simpa using hf),←List.getD_eq_getElem?_getD,dS hf]
theorem yX (hf:f<d.fr.length):(eH c d cc dd).getD (c.fr.length+f) []=look d dd f:=by
 unfold eH
 rw [List.getD_eq_getElem?_getD,List.getElem?_append_right (by simp),←List.getD_eq_getElem?_getD]
 simp only [List.length_map,List.length_range,Nat.add_sub_cancel_left]
 exact dS hf
theorem aMq (hf:f<c.fr.length):look c cc f∈iC c d cc dd:=by
 rw [←yW (d:=d) (dd:=dd) hf]
 exact uM (by rw [jA];omega)
theorem aMr (hf:f<d.fr.length):look d dd f∈iC c d cc dd:=by
 rw [←yX (c:=c) (cc:=cc) hf]
 exact uM (by rw [jA];omega)
theorem aKi:(iC c d cc dd).length≤c.fr.length+d.fr.length:=by
 have:=aDS (eH c d cc dd) (eH c d cc dd).length
 rw [jA]at this
 unfold iC
 rw [jA]
 exact this
theorem aLM:Cov c d (wE c d cc dd) (wG c d cc dd) (iC c d cc dd).length:=fun v hv=>by
 obtain⟨j,hj,e⟩:=uN (aX (d:=[]) hv)
 have e2:=aEE (aDT _) hv
 rw [jA]at hj
 by_cases h:j<c.fr.length
 ·refine .inl ⟨j,h,?_⟩
  unfold wE
  rw [dS h,←yW (d:=d) (dd:=dd) h,e]
  exact e2
 ·refine .inr ⟨j-c.fr.length,by omega,?_⟩
  unfold wG
  have h':j-c.fr.length<d.fr.length:=by omega
  rw [dS h',←yX (c:=c) (cc:=cc) h',show c.fr.length+(j-c.fr.length)=j by omega,e]
  exact e2
theorem aMs {n:Nat} (h:Cov c d cc dd n):n≤(iC c d cc dd).length:=by
 have h1:∀v∈List.range n,v∈(iC c d cc dd).map fun r=>(r.headD 0).toNat:=fun v hv=>by
  have hv:=List.mem_range.1 hv
  rcases h v hv with⟨f,hf,e⟩|⟨f,hf,e⟩
  ·exact List.mem_map.2 ⟨_,aMq (d:=d) (dd:=dd) hf,by simp only [look,List.headD_cons,e];omega⟩
  ·exact List.mem_map.2 ⟨_,aMr (c:=c) (cc:=cc) hf,by simp only [look,List.headD_cons,e];omega⟩
 have:=List.Nodup.length_le_of_subset List.nodup_range h1
 simpa using this
/-! ### Each number as often -/
def qN (a b:List Int):Prop:=a.length=b.length∧∀k,k<a.length→a.count (a.getD k 0)=b.count (a.getD k 0)
theorem aJI (h:IsoQ c d O Q) (hk:aBk c d A B) (hA:A.length=c.fr.length) (hB:B.length=d.fr.length):qN A B:=by
 refine⟨by rw [hA,hB,h.ar],fun k _=>?_⟩
 have eA:A=((List.range c.fr.length).map fun f=>(Q.getD f 0).toNat).map fun j=>B.getD j 0:=by
  refine List.ext_getElem? fun i=>?_
  rw [List.map_map,List.getElem?_map]
  by_cases hi:i<c.fr.length
  ·rw [List.getElem?_range hi,List.getElem?_eq_getElem (by omega)]
   have:=hk O Q h i hi
   rw [List.getD_eq_getElem?_getD,List.getElem?_eq_getElem (by omega)]at this
   simp only [Option.getD_some]at this
   simp only [Option.map_some,Function.comp,this]
  ·rw [List.getElem?_eq_none (by omega),List.getElem?_eq_none (by simpa using hi)];rfl
 have eB:B=(List.range d.fr.length).map fun j=>B.getD j 0:=by
  refine List.ext_getElem? fun i=>?_
  rw [List.getElem?_map]
  by_cases hi:i<d.fr.length
  ·rw [List.getElem?_range hi,Option.map_some,List.getD_eq_getElem?_getD,List.getElem?_eq_getElem (by omega)];rfl
  ·rw [List.getElem?_eq_none (by omega),List.getElem?_eq_none (by simpa using hi)];rfl
 have hp:A.Perm B:=(List.Perm.of_eq eA).trans ((h.perm.map _).trans (List.Perm.of_eq eB.symm))
 exact hp.count_eq _
end
end Go.Cats
end
section
namespace Go.Cats
structure TabOK (n:Nat) (A:List (List Int)) (U:Nat→List Int) (cp:List Int→List Int→List Int):Prop where
 n8:n≤8
 a40:A.length≤40
 nd:A.Nodup
 e0:∀r∈A,0≤r.getD 0 0∧r.getD 0 0<n
 e1:∀r∈A,0≤r.getD 1 0∧r.getD 1 0<n
 um:∀i,i<n→U i∈A∧(U i).getD 0 0=i∧(U i).getD 1 0=i
 cm:∀r∈A,∀s∈A,r.getD 1 0=s.getD 0 0→cp r s∈A∧(cp r s).getD 0 0=r.getD 0 0∧(cp r s).getD 1 0=s.getD 1 0
 ul:∀r∈A,cp (U (r.getD 0 0).toNat) r=r
 ur:∀r∈A,cp r (U (r.getD 1 0).toNat)=r
 as:∀r∈A,∀s∈A,∀q∈A,r.getD 1 0=s.getD 0 0→s.getD 1 0=q.getD 0 0→cp (cp r s) q=cp r (cp s q)
def vK (A:List (List Int)) (cp:List Int→List Int→List Int) (a n:Nat):List Int:=(List.range n).map fun b=>if(A.getD a []).getD 1 0=(A.getD b []).getD 0 0 then fnd A (cp (A.getD a []) (A.getD b []))else-1
def jF (n:Nat) (A:List (List Int)) (U:Nat→List Int) (cp:List Int→List Int→List Int):Cat:=
 ⟨n,A.map fun r=>r.getD 0 0,A.map fun r=>r.getD 1 0,(List.range n).map fun i=>fnd A (U i),(List.range A.length).map fun a=>vK A cp a A.length⟩
section
variable {n:Nat} {A:List (List Int)} {U:Nat→List Int} {cp:List Int→List Int→List Int} {a b i:Nat}
theorem pQ {f:List Int→Int} (h:a<A.length):(A.map f).getD a 0=f (A.getD a []):=by
 rw [List.getD_eq_getElem?_getD,List.getElem?_map,List.getElem?_eq_getElem h,List.getD_eq_getElem?_getD (l:=A),List.getElem?_eq_getElem h];rfl
theorem aFk (h:a<A.length):(jF n A U cp).fr.getD a 0=(A.getD a []).getD 0 0:=pQ (f:=fun r=>r.getD 0 0) h
theorem aFl (h:a<A.length):(jF n A U cp).to.getD a 0=(A.getD a []).getD 1 0:=pQ (f:=fun r=>r.getD 1 0) h
theorem aNY:(jF n A U cp).fr.length=A.length:=by show(A.map _).length=_;rw [List.length_map]
theorem aRY (h:i<n):(jF n A U cp).id.getD i 0=fnd A (U i):=by
 show((List.range n).map _).getD i 0=_
 rw [List.getD_eq_getElem?_getD,List.getElem?_map,List.getElem?_range h];rfl
theorem aJy (h:a<A.length):(jF n A U cp).co.getD a []=vK A cp a A.length:=by
 show((List.range A.length).map _).getD a []=_
 rw [List.getD_eq_getElem?_getD,List.getElem?_map,List.getElem?_range h];rfl
theorem aNX (ha:a<A.length) (hb:b<A.length):(jF n A U cp).C a b=if(A.getD a []).getD 1 0=(A.getD b []).getD 0 0 then fnd A (cp (A.getD a []) (A.getD b []))else-1:=by
 show((jF n A U cp).co.getD (a:Int).toNat []).getD (b:Int).toNat 0=_
 rw [Int.toNat_natCast,Int.toNat_natCast,aJy ha]
 unfold vK
 rw [List.getD_eq_getElem?_getD,List.getElem?_map,List.getElem?_range hb];rfl
theorem TabOK.mem (ha:a<A.length):A.getD a []∈A:=aX ha
theorem TabOK.C (h:TabOK n A U cp) (ha:a<A.length) (hb:b<A.length) (e:(A.getD a []).getD 1 0=(A.getD b []).getD 0 0):∃k:Nat,k<A.length∧A.getD k []=cp (A.getD a []) (A.getD b [])∧(jF n A U cp).C a b=k:=by
 have hm:=(h.cm _ (TabOK.mem ha) _ (TabOK.mem hb) e).1
 obtain⟨k,h1,h2,h3⟩:=aAY hm
 exact⟨k,h1,h2,by rw [aNX ha hb,if_pos e,h3]⟩
theorem TabOK.I (h:TabOK n A U cp) (hi:i<n):∃k:Nat,k<A.length∧A.getD k []=U i∧(jF n A U cp).id.getD i 0=k:=by
 obtain⟨k,h1,h2,h3⟩:=aAY (h.um i hi).1
 exact⟨k,h1,h2,by rw [aRY hi,h3]⟩
theorem TabOK.inj (h:TabOK n A U cp) (ha:a<A.length) (hb:b<A.length) (e:A.getD a []=A.getD b []):a=b:=by
 have h1:=aEE h.nd ha
 have h2:=aEE h.nd hb
 rw [e,h2]at h1
 omega
theorem aEk (ha:a<A.length):(jF n A U cp).F (a:Int)=(A.getD a []).getD 0 0:=by
 show(jF n A U cp).fr.getD (a:Int).toNat 0=_
 rw [Int.toNat_natCast,aFk ha]
theorem aEl (ha:a<A.length):(jF n A U cp).T (a:Int)=(A.getD a []).getD 1 0:=by
 show(jF n A U cp).to.getD (a:Int).toNat 0=_
 rw [Int.toNat_natCast,aFl ha]
theorem TabOK.shape (h:TabOK n A U cp):Shape (jF n A U cp):=by
 have hm:=aNY (n:=n) (A:=A) (U:=U) (cp:=cp)
 refine⟨Int.natCast_nonneg n,?_,by rw [hm];exact h.a40,?_,fun a ha=>?_,fun a ha=>?_,?_,fun i hi=>?_,?_,fun i hi=>?_,fun a ha=>⟨?_,fun b hb=>?_⟩⟩
 ·show(n:Int)≤8;have:=h.n8;omega
 ·show(A.map _).length=(A.map _).length;rw [List.length_map,List.length_map]
 ·rw [hm]at ha;rw [aFk ha];exact h.e0 _ (TabOK.mem ha)
 ·have ha:a<A.length:=by
   have e:(jF n A U cp).to.length=A.length:=by show(A.map _).length=_;rw [List.length_map]
   exact e▸ha
  rw [aFl ha];exact h.e1 _ (TabOK.mem ha)
 ·show(((List.range n).map _).length:Int)=n;rw [List.length_map,List.length_range]
 ·have hi:i<n:=by
   have e:(jF n A U cp).id.length=n:=by show((List.range n).map _).length=_;rw [List.length_map,List.length_range]
   exact e▸hi
  obtain⟨k,k1,k2,k3⟩:=h.I hi
  rw [k3,hm];omega
 ·show((List.range A.length).map _).length=(A.map _).length;rw [List.length_map,List.length_range,List.length_map]
 ·have hi:i<n:=by
   have e:(jF n A U cp).id.length=n:=by show((List.range n).map _).length=_;rw [List.length_map,List.length_range]
   exact e▸hi
  obtain⟨k,k1,k2,k3⟩:=h.I hi
  rw [k3,aEk k1,aEl k1,k2]
  exact(h.um i hi).2
 ·rw [hm]at ha⊢
  rw [aJy ha];unfold vK;rw [List.length_map,List.length_range]
 ·rw [hm]at ha hb
  unfold Cat.Entry
  rw [aFl ha,aFk hb,aFk ha,aFl hb,hm]
  by_cases e:(A.getD a []).getD 1 0=(A.getD b []).getD 0 0
  ·obtain⟨k,k1,k2,k3⟩:=h.C ha hb e
   have hc:=(h.cm _ (TabOK.mem ha) _ (TabOK.mem hb) e).2
   refine .inl ⟨e,by rw [k3];omega,?_,?_⟩
   ·rw [k3,aEk k1,k2];exact hc.1
   ·rw [k3,aEl k1,k2];exact hc.2
  ·exact .inr ⟨e,by rw [aNX ha hb,if_neg e]⟩
theorem TabOK.cat (h:TabOK n A U cp):IsCat (jF n A U cp):=by
 have hm:=aNY (n:=n) (A:=A) (U:=U) (cp:=cp)
 refine⟨h.shape,fun f hf=>?_,fun f hf=>?_,fun f g q hf hg hq e1 e2=>?_⟩
 ·rw [hm]at hf
  have he:=h.e0 _ (TabOK.mem hf)
  rw [aEk hf]
  obtain⟨k,k1,k2,k3⟩:=h.I (i:=((A.getD f []).getD 0 0).toNat) (by omega)
  have hI:(jF n A U cp).I ((A.getD f []).getD 0 0)=k:=k3
  have hu:=(h.um ((A.getD f []).getD 0 0).toNat (by omega)).2.2
  rw [hI]
  obtain⟨j,j1,j2,j3⟩:=h.C k1 hf (by rw [k2,hu];omega)
  rw [j3]
  rw [k2,h.ul _ (TabOK.mem hf)]at j2
  rw [h.inj j1 hf j2]
 ·rw [hm]at hf
  have he:=h.e1 _ (TabOK.mem hf)
  rw [aEl hf]
  obtain⟨k,k1,k2,k3⟩:=h.I (i:=((A.getD f []).getD 1 0).toNat) (by omega)
  have hI:(jF n A U cp).I ((A.getD f []).getD 1 0)=k:=k3
  have hu:=(h.um ((A.getD f []).getD 1 0).toNat (by omega)).2.1
  rw [hI]
  obtain⟨j,j1,j2,j3⟩:=h.C hf k1 (by rw [k2,hu];omega)
  rw [j3]
  rw [k2,h.ur _ (TabOK.mem hf)]at j2
  rw [h.inj j1 hf j2]
 ·rw [hm]at hf hg hq
  rw [aEl hf,aEk hg]at e1
  rw [aEl hg,aEk hq]at e2
  obtain⟨j,j1,j2,j3⟩:=h.C hf hg e1
  obtain⟨k,k1,k2,k3⟩:=h.C hg hq e2
  have c1:=(h.cm _ (TabOK.mem hf) _ (TabOK.mem hg) e1).2
  have c2:=(h.cm _ (TabOK.mem hg) _ (TabOK.mem hq) e2).2
  rw [j3,k3]
  obtain⟨x,x1,x2,x3⟩:=h.C j1 hq (by rw [j2,c1.2];exact e2)
  obtain⟨y,y1,y2,y3⟩:=h.C hf k1 (by rw [k2,c2.1];exact e1)
  rw [x3,y3,h.inj x1 y1 (by rw [x2,y2,j2,k2];exact h.as _ (TabOK.mem hf) _ (TabOK.mem hg) _ (TabOK.mem hq) e1 e2)]
end
end Go.Cats
end
section
namespace Go.Cats
section
variable {n:Nat} {A:List (List Int)} {U:Nat→List Int} {cp:List Int→List Int→List Int} {d:Cat} {P:Nat→Int} {k:Nat}
theorem TabOK.func (h:TabOK n A U cp) (hd:IsCat d) (p1:∀i,i<n→0≤P i∧P i<d.ob) (q1:∀r∈A,0≤r.getD k 0∧r.getD k 0<d.fr.length) (q2:∀r∈A,d.F (r.getD k 0)=P (r.getD 0 0).toNat∧d.T (r.getD k 0)=P (r.getD 1 0).toNat)
  (q3:∀i,i<n→(U i).getD k 0=d.I (P i)) (q4:∀r∈A,∀s∈A,r.getD 1 0=s.getD 0 0→(cp r s).getD k 0=d.C (r.getD k 0) (s.getD k 0)):
  IsFun ⟨jF n A U cp,d,(List.range n).map P,A.map fun r=>r.getD k 0⟩:=by
 have hP:∀i,i<n→((List.range n).map P).getD i 0=P i:=fun i hi=>by
  rw [List.getD_eq_getElem?_getD,List.getElem?_map,List.getElem?_range hi];rfl
 have hA:∀a,a<A.length→(A.map fun r=>r.getD k 0).getD a 0=(A.getD a []).getD k 0:=fun a ha=>pQ (f:=fun r=>r.getD k 0) ha
 have hm:=aNY (n:=n) (A:=A) (U:=U) (cp:=cp)
 have e0:∀a,a<A.length→(((A.getD a []).getD 0 0).toNat:Int)=(A.getD a []).getD 0 0∧((A.getD a []).getD 0 0).toNat<n:=fun a ha=>by have:=h.e0 _ (TabOK.mem ha);omega
 have e1:∀a,a<A.length→(((A.getD a []).getD 1 0).toNat:Int)=(A.getD a []).getD 1 0∧((A.getD a []).getD 1 0).toNat<n:=fun a ha=>by have:=h.e1 _ (TabOK.mem ha);omega
 refine⟨h.cat,hd,?_,?_,fun i hi=>?_,fun a ha=>?_,fun a ha=>?_,fun x hx=>?_,fun a b ha hb hc=>?_⟩
 ·show(((List.range n).map P).length:Int)=n;rw [List.length_map,List.length_range]
 ·show(A.map _).length=(jF n A U cp).fr.length;rw [List.length_map,hm]
 ·have hi:i<n:=by
   have e:((List.range n).map P).length=n:=by rw [List.length_map,List.length_range]
   exact e▸hi
  show 0≤((List.range n).map P).getD i 0∧((List.range n).map P).getD i 0<d.ob
  rw [hP i hi];exact p1 i hi
 ·have ha:a<A.length:=by
   have e:(A.map fun r=>r.getD k 0).length=A.length:=List.length_map _
   exact e▸ha
  show 0≤(A.map _).getD a 0∧(A.map _).getD a 0<(d.fr.length:Int)
  rw [hA a ha];exact q1 _ (TabOK.mem ha)
 ·have ha:a<A.length:=by
   have e:(A.map fun r=>r.getD k 0).length=A.length:=List.length_map _
   exact e▸ha
  show d.F ((A.map _).getD a 0)=((List.range n).map P).getD ((jF n A U cp).F (a:Int)).toNat 0∧d.T ((A.map _).getD a 0)=((List.range n).map P).getD ((jF n A U cp).T (a:Int)).toNat 0
  rw [hA a ha,aEk ha,aEl ha,hP _ (e0 a ha).2,hP _ (e1 a ha).2]
  exact q2 _ (TabOK.mem ha)
 ·have hx:x<n:=by
   have e:(jF n A U cp).id.length=n:=by show((List.range n).map _).length=_;rw [List.length_map,List.length_range]
   exact e▸hx
  obtain⟨j,j1,j2,j3⟩:=h.I hx
  show(A.map _).getD ((jF n A U cp).id.getD x 0).toNat 0=d.I (((List.range n).map P).getD (x:Int).toNat 0)
  rw [j3,Int.toNat_natCast,Int.toNat_natCast,hA j j1,j2,hP x hx];exact q3 x hx
 ·have ha:a<A.length:=by rw [←hm];exact ha
  have hb:b<A.length:=by rw [←hm];exact hb
  by_cases e:(A.getD a []).getD 1 0=(A.getD b []).getD 0 0
  ·obtain⟨j,j1,j2,j3⟩:=h.C ha hb e
   show(A.map _).getD ((jF n A U cp).C a b).toNat 0=d.C ((A.map _).getD (a:Int).toNat 0) ((A.map _).getD (b:Int).toNat 0)
   rw [j3,Int.toNat_natCast,Int.toNat_natCast,Int.toNat_natCast,hA j j1,j2,hA a ha,hA b hb]
   exact q4 _ (TabOK.mem ha) _ (TabOK.mem hb) e
  ·exfalso
   have hc:0≤(jF n A U cp).C a b:=hc
   rw [aNX ha hb,if_neg e]at hc
   omega
end
section
variable {f e:Fun}
end
end Go.Cats
end
section
namespace Go.Cats
abbrev Ps:=List Int×List Int
open Classical in
noncomputable def rL (f:Ps→Ps) (c d:Cat) (b:Bool) (x:Nat):Nat→Ps→Ps
 |0,s=>s
 |y+1,s=>if b=true∧(y:Int)∈(rL f c d b x y s).1.take x then rL f c d b x y s
   else if pA c d b ((rL f c d b x y s).1.set x (y:Int)) x then f ((rL f c d b x y s).1.set x (y:Int),(rL f c d b x y s).2)else((rL f c d b x y s).1.set x (y:Int),(rL f c d b x y s).2)
noncomputable def rG (c d:Cat) (b:Bool):Nat→Ps→Ps
 |0,s=>(s.1,(eL c d b (iE c d s.1)).2)
 |r+1,s=>rL (rG c d b r) c d b (s.1.length-(r+1)) d.ob.toNat s
section
variable {f:Ps→Ps} {c d:Cat} {b:Bool} {x y r:Nat} {s:Ps} {P A:List Int}
theorem aI9 (h:b=true∧(y:Int)∈(rL f c d b x y s).1.take x):rL f c d b x (y+1) s=rL f c d b x y s:=by rw [rL,if_pos h]
theorem aQi (h:¬(b=true∧(y:Int)∈(rL f c d b x y s).1.take x)) (k:¬pA c d b ((rL f c d b x y s).1.set x (y:Int)) x):rL f c d b x (y+1) s=((rL f c d b x y s).1.set x (y:Int),(rL f c d b x y s).2):=by rw [rL,if_neg h,if_neg k]
theorem aNb (h:¬(b=true∧(y:Int)∈(rL f c d b x y s).1.take x)) (k:pA c d b ((rL f c d b x y s).1.set x (y:Int)) x):rL f c d b x (y+1) s=f ((rL f c d b x y s).1.set x (y:Int),(rL f c d b x y s).2):=by rw [rL,if_neg h,if_pos k]
def aPL (n m x:Nat) (f:Ps→Ps):Prop:=∀s:Ps,s.1.length=n→s.2.length=m→(f s).1.length=n∧(f s).2.length=m∧(f s).1.take x=s.1.take x
theorem oE {l:List Int} {x:Nat} {v:Int}:(l.set x v).take x=l.take x:=by
 rw [List.take_set]
 exact List.set_eq_of_length_le (by rw [List.length_take];omega)
theorem aCd {n m:Nat} (hf:aPL n m (x+1) f) (h1:s.1.length=n) (h2:s.2.length=m):∀y,(rL f c d b x y s).1.length=n∧(rL f c d b x y s).2.length=m∧(rL f c d b x y s).1.take x=s.1.take x
 |0=>⟨h1,h2,rfl⟩
 |y+1=>by
  obtain⟨e1,e2,e3⟩:=aCd hf h1 h2 y
  by_cases h:b=true∧(y:Int)∈(rL f c d b x y s).1.take x
  ·rw [aI9 h];exact⟨e1,e2,e3⟩
  ·by_cases k:pA c d b ((rL f c d b x y s).1.set x (y:Int)) x
   ·rw [aNb h k]
    obtain⟨g1,g2,g3⟩:=hf ((rL f c d b x y s).1.set x (y:Int),(rL f c d b x y s).2) (by simpa using e1) e2
    refine⟨g1,g2,?_⟩
    have g4:=congrArg (List.take x) g3
    rw [List.take_take,List.take_take,Nat.min_eq_left (by omega)]at g4
    rw [g4,oE,e3]
   ·rw [aQi h k]
    exact⟨by simpa using e1,e2,by rw [oE,e3]⟩
theorem aNL {a q:Nat} {s:Fs}:(stF c d a q s).2.2.length=s.2.2.length:=by
 unfold stF
 split
 ·rfl
 ·split
  ·simp
  ·rfl
theorem zB {a:Nat} {s:Fs}:∀{q:Nat},(gV c d a q s).2.2.length=s.2.2.length
 |0=>rfl
 |q+1=>by
  rw [gV]
  split
  ·rw [aNL,zB]
  ·exact zB
theorem mO {m:Nat} {s:Fs}:∀{a:Nat},(bS c d m a s).2.2.length=s.2.2.length
 |0=>rfl
 |q+1=>by
  rw [bS]
  split
  ·rw [zB,mO]
  ·exact mO
theorem aAj:∀{k:Nat} {A:List Int},(fM c d k A).2.length=A.length
 |0,A=>rfl
 |k+1,A=>by
  rw [fM]
  split
  ·split
   ·rw [aAj,mO]
   ·exact mO
  ·exact mO
theorem aGy:∀{r n:Nat},r≤n→aPL n c.fr.length (n-r) (rG c d b r)
 |0,n,_=>fun s h1 h2=>by
  refine⟨h1,?_,rfl⟩
  show(eL c d b (iE c d s.1)).2.length=_
  unfold eL
  rw [aAj]
  exact dX _
 |r+1,n,hr=>fun s h1 h2=>by
  have ih:= @aGy r n (by omega)
  have hx:s.1.length-(r+1)+1=n-r:=by omega
  have:=aCd (c:=c) (d:=d) (b:=b) (f:=rG c d b r) (x:=s.1.length-(r+1)) (n:=n) (m:=c.fr.length) (s:=s) (by rw [hx];exact ih) h1 h2 d.ob.toNat
  rw [rG]
  rw [show n-(r+1)=s.1.length-(r+1) by omega]
  exact this
theorem aDl {l:List Int} {x:Nat} {v:Int} (hx:x<l.length):(l.set x v).take (x+1)=l.take x++[v]:=by
 rw [List.take_add_one,oE,List.getElem?_set,if_pos rfl,if_pos hx];rfl
theorem aGt (hc:Shape c) (hx:x<P.length):pA c d b (P.take (x+1)) x↔pA c d b P x:=by
 have e:∀i:Nat,i≤x→(P.take (x+1)).getD i 0=P.getD i 0:=fun i hi=>by
  rw [List.getD_eq_getElem?_getD,List.getElem?_take,if_pos (by omega),List.getD_eq_getElem?_getD]
 constructor
 ·intro h f hf h1 h2 h3
  have f1:=hc.frw f hf
  have f2:=hc.tow f (by rw [hc.tol];exact hf)
  have:=h f hf h1 h2 h3
  rwa [e _ (by omega),e _ (by omega)]at this
 ·intro h f hf h1 h2 h3
  have f1:=hc.frw f hf
  have f2:=hc.tow f (by rw [hc.tol];exact hf)
  have:=h f hf h1 h2 h3
  rwa [e _ (by omega),e _ (by omega)]
theorem aAs {l:List Int} {n:Int} {y:Nat} (h:Within l n) (hy:(y:Int)<n):Within (l++[(y:Int)]) n:=fun i hi=>by
 rw [List.length_append,List.length_singleton]at hi
 by_cases q:i<l.length
 ·rw [List.getD_eq_getElem?_getD,List.getElem?_append_left q,←List.getD_eq_getElem?_getD];exact h i q
 ·rw [List.getD_eq_getElem?_getD,List.getElem?_append_right (by omega),show i-l.length=0 by omega]
  simp only [List.getElem?_cons_zero,Option.getD_some];omega
theorem aGi {l:List Int} {v:Int} (h:NdI l) (hv:v∉l):NdI (l++[v]):=fun i j hij hj h0=>by
 rw [List.length_append,List.length_singleton]at hj
 have ej:∀k,k<l.length→(l++[v]).getD k 0=l.getD k 0:=fun k hk=>by rw [List.getD_eq_getElem?_getD,List.getElem?_append_left hk,←List.getD_eq_getElem?_getD]
 rw [ej i (by omega)]at h0⊢
 by_cases q:j<l.length
 ·rw [ej j q]
  exact h i j hij q h0
 ·have e:(l++[v]).getD j 0=v:=by
   rw [List.getD_eq_getElem?_getD,List.getElem?_append_right (by omega),show j-l.length=0 by omega];rfl
  rw [e]
  exact fun e=>hv (by rw [←e];exact aX (by omega))
theorem aFQ {β:Type} {M:Nat} {z:β}:∀{D o:List β},(eat (stL M) o D).1=false→∃q∈D,(eat (stL M) o D).2.getLastD z=q
 |[],o,h=>by cases h
 |q::D,o,h=>by
  cases hq:(stL M o q).1 with
  |true=>
   rw [wH hq]at h⊢
   obtain⟨p,h1,h2⟩:=aFQ (D:=D) h
   exact⟨p,List.mem_cons_of_mem _ h1,h2⟩
  |false=>
   rw [aDw hq]
   exact⟨q,List.mem_cons_self ..,by show(o++[q]).getLastD z=q;rw [List.getLastD_concat]⟩
theorem aTD {l:List Int} {i:Nat} {v:Int} (hi:i<l.length):(List.replicate i v++l.drop i).set i v=List.replicate (i+1) v++l.drop (i+1):=by
 rw [List.set_append_right _ _ (by simp),List.length_replicate,Nat.sub_self,List.drop_eq_getElem_cons hi,List.set_cons_zero,List.replicate_succ',List.append_assoc]
 rfl
end
end Go.Cats
end
section
namespace Go.Cats
def aFr (c d:Cat) (A:List Int) (f:Nat):Prop:=
 (∀g,g<c.fr.length→0≤A.getD g 0→(0≤c.cp f g→0≤A.getD (c.cp f g).toNat 0→d.C (A.getD f 0) (A.getD g 0)=A.getD (c.cp f g).toNat 0)∧(0≤c.cp g f→0≤A.getD (c.cp g f).toNat 0→d.C (A.getD g 0) (A.getD f 0)=A.getD (c.cp g f).toNat 0))∧
 ∀g,g<c.fr.length→∀h,h<c.fr.length→0≤A.getD g 0→0≤A.getD h 0→c.cp g h=f→d.C (A.getD g 0) (A.getD h 0)=A.getD f 0
structure NY (c d:Cat) (X A:List Int):Prop where
 va:VA c d X A
 clw:∀a,a<c.fr.length→∀b,b<c.fr.length→0≤c.cp a b→0≤A.getD a 0→0≤A.getD b 0→0≤A.getD (c.cp a b).toNat 0→A.getD (c.cp a b).toNat 0=d.C (A.getD a 0) (A.getD b 0)
 nd:NdI A
 un:∀x:Nat,x<c.id.length→A.getD (c.id.getD x 0).toNat 0=d.id.getD (X.getD x 0).toNat 0
section
variable {c d:Cat} {X P A Q O:List Int} {i:Nat} {v:Int}
theorem NY.nx (hc:Shape c) (h:NY c d X A) (hf:∀j,j<A.length→0≤A.getD j 0):NX c d true X A:=
 ⟨h.va,fun a ha b hb h0 a0 b0=>h.clw a ha b hb h0 a0 b0 (hf _ (by rw [h.va.len];exact(fL hc ha hb h0).2.1)),fun _=>h.nd,h.un⟩
theorem NY.leaf (hc:Shape c) (hX:XOK c d true X) (h:NY c d X A) (hf:∀j,j<A.length→0≤A.getD j 0):dO (WA c d true X) (sA c d) A=[A]:=(h.nx hc hf).leaf hX hf
theorem yT (hc:IsCat c) (hd:IsCat d) (ho:c.ob=d.ob) (ha:c.fr.length=d.fr.length) (h:WA c d true X Q=true):IsoQ c d X Q:=by
 obtain⟨w1,w2⟩:=WA_iff.1 h
 exact⟨hc,hd,w1,(w2 rfl).1,(w2 rfl).2,ho,ha⟩
theorem aGN (hi:i<A.length) (h:fB (A.set i v) Q=true) (h0:0≤v):Q.getD i 0=v∧∀j,j<A.length→j≠i→0≤A.getD j 0→Q.getD j 0=A.getD j 0:=by
 rw [contB_iff]at h
 refine⟨?_,fun j hj hne h1=>?_⟩
 ·have:=h.2 i (by simpa using hi) (by rw [bV hi,if_pos rfl];exact h0)
  rwa [bV hi,if_pos rfl]at this
 ·have:=h.2 j (by simpa using hj) (by rw [bV hi,if_neg hne];exact h1)
  rwa [bV hi,if_neg hne]at this
theorem aQV (hA:VA c d X A) (hi:i<A.length) (h1:A.getD i 0= -1) (h0:0≤v) (hv:v∈A):dO (WA c d true X) (sA c d) (A.set i v)=[]:=
 rD fun Q hQ hW hk=>by
  obtain⟨e1,e2⟩:=aGN hi hk h0
  obtain⟨j,hj,e⟩:=fX (d:=0) hv
  have hne:j≠i:=fun q=>by rw [q,h1]at e;omega
  have e3:=e2 j hj hne (by omega)
  have hn:=((WA_iff.1 hW).2 rfl).2
  have hl:=(contB_iff.1 hk).1
  rw [List.length_set]at hl
  rcases Nat.lt_or_ge i j with q|q
  ·exact hn i j q (by omega) (by omega) (by omega)
  ·exact hn j i (by omega) (by omega) (by omega) (by omega)
theorem aJT {cc dd:List Int} (hc:IsCat c) (hd:IsCat d) (ho:c.ob=d.ob) (ha:c.fr.length=d.fr.length) (hk:aBk c d cc dd) (hA:VA c d X A) (hi:i<A.length) (h0:0≤v) (hv:cc.getD i 0≠dd.getD v.toNat 0):dO (WA c d true X) (sA c d) (A.set i v)=[]:=
 rD fun Q hQ hW hq=>by
  obtain⟨e1,_⟩:=aGN hi hq h0
  have:=hk X Q (yT hc hd ho ha hW) i (by rw [←hA.len];exact hi)
  rw [e1]at this
  exact hv this
theorem aQR (hc:Shape c) (hA:VA c d X A) (hi:i<A.length) (h0:0≤v) (hv:¬aFr c d (A.set i v) i):dO (WA c d true X) (sA c d) (A.set i v)=[]:=
 rD fun Q hQ hW hq=>hv (by
  have hl:=hA.len
  have hcm:=(WA_iff.1 hW).1.cmp
  have hQ:∀j,j<c.fr.length→0≤(A.set i v).getD j 0→Q.getD j 0=(A.set i v).getD j 0:=fun j hj h1=>(contB_iff.1 hq).2 j (by rw [List.length_set];omega) h1
  have hi':i<c.fr.length:=by omega
  have hii:0≤(A.set i v).getD i 0:=by rw [bV hi,if_pos rfl];exact h0
  refine⟨fun g hg g0=>⟨fun k1 k2=>?_,fun k1 k2=>?_⟩,fun g hg h hh g0 hh0 e=>?_⟩
  ·rw [←hQ i hi' hii,←hQ g hg g0,←hQ _ (fL hc hi' hg k1).2.1 k2]
   exact(hcm i g hi' hg k1).symm
  ·rw [←hQ i hi' hii,←hQ g hg g0,←hQ _ (fL hc hg hi' k1).2.1 k2]
   exact(hcm g i hg hi' k1).symm
  ·have:=hcm g h hg hh (by omega)
   rw [e,Int.toNat_natCast]at this
   rw [←hQ i hi' hii,←hQ g hg g0,←hQ h hh hh0]
   exact this.symm)
theorem NY.set (hc:Shape c) (hd:Shape d) (hX:XOK c d true X) (h:NY c d X A) (hi:i<A.length) (h1:A.getD i 0= -1) (hv:v∈d.hom (X.getD (c.fr.getD i 0).toNat 0) (X.getD (c.to.getD i 0).toNat 0)) (hn:v∉A) (hf:aFr c d (A.set i v) i):
  NY c d X (A.set i v)∧uns (A.set i v)<uns A:=by
 have hl:=h.va.len
 have v0:=(Cat.mem_hom.1 hv).1
 have hg:∀j,(A.set i v).getD j 0=if j=i then v else A.getD j 0:=fun j=>bV hi
 refine⟨⟨aA0 h.va hi hv,fun a ha b hb c0 a0 b0 k0=>?_,fun p q hpq hq p0=>?_,fun x hx=>?_⟩,?_⟩
 ·by_cases ea:a=i
  ·subst ea;exact((hf.1 b hb b0).1 c0 k0).symm
  ·by_cases eb:b=i
   ·subst eb;exact((hf.1 a ha a0).2 c0 k0).symm
   ·by_cases ec:(c.cp a b).toNat=i
    ·rw [ec];exact(hf.2 a ha b hb a0 b0 (by omega)).symm
    ·have ga:(A.set i v).getD a 0=A.getD a 0:=by rw [hg,if_neg ea]
     have gb:(A.set i v).getD b 0=A.getD b 0:=by rw [hg,if_neg eb]
     have gc:(A.set i v).getD (c.cp a b).toNat 0=A.getD (c.cp a b).toNat 0:=by rw [hg,if_neg ec]
     rw [ga]at a0⊢
     rw [gb]at b0⊢
     rw [gc]at k0⊢
     exact h.clw a ha b hb c0 a0 b0 k0
 ·rw [List.length_set]at hq
  rw [hg]at p0
  rw [hg,hg]
  by_cases ep:p=i
  ·rw [if_pos ep,if_neg (by omega)]
   exact fun e=>hn (by rw [e];exact aX hq)
  ·rw [if_neg ep]at p0⊢
   by_cases eq:q=i
   ·rw [if_pos eq];exact fun e=>hn (by rw [←e];exact aX (by omega))
   ·rw [if_neg eq];exact h.nd p q hpq hq p0
 ·have k1:=h.un x hx
  have k2:=lX hc hd hX hx
  rw [hg,if_neg,k1]
  intro e
  rw [e,h1]at k1
  omega
 ·exact(XtL.set (e:=v) hi (by omega)).uns_lt hi (by omega) (by rw [hg,if_pos rfl];exact v0)
theorem aNM (hc:Shape c) (hd:Shape d) (hX:XOK c d true X):NdI (iE c d X):=fun i j hij hj h0 e=>by
 have hl:(iE c d X).length=c.fr.length:=dX _
 obtain⟨x,hx,e1⟩:=kX hc (j:=i) (by omega) (Nat.le_refl _) h0
 have h1:0≤(iE c d X).getD j 0:=by omega
 obtain⟨y,hy,e2⟩:=kX hc (j:=j) (by omega) (Nat.le_refl _) h1
 have s1:=mC (d:=d) (X:=X) hc (Nat.le_refl c.id.length) x hx
 have s2:=mC (d:=d) (X:=X) hc (Nat.le_refl c.id.length) y hy
 have u1:=lX hc hd hX hx
 have u2:=lX hc hd hX hy
 have e3:d.id.getD (X.getD x 0).toNat 0=d.id.getD (X.getD y 0).toNat 0:=by
  rw [←s1,←s2,←e1,←e2];exact e
 have e4:X.getD x 0=X.getD y 0:=by
  have a1:=u1.2.2.2.2.1
  rw [e3,u2.2.2.2.2.1]at a1
  exact a1.symm
 have hxl:=hX.len
 have hil:=hc.idl
 have hn:=hX.nd rfl
 rcases Nat.lt_trichotomy x y with q|q|q
 ·exact hn x y q (by omega) u1.1 e4
 ·subst q;omega
 ·exact hn y x q (by omega) u2.1 e4.symm
theorem aNN (hc:IsCat c) (hd:IsCat d) (hX:XOK c d true X):NY c d X (iE c d X):=
 ⟨tB hc.toShape hd.toShape hX (Nat.le_refl _),fun a ha b hb h0 a0 b0 _=>aKZ hc hd hX a ha b hb h0 a0 b0,aNM hc.toShape hd.toShape hX,fun x hx=>mC hc.toShape (Nat.le_refl _) x hx⟩
def aBm (c d:Cat) (X:List Int) (n x:Nat):Prop:=(c.hom x n).length=(d.hom (X.getD x 0) (X.getD n 0)).length∧(c.hom n x).length=(d.hom (X.getD n 0) (X.getD x 0)).length
theorem aPs {r n:Nat} (hc:IsCat c) (hd:IsCat d) (ho:c.ob=d.ob) (ha:c.fr.length=d.fr.length) (hX:X.length=n+1) (hn:(n:Int)<c.ob) (h:¬∀x,x<n+1→aBm c d X n x):cZ c d true r X=[]:=
 wO fun O Q hO hW=>h fun x hx=>by
  have hi:=yT hc hd ho ha hW
  have e1:O.getD x 0=X.getD x 0:=getD_take hO (by omega)
  have e2:O.getD n 0=X.getD n 0:=getD_take hO (by omega)
  have h1:=hi.hom (p:=x) (q:=n) ⟨by omega,by omega⟩ ⟨by omega,by omega⟩
  have h2:=hi.hom (p:=n) (q:=x) ⟨by omega,by omega⟩ ⟨by omega,by omega⟩
  rw [Int.toNat_natCast,Int.toNat_natCast,e1,e2]at h1 h2
  exact⟨h1,h2⟩
theorem aLp {cc dd:List Int} (hc:IsCat c) (hd:IsCat d) (ho:c.ob=d.ob) (ha:c.fr.length=d.fr.length) (hk:aBk c d cc dd) (h1:cc.length=c.fr.length) (h2:dd.length=d.fr.length) (h:¬qN cc dd) {r:Nat}:cZ c d true r []=[]:=
 wO fun O Q hO hW=>h (aJI (yT hc hd ho ha hW) hk h1 h2)
end
end Go.Cats
end
section
namespace Go.Cats
structure UF (J:List Int):Prop where
 lo:∀x,x<J.length→0≤J.getD x 0
 hi:∀x,x<J.length→J.getD x 0≤x
def rtF (J:List Int):Nat→Nat→Nat
 |0,x=>x
 |k+1,x=>if(J.getD x 0).toNat=x then x else rtF J k (J.getD x 0).toNat
def rt (J:List Int) (x:Nat):Nat:=rtF J x x
section
variable {J:List Int} {x y k:Nat}
theorem UF.par (h:UF J) (hx:x<J.length):(J.getD x 0).toNat≤x:=by have:=h.lo x hx;have:=h.hi x hx;omega
theorem aCk (h:UF J):∀(k l x:Nat),x<J.length→x≤k→x≤l→rtF J k x=rtF J l x
 |0,0,x,_,_,_=>rfl
 |0,l+1,x,hx,h1,_=>by
  have:x=0:=by omega
  subst this
  have:=h.par hx
  rw [rtF,rtF,if_pos (by omega)]
 |k+1,0,x,hx,_,h2=>by
  have:x=0:=by omega
  subst this
  have:=h.par hx
  rw [rtF,rtF,if_pos (by omega)]
 |k+1,l+1,x,hx,h1,h2=>by
  rw [rtF,rtF]
  have:=h.par hx
  split
  ·rfl
  ·exact aCk h k l _ (by omega) (by omega) (by omega)
theorem pR (h:UF J) (hx:x<J.length):rt J x=if(J.getD x 0).toNat=x then x else rt J (J.getD x 0).toNat:=by
 have hp:=h.par hx
 cases x with
 |zero=>rw [if_pos (by omega)];rfl
 |succ x=>
  unfold rt
  rw [rtF]
  split
  ·rfl
  ·exact aCk h _ _ _ (by omega) (by omega) (Nat.le_refl _)
theorem zD (h:UF J) (hx:x<J.length) (e:(J.getD x 0).toNat=x):rt J x=x:=by rw [pR h hx,if_pos e]
theorem aCl (h:UF J) (hx:x<J.length):rt J (J.getD x 0).toNat=rt J x:=by
 rw [pR h hx]
 split
 ·rename_i e;rw [e];exact zD h hx e
 ·rfl
theorem aEd (h:UF J):∀{x:Nat},x<J.length→rt J x≤x:=by
 intro x
 induction x using Nat.strongRecOn with
 |ind x ih=>
  intro hx
  have hp:=h.par hx
  rw [pR h hx]
  split
  ·exact Nat.le_refl _
  ·have:=ih _ (show(J.getD x 0).toNat<x by omega) (by omega);omega
theorem aPo (h:UF J):∀{x:Nat},x<J.length→(J.getD (rt J x) 0).toNat=rt J x:=by
 intro x
 induction x using Nat.strongRecOn with
 |ind x ih=>
  intro hx
  have hp:=h.par hx
  rw [pR h hx]
  split
  ·rename_i e;exact e
  ·exact ih _ (by omega) (by omega)
theorem aJk (h:UF J) (hx:x<J.length):rt J (rt J x)=rt J x:=zD h (by have:=aEd h hx;omega) (aPo h hx)
theorem rE {l:List Int} {i j:Nat} {v:Int} (hi:i<l.length):(l.set i v).getD j 0=if j=i then v else l.getD j 0:=by
 rw [List.getD_eq_getElem?_getD,List.getD_eq_getElem?_getD]
 by_cases e:j=i
 ·subst e;rw [if_pos rfl,List.getElem?_set_self hi];rfl
 ·rw [if_neg e,List.getElem?_set_ne (fun q=>e q.symm)]
theorem UF.set (h:UF J) (hx:x<J.length) {v:Int} (h0:0≤v) (h1:v≤x):UF (J.set x v):=by
 refine⟨fun y hy=>?_,fun y hy=>?_⟩<;>rw [List.length_set]at hy<;>rw [rE hx]<;>split
 ·exact h0
 ·exact h.lo y hy
 ·rename_i e;rw [e];exact h1
 ·exact h.hi y hy
theorem aRF (h:UF J) (hx:x<J.length) {v:Int} (h0:0≤v) (h1:v≤x) (hr:rt J v.toNat=rt J x) (hv:v.toNat=x→(J.getD x 0).toNat=x):∀{y:Nat},y<J.length→rt (J.set x v) y=rt J y:=by
 have hu:=h.set hx h0 h1
 intro y
 induction y using Nat.strongRecOn with
 |ind y ih=>
  intro hy
  have hy':y<(J.set x v).length:=by rw [List.length_set];exact hy
  rw [pR hu hy',rE hx]
  by_cases e:y=x
  ·subst e
   rw [if_pos rfl]
   split
   ·rename_i q;exact(zD h hx (hv q)).symm
   ·rw [ih v.toNat (by omega) (by omega),hr]
  ·rw [if_neg e,pR h hy]
   split
   ·rfl
   ·have:=h.par hy
    exact ih _ (by omega) (by omega)
theorem aJj (h:UF J) (hx:x<J.length):UF (J.set x (J.getD (J.getD x 0).toNat 0))∧∀{y:Nat},y<J.length→rt (J.set x (J.getD (J.getD x 0).toNat 0)) y=rt J y:=by
 have hp:=h.par hx
 have hpl:(J.getD x 0).toNat<J.length:=by omega
 have hq:=h.par hpl
 have q0:=h.lo _ hpl
 refine⟨h.set hx q0 (by omega),aRF h hx q0 (by omega) (by rw [aCl h hpl,aCl h hx]) fun e=>by omega⟩
def hvF:Nat→List Int→Nat→List Int
 |0,J,_=>J
 |k+1,J,x=>if(J.getD x 0).toNat=x then J else hvF k (J.set x (J.getD (J.getD x 0).toNat 0)) (J.getD (J.getD x 0).toNat 0).toNat
def hv (J:List Int) (x:Nat):List Int:=hvF x J x
theorem yQ:∀(k:Nat) (J:List Int) (x:Nat),UF J→x<J.length→UF (hvF k J x)∧(hvF k J x).length=J.length∧∀{y:Nat},y<J.length→rt (hvF k J x) y=rt J y
 |0,J,x,h,_=>⟨h,rfl,fun _=>rfl⟩
 |k+1,J,x,h,hx=>by
  rw [hvF]
  split
  ·exact⟨h,rfl,fun _=>rfl⟩
  ·obtain⟨h1,h2⟩:=aJj h hx
   have hp:=h.par hx
   have hq:=h.par (x:=(J.getD x 0).toNat) (by omega)
   obtain⟨g1,g2,g3⟩:=yQ k _ (J.getD (J.getD x 0).toNat 0).toNat h1 (by rw [List.length_set];omega)
   rw [List.length_set]at g2 g3
   exact⟨g1,g2,fun hy=>by rw [g3 hy,h2 hy]⟩
theorem aPn (h:UF J) {M m:Nat} (hM:M<J.length) (h1:rt J M=M) (hm:m≤M) (h2:rt J m=m):UF (J.set M (m:Int))∧∀{z:Nat},z<J.length→rt (J.set M (m:Int)) z=if rt J z=M then m else rt J z:=by
 have hu:=h.set hM (v:=(m:Int)) (by omega) (by omega)
 refine⟨hu,?_⟩
 intro z
 induction z using Nat.strongRecOn with
 |ind z ih=>
  intro hz
  have hz':z<(J.set M (m:Int)).length:=by rw [List.length_set];exact hz
  rw [pR hu hz',rE hM]
  by_cases e:z=M
  ·subst e
   rw [if_pos rfl,h1,if_pos rfl,Int.toNat_natCast]
   split
   ·rename_i q;exact q.symm
   ·rename_i q
    rw [ih m (by omega) (by omega),h2,if_neg q]
  ·rw [if_neg e]
   split
   ·rename_i q
    rw [zD h hz q,if_neg e]
   ·rename_i q
    have:=h.par hz
    rw [ih _ (by omega) (by omega),aCl h hz]
def jn (J:List Int) (x y:Nat):List Int:=(hv (hv J x) y).set (max (rt J x) (rt J y)) ((min (rt J x) (rt J y):Nat):Int)
theorem aT3 (h:UF J) (hx:x<J.length) (hy:y<J.length):UF (jn J x y)∧(jn J x y).length=J.length∧∀{z:Nat},z<J.length→rt (jn J x y) z=if rt J z=max (rt J x) (rt J y)then min (rt J x) (rt J y)else rt J z:=by
 obtain⟨h1,l1,r1⟩:=yQ x J x h hx
 obtain⟨h2,l2,r2⟩:=yQ y (hv J x) y h1 (by show y<(hvF x J x).length;omega)
 have l3:(hv (hv J x) y).length=J.length:=l2.trans l1
 have r3:∀{z:Nat},z<J.length→rt (hv (hv J x) y) z=rt J z:=fun hz=>by
  show rt (hvF y (hv J x) y) _=_
  rw [r2 (by show _<(hvF x J x).length;omega)]
  exact r1 hz
 have ha:=aEd h hx
 have hb:=aEd h hy
 have ia:=aJk h hx
 have ib:=aJk h hy
 have hM:rt J (max (rt J x) (rt J y))=max (rt J x) (rt J y):=by
  rcases Nat.le_total (rt J x) (rt J y)with q|q
  ·rw [Nat.max_eq_right q];exact ib
  ·rw [Nat.max_eq_left q];exact ia
 have hm:rt J (min (rt J x) (rt J y))=min (rt J x) (rt J y):=by
  rcases Nat.le_total (rt J x) (rt J y)with q|q
  ·rw [Nat.min_eq_left q];exact ia
  ·rw [Nat.min_eq_right q];exact ib
 have hMl:max (rt J x) (rt J y)<J.length:=by omega
 obtain⟨g1,g2⟩:=aPn (J:=hv (hv J x) y) (M:=max (rt J x) (rt J y)) (m:=min (rt J x) (rt J y)) h2 (by rw [l3];exact hMl) (by rw [r3 hMl];exact hM) (by omega) (by rw [r3 (by omega)];exact hm)
 refine⟨g1,by unfold jn;rw [List.length_set];exact l3,fun hz=>?_⟩
 unfold jn
 rw [g2 (by rw [l3];exact hz),r3 hz]
end
end Go.Cats
end
section
namespace Go.Cats
def Rises (l:List Int):Prop:=∀i,i+1<l.length→l.getD i 0<l.getD (i+1) 0
structure IsSieve (c:Cat) (x:Int) (s:List Int):Prop where
 up:Rises s
 wi:Within s c.fr.length
 at_:∀i,i<s.length→c.F (s.getD i 0)=x
 cl:∀i,i<s.length→∀b:Nat,b<c.fr.length→c.fr.getD b 0=c.T (s.getD i 0)→c.C (s.getD i 0) b∈s
theorem Rises.ge {l:List Int} (h:Rises l) (h0:∀i,i<l.length→0≤l.getD i 0):∀i:Nat,i<l.length→(i:Int)≤l.getD i 0
 |0,hi=>h0 0 hi
 |i+1,hi=>by
  have h1:=h.ge h0 i (by omega)
  have h2:=h i hi
  omega
theorem IsSieve.len {c:Cat} {x:Int} {s:List Int} (h:IsSieve c x s):s.length≤c.fr.length:=by
 by_cases h0:s.length=0
 ·omega
 ·have h1:=h.up.ge (fun i hi=>(h.wi i hi).1) (s.length-1) (by omega)
  have h2:=h.wi (s.length-1) (by omega)
  omega
def trS (c:Cat) (s:List Int) (i b:Nat):Tr:=(i,b,(idxOf s (c.C (s.getD i 0) b)).toNat)
section
variable {c:Cat} {s:List Int} {k n i b:Nat} {x:Int} {f:SF}
theorem IsSieve.arr (hs:Shape c) (h:IsSieve c x s) (hi:i<s.length):(0≤s.getD i 0∧s.getD i 0<c.fr.length)∧(0≤c.T (s.getD i 0)∧c.T (s.getD i 0)<c.ob):=by
 have h1:=h.wi i hi
 exact⟨h1,hs.tow _ (by have:=hs.tol;omega)⟩
end
end Go.Cats
end
section
namespace Go.Cats
section
variable {c:Cat} {o:Nat→Nat} {J:Nat→Nat→Nat} {k i n b:Nat} {f:SF}
structure GenW (c:Cat) (O:List Int) (J:Nat→Nat→Nat):Prop where
 ob:∀i,i<O.length→0≤O.getD i 0∧O.getD i 0<c.ob
 nx:∀i b,i<O.length→b<c.fr.length→c.fr.getD b 0=O.getD i 0→J i b<O.length∧O.getD (J i b) 0=c.to.getD b 0
end
section
variable {k:Fun} {y:Int} {n x:Nat}
structure SeatOK (k:Fun) (y:Int) (r:List Int):Prop where
 len:r.length=2
 x0:0≤r.getD 0 0
 x1:r.getD 0 0<k.src.ob
 h0:0≤r.getD 1 0
 h1:r.getD 1 0<k.tgt.fr.length
 hf:k.tgt.F (r.getD 1 0)=y
 ht:k.tgt.T (r.getD 1 0)=k.obs.getD (r.getD 0 0).toNat 0
end
end Go.Cats
end
section
namespace Go.Eng
open Go Go.Cats
theorem aFX {c d:Cat} {b:Bool} {O Q:List Int} (hw:WA c d b O Q=true) (hO:Within O d.ob) (hQ:Q.length=c.fr.length) (hQw:Within Q d.fr.length):∀(r:Nat) (X:List Int),O.take X.length=X→O.length=X.length+r→(⟨c,d,O,Q⟩:Fun)∈cZ c d b r X
 |0,X,h1,h2=>by
  have e:X=O:=by rw [←h1,List.take_of_length_le (by omega)]
  subst e
  refine List.mem_map.2 ⟨Q,mem_extW.2 ⟨mem_lexP.2 ⟨?_,fun i hi=>?_⟩,contB_iff.2 ⟨?_,fun j hj h0=>?_⟩,hw⟩,rfl⟩
  ·show Q.length=(List.replicate _ _).length
   rw [List.length_replicate];exact hQ
  ·have:=hQw i hi
   rw [aEV (by omega)]
   exact this
  ·simp [hQ]
  ·rw [List.length_replicate]at hj
   rw [pO,if_pos hj]at h0
   omega
 |r+1,X,h1,h2=>by
  have hx:=hO X.length (by omega)
  show _∈(List.range d.ob.toNat).flatMap fun v:Nat=>cZ c d b r (X++[(v:Int)])
  refine List.mem_flatMap.2 ⟨(O.getD X.length 0).toNat,List.mem_range.2 (by omega),aFX hw hO hQ hQw r _ ?_ ?_⟩
  ·rw [List.length_append,List.length_singleton,List.take_succ_eq_append_getElem (by omega),h1,Int.toNat_of_nonneg hx.1,List.getD_eq_getElem?_getD,List.getElem?_eq_getElem (by omega)];rfl
  ·rw [List.length_append,List.length_singleton];omega
end Go.Eng
namespace Go.Cats
open Go.Eng
structure Bij (n:Nat) (l:List Int):Prop where
 len:l.length=n
 win:Within l n
 inj:NdI l
section
variable {n:Nat} {l:List Int}
theorem Bij.eq (h:Bij n l) {i j:Nat} (hi:i<n) (hj:j<n) (e:l.getD i 0=l.getD j 0):i=j:=
 h.inj.inj (fun k hk=>(h.win k hk).1) (by rw [h.len];exact hi) (by rw [h.len];exact hj) e
theorem Bij.at (h:Bij n l) {i:Nat} (hi:i<n):0≤l.getD i 0∧l.getD i 0<n:=h.win i (by rw [h.len];exact hi)
theorem Bij.surj (h:Bij n l) {y:Nat} (hy:y<n):∃x,x<n∧l.getD x 0=y:=by
 have hn:((List.range n).map fun i=>(l.getD i 0).toNat).Nodup:=by
  unfold List.Nodup
  rw [List.pairwise_map]
  refine List.Pairwise.imp_of_mem ?_ (List.pairwise_lt_range (n:=n))
  intro a b ha hb hab e
  have ha:=List.mem_range.1 ha
  have hb:=List.mem_range.1 hb
  have h1:=h.at ha
  have h2:=h.at hb
  have:=h.eq ha hb (by omega)
  omega
 refine Classical.byContradiction fun hno=>?_
 have hsub:∀z∈(List.range n).map fun i=>(l.getD i 0).toNat,z∈(List.range n).erase y:=fun z hz=>by
  obtain⟨i,hi,rfl⟩:=List.mem_map.1 hz
  have hi:=List.mem_range.1 hi
  have h1:=h.at hi
  refine(List.mem_erase_of_ne fun e=>hno ⟨i,hi,by omega⟩).2 (List.mem_range.2 (by omega))
 have h1:=List.Nodup.length_le_of_subset hn hsub
 rw [List.length_map,List.length_range,List.length_erase_of_mem (List.mem_range.2 hy),List.length_range]at h1
 omega
def bwL (l:List Int):Nat→List Int
 |0=>List.replicate l.length 0
 |i+1=>(bwL l i).set (l.getD i 0).toNat i
theorem aFB:bwL l 0=List.replicate l.length 0:=rfl
theorem aBu {i:Nat}:bwL l (i+1)=(bwL l i).set (l.getD i 0).toNat i:=rfl
theorem jJ:∀i,(bwL l i).length=l.length
 |0=>by rw [aFB,List.length_replicate]
 |i+1=>by rw [aBu,List.length_set,jJ i]
theorem aLG (h:Bij n l):∀{i:Nat},i≤n→∀j,j<i→(bwL l i).getD (l.getD j 0).toNat 0=j
 |0,_,j,hj=>absurd hj (Nat.not_lt_zero j)
 |i+1,hi,j,hj=>by
  have h1:=h.at (show i<n by omega)
  have h2:=h.at (show j<n by omega)
  have hl:=h.len
  rw [aBu,rE (by rw [jJ];omega)]
  by_cases e:(l.getD j 0).toNat=(l.getD i 0).toNat
  ·rw [if_pos e]
   have:=h.eq (show j<n by omega) (show i<n by omega) (by omega)
   rw [this]
  ·rw [if_neg e]
   refine aLG h (by omega) j ?_
   rcases Nat.lt_or_ge j i with q|q
   ·exact q
   ·exact absurd (by rw [show j=i by omega]) e
theorem vO (h:Bij n l) {x:Nat} (hx:x<n):(bwL l n).getD (l.getD x 0).toNat 0=x:=aLG h (Nat.le_refl n) x hx
theorem mD (h:Bij n l) {y:Nat} (hy:y<n):0≤(bwL l n).getD y 0∧(bwL l n).getD y 0<n∧l.getD ((bwL l n).getD y 0).toNat 0=y:=by
 obtain⟨x,hx,e⟩:=h.surj hy
 have:=vO h hx
 rw [e,Int.toNat_natCast]at this
 rw [this]
 exact⟨by omega,by omega,by rw [Int.toNat_natCast];exact e⟩
theorem aLH (h:Bij n l):Bij n (bwL l n):=by
 have hl:=h.len
 have hb:=jJ (l:=l) n
 refine⟨by omega,fun i hi=>?_,fun i j hij hj h0 e=>?_⟩
 ·have:=mD h (show i<n by omega);exact⟨this.1,this.2.1⟩
 ·have h1:=mD h (show i<n by omega)
  have h2:=mD h (show j<n by omega)
  rw [e,h2.2.2]at h1
  have:=h1.2.2
  omega
end
section
variable {c d:Cat} {O Q:List Int} {f:Fun}
theorem IsoQ.bo (h:IsoQ c d O Q):Bij c.ob.toNat O:=by
 have h1:(O.length:Int)=c.ob:=h.fit.obl
 have h2:Within O d.ob:=h.fit.obw
 have h3:=h.hc.toShape.ob0
 have h4:=h.ob
 refine⟨by omega,fun i hi=>?_,h.no⟩
 have:=h2 i hi
 omega
theorem IsoQ.bq (h:IsoQ c d O Q):Bij c.fr.length Q:=⟨h.len,fun i hi=>by have:=h.rng (f:=i) (by rw [←h.len];exact hi);have:=h.ar;omega,h.nq⟩
def bwF (f:Fun):Fun:=⟨f.tgt,f.src,bwL f.obs f.obs.length,bwL f.ars f.ars.length⟩
theorem IsoQ.back (h:IsoQ c d O Q):IsoQ d c (bwL O O.length) (bwL Q Q.length):=by
 have bo:=h.bo
 have bq:=h.bq
 have b1:=aLH bo
 have b2:=aLH bq
 have ho:=h.ob
 have ha:=h.ar
 have o0:=h.hc.toShape.ob0
 have lo:=bo.len
 have lq:=bq.len
 have sc:=h.hc.toShape
 have sd:=h.hd.toShape
 rw [bo.len,bq.len]
 refine⟨h.hd,h.hc,⟨?_,?_,?_,?_,fun a hx=>?_,fun x hx=>?_,fun a b hx hy h0=>?_⟩,b1.inj,b2.inj,ho.symm,ha.symm⟩
 ·show((bwL O c.ob.toNat).length:Int)=d.ob
  rw [jJ];omega
 ·show(bwL Q c.fr.length).length=d.fr.length
  rw [jJ];omega
 ·intro i hi
  have:=b1.at (show i<c.ob.toNat by have:i<(bwL O c.ob.toNat).length:=hi;rw [jJ]at this;omega)
  show 0≤(bwL O c.ob.toNat).getD i 0∧(bwL O c.ob.toNat).getD i 0<c.ob
  omega
 ·intro i hi
  exact b2.at (show i<c.fr.length by have:i<(bwL Q c.fr.length).length:=hi;rw [jJ]at this;omega)
 ·have hx:a<c.fr.length:=by have:a<(bwL Q c.fr.length).length:=hx;rw [jJ]at this;omega
  obtain⟨r1,r2,r3⟩:=mD bq hx
  show c.F ((bwL Q c.fr.length).getD a 0)=(bwL O c.ob.toNat).getD (d.F (a:Int)).toNat 0∧c.T ((bwL Q c.fr.length).getD a 0)=(bwL O c.ob.toNat).getD (d.T (a:Int)).toNat 0
  obtain⟨b,hb⟩:∃b:Nat,(bwL Q c.fr.length).getD a 0=b:=⟨_,(Int.toNat_of_nonneg r1).symm⟩
  rw [hb]at r2 r3⊢
  rw [Int.toNat_natCast]at r3
  have hb2:b<c.fr.length:=by omega
  obtain⟨g1,g2⟩:=h.fr hb2
  rw [r3,Int.toNat_natCast]at g1 g2
  have f1:=sc.frw b hb2
  have f2:=sc.tow b (by rw [sc.tol];exact hb2)
  have k1:=vO bo (x:=(c.fr.getD b 0).toNat) (by omega)
  have k2:=vO bo (x:=(c.to.getD b 0).toNat) (by omega)
  unfold Cat.F Cat.T
  rw [Int.toNat_natCast,Int.toNat_natCast,g1,g2,k1,k2]
  omega
 ·have hx:x<d.id.length:=hx
  have il:=sd.idl
  have cl:=sc.idl
  have hx2:x<c.ob.toNat:=by omega
  obtain⟨r1,r2,r3⟩:=mD bo hx2
  obtain⟨y,hy⟩:∃y:Nat,(bwL O c.ob.toNat).getD x 0=y:=⟨_,(Int.toNat_of_nonneg r1).symm⟩
  rw [hy]at r2 r3
  rw [Int.toNat_natCast]at r3
  have hu:=h.fit.unit y (by show y<c.id.length;omega)
  have hu:Q.getD (c.id.getD y 0).toNat 0=d.id.getD (O.getD y 0).toNat 0:=by
   have e:(⟨c,d,O,Q⟩:Fun).O (y:Int)=O.getD y 0:=by unfold Fun.O;rw [Int.toNat_natCast]
   rw [e]at hu;exact hu
  rw [r3,Int.toNat_natCast]at hu
  have iw:=sc.idw y (by omega)
  show(bwL Q c.fr.length).getD (d.id.getD x 0).toNat 0=c.id.getD ((bwL O c.ob.toNat).getD (x:Int).toNat 0).toNat 0
  rw [Int.toNat_natCast,hy,Int.toNat_natCast,←hu,vO bq (by omega)]
  omega
 ·have hx:a<c.fr.length:=by have:a<d.fr.length:=hx;omega
  have hy:b<c.fr.length:=by have:b<d.fr.length:=hy;omega
  obtain⟨r1,r2,r3⟩:=mD bq hx
  obtain⟨s1,s2,s3⟩:=mD bq hy
  obtain⟨p,hp⟩:∃p:Nat,(bwL Q c.fr.length).getD a 0=p:=⟨_,(Int.toNat_of_nonneg r1).symm⟩
  obtain⟨q,hq⟩:∃q:Nat,(bwL Q c.fr.length).getD b 0=q:=⟨_,(Int.toNat_of_nonneg s1).symm⟩
  rw [hp]at r2 r3
  rw [hq]at s2 s3
  rw [Int.toNat_natCast]at r3 s3
  have hcp:=h.cp (f:=p) (g:=q) (by omega) (by omega)
  rw [r3,s3,Int.toNat_natCast,Int.toNat_natCast]at hcp
  have h0:0≤d.C (a:Int) (b:Int):=h0
  have e1:d.C (a:Int) (b:Int)=d.cp a b:=by unfold Cat.C Cat.cp;rw [Int.toNat_natCast,Int.toNat_natCast]
  rw [e1]at h0
  have h1:=hcp.1.2 h0
  obtain⟨k1,k2⟩:=hcp.2 h1
  show(bwL Q c.fr.length).getD (d.C (a:Int) (b:Int)).toNat 0=c.C ((bwL Q c.fr.length).getD (a:Int).toNat 0) ((bwL Q c.fr.length).getD (b:Int).toNat 0)
  have e2:c.C (p:Int) (q:Int)=c.cp p q:=by unfold Cat.C Cat.cp;rw [Int.toNat_natCast,Int.toNat_natCast]
  rw [e1,Int.toNat_natCast,Int.toNat_natCast,hp,hq,e2,k2,vO bq k1]
  omega
theorem vM (hc:IsCat c):f∈cZ c c true c.ob.toNat []↔f.src=c∧f.tgt=c∧IsoQ c c f.obs f.ars:=by
 have o0:=hc.toShape.ob0
 refine⟨fun h=>?_,fun⟨h1,h2,h3⟩=>?_⟩
 ·obtain⟨h1,h2,_,h4⟩:=rF h
  exact⟨h1,h2,yT hc hc rfl rfl h4⟩
 ·obtain⟨s,t,O,Q⟩:=f
  simp only at h1 h2 h3
  subst h1;subst h2
  refine aFX (WA_iff.2 ⟨h3.fit,fun _=>⟨h3.no,h3.nq⟩⟩) ?_ h3.len ?_ _ [] rfl ?_
  ·exact h3.fit.obw
  ·exact h3.fit.arw
  ·have:=h3.bo.len
   simpa using this
theorem aLx (hc:IsCat c):jC c∈cZ c c true c.ob.toNat []:=by
 have hn:∀n,NdI (nums n):=fun n i j hij hj h0 e=>by
  rw [cW]at hj
  rw [gL (by omega),gL hj]at e
  omega
 exact(vM hc).2 ⟨rfl,rfl,⟨hc,hc,(aKG hc).fits,hn _,hn _,rfl,rfl⟩⟩
theorem aLw (hc:IsCat c) (h:f∈cZ c c true c.ob.toNat []):bwF f∈cZ c c true c.ob.toNat []:=by
 obtain⟨h1,h2,h3⟩:=(vM hc).1 h
 exact(vM hc).2 ⟨h2,h1,h3.back⟩
end
end Go.Cats
end
section
namespace Go.Cats
/-! ### The first of a list with a property, -1 if there is none -/
open Classical in
noncomputable def fpO (p:Int→Prop) (l:List Int) (i:Nat):Option Int:=if p (l.getD i 0)then some (l.getD i 0)else none
noncomputable def aED (p:Int→Prop) (l:List Int):Int:=(aZ l.length (fpO p l)).getD (-1)
section
variable {p:Int→Prop} {l:List Int} {i:Nat}
theorem aP4 (h:p (l.getD i 0)):fpO p l i=some (l.getD i 0):=if_pos h
theorem aTE (h:¬p (l.getD i 0)):fpO p l i=none:=if_neg h
theorem aJ0 (h:aZ l.length (fpO p l)=none):aED p l= -1:=by unfold aED;rw [h];rfl
theorem aHt (p:Int→Prop) (l:List Int):(aED p l= -1∧∀v∈l,¬p v)∨(aED p l∈l∧p (aED p l)):=by
 cases h:aZ l.length (fpO p l)with
 |none=>
  refine .inl ⟨aJ0 h,fun v hv k=>?_⟩
  obtain⟨i,hi,e⟩:=fX (d:=0) hv
  have:=scan_none.1 h i hi
  rw [aP4 (by rw [e];exact k)]at this
  cases this
 |some r=>
  obtain⟨i,hi,k⟩:=cR h
  have e:aED p l=r:=by unfold aED;rw [h];rfl
  rw [e]
  by_cases q:p (l.getD i 0)
  ·rw [aP4 q]at k
   have:l.getD i 0=r:=by simpa using k
   rw [←this]
   exact .inr ⟨aX hi,q⟩
  ·rw [aTE q]at k;cases k
theorem aOE (h0:∀v∈l,0≤v):0≤aED p l↔∃v∈l,p v:=by
 rcases aHt p l with⟨h1,h2⟩|⟨h1,h2⟩
 ·rw [h1]
  exact⟨fun h=>by omega,fun⟨v,hv,k⟩=>absurd k (h2 v hv)⟩
 ·exact⟨fun _=>⟨_,h1,h2⟩,fun _=>h0 _ h1⟩
end
/-! ### The numbers below n with a property, in order -/
open Classical in
noncomputable def aEW (P:Nat→Prop) (n:Nat):List Int:=fA n fun x=>if P x then [(x:Int)]else []
section
variable {P Q:Nat→Prop} {n x:Nat}
theorem aKF:aEW P 0=[]:=rfl
theorem aGM (h:P n):aEW P (n+1)=aEW P n++[(n:Int)]:=by unfold aEW;rw [oK,if_pos h]
theorem aJo (h:¬P n):aEW P (n+1)=aEW P n:=by unfold aEW;rw [oK,if_neg h,List.append_nil]
theorem aGL (P:Nat→Prop):∀n,(aEW P n).length≤n
 |0=>Nat.le_refl _
 |n+1=>by
  have:=aGL P n
  by_cases k:P n
  ·rw [aGM k,List.length_append];simp;omega
  ·rw [aJo k];omega
end
/-! ### Places in lists without repetitions -/
theorem aL9 {l:List Int} (h:l.Nodup) {i:Nat} (hi:i<l.length):idxOf l (l.getD i 0)=i:=by
 obtain⟨h0,h1,h2⟩:=yS (aX (d:=0) hi)
 have e:∀j,(hj:j<l.length)→l.getD j 0=l[j]:=fun j hj=>by rw [List.getD_eq_getElem?_getD,List.getElem?_eq_getElem hj];rfl
 have hj:(idxOf l (l.getD i 0)).toNat<l.length:=by omega
 have h3:l[(idxOf l (l.getD i 0)).toNat]=l[i]:=by rw [←e _ hj,←e _ hi,h2]
 rcases Nat.lt_trichotomy (idxOf l (l.getD i 0)).toNat i with q|q|q
 ·exact absurd h3 (List.pairwise_iff_getElem.1 h _ _ hj hi q)
 ·omega
 ·exact absurd h3.symm (List.pairwise_iff_getElem.1 h _ _ hi hj q)
/-! ### Categories by whole numbers -/
section
variable {c:Cat} {f g h x y z:Int}
theorem Shape.objF (s:Shape c) (h0:0≤f) (h1:f<c.fr.length):0≤c.F f∧c.F f<c.ob:=s.frw f.toNat (by omega)
theorem Shape.objT (s:Shape c) (h0:0≤f) (h1:f<c.fr.length):0≤c.T f∧c.T f<c.ob:=s.tow f.toNat (by have:=s.tol;omega)
theorem Shape.unitI (s:Shape c) (h0:0≤x) (h1:x<c.ob):0≤c.I x∧c.I x<c.fr.length∧c.F (c.I x)=x∧c.T (c.I x)=x:=by
 have hl:=s.idl
 have hx:x.toNat<c.id.length:=by omega
 have a:=s.idw x.toNat hx
 have b:=s.ide x.toNat hx
 have e:((x.toNat:Nat):Int)=x:=by omega
 rw [e]at b
 exact⟨a.1,a.2,b⟩
theorem Shape.compI (s:Shape c) (f0:0≤f) (f1:f<c.fr.length) (g0:0≤g) (g1:g<c.fr.length) (e:c.T f=c.F g):0≤c.C f g∧c.C f g<c.fr.length∧c.F (c.C f g)=c.F f∧c.T (c.C f g)=c.T g:=by
 have:=(s.coe f.toNat (by omega)).2 g.toNat (by omega)
 unfold Cat.Entry at this
 simp only [Cat.C,Int.toNat_natCast]at this⊢
 rcases this with⟨_,h2,h3,h4⟩|⟨h1,_⟩
 ·exact⟨h2.1,h2.2,h3,h4⟩
 ·exact absurd e h1
/-! ### Inverses -/
def Cat.InvP (c:Cat) (f g:Int):Prop:=c.C f g=c.I (c.F f)∧c.C g f=c.I (c.T f)
noncomputable def Cat.inv (c:Cat) (f:Int):Int:=aED (c.InvP f) (c.hom (c.T f) (c.F f))
theorem Cat.inv_ge:0≤c.inv f↔∃g∈c.hom (c.T f) (c.F f),c.InvP f g:=aOE fun v hv=>(Cat.mem_hom.1 hv).1
def Cat.IsoO (c:Cat) (x y:Int):Prop:=∃f∈c.hom x y,0≤c.inv f
theorem Cat.IsoO.symm (h:c.IsoO x y):c.IsoO y x:=by
 obtain⟨f,hf,hi⟩:=h
 obtain⟨g,hg,h1,h2⟩:=Cat.inv_ge.1 hi
 obtain⟨f0,f1,f2,f3⟩:=Cat.mem_hom.1 hf
 rw [f2,f3]at hg
 obtain⟨g0,g1,g2,g3⟩:=Cat.mem_hom.1 hg
 refine⟨g,hg,Cat.inv_ge.2 ⟨f,by rw [g2,g3];exact hf,?_,?_⟩⟩
 ·rw [h2,f3,g2]
 ·rw [h1,f2,g3]
end
structure SubA (c:Cat) (A:List Int):Prop where
 nd:A.Nodup
 len:A.length≤c.fr.length
 rng:∀f∈A,0≤f∧f<c.fr.length
 idf:∀f∈A,c.I (c.F f)∈A
 idt:∀f∈A,c.I (c.T f)∈A
 cmp:∀f∈A,∀g∈A,c.T f=c.F g→c.C f g∈A
theorem uQ {α β:Type} {l:List α} {h:α→β} {i:Nat} {d:β} {e:α} (hi:i<l.length):(l.map h).getD i d=h (l.getD i e):=by
 rw [List.getD_eq_getElem?_getD,List.getElem?_map,List.getD_eq_getElem?_getD,List.getElem?_eq_getElem hi];rfl
section
variable {c:Cat} {A:List Int}
open Classical in
def mkA (A:List Int) (m:Nat):Nat→List Bool
 |0=>List.replicate m false
 |i+1=>(mkA A m i).set (A.getD i 0).toNat true
theorem aA4 (A:List Int) (m:Nat):∀i,(mkA A m i).length=m
 |0=>List.length_replicate
 |i+1=>by rw [mkA,List.length_set,aA4 A m i]
theorem aMB {m:Nat} (hr:∀f∈A,0≤f∧f<m):∀{i:Nat},i≤A.length→∀v:Int,0≤v→v<m→((mkA A m i).getD v.toNat false=true↔v∈A.take i)
 |0,_,v,h0,h1=>by
  rw [mkA,List.getD_eq_getElem?_getD,List.getElem?_replicate]
  split<;>simp
 |i+1,hi,v,h0,h1=>by
  have hl:=aA4 A m i
  have ri:=hr _ (aX (d:=0) (show i<A.length by omega))
  have ih:=aMB hr (show i≤A.length by omega) v h0 h1
  rw [mkA,List.getD_eq_getElem?_getD]
  have et:A.take (i+1)=A.take i++[A.getD i 0]:=by
   rw [List.take_succ_eq_append_getElem (show i<A.length by omega),List.getD_eq_getElem?_getD,List.getElem?_eq_getElem (by omega)];rfl
  rw [et,List.mem_append,List.mem_singleton,←ih]
  by_cases e:v=A.getD i 0
  ·rw [e,List.getElem?_set_self (by omega)];simp
  ·rw [List.getElem?_set_ne (fun q=>e (by omega)),←List.getD_eq_getElem?_getD]
   exact⟨fun h=> .inl h,fun h=>h.elim id fun q=>absurd q e⟩
end
end Go.Cats
end
section
namespace Go.Cats
def mE (R:List (List Int)) (i j:Nat):Int:=(R.getD i []).getD j 0
def dH (R:List (List Int)) (i:Nat):Nat→List (List Int)
 |0=>[]
 |k+1=>if mE R i k=1 then dH R i k++[[(i:Int),(k:Int)]]else dH R i k
def poA (R:List (List Int)) (n:Nat):Nat→List (List Int)
 |0=>[]
 |i+1=>poA R n i++dH R i n
structure PoOK (R:List (List Int)) (n:Nat):Prop where
 n6:n≤6
 rf:∀i,i<n→mE R i i=1
 tr:∀i j k,i<n→j<n→k<n→mE R i j=1→mE R j k=1→mE R i k=1
def poU (i:Nat):List Int:=[(i:Int),(i:Int)]
def poP (r s:List Int):List Int:=[r.getD 0 0,s.getD 1 0]
def poC (R:List (List Int)) (n:Nat):Cat:=jF n (poA R n n) poU poP
def poN (R:List (List Int)) (n i k:Nat):Int:=(((poA R n i).length+(dH R i k).length:Nat):Int)
section
variable {R:List (List Int)} {n m i j k:Nat} {x:List Int}
theorem mA (h:mE R i k=1):dH R i (k+1)=dH R i k++[[(i:Int),(k:Int)]]:=by rw [dH,if_pos h]
theorem xD (h:¬mE R i k=1):dH R i (k+1)=dH R i k:=by rw [dH,if_neg h]
theorem aCa:∀k,(dH R i k).length≤k
 |0=>Nat.le_refl 0
 |k+1=>by
  have:=aCa k
  unfold dH
  split
  ·rw [List.length_append];simp;omega
  ·omega
theorem aB8:∀m,(poA R n m).length≤m*n
 |0=>by simp [poA]
 |m+1=>by
  have h1:=aB8 m
  have h2:=aCa (R:=R) (i:=m) n
  unfold poA
  rw [List.length_append,Nat.succ_mul]
  omega
theorem sW:∀k,x∈dH R i k↔∃j,j<k∧mE R i j=1∧x=[(i:Int),(j:Int)]
 |0=>by simp [dH]
 |k+1=>by
  have ih:=sW k
  by_cases h:mE R i k=1
  ·rw [mA h,List.mem_append,ih,List.mem_singleton]
   constructor
   ·rintro(⟨j,h1,h2,h3⟩|h1)
    ·exact⟨j,by omega,h2,h3⟩
    ·exact⟨k,by omega,h,h1⟩
   ·rintro⟨j,h1,h2,h3⟩
    rcases Nat.lt_or_ge j k with hj|hj
    ·exact .inl ⟨j,hj,h2,h3⟩
    ·exact .inr (by rw [h3,show j=k by omega])
  ·rw [xD h,ih]
   constructor
   ·rintro⟨j,h1,h2,h3⟩;exact⟨j,by omega,h2,h3⟩
   ·rintro⟨j,h1,h2,h3⟩
    rcases Nat.lt_or_ge j k with hj|hj
    ·exact⟨j,hj,h2,h3⟩
    ·exact absurd h2 (by rw [show j=k by omega];exact h)
theorem jQ:∀m,x∈poA R n m↔∃i j,i<m∧j<n∧mE R i j=1∧x=[(i:Int),(j:Int)]
 |0=>by simp [poA]
 |m+1=>by
  have ih:=jQ m
  rw [poA,List.mem_append,ih,sW]
  constructor
  ·rintro(⟨i,j,h1,h2⟩|⟨j,h1,h2⟩)
   ·exact⟨i,j,by omega,h2⟩
   ·exact⟨m,j,by omega,h1,h2⟩
  ·rintro⟨i,j,h1,h2,h3⟩
   rcases Nat.lt_or_ge i m with hi|hi
   ·exact .inl ⟨i,j,hi,h2,h3⟩
   ·exact .inr ⟨j,h2,by rw [←show i=m by omega];exact h3⟩
theorem aGu:∀k,(dH R i k).Nodup
 |0=>List.nodup_nil
 |k+1=>by
  have ih:=aGu k
  by_cases h:mE R i k=1
  ·rw [mA h,List.nodup_append]
   refine⟨ih,by simp,fun a ha b hb e=>?_⟩
   rw [List.mem_singleton]at hb
   subst e hb
   obtain⟨j,h1,_,h3⟩:=(sW k).1 ha
   simp at h3;omega
  ·rw [xD h];exact ih
theorem aHP:∀m,(poA R n m).Nodup
 |0=>List.nodup_nil
 |m+1=>by
  rw [poA,List.nodup_append]
  refine⟨aHP m,aGu n,fun a ha b hb e=>?_⟩
  subst e
  obtain⟨i,j,h1,_,_,h3⟩:=(jQ m).1 ha
  obtain⟨j',_,_,h4⟩:=(sW n).1 hb
  rw [h3]at h4
  simp at h4;omega
theorem aD2:∀k,j<k→mE R i j=1→∃r,dH R i k=dH R i j++[[(i:Int),(j:Int)]]++r
 |0,h,_=>absurd h (Nat.not_lt_zero j)
 |k+1,h,hj=>by
  rcases Nat.lt_or_ge j k with h1|h1
  ·obtain⟨r,e⟩:=aD2 k h1 hj
   by_cases hk:mE R i k=1
   ·exact⟨r++[[(i:Int),(k:Int)]],by rw [mA hk,e,List.append_assoc]⟩
   ·exact⟨r,by rw [xD hk,e]⟩
  ·obtain rfl:j=k:=by omega
   exact⟨[],by rw [mA hj,List.append_nil]⟩
theorem aI2:∀m,i<m→∃r,poA R n m=poA R n i++dH R i n++r
 |0,h=>absurd h (Nat.not_lt_zero i)
 |m+1,h=>by
  rcases Nat.lt_or_ge i m with h1|h1
  ·obtain⟨r,e⟩:=aI2 m h1
   exact⟨r++dH R m n,by rw [poA,e,List.append_assoc]⟩
  ·obtain rfl:i=m:=by omega
   exact⟨[],by rw [poA,List.append_nil]⟩
theorem aI3 (hi:i<n) (hj:j<n) (h:mE R i j=1):fnd (poA R n n) [(i:Int),(j:Int)]=poN R n i j:=by
 obtain⟨r,e1⟩:=aI2 n hi
 obtain⟨q,e2⟩:=aD2 n hj h
 have e:poA R n n=(poA R n i++dH R i j)++[(i:Int),(j:Int)]::(q++r):=by rw [e1,e2];simp
 have hl:(poA R n i++dH R i j).length<(poA R n n).length:=by rw [e,List.length_append];simp
 have h1:=aEE (aHP (R:=R) (n:=n) n) hl
 have h2:(poA R n n).getD (poA R n i++dH R i j).length []=[(i:Int),(j:Int)]:=by
  rw [List.getD_eq_getElem?_getD,e,List.getElem?_append_right (Nat.le_refl _),Nat.sub_self];rfl
 rw [h2]at h1
 rw [h1,List.length_append];rfl
theorem PoOK.tab (h:PoOK R n):TabOK n (poA R n n) poU poP:=by
 have h6:=h.n6
 have hl:=aB8 (R:=R) (n:=n) n
 have hnn:n*n≤6*6:=Nat.mul_le_mul h6 h6
 refine⟨by omega,by omega,aHP n,fun r hr=>?_,fun r hr=>?_,fun i hi=>⟨?_,rfl,rfl⟩,fun r hr s hs e=>?_,fun r hr=>?_,fun r hr=>?_,fun r hr s hs q hq e1 e2=>rfl⟩
 ·obtain⟨i,j,h1,h2,h3,rfl⟩:=(jQ n).1 hr
  show(0:Int)≤i∧(i:Int)<n;omega
 ·obtain⟨i,j,h1,h2,h3,rfl⟩:=(jQ n).1 hr
  show(0:Int)≤j∧(j:Int)<n;omega
 ·exact(jQ n).2 ⟨i,i,hi,hi,h.rf i hi,rfl⟩
 ·obtain⟨i,j,h1,h2,h3,rfl⟩:=(jQ n).1 hr
  obtain⟨i',k,h4,h5,h7,rfl⟩:=(jQ n).1 hs
  have e':(j:Int)=i':=e
  obtain rfl:j=i':=by omega
  exact⟨(jQ n).2 ⟨i,k,h1,h5,h.tr i j k h1 h2 h5 h3 h7,rfl⟩,rfl,rfl⟩
 ·obtain⟨i,j,h1,h2,h3,rfl⟩:=(jQ n).1 hr
  show [(((i:Int).toNat:Nat):Int),(j:Int)]=_
  rw [Int.toNat_natCast]
 ·obtain⟨i,j,h1,h2,h3,rfl⟩:=(jQ n).1 hr
  show [(i:Int),(((j:Int).toNat:Nat):Int)]=_
  rw [Int.toNat_natCast]
theorem PoOK.cat (h:PoOK R n):IsCat (poC R n):=h.tab.cat
theorem PoOK.len (h:PoOK R n):(poA R n n).length≤36:=by
 have hl:=aB8 (R:=R) (n:=n) n
 have hnn:n*n≤6*6:=Nat.mul_le_mul h.n6 h.n6
 omega
end
end Go.Cats
end
section
namespace Go.Cats
def shI (m:Nat) (h:Int):Int:=if 0≤h then h+m else h
def smC (c d:Cat):Cat:=⟨c.ob+d.ob,c.fr++d.fr.map (· +c.ob),c.to++d.to.map (· +c.ob),c.id++d.id.map (· +(c.fr.length:Int)),
 c.co.map (fun r=>r++List.replicate d.fr.length (-1))++d.co.map (fun r=>List.replicate c.fr.length (-1)++r.map (shI c.fr.length))⟩
section
variable {c d:Cat} {x y:Int}
theorem aIu {l k:List Int} (h0:0≤x) (h1:x<l.length):(l++k).getD x.toNat 0=l.getD x.toNat 0:=by
 rw [List.getD_eq_getElem?_getD,List.getElem?_append_left (by omega),←List.getD_eq_getElem?_getD]
theorem aIv {l k:List Int} {g:Int→Int} (h0:0≤y) (h1:y<k.length):(l++k.map g).getD ((l.length:Int)+y).toNat 0=g (k.getD y.toNat 0):=by
 have e:((l.length:Int)+y).toNat=l.length+y.toNat:=by omega
 rw [e,List.getD_eq_getElem?_getD,List.getElem?_append_right (by omega),Nat.add_sub_cancel_left,List.getElem?_map,List.getElem?_eq_getElem (by omega),List.getD_eq_getElem?_getD,List.getElem?_eq_getElem (by omega)]
 rfl
theorem aNg {n k:Nat} (h:k<n):(List.replicate n (-1:Int)).getD k 0= -1:=by
 rw [List.getD_eq_getElem?_getD,List.getElem?_replicate,if_pos h];rfl
theorem aCn:(smC c d).fr.length=c.fr.length+d.fr.length:=by unfold smC;rw [List.length_append,List.length_map]
theorem rO (h0:0≤x) (h1:x<c.fr.length):(smC c d).F x=c.F x:=aIu h0 h1
theorem rP (h0:0≤y) (h1:y<d.fr.length):(smC c d).F ((c.fr.length:Int)+y)=d.F y+c.ob:=aIv (g:=(· +c.ob)) h0 h1
theorem rQ (sc:Shape c) (h0:0≤x) (h1:x<c.fr.length):(smC c d).T x=c.T x:=aIu h0 (by rw [sc.tol];exact h1)
theorem rR (sc:Shape c) (sd:Shape d) (h0:0≤y) (h1:y<d.fr.length):(smC c d).T ((c.fr.length:Int)+y)=d.T y+c.ob:=by
 have:=aIv (l:=c.to) (k:=d.to) (g:=(· +c.ob)) h0 (by rw [sd.tol];exact h1)
 rw [sc.tol]at this
 exact this
theorem aJr (sc:Shape c) (h0:0≤x) (h1:x<c.ob):(smC c d).I x=c.I x:=aIu h0 (by rw [sc.idl];exact h1)
theorem aJs (sc:Shape c) (sd:Shape d) (h0:0≤y) (h1:y<d.ob):(smC c d).I (c.ob+y)=d.I y+c.fr.length:=by
 have:=aIv (l:=c.id) (k:=d.id) (g:=(· +(c.fr.length:Int))) h0 (by rw [sd.idl];exact h1)
 rw [sc.idl]at this
 exact this
theorem aNA (sc:Shape c) (h0:0≤x) (h1:x<c.fr.length):(smC c d).co.getD x.toNat []=c.co.getD x.toNat []++List.replicate d.fr.length (-1):=by
 have hl:x.toNat<c.co.length:=by rw [sc.col];omega
 unfold smC
 rw [List.getD_eq_getElem?_getD,List.getElem?_append_left (by rw [List.length_map];exact hl),List.getElem?_map,List.getElem?_eq_getElem hl,List.getD_eq_getElem?_getD,List.getElem?_eq_getElem hl];rfl
theorem aNB (sc:Shape c) (sd:Shape d) (h0:0≤y) (h1:y<d.fr.length):(smC c d).co.getD ((c.fr.length:Int)+y).toNat []=List.replicate c.fr.length (-1)++(d.co.getD y.toNat []).map (shI c.fr.length):=by
 have hl:y.toNat<d.co.length:=by rw [sd.col];omega
 have e:((c.fr.length:Int)+y).toNat=c.fr.length+y.toNat:=by omega
 unfold smC
 rw [e,List.getD_eq_getElem?_getD,List.getElem?_append_right (by rw [List.length_map,sc.col];omega),List.length_map,sc.col,Nat.add_sub_cancel_left,List.getElem?_map,List.getElem?_eq_getElem hl,List.getD_eq_getElem?_getD,List.getElem?_eq_getElem hl];rfl
theorem vA (sc:Shape c) (h0:0≤x) (h1:x<c.fr.length) (k0:0≤y) (k1:y<c.fr.length):(smC c d).C x y=c.C x y:=by
 have h:=(sc.coe x.toNat (by omega)).1
 show(((smC c d).co.getD x.toNat []).getD y.toNat 0)=_
 rw [aNA sc h0 h1]
 exact aIu k0 (by rw [h];exact k1)
theorem aRO (sc:Shape c) (h0:0≤x) (h1:x<c.fr.length) (k0:0≤y) (k1:y<d.fr.length):(smC c d).C x ((c.fr.length:Int)+y)= -1:=by
 have h:=(sc.coe x.toNat (by omega)).1
 show(((smC c d).co.getD x.toNat []).getD _ 0)=_
 have e:((c.fr.length:Int)+y).toNat=c.fr.length+y.toNat:=by omega
 rw [aNA sc h0 h1,e,List.getD_eq_getElem?_getD,List.getElem?_append_right (by omega),h,Nat.add_sub_cancel_left,←List.getD_eq_getElem?_getD,aNg (by omega)]
theorem aRP (sc:Shape c) (sd:Shape d) (h0:0≤x) (h1:x<d.fr.length) (k0:0≤y) (k1:y<c.fr.length):(smC c d).C ((c.fr.length:Int)+x) y= -1:=by
 show(((smC c d).co.getD _ []).getD y.toNat 0)=_
 rw [aNB sc sd h0 h1,List.getD_eq_getElem?_getD,List.getElem?_append_left (by rw [List.length_replicate];omega),←List.getD_eq_getElem?_getD,aNg (by omega)]
theorem aNz (sc:Shape c) (sd:Shape d) (h0:0≤x) (h1:x<d.fr.length) (k0:0≤y) (k1:y<d.fr.length):(smC c d).C ((c.fr.length:Int)+x) ((c.fr.length:Int)+y)=shI c.fr.length (d.C x y):=by
 have h:=(sd.coe x.toNat (by omega)).1
 show(((smC c d).co.getD _ []).getD _ 0)=_
 rw [aNB sc sd h0 h1]
 have:=aIv (y:=y) (l:=List.replicate c.fr.length (-1)) (k:=d.co.getD x.toNat []) (g:=shI c.fr.length) k0 (by rw [h];exact k1)
 rw [List.length_replicate]at this
 exact this
theorem fO {f:Nat} (h:f<c.fr.length+d.fr.length):(0≤(f:Int)∧(f:Int)<c.fr.length)∨∃y:Int,0≤y∧y<d.fr.length∧(f:Int)=(c.fr.length:Int)+y:=by
 rcases Nat.lt_or_ge f c.fr.length with h1|h1
 ·exact .inl ⟨by omega,by omega⟩
 ·exact .inr ⟨(f:Int)-c.fr.length,by omega,by omega,by omega⟩
theorem aEZ (hc:IsCat c) (hd:IsCat d) (h8:c.ob+d.ob≤8) (h40:c.fr.length+d.fr.length≤40):IsCat (smC c d):=by
 have sc:=hc.toShape
 have sd:=hd.toShape
 have e1:=sc.idl
 have e2:=sd.idl
 have o1:=sc.ob0
 have o2:=sd.ob0
 have cF:∀z:Int,0≤z→z<c.fr.length→0≤c.F z∧c.F z<c.ob:=fun z h0 h1=>sc.frw z.toNat (by omega)
 have cT:∀z:Int,0≤z→z<c.fr.length→0≤c.T z∧c.T z<c.ob:=fun z h0 h1=>sc.tow z.toNat (by rw [sc.tol];omega)
 have dF:∀z:Int,0≤z→z<d.fr.length→0≤d.F z∧d.F z<d.ob:=fun z h0 h1=>sd.frw z.toNat (by omega)
 have dT:∀z:Int,0≤z→z<d.fr.length→0≤d.T z∧d.T z<d.ob:=fun z h0 h1=>sd.tow z.toNat (by rw [sd.tol];omega)
 have hid:(smC c d).id.length=c.id.length+d.id.length:=by unfold smC;rw [List.length_append,List.length_map]
 have hto:(smC c d).to.length=c.fr.length+d.fr.length:=by unfold smC;rw [List.length_append,List.length_map,sc.tol,sd.tol]
 have sI:∀i:Nat,i<(smC c d).id.length→(0≤(i:Int)∧(i:Int)<c.ob)∨∃y:Int,0≤y∧y<d.ob∧(i:Int)=c.ob+y:=fun i hi=>by
  rw [hid]at hi
  rcases Nat.lt_or_ge i c.id.length with h1|h1
  ·exact .inl ⟨by omega,by omega⟩
  ·exact .inr ⟨(i:Int)-c.ob,by omega,by omega,by omega⟩
 have shp:Shape (smC c d):=by
  refine⟨by show 0≤c.ob+d.ob;omega,h8,by rw [aCn];exact h40,by rw [aCn,hto],fun f hf=>?_,fun f hf=>?_,?_,fun i hi=>?_,?_,fun i hi=>?_,fun f hf=>⟨?_,fun g hg=>?_⟩⟩
  ·rw [aCn]at hf
   show 0≤(smC c d).F (f:Int)∧(smC c d).F (f:Int)<c.ob+d.ob
   rcases fO hf with⟨h0,h1⟩|⟨y,h0,h1,e⟩
   ·rw [rO h0 h1];have:=cF _ h0 h1;omega
   ·rw [e,rP h0 h1];have:=dF _ h0 h1;omega
  ·rw [hto]at hf
   show 0≤(smC c d).T (f:Int)∧(smC c d).T (f:Int)<c.ob+d.ob
   rcases fO hf with⟨h0,h1⟩|⟨y,h0,h1,e⟩
   ·rw [rQ sc h0 h1];have:=cT _ h0 h1;omega
   ·rw [e,rR sc sd h0 h1];have:=dT _ h0 h1;omega
  ·rw [hid];show _=c.ob+d.ob;omega
  ·show 0≤(smC c d).I (i:Int)∧(smC c d).I (i:Int)<_
   rw [aCn]
   rcases sI i hi with⟨h0,h1⟩|⟨y,h0,h1,e⟩
   ·rw [aJr sc h0 h1];have:=hc.idI h0 h1;omega
   ·rw [e,aJs sc sd h0 h1];have:=hd.idI h0 h1;omega
  ·rw [aCn]
   unfold smC
   rw [List.length_append,List.length_map,List.length_map,sc.col,sd.col]
  ·show(smC c d).F ((smC c d).I (i:Int))=i∧(smC c d).T ((smC c d).I (i:Int))=i
   rcases sI i hi with⟨h0,h1⟩|⟨y,h0,h1,e⟩
   ·obtain⟨a1,a2,a3,a4⟩:=hc.idI h0 h1
    rw [aJr sc h0 h1,rO a1 a2,rQ sc a1 a2];exact⟨a3,a4⟩
   ·obtain⟨a1,a2,a3,a4⟩:=hd.idI h0 h1
    rw [e,aJs sc sd h0 h1,Int.add_comm (d.I y),rP a1 a2,rR sc sd a1 a2,a3,a4];omega
  ·rw [aCn]at hf⊢
   show((smC c d).co.getD (f:Int).toNat []).length=_
   rcases fO hf with⟨h0,h1⟩|⟨y,h0,h1,e⟩
   ·have h:=(sc.coe f (by omega)).1
    rw [aNA sc h0 h1,List.length_append,List.length_replicate,Int.toNat_natCast,h]
   ·have h:=(sd.coe y.toNat (by omega)).1
    rw [e,aNB sc sd h0 h1,List.length_append,List.length_replicate,List.length_map,h]
  ·rw [aCn]at hf hg
   show((smC c d).T (f:Int)=(smC c d).F (g:Int)∧(0≤(smC c d).C f g∧(smC c d).C f g<_)∧(smC c d).F ((smC c d).C f g)=(smC c d).F (f:Int)∧(smC c d).T ((smC c d).C f g)=(smC c d).T (g:Int))∨((smC c d).T (f:Int)≠(smC c d).F (g:Int)∧(smC c d).C f g= -1)
   rw [aCn]
   rcases fO hf with⟨h0,h1⟩|⟨y,h0,h1,e⟩
   ·rcases fO hg with⟨k0,k1⟩|⟨z,k0,k1,e'⟩
    ·rw [rQ sc h0 h1,rO k0 k1,vA sc h0 h1 k0 k1]
     by_cases h:c.T f=c.F g
     ·obtain⟨p1,p2,p3,p4⟩:=hc.compI h0 h1 k0 k1 h
      exact .inl ⟨h,⟨p1,by omega⟩,by rw [rO p1 p2,rO h0 h1,p3],by rw [rQ sc p1 p2,rQ sc k0 k1,p4]⟩
     ·rcases(sc.coe f (by omega)).2 g (by omega)with q|q
      ·exact absurd q.1 h
      ·exact .inr ⟨h,q.2⟩
    ·rw [e',rQ sc h0 h1,rP k0 k1,aRO sc h0 h1 k0 k1]
     have:=cT _ h0 h1
     have:=dF _ k0 k1
     exact .inr ⟨by omega,rfl⟩
   ·rcases fO hg with⟨k0,k1⟩|⟨z,k0,k1,e'⟩
    ·rw [e,rR sc sd h0 h1,rO k0 k1,aRP sc sd h0 h1 k0 k1]
     have:=dT _ h0 h1
     have:=cF _ k0 k1
     exact .inr ⟨by omega,rfl⟩
    ·rw [e,e',rR sc sd h0 h1,rP k0 k1,aNz sc sd h0 h1 k0 k1]
     by_cases h:d.T y=d.F z
     ·obtain⟨p1,p2,p3,p4⟩:=hd.compI h0 h1 k0 k1 h
      have es:shI c.fr.length (d.C y z)=(c.fr.length:Int)+d.C y z:=by unfold shI;rw [if_pos p1];omega
      exact .inl ⟨by omega,by rw [es];omega,by rw [es,rP p1 p2,rP h0 h1,p3],by rw [es,rR sc sd p1 p2,rR sc sd k0 k1,p4]⟩
     ·have hn:d.C y z= -1:=by
       rcases(sd.coe y.toNat (by omega)).2 z.toNat (by omega)with q|q
       ·exact absurd q.1 h
       ·have:=q.2
        rwa [Int.toNat_of_nonneg h0,Int.toNat_of_nonneg k0]at this
      exact .inr ⟨by omega,by rw [hn];rfl⟩
 have comp1:∀{y z:Int},0≤y→y<d.fr.length→0≤z→z<d.fr.length→d.T y=d.F z→(smC c d).C ((c.fr.length:Int)+y) ((c.fr.length:Int)+z)=(c.fr.length:Int)+d.C y z:=fun h0 h1 k0 k1 h=>by
  have p1:=(hd.compI h0 h1 k0 k1 h).1
  rw [aNz sc sd h0 h1 k0 k1];unfold shI;rw [if_pos p1];omega
 refine⟨shp,fun f hf=>?_,fun f hf=>?_,fun f g q hf hg hq m1 m2=>?_⟩
 ·rw [aCn]at hf
  rcases fO hf with⟨h0,h1⟩|⟨y,h0,h1,e⟩
  ·obtain⟨a1,a2,a3,a4⟩:=hc.idI (cF _ h0 h1).1 (cF _ h0 h1).2
   rw [rO h0 h1,aJr sc (cF _ h0 h1).1 (cF _ h0 h1).2,vA sc a1 a2 h0 h1,hc.unlI h0 h1]
  ·obtain⟨a1,a2,a3,a4⟩:=hd.idI (dF _ h0 h1).1 (dF _ h0 h1).2
   rw [e,rP h0 h1,Int.add_comm (d.F y),aJs sc sd (dF _ h0 h1).1 (dF _ h0 h1).2,Int.add_comm (d.I _),comp1 a1 a2 h0 h1 a4,hd.unlI h0 h1]
 ·rw [aCn]at hf
  rcases fO hf with⟨h0,h1⟩|⟨y,h0,h1,e⟩
  ·obtain⟨a1,a2,a3,a4⟩:=hc.idI (cT _ h0 h1).1 (cT _ h0 h1).2
   rw [rQ sc h0 h1,aJr sc (cT _ h0 h1).1 (cT _ h0 h1).2,vA sc h0 h1 a1 a2,hc.unrI h0 h1]
  ·obtain⟨a1,a2,a3,a4⟩:=hd.idI (dT _ h0 h1).1 (dT _ h0 h1).2
   rw [e,rR sc sd h0 h1,Int.add_comm (d.T y),aJs sc sd (dT _ h0 h1).1 (dT _ h0 h1).2,Int.add_comm (d.I _),comp1 h0 h1 a1 a2 a3.symm,hd.unrI h0 h1]
 ·rw [aCn]at hf hg hq
  rcases fO hf with⟨h0,h1⟩|⟨y,h0,h1,e⟩
  ·rcases fO hg with⟨k0,k1⟩|⟨z,k0,k1,e'⟩
   ·rcases fO hq with⟨l0,l1⟩|⟨u,l0,l1,e2⟩
    ·rw [rQ sc h0 h1,rO k0 k1]at m1
     rw [rQ sc k0 k1,rO l0 l1]at m2
     obtain⟨p1,p2,p3,p4⟩:=hc.compI h0 h1 k0 k1 m1
     obtain⟨r1,r2,r3,r4⟩:=hc.compI k0 k1 l0 l1 m2
     rw [vA sc h0 h1 k0 k1,vA sc k0 k1 l0 l1,vA sc p1 p2 l0 l1,vA sc h0 h1 r1 r2,hc.assI h0 h1 k0 k1 l0 l1 m1 m2]
    ·rw [e2,rQ sc k0 k1,rP l0 l1]at m2
     have:=cT _ k0 k1
     have:=dF _ l0 l1
     omega
   ·rw [e',rQ sc h0 h1,rP k0 k1]at m1
    have:=cT _ h0 h1
    have:=dF _ k0 k1
    omega
  ·rcases fO hg with⟨k0,k1⟩|⟨z,k0,k1,e'⟩
   ·rw [e,rR sc sd h0 h1,rO k0 k1]at m1
    have:=dT _ h0 h1
    have:=cF _ k0 k1
    omega
   ·rcases fO hq with⟨l0,l1⟩|⟨u,l0,l1,e2⟩
    ·rw [e',rR sc sd k0 k1,rO l0 l1]at m2
     have:=dT _ k0 k1
     have:=cF _ l0 l1
     omega
    ·rw [e,e',rR sc sd h0 h1,rP k0 k1]at m1
     rw [e',e2,rR sc sd k0 k1,rP l0 l1]at m2
     have n1:d.T y=d.F z:=by omega
     have n2:d.T z=d.F u:=by omega
     obtain⟨p1,p2,p3,p4⟩:=hd.compI h0 h1 k0 k1 n1
     obtain⟨r1,r2,r3,r4⟩:=hd.compI k0 k1 l0 l1 n2
     rw [e,e',e2,comp1 h0 h1 k0 k1 n1,comp1 k0 k1 l0 l1 n2,comp1 p1 p2 l0 l1 (p4.trans n2),comp1 h0 h1 r1 r2 (n1.trans r3.symm),hd.assI h0 h1 k0 k1 l0 l1 n1 n2]
end
end Go.Cats
end
section
namespace Go.Cats
instance (c:Cat) (f g:Nat):Decidable (c.Entry f g):=by unfold Cat.Entry;infer_instance
def aJG (l:List Int) (n:Int):Bool:=l.all fun x=>decide (0≤x)&&decide (x<n)
def catB (c:Cat):Bool:=
 decide (0≤c.ob)&&decide (c.ob≤8)&&decide (c.fr.length≤40)&&decide (c.to.length=c.fr.length)&&decide ((c.id.length:Int)=c.ob)&&decide (c.co.length=c.fr.length)&&
 aJG c.fr c.ob&&aJG c.to c.ob&&aJG c.id c.fr.length&&
 ((List.range c.id.length).all fun x=>decide (c.F (c.id.getD x 0)=x)&&decide (c.T (c.id.getD x 0)=x))&&
 ((List.range c.fr.length).all fun f=>decide ((c.co.getD f []).length=c.fr.length)&&(List.range c.fr.length).all fun g=>decide (c.Entry f g))&&
 ((List.range c.fr.length).all fun f=>decide (c.C (c.I (c.F f)) f=f)&&decide (c.C f (c.I (c.T f))=f))&&
 ((List.range c.fr.length).all fun f=>(List.range c.fr.length).all fun g=> !decide (c.T f=c.F g)||(List.range c.fr.length).all fun h=> !decide (c.T g=c.F h)||decide (c.C (c.C f g) h=c.C f (c.C g h)))
theorem aCZ {l:List Int} {n:Int} (h:aJG l n=true):Within l n:=fun i hi=>by
 have h1:=List.all_eq_true.1 h (l.getD i 0) (aX hi)
 simp only [Bool.and_eq_true,decide_eq_true_eq]at h1
 exact h1
theorem vZ {c:Cat} (h:catB c=true):IsCat c:=by
 unfold catB at h
 simp only [Bool.and_eq_true,decide_eq_true_eq,List.all_eq_true,List.mem_range,Bool.or_eq_true,Bool.not_eq_true',decide_eq_false_iff_not]at h
 obtain⟨⟨⟨⟨⟨⟨⟨⟨⟨⟨⟨⟨h1,h2⟩,h3⟩,h4⟩,h5⟩,h6⟩,h7⟩,h8⟩,h9⟩,h10⟩,h11⟩,h12⟩,h13⟩:=h
 refine⟨⟨h1,h2,h3,h4,aCZ h7,aCZ h8,h5,aCZ h9,h6,h10,h11⟩,fun f hf=>(h12 f hf).1,fun f hf=>(h12 f hf).2,fun f g q hf hg hq e1 e2=>?_⟩
 rcases h13 f hf g hg with k|k
 ·exact absurd e1 k
 ·rcases k q hq with k|k
  ·exact absurd e2 k
  ·exact k
def moC (t:List (List Int)):Cat:=⟨1,List.replicate t.length 0,List.replicate t.length 0,[0],t⟩
def moT:Nat→List (List Int)
 |0=>[[0]]
 |1=>[[0,1],[1,0]]
 |2=>[[0,1],[1,1]]
 |3=>[[0,1,2],[1,2,0],[2,0,1]]
 |4=>[[0,1,2],[1,1,2],[2,2,2]]
 |5=>[[0,1,2],[1,1,2],[2,1,2]]
 |6=>[[0,1,2,3],[1,0,2,3],[2,3,2,3],[3,2,2,3]]
 |_=>[[0,1,2],[1,2,2],[2,2,2]]
def opR (c:Cat) (f k:Nat):List Int:=(List.range k).map fun g:Nat=>c.C (g:Int) (f:Int)
def opC (c:Cat):Cat:=⟨c.ob,c.to,c.fr,c.id,(List.range c.fr.length).map fun f=>opR c f c.fr.length⟩
def jnF (n k:Nat):List Int:=(List.range k).map fun k=>((k/n:Nat):Int)
def jnT (o:Int) (n k:Nat):List Int:=(List.range k).map fun k=>o+((k%n:Nat):Int)
def jnE (s:Cat) (o p:Int) (fr to:List Int) (f g:Nat):Int:=
 if to.getD f 0≠fr.getD g 0 then-1 else if f<s.fr.length∧g<s.fr.length then s.C f g else(s.fr.length:Int)+fr.getD f 0*p+to.getD g 0-o
def jnW (s:Cat) (o p:Int) (fr to:List Int) (f k:Nat):List Int:=(List.range k).map (jnE s o p fr to f)
def jnC (c d:Cat):Cat:=
 let fr:=(smC c d).fr++jnF d.ob.toNat (c.ob.toNat*d.ob.toNat)
 let to:=(smC c d).to++jnT c.ob d.ob.toNat (c.ob.toNat*d.ob.toNat)
 ⟨(smC c d).ob,fr,to,(smC c d).id,(List.range fr.length).map fun f=>jnW (smC c d) c.ob d.ob fr to f fr.length⟩
def one1:Cat:=poC [[1]] 1
def splC:Cat:=⟨2,[0,1,0,0,1],[0,1,0,1,0],[0,1],[[0, -1,2,3, -1],[-1,1, -1, -1,4],[2, -1,2,3, -1],[-1,3, -1, -1,2],[4, -1,4,1, -1]]⟩
theorem lZ (P:List (List Int)→Prop) (h:∀i,i<8→P (moT i)) (k:Nat):P (moT k):=by
 rcases Nat.lt_or_ge k 8 with h1|h1
 ·exact h k h1
 ·have e:moT k=moT 7:=by
   match k,h1 with
   |k+8,_=>rfl
  rw [e];exact h 7 (by decide)
theorem aHJ (k:Nat):IsCat (moC (moT k)):=lZ (fun t=>IsCat (moC t)) (fun i hi=>vZ (by
 have:((List.range 8).all fun i=>catB (moC (moT i)))=true:=by decide+kernel
 exact List.all_eq_true.1 this i (List.mem_range.2 hi))) k
theorem aMl (k:Nat):IsCat (jnC (moC (moT k)) one1):=lZ (fun t=>IsCat (jnC (moC t) one1)) (fun i hi=>vZ (by
 have:((List.range 8).all fun i=>catB (jnC (moC (moT i)) one1))=true:=by decide+kernel
 exact List.all_eq_true.1 this i (List.mem_range.2 hi))) k
theorem aMM (k:Nat):IsCat (opC (jnC (moC (moT k)) one1)):=lZ (fun t=>IsCat (opC (jnC (moC t) one1))) (fun i hi=>vZ (by
 have:((List.range 8).all fun i=>catB (opC (jnC (moC (moT i)) one1)))=true:=by decide+kernel
 exact List.all_eq_true.1 this i (List.mem_range.2 hi))) k
theorem aPB:IsCat splC:=vZ (by decide+kernel)
end Go.Cats
end
section
namespace Go.Cats
def wS (R:List (List Int)) (k i j:Nat):List (List Int):=if mE R i k=1∧mE R k j=1 then R.set i ((R.getD i []).set j 1)else R
def wJ (R:List (List Int)) (k i:Nat):Nat→List (List Int)
 |0=>R
 |j+1=>wS (wJ R k i j) k i j
def wI (R:List (List Int)) (n k:Nat):Nat→List (List Int)
 |0=>R
 |i+1=>wJ (wI R n k i) k i n
def wK (R:List (List Int)) (n:Nat):Nat→List (List Int)
 |0=>R
 |k+1=>wI (wK R n k) n k n
def poB (R:List (List Int)) (n:Nat):Bool:=
 decide (n≤6)&&((List.range n).all fun i=>decide (mE R i i=1))&&((List.range n).all fun i=>(List.range n).all fun j=>(List.range n).all fun k=> !(decide (mE R i j=1)&&decide (mE R j k=1))||decide (mE R i k=1))
theorem yZ {R:List (List Int)} {n:Nat} (h:poB R n=true):PoOK R n:=by
 unfold poB at h
 simp only [Bool.and_eq_true,decide_eq_true_eq,List.all_eq_true,List.mem_range,Bool.or_eq_true,Bool.not_eq_true',Bool.and_eq_false_iff,decide_eq_false_iff_not]at h
 obtain⟨⟨h1,h2⟩,h3⟩:=h
 refine⟨h1,h2,fun i j k hi hj hk a b=>?_⟩
 rcases h3 i hi j hj k hk with(q|q)|q
 ·exact absurd a q
 ·exact absurd b q
 ·exact q
def aLg (n i:Nat) (r:List Int):Prop:=r.length=n∧∀j,j<n→(j<i→r.getD j 0=0)∧(j=i→r.getD j 0=1)∧(i<j→r.getD j 0=0∨r.getD j 0=1)
structure RelOk (n:Nat) (R:List (List Int)):Prop where
 len:R.length=n
 row:∀i,i<n→aLg n i (R.getD i [])
def aGI (n i:Nat):Nat→List (List Int)
 |0=>[[]]
 |k+1=>(aGI n i k).flatMap fun r=>if k<i then [r++[0]]else if k=i then [r++[1]]else [r++[0],r++[1]]
def aGC (n:Nat):Nat→List (List (List Int))
 |0=>[[]]
 |i+1=>(aGC n i).flatMap fun R=>(aGI n i n).map fun r=>R++[r]
def aEP (n:Nat) (R:List (List Int)):Option Nat→List (List Int)
 |none=>R
 |some x=>R.set (n-1) ((R.getD (n-1) []).set x 1)
theorem aJt {α:Type} {l:List α} {k:Nat} {d:α} (h:l.length=k+1):l=l.take k++[l.getD k d]:=by
 have e:=List.take_succ_eq_append_getElem (l:=l) (i:=k) (by omega)
 rw [List.take_of_length_le (by omega)]at e
 rw [List.getD_eq_getElem?_getD,List.getElem?_eq_getElem (by omega)]
 exact e
theorem aEc {n i:Nat}:∀(k:Nat) (r:List Int),r.length=k→(∀j,j<k→(j<i→r.getD j 0=0)∧(j=i→r.getD j 0=1)∧(i<j→r.getD j 0=0∨r.getD j 0=1))→r∈aGI n i k
 |0,r,h,_=>by rw [List.length_eq_zero_iff.1 h];simp [aGI]
 |k+1,r,h,hr=>by
  have e:=aJt (d:=0) h
  have hl:(r.take k).length=k:=by rw [List.length_take];omega
  have ih:=aEc (n:=n) (i:=i) k (r.take k) hl fun j hj=>by
   have:=hr j (by omega)
   have e2:(r.take k).getD j 0=r.getD j 0:=by rw [List.getD_eq_getElem?_getD,List.getElem?_take,if_pos hj,←List.getD_eq_getElem?_getD]
   rw [e2];exact this
  have hk:=hr k (by omega)
  rw [aGI,List.mem_flatMap]
  refine⟨_,ih,?_⟩
  split
  ·rename_i h1
   rw [List.mem_singleton,←hk.1 h1];exact e
  ·split
   ·rename_i h1
    rw [List.mem_singleton]
    have:=hk.2.1 h1
    rw [this]at e;exact e
   ·have:=hk.2.2 (by omega)
    rcases this with h0|h0
    ·rw [h0]at e;exact List.mem_cons.2 (.inl e)
    ·rw [h0]at e;exact List.mem_cons.2 (.inr (List.mem_singleton.2 e))
theorem aD7 {n:Nat}:∀(k:Nat) (R:List (List Int)),k≤n→R.length=k→(∀i,i<k→aLg n i (R.getD i []))→R∈aGC n k
 |0,R,_,h,_=>by rw [List.length_eq_zero_iff.1 h];simp [aGC]
 |k+1,R,hn,h,hr=>by
  have e:=aJt (d:=[]) h
  have hl:(R.take k).length=k:=by rw [List.length_take];omega
  have ih:=aD7 (n:=n) k (R.take k) (by omega) hl fun i hi=>by
   have:=hr i (by omega)
   have e2:(R.take k).getD i []=R.getD i []:=by rw [List.getD_eq_getElem?_getD,List.getElem?_take,if_pos hi,←List.getD_eq_getElem?_getD]
   rw [e2];exact this
  have hk:=hr k (by omega)
  rw [aGC,List.mem_flatMap]
  exact⟨_,ih,List.mem_map.2 ⟨_,aEc n _ hk.1 hk.2,e.symm⟩⟩
theorem aNe:((List.range 5).all fun n=>(aGC n n).all fun R=>poB (wK R n n) n&&(List.range n).all fun x=>poB (wK (aEP n R (some x)) n n) n)=true:=by decide+kernel
theorem aRB {n:Nat} {R:List (List Int)} {x:Option Nat} (hn:n<5) (h:RelOk n R) (hx:∀y,x=some y→y<n):PoOK (wK (aEP n R x) n n) n:=by
 have h1:=List.all_eq_true.1 (List.all_eq_true.1 aNe n (List.mem_range.2 hn)) R (aD7 n R (Nat.le_refl n) h.len h.row)
 simp only [Bool.and_eq_true,List.all_eq_true,List.mem_range]at h1
 cases x with
 |none=>exact yZ h1.1
 |some y=>exact yZ (h1.2 y (hx y rfl))
def qO (n:Nat):List (List Int):=List.replicate n (List.replicate n 1)
theorem aDo {n:Nat} (hn:n<5):PoOK (qO n) n:=yZ (by
 have:((List.range 5).all fun n=>poB (qO n) n)=true:=by decide+kernel
 exact List.all_eq_true.1 this n (List.mem_range.2 hn))
theorem po1:PoOK [[1]] 1:=yZ (by decide)
theorem po2:PoOK [[1,1],[0,1]] 2:=yZ (by decide)
theorem po3:PoOK [[1,1,1],[0,1,0],[0,0,1]] 3:=yZ (by decide)
end Go.Cats
end
section
namespace Go.Cats
abbrev Pth:=Int×Int×List Int
def bG:Pth:=(0,0,[])
def bfE (fr to:List Int) (p:Pth):Nat→List Pth
 |0=>[]
 |e+1=>if fr.getD e 0=p.2.1 then bfE fr to p e++[(p.1,to.getD e 0,p.2.2++[(e:Int)])]else bfE fr to p e
def bf0 (n:Nat):List Pth:=(List.range n).map fun x:Nat=>((x:Int),(x:Int),[])
def bfK (fr to:List Int):Nat→List Pth→Nat→List Pth
 |0,L,_=>L
 |q+1,L,k=>if k<L.length∧L.length≤40 then bfK fr to q (L++bfE fr to (L.getD k bG) fr.length) (k+1)else L
def aGs (a b:Pth):Bool:=if a.1≠b.1 then decide (a.1<b.1)else if a.2.1≠b.2.1 then decide (a.2.1<b.2.1)else dB a.2.2 b.2.2
def swP (L:List Pth) (k:Nat):List Pth:=(L.set (k+1) (L.getD k bG)).set k (L.getD (k+1) bG)
def dnP (L:List Pth):Nat→List Pth
 |0=>L
 |k+1=>if aGs (L.getD (k+1) bG) (L.getD k bG)then dnP (swP L k) k else L
def stP (L:List Pth):Nat→List Pth
 |0=>L
 |i+1=>dnP (stP L i) i
def jI (n:Nat) (fr to:List Int):List Pth:=let L:=bfK fr to 64 (bf0 n) 0;stP L L.length
def idP (n:Nat) (A:List Pth):Nat→List Int
 |0=>List.replicate n 0
 |i+1=>if(A.getD i bG).2.2=[]then(idP n A i).set (A.getD i bG).1.toNat (i:Int)else idP n A i
def wW (A:List Pth) (f:Int) (b:List Int):Nat→Int
 |0=> -1
 |k+1=>if(A.getD k bG).1=f∧(A.getD k bG).2.2=b then(k:Int)else wW A f b k
def coP (A:List Pth) (i j:Nat):Int:=if(A.getD i bG).2.1=(A.getD j bG).1 then wW A (A.getD i bG).1 ((A.getD i bG).2.2++(A.getD j bG).2.2) A.length else-1
def cwP (A:List Pth) (i k:Nat):List Int:=(List.range k).map (coP A i)
def ptC (n:Nat) (A:List Pth):Cat:=⟨n,A.map (·.1),A.map (·.2.1),idP n A A.length,(List.range A.length).map fun i=>cwP A i A.length⟩
structure GrOk (n:Nat) (fr to:List Int):Prop where
 n2:n=2∨n=3
 len:fr.length≤3
 tol:to.length=fr.length
 edge:∀e,e<fr.length→0≤fr.getD e 0∧fr.getD e 0<to.getD e 0∧to.getD e 0<n
def egs (n:Nat):List (Int×Int):=if n=2 then [(0,1)]else [(0,1),(0,2),(1,2)]
def grs (n:Nat):Nat→List (List Int×List Int)
 |0=>[([],[])]
 |k+1=>(grs n k).flatMap fun g=>(egs n).map fun e=>(g.1++[e.1],g.2++[e.2])
theorem aGe {l:List Int} {k:Nat} (h:l.length=k+1):l=l.take k++[l.getD k 0]:=by
 have e:=List.take_succ_eq_append_getElem (l:=l) (i:=k) (by omega)
 rw [List.take_of_length_le (by omega)]at e
 rw [List.getD_eq_getElem?_getD,List.getElem?_eq_getElem (by omega)]
 exact e
theorem take_at {l:List Int} {k e:Nat} (h:e<k):(l.take k).getD e 0=l.getD e 0:=by
 rw [List.getD_eq_getElem?_getD,List.getElem?_take,if_pos h,←List.getD_eq_getElem?_getD]
theorem aAZ {n:Nat} (hn:n=2∨n=3):∀(k:Nat) (fr to:List Int),fr.length=k→to.length=k→(∀e,e<k→0≤fr.getD e 0∧fr.getD e 0<to.getD e 0∧to.getD e 0<n)→(fr,to)∈grs n k
 |0,fr,to,h1,h2,_=>by rw [List.length_eq_zero_iff.1 h1,List.length_eq_zero_iff.1 h2];simp [grs]
 |k+1,fr,to,h1,h2,h=>by
  have e1:=aGe h1
  have e2:=aGe h2
  have ih:=aAZ hn k (fr.take k) (to.take k) (by rw [List.length_take];omega) (by rw [List.length_take];omega) fun e he=>by
   rw [take_at he,take_at he];exact h e (by omega)
  have hk:=h k (by omega)
  rw [grs,List.mem_flatMap]
  refine⟨_,ih,List.mem_map.2 ⟨(fr.getD k 0,to.getD k 0),?_,by rw [←e1,←e2]⟩⟩
  generalize fr.getD k 0=a at hk
  generalize to.getD k 0=b at hk
  unfold egs
  rcases hn with rfl|rfl
  ·obtain rfl:a=0:=by omega
   obtain rfl:b=1:=by omega
   simp
  ·rw [if_neg (by decide)]
   have ha:a=0∨a=1:=by omega
   rcases ha with rfl|rfl
   ·have hb:b=1∨b=2:=by omega
    rcases hb with rfl|rfl<;>simp
   ·obtain rfl:b=2:=by omega
    simp
def ptB (n:Nat) (fr to:List Int):Bool:=
 let L:=bfK fr to 64 (bf0 n) 0
 decide (L.length≤40)&&catB (ptC n (jI n fr to))
theorem aOJ:((List.range 4).all fun k=>(grs 2 k).all fun g=>ptB 2 g.1 g.2)=true:=by decide+kernel
theorem aL1:((List.range 4).all fun k=>(grs 3 k).all fun g=>ptB 3 g.1 g.2)=true:=by decide+kernel
theorem GrOk.b {n:Nat} {fr to:List Int} (h:GrOk n fr to):ptB n fr to=true:=by
 have hm:=aAZ h.n2 fr.length fr to rfl h.tol h.edge
 have hl:=h.len
 rcases h.n2 with rfl|rfl
 ·exact List.all_eq_true.1 (List.all_eq_true.1 aOJ fr.length (List.mem_range.2 (by omega))) _ hm
 ·exact List.all_eq_true.1 (List.all_eq_true.1 aL1 fr.length (List.mem_range.2 (by omega))) _ hm
theorem GrOk.cat {n:Nat} {fr to:List Int} (h:GrOk n fr to):IsCat (ptC n (jI n fr to)):=by
 have:=h.b
 unfold ptB at this
 simp only [Bool.and_eq_true]at this
 exact vZ this.2
theorem GrOk.few {n:Nat} {fr to:List Int} (h:GrOk n fr to):(bfK fr to 64 (bf0 n) 0).length≤40:=by
 have:=h.b
 unfold ptB at this
 simp only [Bool.and_eq_true,decide_eq_true_eq]at this
 exact this.1
end Go.Cats
end
section
namespace Go.Cats
def pq (n:Nat) (x y:List Int) (w:Int) (k:Nat):List Int:=(List.range k).map fun k=>x.getD (k/n) 0*w+y.getD (k%n) 0
section
variable {n k i j:Nat} {x y:List Int} {w:Int}
theorem aO7 (n x y w):pq n x y w 0=[]:=rfl
theorem uU:(pq n x y w k).length=k:=by unfold pq;rw [List.length_map,List.length_range]
theorem xA (hj:j<n):(i*n+j)/n=i:=by
 have h0:0<n:=by omega
 rw [Nat.add_comm,Nat.add_mul_div_right _ _ h0,Nat.div_eq_of_lt hj,Nat.zero_add]
theorem xB (hj:j<n):(i*n+j)%n=j:=by
 rw [Nat.add_comm,Nat.add_mul_mod_self_right,Nat.mod_eq_of_lt hj]
theorem aA8 {m:Nat} (hi:i<m) (hj:j<n):i*n+j<m*n:=by
 have:(i+1)*n≤m*n:=Nat.mul_le_mul_right n hi
 rw [Nat.succ_mul]at this
 omega
theorem aEN (hj:j<n):pq n x y w (i*n+(j+1))=pq n x y w (i*n+j)++[x.getD i 0*w+y.getD j 0]:=by
 rw [←Nat.add_assoc]
 unfold pq
 rw [List.range_succ,List.map_append,List.map_singleton,xA hj,xB hj]
theorem aUu {m:Nat} (h:k<m):(pq n x y w m).getD k 0=x.getD (k/n) 0*w+y.getD (k%n) 0:=by
 unfold pq;rw [List.getD_eq_getElem?_getD,List.getElem?_map,List.getElem?_range h];rfl
theorem aEM {m:Nat} (hi:i<m) (hj:j<n):(pq n x y w (m*n)).getD (i*n+j) 0=x.getD i 0*w+y.getD j 0:=by
 rw [aUu (aA8 hi hj),xA hj,xB hj]
theorem aBJ {m:Nat} (h:k<m*n):k/n<m∧k%n<n:=by
 have h0:0<n:=by
  rcases Nat.eq_zero_or_pos n with e|e
  ·subst e;omega
  ·exact e
 exact⟨Nat.div_lt_of_lt_mul (by rw [Nat.mul_comm];exact h),Nat.mod_lt _ h0⟩
end
def prE (c d:Cat) (k l:Nat):Int:=
 if 0≤c.C (k/d.fr.length:Nat) (l/d.fr.length:Nat)∧0≤d.C (k%d.fr.length:Nat) (l%d.fr.length:Nat)then
  c.C (k/d.fr.length:Nat) (l/d.fr.length:Nat)*d.fr.length+d.C (k%d.fr.length:Nat) (l%d.fr.length:Nat)else-1
def prW (c d:Cat) (k l:Nat):List Int:=(List.range l).map (prE c d k)
def prT (c d:Cat) (k:Nat):List (List Int):=(List.range k).map fun k=>prW c d k (c.fr.length*d.fr.length)
def prC (c d:Cat):Cat:=⟨c.ob*d.ob,pq d.fr.length c.fr d.fr d.ob (c.fr.length*d.fr.length),pq d.fr.length c.to d.to d.ob (c.fr.length*d.fr.length),pq d.id.length c.id d.id d.fr.length (c.id.length*d.id.length),prT c d (c.fr.length*d.fr.length)⟩
section
variable {c d:Cat} {i j k l a b:Nat}
theorem aMZ (c d k):prW c d k 0=[]:=rfl
theorem aMX (c d):prT c d 0=[]:=rfl
theorem aI7:(prW c d k l).length=l:=by unfold prW;rw [List.length_map,List.length_range]
theorem aI6:(prT c d k).length=k:=by unfold prT;rw [List.length_map,List.length_range]
theorem aGx (hj:j<d.fr.length) (hb:b<d.fr.length):prE c d (i*d.fr.length+j) (a*d.fr.length+b)=if 0≤c.C i a∧0≤d.C j b then c.C i a*d.fr.length+d.C j b else-1:=by
 unfold prE;rw [xA hj,xB hj,xA hb,xB hb]
theorem aMY (hj:j<d.fr.length) (hb:b<d.fr.length):prW c d (i*d.fr.length+j) (a*d.fr.length+(b+1))=prW c d (i*d.fr.length+j) (a*d.fr.length+b)++[if 0≤c.C i a∧0≤d.C j b then c.C i a*d.fr.length+d.C j b else-1]:=by
 rw [←Nat.add_assoc,←aGx hj hb]
 unfold prW
 rw [List.range_succ,List.map_append,List.map_singleton]
theorem aMW:prT c d (i*d.fr.length+(j+1))=prT c d (i*d.fr.length+j)++[prW c d (i*d.fr.length+j) (c.fr.length*d.fr.length)]:=by
 rw [←Nat.add_assoc];unfold prT;rw [List.range_succ,List.map_append,List.map_singleton]
theorem aR1 {x x' n y y':Int} (h0:0≤y) (h1:y<n) (h2:0≤y') (h3:y'<n):x*n+y=x'*n+y'↔x=x'∧y=y':=by
 constructor
 ·intro h
  have hx:x=x':=by
   have e1:(x*n+y)/n=x:=by rw [Int.add_comm,Int.add_mul_ediv_right _ _ (by omega),Int.ediv_eq_zero_of_lt h0 h1];omega
   have e2:(x'*n+y')/n=x':=by rw [Int.add_comm,Int.add_mul_ediv_right _ _ (by omega),Int.ediv_eq_zero_of_lt h2 h3];omega
   rw [←e1,←e2,h]
  subst hx
  exact⟨rfl,by omega⟩
 ·rintro⟨rfl,rfl⟩;rfl
end
section
variable {c d:Cat} {f:Fun} {i:Int} {k j a:Nat}
end
abbrev go2 (d:Cat) (f:Fun) (x y:Int):Int:=f.obs.getD (x*d.ob+y).toNat 0
abbrev ga2 (d:Cat) (f:Fun) (x y:Int):Int:=f.ars.getD (x*d.fr.length+y).toNat 0
structure TwoF (c d:Cat) (f:Fun):Prop where
 sc:IsCat c
 sd:IsCat d
 tg:IsCat f.tgt
 obl:f.obs.length=c.ob.toNat*d.ob.toNat
 arl:f.ars.length=c.fr.length*d.fr.length
 obw:Within f.obs f.tgt.ob
 arw:Within f.ars f.tgt.fr.length
 ends:∀i j:Nat,i<c.fr.length→j<d.fr.length→f.tgt.F (ga2 d f i j)=go2 d f (c.fr.getD i 0) (d.fr.getD j 0)∧f.tgt.T (ga2 d f i j)=go2 d f (c.to.getD i 0) (d.to.getD j 0)
 unit:∀p q:Nat,p<c.id.length→q<d.id.length→ga2 d f (c.id.getD p 0) (d.id.getD q 0)=f.tgt.I (go2 d f p q)
 comp:∀i j a b:Nat,i<c.fr.length→j<d.fr.length→a<c.fr.length→b<d.fr.length→c.to.getD i 0=c.fr.getD a 0→d.to.getD j 0=d.fr.getD b 0→ga2 d f (c.C i a) (d.C j b)=f.tgt.C (ga2 d f i j) (ga2 d f a b)
theorem aMd {i j n:Nat}:((i:Int)*n+j).toNat=i*n+j:=by
 have:(i:Int)*n+j=((i*n+j:Nat):Int):=by push_cast;rfl
 rw [this,Int.toNat_natCast]
section
variable {c d:Cat} {f:Fun} {i a:Nat}
theorem TwoF.ow (h:TwoF c d f) {x y:Int} (h0:0≤x) (h1:x<c.ob) (h2:0≤y) (h3:y<d.ob):0≤go2 d f x y∧go2 d f x y<f.tgt.ob:=by
 refine h.obw _ ?_
 rw [h.obl]
 obtain⟨p,rfl⟩:=Int.eq_ofNat_of_zero_le h0
 obtain⟨q,rfl⟩:=Int.eq_ofNat_of_zero_le h2
 have e:d.ob=(d.ob.toNat:Int):=(Int.toNat_of_nonneg h.sd.toShape.ob0).symm
 rw [e,aMd]
 exact aA8 (by omega) (by omega)
end
end Go.Cats
end
section
namespace Go.Cats
theorem aFo {a b A B:Int} (h0:0≤a) (h1:a<A) (h2:0≤b) (h3:b<B):0≤a*B+b∧a*B+b<A*B:=by
 have k1:(a+1)*B≤A*B:=Int.mul_le_mul_of_nonneg_right (by omega) (by omega)
 have k2:0≤a*B:=Int.mul_nonneg h0 (by omega)
 rw [Int.add_mul,Int.one_mul]at k1
 exact⟨by omega,by omega⟩
theorem mZ {x y:Int} {m:Nat} (h0:0≤x) (h2:0≤y):(x*m+y).toNat=x.toNat*m+y.toNat:=by
 obtain⟨a,rfl⟩:=Int.eq_ofNat_of_zero_le h0
 obtain⟨b,rfl⟩:=Int.eq_ofNat_of_zero_le h2
 rw [←Int.natCast_mul,←Int.natCast_add,Int.toNat_natCast,Int.toNat_natCast,Int.toNat_natCast]
section
variable {c d:Cat} {x y x' y':Int} {f g:Nat}
theorem aCc:(prC c d).fr.length=c.fr.length*d.fr.length:=uU
theorem aQg:(prC c d).to.length=c.fr.length*d.fr.length:=uU
theorem aM0:(prC c d).id.length=c.id.length*d.id.length:=uU
theorem aKz (h0:0≤x) (h1:x<c.fr.length) (h2:0≤y) (h3:y<d.fr.length):(prC c d).F (x*d.fr.length+y)=c.F x*d.ob+d.F y:=by
 unfold Cat.F
 rw [mZ h0 h2]
 exact aEM (by omega) (by omega)
theorem aKA (h0:0≤x) (h1:x<c.fr.length) (h2:0≤y) (h3:y<d.fr.length):(prC c d).T (x*d.fr.length+y)=c.T x*d.ob+d.T y:=by
 unfold Cat.T
 rw [mZ h0 h2]
 exact aEM (by omega) (by omega)
theorem aO9 (sc:Shape c) (sd:Shape d) (h0:0≤x) (h1:x<c.ob) (h2:0≤y) (h3:y<d.ob):(prC c d).I (x*d.ob+y)=c.I x*d.fr.length+d.I y:=by
 have e1:=sc.idl
 have e2:=sd.idl
 unfold Cat.I
 rw [←e2,mZ h0 h2]
 exact aEM (by omega) (by omega)
theorem aHR (sc:Shape c) (sd:Shape d) (h0:0≤x) (h1:x<c.fr.length) (h2:0≤y) (h3:y<d.fr.length) (k0:0≤x') (k1:x'<c.fr.length) (k2:0≤y') (k3:y'<d.fr.length):
  (prC c d).C (x*d.fr.length+y) (x'*d.fr.length+y')=if c.T x=c.F x'∧d.T y=d.F y' then c.C x x'*d.fr.length+d.C y y' else-1:=by
 have b1:x.toNat<c.fr.length:=by omega
 have b2:y.toNat<d.fr.length:=by omega
 have b3:x'.toNat<c.fr.length:=by omega
 have b4:y'.toNat<d.fr.length:=by omega
 have hk:=aA8 b1 b2
 have hl:=aA8 b3 b4
 have n1:=sc.neg b1 b3
 have n2:=sd.neg b2 b4
 rw [Int.toNat_of_nonneg h0,Int.toNat_of_nonneg k0]at n1
 rw [Int.toNat_of_nonneg h2,Int.toNat_of_nonneg k2]at n2
 have e:(prC c d).C (x*d.fr.length+y) (x'*d.fr.length+y')=prE c d (x.toNat*d.fr.length+y.toNat) (x'.toNat*d.fr.length+y'.toNat):=by
  show((prT c d (c.fr.length*d.fr.length)).getD (x*d.fr.length+y).toNat []).getD (x'*d.fr.length+y').toNat 0=_
  rw [mZ h0 h2,mZ k0 k2]
  unfold prT
  rw [List.getD_eq_getElem?_getD (l:=List.map _ _) (i:=x.toNat*d.fr.length+y.toNat),List.getElem?_map,List.getElem?_range hk]
  show(prW c d _ _).getD _ 0=_
  unfold prW
  rw [List.getD_eq_getElem?_getD,List.getElem?_map,List.getElem?_range hl];rfl
 rw [e,aGx b2 b4,Int.toNat_of_nonneg h0,Int.toNat_of_nonneg h2,Int.toNat_of_nonneg k0,Int.toNat_of_nonneg k2]
 by_cases h:c.T x=c.F x'∧d.T y=d.F y'
 ·rw [if_pos h,if_pos]
  exact⟨Int.not_lt.1 fun q=>(n1.1 q) h.1,Int.not_lt.1 fun q=>(n2.1 q) h.2⟩
 ·rw [if_neg h,if_neg]
  rintro⟨q1,q2⟩
  refine h ⟨Classical.byContradiction fun q=>?_,Classical.byContradiction fun q=>?_⟩
  ·have:=n1.2 q;omega
  ·have:=n2.2 q;omega
theorem jR (h:f<c.fr.length*d.fr.length):∃x y:Int,0≤x∧x<c.fr.length∧0≤y∧y<d.fr.length∧(f:Int)=x*d.fr.length+y:=by
 obtain⟨h1,h2⟩:=aBJ h
 refine⟨((f/d.fr.length:Nat):Int),((f%d.fr.length:Nat):Int),Int.natCast_nonneg _,by omega,Int.natCast_nonneg _,by omega,?_⟩
 rw [←Int.natCast_mul,←Int.natCast_add,Nat.mul_comm,Nat.div_add_mod]
theorem aO8 (hc:IsCat c) (hd:IsCat d) (h8:c.ob*d.ob≤8) (h40:c.fr.length*d.fr.length≤40):IsCat (prC c d):=by
 have sc:=hc.toShape
 have sd:=hd.toShape
 have e1:=sc.idl
 have e2:=sd.idl
 have cF:∀z:Int,0≤z→z<c.fr.length→0≤c.F z∧c.F z<c.ob:=fun z h0 h1=>sc.frw z.toNat (by omega)
 have cT:∀z:Int,0≤z→z<c.fr.length→0≤c.T z∧c.T z<c.ob:=fun z h0 h1=>sc.tow z.toNat (by rw [sc.tol];omega)
 have dF:∀z:Int,0≤z→z<d.fr.length→0≤d.F z∧d.F z<d.ob:=fun z h0 h1=>sd.frw z.toNat (by omega)
 have dT:∀z:Int,0≤z→z<d.fr.length→0≤d.T z∧d.T z<d.ob:=fun z h0 h1=>sd.tow z.toNat (by rw [sd.tol];omega)
 have bigI:∀f:Nat,f<(prC c d).id.length→∃x y:Int,0≤x∧x<c.ob∧0≤y∧y<d.ob∧(f:Int)=x*d.ob+y:=fun f hf=>by
  rw [aM0]at hf
  obtain⟨h1,h2⟩:=aBJ hf
  refine⟨((f/d.id.length:Nat):Int),((f%d.id.length:Nat):Int),Int.natCast_nonneg _,by omega,Int.natCast_nonneg _,by omega,?_⟩
  rw [←e2,←Int.natCast_mul,←Int.natCast_add,Nat.mul_comm,Nat.div_add_mod]
 have meet:∀{x y x' y':Int},0≤x→x<c.fr.length→0≤y→y<d.fr.length→0≤x'→x'<c.fr.length→0≤y'→y'<d.fr.length→((prC c d).T (x*d.fr.length+y)=(prC c d).F (x'*d.fr.length+y')↔c.T x=c.F x'∧d.T y=d.F y'):=fun h0 h1 h2 h3 k0 k1 k2 k3=>by
  rw [aKA h0 h1 h2 h3,aKz k0 k1 k2 k3]
  exact aR1 (dT _ h2 h3).1 (dT _ h2 h3).2 (dF _ k2 k3).1 (dF _ k2 k3).2
 have shp:Shape (prC c d):=by
  refine⟨Int.mul_nonneg sc.ob0 sd.ob0,h8,by rw [aCc];exact h40,by rw [aCc,aQg],fun f hf=>?_,fun f hf=>?_,?_,fun i hi=>?_,?_,fun i hi=>?_,fun f hf=>⟨?_,fun g hg=>?_⟩⟩
  ·rw [aCc]at hf
   obtain⟨x,y,h0,h1,h2,h3,e⟩:=jR hf
   have:=aKz h0 h1 h2 h3
   rw [←e]at this
   show 0≤(prC c d).F (f:Int)∧(prC c d).F (f:Int)<c.ob*d.ob
   rw [this]
   exact aFo (cF x h0 h1).1 (cF x h0 h1).2 (dF y h2 h3).1 (dF y h2 h3).2
  ·rw [aQg]at hf
   obtain⟨x,y,h0,h1,h2,h3,e⟩:=jR hf
   have:=aKA h0 h1 h2 h3
   rw [←e]at this
   show 0≤(prC c d).T (f:Int)∧(prC c d).T (f:Int)<c.ob*d.ob
   rw [this]
   exact aFo (cT x h0 h1).1 (cT x h0 h1).2 (dT y h2 h3).1 (dT y h2 h3).2
  ·rw [aM0,Int.natCast_mul,e1,e2];rfl
  ·obtain⟨x,y,h0,h1,h2,h3,e⟩:=bigI i hi
   have:=aO9 sc sd h0 h1 h2 h3
   rw [←e]at this
   show 0≤(prC c d).I (i:Int)∧(prC c d).I (i:Int)<_
   rw [this,aCc,Int.natCast_mul]
   obtain⟨a1,a2,_⟩:=hc.idI h0 h1
   obtain⟨b1,b2,_⟩:=hd.idI h2 h3
   exact aFo a1 a2 b1 b2
  ·show(prT c d _).length=_
   rw [aI6,aCc]
  ·obtain⟨x,y,h0,h1,h2,h3,e⟩:=bigI i hi
   have:=aO9 sc sd h0 h1 h2 h3
   rw [←e]at this
   obtain⟨a1,a2,a3,a4⟩:=hc.idI h0 h1
   obtain⟨b1,b2,b3,b4⟩:=hd.idI h2 h3
   show(prC c d).F ((prC c d).I (i:Int))=i∧(prC c d).T ((prC c d).I (i:Int))=i
   rw [this,aKz a1 a2 b1 b2,aKA a1 a2 b1 b2,a3,a4,b3,b4,e]
   exact⟨rfl,rfl⟩
  ·rw [aCc]at hf⊢
   show((prT c d _).getD f []).length=_
   unfold prT
   rw [List.getD_eq_getElem?_getD,List.getElem?_map,List.getElem?_range hf]
   exact aI7
  ·rw [aCc]at hf hg
   obtain⟨x,y,h0,h1,h2,h3,ef⟩:=jR hf
   obtain⟨x',y',k0,k1,k2,k3,eg⟩:=jR hg
   have hC:=aHR sc sd h0 h1 h2 h3 k0 k1 k2 k3
   have hM:=meet h0 h1 h2 h3 k0 k1 k2 k3
   rw [←ef,←eg]at hC hM
   show((prC c d).T (f:Int)=(prC c d).F (g:Int)∧_∧(prC c d).F _=(prC c d).F (f:Int)∧(prC c d).T _=(prC c d).T (g:Int))∨((prC c d).T (f:Int)≠(prC c d).F (g:Int)∧_)
   by_cases h:c.T x=c.F x'∧d.T y=d.F y'
   ·rw [if_pos h]at hC
    obtain⟨p1,p2,p3,p4⟩:=hc.compI h0 h1 k0 k1 h.1
    obtain⟨q1,q2,q3,q4⟩:=hd.compI h2 h3 k2 k3 h.2
    refine .inl ⟨hM.2 h,?_,?_,?_⟩
    ·rw [hC,aCc,Int.natCast_mul];exact aFo p1 p2 q1 q2
    ·rw [hC,aKz p1 p2 q1 q2,p3,q3,ef,aKz h0 h1 h2 h3]
    ·rw [hC,aKA p1 p2 q1 q2,p4,q4,eg,aKA k0 k1 k2 k3]
   ·rw [if_neg h]at hC
    exact .inr ⟨fun q=>h (hM.1 q),hC⟩
 refine⟨shp,fun f hf=>?_,fun f hf=>?_,fun f g q hf hg hq m1 m2=>?_⟩
 ·rw [aCc]at hf
  obtain⟨x,y,h0,h1,h2,h3,e⟩:=jR hf
  obtain⟨a1,a2,a3,a4⟩:=hc.idI (cF x h0 h1).1 (cF x h0 h1).2
  obtain⟨b1,b2,b3,b4⟩:=hd.idI (dF y h2 h3).1 (dF y h2 h3).2
  rw [e,aKz h0 h1 h2 h3,aO9 sc sd (cF x h0 h1).1 (cF x h0 h1).2 (dF y h2 h3).1 (dF y h2 h3).2,aHR sc sd a1 a2 b1 b2 h0 h1 h2 h3,if_pos ⟨a4,b4⟩,hc.unlI h0 h1,hd.unlI h2 h3]
 ·rw [aCc]at hf
  obtain⟨x,y,h0,h1,h2,h3,e⟩:=jR hf
  obtain⟨a1,a2,a3,a4⟩:=hc.idI (cT x h0 h1).1 (cT x h0 h1).2
  obtain⟨b1,b2,b3,b4⟩:=hd.idI (dT y h2 h3).1 (dT y h2 h3).2
  rw [e,aKA h0 h1 h2 h3,aO9 sc sd (cT x h0 h1).1 (cT x h0 h1).2 (dT y h2 h3).1 (dT y h2 h3).2,aHR sc sd h0 h1 h2 h3 a1 a2 b1 b2,if_pos ⟨a3.symm,b3.symm⟩,hc.unrI h0 h1,hd.unrI h2 h3]
 ·rw [aCc]at hf hg hq
  obtain⟨x,y,h0,h1,h2,h3,ef⟩:=jR hf
  obtain⟨x',y',k0,k1,k2,k3,eg⟩:=jR hg
  obtain⟨x2,y2,l0,l1,l2,l3,eq⟩:=jR hq
  rw [ef,eg]at m1
  rw [eg,eq]at m2
  have M1:=(meet h0 h1 h2 h3 k0 k1 k2 k3).1 m1
  have M2:=(meet k0 k1 k2 k3 l0 l1 l2 l3).1 m2
  obtain⟨p1,p2,p3,p4⟩:=hc.compI h0 h1 k0 k1 M1.1
  obtain⟨q1,q2,q3,q4⟩:=hd.compI h2 h3 k2 k3 M1.2
  obtain⟨r1,r2,r3,r4⟩:=hc.compI k0 k1 l0 l1 M2.1
  obtain⟨s1,s2,s3,s4⟩:=hd.compI k2 k3 l2 l3 M2.2
  rw [ef,eg,eq,aHR sc sd h0 h1 h2 h3 k0 k1 k2 k3,if_pos M1,aHR sc sd k0 k1 k2 k3 l0 l1 l2 l3,if_pos M2,aHR sc sd p1 p2 q1 q2 l0 l1 l2 l3,if_pos ⟨p4.trans M2.1,q4.trans M2.2⟩,
   aHR sc sd h0 h1 h2 h3 r1 r2 s1 s2,if_pos ⟨M1.1.trans r3.symm,M1.2.trans s3.symm⟩,hc.assI h0 h1 k0 k1 l0 l1 M1.1 M2.1,hd.assI h2 h3 k2 k3 l2 l3 M1.2 M2.2]
end
end Go.Cats
end
section
namespace Go.Cats
section
variable {c:Cat} {x y z:Int} {a e:Nat} {h k:Int}
theorem Cat.place (hk:k∈c.hom x y):∃e:Nat,e<(c.hom x y).length∧(c.hom x y).getD e 0=k∧idxOf (c.hom x y) k=e:=by
 obtain⟨h1,h2,h3⟩:=yS hk
 exact⟨(idxOf (c.hom x y) k).toNat,by omega,h3,by omega⟩
theorem Cat.at_place (he:e<(c.hom x y).length):idxOf (c.hom x y) ((c.hom x y).getD e 0)=e:=aL9 (Cat.hom_nodup c x y) he
theorem Cat.at_mem (he:e<(c.hom x y).length):(c.hom x y).getD e 0∈c.hom x y:=by
 rw [List.getD_eq_getElem?_getD,List.getElem?_eq_getElem he];exact List.getElem_mem he
theorem IsCat.comp_hom (s:IsCat c) (hh:h∈c.hom x y) (hk:k∈c.hom y z):c.C h k∈c.hom x z:=by
 obtain⟨a0,a1,a2,a3⟩:=Cat.mem_hom.1 hh
 obtain⟨b0,b1,b2,b3⟩:=Cat.mem_hom.1 hk
 obtain⟨c0,c1,c2,c3⟩:=s.toShape.compI a0 a1 b0 b1 (by rw [a3,b2])
 exact Cat.mem_hom.2 ⟨c0,c1,by rw [c2,a2],by rw [c3,b3]⟩
theorem IsCat.assH (s:IsCat c) {f g q:Int} {w:Int} (hf:f∈c.hom x y) (hg:g∈c.hom y z) (hq:q∈c.hom z w):c.C (c.C f g) q=c.C f (c.C g q):=by
 obtain⟨a0,a1,a2,a3⟩:=Cat.mem_hom.1 hf
 obtain⟨b0,b1,b2,b3⟩:=Cat.mem_hom.1 hg
 obtain⟨d0,d1,d2,d3⟩:=Cat.mem_hom.1 hq
 have:=s.ass f.toNat g.toNat q.toNat (by omega) (by omega) (by omega) (by rw [Int.toNat_of_nonneg a0,Int.toNat_of_nonneg b0,a3,b2]) (by rw [Int.toNat_of_nonneg b0,Int.toNat_of_nonneg d0,b3,d2])
 rw [Int.toNat_of_nonneg a0,Int.toNat_of_nonneg b0,Int.toNat_of_nonneg d0]at this
 exact this
theorem IsCat.arr_hom (s:IsCat c) (ha:a<c.fr.length):(a:Int)∈c.hom (c.fr.getD a 0) (c.to.getD a 0):=
 Cat.mem_hom.2 ⟨by omega,by omega,by simp [Cat.F],by simp [Cat.T]⟩
theorem IsCat.id_hom' (s:IsCat c) (h0:0≤x) (h1:x<c.ob):c.I x∈c.hom x x:=by
 obtain⟨a,b,d,e⟩:=s.toShape.unitI h0 h1
 exact Cat.mem_hom.2 ⟨a,b,d,e⟩
theorem aER:((c.rep x).sizes.length)=c.ob.toNat:=by simp [Cat.rep]
theorem aCf {y:Nat} (hy:y<c.ob.toNat):(c.rep x).sizes.getD y 0=((c.hom x y).length:Int):=by
 simp only [Cat.rep,List.getD_eq_getElem?_getD,List.getElem?_map,List.getElem?_range hy,Option.map_some,Option.getD_some]
theorem aJd:(c.rep x).acts.length=c.fr.length:=by simp [Cat.rep]
theorem pN (ha:a<c.fr.length):(c.rep x).acts.getD a []=c.repAct x a:=by simp [Cat.rep,List.getD_eq_getElem?_getD,ha]
theorem mR:(c.repAct x a).length=(c.hom x (c.fr.getD a 0)).length:=by unfold Cat.repAct;rw [List.length_map]
theorem kK (he:e<(c.hom x (c.fr.getD a 0)).length):(c.repAct x a).getD e 0=idxOf (c.hom x (c.to.getD a 0)) (c.C ((c.hom x (c.fr.getD a 0)).getD e 0) a):=by
 unfold Cat.repAct
 rw [List.getD_eq_getElem?_getD,List.getElem?_map,List.getElem?_eq_getElem he]
 show idxOf _ ((c.co.getD _ []).getD a 0)=_
 rw [List.getD_eq_getElem?_getD (l:=c.hom x (c.fr.getD a 0)),List.getElem?_eq_getElem he]
 show _=idxOf _ ((c.co.getD _ []).getD (a:Int).toNat 0)
 rw [Int.toNat_natCast];rfl
theorem aD9 (s:IsCat c) (hx:0≤x) (hx1:x<c.ob) (hs:c.small x):SFShape (c.rep x):=by
 have o0:=s.toShape.ob0
 refine⟨s,?_,fun y hy=>?_,aJd,fun a ha=>?_⟩
 ·show((c.rep x).sizes.length:Int)=c.ob;rw [aER];omega
 ·rw [aER]at hy
  rw [aCf hy]
  have:=hs y (by omega)
  omega
 ·rw [aJd]at ha
  have f1:=s.toShape.frw a ha
  have f2:=s.toShape.tow a (by rw [s.toShape.tol];exact ha)
  rw [pN ha]
  have e1:(c.rep x).sizes.getD ((c.rep x).shape.fr.getD a 0).toNat 0=((c.hom x (c.fr.getD a 0)).length:Int):=by
   show(c.rep x).sizes.getD (c.fr.getD a 0).toNat 0=_
   rw [aCf (by omega),Int.toNat_of_nonneg f1.1]
  have e2:(c.rep x).sizes.getD ((c.rep x).shape.to.getD a 0).toNat 0=((c.hom x (c.to.getD a 0)).length:Int):=by
   show(c.rep x).sizes.getD (c.to.getD a 0).toNat 0=_
   rw [aCf (by omega),Int.toNat_of_nonneg f2.1]
  rw [e1,e2,mR]
  refine⟨rfl,fun e he=>?_⟩
  rw [mR]at he
  rw [kK he]
  obtain⟨k,k1,k2,k3⟩:=Cat.place (s.comp_hom (Cat.at_mem he) (s.arr_hom ha))
  rw [k3];omega
theorem aJe (s:IsCat c) (hx:0≤x) (hx1:x<c.ob) (hs:c.small x):IsSF (c.rep x):=by
 refine {toSFShape:=aD9 s hx hx1 hs,unit:=fun y hy e he=>?_,comp:=fun a b ha hb h0 e he=>?_}
 ·have hy:y<c.id.length:=hy
  have il:=s.toShape.idl
  have iw:=s.toShape.idw y hy
  have ie:=s.toShape.ide y hy
  have ha:(c.id.getD y 0).toNat<c.fr.length:=by omega
  have ef:c.fr.getD (c.id.getD y 0).toNat 0=y:=ie.1
  have et:c.to.getD (c.id.getD y 0).toNat 0=y:=ie.2
  have he:e<((c.rep x).acts.getD (c.id.getD y 0).toNat []).length:=he
  show((c.rep x).acts.getD (c.id.getD y 0).toNat []).getD e 0=e
  rw [pN ha]at he⊢
  rw [mR]at he
  rw [kK he]
  rw [ef]at he⊢
  rw [et,Int.toNat_of_nonneg iw.1]
  have hm:=Cat.mem_hom.1 (Cat.at_mem he)
  have:=s.unr ((c.hom x y).getD e 0).toNat (by omega)
  rw [Int.toNat_of_nonneg hm.1,hm.2.2.2]at this
  have eI:c.I (y:Int)=c.id.getD y 0:=by show c.id.getD (y:Int).toNat 0=_;rw [Int.toNat_natCast]
  rw [eI]at this
  rw [this,Cat.at_place he]
 ·have ha:a<c.fr.length:=ha
  have hb:b<c.fr.length:=hb
  have h0:0≤(c.co.getD a []).getD b 0:=h0
  have eC:c.C (a:Int) (b:Int)=(c.co.getD a []).getD b 0:=by show(c.co.getD (a:Int).toNat []).getD (b:Int).toNat 0=_;rw [Int.toNat_natCast,Int.toNat_natCast]
  rw [←eC]at h0
  have hT:c.T (a:Int)=c.F (b:Int):=by
   have:=s.toShape.neg ha hb
   exact Classical.byContradiction fun q=>by have:=this.2 q;omega
  have tb:c.to.getD a 0=c.fr.getD b 0:=by
   have:=hT
   unfold Cat.T Cat.F at this
   rwa [Int.toNat_natCast,Int.toNat_natCast]at this
  have hA:=s.arr_hom ha
  have hB:=s.arr_hom hb
  rw [←tb]at hB
  have hC:=s.comp_hom hA hB
  obtain⟨c0,c1,c2,c3⟩:=Cat.mem_hom.1 hC
  have hcn:(c.C (a:Int) (b:Int)).toNat<c.fr.length:=by omega
  have ef:c.fr.getD (c.C (a:Int) (b:Int)).toNat 0=c.fr.getD a 0:=c2
  have et:c.to.getD (c.C (a:Int) (b:Int)).toNat 0=c.to.getD b 0:=c3
  have he:e<((c.rep x).acts.getD a []).length:=he
  show((c.rep x).acts.getD ((c.co.getD a []).getD b 0).toNat []).getD e 0=((c.rep x).acts.getD b []).getD (((c.rep x).acts.getD a []).getD e 0).toNat 0
  rw [←eC]
  rw [pN ha]at he⊢
  rw [pN hb,pN hcn]
  rw [mR]at he
  have hE:=Cat.at_mem he
  obtain⟨k,k1,k2,k3⟩:=Cat.place (s.comp_hom hE hA)
  rw [kK he,k3,Int.toNat_natCast,kK (a:=b) (by rw [←tb];exact k1),kK (by rw [ef];exact he),ef,et,Int.toNat_of_nonneg c0]
  rw [tb]at k2
  rw [k2,s.assH hE hA hB]
/-! ### The map of an arrow -/
def nH (c:Cat) (h:Int) (z:Nat):List Int:=(c.hom (c.T h) z).map fun k=>idxOf (c.hom (c.F h) z) (c.C h k)
def arP (c:Cat) (h:Int) (n:Nat):List (List Int):=(List.range n).map (nH c h)
def arM (c:Cat) (h:Int):SM:=⟨c.rep (c.T h),c.rep (c.F h),arP c h c.ob.toNat⟩
theorem kB {z:Nat}:(nH c h z).length=(c.hom (c.T h) z).length:=by unfold nH;rw [List.length_map]
theorem qP {z:Nat} (he:e<(c.hom (c.T h) z).length):(nH c h z).getD e 0=idxOf (c.hom (c.F h) z) (c.C h ((c.hom (c.T h) z).getD e 0)):=by
 unfold nH
 rw [List.getD_eq_getElem?_getD,List.getElem?_map,List.getElem?_eq_getElem he,List.getD_eq_getElem?_getD (l:=c.hom (c.T h) z),List.getElem?_eq_getElem he];rfl
theorem pC {n:Nat}:(arP c h n).length=n:=by unfold arP;rw [List.length_map,List.length_range]
theorem tX {n z:Nat} (hz:z<n):(arP c h n).getD z []=nH c h z:=by
 unfold arP;rw [List.getD_eq_getElem?_getD,List.getElem?_map,List.getElem?_range hz];rfl
theorem aFv {n:Nat}:arP c h (n+1)=arP c h n++[nH c h n]:=by unfold arP;rw [List.range_succ,List.map_append];rfl
theorem IsCat.own_hom (s:IsCat c) (h0:0≤h) (h1:h<c.fr.length):h∈c.hom (c.F h) (c.T h):=Cat.mem_hom.2 ⟨h0,h1,rfl,rfl⟩
theorem aBq (s:IsCat c) (h0:0≤h) (h1:h<c.fr.length) {z:Nat} (he:e<(c.hom (c.T h) z).length):∃k:Nat,k<(c.hom (c.F h) z).length∧(c.hom (c.F h) z).getD k 0=c.C h ((c.hom (c.T h) z).getD e 0)∧(nH c h z).getD e 0=k:=by
 obtain⟨k,k1,k2,k3⟩:=Cat.place (s.comp_hom (s.own_hom h0 h1) (Cat.at_mem he))
 exact⟨k,k1,k2,by rw [qP he,k3]⟩
theorem aEr (s:IsCat c) (h0:0≤h) (h1:h<c.fr.length) (hs:c.small (c.T h)) (ht:c.small (c.F h)):IsSM (arM c h):=by
 have t1:=s.toShape.objT h0 h1
 have f1:=s.toShape.objF h0 h1
 have o0:=s.toShape.ob0
 refine {src:=aJe s t1.1 t1.2 hs,tgt:=aJe s f1.1 f1.2 ht,same:=rfl,fits:=⟨?_,fun z hz=>?_⟩,nat:=fun a ha e he=>?_}
 ·show(arP c h c.ob.toNat).length=(c.rep (c.T h)).sizes.length;rw [pC,aER]
 ·have hz:z<c.ob.toNat:=by
   have:z<(arP c h c.ob.toNat).length:=hz
   rwa [pC]at this
  show(((arP c h c.ob.toNat).getD z []).length:Int)=(c.rep (c.T h)).sizes.getD z 0∧Within ((arP c h c.ob.toNat).getD z []) ((c.rep (c.F h)).sizes.getD z 0)
  rw [tX hz,aCf hz,aCf hz,kB]
  refine⟨rfl,fun e he=>?_⟩
  rw [kB]at he
  obtain⟨k,k1,k2,k3⟩:=aBq s h0 h1 he
  rw [k3];omega
 ·have ha:a<c.fr.length:=ha
  have g1:=s.toShape.frw a ha
  have g2:=s.toShape.tow a (by rw [s.toShape.tol];exact ha)
  have he:e<((c.rep (c.T h)).acts.getD a []).length:=he
  show((arP c h c.ob.toNat).getD (c.to.getD a 0).toNat []).getD (((c.rep (c.T h)).acts.getD a []).getD e 0).toNat 0=((c.rep (c.F h)).acts.getD a []).getD (((arP c h c.ob.toNat).getD (c.fr.getD a 0).toNat []).getD e 0).toNat 0
  rw [tX (by omega),tX (by omega)]
  rw [pN ha]at he⊢
  rw [pN ha]
  rw [mR]at he
  have hE:=Cat.at_mem he
  have hA:=s.arr_hom ha
  have hH:=s.own_hom h0 h1
  obtain⟨k,k1,k2,k3⟩:=Cat.place (s.comp_hom hE hA)
  have ef:(((c.fr.getD a 0).toNat:Nat):Int)=c.fr.getD a 0:=Int.toNat_of_nonneg g1.1
  have et:(((c.to.getD a 0).toNat:Nat):Int)=c.to.getD a 0:=Int.toNat_of_nonneg g2.1
  obtain⟨l,l1,l2,l3⟩:=aBq s h0 h1 (z:=(c.fr.getD a 0).toNat) (e:=e) (by rw [ef];exact he)
  rw [kK he,k3,Int.toNat_natCast,l3,Int.toNat_natCast]
  rw [ef]at l1 l2
  rw [kK l1,l2,qP (by rw [et];exact k1),et,k2,s.assH hH hE hA]
end
end Go.Cats
end
section
namespace Go.Cats
def aGj:SF:=⟨⟨0,[],[],[],[]⟩,[],[]⟩
def nilSM:SM:=⟨aGj,aGj,[]⟩
end Go.Cats
end
section
namespace Go.Cats
section
variable {c:Cat} {h k:Int}
theorem aLu (s:IsCat c) (h0:0≤h) (h1:h<c.fr.length) (hs:c.small (c.T h)) (ht:c.small (c.F h)):(arM c h).elemR (c.T h)=(idxOf (c.hom (c.F h) (c.T h)) h,0):=by
 have hM:=aEr s h0 h1 hs ht
 have t1:=s.toShape.objT h0 h1
 have hr:0≤c.T h∧c.T h<(arM c h).src.shape.ob:=t1
 rw [SM.elemR_0 hM hr ⟨hs,rfl⟩]
 have ho:=s.toShape.ob0
 have hz:(c.T h).toNat<c.ob.toNat:=by omega
 have hp:=Cat.id_place s.toShape t1
 show(((arP c h c.ob.toNat).getD (c.T h).toNat []).getD (idxOf (c.hom (c.T h) (c.T h)) (c.id.getD (c.T h).toNat 0)).toNat 0,(0:Int))=_
 rw [tX hz]
 have eI:c.id.getD (c.T h).toNat 0=c.I (c.T h):=rfl
 rw [eI]at hp⊢
 obtain⟨e,e1,e2,e3⟩:=Cat.place (s.id_hom' t1.1 t1.2)
 have et:(((c.T h).toNat:Nat):Int)=c.T h:=Int.toNat_of_nonneg t1.1
 have u:=s.unr h.toNat (by omega)
 rw [Int.toNat_of_nonneg h0]at u
 rw [e3,Int.toNat_natCast,qP (by rw [et];exact e1),et,e2,u]
end
end Go.Cats
end
