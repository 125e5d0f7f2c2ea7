/- Several texts in one: M01, M02, M03, M04, M05, M06, M07, N02, N03, N04, N05, N06, N07, N08, N09, N10, N11, N12, N13, N14, N24, M08, M09, M10, M11, M12, N25, N26, N27, N28, N39, N43, N45, N46, N47, N48, N15, N16, N33, N36, N44, N01, N18, N34, N29, N49. -/
set_option linter.unusedSimpArgs false
set_option linter.unusedVariables false
set_option linter.unusedSectionVars false
section
namespace Go.Cats
noncomputable def dec (P:Prop):Bool:= @decide P (Classical.propDecidable P)
theorem dQ {P:Prop} (h:P):dec P=true:=by simp [dec,h]
theorem kY {P:Prop} (h:¬P):dec P=false:=by simp [dec,h]
theorem dec_iff {P:Prop}:dec P=true↔P:=by simp [dec]
theorem aKM {P:Prop}:dec P=false↔¬P:=by simp [dec]
theorem fL {P Q:Prop} (h:P↔Q):dec P=dec Q:=by
 by_cases p:P
 ·rw [dQ p,dQ (h.1 p)]
 ·rw [kY p,kY fun q=>p (h.2 q)]
theorem pK {P:Prop} [Decidable P]:dec P=decide P:=by by_cases h:P<;>simp [dec,h]
/-! ### Scans -/
def bS {α:Type} (n:Nat) (p:Nat→Option α):Option α:=(List.range n).findSome? p
theorem aCn {α:Type} (n:Nat) (p:Nat→Option α):bS (n+1) p=(bS n p).or (p n):=by
 unfold bS
 rw [List.range_succ,List.findSome?_append]
 simp [List.findSome?]
 cases p n<;>rfl
theorem dO {α:Type} {n:Nat} {p:Nat→Option α} (h:bS n p=none) (k:p n=none):bS (n+1) p=none:=by
 rw [aCn,h,k];rfl
theorem scan_none {α:Type} {n:Nat} {p:Nat→Option α}:bS n p=none↔∀i,i<n→p i=none:=by
 simp [bS,List.findSome?_eq_none_iff]
theorem gL {α:Type} {n i:Nat} {p:Nat→Option α} {r:α} (hi:i<n) (h:bS i p=none) (k:p i=some r):bS n p=some r:=by
 induction n with
 |zero=>omega
 |succ n ih=>
  rw [aCn]
  by_cases e:i=n
  ·subst e;rw [h,k];rfl
  ·rw [ih (by omega)];rfl
theorem fM {α:Type} {n:Nat} {p:Nat→Option α} {r:α} (h:bS n p=some r):∃i,i<n∧p i=some r:=by
 unfold bS at h
 obtain⟨i,hi,k⟩:=List.exists_of_findSome?_eq_some h
 exact⟨i,by simpa using hi,k⟩
theorem bU {P:Nat→Prop} {n:Nat} (h:∀i,i<n→P i) (k:P n):∀i,i<n+1→P i:=fun i hi=>by
 by_cases e:i=n
 ·subst e;exact k
 ·exact h i (by omega)
def gK {α:Type} (n:Nat) (f:Nat→List α):List α:=(List.range n).flatMap f
theorem bV {α:Type} (f:Nat→List α):gK 0 f=[]:=rfl
theorem dX {α:Type} (n:Nat) (f:Nat→List α):gK (n+1) f=gK n f++f n:=by
 simp [gK,List.range_succ]
theorem mem_coll {α:Type} {n:Nat} {f:Nat→List α} {x:α}:x∈gK n f↔∃i,i<n∧x∈f i:=by
 simp [gK,List.mem_flatMap]
theorem bQ {α:Type} {n k:Nat} {f:Nat→List α} (h:∀i,i<n→(f i).length≤k):(gK n f).length≤n*k:=by
 induction n with
 |zero=>simp [gK]
 |succ n ih=>
  rw [dX,List.length_append,Nat.succ_mul]
  have:=ih fun i hi=>h i (by omega)
  have:=h n (by omega)
  omega
theorem fZ {α:Type} {l:List α} {i:Nat} {d:α} (h:i<l.length):l.getD i d∈l:=by
 simp [List.getD_eq_getElem?_getD,h]
theorem aI3 {α:Type} {l:List α} {x d:α} (h:x∈l):∃i,i<l.length∧l.getD i d=x:=by
 obtain⟨i,hi,e⟩:=List.getElem_of_mem h
 exact⟨i,hi,by simp [List.getD_eq_getElem?_getD,hi,e]⟩
def Within (l:List Int) (n:Int):Prop:=∀i,i<l.length→0≤l.getD i 0∧l.getD i 0<n
theorem Within.mem {l:List Int} {n:Int} (h:Within l n) {x:Int} (hx:x∈l):0≤x∧x<n:=by
 obtain⟨i,hi,e⟩:=aI3 (d:=0) hx
 have:=h i hi
 rw [e]at this
 exact this
/-! ### Categories -/
structure Cat where
 ob:Int
 fr:List Int
 to:List Int
 id:List Int
 co:List (List Int)
def Cat.nil:Cat:=⟨0,[],[],[],[]⟩
abbrev Cat.F (c:Cat) (f:Int):Int:=c.fr.getD f.toNat 0
abbrev Cat.T (c:Cat) (f:Int):Int:=c.to.getD f.toNat 0
abbrev Cat.I (c:Cat) (x:Int):Int:=c.id.getD x.toNat 0
abbrev Cat.C (c:Cat) (f g:Int):Int:=(c.co.getD f.toNat []).getD g.toNat 0
structure CatB (c:Cat):Prop where
 ob1: -9223372036854775808≤c.ob
 ob2:c.ob≤9223372036854775807
 fr:c.fr.length≤1048576
 to:c.to.length≤1048576
 id:c.id.length≤1048576
 co:c.co.length≤1048576
 row:∀f,f<c.co.length→(c.co.getD f []).length≤1048576
def Cat.Entry (c:Cat) (f g:Nat):Prop:=
 (c.to.getD f 0=c.fr.getD g 0∧(0≤c.C f g∧c.C f g<c.fr.length)∧c.F (c.C f g)=c.fr.getD f 0∧c.T (c.C f g)=c.to.getD g 0)∨
 (c.to.getD f 0≠c.fr.getD g 0∧c.C f g= -1)
structure Shape (c:Cat):Prop where
 ob0:0≤c.ob
 ob8:c.ob≤8
 m40:c.fr.length≤40
 tol:c.to.length=c.fr.length
 frw:Within c.fr c.ob
 tow:Within c.to c.ob
 idl:(c.id.length:Int)=c.ob
 idw:Within c.id c.fr.length
 col:c.co.length=c.fr.length
 ide:∀x,x<c.id.length→c.F (c.id.getD x 0)=x∧c.T (c.id.getD x 0)=x
 coe:∀f,f<c.fr.length→(c.co.getD f []).length=c.fr.length∧∀g,g<c.fr.length→c.Entry f g
def Cat.fault1 (c:Cat) (f:Nat):Option (Int×Int×Int×Int):=
 if c.C (c.I (c.F f)) f≠f∨c.C f (c.I (c.T f))≠f then some (1,f,0,0)else none
def Cat.fault2 (c:Cat) (f g h:Nat):Option (Int×Int×Int×Int):=
 if 0≤c.C g h∧c.C (c.C f g) h≠c.C f (c.C g h)then some (2,f,g,h)else none
def Cat.fault2g (c:Cat) (f g:Nat):Option (Int×Int×Int×Int):=
 if c.C f g<0 then none else bS c.fr.length fun h=>c.fault2 f g h
def Cat.fault (c:Cat):Int×Int×Int×Int:=
 ((bS c.fr.length c.fault1).or (bS c.fr.length fun f=>bS c.fr.length fun g=>c.fault2g f g)).getD (0,0,0,0)
structure IsCat (c:Cat):Prop extends Shape c where
 unl:∀f:Nat,f<c.fr.length→c.C (c.I (c.F f)) f=f
 unr:∀f:Nat,f<c.fr.length→c.C f (c.I (c.T f))=f
 ass:∀f g h:Nat,f<c.fr.length→g<c.fr.length→h<c.fr.length→c.T f=c.F g→c.T g=c.F h→c.C (c.C f g) h=c.C f (c.C g h)
theorem Shape.neg {c:Cat} (s:Shape c) {f g:Nat} (hf:f<c.fr.length) (hg:g<c.fr.length):c.C f g<0↔c.T f≠c.F g:=by
 have:=(s.coe f hf).2 g hg
 unfold Cat.Entry at this
 simp only [Cat.T,Cat.F,Int.toNat_natCast]
 rcases this with⟨h1,h2,h3⟩|⟨h1,h2⟩
 ·constructor
  ·intro h;omega
  ·intro h;exact absurd h1 h
 ·constructor
  ·intro _;exact h1
  ·intro _;omega
theorem Shape.fault_zero {c:Cat} (s:Shape c):c.fault.1=0↔IsCat c:=by
 unfold Cat.fault
 constructor
 ·intro h
  cases h1:bS c.fr.length c.fault1 with
  |some r=>
   obtain⟨i,hi,k⟩:=fM h1
   unfold Cat.fault1 at k
   split at k
   ·simp at k;subst k;simp [h1]at h
   ·cases k
  |none=>
   rw [h1]at h
   cases h2:(bS c.fr.length fun f=>bS c.fr.length fun g=>c.fault2g f g)with
   |some r=>
    obtain⟨i,hi,k⟩:=fM h2
    obtain⟨j,hj,k⟩:=fM k
    unfold Cat.fault2g at k
    split at k
    ·cases k
    ·obtain⟨l,hl,k⟩:=fM k
     unfold Cat.fault2 at k
     split at k
     ·simp at k;subst k;simp [h2]at h
     ·cases k
   |none=>
    rw [scan_none]at h1 h2
    refine⟨s,fun f hf=>?_,fun f hf=>?_,fun f g h hf hg hh e1 e2=>?_⟩
    ·have:=h1 f hf
     unfold Cat.fault1 at this
     split at this
     ·cases this
     ·rename_i n;exact Classical.byContradiction fun q=>n (.inl q)
    ·have:=h1 f hf
     unfold Cat.fault1 at this
     split at this
     ·cases this
     ·rename_i n;exact Classical.byContradiction fun q=>n (.inr q)
    ·have:=h2 f hf
     rw [scan_none]at this
     have:=this g hg
     unfold Cat.fault2g at this
     rw [if_neg (by rw [s.neg hf hg];exact fun q=>q e1),scan_none]at this
     have:=this h hh
     unfold Cat.fault2 at this
     split at this
     ·cases this
     ·rename_i n
      refine Classical.byContradiction fun q=>n ⟨?_,q⟩
      have:=(s.neg hg hh)
      exact Int.not_lt.1 fun q=>this.1 q e2
 ·intro h
  have h1:bS c.fr.length c.fault1=none:=scan_none.2 fun f hf=>by
   unfold Cat.fault1
   rw [if_neg]
   rintro(q|q)
   ·exact q (h.unl f hf)
   ·exact q (h.unr f hf)
  have h2:(bS c.fr.length fun f=>bS c.fr.length fun g=>c.fault2g f g)=none:=scan_none.2 fun f hf=>scan_none.2 fun g hg=>by
   unfold Cat.fault2g
   split
   ·rfl
   ·rename_i n1
    refine scan_none.2 fun h' hh=>?_
    unfold Cat.fault2
    rw [if_neg]
    rintro⟨q1,q2⟩
    have e1:=s.neg hf hg
    have e2:=s.neg hg hh
    exact q2 (h.ass f g h' hf hg hh (Classical.byContradiction fun q=>n1 (e1.2 q)) (Classical.byContradiction fun q=>by have:=e2.2 q;omega))
  rw [h1,h2];rfl
theorem Cat.fault1_t {c:Cat} {f:Nat} (h:c.C (c.I (c.F f)) f≠f∨c.C f (c.I (c.T f))≠f):c.fault1 f=some ((1:Int),(f:Int),(0:Int),(0:Int)):=if_pos h
theorem Cat.fault1_f {c:Cat} {f:Nat} (h:c.C (c.I (c.F f)) f=f) (k:c.C f (c.I (c.T f))=f):c.fault1 f=none:=if_neg fun q=>q.elim (fun q=>q h) fun q=>q k
theorem Cat.fault2_t {c:Cat} {f g h:Nat} (a:0≤c.C g h) (b:c.C (c.C f g) h≠c.C f (c.C g h)):c.fault2 f g h=some ((2:Int),(f:Int),(g:Int),(h:Int)):=if_pos ⟨a,b⟩
theorem Cat.fault2_f {c:Cat} {f g h:Nat} (a:0≤c.C g h→c.C (c.C f g) h=c.C f (c.C g h)):c.fault2 f g h=none:=if_neg fun q=>q.2 (a q.1)
theorem Cat.fault2g_f {c:Cat} {f g:Nat} (a:c.C f g<0):c.fault2g f g=none:=if_pos a
theorem Cat.fault2g_t {c:Cat} {f g:Nat} (a:¬c.C f g<0):c.fault2g f g=bS c.fr.length fun h=>c.fault2 f g h:=if_neg a
theorem Cat.fault_1 {c:Cat} {f:Nat} {r:Int×Int×Int×Int} (h:bS f c.fault1=none) (hf:f<c.fr.length) (k:c.fault1 f=some r):c.fault=r:=by
 unfold Cat.fault
 rw [gL hf h k];rfl
theorem Cat.fault_2 {c:Cat} {f g h:Nat} {r:Int×Int×Int×Int} (a:bS c.fr.length c.fault1=none) (h1:bS f (fun f=>bS c.fr.length fun g=>c.fault2g f g)=none) (hf:f<c.fr.length)
  (h2:bS g (fun g=>c.fault2g f g)=none) (hg:g<c.fr.length) (n:¬c.C f g<0) (h3:bS h (fun h=>c.fault2 f g h)=none) (hh:h<c.fr.length) (k:c.fault2 f g h=some r):c.fault=r:=by
 unfold Cat.fault
 rw [a,gL hf h1 (gL hg h2 (by rw [Cat.fault2g_t n];exact gL hh h3 k))];rfl
theorem Cat.fault_0 {c:Cat} (a:bS c.fr.length c.fault1=none) (h1:bS c.fr.length (fun f=>bS c.fr.length fun g=>c.fault2g f g)=none):c.fault=(0,0,0,0):=by
 unfold Cat.fault
 rw [a,h1];rfl
def Cat.homI (c:Cat) (x y:Int) (i:Nat):List Int:=gK i fun f=>if c.fr.getD f 0=x∧c.to.getD f 0=y then [(f:Int)]else []
def Cat.hom (c:Cat) (x y:Int):List Int:=c.homI x y c.fr.length
theorem Cat.homI_zero (c:Cat) (x y:Int):c.homI x y 0=[]:=rfl
theorem Cat.homI_succ (c:Cat) (x y:Int) (i:Nat):c.homI x y (i+1)=c.homI x y i++if c.fr.getD i 0=x∧c.to.getD i 0=y then [(i:Int)]else []:=dX _ _
theorem Cat.homI_len (c:Cat) (x y:Int) (i:Nat):(c.homI x y i).length≤i:=by
 have:=bQ (n:=i) (k:=1) (f:=fun f=>if c.fr.getD f 0=x∧c.to.getD f 0=y then [(f:Int)]else []) fun j _=>by split<;>simp
 simpa [Cat.homI]using this
theorem Cat.mem_hom {c:Cat} {x y f:Int}:f∈c.hom x y↔0≤f∧f<c.fr.length∧c.F f=x∧c.T f=y:=by
 unfold Cat.hom Cat.homI
 rw [mem_coll]
 constructor
 ·rintro⟨i,hi,h⟩
  split at h
  ·rename_i e;simp at h;subst h
   simp only [Cat.F,Cat.T,Int.toNat_natCast]
   exact⟨by omega,by omega,e.1,e.2⟩
  ·simp at h
 ·rintro⟨h1,h2,h3,h4⟩
  refine⟨f.toNat,by omega,?_⟩
  rw [if_pos ⟨h3,h4⟩]
  simp;omega
/-! ### Functors -/
structure Fun where
 src:Cat
 tgt:Cat
 obs:List Int
 ars:List Int
def Fun.nil:Fun:=⟨.nil, .nil,[],[]⟩
abbrev Fun.O (f:Fun) (x:Int):Int:=f.obs.getD x.toNat 0
abbrev Fun.A (f:Fun) (a:Int):Int:=f.ars.getD a.toNat 0
structure Fits (f:Fun):Prop where
 obl:(f.obs.length:Int)=f.src.ob
 arl:f.ars.length=f.src.fr.length
 obw:Within f.obs f.tgt.ob
 arw:Within f.ars f.tgt.fr.length
 endf:∀a,a<f.ars.length→f.tgt.F (f.ars.getD a 0)=f.O (f.src.F a)∧f.tgt.T (f.ars.getD a 0)=f.O (f.src.T a)
 unit:∀x,x<f.src.id.length→f.A (f.src.id.getD x 0)=f.tgt.I (f.O x)
 comp:∀a b:Nat,a<f.src.fr.length→b<f.src.fr.length→0≤f.src.C a b→f.A (f.src.C a b)=f.tgt.C (f.A a) (f.A b)
structure IsFun (f:Fun):Prop where
 src:IsCat f.src
 tgt:IsCat f.tgt
 fits:Fits f
/-! ### Set functors -/
structure SF where
 shape:Cat
 sizes:List Int
 acts:List (List Int)
structure SM where
 src:SF
 tgt:SF
 parts:List (List Int)
def SF.nil:SF:=⟨.nil,[],[]⟩
def SM.nil:SM:=⟨.nil, .nil,[]⟩
end Go.Cats
end
section
namespace Go.Cats
theorem jR {α:Type} {p:Nat→Option α} {i n:Nat} (h:bS i p=none) (a:i≤n) (b:n≤i):bS n p=none:=by
 have:i=n:=by omega
 rw [←this];exact h
theorem kR {α:Type} {a b:List α} {d:α} {i:Nat} (h:a.take i=b.take i) (ha:i<a.length) (hb:i<b.length) (e:a.getD i d=b.getD i d):a.take (i+1)=b.take (i+1):=by
 have e1:a.getD i d=a[i]:=by simp [List.getD_eq_getElem?_getD,ha]
 have e2:b.getD i d=b[i]:=by simp [List.getD_eq_getElem?_getD,hb]
 rw [e1,e2]at e
 rw [List.take_succ_eq_append_getElem ha,List.take_succ_eq_append_getElem hb,h,e]
theorem qO {α:Type} {a b:List α} {i:Nat} (h:a.take i=b.take i) (ha:a.length≤i) (hb:b.length≤i):a=b:=by
 rwa [List.take_of_length_le ha,List.take_of_length_le hb]at h
theorem aCu {α:Type} {a:List α} {d:α} {i:Nat} (ha:i<a.length):a.take (i+1)=a.take i++[a.getD i d]:=by
 rw [List.take_succ_eq_append_getElem ha]
 simp [List.getD_eq_getElem?_getD,ha]
theorem Cat.eq {c d:Cat} (h1:c.ob=d.ob) (h2:c.fr=d.fr) (h3:c.to=d.to) (h4:c.id=d.id) (h5:c.co=d.co):c=d:=by
 cases c;cases d;simp_all
end Go.Cats
end
section
namespace Go.Cats
structure SFB (f:SF):Prop where
 shape:CatB f.shape
 sizes:f.sizes.length≤1048576
 acts:f.acts.length≤1048576
 row:∀a,a<f.acts.length→(f.acts.getD a []).length≤1048576
abbrev SF.act (f:SF) (a:Nat):List Int:=f.acts.getD a []
structure SFShape (f:SF):Prop where
 cat:IsCat f.shape
 szl:(f.sizes.length:Int)=f.shape.ob
 szw:Within f.sizes 17
 acl:f.acts.length=f.shape.fr.length
 act:∀a,a<f.acts.length→((f.acts.getD a []).length:Int)=f.sizes.getD (f.shape.fr.getD a 0).toNat 0∧Within (f.acts.getD a []) (f.sizes.getD (f.shape.to.getD a 0).toNat 0)
def SF.fault1 (f:SF) (x e:Nat):Option (Int×Int×Int×Int):=
 if(f.acts.getD (f.shape.id.getD x 0).toNat []).getD e 0≠e then some ((1:Int),(x:Int),(e:Int),(0:Int))else none
def SF.fault1x (f:SF) (x:Nat):Option (Int×Int×Int×Int):=bS (f.acts.getD (f.shape.id.getD x 0).toNat []).length fun e=>f.fault1 x e
def SF.fault2 (f:SF) (a b e:Nat):Option (Int×Int×Int×Int):=
 if(f.acts.getD ((f.shape.co.getD a []).getD b 0).toNat []).getD e 0≠(f.acts.getD b []).getD ((f.acts.getD a []).getD e 0).toNat 0 then some ((2:Int),(a:Int),(b:Int),(e:Int))else none
def SF.fault2b (f:SF) (a b:Nat):Option (Int×Int×Int×Int):=
 if(f.shape.co.getD a []).getD b 0<0 then none else bS (f.acts.getD a []).length fun e=>f.fault2 a b e
def SF.fault2a (f:SF) (a:Nat):Option (Int×Int×Int×Int):=bS (f.shape.co.getD a []).length fun b=>f.fault2b a b
def SF.fault (f:SF):Int×Int×Int×Int:=
 ((bS f.shape.id.length f.fault1x).or (bS f.shape.co.length f.fault2a)).getD (0,0,0,0)
structure IsSF (f:SF):Prop extends SFShape f where
 unit:∀x,x<f.shape.id.length→∀e,e<(f.acts.getD (f.shape.id.getD x 0).toNat []).length→(f.acts.getD (f.shape.id.getD x 0).toNat []).getD e 0=e
 comp:∀a b,a<f.shape.fr.length→b<f.shape.fr.length→0≤(f.shape.co.getD a []).getD b 0→∀e,e<(f.acts.getD a []).length→
  (f.acts.getD ((f.shape.co.getD a []).getD b 0).toNat []).getD e 0=(f.acts.getD b []).getD ((f.acts.getD a []).getD e 0).toNat 0
theorem SF.fault1_t {f:SF} {x e:Nat} (h:(f.acts.getD (f.shape.id.getD x 0).toNat []).getD e 0≠e):f.fault1 x e=some ((1:Int),(x:Int),(e:Int),(0:Int)):=if_pos h
theorem SF.fault1_f {f:SF} {x e:Nat} (h:(f.acts.getD (f.shape.id.getD x 0).toNat []).getD e 0=e):f.fault1 x e=none:=if_neg fun q=>q h
theorem SF.fault2_t {f:SF} {a b e:Nat} (h:(f.acts.getD ((f.shape.co.getD a []).getD b 0).toNat []).getD e 0≠(f.acts.getD b []).getD ((f.acts.getD a []).getD e 0).toNat 0):f.fault2 a b e=some ((2:Int),(a:Int),(b:Int),(e:Int)):=if_pos h
theorem SF.fault2_f {f:SF} {a b e:Nat} (h:(f.acts.getD ((f.shape.co.getD a []).getD b 0).toNat []).getD e 0=(f.acts.getD b []).getD ((f.acts.getD a []).getD e 0).toNat 0):f.fault2 a b e=none:=if_neg fun q=>q h
theorem SF.fault2b_f {f:SF} {a b:Nat} (h:(f.shape.co.getD a []).getD b 0<0):f.fault2b a b=none:=if_pos h
theorem SF.fault2b_t {f:SF} {a b:Nat} (h:¬(f.shape.co.getD a []).getD b 0<0):f.fault2b a b=bS (f.acts.getD a []).length fun e=>f.fault2 a b e:=if_neg h
theorem SF.fault_1 {f:SF} {x e:Nat} {r:Int×Int×Int×Int} (h:bS x f.fault1x=none) (hx:x<f.shape.id.length) (h2:(bS e fun e=>f.fault1 x e)=none) (he:e<(f.acts.getD (f.shape.id.getD x 0).toNat []).length) (k:f.fault1 x e=some r):f.fault=r:=by
 unfold SF.fault
 rw [gL hx h (show f.fault1x x=some r from gL he h2 k)];rfl
theorem SF.fault_2 {f:SF} {a b e:Nat} {r:Int×Int×Int×Int} (h0:bS f.shape.id.length f.fault1x=none) (h1:bS a f.fault2a=none) (ha:a<f.shape.co.length) (h2:(bS b fun b=>f.fault2b a b)=none) (hb:b<(f.shape.co.getD a []).length) (n:¬(f.shape.co.getD a []).getD b 0<0)
  (h3:(bS e fun e=>f.fault2 a b e)=none) (he:e<(f.acts.getD a []).length) (k:f.fault2 a b e=some r):f.fault=r:=by
 unfold SF.fault
 rw [h0,gL ha h1 (show f.fault2a a=some r from gL hb h2 (by rw [SF.fault2b_t n];exact gL he h3 k))];rfl
theorem SF.fault_0 {f:SF} (h0:bS f.shape.id.length f.fault1x=none) (h1:bS f.shape.co.length f.fault2a=none):f.fault=(0,0,0,0):=by
 unfold SF.fault
 rw [h0,h1];rfl
theorem SFShape.fault_zero {f:SF} (s:SFShape f):f.fault.1=0↔IsSF f:=by
 have hco:=s.cat.col
 constructor
 ·intro h
  unfold SF.fault at h
  cases h1:bS f.shape.id.length f.fault1x with
  |some r=>
   obtain⟨x,hx,k⟩:=fM h1
   obtain⟨e,he,k⟩:=fM k
   unfold SF.fault1 at k
   split at k
   ·simp at k;subst k;simp [h1]at h
   ·cases k
  |none=>
   rw [h1]at h
   cases h2:bS f.shape.co.length f.fault2a with
   |some r=>
    obtain⟨a,ha,k⟩:=fM h2
    obtain⟨b,hb,k⟩:=fM k
    unfold SF.fault2b at k
    split at k
    ·cases k
    ·obtain⟨e,he,k⟩:=fM k
     unfold SF.fault2 at k
     split at k
     ·simp at k;subst k;simp [h2]at h
     ·cases k
   |none=>
    refine⟨s,fun x hx e he=>?_,fun a b ha hb hn e he=>?_⟩
    ·have k:=scan_none.1 (scan_none.1 h1 x hx) e he
     unfold SF.fault1 at k
     split at k
     ·cases k
     ·rename_i n;exact Classical.byContradiction n
    ·have k:=scan_none.1 (scan_none.1 h2 a (by omega)) b (by have:=(s.cat.coe a ha).1;omega)
     simp only [SF.fault2b]at k
     rw [if_neg (by omega)]at k
     have k:=scan_none.1 k e he
     unfold SF.fault2 at k
     split at k
     ·cases k
     ·rename_i n;exact Classical.byContradiction n
 ·intro h
  rw [SF.fault_0]
  ·exact scan_none.2 fun x hx=>scan_none.2 fun e he=>SF.fault1_f (h.unit x hx e he)
  ·refine scan_none.2 fun a ha=>scan_none.2 fun b hb=>?_
   by_cases n:(f.shape.co.getD a []).getD b 0<0
   ·exact SF.fault2b_f n
   ·rw [SF.fault2b_t n]
    exact scan_none.2 fun e he=>SF.fault2_f (h.comp a b (by omega) (by have:=(s.cat.coe a (by omega)).1;omega) (by omega) e he)
/-! ### Natural maps -/
structure SMB (m:SM):Prop where
 src:SFB m.src
 tgt:SFB m.tgt
 parts:m.parts.length≤1048576
 row:∀x,x<m.parts.length→(m.parts.getD x []).length≤1048576
structure SMFits (m:SM):Prop where
 len:m.parts.length=m.src.sizes.length
 map:∀x,x<m.parts.length→((m.parts.getD x []).length:Int)=m.src.sizes.getD x 0∧Within (m.parts.getD x []) (m.tgt.sizes.getD x 0)
structure SMShape (m:SM):Prop where
 src:IsSF m.src
 tgt:IsSF m.tgt
 same:m.src.shape=m.tgt.shape
 fits:SMFits m
structure IsSM (m:SM):Prop extends SMShape m where
 nat:∀a,a<m.src.shape.fr.length→∀e,e<(m.src.acts.getD a []).length→
  (m.parts.getD (m.src.shape.to.getD a 0).toNat []).getD ((m.src.acts.getD a []).getD e 0).toNat 0=(m.tgt.acts.getD a []).getD ((m.parts.getD (m.src.shape.fr.getD a 0).toNat []).getD e 0).toNat 0
theorem SF.eq {f g:SF} (h1:f.shape=g.shape) (h2:f.sizes=g.sizes) (h3:f.acts=g.acts):f=g:=by
 cases f;cases g;simp_all
theorem SM.eq {f g:SM} (h1:f.src=g.src) (h2:f.tgt=g.tgt) (h3:f.parts=g.parts):f=g:=by
 cases f;cases g;simp_all
end Go.Cats
end
section
namespace Go.Cats
def aU2 (l:List Int) (n:Int) (i:Nat):Option Int:=if l.getD i 0=n then some (i:Int)else none
def idxOf (l:List Int) (n:Int):Int:=(bS l.length (aU2 l n)).getD (-1)
theorem Cat.hom_len (c:Cat) (x y:Int):(c.hom x y).length≤c.fr.length:=c.homI_len x y _
end Go.Cats
end
section
namespace Go.Cats
end Go.Cats
end
section
namespace Go.Cats
end Go.Cats
end
section
namespace Go.Cats
theorem Shape.comp_lt {c:Cat} (s:Shape c) {f g:Nat} (hf:f<c.fr.length) (hg:g<c.fr.length) (h:0≤(c.co.getD f []).getD g 0):(c.co.getD f []).getD g 0<c.fr.length∧c.to.getD f 0=c.fr.getD g 0:=by
 rcases(s.coe f hf).2 g hg with⟨h1,h2,_⟩|⟨_,h2⟩
 ·have e:c.C f g=(c.co.getD f []).getD g 0:=by simp [Cat.C]
  rw [e]at h2
  exact⟨h2.2,h1⟩
 ·have e:c.C f g=(c.co.getD f []).getD g 0:=by simp [Cat.C]
  rw [e]at h2
  omega
theorem Shape.comp_nn {c:Cat} (s:Shape c) {f g:Nat} (hf:f<c.fr.length) (hg:g<c.fr.length) (h:c.to.getD f 0=c.fr.getD g 0):0≤(c.co.getD f []).getD g 0:=by
 rcases(s.coe f hf).2 g hg with⟨_,h2,_⟩|⟨h2,_⟩
 ·have e:c.C f g=(c.co.getD f []).getD g 0:=by simp [Cat.C]
  rw [e]at h2;exact h2.1
 ·exact absurd h h2
theorem Shape.comp_row {c:Cat} (s:Shape c) {f:Int} (h0:0≤f) (h1:f<c.fr.length):(c.co.getD f.toNat []).length=c.fr.length:=(s.coe f.toNat (by omega)).1
end Go.Cats
end
section
namespace Go.Cats
abbrev pv (P:List (List Int)) (y i:Nat):Int:=(P.getD y []).getD i 0
def pset (P:List (List Int)) (y i:Nat) (k:Int):List (List Int):=P.set y ((P.getD y []).set i k)
theorem aJx (P:List (List Int)) (y i:Nat) (k:Int):(pset P y i k).length=P.length:=by simp [pset]
theorem pset_row {P:List (List Int)} {y i z:Nat} {k:Int}:((pset P y i k).getD z []).length=(P.getD z []).length:=by
 unfold pset
 by_cases h:z=y
 ·subst h
  by_cases hz:z<P.length
  ·simp [List.getD_eq_getElem?_getD,hz]
  ·simp [List.getD_eq_getElem?_getD,hz]
 ·simp [List.getD_eq_getElem?_getD,List.getElem?_set_ne (Ne.symm h)]
theorem aFk {P:List (List Int)} {y i z j:Nat} {k:Int} (h:¬(z=y∧j=i)):pv (pset P y i k) z j=pv P z j:=by
 unfold pv pset
 by_cases hz:z=y
 ·subst hz
  have hj:j≠i:=fun e=>h ⟨rfl,e⟩
  by_cases hl:z<P.length
  ·rw [List.getD_eq_getElem?_getD (l:=P.set z _),List.getElem?_set_self hl]
   simp only [Option.getD_some]
   rw [List.getD_eq_getElem?_getD,List.getElem?_set_ne (Ne.symm hj),←List.getD_eq_getElem?_getD]
  ·rw [List.set_eq_of_length_le (by omega)]
 ·rw [List.getD_eq_getElem?_getD (l:=P.set y _),List.getElem?_set_ne (Ne.symm hz),←List.getD_eq_getElem?_getD]
section
variable (f g:SF) (once:Bool)
abbrev SF.av (f:SF) (a:Nat) (e:Nat):Int:=(f.acts.getD a []).getD e 0
abbrev SF.ty (f:SF) (a:Nat):Nat:=(f.shape.to.getD a 0).toNat
abbrev SF.fx (f:SF) (a:Nat):Nat:=(f.shape.fr.getD a 0).toNat
def aQY (e u:Nat) (P:List (List Int)) (a:Nat):Option (List (List Int)):=
 if 0≤pv P (f.ty a) (f.av a e).toNat then(if pv P (f.ty a) (f.av a e).toNat=g.av a u then some P else none)
 else if once=true∧g.av a u∈P.getD (f.ty a) []then none else some (pset P (f.ty a) (f.av a e).toNat (g.av a u))
def aLI (x e u:Nat) (P:List (List Int)):Nat→Option (List (List Int))
 |0=>some P
 |n+1=>(aLI x e u P n).bind fun Q=>if f.shape.fr.getD n 0=x then aQY f g once e u Q n else some Q
def aOa (x e u:Nat) (P:List (List Int)):Option (List (List Int)):=aLI f g once x e u P f.shape.fr.length
structure Good (P:List (List Int)):Prop where
 len:P.length=f.sizes.length
 row:∀y,y<P.length→((P.getD y []).length:Int)=f.sizes.getD y 0
 rng:∀y i,y<P.length→i<(P.getD y []).length→-1≤pv P y i∧pv P y i<g.sizes.getD y 0
 cl:∀b i,b<f.shape.fr.length→i<(P.getD (f.fx b) []).length→0≤pv P (f.fx b) i→pv P (f.ty b) (f.av b i).toNat=g.av b (pv P (f.fx b) i).toNat
 inj:once=true→∀y i j,y<P.length→i<(P.getD y []).length→j<(P.getD y []).length→0≤pv P y i→pv P y i=pv P y j→i=j
def Ext' (P Q:List (List Int)):Prop:=P.length=Q.length∧(∀y,(P.getD y []).length=(Q.getD y []).length)∧∀y i,y<P.length→i<(P.getD y []).length→0≤pv P y i→pv Q y i=pv P y i
end
theorem Ext'.refl (P:List (List Int)):Ext' P P:=⟨rfl,fun _=>rfl,fun _ _ _ _ _=>rfl⟩
theorem Ext'.trans {P Q R:List (List Int)} (h:Ext' P Q) (k:Ext' Q R):Ext' P R:=
 ⟨h.1.trans k.1,fun y=>(h.2.1 y).trans (k.2.1 y),fun y i hy hi h0=>by
  have e1:=h.2.2 y i hy hi h0
  have e2:=k.2.2 y i (by rw [←h.1];exact hy) (by rw [←h.2.1];exact hi) (by rw [e1];exact h0)
  rw [e2,e1]⟩
theorem Ext'.pset {P:List (List Int)} {y i:Nat} {k:Int} (h:¬0≤pv P y i):Ext' P (pset P y i k):=
 ⟨(aJx P y i k).symm,fun z=>pset_row.symm,fun z j hz hj h0=>aFk fun⟨e1,e2⟩=>h (by subst e1;subst e2;exact h0)⟩
variable {f g:SF} {once:Bool} {x e u:Nat} {P Q:List (List Int)}
structure SPair (f g:SF):Prop where
 src:IsSF f
 tgt:IsSF g
 one:f.shape=g.shape
theorem SPair.ft (h:SPair f g) {a:Nat} (ha:a<f.shape.fr.length):f.fx a<f.sizes.length∧f.ty a<f.sizes.length∧f.shape.fr.getD a 0=f.fx a∧f.shape.to.getD a 0=f.ty a:=by
 have h1:=h.src.cat.frw a ha
 have h2:=h.src.cat.tow a (by rw [h.src.cat.tol];exact ha)
 have h3:=h.src.szl
 unfold SF.fx SF.ty
 omega
theorem SPair.fa (h:SPair f g) {a e:Nat} (ha:a<f.shape.fr.length) (he:(e:Int)<f.sizes.getD (f.fx a) 0):0≤f.av a e∧f.av a e<f.sizes.getD (f.ty a) 0:=by
 have h1:=h.src.act a (by rw [h.src.acl];exact ha)
 exact h1.2 e (by have:=h1.1;unfold SF.fx at he;omega)
theorem SPair.ga (h:SPair f g) {a u:Nat} (ha:a<f.shape.fr.length) (hu:(u:Int)<g.sizes.getD (f.fx a) 0):0≤g.av a u∧g.av a u<g.sizes.getD (f.ty a) 0:=by
 have h1:=h.tgt.act a (by rw [h.tgt.acl,←h.one];exact ha)
 rw [←h.one]at h1
 exact h1.2 u (by have:=h1.1;unfold SF.fx at hu;omega)
structure Gd (f g:SF) (once:Bool) (P:List (List Int)):Prop where
 len:P.length=f.sizes.length
 row:∀y,y<P.length→((P.getD y []).length:Int)=f.sizes.getD y 0
 rng:∀y i,y<P.length→i<(P.getD y []).length→-1≤pv P y i∧pv P y i<g.sizes.getD y 0
 inj:once=true→∀y i j,y<P.length→i<(P.getD y []).length→j<(P.getD y []).length→0≤pv P y i→pv P y i=pv P y j→i=j
theorem Good.gd (h:Good f g once P):Gd f g once P:=⟨h.len,h.row,h.rng,h.inj⟩
end Go.Cats
end
section
namespace Go.Cats
def fuI (P:List (List Int)) (y:Nat) (i:Nat):Option (Nat×Nat):=if pv P y i<0 then some (y,i)else none
def fuR (P:List (List Int)) (y:Nat):Option (Nat×Nat):=bS (P.getD y []).length (fuI P y)
def fuP (P:List (List Int)):Option (Nat×Nat):=bS P.length (fuR P)
section
variable (f g:SF) (once:Bool)
def dfs:Nat→List (List Int)→List (List (List Int))
 |0,_=>[]
 |n+1,P=>match fuP P with
  |none=>[P]
  |some (x,e)=>(List.range (g.sizes.getD x 0).toNat).flatMap fun u=>match aOa f g once x e u P with
   |none=>[]
   |some Q=>dfs n Q
end
variable {f g:SF} {once:Bool} {x e u:Nat} {P Q:List (List Int)}
theorem aCN:∀{r s:List Int},r.length=s.length→(∀i,i<r.length→0≤r.getD i 0→s.getD i 0=r.getD i 0)→(s.filter fun v=>decide (v<0)).length≤(r.filter fun v=>decide (v<0)).length
 |[],[],_,_=>Nat.le_refl _
 |[],_::_,h,_=>by simp at h
 |_::_,[],h,_=>by simp at h
 |a::r,b::s,hl,h=>by
  have ih:=aCN (r:=r) (s:=s) (by simpa using hl) (fun i hi h0=>by
   have:=h (i+1) (by simp;omega) (by simpa using h0)
   simpa using this)
  have h0:=h 0 (by simp)
  simp only [List.getD_cons_zero]at h0
  simp only [List.filter_cons]
  by_cases ha:a<0
  ·by_cases hb:b<0
   ·simp [ha,hb];exact ih
   ·simp [ha,hb];omega
  ·have:=h0 (by omega)
   subst this
   simp [ha];exact ih
theorem aF7:∀{r s:List Int},r.length=s.length→(∀i,i<r.length→0≤r.getD i 0→s.getD i 0=r.getD i 0)→∀j,j<r.length→r.getD j 0<0→0≤s.getD j 0→(s.filter fun v=>decide (v<0)).length<(r.filter fun v=>decide (v<0)).length
 |[],_,_,_,j,hj,_,_=>by simp at hj
 |_::_,[],h,_,_,_,_,_=>by simp at h
 |a::r,b::s,hl,h,j,hj,h1,h2=>by
  have hl':r.length=s.length:=by simpa using hl
  have hs:∀i,i<r.length→0≤r.getD i 0→s.getD i 0=r.getD i 0:=fun i hi h0=>by
   have:=h (i+1) (by simp;omega) (by simpa using h0)
   simpa using this
  have h0:=h 0 (by simp)
  simp only [List.getD_cons_zero]at h0
  simp only [List.filter_cons]
  cases j with
  |zero=>
   have ha:a<0:=by simpa using h1
   have hb:¬b<0:=by
    have:0≤b:=by simpa using h2
    omega
   have:=aCN hl' hs
   simp [ha,hb];omega
  |succ j=>
   have ih:=aF7 hl' hs j (by simpa using hj) (by simpa using h1) (by simpa using h2)
   by_cases ha:a<0
   ·by_cases hb:b<0
    ·simp [ha,hb];exact ih
    ·simp [ha,hb];omega
   ·have:=h0 (by omega)
    subst this
    simp [ha];exact ih
end Go.Cats
end
section
namespace Go.Cats
section
variable (f g:SF) (once:Bool)
def aQq (e:Nat) (P:List (List Int)) (a:Nat):Prop:=¬0≤pv P (f.ty a) (f.av a e).toNat
instance (e:Nat) (P:List (List Int)) (a:Nat):Decidable (aQq f e P a):=by unfold aQq;infer_instance
def aVa (c:Cat) (x:Nat) (n:Nat):List Nat:=(List.range n).filter fun a=>decide (c.fr.getD a 0=x)
end
variable {f g:SF} {once:Bool} {x e u:Nat} {P Q:List (List Int)}
def aWr (P:List (List Int)) (N:List (Int×Int)):List (List Int):=N.foldl (fun P p=>pset P p.1.toNat p.2.toNat (-1)) P
end Go.Cats
end
section
namespace Go.Cats
def aQZ (l:List Int):Nat→Int
 |0=>0
 |n+1=>aQZ l n+l.getD n 0
theorem aHY (l:List Int):aQZ l 0=0:=rfl
def aU9 (c:Cat) (x n:Nat):List Int:=(aVa c x n).map fun a:Nat=>(a:Int)
theorem aHu (c:Cat) (x:Nat):aU9 c x 0=[]:=rfl
end Go.Cats
end
section
namespace Go.Cats
section
variable (f g:SF) (once:Bool)
end
variable {f g:SF} {once:Bool} {x e u j a:Nat} {P Q:List (List Int)} {N:List (Int×Int)}
variable {y i k:Int}
end Go.Cats
end
section
namespace Go.Cats
section
variable (f g:SF) (once:Bool)
def aVe (x e u:Nat) (P:List (List Int)) (a:Nat):List (List Int):=(aLI f g once x e u P a).getD P
end
variable {f g:SF} {once:Bool} {x e u a:Nat} {P Q:List (List Int)}
section
variable (h:aLI f g once x e u P a=some (aVe f g once x e u P a)) (ha:a<f.shape.fr.length) (hx:f.shape.fr.getD a 0=x)
include h ha hx
end
end Go.Cats
end
section
namespace Go.Cats
section
variable (f g:SF) (once:Bool)
end
variable {f g:SF} {once:Bool} {x e n:Nat} {P Q:List (List Int)}
end Go.Cats
end
section
namespace Go.Cats
section
variable (f g:SF) (once:Bool)
end
variable {f g:SF} {once:Bool} {n x e u:Nat} {P Q:List (List Int)}
theorem take_take (A B C:List (List (List Int))) (k:Nat):((A++B).take k++C).take k=(A++(B++C)).take k:=by
 rw [←List.append_assoc,List.take_append,List.take_append (l₁:=A++B),List.take_take,Nat.min_self,List.length_take]
 by_cases h:k≤(A++B).length
 ·rw [Nat.min_eq_left h,Nat.sub_self,Nat.sub_eq_zero_of_le h]
 ·rw [Nat.min_eq_right (by omega)]
end Go.Cats
end
section
namespace Go.Cats
def suf {α:Type} (n:Nat) (p:Nat→Option α):Nat→Option α
 |0=>none
 |k+1=>(p (n-1-k)).or (suf n p k)
section
variable (f g:SF) (once:Bool)
end
variable {f g:SF} {once:Bool} {n x e u:Nat} {P Q:List (List Int)}
end Go.Cats
end
section
namespace Go.Cats
/-! ### Results, taken up one by one -/
section
variable {α β:Type} (s:α→β→Bool×α)
def eat:α→List β→Bool×α
 |o,[]=>(true,o)
 |o,q::D=>if(s o q).1=true then eat (s o q).2 D else(false,(s o q).2)
end
section
variable {α β:Type} {s:α→β→Bool×α} {o:α} {D E:List β} {q:β}
end
/-! ### The way back -/
variable {f g:SF} {once:Bool} {x e u n:Nat} {P Q:List (List Int)} {N:List (Int×Int)}
structure ChF (f g:SF) (once:Bool) (x e u:Nat) (P Q:List (List Int)) (N:List (Int×Int)) (ok:Bool):Prop where
 len:Q.length=P.length
 row:∀y,(Q.getD y []).length=(P.getD y []).length
 nl:N.length≤4096
 at1:∀i,i<N.length→0≤(N.getD i (0,0)).1∧(N.getD i (0,0)).1.toNat<P.length∧0≤(N.getD i (0,0)).2∧(N.getD i (0,0)).2.toNat<(P.getD (N.getD i (0,0)).1.toNat []).length
 back:aWr Q N=P
 yes:ok=true→aOa f g once x e u P=some Q
 no:ok=false→aOa f g once x e u P=none
end Go.Cats
end
section
namespace Go.Cats
def yC:List Nat→List (List Int)
 |[]=>[[]]
 |s::S=>(List.range s).flatMap fun v:Nat=>(yC S).map fun l=>(v:Int)::l
def eQ:List Int→List Int→Bool
 |[],[]=>true
 |a::A,q::Q=>(decide (a<0)||decide (q=a))&&eQ A Q
 |_,_=>false
def fT (W:List Int→Bool) (S:List Nat) (A:List Int):List (List Int):=(yC S).filter fun Q=>eQ A Q&&W Q
theorem mem_lexP:∀{S:List Nat} {Q:List Int},Q∈yC S↔Q.length=S.length∧∀i,i<Q.length→0≤Q.getD i 0∧Q.getD i 0<S.getD i 0
 |[],Q=>by
  simp only [yC,List.mem_singleton,List.length_nil]
  constructor
  ·rintro rfl;exact⟨rfl,fun i hi=>by simp at hi⟩
  ·rintro⟨h,_⟩;exact List.length_eq_zero_iff.1 h
 |s::S,Q=>by
  simp only [yC,List.mem_flatMap,List.mem_range,List.mem_map]
  constructor
  ·rintro⟨v,hv,l,hl,rfl⟩
   obtain⟨h1,h2⟩:=mem_lexP.1 hl
   refine⟨by simp [h1],fun i hi=>?_⟩
   cases i with
   |zero=>simpa using hv
   |succ i=>simpa using h2 i (by simpa using hi)
  ·rintro⟨h1,h2⟩
   cases Q with
   |nil=>simp at h1
   |cons q Q=>
    have h0:=h2 0 (by simp)
    simp only [List.getD_cons_zero]at h0
    refine⟨q.toNat,by omega,Q,mem_lexP.2 ⟨by simpa using h1,fun i hi=>by have:=h2 (i+1) (by simp;omega);simpa using this⟩,?_⟩
    rw [Int.toNat_of_nonneg h0.1]
theorem contB_iff:∀{A Q:List Int},eQ A Q=true↔A.length=Q.length∧∀i,i<A.length→0≤A.getD i 0→Q.getD i 0=A.getD i 0
 |[],[]=>by simp [eQ]
 |[],_::_=>by simp [eQ]
 |_::_,[]=>by simp [eQ]
 |a::A,q::Q=>by
  simp only [eQ,Bool.and_eq_true,Bool.or_eq_true,decide_eq_true_eq,contB_iff (A:=A) (Q:=Q),List.length_cons,Nat.add_right_cancel_iff]
  constructor
  ·rintro⟨h0,h1,h2⟩
   refine⟨h1,fun i hi h=>?_⟩
   cases i with
   |zero=>simp only [List.getD_cons_zero]at h⊢;omega
   |succ i=>simp only [List.getD_cons_succ]at h⊢;exact h2 i (by omega) h
  ·rintro⟨h1,h2⟩
   refine⟨?_,h1,fun i hi h=>?_⟩
   ·have:=h2 0 (by omega)
    simp only [List.getD_cons_zero]at this
    omega
   ·have:=h2 (i+1) (by omega)
    simpa using this (by simpa using h)
theorem mem_extW {W:List Int→Bool} {S:List Nat} {A Q:List Int}:Q∈fT W S A↔Q∈yC S∧eQ A Q=true∧W Q=true:=by
 unfold fT
 rw [List.mem_filter,Bool.and_eq_true]
theorem aAc {W:List Int→Bool} {S:List Nat} {A B:List Int} (h:∀Q,Q∈yC S→W Q=true→(eQ A Q=true↔eQ B Q=true)):fT W S A=fT W S B:=by
 unfold fT
 refine List.filter_congr fun Q hQ=>?_
 cases hW:W Q with
 |false=>rw [Bool.and_false,Bool.and_false]
 |true=>
  rw [Bool.and_true,Bool.and_true]
  have:=h Q hQ hW
  cases h1:eQ A Q<;>cases h2:eQ B Q<;>simp_all
theorem aDK {W:List Int→Bool} {S:List Nat} {A:List Int} (h:∀Q,Q∈yC S→W Q=true→eQ A Q=true→False):fT W S A=[]:=by
 rw [List.eq_nil_iff_forall_not_mem]
 intro Q hQ
 obtain⟨h1,h2,h3⟩:=mem_extW.1 hQ
 exact h Q h1 h3 h2
theorem aIA {β:Type} {s:Nat} {a:Int} {g:Nat→List β}:((List.range s).flatMap fun v:Nat=>if(v:Int)=a then g v else [])=if 0≤a∧a<s then g a.toNat else []:=by
 induction s with
 |zero=>rw [if_neg (by omega)];rfl
 |succ s ih=>
  rw [List.range_succ,List.flatMap_append,ih,List.flatMap_cons,List.flatMap_nil,List.append_nil]
  by_cases h:(s:Int)=a
  ·subst h
   rw [if_neg (by omega),if_pos rfl,if_pos (by omega),List.nil_append,Int.toNat_natCast]
  ·rw [if_neg h,List.append_nil]
   by_cases h1:0≤a∧a<s
   ·rw [if_pos h1,if_pos (by omega)]
   ·rw [if_neg h1,if_neg (by omega)]
theorem aBU {W:List Int→Bool} {s:Nat} {S:List Nat} {a:Int} {A:List Int}:
  fT W (s::S) (a::A)=(List.range s).flatMap fun v:Nat=>if a<0∨(v:Int)=a then(fT (fun Q=>W ((v:Int)::Q)) S A).map fun l=>(v:Int)::l else []:=by
 unfold fT
 rw [yC,List.filter_flatMap]
 congr 1
 funext v
 rw [List.filter_map]
 by_cases h:a<0∨(v:Int)=a
 ·rw [if_pos h]
  congr 1
  refine List.filter_congr fun Q _=>?_
  have:(decide (a<0)||decide ((v:Int)=a))=true:=by simpa using h
  simp only [Function.comp,eQ,this,Bool.true_and]
 ·rw [if_neg h]
  have:(decide (a<0)||decide ((v:Int)=a))=false:=by simpa using h
  have e:((fun Q=>eQ (a::A) Q&&W Q)∘fun l=>(v:Int)::l)=fun _=>false:=by
   funext Q
   simp only [Function.comp,eQ,this,Bool.false_and]
  rw [e]
  simp
theorem tW {W:List Int→Bool} {s:Nat} {S:List Nat} {a:Int} {A:List Int} (h:0≤a):fT W (s::S) (a::A)=if a<s then(fT (fun Q=>W (a::Q)) S A).map fun l=>a::l else []:=by
 rw [aBU]
 have:(fun v:Nat=>if a<0∨(v:Int)=a then(fT (fun Q=>W ((v:Int)::Q)) S A).map (fun l=>(v:Int)::l)else [])=fun v:Nat=>if(v:Int)=a then(fT (fun Q=>W ((v:Int)::Q)) S A).map (fun l=>(v:Int)::l)else []:=by
  funext v
  by_cases h1:(v:Int)=a
  ·rw [if_pos (.inr h1),if_pos h1]
  ·rw [if_neg (by omega),if_neg h1]
 rw [this,aIA]
 by_cases h1:a<s
 ·rw [if_pos ⟨h,h1⟩,if_pos h1,Int.toNat_of_nonneg h]
 ·rw [if_neg (by omega),if_neg h1]
theorem xM:∀{W:List Int→Bool} {S:List Nat} {A:List Int} {i:Nat},A.length=S.length→i<A.length→(∀j,j<i→0≤A.getD j 0)→A.getD i 0<0→
  fT W S A=(List.range (S.getD i 0)).flatMap fun u:Nat=>fT W S (A.set i (u:Int))
 |W,[],A,i,hl,hi,_,_=>by simp at hl;subst hl;simp at hi
 |W,s::S,[],i,hl,hi,_,_=>by simp at hi
 |W,s::S,a::A,0,hl,hi,_,h0=>by
  simp only [List.getD_cons_zero]at h0⊢
  rw [aBU]
  rw [List.flatMap_def,List.flatMap_def]
  congr 1
  refine List.map_congr_left fun u hu=>?_
  have hu:=List.mem_range.1 hu
  rw [List.set_cons_zero,tW (by omega),if_pos (Or.inl h0),if_pos (show(u:Int)<s by omega)]
 |W,s::S,a::A,i+1,hl,hi,hlt,h0=>by
  have ha:=hlt 0 (by omega)
  simp only [List.getD_cons_zero,List.getD_cons_succ]at ha h0⊢
  have ih:=xM (W:=fun Q=>W (a::Q)) (S:=S) (A:=A) (i:=i) (by simpa using hl) (by simpa using hi) (fun j hj=>by have:=hlt (j+1) (by omega);simpa using this) h0
  rw [tW ha]
  have:(fun u:Nat=>fT W (s::S) ((a::A).set (i+1) (u:Int)))=fun u:Nat=>if a<s then(fT (fun Q=>W (a::Q)) S (A.set i (u:Int))).map (fun l=>a::l)else []:=by
   funext u
   rw [List.set_cons_succ,tW ha]
  rw [this]
  by_cases h1:a<s
  ·rw [if_pos h1,ih,List.map_flatMap]
   simp only [if_pos h1]
  ·rw [if_neg h1]
   simp only [if_neg h1]
   simp
theorem aBV:∀{W:List Int→Bool} {S:List Nat} {A:List Int},A.length=S.length→(∀j,j<A.length→0≤A.getD j 0∧A.getD j 0<S.getD j 0)→fT W S A=if W A=true then [A]else []
 |W,[],A,hl,_=>by
  have:A=[]:=List.length_eq_zero_iff.1 hl
  subst this
  cases h:W []<;>simp [fT,yC,eQ,h]
 |W,s::S,[],hl,_=>by simp at hl
 |W,s::S,a::A,hl,h=>by
  have h0:=h 0 (by simp)
  simp only [List.getD_cons_zero]at h0
  rw [tW h0.1,if_pos h0.2,aBV (by simpa using hl) (fun j hj=>by have:=h (j+1) (by simp;omega);simpa using this)]
  split<;>simp_all
end Go.Cats
end
section
namespace Go.Cats
structure Rule where
 fr:Int
 to:Int
 by_:List Int
instance:Inhabited Rule:=⟨⟨0,0,[]⟩⟩
def zH (rs:List Rule) (i:Nat):List Rule:=rs.filter fun r=>decide (r.fr=i)
def okW (rs:List Rule) (Q:List Int):Bool:=rs.all fun r=>decide (Q.getD r.to.toNat 0=r.by_.getD (Q.getD r.fr.toNat 0).toNat 0)
structure RulesW (S:List Nat) (rs:List Rule):Prop where
 fr:∀r∈rs,0≤r.fr∧r.fr<S.length
 to:∀r∈rs,0≤r.to∧r.to<S.length
 len:∀r∈rs,r.by_.length=S.getD r.fr.toNat 0
 val:∀r∈rs,∀e:Nat,e<S.getD r.fr.toNat 0→0≤r.by_.getD e 0∧r.by_.getD e 0<S.getD r.to.toNat 0
theorem xP {rs:List Rule} {i:Nat} {r:Rule} (h:r∈zH rs i):r∈rs∧r.fr=i:=by
 unfold zH at h
 simpa [List.mem_filter]using h
abbrev St:=Bool×List Int×List Int
section
variable {f:Nat→Int→List Int→List Int→St} {e:Int} {r:Rule} {l m:List Rule} {A B C N Q:List Int} {rs:List Rule} {S:List Nat} {n i:Nat}
def XtL (A B:List Int):Prop:=A.length=B.length∧∀j,j<A.length→0≤A.getD j 0→B.getD j 0=A.getD j 0
theorem XtL.refl (A:List Int):XtL A A:=⟨rfl,fun _ _ _=>rfl⟩
theorem XtL.trans (h:XtL A B) (k:XtL B C):XtL A C:=⟨h.1.trans k.1,fun j hj h0=>by
 have e1:=h.2 j hj h0
 rw [k.2 j (by rw [←h.1];exact hj) (by rw [e1];exact h0),e1]⟩
def uns (A:List Int):Nat:=(A.filter fun v=>decide (v<0)).length
theorem XtL.uns (h:XtL A B):uns B≤uns A:=aCN h.1 h.2
theorem XtL.uns_lt (h:XtL A B) {j:Nat} (hj:j<A.length) (h0:A.getD j 0<0) (h1:0≤B.getD j 0):Cats.uns B<Cats.uns A:=aF7 h.1 h.2 j hj h0 h1
theorem cN {i j:Nat} {k:Int} (hi:i<A.length):(A.set i k).getD j 0=if j=i then k else A.getD j 0:=by
 rw [List.getD_eq_getElem?_getD,List.getElem?_set]
 by_cases h:j=i
 ·subst h;rw [if_pos rfl,if_pos hi,if_pos rfl];rfl
 ·rw [if_neg (fun q=>h q.symm),if_neg h,List.getD_eq_getElem?_getD]
theorem XtL.set (hi:i<A.length) (h:¬0≤A.getD i 0):XtL A (A.set i e):=⟨by simp,fun j hj h0=>by
 rw [cN hi,if_neg (fun q=>h (by rw [←q];exact h0))]⟩
theorem XtL.cont (h:XtL A B) (k:eQ B Q=true):eQ A Q=true:=by
 rw [contB_iff]at k⊢
 refine⟨h.1.trans k.1,fun j hj h0=>?_⟩
 have e1:=h.2 j hj h0
 rw [k.2 j (by rw [←h.1];exact hj) (by rw [e1];exact h0),e1]
def RngL (S:List Nat) (A:List Int):Prop:=A.length=S.length∧∀j,j<A.length→-1≤A.getD j 0∧A.getD j 0<S.getD j 0
theorem RngL.set (h:RngL S A) (hi:i<A.length) (he:0≤e∧e<S.getD i 0):RngL S (A.set i e):=⟨by simp [h.1],fun j hj=>by
 rw [cN hi]
 by_cases q:j=i
 ·subst q;rw [if_pos rfl];omega
 ·rw [if_neg q];exact h.2 j (by simpa using hj)⟩
def ClF (rs:List Rule) (A B:List Int):Prop:=∀j,j<A.length→A.getD j 0<0→0≤B.getD j 0→∀r∈zH rs j,B.getD r.to.toNat 0=r.by_.getD (B.getD j 0).toNat 0
theorem ClF.refl (A:List Int):ClF rs A A:=fun j _ h0 h1=>by omega
theorem ClF.trans (hw:RulesW S rs) (hB:RngL S B) (h:ClF rs A B) (x:XtL A B) (y:XtL B C) (k:ClF rs B C):ClF rs A C:=fun j hj h0 h1 r hr=>by
 by_cases hb:0≤B.getD j 0
 ·have e1:=h j hj h0 hb r hr
  have e2:=y.2 j (by rw [←x.1];exact hj) hb
  obtain⟨m1,m2⟩:=xP hr
  have b1:=hB.2 j (by rw [←x.1];exact hj)
  have t1:=hw.to r m1
  have v1:=hw.val r m1 (B.getD j 0).toNat (by rw [m2];simp only [Int.toNat_natCast];omega)
  have e3:=y.2 r.to.toNat (by have:=hB.1;omega) (by rw [e1];exact v1.1)
  rw [e3,e2,e1]
 ·exact k j (by rw [←x.1];exact hj) (by omega) h1 r hr
def aKu (A N:List Int):List Int:=N.foldl (fun A k=>A.set k.toNat (-1)) A
structure Fct (S:List Nat) (A N:List Int) (t:St):Prop where
 ext:XtL A t.2.1
 rng:RngL S t.2.1
 und:aKu t.2.1 t.2.2=aKu A N
 nts:∀k∈t.2.2,k∈N∨(0≤k∧k.toNat<A.length)
 cnt:t.2.2.length+uns t.2.1≤N.length+uns A
theorem Fct.refl {b:Bool} (h:RngL S A):Fct S A N (b,A,N):=⟨.refl _,h,rfl,fun k hk=> .inl hk,Nat.le_refl _⟩
theorem Fct.trans {t u:St} (h:Fct S A N t) (k:Fct S t.2.1 t.2.2 u):Fct S A N u:=
 ⟨h.ext.trans k.ext,k.rng,k.und.trans h.und,fun x hx=>by
  rcases k.nts x hx with h1|h1
  ·exact h.nts x h1
  ·exact .inr (by rw [h.ext.1];exact h1),Nat.le_trans k.cnt h.cnt⟩
def ClL (rs:List Rule) (A:List Int):Prop:=∀j,j<A.length→0≤A.getD j 0→∀r∈zH rs j,A.getD r.to.toNat 0=r.by_.getD (A.getD j 0).toNat 0
theorem ClL.step (hw:RulesW S rs) (hA:RngL S A) (h:ClL rs A) (x:XtL A B) (k:ClF rs A B):ClL rs B:=fun j hj h0 r hr=>by
 rw [←x.1]at hj
 by_cases q:0≤A.getD j 0
 ·have e1:=h j hj q r hr
  have e2:=x.2 j hj q
  obtain⟨m1,m2⟩:=xP hr
  have b1:=hA.2 j hj
  have t1:=hw.to r m1
  have v1:=hw.val r m1 (A.getD j 0).toNat (by rw [m2];simp only [Int.toNat_natCast];omega)
  rw [x.2 r.to.toNat (by have:=hA.1;omega) (by rw [e1];exact v1.1),e2,e1]
 ·exact k j hj (by omega) h0 r hr
end
end Go.Cats
end
section
namespace Go.Cats
def stL {β:Type} (M:Nat) (o:List β) (q:β):Bool×List β:=(decide (o.length+1≤M),o++[q])
section
variable {f:Nat→Int→List Int→List Int→St} {e:Int} {l:List Rule} {A N:List Int} {k:Nat}
end
theorem aFJ (A:List Int):uns A≤A.length:=List.length_filter_le _ _
structure TryF (rs:List Rule) (S:List Nat) (A:List Int) (i u:Nat) (T:St):Prop where
 len:T.2.1.length=A.length
 nl:T.2.2.length≤A.length
 at1:∀j,j<T.2.2.length→0≤T.2.2.getD j 0∧(T.2.2.getD j 0).toNat<A.length
 back:aKu T.2.1 T.2.2=A
 yes:T.1=true→RngL S T.2.1∧ClL rs T.2.1∧uns T.2.1<uns A∧fT (okW rs) S (A.set i (u:Int))=fT (okW rs) S T.2.1
 no:T.1=false→fT (okW rs) S (A.set i (u:Int))=[]
end Go.Cats
end
section
namespace Go.Cats
abbrev Fs:=Bool×Bool×List Int
abbrev Cat.cp (c:Cat) (a b:Nat):Int:=(c.co.getD a []).getD b 0
def stF (c d:Cat) (a b:Nat) (s:Fs):Fs:=
 if c.cp a b<0∨s.2.2.getD a 0<0∨s.2.2.getD b 0<0 then s
 else if s.2.2.getD (c.cp a b).toNat 0<0 then(true,true,s.2.2.set (c.cp a b).toNat (d.C (s.2.2.getD a 0) (s.2.2.getD b 0)))
 else(decide (s.2.2.getD (c.cp a b).toNat 0=d.C (s.2.2.getD a 0) (s.2.2.getD b 0)),s.2.1,s.2.2)
def gH (c d:Cat) (a:Nat):Nat→Fs→Fs
 |0,s=>s
 |b+1,s=>if(gH c d a b s).1=true then stF c d a b (gH c d a b s)else gH c d a b s
def bO (c d:Cat) (m:Nat):Nat→Fs→Fs
 |0,s=>s
 |a+1,s=>if(bO c d m a s).1=true then gH c d a m (bO c d m a s)else bO c d m a s
def eY (c d:Cat):Nat→List Int→Bool×List Int
 |0,A=>(false,A)
 |k+1,A=>if(bO c d c.fr.length c.fr.length (true,false,A)).1=true then
   (if(bO c d c.fr.length c.fr.length (true,false,A)).2.1=true then eY c d k (bO c d c.fr.length c.fr.length (true,false,A)).2.2 else(true,(bO c d c.fr.length c.fr.length (true,false,A)).2.2))
   else(false,(bO c d c.fr.length c.fr.length (true,false,A)).2.2)
section
variable {c d:Cat} {a b m n k:Nat} {s t u:Fs} {O A B Q:List Int} {g:Bool}
theorem qL (h:c.cp a b<0∨s.2.2.getD a 0<0∨s.2.2.getD b 0<0):stF c d a b s=s:=if_pos h
theorem zI (h:¬(c.cp a b<0∨s.2.2.getD a 0<0∨s.2.2.getD b 0<0)) (k:s.2.2.getD (c.cp a b).toNat 0<0):stF c d a b s=(true,true,s.2.2.set (c.cp a b).toNat (d.C (s.2.2.getD a 0) (s.2.2.getD b 0))):=by
 unfold stF;rw [if_neg h,if_pos k]
theorem vB (h:¬(c.cp a b<0∨s.2.2.getD a 0<0∨s.2.2.getD b 0<0)) (k:¬s.2.2.getD (c.cp a b).toNat 0<0):stF c d a b s=(decide (s.2.2.getD (c.cp a b).toNat 0=d.C (s.2.2.getD a 0) (s.2.2.getD b 0)),s.2.1,s.2.2):=by
 unfold stF;rw [if_neg h,if_neg k]
theorem wL:gH c d a 0 s=s:=rfl
theorem uQ (h:(gH c d a b s).1=true):gH c d a (b+1) s=stF c d a b (gH c d a b s):=by rw [gH];exact if_pos h
theorem aC4 (h:(gH c d a b s).1=false):gH c d a (b+1) s=gH c d a b s:=by rw [gH];exact if_neg (by rw [h];simp)
theorem aCl (h:(gH c d a b s).1=false):∀{n:Nat},b≤n→gH c d a n s=gH c d a b s
 |0,hn=>by rw [show b=0 by omega]
 |n+1,hn=>by
  by_cases e:b=n+1
  ·rw [e]
  ·have ih:=aCl h (n:=n) (by omega)
   rw [aC4 (by rw [ih];exact h),ih]
theorem sP:bO c d m 0 s=s:=rfl
theorem pQ (h:(bO c d m a s).1=true):bO c d m (a+1) s=gH c d a m (bO c d m a s):=by rw [bO];exact if_pos h
theorem aAt (h:(bO c d m a s).1=false):bO c d m (a+1) s=bO c d m a s:=by rw [bO];exact if_neg (by rw [h];simp)
theorem aAu (h:(bO c d m a s).1=false):∀{n:Nat},a≤n→bO c d m n s=bO c d m a s
 |0,hn=>by rw [show a=0 by omega]
 |n+1,hn=>by
  by_cases e:a=n+1
  ·rw [e]
  ·have ih:=aAu h (n:=n) (by omega)
   rw [aAt (by rw [ih];exact h),ih]
structure VA (c d:Cat) (O A:List Int):Prop where
 len:A.length=c.fr.length
 lo:∀f:Nat,f<A.length→-1≤A.getD f 0
 hi:∀f:Nat,f<A.length→0≤A.getD f 0→A.getD f 0<d.fr.length∧d.fr.getD (A.getD f 0).toNat 0=O.getD (c.fr.getD f 0).toNat 0∧d.to.getD (A.getD f 0).toNat 0=O.getD (c.to.getD f 0).toNat 0
theorem mW (hc:Shape c) (ha:a<c.fr.length) (hb:b<c.fr.length) (h0:0≤c.cp a b):c.to.getD a 0=c.fr.getD b 0∧(c.cp a b).toNat<c.fr.length∧c.fr.getD (c.cp a b).toNat 0=c.fr.getD a 0∧c.to.getD (c.cp a b).toNat 0=c.to.getD b 0:=by
 have:=(hc.coe a ha).2 b hb
 unfold Cat.Entry at this
 simp only [Cat.F,Cat.T,Cat.C,Int.toNat_natCast]at this
 rcases this with⟨h1,h2,h3,h4⟩|⟨h1,h2⟩
 ·exact⟨h1,by show((c.co.getD a []).getD b 0).toNat<_;omega,h3,h4⟩
 ·exact absurd h0 (by show¬0≤(c.co.getD a []).getD b 0;omega)
theorem aIr (hd:Shape d) (ha:a<d.fr.length) (hb:b<d.fr.length) (h:d.to.getD a 0=d.fr.getD b 0):0≤d.cp a b∧d.cp a b<d.fr.length∧d.fr.getD (d.cp a b).toNat 0=d.fr.getD a 0∧d.to.getD (d.cp a b).toNat 0=d.to.getD b 0:=by
 have:=(hd.coe a ha).2 b hb
 unfold Cat.Entry at this
 simp only [Cat.F,Cat.T,Cat.C,Int.toNat_natCast]at this
 rcases this with⟨h1,h2,h3,h4⟩|⟨h1,h2⟩
 ·exact⟨h2.1,h2.2,h3,h4⟩
 ·exact absurd h h1
theorem VA.comp (hc:Shape c) (hd:Shape d) (h:VA c d O A) (ha:a<c.fr.length) (hb:b<c.fr.length) (h0:0≤c.cp a b) (a0:0≤A.getD a 0) (b0:0≤A.getD b 0):
  0≤d.C (A.getD a 0) (A.getD b 0)∧d.C (A.getD a 0) (A.getD b 0)<d.fr.length∧d.fr.getD (d.C (A.getD a 0) (A.getD b 0)).toNat 0=O.getD (c.fr.getD (c.cp a b).toNat 0).toNat 0∧d.to.getD (d.C (A.getD a 0) (A.getD b 0)).toNat 0=O.getD (c.to.getD (c.cp a b).toNat 0).toNat 0:=by
 obtain⟨e1,e2,e3,e4⟩:=mW hc ha hb h0
 obtain⟨p1,p2,p3⟩:=h.hi a (by rw [h.len];exact ha) a0
 obtain⟨q1,q2,q3⟩:=h.hi b (by rw [h.len];exact hb) b0
 obtain⟨r1,r2,r3,r4⟩:=aIr hd (a:=(A.getD a 0).toNat) (b:=(A.getD b 0).toNat) (by omega) (by omega) (by rw [p3,q2,e1])
 exact⟨r1,r2,by rw [e3,←p2];exact r3,by rw [e4,←q3];exact r4⟩
theorem VA.set (h:VA c d O A) {i:Nat} {v:Int} (hi:i<A.length) (v0:0≤v) (v1:v<d.fr.length) (v2:d.fr.getD v.toNat 0=O.getD (c.fr.getD i 0).toNat 0) (v3:d.to.getD v.toNat 0=O.getD (c.to.getD i 0).toNat 0):VA c d O (A.set i v):=by
 refine⟨by simp [h.len],fun f hf=>?_,fun f hf=>?_⟩
 ·rw [cN hi]
  by_cases e:f=i
  ·rw [if_pos e];omega
  ·rw [if_neg e];exact h.lo f (by simpa using hf)
 ·rw [cN hi]
  by_cases e:f=i
  ·subst e;rw [if_pos rfl];exact fun _=>⟨v1,v2,v3⟩
  ·rw [if_neg e];exact h.hi f (by simpa using hf)
theorem VA.rng (h:VA c d O A):RngL (List.replicate c.fr.length d.fr.length) A:=⟨by rw [List.length_replicate];exact h.len,fun j hj=>by
 have h1:=h.lo j hj
 have h2:=h.hi j hj
 have h3:=h.len
 have e:(List.replicate c.fr.length d.fr.length).getD j 0=d.fr.length:=by
  rw [List.getD_eq_getElem?_getD,List.getElem?_replicate,if_pos (by omega)];rfl
 rw [e]
 by_cases h0:0≤A.getD j 0
 ·exact⟨h1,(h2 h0).1⟩
 ·exact⟨h1,by omega⟩⟩
def Cmp (c d:Cat) (Q:List Int):Prop:=∀a b:Nat,a<c.fr.length→b<c.fr.length→0≤c.cp a b→Q.getD (c.cp a b).toNat 0=d.C (Q.getD a 0) (Q.getD b 0)
structure Ff (c d:Cat) (O A:List Int) (g:Bool) (t:Fs):Prop where
 va:VA c d O t.2.2
 ext:XtL A t.2.2
 keep:t.2.1=false→g=false∧t.2.2=A
 prog:t.2.1=true→g=true∨uns t.2.2<uns A
 snd:∀Q,Cmp c d Q→eQ A Q=true→t.1=true∧eQ t.2.2 Q=true
theorem Ff.refl (h:VA c d O A):Ff c d O A g (true,g,A):=⟨h, .refl _,fun e=>⟨e,rfl⟩,fun e=> .inl e,fun _ _ h=>⟨rfl,h⟩⟩
theorem Ff.trans (h:Ff c d O A g t) (k:Ff c d O t.2.2 t.2.1 u):Ff c d O A g u:=by
 refine⟨k.va,h.ext.trans k.ext,fun e=>?_,fun e=>?_,fun Q hq hA=>k.snd Q hq (h.snd Q hq hA).2⟩
 ·obtain⟨e1,e2⟩:=k.keep e
  obtain⟨e3,e4⟩:=h.keep e1
  exact⟨e3,e2.trans e4⟩
 ·have u1:=h.ext.uns
  have u2:=k.ext.uns
  rcases k.prog e with e1|e1
  ·rcases h.prog e1 with e2|e2
   ·exact .inl e2
   ·exact .inr (by omega)
  ·exact .inr (by omega)
theorem aHR (hc:Shape c) (hd:Shape d) (h:VA c d O s.2.2) (ha:a<c.fr.length) (hb:b<c.fr.length) (h1:s.1=true):Ff c d O s.2.2 s.2.1 (stF c d a b s):=by
 have es:s=(true,s.2.1,s.2.2):=by rw [←h1]
 by_cases hk:c.cp a b<0∨s.2.2.getD a 0<0∨s.2.2.getD b 0<0
 ·rw [qL hk,es]
  exact .refl h
 ·have c0:0≤c.cp a b:=by omega
  have a0:0≤s.2.2.getD a 0:=by omega
  have b0:0≤s.2.2.getD b 0:=by omega
  obtain⟨v0,v1,v2,v3⟩:=h.comp hc hd ha hb c0 a0 b0
  have hh:=(mW hc ha hb c0).2.1
  have hl:=h.len
  have hQ:∀Q,Cmp c d Q→eQ s.2.2 Q=true→Q.getD (c.cp a b).toNat 0=d.C (s.2.2.getD a 0) (s.2.2.getD b 0):=fun Q hq hA=>by
   have e1:=(contB_iff.1 hA).2 a (by omega) a0
   have e2:=(contB_iff.1 hA).2 b (by omega) b0
   rw [hq a b ha hb c0,e1,e2]
  by_cases hn:s.2.2.getD (c.cp a b).toNat 0<0
  ·rw [zI hk hn]
   refine⟨h.set (by omega) v0 v1 v2 v3, .set (by omega) (by omega),fun e=>(Bool.noConfusion e),fun _=> .inr ?_,fun Q hq hA=>⟨rfl,?_⟩⟩
   ·refine(XtL.set (e:=d.C (s.2.2.getD a 0) (s.2.2.getD b 0)) (A:=s.2.2) (i:=(c.cp a b).toNat) (by omega) (by omega)).uns_lt (j:=(c.cp a b).toNat) (by omega) hn ?_
    rw [cN (by omega),if_pos rfl];exact v0
   ·have e:=hQ Q hq hA
    rw [contB_iff]at hA⊢
    refine⟨by simpa using hA.1,fun j hj h1=>?_⟩
    show Q.getD j 0=(s.2.2.set _ _).getD j 0
    have h1:0≤(s.2.2.set _ _).getD j 0:=h1
    rw [cN (by omega)]at h1⊢
    by_cases q:j=(c.cp a b).toNat
    ·rw [if_pos q,q];exact e
    ·rw [if_neg q]at h1⊢;exact hA.2 j (by simpa using hj) h1
  ·rw [vB hk hn]
   refine⟨h, .refl _,fun e=>⟨e,rfl⟩,fun e=> .inl e,fun Q hq hA=>⟨?_,hA⟩⟩
   have e:=hQ Q hq hA
   rw [(contB_iff.1 hA).2 _ (by omega) (by omega)]at e
   exact decide_eq_true e
theorem sU (hc:Shape c) (hd:Shape d) (h:VA c d O s.2.2) (ha:a<c.fr.length) (h1:s.1=true):∀{n:Nat},n≤c.fr.length→Ff c d O s.2.2 s.2.1 (gH c d a n s)
 |0,_=>by
  have es:s=(true,s.2.1,s.2.2):=by rw [←h1]
  rw [wL]
  rw [es]
  exact .refl h
 |n+1,hn=>by
  have ih:=sU hc hd h ha h1 (n:=n) (by omega)
  cases hr:(gH c d a n s).1 with
  |true=>rw [uQ hr];exact ih.trans (aHR hc hd ih.va ha (by omega) hr)
  |false=>rw [aC4 hr];exact ih
theorem pP (hc:Shape c) (hd:Shape d) (h:VA c d O s.2.2) (h1:s.1=true):∀{n:Nat},n≤c.fr.length→Ff c d O s.2.2 s.2.1 (bO c d c.fr.length n s)
 |0,_=>by
  have es:s=(true,s.2.1,s.2.2):=by rw [←h1]
  rw [sP]
  rw [es]
  exact .refl h
 |n+1,hn=>by
  have ih:=pP hc hd h h1 (n:=n) (by omega)
  cases hr:(bO c d c.fr.length n s).1 with
  |true=>rw [pQ hr];exact ih.trans (sU hc hd ih.va (by omega) hr (Nat.le_refl _))
  |false=>rw [aAt hr];exact ih
def Clo (c d:Cat) (A:List Int) (a b:Nat):Prop:=0≤c.cp a b→0≤A.getD a 0→0≤A.getD b 0→A.getD (c.cp a b).toNat 0=d.C (A.getD a 0) (A.getD b 0)
theorem aLS (h1:(stF c d a b s).1=true) (h2:(stF c d a b s).2.1=false):Clo c d s.2.2 a b∧(stF c d a b s).2.2=s.2.2∧s.2.1=false:=by
 by_cases hk:c.cp a b<0∨s.2.2.getD a 0<0∨s.2.2.getD b 0<0
 ·rw [qL hk]at h2⊢
  exact⟨fun _ _ _=>by omega,rfl,h2⟩
 ·by_cases hn:s.2.2.getD (c.cp a b).toNat 0<0
  ·rw [zI hk hn]at h2;cases h2
  ·rw [vB hk hn]at h1 h2⊢
   exact⟨fun _ _ _=>by simpa using h1,rfl,h2⟩
theorem aEe:∀{n:Nat},(gH c d a n s).1=true→(gH c d a n s).2.1=false→(∀b,b<n→Clo c d s.2.2 a b)∧(gH c d a n s).2.2=s.2.2∧s.2.1=false
 |0,_,h2=>⟨fun b hb=>by omega,rfl,h2⟩
 |n+1,h1,h2=>by
  cases hr:(gH c d a n s).1 with
  |true=>
   rw [uQ hr]at h1 h2⊢
   obtain⟨e1,e2,e3⟩:=aLS h1 h2
   obtain⟨i1,i2,i3⟩:=aEe hr e3
   rw [i2]at e1 e2
   exact⟨bU i1 e1,e2,i3⟩
  |false=>rw [aC4 hr,hr]at h1;cases h1
theorem aCb:∀{n:Nat},(bO c d m n s).1=true→(bO c d m n s).2.1=false→(∀a,a<n→∀b,b<m→Clo c d s.2.2 a b)∧(bO c d m n s).2.2=s.2.2∧s.2.1=false
 |0,_,h2=>⟨fun b hb=>by omega,rfl,h2⟩
 |n+1,h1,h2=>by
  cases hr:(bO c d m n s).1 with
  |true=>
   rw [pQ hr]at h1 h2⊢
   obtain⟨e1,e2,e3⟩:=aEe h1 h2
   obtain⟨i1,i2,i3⟩:=aCb hr e3
   rw [i2]at e1 e2
   exact⟨bU i1 e1,e2,i3⟩
  |false=>rw [aAt hr,hr]at h1;cases h1
theorem aBX (h1:(bO c d c.fr.length c.fr.length (true,false,A)).1=true) (h2:(bO c d c.fr.length c.fr.length (true,false,A)).2.1=true):eY c d (k+1) A=eY c d k (bO c d c.fr.length c.fr.length (true,false,A)).2.2:=by
 rw [eY,if_pos h1,if_pos h2]
theorem aAf (h1:(bO c d c.fr.length c.fr.length (true,false,A)).1=true) (h2:(bO c d c.fr.length c.fr.length (true,false,A)).2.1=false):eY c d (k+1) A=(true,(bO c d c.fr.length c.fr.length (true,false,A)).2.2):=by
 rw [eY,if_pos h1,if_neg (by rw [h2];simp)]
theorem aBY (h1:(bO c d c.fr.length c.fr.length (true,false,A)).1=false):eY c d (k+1) A=(false,(bO c d c.fr.length c.fr.length (true,false,A)).2.2):=by
 rw [eY,if_neg (by rw [h1];simp)]
structure Fo (c d:Cat) (O A:List Int) (t:Bool×List Int):Prop where
 va:VA c d O t.2
 ext:XtL A t.2
 clo:t.1=true→∀a,a<c.fr.length→∀b,b<c.fr.length→Clo c d t.2 a b
 snd:∀Q,Cmp c d Q→eQ A Q=true→t.1=true∧eQ t.2 Q=true
theorem tX (hc:Shape c) (hd:Shape d):∀{k:Nat} {A:List Int},VA c d O A→uns A<k→Fo c d O A (eY c d k A)
 |0,A,_,h=>by omega
 |k+1,A,h,hk=>by
  have f:=pP (s:=(true,false,A)) hc hd h rfl (Nat.le_refl _)
  cases h1:(bO c d c.fr.length c.fr.length (true,false,A)).1 with
  |false=>
   rw [aBY h1]
   exact⟨f.va,f.ext,fun e=>Bool.noConfusion e,fun Q hq hA=>by have:=(f.snd Q hq hA).1;rw [h1]at this;cases this⟩
  |true=>
   cases h2:(bO c d c.fr.length c.fr.length (true,false,A)).2.1 with
   |true=>
    rw [aBX h1 h2]
    have hu:uns (bO c d c.fr.length c.fr.length (true,false,A)).2.2<uns A:=by
     rcases f.prog h2 with e|e
     ·cases e
     ·exact e
    have ih:=tX hc hd (k:=k) f.va (by omega)
    exact⟨ih.va,f.ext.trans ih.ext,ih.clo,fun Q hq hA=>ih.snd Q hq (f.snd Q hq hA).2⟩
   |false=>
    rw [aAf h1 h2]
    obtain⟨g1,g2,_⟩:=aCb h1 h2
    have g2:(bO c d c.fr.length c.fr.length (true,false,A)).2.2=A:=g2
    exact⟨f.va,f.ext,fun _=>by rw [g2];exact g1,fun Q hq hA=>⟨rfl,(f.snd Q hq hA).2⟩⟩
def NdI (A:List Int):Prop:=∀i j:Nat,i<j→j<A.length→0≤A.getD i 0→A.getD i 0≠A.getD j 0
theorem NdI.of_cont (h:NdI Q) (k:eQ A Q=true):NdI A:=fun i j hij hj h0 e=>by
 rw [contB_iff]at k
 have e1:=k.2 i (by omega) h0
 have e2:=k.2 j hj (by omega)
 exact h i j hij (by omega) (by omega) (by omega)
noncomputable def oE (c d:Cat) (b:Bool) (A:List Int):Bool×List Int:=((eY c d (c.fr.length+1) A).1&&(!b||dec (NdI (eY c d (c.fr.length+1) A).2)),(eY c d (c.fr.length+1) A).2)
noncomputable def WA (c d:Cat) (b:Bool) (O Q:List Int):Bool:=dec (Fits ⟨c,d,O,Q⟩∧(b=true→NdI O∧NdI Q))
theorem WA_iff {b:Bool}:WA c d b O Q=true↔Fits ⟨c,d,O,Q⟩∧(b=true→NdI O∧NdI Q):=dec_iff
theorem Fits.cmp (h:Fits ⟨c,d,O,Q⟩):Cmp c d Q:=fun a b ha hb h0=>by
 have:=h.comp a b ha hb (by simpa only [Cat.C,Int.toNat_natCast]using h0)
 simpa only [Cat.C,Fun.A,Int.toNat_natCast]using this
structure Sp (c d:Cat) (b:Bool) (O A:List Int) (t:Bool×List Int):Prop where
 va:VA c d O t.2
 ext:XtL A t.2
 clo:t.1=true→∀a,a<c.fr.length→∀b,b<c.fr.length→Clo c d t.2 a b
 nd:t.1=true→b=true→NdI t.2
 snd:∀Q,WA c d b O Q=true→eQ A Q=true→t.1=true∧eQ t.2 Q=true
theorem aBv {b:Bool} (hc:Shape c) (hd:Shape d) (h:VA c d O A):Sp c d b O A (oE c d b A):=by
 have f:=tX hc hd (k:=c.fr.length+1) h (by have:=aFJ A;have:=h.len;omega)
 unfold oE
 refine⟨f.va,f.ext,fun e=>f.clo ?_,fun e hb=>?_,fun Q hQ hA=>?_⟩
 ·simp only [Bool.and_eq_true]at e;exact e.1
 ·subst hb
  simp only [Bool.and_eq_true,Bool.not_true,Bool.false_or]at e
  exact dec_iff.1 e.2
 ·obtain⟨w1,w2⟩:=WA_iff.1 hQ
  obtain⟨s1,s2⟩:=f.snd Q w1.cmp hA
  refine⟨?_,s2⟩
  simp only [Bool.and_eq_true]
  refine⟨s1,?_⟩
  cases b with
  |false=>rfl
  |true=>simp only [Bool.not_true,Bool.false_or];exact dec_iff.2 ((w2 rfl).2.of_cont s2)
end
end Go.Cats
end
section
namespace Go.Cats
def cH (f g:Fun) (a b:Nat):List Int:=f.tgt.hom (f.obs.getD a 0) (g.obs.getD b 0)
def cO (f g:Fun) (a b k:Nat):List (List Int):=
 (gK a fun a=>gK g.obs.length fun b=>(cH f g a b).map fun h=>[(a:Int),(b:Int),h])++(gK b fun b=>(cH f g a b).map fun h=>[(a:Int),(b:Int),h])++((cH f g a b).take k).map fun h=>[(a:Int),(b:Int),h]
def aK (f g:Fun):List (List Int):=cO f g f.obs.length 0 0
theorem aFY (f g:Fun):cO f g 0 0 0=[]:=by simp [cO,gK]
theorem aPO {f g:Fun} {a b k:Nat} (h:k<(cH f g a b).length):cO f g a b (k+1)=cO f g a b k++[[(a:Int),(b:Int),(cH f g a b).getD k 0]]:=by
 unfold cO
 have e:(cH f g a b).getD k 0=(cH f g a b)[k]:=by simp [List.getD_eq_getElem?_getD,h]
 rw [List.take_succ_eq_append_getElem h,List.map_append,e]
 simp only [List.append_assoc];rfl
theorem aPN {f g:Fun} {a b k:Nat} (h:(cH f g a b).length≤k):cO f g a (b+1) 0=cO f g a b k:=by
 unfold cO
 rw [List.take_of_length_le h,dX,List.take_zero]
 simp only [List.append_assoc,List.map_nil,List.append_nil]
theorem aPM {f g:Fun} {a:Nat}:cO f g (a+1) 0 0=cO f g a g.obs.length 0:=by
 unfold cO
 rw [dX,List.take_zero,List.take_zero,bV]
 simp only [List.append_assoc,List.map_nil,List.append_nil]
theorem aCD (f g:Fun) (a b:Nat):(cH f g a b).length≤f.tgt.fr.length:=Cat.hom_len _ _ _
theorem aIm (f g:Fun) (a b k n:Nat) (hn:f.tgt.fr.length≤n):(cO f g a b k).length≤a*(g.obs.length*n)+b*n+n:=by
 unfold cO
 have hc:∀a b,((cH f g a b).map fun h=>[(a:Int),(b:Int),h]).length≤n:=fun a b=>by
  rw [List.length_map];exact Nat.le_trans (aCD f g a b) hn
 have h1:=bQ (n:=a) (k:=g.obs.length*n) (f:=fun a=>gK g.obs.length fun b=>(cH f g a b).map fun h=>[(a:Int),(b:Int),h]) fun i _=>bQ fun j _=>hc i j
 have h2:=bQ (n:=b) (k:=n) (f:=fun b=>(cH f g a b).map fun h=>[(a:Int),(b:Int),h]) fun j _=>hc a j
 have h3:(((cH f g a b).take k).map fun h=>[(a:Int),(b:Int),h]).length≤n:=by
  rw [List.length_map,List.length_take];have:=aCD f g a b;omega
 simp only [List.length_append]
 omega
def bP (l:List (List Int)) (k n:Nat):List Int:=(l.take n).map fun r=>r.getD k 0
theorem mV (l:List (List Int)) (k:Nat):bP l k 0=[]:=rfl
theorem kJ {l:List (List Int)} {k n:Nat} (h:n<l.length):bP l k (n+1)=bP l k n++[(l.getD n []).getD k 0]:=by
 unfold bP
 have e:l.getD n []=l[n]:=by simp [List.getD_eq_getElem?_getD,h]
 rw [List.take_succ_eq_append_getElem h,List.map_append,e];rfl
theorem aZ (l:List (List Int)) (k n:Nat):(bP l k n).length=min n l.length:=by simp [bP]
end Go.Cats
end
section
namespace Go.Cats
abbrev rw' (O:List (List Int)) (p k:Nat):Int:=(O.getD p []).getD k 0
def cU (f:Fun) (k:Nat) (O:List (List Int)) (s t:Nat):List Int:=f.src.hom (rw' O s k) (rw' O t k)
def cC (f e:Fun) (O:List (List Int)) (s t:Nat) (u v:Int):Prop:=f.tgt.C (f.A u) (rw' O t 2)=f.tgt.C (rw' O s 2) (e.A v)
open Classical in
noncomputable def cE (f e:Fun) (O:List (List Int)) (s t i j:Nat):List (List Int):=
 if cC f e O s t ((cU f 0 O s t).getD i 0) ((cU e 1 O s t).getD j 0)then [[(s:Int),(t:Int),(cU f 0 O s t).getD i 0,(cU e 1 O s t).getD j 0]]else []
noncomputable def yA (f e:Fun) (O:List (List Int)) (s t i:Nat):List (List Int):=gK (cU e 1 O s t).length fun j=>cE f e O s t i j
noncomputable def mS (f e:Fun) (O:List (List Int)) (s t:Nat):List (List Int):=gK (cU f 0 O s t).length fun i=>yA f e O s t i
noncomputable def cA (f e:Fun) (O:List (List Int)) (s t i j:Nat):List (List Int):=
 (gK s fun s=>gK O.length fun t=>mS f e O s t)++(gK t fun t=>mS f e O s t)++(gK i fun i=>yA f e O s t i)++(gK j fun j=>cE f e O s t i j)
noncomputable def kF (f e:Fun) (O:List (List Int)):List (List Int):=cA f e O O.length 0 0 0
variable {f e:Fun} {O:List (List Int)} {s t i j:Nat}
theorem yU:cA f e O 0 0 0 0=[]:=by simp [cA,gK]
theorem aGV (h:cC f e O s t ((cU f 0 O s t).getD i 0) ((cU e 1 O s t).getD j 0)):cA f e O s t i (j+1)=cA f e O s t i j++[[(s:Int),(t:Int),(cU f 0 O s t).getD i 0,(cU e 1 O s t).getD j 0]]:=by
 unfold cA
 rw [dX,cE,if_pos h]
 simp only [List.append_assoc]
theorem aGU (h:¬cC f e O s t ((cU f 0 O s t).getD i 0) ((cU e 1 O s t).getD j 0)):cA f e O s t i (j+1)=cA f e O s t i j:=by
 unfold cA
 rw [dX,cE,if_neg h,List.append_nil]
theorem aES (h:j=(cU e 1 O s t).length):cA f e O s t (i+1) 0=cA f e O s t i j:=by
 unfold cA
 rw [dX,bV,h]
 simp only [List.append_assoc,List.append_nil];rfl
theorem aFW (h:i=(cU f 0 O s t).length):cA f e O s (t+1) 0 0=cA f e O s t i 0:=by
 unfold cA
 rw [dX,bV,bV,bV,h]
 simp only [List.append_assoc,List.append_nil];rfl
theorem aIk (h:t=O.length):cA f e O (s+1) 0 0 0=cA f e O s t 0 0:=by
 unfold cA
 rw [dX,bV,bV,bV,bV,bV,h]
 simp only [List.append_assoc,List.append_nil]
theorem aIl (f e:Fun) (O:List (List Int)) (s t i j:Nat):(cE f e O s t i j).length≤1:=by unfold cE;split<;>simp
theorem pA (f:Fun) (k:Nat) (O:List (List Int)) (s t:Nat):(cU f k O s t).length≤f.src.fr.length:=Cat.hom_len _ _ _
theorem aDw (f e:Fun) (O:List (List Int)) (s t i:Nat) (h:e.src.fr.length≤40):(yA f e O s t i).length≤40:=by
 have:=bQ (n:=(cU e 1 O s t).length) (k:=1) (f:=fun j=>cE f e O s t i j) fun j _=>aIl ..
 have:=pA e 1 O s t
 unfold yA;omega
theorem aBI (f e:Fun) (O:List (List Int)) (s t:Nat) (h1:f.src.fr.length≤40) (h:e.src.fr.length≤40):(mS f e O s t).length≤1600:=by
 have:=bQ (n:=(cU f 0 O s t).length) (k:=40) (f:=fun i=>yA f e O s t i) fun i _=>aDw f e O s t i h
 have:=pA f 0 O s t
 unfold mS;omega
theorem aIj (h1:f.src.fr.length≤40) (h:e.src.fr.length≤40) (hO:O.length≤8):(cA f e O s t i j).length≤s*12800+t*1600+i*40+j:=by
 have a1:=bQ (n:=s) (k:=12800) (f:=fun s=>gK O.length fun t=>mS f e O s t) fun s _=>by
  have:=bQ (n:=O.length) (k:=1600) (f:=fun t=>mS f e O s t) fun t _=>aBI f e O s t h1 h
  omega
 have a2:=bQ (n:=t) (k:=1600) (f:=fun t=>mS f e O s t) fun t _=>aBI f e O s t h1 h
 have a3:=bQ (n:=i) (k:=40) (f:=fun i=>yA f e O s t i) fun i _=>aDw f e O s t i h
 have a4:=bQ (n:=j) (k:=1) (f:=fun j=>cE f e O s t i j) fun j _=>aIl ..
 unfold cA
 simp only [List.length_append]
 omega
structure ObjR (f e:Fun) (r:List Int):Prop where
 len:r.length=3
 lo:0≤r.getD 0 0
 lh:r.getD 0 0<f.src.ob
 ro:0≤r.getD 1 0
 rh:r.getD 1 0<e.src.ob
 ao:0≤r.getD 2 0
 ah:r.getD 2 0<f.tgt.fr.length
 frm:f.tgt.F (r.getD 2 0)=f.O (r.getD 0 0)
 to:f.tgt.T (r.getD 2 0)=e.O (r.getD 1 0)
def tG (f e:Fun) (O:List (List Int)):Prop:=∀p,p<O.length→ObjR f e (O.getD p [])
theorem mem_cU {k:Nat} {u:Int}:u∈cU f k O s t↔0≤u∧u<f.src.fr.length∧f.src.F u=rw' O s k∧f.src.T u=rw' O t k:=Cat.mem_hom
theorem aBJ {k i:Nat} (h:i<(cU f k O s t).length):0≤(cU f k O s t).getD i 0∧(cU f k O s t).getD i 0<f.src.fr.length∧f.src.F ((cU f k O s t).getD i 0)=rw' O s k∧f.src.T ((cU f k O s t).getD i 0)=rw' O t k:=by
 refine mem_cU.1 ?_
 rw [List.getD_eq_getElem?_getD,List.getElem?_eq_getElem h,Option.getD_some]
 exact List.getElem_mem h
theorem fG (hf:IsFun f) (he:IsFun e) (hT:f.tgt=e.tgt):tG f e (aK f e):=fun p hp=>by
 have h1:(aK f e).getD p []∈aK f e:=by
  rw [List.getD_eq_getElem?_getD,List.getElem?_eq_getElem hp,Option.getD_some]
  exact List.getElem_mem hp
 generalize (aK f e).getD p []=r at h1
 unfold aK cO at h1
 simp only [bV,List.take_zero,List.map_nil,List.append_nil,List.mem_append,mem_coll,List.mem_map,List.not_mem_nil,or_false]at h1
 obtain⟨a,ha,b,hb,h,hh,rfl⟩:=h1
 have h2:=Cat.mem_hom.1 hh
 have f1:=hf.fits.obl
 have e1:=he.fits.obl
 refine⟨rfl,?_,?_,?_,?_,?_,?_,?_,?_⟩<;>simp<;>(first|omega|simpa using h2.2.2.1|simpa using h2.2.2.2)
def aCO (l:List (List Int)) (r:List Int) (i:Nat):Option Int:=if l.getD i []=r then some (i:Int)else none
def fnd (l:List (List Int)) (r:List Int):Int:=(bS l.length (aCO l r)).getD (-1)
theorem aNg {l:List (List Int)} {r:List Int} {i:Nat} (h:¬l.getD i []=r):aCO l r i=none:=if_neg h
theorem aKZ {l:List (List Int)} {r:List Int} {i:Nat} (h:bS i (aCO l r)=none) (hi:i<l.length) (e:l.getD i []=r):fnd l r=i:=by
 unfold fnd
 rw [gL hi h (show aCO l r i=some (i:Int) from if_pos e)];rfl
theorem aIB {l:List (List Int)} {r:List Int} (h:bS l.length (aCO l r)=none):fnd l r= -1:=by unfold fnd;rw [h];rfl
end Go.Cats
end
section
namespace Go.Cats
def tb {α:Type} (n:Nat) (F:Nat→α):List α:=(List.range n).map F
theorem aGK {α:Type} (F:Nat→α):tb 0 F=[]:=rfl
theorem vI {α:Type} (n:Nat) (F:Nat→α):tb (n+1) F=tb n F++[F n]:=by simp [tb,List.range_succ]
theorem lM {α:Type} (n:Nat) (F:Nat→α):(tb n F).length=n:=by simp [tb]
theorem tb_at {α:Type} (n:Nat) (F:Nat→α) (d:α) {i:Nat} (h:i<n):(tb n F).getD i d=F i:=by simp [tb,h]
def bId (A:List (List Int)) (a b:Cat) (L R:List Int) (x:Nat):Int:=fnd A [(x:Int),(x:Int),a.id.getD (L.getD x 0).toNat 0,b.id.getD (R.getD x 0).toNat 0]
def zQ (A:List (List Int)) (a b:Cat) (i j:Nat):List Int:=[rw' A i 0,rw' A j 1,a.C (rw' A i 2) (rw' A j 2),b.C (rw' A i 3) (rw' A j 3)]
def aCA (A:List (List Int)) (a b:Cat) (i j:Nat):Int:=if rw' A i 1=rw' A j 0 then fnd A (zQ A a b i j)else-1
def nJ (N:Nat) (A:List (List Int)) (a b:Cat) (L R:List Int) (k:Nat):Cat:=
 ⟨N,bP A 0 A.length,bP A 1 A.length,tb N (bId A a b L R),tb k fun i=>tb A.length (aCA A a b i)⟩
theorem aML {A:List (List Int)} {a b:Cat} {i j:Nat} (h:rw' A i 1=rw' A j 0):aCA A a b i j=fnd A (zQ A a b i j):=if_pos h
theorem aMK {A:List (List Int)} {a b:Cat} {i j:Nat} (h:¬rw' A i 1=rw' A j 0):aCA A a b i j= -1:=if_neg h
structure ArrR (a b:Cat) (r:List Int):Prop where
 len:r.length=4
 ul:0≤r.getD 2 0
 uh:r.getD 2 0<a.fr.length
 vl:0≤r.getD 3 0
 vh:r.getD 3 0<b.fr.length
def aL0 (a b:Cat) (A:List (List Int)):Prop:=∀i,i<A.length→ArrR a b (A.getD i [])
theorem kN {l:List (List Int)} {i:Nat} (h:i<l.length):l.getD i []∈l:=by
 rw [List.getD_eq_getElem?_getD,List.getElem?_eq_getElem h,Option.getD_some];exact List.getElem_mem h
theorem aAq {l:List Int} {i:Nat} (h:i<l.length):l.getD i 0∈l:=by
 rw [List.getD_eq_getElem?_getD,List.getElem?_eq_getElem h,Option.getD_some];exact List.getElem_mem h
theorem fH {l:List (List Int)} {k n i:Nat} (h:i<n) (hn:n≤l.length):(bP l k n).getD i 0=(l.getD i []).getD k 0:=by
 have hi:i<l.length:=by omega
 unfold bP
 simp only [List.getD_eq_getElem?_getD,List.getElem?_map,List.getElem?_take_of_lt h,List.getElem?_eq_getElem hi,Option.map_some,Option.getD_some]
theorem mem_cArr {f e:Fun} {O:List (List Int)} {r:List Int}:r∈kF f e O↔∃s t u v,s<O.length∧t<O.length∧u∈cU f 0 O s t∧v∈cU e 1 O s t∧cC f e O s t u v∧r=[(s:Int),(t:Int),u,v]:=by
 unfold kF cA mS yA
 simp only [bV,List.append_nil,mem_coll]
 constructor
 ·rintro⟨s,hs,t,ht,i,hi,j,hj,h⟩
  unfold cE at h
  split at h
  ·next hc=>exact⟨s,t,_,_,hs,ht,aAq hi,aAq hj,hc,by simpa using h⟩
  ·simp at h
 ·rintro⟨s,t,u,v,hs,ht,hu,hv,hc,rfl⟩
  obtain⟨i,hi,rfl⟩:=List.getElem_of_mem hu
  obtain⟨j,hj,rfl⟩:=List.getElem_of_mem hv
  have e1:(cU f 0 O s t).getD i 0=(cU f 0 O s t)[i]:=by simp [List.getD_eq_getElem?_getD,hi]
  have e2:(cU e 1 O s t).getD j 0=(cU e 1 O s t)[j]:=by simp [List.getD_eq_getElem?_getD,hj]
  refine⟨s,hs,t,ht,i,hi,j,hj,?_⟩
  unfold cE
  rw [e1,e2,if_pos hc]
  simp
theorem yV (f e:Fun) (O:List (List Int)):aL0 f.src e.src (kF f e O):=fun i hi=>by
 obtain⟨s,t,u,v,_,_,hu,hv,_,h⟩:=mem_cArr.1 (kN hi)
 rw [h]
 have h1:=mem_cU.1 hu
 have h2:=mem_cU.1 hv
 exact⟨rfl,h1.1,h1.2.1,h2.1,h2.2.1⟩
theorem aDv {f e:Fun} {O:List (List Int)} (h1:f.src.fr.length≤40) (h:e.src.fr.length≤40) (hO:O.length≤8):(kF f e O).length≤102400:=by
 have:=aIj (s:=O.length) (t:=0) (i:=0) (j:=0) h1 h hO
 unfold kF;omega
theorem aM9 {f e:Fun} {O:List (List Int)} (h:tG f e O):Within (bP O 0 O.length) f.src.ob:=fun i hi=>by
 rw [aZ]at hi
 rw [fH (by omega) (by omega)]
 exact⟨(h i (by omega)).lo,(h i (by omega)).lh⟩
theorem aNa {f e:Fun} {O:List (List Int)} (h:tG f e O):Within (bP O 1 O.length) e.src.ob:=fun i hi=>by
 rw [aZ]at hi
 rw [fH (by omega) (by omega)]
 exact⟨(h i (by omega)).ro,(h i (by omega)).rh⟩
noncomputable def cmA (f e:Fun):List (List Int):=kF f e (aK f e)
noncomputable def cmC (f e:Fun) (k:Nat):Cat:=nJ (aK f e).length (cmA f e) f.src e.src (bP (aK f e) 0 (aK f e).length) (bP (aK f e) 1 (aK f e).length) k
end Go.Cats
end
section
namespace Go.Cats
theorem qT {α:Type} {n m:Nat} {f:Nat→List α} (h:n≤m):(gK n f).length≤(gK m f).length:=by
 induction m with
 |zero=>rw [show n=0 by omega];exact Nat.le_refl _
 |succ m ih=>
  by_cases e:n=m+1
  ·subst e;exact Nat.le_refl _
  ·rw [dX,List.length_append];have:=ih (by omega);omega
variable {f e:Fun} {O:List (List Int)} {s t i j:Nat}
theorem aMX (h:j≤(cU e 1 O s t).length):(cA f e O s t i j).length≤(cA f e O s t (i+1) 0).length:=by
 rw [aES (f:=f) (e:=e) (O:=O) (s:=s) (t:=t) (i:=i) rfl]
 unfold cA
 simp only [List.length_append]
 have:=qT (f:=fun j=>cE f e O s t i j) h
 omega
theorem aMY (h:i≤(cU f 0 O s t).length):(cA f e O s t i 0).length≤(cA f e O s (t+1) 0 0).length:=by
 rw [aFW (f:=f) (e:=e) (O:=O) (s:=s) (t:=t) rfl]
 unfold cA
 simp only [List.length_append,bV,List.length_nil]
 have:=qT (f:=fun i=>yA f e O s t i) h
 omega
theorem aMZ (h:t≤O.length):(cA f e O s t 0 0).length≤(cA f e O (s+1) 0 0 0).length:=by
 rw [aIk (f:=f) (e:=e) (O:=O) (s:=s) rfl]
 unfold cA
 simp only [List.length_append,bV,List.length_nil]
 have:=qT (f:=fun t=>mS f e O s t) h
 omega
theorem aM0 (h:s≤O.length):(cA f e O s 0 0 0).length≤(kF f e O).length:=by
 unfold kF cA
 simp only [List.length_append,bV,List.length_nil]
 have:=qT (f:=fun s=>gK O.length fun t=>mS f e O s t) h
 omega
theorem aFV (hi:i<(cU f 0 O s t).length) (hj:j≤(cU e 1 O s t).length):(cA f e O s t i j).length≤(cA f e O s (t+1) 0 0).length:=
 Nat.le_trans (aMX hj) (aMY (by omega))
theorem aMW (hs:s<O.length) (ht:t<O.length):(cA f e O s (t+1) 0 0).length≤(kF f e O).length:=
 Nat.le_trans (aMZ (by omega)) (aM0 (by omega))
end Go.Cats
end
section
namespace Go.Cats
theorem kX {α:Type} {n:Nat} {f:Nat→List α} (h1:∀i,i<n→(f i).Nodup) (h2:∀i j x,i<n→j<n→x∈f i→x∈f j→i=j):(gK n f).Nodup:=by
 unfold gK List.Nodup
 rw [List.pairwise_flatMap]
 refine⟨fun a ha=>h1 a (List.mem_range.1 ha),?_⟩
 refine List.Pairwise.imp_of_mem ?_ (List.pairwise_lt_range (n:=n))
 intro a b ha hb hab x hx y hy e
 subst e
 have:=h2 a b x (List.mem_range.1 ha) (List.mem_range.1 hb) hx hy
 omega
theorem Cat.hom_nodup (c:Cat) (x y:Int):(c.hom x y).Nodup:=by
 unfold Cat.hom Cat.homI
 refine kX (fun i _=>by split<;>simp) fun i j z _ _ hi hj=>?_
 split at hi
 ·split at hj
  ·simp at hi hj;omega
  ·simp at hj
 ·simp at hi
theorem aB6 {l:List Int} (h:l.Nodup) {i j:Nat} (hi:i<l.length) (hj:j<l.length) (e:l.getD i 0=l.getD j 0):i=j:=by
 rw [List.getD_eq_getElem?_getD,List.getD_eq_getElem?_getD,List.getElem?_eq_getElem hi,List.getElem?_eq_getElem hj,Option.getD_some,Option.getD_some]at e
 unfold List.Nodup at h
 rw [List.pairwise_iff_getElem]at h
 rcases Nat.lt_trichotomy i j with hl|hl|hl
 ·exact absurd e (h i j hi hj hl)
 ·exact hl
 ·exact absurd e.symm (h j i hj hi hl)
variable {f e:Fun} {O:List (List Int)} {s t i j:Nat}
theorem aFb {x:List Int} (h:x∈cE f e O s t i j):x=[(s:Int),(t:Int),(cU f 0 O s t).getD i 0,(cU e 1 O s t).getD j 0]:=by
 unfold cE at h
 split at h
 ·simpa using h
 ·simp at h
theorem aAo {x:List Int} (h:x∈yA f e O s t i):∃j,j<(cU e 1 O s t).length∧x=[(s:Int),(t:Int),(cU f 0 O s t).getD i 0,(cU e 1 O s t).getD j 0]:=by
 unfold yA at h
 obtain⟨j,hj,hx⟩:=mem_coll.1 h
 exact⟨j,hj,aFb hx⟩
theorem qX {x:List Int} (h:x∈mS f e O s t):x.getD 0 0=s∧x.getD 1 0=t:=by
 unfold mS at h
 obtain⟨i,_,hx⟩:=mem_coll.1 h
 obtain⟨j,_,rfl⟩:=aAo hx
 exact⟨rfl,rfl⟩
theorem zS (f e:Fun) (O:List (List Int)):(kF f e O).Nodup:=by
 unfold kF cA
 simp only [bV,List.append_nil]
 refine kX (fun s _=>kX (fun t _=>kX (fun i hi=>kX (fun j hj=>?_) ?_) ?_) ?_) ?_
 ·unfold cE;split<;>simp
 ·intro j j' x hj hj' hx hx'
  have:=(aFb hx).symm.trans (aFb hx')
  simp only [List.cons.injEq,and_true,true_and]at this
  exact aB6 (Cat.hom_nodup _ _ _) hj hj' this
 ·intro i i' x hi hi' hx hx'
  obtain⟨j,_,e1⟩:=aAo hx
  obtain⟨j',_,e2⟩:=aAo hx'
  have:=e1.symm.trans e2
  simp only [List.cons.injEq,and_true,true_and]at this
  exact aB6 (Cat.hom_nodup _ _ _) hi hi' this.1
 ·intro t t' x _ _ hx hx'
  have h1:=(qX hx).2
  have h2:=(qX hx').2
  omega
 ·intro s s' x _ _ hx hx'
  obtain⟨t,_,hx⟩:=mem_coll.1 hx
  obtain⟨t',_,hx'⟩:=mem_coll.1 hx'
  have h1:=(qX hx).1
  have h2:=(qX hx').1
  omega
theorem yY {l:List (List Int)} {r:List Int} (h:r∈l):∃i:Nat,i<l.length∧l.getD i []=r∧fnd l r=i:=by
 cases hs:bS l.length (aCO l r)with
 |none=>
  exfalso
  obtain⟨i,hi,rfl⟩:=List.getElem_of_mem h
  have:=scan_none.1 hs i hi
  unfold aCO at this
  rw [if_pos (by rw [List.getD_eq_getElem?_getD,List.getElem?_eq_getElem hi];rfl)]at this
  cases this
 |some x=>
  obtain⟨i,hi,k⟩:=fM hs
  unfold aCO at k
  split at k
  ·rename_i e
   cases k
   exact⟨i,hi,e,by unfold fnd;rw [hs];rfl⟩
  ·cases k
/-! ### Identities and composites -/
theorem IsCat.unlI {c:Cat} (h:IsCat c) {f:Int} (h0:0≤f) (h1:f<c.fr.length):c.C (c.I (c.F f)) f=f:=by
 have:=h.unl f.toNat (by omega)
 rwa [Int.toNat_of_nonneg h0]at this
theorem IsCat.unrI {c:Cat} (h:IsCat c) {f:Int} (h0:0≤f) (h1:f<c.fr.length):c.C f (c.I (c.T f))=f:=by
 have:=h.unr f.toNat (by omega)
 rwa [Int.toNat_of_nonneg h0]at this
theorem IsCat.assI {c:Cat} (k:IsCat c) {f g h:Int} (f0:0≤f) (f1:f<c.fr.length) (g0:0≤g) (g1:g<c.fr.length) (h0:0≤h) (h1:h<c.fr.length) (e1:c.T f=c.F g) (e2:c.T g=c.F h):c.C (c.C f g) h=c.C f (c.C g h):=by
 have:=k.ass f.toNat g.toNat h.toNat (by omega) (by omega) (by omega)
 rw [Int.toNat_of_nonneg f0,Int.toNat_of_nonneg g0,Int.toNat_of_nonneg h0]at this
 exact this e1 e2
theorem IsCat.compI {c:Cat} (k:IsCat c) {f g:Int} (f0:0≤f) (f1:f<c.fr.length) (g0:0≤g) (g1:g<c.fr.length) (e1:c.T f=c.F g):0≤c.C f g∧c.C f g<c.fr.length∧c.F (c.C f g)=c.F f∧c.T (c.C f g)=c.T g:=by
 have h:=(k.coe f.toNat (by omega)).2 g.toNat (by omega)
 unfold Cat.Entry at h
 rw [Int.toNat_of_nonneg f0,Int.toNat_of_nonneg g0]at h
 rcases h with⟨_,h2,h3,h4⟩|⟨h2,_⟩
 ·exact⟨h2.1,h2.2,h3,h4⟩
 ·exact absurd e1 h2
theorem IsCat.idI {c:Cat} (k:IsCat c) {x:Int} (h0:0≤x) (h1:x<c.ob):0≤c.I x∧c.I x<c.fr.length∧c.F (c.I x)=x∧c.T (c.I x)=x:=by
 have hl:=k.idl
 have h2:=k.idw x.toNat (by omega)
 have h3:=k.ide x.toNat (by omega)
 rw [Int.toNat_of_nonneg h0]at h3
 exact⟨h2.1,h2.2,h3.1,h3.2⟩
theorem IsFun.arI {f:Fun} (k:IsFun f) {a:Int} (h0:0≤a) (h1:a<f.src.fr.length):0≤f.A a∧f.A a<f.tgt.fr.length∧f.tgt.F (f.A a)=f.O (f.src.F a)∧f.tgt.T (f.A a)=f.O (f.src.T a):=by
 have hl:=k.fits.arl
 have h2:=k.fits.arw a.toNat (by omega)
 have h3:=k.fits.endf a.toNat (by omega)
 have e1:f.src.F (a.toNat:Int)=f.src.F a:=by rw [Int.toNat_of_nonneg h0]
 have e2:f.src.T (a.toNat:Int)=f.src.T a:=by rw [Int.toNat_of_nonneg h0]
 rw [e1,e2]at h3
 exact⟨h2.1,h2.2,h3.1,h3.2⟩
theorem IsFun.unI {f:Fun} (k:IsFun f) {x:Int} (h0:0≤x) (h1:x<f.src.ob):f.A (f.src.I x)=f.tgt.I (f.O x):=by
 have hl:=k.src.idl
 have:=k.fits.unit x.toNat (by omega)
 rwa [Int.toNat_of_nonneg h0]at this
theorem IsFun.coI {f:Fun} (k:IsFun f) {a b:Int} (a0:0≤a) (a1:a<f.src.fr.length) (b0:0≤b) (b1:b<f.src.fr.length) (e:f.src.T a=f.src.F b):f.A (f.src.C a b)=f.tgt.C (f.A a) (f.A b):=by
 have h:=k.fits.comp a.toNat b.toNat (by omega) (by omega)
 rw [Int.toNat_of_nonneg a0,Int.toNat_of_nonneg b0]at h
 exact h (k.src.compI a0 a1 b0 b1 e).1
theorem aFX (hf:IsFun f) (he:IsFun e) (hT:f.tgt=e.tgt) (hO:tG f e O) {p:Nat} (hp:p<O.length):[(p:Int),(p:Int),f.src.I (rw' O p 0),e.src.I (rw' O p 1)]∈kF f e O:=by
 obtain⟨_,l0,l1,r0,r1,a0,a1,hF,hTo⟩:=hO p hp
 obtain⟨u1,u2,u3,u4⟩:=hf.src.idI l0 l1
 obtain⟨v1,v2,v3,v4⟩:=he.src.idI r0 r1
 refine mem_cArr.2 ⟨p,p,_,_,hp,hp,mem_cU.2 ⟨u1,u2,u3,u4⟩,mem_cU.2 ⟨v1,v2,v3,v4⟩,?_,rfl⟩
 unfold cC
 rw [hf.unI l0 l1,he.unI r0 r1,←hT]
 show f.tgt.C (f.tgt.I (f.O ((O.getD p []).getD 0 0))) ((O.getD p []).getD 2 0)=f.tgt.C ((O.getD p []).getD 2 0) (f.tgt.I (e.O ((O.getD p []).getD 1 0)))
 rw [←hF,←hTo,hf.tgt.unlI a0 a1,hf.tgt.unrI a0 a1]
theorem aBH (hf:IsFun f) (he:IsFun e) (hT:f.tgt=e.tgt) (hO:tG f e O) {s t w:Nat} {u v u' v':Int} (hs:s<O.length) (ht:t<O.length) (hw:w<O.length)
  (hu:u∈cU f 0 O s t) (hv:v∈cU e 1 O s t) (hc:cC f e O s t u v) (hu':u'∈cU f 0 O t w) (hv':v'∈cU e 1 O t w) (hc':cC f e O t w u' v'):
  [(s:Int),(w:Int),f.src.C u u',e.src.C v v']∈kF f e O:=by
 obtain⟨u1,u2,u3,u4⟩:=mem_cU.1 hu
 obtain⟨v1,v2,v3,v4⟩:=mem_cU.1 hv
 obtain⟨x1,x2,x3,x4⟩:=mem_cU.1 hu'
 obtain⟨y1,y2,y3,y4⟩:=mem_cU.1 hv'
 have eu:f.src.T u=f.src.F u':=u4.trans x3.symm
 have ev:e.src.T v=e.src.F v':=v4.trans y3.symm
 obtain⟨m1,m2,m3,m4⟩:=hf.src.compI u1 u2 x1 x2 eu
 obtain⟨n1,n2,n3,n4⟩:=he.src.compI v1 v2 y1 y2 ev
 refine mem_cArr.2 ⟨s,w,_,_,hs,hw,mem_cU.2 ⟨m1,m2,m3.trans u3,m4.trans x4⟩,mem_cU.2 ⟨n1,n2,n3.trans v3,n4.trans y4⟩,?_,rfl⟩
 obtain⟨_,_,_,_,_,sa0,sa1,sF,sT⟩:=hO s hs
 obtain⟨_,_,_,_,_,ta0,ta1,tF,tT⟩:=hO t ht
 obtain⟨_,_,_,_,_,wa0,wa1,wF,wT⟩:=hO w hw
 obtain⟨fu0,fu1,fuF,fuT⟩:=hf.arI u1 u2
 obtain⟨fx0,fx1,fxF,fxT⟩:=hf.arI x1 x2
 obtain⟨ev0,ev1,evF,evT⟩:=he.arI v1 v2
 obtain⟨ey0,ey1,eyF,eyT⟩:=he.arI y1 y2
 rw [←hT]at ev1 evF evT ey1 eyF eyT
 rw [u3]at fuF;rw [u4]at fuT;rw [x3]at fxF;rw [x4]at fxT
 rw [v3]at evF;rw [v4]at evT;rw [y3]at eyF;rw [y4]at eyT
 unfold cC at hc hc'⊢
 rw [hf.coI u1 u2 x1 x2 eu,he.coI v1 v2 y1 y2 ev,←hT]
 rw [hf.tgt.assI fu0 fu1 fx0 fx1 wa0 wa1 (fuT.trans fxF.symm) (fxT.trans wF.symm),hc']
 rw [←hf.tgt.assI fu0 fu1 ta0 ta1 ey0 ey1 (fuT.trans tF.symm) (tT.trans eyF.symm),hc]
 rw [hf.tgt.assI sa0 sa1 ev0 ev1 ey0 ey1 (sT.trans evF.symm) (evT.trans eyF.symm)]
end Go.Cats
end
section
namespace Go.Cats
structure XOK (c d:Cat) (b:Bool) (X:List Int):Prop where
 len:(X.length:Int)=c.ob
 wi:Within X d.ob
 nd:b=true→NdI X
structure NX (c d:Cat) (b:Bool) (X A:List Int):Prop where
 va:VA c d X A
 clo:∀a,a<c.fr.length→∀b,b<c.fr.length→Clo c d A a b
 nd:b=true→NdI A
 un:∀x:Nat,x<c.id.length→A.getD (c.id.getD x 0).toNat 0=d.id.getD (X.getD x 0).toNat 0
abbrev sA (c d:Cat):List Nat:=List.replicate c.fr.length d.fr.length
def cR (c d:Cat) (X:List Int):Nat→List Int
 |0=>List.replicate c.fr.length (-1)
 |y+1=>(cR c d X y).set (c.id.getD y 0).toNat (d.id.getD (X.getD y 0).toNat 0)
def mO (c d:Cat) (X:List Int):List Int:=cR c d X c.id.length
noncomputable def aDN (c d:Cat) (b:Bool) (X:List Int):List (List Int):=fT (WA c d b X) (sA c d) (List.replicate c.fr.length (-1))
noncomputable def oQ (c d:Cat) (b:Bool):Nat→List Int→List Fun
 |0,X=>(aDN c d b X).map fun Q=>⟨c,d,X,Q⟩
 |r+1,X=>(List.range d.ob.toNat).flatMap fun y:Nat=>oQ c d b r (X++[(y:Int)])
def iE (W:List Int→Bool) (S:List Nat) (A:List Int) (i:Nat) (L:List Int):List (List Int):=L.flatMap fun v=>fT W S (A.set i v)
section
variable {c d:Cat} {b:Bool} {X A Q L:List Int} {i k:Nat} {v:Int} {W:List Int→Bool} {S:List Nat}
theorem aLG (h:i<c.fr.length):(sA c d).getD i 0=d.fr.length:=by
 rw [List.getD_eq_getElem?_getD,List.getElem?_replicate,if_pos h];rfl
theorem NX.leaf (hX:XOK c d b X) (h:NX c d b X A) (hf:∀j,j<A.length→0≤A.getD j 0):fT (WA c d b X) (sA c d) A=[A]:=by
 have hr:=h.va.rng
 rw [aBV hr.1 fun j hj=>⟨hf j hj,(hr.2 j hj).2⟩,if_pos]
 have hl:=h.va.len
 refine WA_iff.2 ⟨⟨hX.len,hl,hX.wi,fun i hi=>⟨hf i hi,(h.va.hi i hi (hf i hi)).1⟩,fun a ha=>?_,fun x hx=>?_,fun a b ha hb h0=>?_⟩,fun e=>⟨hX.nd e,h.nd e⟩⟩
 ·have:=h.va.hi a ha (hf a ha)
  simp only [Cat.F,Cat.T,Fun.O,Int.toNat_natCast]
  exact this.2
 ·have:=h.un x hx
  simp only [Cat.I,Fun.A,Fun.O,Int.toNat_natCast]
  exact this
 ·have h0:0≤c.cp a b:=by simpa only [Cat.C,Int.toNat_natCast]using h0
  have:=h.clo a ha b hb h0 (hf a (by rw [hl];exact ha)) (hf b (by rw [hl];exact hb))
  simp only [Cat.C,Fun.A,Int.toNat_natCast]
  exact this
theorem nL:iE W S A i []=[]:=rfl
theorem aDs (h:k<L.length):iE W S A i (L.take (k+1))=iE W S A i (L.take k)++fT W S (A.set i (L.getD k 0)):=by
 unfold iE
 rw [List.take_add_one,List.getElem?_eq_getElem h,List.flatMap_append,List.getD_eq_getElem?_getD,List.getElem?_eq_getElem h]
 simp
theorem aGb (h:VA c d X A) (hi:i<A.length) (hv:v∈d.hom (X.getD (c.fr.getD i 0).toNat 0) (X.getD (c.to.getD i 0).toNat 0)):VA c d X (A.set i v):=by
 obtain⟨h1,h2,h3,h4⟩:=Cat.mem_hom.1 hv
 exact h.set hi h1 h2 h3 h4
theorem aER (h:VA c d X A) (hi:i<A.length) (h0:A.getD i 0= -1) (hlt:∀j,j<i→0≤A.getD j 0):
  fT (WA c d b X) (sA c d) A=iE (WA c d b X) (sA c d) A i (d.hom (X.getD (c.fr.getD i 0).toNat 0) (X.getD (c.to.getD i 0).toNat 0)):=by
 have hl:=h.len
 rw [xM h.rng.1 hi hlt (by omega),aLG (by omega)]
 unfold iE Cat.hom Cat.homI gK
 rw [List.flatMap_assoc,List.flatMap_def,List.flatMap_def]
 congr 1
 refine List.map_congr_left fun u hu=>?_
 have hu:=List.mem_range.1 hu
 by_cases e:d.fr.getD u 0=X.getD (c.fr.getD i 0).toNat 0∧d.to.getD u 0=X.getD (c.to.getD i 0).toNat 0
 ·rw [if_pos e];simp
 ·rw [if_neg e,List.flatMap_nil]
  refine aDK fun Q hQ hW hc=>e ?_
  have e1:=(contB_iff.1 hc).2 i (by simpa using hi) (by rw [cN hi,if_pos rfl];omega)
  rw [cN hi,if_pos rfl]at e1
  obtain⟨w1,_⟩:=WA_iff.1 hW
  have:=w1.endf i (by show i<Q.length;rw [←(contB_iff.1 hc).1];simpa using hi)
  simp only [Cat.F,Cat.T,Fun.O,Int.toNat_natCast,e1]at this
  exact this
theorem nB (hc:Shape c) {x:Nat} (hx:x<c.id.length):(c.id.getD x 0).toNat<c.fr.length∧0≤c.id.getD x 0∧c.fr.getD (c.id.getD x 0).toNat 0=x∧c.to.getD (c.id.getD x 0).toNat 0=x:=by
 have h1:=hc.idw x hx
 have h2:=hc.ide x hx
 exact⟨by omega,h1.1,h2.1,h2.2⟩
theorem vJ (hc:Shape c) (hd:Shape d) (hX:XOK c d b X) {x:Nat} (hx:x<c.id.length):0≤X.getD x 0∧(X.getD x 0).toNat<d.id.length∧0≤d.id.getD (X.getD x 0).toNat 0∧d.id.getD (X.getD x 0).toNat 0<d.fr.length∧d.fr.getD (d.id.getD (X.getD x 0).toNat 0).toNat 0=X.getD x 0∧d.to.getD (d.id.getD (X.getD x 0).toNat 0).toNat 0=X.getD x 0:=by
 have h1:=hX.len
 have h2:=hc.idl
 have h3:=hX.wi x (by omega)
 have h4:=hd.idl
 have hx':(X.getD x 0).toNat<d.id.length:=by omega
 have h5:=hd.idw _ hx'
 have h6:=hd.ide _ hx'
 refine⟨h3.1,hx',h5.1,h5.2,?_,?_⟩
 ·have:=h6.1;simp only [Cat.F]at this;rw [this];omega
 ·have:=h6.2;simp only [Cat.T]at this;rw [this];omega
structure TryN (c d:Cat) (b:Bool) (X A:List Int) (E:List (List Int)) (t:Bool×List Int):Prop where
 va:VA c d X t.2
 ext:XtL A t.2
 yes:t.1=true→NX c d b X t.2∧E=fT (WA c d b X) (sA c d) t.2
 no:t.1=false→E=[]
theorem aFA (hc:Shape c) (hd:Shape d) (hX:XOK c d b X) (hA:VA c d X A) (hu:∀x:Nat,x<c.id.length→A.getD (c.id.getD x 0).toNat 0=d.id.getD (X.getD x 0).toNat 0):TryN c d b X A (fT (WA c d b X) (sA c d) A) (oE c d b A):=by
 have f:=aBv (b:=b) hc hd hA
 refine⟨f.va,f.ext,fun e=>⟨⟨f.va,f.clo e,f.nd e,fun x hx=>?_⟩,?_⟩,fun e=>?_⟩
 ·have h1:=nB hc hx
  have h2:=vJ hc hd hX hx
  rw [f.ext.2 _ (by rw [hA.len];exact h1.1) (by rw [hu x hx];exact h2.2.2.1),hu x hx]
 ·exact aAc fun Q hQ hW=>⟨fun k=>(f.snd Q hW k).2,fun k=>f.ext.cont k⟩
 ·exact aDK fun Q hQ hW k=>by have:=(f.snd Q hW k).1;rw [e]at this;cases this
theorem NX.try_ (hc:Shape c) (hd:Shape d) (hX:XOK c d b X) (h:NX c d b X A) (hi:i<A.length) (h0:A.getD i 0= -1) (hv:v∈d.hom (X.getD (c.fr.getD i 0).toNat 0) (X.getD (c.to.getD i 0).toNat 0)):
  TryN c d b X (A.set i v) (fT (WA c d b X) (sA c d) (A.set i v)) (oE c d b (A.set i v))∧uns (oE c d b (A.set i v)).2<uns A:=by
 have t:=aFA (b:=b) (X:=X) (A:=A.set i v) hc hd hX (aGb h.va hi hv) fun x hx=>by
  have h1:=h.un x hx
  have h2:=vJ hc hd hX hx
  rw [cN hi,if_neg,h1]
  intro e
  rw [e,h0]at h1
  omega
 have hv0:=(Cat.mem_hom.1 hv).1
 refine⟨t,?_⟩
 have x1:XtL A (A.set i v):= .set hi (by omega)
 have e1:=t.ext.2 i (by simpa using hi) (by rw [cN hi,if_pos rfl];exact hv0)
 rw [cN hi,if_pos rfl]at e1
 exact(x1.trans t.ext).uns_lt hi (by omega) (by rw [e1];exact hv0)
theorem gW:∀k,(cR c d X k).length=c.fr.length
 |0=>by simp [cR]
 |k+1=>by rw [cR,List.length_set,gW k]
theorem uO {n j:Nat}:(List.replicate n (-1:Int)).getD j 0=if j<n then-1 else 0:=by
 rw [List.getD_eq_getElem?_getD,List.getElem?_replicate]
 split<;>rfl
theorem aCq (hc:Shape c) (hd:Shape d) (hX:XOK c d b X):∀{k:Nat},k≤c.id.length→VA c d X (cR c d X k)
 |0,_=>by
  refine⟨by simp [cR],fun f hf=>?_,fun f hf h0=>?_⟩
  ·have hf:f<c.fr.length:=by simpa [cR]using hf
   rw [cR,uO,if_pos hf];omega
  ·have hf:f<c.fr.length:=by simpa [cR]using hf
   rw [cR,uO,if_pos hf]at h0;omega
 |k+1,hk=>by
  have ih:=aCq hc hd hX (k:=k) (by omega)
  have h1:=nB hc (x:=k) (by omega)
  have h2:=vJ hc hd hX (x:=k) (by omega)
  rw [cR]
  exact ih.set (by rw [gW];exact h1.1) h2.2.2.1 h2.2.2.2.1 (by rw [h2.2.2.2.2.1,h1.2.2.1,Int.toNat_natCast]) (by rw [h2.2.2.2.2.2,h1.2.2.2,Int.toNat_natCast])
theorem wX (hc:Shape c):∀{k:Nat},k≤c.id.length→∀x:Nat,x<k→(cR c d X k).getD (c.id.getD x 0).toNat 0=d.id.getD (X.getD x 0).toNat 0
 |0,_,x,hx=>by omega
 |k+1,hk,x,hx=>by
  have h1:=nB hc (x:=k) (by omega)
  have h2:=nB hc (x:=x) (by omega)
  rw [cR,cN (by rw [gW];exact h1.1)]
  by_cases e:x=k
  ·rw [e,if_pos rfl]
  ·rw [if_neg]
   ·exact wX hc (by omega) x (by omega)
   ·intro q
    have a1:=h1.2.2.1
    have a2:=h2.2.2.1
    rw [q]at a2
    omega
theorem xV (hc:Shape c) (hQ:Fits ⟨c,d,X,Q⟩):∀{k:Nat},k≤c.id.length→eQ (cR c d X k) Q=true
 |0,_=>by
  rw [contB_iff]
  refine⟨by rw [cR,List.length_replicate];exact hQ.arl.symm,fun i hi h0=>?_⟩
  have hi:i<c.fr.length:=by simpa [cR]using hi
  rw [cR,uO,if_pos hi]at h0
  omega
 |k+1,hk=>by
  have ih:=xV hc hQ (k:=k) (by omega)
  have h1:=nB hc (x:=k) (by omega)
  rw [contB_iff]at ih⊢
  rw [cR]
  refine⟨by simpa using ih.1,fun i hi h0=>?_⟩
  rw [cN (by rw [gW];exact h1.1)]at h0⊢
  by_cases e:i=(c.id.getD k 0).toNat
  ·rw [if_pos e,e]
   have:=hQ.unit k (by show k<c.id.length;omega)
   simpa only [Cat.I,Fun.A,Fun.O,Int.toNat_natCast]using this
  ·rw [if_neg e]at h0⊢
   exact ih.2 i (by simpa using hi) h0
/-! ### Objects -/
theorem aAp:∀{r:Nat} {X:List Int} {g:Fun},g∈oQ c d b r X→g.src=c∧g.tgt=d∧g.obs.take X.length=X∧WA c d b g.obs g.ars=true
 |0,X,g,h=>by
  rw [oQ]at h
  obtain⟨Q,hQ,rfl⟩:=List.mem_map.1 h
  exact⟨rfl,rfl,List.take_length,(mem_extW.1 hQ).2.2⟩
 |r+1,X,g,h=>by
  rw [oQ]at h
  obtain⟨y,hy,hg⟩:=List.mem_flatMap.1 h
  obtain⟨h1,h2,h3,h4⟩:=aAp hg
  refine⟨h1,h2,?_,h4⟩
  have:=congrArg (List.take X.length) h3
  rw [List.take_take,List.length_append,List.length_singleton,Nat.min_eq_left (by omega),List.take_append_of_le_length (Nat.le_refl _),List.take_length]at this
  exact this
theorem aIF {r:Nat} (h:∀O Q:List Int,O.take X.length=X→WA c d b O Q=true→False):oQ c d b r X=[]:=by
 rw [List.eq_nil_iff_forall_not_mem]
 intro g hg
 obtain⟨h1,h2,h3,h4⟩:=aAp hg
 exact h _ _ h3 h4
theorem qZ:∀{L M:List Int},L.Nodup→(∀x∈L,x∈M)→L.length≤M.length
 |[],M,_,_=>Nat.zero_le _
 |a::L,M,hn,hs=>by
  have ha:=hs a (List.mem_cons_self ..)
  have hn':=List.nodup_cons.1 hn
  have:=qZ (L:=L) (M:=M.erase a) hn'.2 fun x hx=>by
   have hne:x≠a:=fun e=>hn'.1 (e▸hx)
   exact(List.mem_erase_of_ne hne).2 (hs x (List.mem_cons_of_mem _ hx))
  rw [List.length_erase_of_mem ha]at this
  have hp:0<M.length:=List.length_pos_of_mem ha
  simp only [List.length_cons]
  omega
def aMC (c:Cat) (b:Bool) (p q:Int):Nat:=if b=true then(c.hom p q).length else 1
theorem aG8 {O:List Int} {f:Nat} (h:WA c d b O Q=true) (hf:f<c.fr.length):aMC c b (c.fr.getD f 0) (c.to.getD f 0)≤(d.hom (O.getD (c.fr.getD f 0).toNat 0) (O.getD (c.to.getD f 0).toNat 0)).length:=by
 obtain⟨w1,w2⟩:=WA_iff.1 h
 have hm:∀g:Nat,g<c.fr.length→c.fr.getD g 0=c.fr.getD f 0→c.to.getD g 0=c.to.getD f 0→Q.getD g 0∈d.hom (O.getD (c.fr.getD f 0).toNat 0) (O.getD (c.to.getD f 0).toNat 0):=fun g hg e1 e2=>by
  have a1:Q.length=c.fr.length:=w1.arl
  have a2:=w1.arw g (by show g<Q.length;omega)
  have a3:=w1.endf g (by show g<Q.length;omega)
  simp only [Cat.F,Cat.T,Fun.O,Int.toNat_natCast,e1,e2]at a3
  exact Cat.mem_hom.2 ⟨a2.1,a2.2,a3.1,a3.2⟩
 unfold aMC
 split
 ·rename_i hb
  have hn:=(w2 hb).2
  have e:((c.hom (c.fr.getD f 0) (c.to.getD f 0)).map fun g=>Q.getD g.toNat 0).length=(c.hom (c.fr.getD f 0) (c.to.getD f 0)).length:=List.length_map ..
  rw [←e]
  refine qZ ?_ fun x hx=>?_
  ·unfold List.Nodup
   rw [List.pairwise_map]
   refine List.Pairwise.imp_of_mem ?_ (Cat.hom_nodup c (c.fr.getD f 0) (c.to.getD f 0))
   intro g g' hg hg' hne e
   obtain⟨g1,g2,g3,g4⟩:=Cat.mem_hom.1 hg
   obtain⟨k1,k2,k3,k4⟩:=Cat.mem_hom.1 hg'
   have a1:Q.length=c.fr.length:=w1.arl
   have a2:=w1.arw g.toNat (by show _<Q.length;omega)
   have a3:=w1.arw g'.toNat (by show _<Q.length;omega)
   simp only at a2 a3
   rcases Nat.lt_trichotomy g.toNat g'.toNat with q|q|q
   ·exact hn _ _ q (by omega) a2.1 e
   ·exact hne (by omega)
   ·exact hn _ _ q (by omega) a3.1 e.symm
  ·obtain⟨g,hg,rfl⟩:=List.mem_map.1 hx
   obtain⟨g1,g2,g3,g4⟩:=Cat.mem_hom.1 hg
   exact hm g.toNat (by omega) g3 g4
 ·exact List.length_pos_of_mem (hm f hf rfl rfl)
theorem getD_take {l m:List Int} {n i:Nat} (h:l.take n=m) (hi:i<m.length):l.getD i 0=m.getD i 0:=by
 subst h
 rw [List.length_take]at hi
 rw [List.getD_eq_getElem?_getD,List.getD_eq_getElem?_getD,List.getElem?_take,if_pos (by omega)]
noncomputable def jV (c d:Cat) (b:Bool) (r:Nat) (X:List Int) (y:Nat):List Fun:=(List.range y).flatMap fun v:Nat=>oQ c d b r (X++[(v:Int)])
theorem aDt {r:Nat}:jV c d b r X 0=[]:=rfl
theorem oY {r y:Nat}:jV c d b r X (y+1)=jV c d b r X y++oQ c d b r (X++[(y:Int)]):=by
 unfold jV
 rw [List.range_succ,List.flatMap_append]
 simp
theorem aCB {r y K:Nat} (h:y<K):∃R,jV c d b r X K=jV c d b r X (y+1)++R:=by
 induction K with
 |zero=>omega
 |succ K ih=>
  by_cases hu:y=K
  ·subst hu;exact⟨[],(List.append_nil _).symm⟩
  ·obtain⟨R,hR⟩:=ih (by omega)
   exact⟨R++oQ c d b r (X++[(K:Int)]),by rw [oY,hR,List.append_assoc]⟩
theorem aIE {r:Nat}:oQ c d b (r+1) X=jV c d b r X d.ob.toNat:=rfl
end
end Go.Cats
end
section
namespace Go.Cats
section
variable {c d:Cat} {b:Bool} {X A Q L:List Int} {i k:Nat} {v:Int}
theorem aGN (hc:IsCat c) {x:Nat} (hx:x<c.id.length):c.cp (c.id.getD x 0).toNat (c.id.getD x 0).toNat=c.id.getD x 0:=by
 have h1:=nB hc.toShape hx
 have h2:=hc.unl (c.id.getD x 0).toNat h1.1
 simp only [Cat.C,Cat.I,Cat.F,Int.toNat_natCast]at h2
 rw [h1.2.2.1,Int.toNat_natCast]at h2
 show(c.co.getD _ []).getD _ 0=_
 rw [h2];omega
theorem qN (hc:Shape c) {j:Nat} (hj:j<c.fr.length):∀{k:Nat},k≤c.id.length→0≤(cR c d X k).getD j 0→∃x,x<k∧j=(c.id.getD x 0).toNat
 |0,_,h0=>by rw [cR,uO,if_pos hj]at h0;omega
 |k+1,hk,h0=>by
  have h1:=nB hc (x:=k) (by omega)
  rw [cR,cN (by rw [gW];exact h1.1)]at h0
  by_cases e:j=(c.id.getD k 0).toNat
  ·exact⟨k,by omega,e⟩
  ·rw [if_neg e]at h0
   obtain⟨x,h2,h3⟩:=qN hc hj (by omega) h0
   exact⟨x,by omega,h3⟩
theorem aHS (hc:IsCat c) (hd:IsCat d) (hX:XOK c d b X):∀a,a<c.fr.length→∀b,b<c.fr.length→Clo c d (mO c d X) a b:=fun p hp q hq h0 a0 b0=>by
 obtain⟨x,hx,e1⟩:=qN hc.toShape hp (Nat.le_refl _) a0
 obtain⟨y,hy,e2⟩:=qN hc.toShape hq (Nat.le_refl _) b0
 obtain⟨g1,_,_,_⟩:=mW hc.toShape hp hq h0
 have i1:=nB hc.toShape hx
 have i2:=nB hc.toShape hy
 rw [e1,e2,i1.2.2.2,i2.2.2.1]at g1
 have e:x=y:=by omega
 subst e
 have u1:=aGN hc hx
 have s1:=wX (d:=d) (X:=X) hc.toShape (Nat.le_refl c.id.length) x hx
 have u2:=vJ hc.toShape hd.toShape hX hx
 subst e1 e2
 rw [u1]
 unfold mO
 rw [s1]
 have u3:=aGN hd (x:=(X.getD x 0).toNat) u2.2.1
 exact u3.symm
theorem aKg (hc:IsCat c) (hd:IsCat d) (hX:XOK c d b X) (hb:b=true→NdI (mO c d X)):NX c d b X (mO c d X):=
 ⟨aCq hc.toShape hd.toShape hX (Nat.le_refl _),aHS hc hd hX,hb,fun x hx=>wX hc.toShape (Nat.le_refl _) x hx⟩
theorem aE3 (hc:Shape c):aDN c d b X=fT (WA c d b X) (sA c d) (mO c d X):=by
 unfold aDN
 refine aAc fun Q hQ hW=>⟨fun _=>xV hc (WA_iff.1 hW).1 (Nat.le_refl _),fun k=>?_⟩
 rw [contB_iff]at k⊢
 refine⟨by rw [←k.1,List.length_replicate];exact(gW _).symm,fun i hi h0=>?_⟩
 rw [List.length_replicate]at hi
 rw [uO,if_pos hi]at h0
 omega
theorem aBw:oE c d false A=eY c d (c.fr.length+1) A:=by
 unfold oE
 simp
def xD (c d:Cat) (X:List Int):Prop:=∀f,f<c.fr.length→c.fr.getD f 0<X.length→c.to.getD f 0<X.length→0<(d.hom (X.getD (c.fr.getD f 0).toNat 0) (X.getD (c.to.getD f 0).toNat 0)).length
theorem aJQ {r:Nat} (hc:Shape c) (h:¬xD c d X):oQ c d false r X=[]:=by
 refine aIF fun O Q hO hW=>h fun f hf h1 h2=>?_
 have:=aG8 hW hf
 have f1:=hc.frw f hf
 have f2:=hc.tow f (by rw [hc.tol];exact hf)
 rw [getD_take hO (by omega),getD_take hO (by omega)]at this
 unfold aMC at this
 rw [if_neg (by simp)]at this
 exact this
theorem zJ {α:Type} {A B C:List α} {n:Nat}:((A++B).take n++C).take n=(A++(B++C)).take n:=by
 rw [←List.append_assoc]
 by_cases h:(A++B).length≤n
 ·rw [List.take_of_length_le h]
 ·have hl:((A++B).take n).length=n:=by rw [List.length_take];omega
  rw [List.take_append_of_le_length (l₁:=(A++B).take n) (by omega),List.take_take,Nat.min_self,List.take_append_of_le_length (l₁:=A++B) (by omega)]
end
end Go.Cats
end
section
namespace Go.Cats
def uF:List Int→List Int→Bool
 |[],[]=>false
 |[],_::_=>true
 |_::_,[]=>false
 |a::A,b::B=>if a=b then uF A B else decide (a<b)
section
variable {S R L:List (List Int)} {x:List Int} {k:Nat}
end
end Go.Cats
end
section
namespace Go.Cats
structure IsoQ (c d:Cat) (O Q:List Int):Prop where
 hc:IsCat c
 hd:IsCat d
 fit:Fits ⟨c,d,O,Q⟩
 no:NdI O
 nq:NdI Q
 ob:c.ob=d.ob
 ar:c.fr.length=d.fr.length
section
variable {c d:Cat} {O Q A B cc dd:List Int} {f g:Nat}
theorem NdI.inj (h:NdI A) (h0:∀i,i<A.length→0≤A.getD i 0) {i j:Nat} (hi:i<A.length) (hj:j<A.length) (e:A.getD i 0=A.getD j 0):i=j:=by
 rcases Nat.lt_trichotomy i j with q|q|q
 ·exact absurd e (h i j q hj (h0 i hi))
 ·exact q
 ·exact absurd e.symm (h j i q hi (h0 j hj))
theorem IsoQ.len (h:IsoQ c d O Q):Q.length=c.fr.length:=h.fit.arl
theorem IsoQ.rng (h:IsoQ c d O Q) (hf:f<c.fr.length):0≤Q.getD f 0∧Q.getD f 0<d.fr.length:=h.fit.arw f (by show f<Q.length;rw [h.len];exact hf)
theorem IsoQ.nat (h:IsoQ c d O Q) (hf:f<c.fr.length):(Q.getD f 0).toNat<d.fr.length:=by have:=h.rng hf;omega
theorem IsoQ.inj (h:IsoQ c d O Q) (hf:f<c.fr.length) (hg:g<c.fr.length) (e:Q.getD f 0=Q.getD g 0):f=g:=
 h.nq.inj (fun i hi=>(h.rng (by rw [←h.len];exact hi)).1) (by rw [h.len];exact hf) (by rw [h.len];exact hg) e
theorem IsoQ.perm (h:IsoQ c d O Q):((List.range c.fr.length).map fun f=>(Q.getD f 0).toNat).Perm (List.range d.fr.length):=by
 have hn:((List.range c.fr.length).map fun f=>(Q.getD f 0).toNat).Nodup:=by
  unfold List.Nodup
  rw [List.pairwise_map]
  refine List.Pairwise.imp_of_mem ?_ (List.pairwise_lt_range (n:=c.fr.length))
  intro a b ha hb hab e
  have ha:=List.mem_range.1 ha
  have hb:=List.mem_range.1 hb
  have h1:=h.rng ha
  have h2:=h.rng hb
  have:=h.inj ha hb (by omega)
  omega
 have hs:∀x∈(List.range c.fr.length).map fun f=>(Q.getD f 0).toNat,x∈List.range d.fr.length:=fun x hx=>by
  obtain⟨f,hf,rfl⟩:=List.mem_map.1 hx
  exact List.mem_range.2 (h.nat (List.mem_range.1 hf))
 rw [List.perm_ext_iff_of_nodup hn List.nodup_range]
 intro x
 refine⟨hs x,fun hx=>Classical.byContradiction fun hno=>?_⟩
 have hsub:∀y∈(List.range c.fr.length).map fun f=>(Q.getD f 0).toNat,y∈(List.range d.fr.length).erase x:=fun y hy=>by
  have hne:y≠x:=fun e=>hno (e▸hy)
  exact(List.mem_erase_of_ne hne).2 (hs y hy)
 have h1:=List.Nodup.length_le_of_subset hn hsub
 rw [List.length_map,List.length_range,List.length_erase_of_mem hx,List.length_range]at h1
 have h2:=List.mem_range.1 hx
 have h3:=h.ar
 omega
theorem IsoQ.surj (h:IsoQ c d O Q) {g:Nat} (hg:g<d.fr.length):∃f,f<c.fr.length∧Q.getD f 0=g:=by
 have:=(h.perm.mem_iff (a:=g)).2 (List.mem_range.2 hg)
 obtain⟨f,hf,e⟩:=List.mem_map.1 this
 have hf:=List.mem_range.1 hf
 exact⟨f,hf,by have:=h.rng hf;omega⟩
theorem IsoQ.fr (h:IsoQ c d O Q) (hf:f<c.fr.length):d.fr.getD (Q.getD f 0).toNat 0=O.getD (c.fr.getD f 0).toNat 0∧d.to.getD (Q.getD f 0).toNat 0=O.getD (c.to.getD f 0).toNat 0:=by
 have:=h.fit.endf f (by show f<Q.length;rw [h.len];exact hf)
 simpa only [Cat.F,Cat.T,Fun.O,Int.toNat_natCast]using this
theorem IsoQ.oinj (h:IsoQ c d O Q) {p q:Int} (hp:0≤p∧p<c.ob) (hq:0≤q∧q<c.ob) (e:O.getD p.toNat 0=O.getD q.toNat 0):p=q:=by
 have hl:(O.length:Int)=c.ob:=h.fit.obl
 have:=h.no.inj (fun i hi=>(h.fit.obw i hi).1) (by omega:p.toNat<O.length) (by omega:q.toNat<O.length) e
 omega
theorem IsoQ.cp (h:IsoQ c d O Q) (hf:f<c.fr.length) (hg:g<c.fr.length):(0≤c.cp f g↔0≤d.cp (Q.getD f 0).toNat (Q.getD g 0).toNat)∧(0≤c.cp f g→(c.cp f g).toNat<c.fr.length∧d.cp (Q.getD f 0).toNat (Q.getD g 0).toNat=Q.getD (c.cp f g).toNat 0):=by
 have key:0≤c.cp f g→(c.cp f g).toNat<c.fr.length∧d.cp (Q.getD f 0).toNat (Q.getD g 0).toNat=Q.getD (c.cp f g).toNat 0:=fun h0=>by
  have:=h.fit.cmp f g hf hg h0
  exact⟨(mW h.hc.toShape hf hg h0).2.1,this.symm⟩
 refine⟨⟨fun h0=>?_,fun h0=>?_⟩,key⟩
 ·obtain⟨k1,k2⟩:=key h0
  rw [k2];exact(h.rng k1).1
 ·have e:=(mW h.hd.toShape (h.nat hf) (h.nat hg) h0).1
  rw [(h.fr hf).2,(h.fr hg).1]at e
  have:=h.oinj (by have:=h.hc.tow f (by rw [h.hc.tol];exact hf);exact this) (h.hc.frw g hg) e
  exact h.hc.toShape.comp_nn hf hg this
theorem IsoQ.hom (h:IsoQ c d O Q) {p q:Int} (hp:0≤p∧p<c.ob) (hq:0≤q∧q<c.ob):(c.hom p q).length=(d.hom (O.getD p.toNat 0) (O.getD q.toNat 0)).length:=by
 have hmap:∀f∈c.hom p q,Q.getD f.toNat 0∈d.hom (O.getD p.toNat 0) (O.getD q.toNat 0):=fun f hf=>by
  obtain⟨h1,h2,h3,h4⟩:=Cat.mem_hom.1 hf
  have hf':f.toNat<c.fr.length:=by omega
  have e:=h.fr hf'
  have r:=h.rng hf'
  have h3:c.fr.getD f.toNat 0=p:=h3
  have h4:c.to.getD f.toNat 0=q:=h4
  rw [h3,h4]at e
  exact Cat.mem_hom.2 ⟨r.1,r.2,e.1,e.2⟩
 refine Nat.le_antisymm ?_ ?_
 ·have e:((c.hom p q).map fun g=>Q.getD g.toNat 0).length=(c.hom p q).length:=List.length_map ..
  rw [←e]
  refine qZ ?_ fun x hx=>?_
  ·unfold List.Nodup
   rw [List.pairwise_map]
   refine List.Pairwise.imp_of_mem ?_ (Cat.hom_nodup c p q)
   intro g g' hg hg' hne e
   obtain⟨g1,g2,g3,g4⟩:=Cat.mem_hom.1 hg
   obtain⟨k1,k2,k3,k4⟩:=Cat.mem_hom.1 hg'
   have:=h.inj (by omega) (by omega) e
   exact hne (by omega)
  ·obtain⟨g,hg,rfl⟩:=List.mem_map.1 hx
   exact hmap g hg
 ·have e:((c.hom p q).map fun g=>Q.getD g.toNat 0).length=(c.hom p q).length:=List.length_map ..
  rw [←e]
  refine qZ (Cat.hom_nodup _ _ _) fun x hx=>?_
  obtain⟨h1,h2,h3,h4⟩:=Cat.mem_hom.1 hx
  obtain⟨f,hf,e⟩:=h.surj (g:=x.toNat) (by omega)
  have k:=h.fr hf
  rw [e,Int.toNat_natCast]at k
  have h3:d.fr.getD x.toNat 0=O.getD p.toNat 0:=h3
  have h4:d.to.getD x.toNat 0=O.getD q.toNat 0:=h4
  rw [h3,h4]at k
  have e1:=h.oinj hp (h.hc.frw f hf) k.1
  have e2:=h.oinj hq (by have:=h.hc.tow f (by rw [h.hc.tol];exact hf);exact this) k.2
  refine List.mem_map.2 ⟨(f:Int),Cat.mem_hom.2 ⟨by omega,by omega,?_,?_⟩,?_⟩
  ·show c.fr.getD (f:Int).toNat 0=p;rw [Int.toNat_natCast];exact e1.symm
  ·show c.to.getD (f:Int).toNat 0=q;rw [Int.toNat_natCast];exact e2.symm
  ·rw [Int.toNat_natCast,e];omega
theorem aE0 {L:List (List Int)} (h:L.Nodup) {i:Nat} (hi:i<L.length):fnd L (L.getD i [])=i:=by
 obtain⟨j,h1,h2,h3⟩:=yY (fZ (d:=[]) hi)
 rw [h3]
 have:j=i:=by
  rw [List.getD_eq_getElem?_getD,List.getD_eq_getElem?_getD,List.getElem?_eq_getElem h1,List.getElem?_eq_getElem hi,Option.getD_some,Option.getD_some]at h2
  unfold List.Nodup at h
  rw [List.pairwise_iff_getElem]at h
  rcases Nat.lt_trichotomy j i with q|q|q
  ·exact absurd h2 (h j i h1 hi q)
  ·exact q
  ·exact absurd h2.symm (h i j hi h1 q)
 omega
end
end Go.Cats
end
section
namespace Go.Cats
structure TabOK (n:Nat) (A:List (List Int)) (U:Nat→List Int) (cp:List Int→List Int→List Int):Prop where
 n8:n≤8
 a40:A.length≤40
 nd:A.Nodup
 e0:∀r∈A,0≤r.getD 0 0∧r.getD 0 0<n
 e1:∀r∈A,0≤r.getD 1 0∧r.getD 1 0<n
 um:∀i,i<n→U i∈A∧(U i).getD 0 0=i∧(U i).getD 1 0=i
 cm:∀r∈A,∀s∈A,r.getD 1 0=s.getD 0 0→cp r s∈A∧(cp r s).getD 0 0=r.getD 0 0∧(cp r s).getD 1 0=s.getD 1 0
 ul:∀r∈A,cp (U (r.getD 0 0).toNat) r=r
 ur:∀r∈A,cp r (U (r.getD 1 0).toNat)=r
 as:∀r∈A,∀s∈A,∀q∈A,r.getD 1 0=s.getD 0 0→s.getD 1 0=q.getD 0 0→cp (cp r s) q=cp r (cp s q)
def tE (A:List (List Int)) (cp:List Int→List Int→List Int) (a n:Nat):List Int:=(List.range n).map fun b=>if(A.getD a []).getD 1 0=(A.getD b []).getD 0 0 then fnd A (cp (A.getD a []) (A.getD b []))else-1
def gN (n:Nat) (A:List (List Int)) (U:Nat→List Int) (cp:List Int→List Int→List Int):Cat:=
 ⟨n,A.map fun r=>r.getD 0 0,A.map fun r=>r.getD 1 0,(List.range n).map fun i=>fnd A (U i),(List.range A.length).map fun a=>tE A cp a A.length⟩
section
variable {n:Nat} {A:List (List Int)} {U:Nat→List Int} {cp:List Int→List Int→List Int} {a b i:Nat}
theorem nZ {f:List Int→Int} (h:a<A.length):(A.map f).getD a 0=f (A.getD a []):=by
 rw [List.getD_eq_getElem?_getD,List.getElem?_map,List.getElem?_eq_getElem h,List.getD_eq_getElem?_getD (l:=A),List.getElem?_eq_getElem h];rfl
theorem aBb (h:a<A.length):(gN n A U cp).fr.getD a 0=(A.getD a []).getD 0 0:=nZ (f:=fun r=>r.getD 0 0) h
theorem aBc (h:a<A.length):(gN n A U cp).to.getD a 0=(A.getD a []).getD 1 0:=nZ (f:=fun r=>r.getD 1 0) h
theorem aGI:(gN n A U cp).fr.length=A.length:=by show(A.map _).length=_;rw [List.length_map]
theorem aOm (h:i<n):(gN n A U cp).id.getD i 0=fnd A (U i):=by
 show((List.range n).map _).getD i 0=_
 rw [List.getD_eq_getElem?_getD,List.getElem?_map,List.getElem?_range h];rfl
theorem aGJ (h:a<A.length):(gN n A U cp).co.getD a []=tE A cp a A.length:=by
 show((List.range A.length).map _).getD a []=_
 rw [List.getD_eq_getElem?_getD,List.getElem?_map,List.getElem?_range h];rfl
theorem aKr (ha:a<A.length) (hb:b<A.length):(gN n A U cp).C a b=if(A.getD a []).getD 1 0=(A.getD b []).getD 0 0 then fnd A (cp (A.getD a []) (A.getD b []))else-1:=by
 show((gN n A U cp).co.getD (a:Int).toNat []).getD (b:Int).toNat 0=_
 rw [Int.toNat_natCast,Int.toNat_natCast,aGJ ha]
 unfold tE
 rw [List.getD_eq_getElem?_getD,List.getElem?_map,List.getElem?_range hb];rfl
theorem TabOK.mem (ha:a<A.length):A.getD a []∈A:=fZ ha
theorem TabOK.C (h:TabOK n A U cp) (ha:a<A.length) (hb:b<A.length) (e:(A.getD a []).getD 1 0=(A.getD b []).getD 0 0):∃k:Nat,k<A.length∧A.getD k []=cp (A.getD a []) (A.getD b [])∧(gN n A U cp).C a b=k:=by
 have hm:=(h.cm _ (TabOK.mem ha) _ (TabOK.mem hb) e).1
 obtain⟨k,h1,h2,h3⟩:=yY hm
 exact⟨k,h1,h2,by rw [aKr ha hb,if_pos e,h3]⟩
theorem TabOK.I (h:TabOK n A U cp) (hi:i<n):∃k:Nat,k<A.length∧A.getD k []=U i∧(gN n A U cp).id.getD i 0=k:=by
 obtain⟨k,h1,h2,h3⟩:=yY (h.um i hi).1
 exact⟨k,h1,h2,by rw [aOm hi,h3]⟩
theorem TabOK.inj (h:TabOK n A U cp) (ha:a<A.length) (hb:b<A.length) (e:A.getD a []=A.getD b []):a=b:=by
 have h1:=aE0 h.nd ha
 have h2:=aE0 h.nd hb
 rw [e,h2]at h1
 omega
theorem aCs (ha:a<A.length):(gN n A U cp).F (a:Int)=(A.getD a []).getD 0 0:=by
 show(gN n A U cp).fr.getD (a:Int).toNat 0=_
 rw [Int.toNat_natCast,aBb ha]
theorem aCt (ha:a<A.length):(gN n A U cp).T (a:Int)=(A.getD a []).getD 1 0:=by
 show(gN n A U cp).to.getD (a:Int).toNat 0=_
 rw [Int.toNat_natCast,aBc ha]
theorem TabOK.shape (h:TabOK n A U cp):Shape (gN n A U cp):=by
 have hm:=aGI (n:=n) (A:=A) (U:=U) (cp:=cp)
 refine⟨Int.natCast_nonneg n,?_,by rw [hm];exact h.a40,?_,fun a ha=>?_,fun a ha=>?_,?_,fun i hi=>?_,?_,fun i hi=>?_,fun a ha=>⟨?_,fun b hb=>?_⟩⟩
 ·show(n:Int)≤8;have:=h.n8;omega
 ·show(A.map _).length=(A.map _).length;rw [List.length_map,List.length_map]
 ·rw [hm]at ha;rw [aBb ha];exact h.e0 _ (TabOK.mem ha)
 ·have ha:a<A.length:=by
   have e:(gN n A U cp).to.length=A.length:=by show(A.map _).length=_;rw [List.length_map]
   exact e▸ha
  rw [aBc ha];exact h.e1 _ (TabOK.mem ha)
 ·show(((List.range n).map _).length:Int)=n;rw [List.length_map,List.length_range]
 ·have hi:i<n:=by
   have e:(gN n A U cp).id.length=n:=by show((List.range n).map _).length=_;rw [List.length_map,List.length_range]
   exact e▸hi
  obtain⟨k,k1,k2,k3⟩:=h.I hi
  rw [k3,hm];omega
 ·show((List.range A.length).map _).length=(A.map _).length;rw [List.length_map,List.length_range,List.length_map]
 ·have hi:i<n:=by
   have e:(gN n A U cp).id.length=n:=by show((List.range n).map _).length=_;rw [List.length_map,List.length_range]
   exact e▸hi
  obtain⟨k,k1,k2,k3⟩:=h.I hi
  rw [k3,aCs k1,aCt k1,k2]
  exact(h.um i hi).2
 ·rw [hm]at ha⊢
  rw [aGJ ha];unfold tE;rw [List.length_map,List.length_range]
 ·rw [hm]at ha hb
  unfold Cat.Entry
  rw [aBc ha,aBb hb,aBb ha,aBc hb,hm]
  by_cases e:(A.getD a []).getD 1 0=(A.getD b []).getD 0 0
  ·obtain⟨k,k1,k2,k3⟩:=h.C ha hb e
   have hc:=(h.cm _ (TabOK.mem ha) _ (TabOK.mem hb) e).2
   refine .inl ⟨e,by rw [k3];omega,?_,?_⟩
   ·rw [k3,aCs k1,k2];exact hc.1
   ·rw [k3,aCt k1,k2];exact hc.2
  ·exact .inr ⟨e,by rw [aKr ha hb,if_neg e]⟩
theorem TabOK.cat (h:TabOK n A U cp):IsCat (gN n A U cp):=by
 have hm:=aGI (n:=n) (A:=A) (U:=U) (cp:=cp)
 refine⟨h.shape,fun f hf=>?_,fun f hf=>?_,fun f g q hf hg hq e1 e2=>?_⟩
 ·rw [hm]at hf
  have he:=h.e0 _ (TabOK.mem hf)
  rw [aCs hf]
  obtain⟨k,k1,k2,k3⟩:=h.I (i:=((A.getD f []).getD 0 0).toNat) (by omega)
  have hI:(gN n A U cp).I ((A.getD f []).getD 0 0)=k:=k3
  have hu:=(h.um ((A.getD f []).getD 0 0).toNat (by omega)).2.2
  rw [hI]
  obtain⟨j,j1,j2,j3⟩:=h.C k1 hf (by rw [k2,hu];omega)
  rw [j3]
  rw [k2,h.ul _ (TabOK.mem hf)]at j2
  rw [h.inj j1 hf j2]
 ·rw [hm]at hf
  have he:=h.e1 _ (TabOK.mem hf)
  rw [aCt hf]
  obtain⟨k,k1,k2,k3⟩:=h.I (i:=((A.getD f []).getD 1 0).toNat) (by omega)
  have hI:(gN n A U cp).I ((A.getD f []).getD 1 0)=k:=k3
  have hu:=(h.um ((A.getD f []).getD 1 0).toNat (by omega)).2.1
  rw [hI]
  obtain⟨j,j1,j2,j3⟩:=h.C hf k1 (by rw [k2,hu];omega)
  rw [j3]
  rw [k2,h.ur _ (TabOK.mem hf)]at j2
  rw [h.inj j1 hf j2]
 ·rw [hm]at hf hg hq
  rw [aCt hf,aCs hg]at e1
  rw [aCt hg,aCs hq]at e2
  obtain⟨j,j1,j2,j3⟩:=h.C hf hg e1
  obtain⟨k,k1,k2,k3⟩:=h.C hg hq e2
  have c1:=(h.cm _ (TabOK.mem hf) _ (TabOK.mem hg) e1).2
  have c2:=(h.cm _ (TabOK.mem hg) _ (TabOK.mem hq) e2).2
  rw [j3,k3]
  obtain⟨x,x1,x2,x3⟩:=h.C j1 hq (by rw [j2,c1.2];exact e2)
  obtain⟨y,y1,y2,y3⟩:=h.C hf k1 (by rw [k2,c2.1];exact e1)
  rw [x3,y3,h.inj x1 y1 (by rw [x2,y2,j2,k2];exact h.as _ (TabOK.mem hf) _ (TabOK.mem hg) _ (TabOK.mem hq) e1 e2)]
end
end Go.Cats
end
section
namespace Go.Cats
def mE (R:List (List Int)) (i j:Nat):Int:=(R.getD i []).getD j 0
def cY (R:List (List Int)) (i:Nat):Nat→List (List Int)
 |0=>[]
 |k+1=>if mE R i k=1 then cY R i k++[[(i:Int),(k:Int)]]else cY R i k
def poA (R:List (List Int)) (n:Nat):Nat→List (List Int)
 |0=>[]
 |i+1=>poA R n i++cY R i n
structure PoOK (R:List (List Int)) (n:Nat):Prop where
 n6:n≤6
 rf:∀i,i<n→mE R i i=1
 tr:∀i j k,i<n→j<n→k<n→mE R i j=1→mE R j k=1→mE R i k=1
def poU (i:Nat):List Int:=[(i:Int),(i:Int)]
def poP (r s:List Int):List Int:=[r.getD 0 0,s.getD 1 0]
def poC (R:List (List Int)) (n:Nat):Cat:=gN n (poA R n n) poU poP
def poN (R:List (List Int)) (n i k:Nat):Int:=(((poA R n i).length+(cY R i k).length:Nat):Int)
section
variable {R:List (List Int)} {n m i j k:Nat} {x:List Int}
theorem kP (h:mE R i k=1):cY R i (k+1)=cY R i k++[[(i:Int),(k:Int)]]:=by rw [cY,if_pos h]
theorem uM (h:¬mE R i k=1):cY R i (k+1)=cY R i k:=by rw [cY,if_neg h]
theorem aAx:∀k,(cY R i k).length≤k
 |0=>Nat.le_refl 0
 |k+1=>by
  have:=aAx k
  unfold cY
  split
  ·rw [List.length_append];simp;omega
  ·omega
theorem aAv:∀m,(poA R n m).length≤m*n
 |0=>by simp [poA]
 |m+1=>by
  have h1:=aAv m
  have h2:=aAx (R:=R) (i:=m) n
  unfold poA
  rw [List.length_append,Nat.succ_mul]
  omega
theorem qY:∀k,x∈cY R i k↔∃j,j<k∧mE R i j=1∧x=[(i:Int),(j:Int)]
 |0=>by simp [cY]
 |k+1=>by
  have ih:=qY k
  by_cases h:mE R i k=1
  ·rw [kP h,List.mem_append,ih,List.mem_singleton]
   constructor
   ·rintro(⟨j,h1,h2,h3⟩|h1)
    ·exact⟨j,by omega,h2,h3⟩
    ·exact⟨k,by omega,h,h1⟩
   ·rintro⟨j,h1,h2,h3⟩
    rcases Nat.lt_or_ge j k with hj|hj
    ·exact .inl ⟨j,hj,h2,h3⟩
    ·exact .inr (by rw [h3,show j=k by omega])
  ·rw [uM h,ih]
   constructor
   ·rintro⟨j,h1,h2,h3⟩;exact⟨j,by omega,h2,h3⟩
   ·rintro⟨j,h1,h2,h3⟩
    rcases Nat.lt_or_ge j k with hj|hj
    ·exact⟨j,hj,h2,h3⟩
    ·exact absurd h2 (by rw [show j=k by omega];exact h)
theorem iJ:∀m,x∈poA R n m↔∃i j,i<m∧j<n∧mE R i j=1∧x=[(i:Int),(j:Int)]
 |0=>by simp [poA]
 |m+1=>by
  have ih:=iJ m
  rw [poA,List.mem_append,ih,qY]
  constructor
  ·rintro(⟨i,j,h1,h2⟩|⟨j,h1,h2⟩)
   ·exact⟨i,j,by omega,h2⟩
   ·exact⟨m,j,by omega,h1,h2⟩
  ·rintro⟨i,j,h1,h2,h3⟩
   rcases Nat.lt_or_ge i m with hi|hi
   ·exact .inl ⟨i,j,hi,h2,h3⟩
   ·exact .inr ⟨j,h2,by rw [←show i=m by omega];exact h3⟩
theorem aD5:∀k,(cY R i k).Nodup
 |0=>List.nodup_nil
 |k+1=>by
  have ih:=aD5 k
  by_cases h:mE R i k=1
  ·rw [kP h,List.nodup_append]
   refine⟨ih,by simp,fun a ha b hb e=>?_⟩
   rw [List.mem_singleton]at hb
   subst e hb
   obtain⟨j,h1,_,h3⟩:=(qY k).1 ha
   simp at h3;omega
  ·rw [uM h];exact ih
theorem aFg:∀m,(poA R n m).Nodup
 |0=>List.nodup_nil
 |m+1=>by
  rw [poA,List.nodup_append]
  refine⟨aFg m,aD5 n,fun a ha b hb e=>?_⟩
  subst e
  obtain⟨i,j,h1,_,_,h3⟩:=(iJ m).1 ha
  obtain⟨j',_,_,h4⟩:=(qY n).1 hb
  rw [h3]at h4
  simp at h4;omega
theorem aCc:∀k,j<k→mE R i j=1→∃r,cY R i k=cY R i j++[[(i:Int),(j:Int)]]++r
 |0,h,_=>absurd h (Nat.not_lt_zero j)
 |k+1,h,hj=>by
  rcases Nat.lt_or_ge j k with h1|h1
  ·obtain⟨r,e⟩:=aCc k h1 hj
   by_cases hk:mE R i k=1
   ·exact⟨r++[[(i:Int),(k:Int)]],by rw [kP hk,e,List.append_assoc]⟩
   ·exact⟨r,by rw [uM hk,e]⟩
  ·obtain rfl:j=k:=by omega
   exact⟨[],by rw [kP hj,List.append_nil]⟩
theorem aGn:∀m,i<m→∃r,poA R n m=poA R n i++cY R i n++r
 |0,h=>absurd h (Nat.not_lt_zero i)
 |m+1,h=>by
  rcases Nat.lt_or_ge i m with h1|h1
  ·obtain⟨r,e⟩:=aGn m h1
   exact⟨r++cY R m n,by rw [poA,e,List.append_assoc]⟩
  ·obtain rfl:i=m:=by omega
   exact⟨[],by rw [poA,List.append_nil]⟩
theorem aGo (hi:i<n) (hj:j<n) (h:mE R i j=1):fnd (poA R n n) [(i:Int),(j:Int)]=poN R n i j:=by
 obtain⟨r,e1⟩:=aGn n hi
 obtain⟨q,e2⟩:=aCc n hj h
 have e:poA R n n=(poA R n i++cY R i j)++[(i:Int),(j:Int)]::(q++r):=by rw [e1,e2];simp
 have hl:(poA R n i++cY R i j).length<(poA R n n).length:=by rw [e,List.length_append];simp
 have h1:=aE0 (aFg (R:=R) (n:=n) n) hl
 have h2:(poA R n n).getD (poA R n i++cY R i j).length []=[(i:Int),(j:Int)]:=by
  rw [List.getD_eq_getElem?_getD,e,List.getElem?_append_right (Nat.le_refl _),Nat.sub_self];rfl
 rw [h2]at h1
 rw [h1,List.length_append];rfl
theorem PoOK.tab (h:PoOK R n):TabOK n (poA R n n) poU poP:=by
 have h6:=h.n6
 have hl:=aAv (R:=R) (n:=n) n
 have hnn:n*n≤6*6:=Nat.mul_le_mul h6 h6
 refine⟨by omega,by omega,aFg n,fun r hr=>?_,fun r hr=>?_,fun i hi=>⟨?_,rfl,rfl⟩,fun r hr s hs e=>?_,fun r hr=>?_,fun r hr=>?_,fun r hr s hs q hq e1 e2=>rfl⟩
 ·obtain⟨i,j,h1,h2,h3,rfl⟩:=(iJ n).1 hr
  show(0:Int)≤i∧(i:Int)<n;omega
 ·obtain⟨i,j,h1,h2,h3,rfl⟩:=(iJ n).1 hr
  show(0:Int)≤j∧(j:Int)<n;omega
 ·exact(iJ n).2 ⟨i,i,hi,hi,h.rf i hi,rfl⟩
 ·obtain⟨i,j,h1,h2,h3,rfl⟩:=(iJ n).1 hr
  obtain⟨i',k,h4,h5,h7,rfl⟩:=(iJ n).1 hs
  have e':(j:Int)=i':=e
  obtain rfl:j=i':=by omega
  exact⟨(iJ n).2 ⟨i,k,h1,h5,h.tr i j k h1 h2 h5 h3 h7,rfl⟩,rfl,rfl⟩
 ·obtain⟨i,j,h1,h2,h3,rfl⟩:=(iJ n).1 hr
  show [(((i:Int).toNat:Nat):Int),(j:Int)]=_
  rw [Int.toNat_natCast]
 ·obtain⟨i,j,h1,h2,h3,rfl⟩:=(iJ n).1 hr
  show [(i:Int),(((j:Int).toNat:Nat):Int)]=_
  rw [Int.toNat_natCast]
theorem PoOK.cat (h:PoOK R n):IsCat (poC R n):=h.tab.cat
theorem PoOK.len (h:PoOK R n):(poA R n n).length≤36:=by
 have hl:=aAv (R:=R) (n:=n) n
 have hnn:n*n≤6*6:=Nat.mul_le_mul h.n6 h.n6
 omega
end
end Go.Cats
end
section
namespace Go.Cats
def shI (m:Nat) (h:Int):Int:=if 0≤h then h+m else h
def smC (c d:Cat):Cat:=⟨c.ob+d.ob,c.fr++d.fr.map (· +c.ob),c.to++d.to.map (· +c.ob),c.id++d.id.map (· +(c.fr.length:Int)),
 c.co.map (fun r=>r++List.replicate d.fr.length (-1))++d.co.map (fun r=>List.replicate c.fr.length (-1)++r.map (shI c.fr.length))⟩
section
variable {c d:Cat} {x y:Int}
theorem aFS {l k:List Int} (h0:0≤x) (h1:x<l.length):(l++k).getD x.toNat 0=l.getD x.toNat 0:=by
 rw [List.getD_eq_getElem?_getD,List.getElem?_append_left (by omega),←List.getD_eq_getElem?_getD]
theorem aFT {l k:List Int} {g:Int→Int} (h0:0≤y) (h1:y<k.length):(l++k.map g).getD ((l.length:Int)+y).toNat 0=g (k.getD y.toNat 0):=by
 have e:((l.length:Int)+y).toNat=l.length+y.toNat:=by omega
 rw [e,List.getD_eq_getElem?_getD,List.getElem?_append_right (by omega),Nat.add_sub_cancel_left,List.getElem?_map,List.getElem?_eq_getElem (by omega),List.getD_eq_getElem?_getD,List.getElem?_eq_getElem (by omega)]
 rfl
theorem aJL {n k:Nat} (h:k<n):(List.replicate n (-1:Int)).getD k 0= -1:=by
 rw [List.getD_eq_getElem?_getD,List.getElem?_replicate,if_pos h];rfl
theorem aAF:(smC c d).fr.length=c.fr.length+d.fr.length:=by unfold smC;rw [List.length_append,List.length_map]
theorem pU (h0:0≤x) (h1:x<c.fr.length):(smC c d).F x=c.F x:=aFS h0 h1
theorem pV (h0:0≤y) (h1:y<d.fr.length):(smC c d).F ((c.fr.length:Int)+y)=d.F y+c.ob:=aFT (g:=(· +c.ob)) h0 h1
theorem pW (sc:Shape c) (h0:0≤x) (h1:x<c.fr.length):(smC c d).T x=c.T x:=aFS h0 (by rw [sc.tol];exact h1)
theorem pX (sc:Shape c) (sd:Shape d) (h0:0≤y) (h1:y<d.fr.length):(smC c d).T ((c.fr.length:Int)+y)=d.T y+c.ob:=by
 have:=aFT (l:=c.to) (k:=d.to) (g:=(· +c.ob)) h0 (by rw [sd.tol];exact h1)
 rw [sc.tol]at this
 exact this
theorem aGC (sc:Shape c) (h0:0≤x) (h1:x<c.ob):(smC c d).I x=c.I x:=aFS h0 (by rw [sc.idl];exact h1)
theorem aGD (sc:Shape c) (sd:Shape d) (h0:0≤y) (h1:y<d.ob):(smC c d).I (c.ob+y)=d.I y+c.fr.length:=by
 have:=aFT (l:=c.id) (k:=d.id) (g:=(· +(c.fr.length:Int))) h0 (by rw [sd.idl];exact h1)
 rw [sc.idl]at this
 exact this
theorem aJ5 (sc:Shape c) (h0:0≤x) (h1:x<c.fr.length):(smC c d).co.getD x.toNat []=c.co.getD x.toNat []++List.replicate d.fr.length (-1):=by
 have hl:x.toNat<c.co.length:=by rw [sc.col];omega
 unfold smC
 rw [List.getD_eq_getElem?_getD,List.getElem?_append_left (by rw [List.length_map];exact hl),List.getElem?_map,List.getElem?_eq_getElem hl,List.getD_eq_getElem?_getD,List.getElem?_eq_getElem hl];rfl
theorem aJ6 (sc:Shape c) (sd:Shape d) (h0:0≤y) (h1:y<d.fr.length):(smC c d).co.getD ((c.fr.length:Int)+y).toNat []=List.replicate c.fr.length (-1)++(d.co.getD y.toNat []).map (shI c.fr.length):=by
 have hl:y.toNat<d.co.length:=by rw [sd.col];omega
 have e:((c.fr.length:Int)+y).toNat=c.fr.length+y.toNat:=by omega
 unfold smC
 rw [e,List.getD_eq_getElem?_getD,List.getElem?_append_right (by rw [List.length_map,sc.col];omega),List.length_map,sc.col,Nat.add_sub_cancel_left,List.getElem?_map,List.getElem?_eq_getElem hl,List.getD_eq_getElem?_getD,List.getElem?_eq_getElem hl];rfl
theorem sX (sc:Shape c) (h0:0≤x) (h1:x<c.fr.length) (k0:0≤y) (k1:y<c.fr.length):(smC c d).C x y=c.C x y:=by
 have h:=(sc.coe x.toNat (by omega)).1
 show(((smC c d).co.getD x.toNat []).getD y.toNat 0)=_
 rw [aJ5 sc h0 h1]
 exact aFS k0 (by rw [h];exact k1)
theorem aOd (sc:Shape c) (h0:0≤x) (h1:x<c.fr.length) (k0:0≤y) (k1:y<d.fr.length):(smC c d).C x ((c.fr.length:Int)+y)= -1:=by
 have h:=(sc.coe x.toNat (by omega)).1
 show(((smC c d).co.getD x.toNat []).getD _ 0)=_
 have e:((c.fr.length:Int)+y).toNat=c.fr.length+y.toNat:=by omega
 rw [aJ5 sc h0 h1,e,List.getD_eq_getElem?_getD,List.getElem?_append_right (by omega),h,Nat.add_sub_cancel_left,←List.getD_eq_getElem?_getD,aJL (by omega)]
theorem aOe (sc:Shape c) (sd:Shape d) (h0:0≤x) (h1:x<d.fr.length) (k0:0≤y) (k1:y<c.fr.length):(smC c d).C ((c.fr.length:Int)+x) y= -1:=by
 show(((smC c d).co.getD _ []).getD y.toNat 0)=_
 rw [aJ6 sc sd h0 h1,List.getD_eq_getElem?_getD,List.getElem?_append_left (by rw [List.length_replicate];omega),←List.getD_eq_getElem?_getD,aJL (by omega)]
theorem aJ4 (sc:Shape c) (sd:Shape d) (h0:0≤x) (h1:x<d.fr.length) (k0:0≤y) (k1:y<d.fr.length):(smC c d).C ((c.fr.length:Int)+x) ((c.fr.length:Int)+y)=shI c.fr.length (d.C x y):=by
 have h:=(sd.coe x.toNat (by omega)).1
 show(((smC c d).co.getD _ []).getD _ 0)=_
 rw [aJ6 sc sd h0 h1]
 have:=aFT (y:=y) (l:=List.replicate c.fr.length (-1)) (k:=d.co.getD x.toNat []) (g:=shI c.fr.length) k0 (by rw [h];exact k1)
 rw [List.length_replicate]at this
 exact this
theorem fA {f:Nat} (h:f<c.fr.length+d.fr.length):(0≤(f:Int)∧(f:Int)<c.fr.length)∨∃y:Int,0≤y∧y<d.fr.length∧(f:Int)=(c.fr.length:Int)+y:=by
 rcases Nat.lt_or_ge f c.fr.length with h1|h1
 ·exact .inl ⟨by omega,by omega⟩
 ·exact .inr ⟨(f:Int)-c.fr.length,by omega,by omega,by omega⟩
theorem aC8 (hc:IsCat c) (hd:IsCat d) (h8:c.ob+d.ob≤8) (h40:c.fr.length+d.fr.length≤40):IsCat (smC c d):=by
 have sc:=hc.toShape
 have sd:=hd.toShape
 have e1:=sc.idl
 have e2:=sd.idl
 have o1:=sc.ob0
 have o2:=sd.ob0
 have cF:∀z:Int,0≤z→z<c.fr.length→0≤c.F z∧c.F z<c.ob:=fun z h0 h1=>sc.frw z.toNat (by omega)
 have cT:∀z:Int,0≤z→z<c.fr.length→0≤c.T z∧c.T z<c.ob:=fun z h0 h1=>sc.tow z.toNat (by rw [sc.tol];omega)
 have dF:∀z:Int,0≤z→z<d.fr.length→0≤d.F z∧d.F z<d.ob:=fun z h0 h1=>sd.frw z.toNat (by omega)
 have dT:∀z:Int,0≤z→z<d.fr.length→0≤d.T z∧d.T z<d.ob:=fun z h0 h1=>sd.tow z.toNat (by rw [sd.tol];omega)
 have hid:(smC c d).id.length=c.id.length+d.id.length:=by unfold smC;rw [List.length_append,List.length_map]
 have hto:(smC c d).to.length=c.fr.length+d.fr.length:=by unfold smC;rw [List.length_append,List.length_map,sc.tol,sd.tol]
 have sI:∀i:Nat,i<(smC c d).id.length→(0≤(i:Int)∧(i:Int)<c.ob)∨∃y:Int,0≤y∧y<d.ob∧(i:Int)=c.ob+y:=fun i hi=>by
  rw [hid]at hi
  rcases Nat.lt_or_ge i c.id.length with h1|h1
  ·exact .inl ⟨by omega,by omega⟩
  ·exact .inr ⟨(i:Int)-c.ob,by omega,by omega,by omega⟩
 have shp:Shape (smC c d):=by
  refine⟨by show 0≤c.ob+d.ob;omega,h8,by rw [aAF];exact h40,by rw [aAF,hto],fun f hf=>?_,fun f hf=>?_,?_,fun i hi=>?_,?_,fun i hi=>?_,fun f hf=>⟨?_,fun g hg=>?_⟩⟩
  ·rw [aAF]at hf
   show 0≤(smC c d).F (f:Int)∧(smC c d).F (f:Int)<c.ob+d.ob
   rcases fA hf with⟨h0,h1⟩|⟨y,h0,h1,e⟩
   ·rw [pU h0 h1];have:=cF _ h0 h1;omega
   ·rw [e,pV h0 h1];have:=dF _ h0 h1;omega
  ·rw [hto]at hf
   show 0≤(smC c d).T (f:Int)∧(smC c d).T (f:Int)<c.ob+d.ob
   rcases fA hf with⟨h0,h1⟩|⟨y,h0,h1,e⟩
   ·rw [pW sc h0 h1];have:=cT _ h0 h1;omega
   ·rw [e,pX sc sd h0 h1];have:=dT _ h0 h1;omega
  ·rw [hid];show _=c.ob+d.ob;omega
  ·show 0≤(smC c d).I (i:Int)∧(smC c d).I (i:Int)<_
   rw [aAF]
   rcases sI i hi with⟨h0,h1⟩|⟨y,h0,h1,e⟩
   ·rw [aGC sc h0 h1];have:=hc.idI h0 h1;omega
   ·rw [e,aGD sc sd h0 h1];have:=hd.idI h0 h1;omega
  ·rw [aAF]
   unfold smC
   rw [List.length_append,List.length_map,List.length_map,sc.col,sd.col]
  ·show(smC c d).F ((smC c d).I (i:Int))=i∧(smC c d).T ((smC c d).I (i:Int))=i
   rcases sI i hi with⟨h0,h1⟩|⟨y,h0,h1,e⟩
   ·obtain⟨a1,a2,a3,a4⟩:=hc.idI h0 h1
    rw [aGC sc h0 h1,pU a1 a2,pW sc a1 a2];exact⟨a3,a4⟩
   ·obtain⟨a1,a2,a3,a4⟩:=hd.idI h0 h1
    rw [e,aGD sc sd h0 h1,Int.add_comm (d.I y),pV a1 a2,pX sc sd a1 a2,a3,a4];omega
  ·rw [aAF]at hf⊢
   show((smC c d).co.getD (f:Int).toNat []).length=_
   rcases fA hf with⟨h0,h1⟩|⟨y,h0,h1,e⟩
   ·have h:=(sc.coe f (by omega)).1
    rw [aJ5 sc h0 h1,List.length_append,List.length_replicate,Int.toNat_natCast,h]
   ·have h:=(sd.coe y.toNat (by omega)).1
    rw [e,aJ6 sc sd h0 h1,List.length_append,List.length_replicate,List.length_map,h]
  ·rw [aAF]at hf hg
   show((smC c d).T (f:Int)=(smC c d).F (g:Int)∧(0≤(smC c d).C f g∧(smC c d).C f g<_)∧(smC c d).F ((smC c d).C f g)=(smC c d).F (f:Int)∧(smC c d).T ((smC c d).C f g)=(smC c d).T (g:Int))∨((smC c d).T (f:Int)≠(smC c d).F (g:Int)∧(smC c d).C f g= -1)
   rw [aAF]
   rcases fA hf with⟨h0,h1⟩|⟨y,h0,h1,e⟩
   ·rcases fA hg with⟨k0,k1⟩|⟨z,k0,k1,e'⟩
    ·rw [pW sc h0 h1,pU k0 k1,sX sc h0 h1 k0 k1]
     by_cases h:c.T f=c.F g
     ·obtain⟨p1,p2,p3,p4⟩:=hc.compI h0 h1 k0 k1 h
      exact .inl ⟨h,⟨p1,by omega⟩,by rw [pU p1 p2,pU h0 h1,p3],by rw [pW sc p1 p2,pW sc k0 k1,p4]⟩
     ·rcases(sc.coe f (by omega)).2 g (by omega)with q|q
      ·exact absurd q.1 h
      ·exact .inr ⟨h,q.2⟩
    ·rw [e',pW sc h0 h1,pV k0 k1,aOd sc h0 h1 k0 k1]
     have:=cT _ h0 h1
     have:=dF _ k0 k1
     exact .inr ⟨by omega,rfl⟩
   ·rcases fA hg with⟨k0,k1⟩|⟨z,k0,k1,e'⟩
    ·rw [e,pX sc sd h0 h1,pU k0 k1,aOe sc sd h0 h1 k0 k1]
     have:=dT _ h0 h1
     have:=cF _ k0 k1
     exact .inr ⟨by omega,rfl⟩
    ·rw [e,e',pX sc sd h0 h1,pV k0 k1,aJ4 sc sd h0 h1 k0 k1]
     by_cases h:d.T y=d.F z
     ·obtain⟨p1,p2,p3,p4⟩:=hd.compI h0 h1 k0 k1 h
      have es:shI c.fr.length (d.C y z)=(c.fr.length:Int)+d.C y z:=by unfold shI;rw [if_pos p1];omega
      exact .inl ⟨by omega,by rw [es];omega,by rw [es,pV p1 p2,pV h0 h1,p3],by rw [es,pX sc sd p1 p2,pX sc sd k0 k1,p4]⟩
     ·have hn:d.C y z= -1:=by
       rcases(sd.coe y.toNat (by omega)).2 z.toNat (by omega)with q|q
       ·exact absurd q.1 h
       ·have:=q.2
        rwa [Int.toNat_of_nonneg h0,Int.toNat_of_nonneg k0]at this
      exact .inr ⟨by omega,by rw [hn];rfl⟩
 have comp1:∀{y z:Int},0≤y→y<d.fr.length→0≤z→z<d.fr.length→d.T y=d.F z→(smC c d).C ((c.fr.length:Int)+y) ((c.fr.length:Int)+z)=(c.fr.length:Int)+d.C y z:=fun h0 h1 k0 k1 h=>by
  have p1:=(hd.compI h0 h1 k0 k1 h).1
  rw [aJ4 sc sd h0 h1 k0 k1];unfold shI;rw [if_pos p1];omega
 refine⟨shp,fun f hf=>?_,fun f hf=>?_,fun f g q hf hg hq m1 m2=>?_⟩
 ·rw [aAF]at hf
  rcases fA hf with⟨h0,h1⟩|⟨y,h0,h1,e⟩
  ·obtain⟨a1,a2,a3,a4⟩:=hc.idI (cF _ h0 h1).1 (cF _ h0 h1).2
   rw [pU h0 h1,aGC sc (cF _ h0 h1).1 (cF _ h0 h1).2,sX sc a1 a2 h0 h1,hc.unlI h0 h1]
  ·obtain⟨a1,a2,a3,a4⟩:=hd.idI (dF _ h0 h1).1 (dF _ h0 h1).2
   rw [e,pV h0 h1,Int.add_comm (d.F y),aGD sc sd (dF _ h0 h1).1 (dF _ h0 h1).2,Int.add_comm (d.I _),comp1 a1 a2 h0 h1 a4,hd.unlI h0 h1]
 ·rw [aAF]at hf
  rcases fA hf with⟨h0,h1⟩|⟨y,h0,h1,e⟩
  ·obtain⟨a1,a2,a3,a4⟩:=hc.idI (cT _ h0 h1).1 (cT _ h0 h1).2
   rw [pW sc h0 h1,aGC sc (cT _ h0 h1).1 (cT _ h0 h1).2,sX sc h0 h1 a1 a2,hc.unrI h0 h1]
  ·obtain⟨a1,a2,a3,a4⟩:=hd.idI (dT _ h0 h1).1 (dT _ h0 h1).2
   rw [e,pX sc sd h0 h1,Int.add_comm (d.T y),aGD sc sd (dT _ h0 h1).1 (dT _ h0 h1).2,Int.add_comm (d.I _),comp1 h0 h1 a1 a2 a3.symm,hd.unrI h0 h1]
 ·rw [aAF]at hf hg hq
  rcases fA hf with⟨h0,h1⟩|⟨y,h0,h1,e⟩
  ·rcases fA hg with⟨k0,k1⟩|⟨z,k0,k1,e'⟩
   ·rcases fA hq with⟨l0,l1⟩|⟨u,l0,l1,e2⟩
    ·rw [pW sc h0 h1,pU k0 k1]at m1
     rw [pW sc k0 k1,pU l0 l1]at m2
     obtain⟨p1,p2,p3,p4⟩:=hc.compI h0 h1 k0 k1 m1
     obtain⟨r1,r2,r3,r4⟩:=hc.compI k0 k1 l0 l1 m2
     rw [sX sc h0 h1 k0 k1,sX sc k0 k1 l0 l1,sX sc p1 p2 l0 l1,sX sc h0 h1 r1 r2,hc.assI h0 h1 k0 k1 l0 l1 m1 m2]
    ·rw [e2,pW sc k0 k1,pV l0 l1]at m2
     have:=cT _ k0 k1
     have:=dF _ l0 l1
     omega
   ·rw [e',pW sc h0 h1,pV k0 k1]at m1
    have:=cT _ h0 h1
    have:=dF _ k0 k1
    omega
  ·rcases fA hg with⟨k0,k1⟩|⟨z,k0,k1,e'⟩
   ·rw [e,pX sc sd h0 h1,pU k0 k1]at m1
    have:=dT _ h0 h1
    have:=cF _ k0 k1
    omega
   ·rcases fA hq with⟨l0,l1⟩|⟨u,l0,l1,e2⟩
    ·rw [e',pX sc sd k0 k1,pU l0 l1]at m2
     have:=dT _ k0 k1
     have:=cF _ l0 l1
     omega
    ·rw [e,e',pX sc sd h0 h1,pV k0 k1]at m1
     rw [e',e2,pX sc sd k0 k1,pV l0 l1]at m2
     have n1:d.T y=d.F z:=by omega
     have n2:d.T z=d.F u:=by omega
     obtain⟨p1,p2,p3,p4⟩:=hd.compI h0 h1 k0 k1 n1
     obtain⟨r1,r2,r3,r4⟩:=hd.compI k0 k1 l0 l1 n2
     rw [e,e',e2,comp1 h0 h1 k0 k1 n1,comp1 k0 k1 l0 l1 n2,comp1 p1 p2 l0 l1 (p4.trans n2),comp1 h0 h1 r1 r2 (n1.trans r3.symm),hd.assI h0 h1 k0 k1 l0 l1 n1 n2]
end
end Go.Cats
end
section
namespace Go.Cats
instance (c:Cat) (f g:Nat):Decidable (c.Entry f g):=by unfold Cat.Entry;infer_instance
def aGO (l:List Int) (n:Int):Bool:=l.all fun x=>decide (0≤x)&&decide (x<n)
def catB (c:Cat):Bool:=
 decide (0≤c.ob)&&decide (c.ob≤8)&&decide (c.fr.length≤40)&&decide (c.to.length=c.fr.length)&&decide ((c.id.length:Int)=c.ob)&&decide (c.co.length=c.fr.length)&&
 aGO c.fr c.ob&&aGO c.to c.ob&&aGO c.id c.fr.length&&
 ((List.range c.id.length).all fun x=>decide (c.F (c.id.getD x 0)=x)&&decide (c.T (c.id.getD x 0)=x))&&
 ((List.range c.fr.length).all fun f=>decide ((c.co.getD f []).length=c.fr.length)&&(List.range c.fr.length).all fun g=>decide (c.Entry f g))&&
 ((List.range c.fr.length).all fun f=>decide (c.C (c.I (c.F f)) f=f)&&decide (c.C f (c.I (c.T f))=f))&&
 ((List.range c.fr.length).all fun f=>(List.range c.fr.length).all fun g=> !decide (c.T f=c.F g)||(List.range c.fr.length).all fun h=> !decide (c.T g=c.F h)||decide (c.C (c.C f g) h=c.C f (c.C g h)))
theorem aBj {l:List Int} {n:Int} (h:aGO l n=true):Within l n:=fun i hi=>by
 have h1:=List.all_eq_true.1 h (l.getD i 0) (fZ hi)
 simp only [Bool.and_eq_true,decide_eq_true_eq]at h1
 exact h1
theorem tS {c:Cat} (h:catB c=true):IsCat c:=by
 unfold catB at h
 simp only [Bool.and_eq_true,decide_eq_true_eq,List.all_eq_true,List.mem_range,Bool.or_eq_true,Bool.not_eq_true',decide_eq_false_iff_not]at h
 obtain⟨⟨⟨⟨⟨⟨⟨⟨⟨⟨⟨⟨h1,h2⟩,h3⟩,h4⟩,h5⟩,h6⟩,h7⟩,h8⟩,h9⟩,h10⟩,h11⟩,h12⟩,h13⟩:=h
 refine⟨⟨h1,h2,h3,h4,aBj h7,aBj h8,h5,aBj h9,h6,h10,h11⟩,fun f hf=>(h12 f hf).1,fun f hf=>(h12 f hf).2,fun f g q hf hg hq e1 e2=>?_⟩
 rcases h13 f hf g hg with k|k
 ·exact absurd e1 k
 ·rcases k q hq with k|k
  ·exact absurd e2 k
  ·exact k
def moC (t:List (List Int)):Cat:=⟨1,List.replicate t.length 0,List.replicate t.length 0,[0],t⟩
def moT:Nat→List (List Int)
 |0=>[[0]]
 |1=>[[0,1],[1,0]]
 |2=>[[0,1],[1,1]]
 |3=>[[0,1,2],[1,2,0],[2,0,1]]
 |4=>[[0,1,2],[1,1,2],[2,2,2]]
 |5=>[[0,1,2],[1,1,2],[2,1,2]]
 |6=>[[0,1,2,3],[1,0,2,3],[2,3,2,3],[3,2,2,3]]
 |_=>[[0,1,2],[1,2,2],[2,2,2]]
def opR (c:Cat) (f k:Nat):List Int:=(List.range k).map fun g:Nat=>c.C (g:Int) (f:Int)
def opC (c:Cat):Cat:=⟨c.ob,c.to,c.fr,c.id,(List.range c.fr.length).map fun f=>opR c f c.fr.length⟩
def jnF (n k:Nat):List Int:=(List.range k).map fun k=>((k/n:Nat):Int)
def jnT (o:Int) (n k:Nat):List Int:=(List.range k).map fun k=>o+((k%n:Nat):Int)
def jnE (s:Cat) (o p:Int) (fr to:List Int) (f g:Nat):Int:=
 if to.getD f 0≠fr.getD g 0 then-1 else if f<s.fr.length∧g<s.fr.length then s.C f g else(s.fr.length:Int)+fr.getD f 0*p+to.getD g 0-o
def jnW (s:Cat) (o p:Int) (fr to:List Int) (f k:Nat):List Int:=(List.range k).map (jnE s o p fr to f)
def jnC (c d:Cat):Cat:=
 let fr:=(smC c d).fr++jnF d.ob.toNat (c.ob.toNat*d.ob.toNat)
 let to:=(smC c d).to++jnT c.ob d.ob.toNat (c.ob.toNat*d.ob.toNat)
 ⟨(smC c d).ob,fr,to,(smC c d).id,(List.range fr.length).map fun f=>jnW (smC c d) c.ob d.ob fr to f fr.length⟩
def one1:Cat:=poC [[1]] 1
def splC:Cat:=⟨2,[0,1,0,0,1],[0,1,0,1,0],[0,1],[[0, -1,2,3, -1],[-1,1, -1, -1,4],[2, -1,2,3, -1],[-1,3, -1, -1,2],[4, -1,4,1, -1]]⟩
theorem kO (P:List (List Int)→Prop) (h:∀i,i<8→P (moT i)) (k:Nat):P (moT k):=by
 rcases Nat.lt_or_ge k 8 with h1|h1
 ·exact h k h1
 ·have e:moT k=moT 7:=by
   match k,h1 with
   |k+8,_=>rfl
  rw [e];exact h 7 (by decide)
theorem aFd (k:Nat):IsCat (moC (moT k)):=kO (fun t=>IsCat (moC t)) (fun i hi=>tS (by
 have:((List.range 8).all fun i=>catB (moC (moT i)))=true:=by decide+kernel
 exact List.all_eq_true.1 this i (List.mem_range.2 hi))) k
theorem aIT (k:Nat):IsCat (jnC (moC (moT k)) one1):=kO (fun t=>IsCat (jnC (moC t) one1)) (fun i hi=>tS (by
 have:((List.range 8).all fun i=>catB (jnC (moC (moT i)) one1))=true:=by decide+kernel
 exact List.all_eq_true.1 this i (List.mem_range.2 hi))) k
theorem aJb (k:Nat):IsCat (opC (jnC (moC (moT k)) one1)):=kO (fun t=>IsCat (opC (jnC (moC t) one1))) (fun i hi=>tS (by
 have:((List.range 8).all fun i=>catB (opC (jnC (moC (moT i)) one1)))=true:=by decide+kernel
 exact List.all_eq_true.1 this i (List.mem_range.2 hi))) k
theorem aLR:IsCat splC:=tS (by decide+kernel)
end Go.Cats
end
section
namespace Go.Cats
def wS (R:List (List Int)) (k i j:Nat):List (List Int):=if mE R i k=1∧mE R k j=1 then R.set i ((R.getD i []).set j 1)else R
def wJ (R:List (List Int)) (k i:Nat):Nat→List (List Int)
 |0=>R
 |j+1=>wS (wJ R k i j) k i j
def wI (R:List (List Int)) (n k:Nat):Nat→List (List Int)
 |0=>R
 |i+1=>wJ (wI R n k i) k i n
def wK (R:List (List Int)) (n:Nat):Nat→List (List Int)
 |0=>R
 |k+1=>wI (wK R n k) n k n
def poB (R:List (List Int)) (n:Nat):Bool:=
 decide (n≤6)&&((List.range n).all fun i=>decide (mE R i i=1))&&((List.range n).all fun i=>(List.range n).all fun j=>(List.range n).all fun k=> !(decide (mE R i j=1)&&decide (mE R j k=1))||decide (mE R i k=1))
theorem wG {R:List (List Int)} {n:Nat} (h:poB R n=true):PoOK R n:=by
 unfold poB at h
 simp only [Bool.and_eq_true,decide_eq_true_eq,List.all_eq_true,List.mem_range,Bool.or_eq_true,Bool.not_eq_true',Bool.and_eq_false_iff,decide_eq_false_iff_not]at h
 obtain⟨⟨h1,h2⟩,h3⟩:=h
 refine⟨h1,h2,fun i j k hi hj hk a b=>?_⟩
 rcases h3 i hi j hj k hk with(q|q)|q
 ·exact absurd a q
 ·exact absurd b q
 ·exact q
def aH7 (n i:Nat) (r:List Int):Prop:=r.length=n∧∀j,j<n→(j<i→r.getD j 0=0)∧(j=i→r.getD j 0=1)∧(i<j→r.getD j 0=0∨r.getD j 0=1)
structure RelOk (n:Nat) (R:List (List Int)):Prop where
 len:R.length=n
 row:∀i,i<n→aH7 n i (R.getD i [])
def aEf (n i:Nat):Nat→List (List Int)
 |0=>[[]]
 |k+1=>(aEf n i k).flatMap fun r=>if k<i then [r++[0]]else if k=i then [r++[1]]else [r++[0],r++[1]]
def aEa (n:Nat):Nat→List (List (List Int))
 |0=>[[]]
 |i+1=>(aEa n i).flatMap fun R=>(aEf n i n).map fun r=>R++[r]
def aC1 (n:Nat) (R:List (List Int)):Option Nat→List (List Int)
 |none=>R
 |some x=>R.set (n-1) ((R.getD (n-1) []).set x 1)
theorem aGE {α:Type} {l:List α} {k:Nat} {d:α} (h:l.length=k+1):l=l.take k++[l.getD k d]:=by
 have e:=List.take_succ_eq_append_getElem (l:=l) (i:=k) (by omega)
 rw [List.take_of_length_le (by omega)]at e
 rw [List.getD_eq_getElem?_getD,List.getElem?_eq_getElem (by omega)]
 exact e
theorem aCm {n i:Nat}:∀(k:Nat) (r:List Int),r.length=k→(∀j,j<k→(j<i→r.getD j 0=0)∧(j=i→r.getD j 0=1)∧(i<j→r.getD j 0=0∨r.getD j 0=1))→r∈aEf n i k
 |0,r,h,_=>by rw [List.length_eq_zero_iff.1 h];simp [aEf]
 |k+1,r,h,hr=>by
  have e:=aGE (d:=0) h
  have hl:(r.take k).length=k:=by rw [List.length_take];omega
  have ih:=aCm (n:=n) (i:=i) k (r.take k) hl fun j hj=>by
   have:=hr j (by omega)
   have e2:(r.take k).getD j 0=r.getD j 0:=by rw [List.getD_eq_getElem?_getD,List.getElem?_take,if_pos hj,←List.getD_eq_getElem?_getD]
   rw [e2];exact this
  have hk:=hr k (by omega)
  rw [aEf,List.mem_flatMap]
  refine⟨_,ih,?_⟩
  split
  ·rename_i h1
   rw [List.mem_singleton,←hk.1 h1];exact e
  ·split
   ·rename_i h1
    rw [List.mem_singleton]
    have:=hk.2.1 h1
    rw [this]at e;exact e
   ·have:=hk.2.2 (by omega)
    rcases this with h0|h0
    ·rw [h0]at e;exact List.mem_cons.2 (.inl e)
    ·rw [h0]at e;exact List.mem_cons.2 (.inr (List.mem_singleton.2 e))
theorem aCi {n:Nat}:∀(k:Nat) (R:List (List Int)),k≤n→R.length=k→(∀i,i<k→aH7 n i (R.getD i []))→R∈aEa n k
 |0,R,_,h,_=>by rw [List.length_eq_zero_iff.1 h];simp [aEa]
 |k+1,R,hn,h,hr=>by
  have e:=aGE (d:=[]) h
  have hl:(R.take k).length=k:=by rw [List.length_take];omega
  have ih:=aCi (n:=n) k (R.take k) (by omega) hl fun i hi=>by
   have:=hr i (by omega)
   have e2:(R.take k).getD i []=R.getD i []:=by rw [List.getD_eq_getElem?_getD,List.getElem?_take,if_pos hi,←List.getD_eq_getElem?_getD]
   rw [e2];exact this
  have hk:=hr k (by omega)
  rw [aEa,List.mem_flatMap]
  exact⟨_,ih,List.mem_map.2 ⟨_,aCm n _ hk.1 hk.2,e.symm⟩⟩
theorem aJJ:((List.range 5).all fun n=>(aEa n n).all fun R=>poB (wK R n n) n&&(List.range n).all fun x=>poB (wK (aC1 n R (some x)) n n) n)=true:=by decide+kernel
theorem aN3 {n:Nat} {R:List (List Int)} {x:Option Nat} (hn:n<5) (h:RelOk n R) (hx:∀y,x=some y→y<n):PoOK (wK (aC1 n R x) n n) n:=by
 have h1:=List.all_eq_true.1 (List.all_eq_true.1 aJJ n (List.mem_range.2 hn)) R (aCi n R (Nat.le_refl n) h.len h.row)
 simp only [Bool.and_eq_true,List.all_eq_true,List.mem_range]at h1
 cases x with
 |none=>exact wG h1.1
 |some y=>exact wG (h1.2 y (hx y rfl))
def oX (n:Nat):List (List Int):=List.replicate n (List.replicate n 1)
theorem aBF {n:Nat} (hn:n<5):PoOK (oX n) n:=wG (by
 have:((List.range 5).all fun n=>poB (oX n) n)=true:=by decide+kernel
 exact List.all_eq_true.1 this n (List.mem_range.2 hn))
theorem po1:PoOK [[1]] 1:=wG (by decide)
theorem po2:PoOK [[1,1],[0,1]] 2:=wG (by decide)
theorem po3:PoOK [[1,1,1],[0,1,0],[0,0,1]] 3:=wG (by decide)
end Go.Cats
end
section
namespace Go.Cats
abbrev Pth:=Int×Int×List Int
def bA:Pth:=(0,0,[])
def bfE (fr to:List Int) (p:Pth):Nat→List Pth
 |0=>[]
 |e+1=>if fr.getD e 0=p.2.1 then bfE fr to p e++[(p.1,to.getD e 0,p.2.2++[(e:Int)])]else bfE fr to p e
def bf0 (n:Nat):List Pth:=(List.range n).map fun x:Nat=>((x:Int),(x:Int),[])
def bfK (fr to:List Int):Nat→List Pth→Nat→List Pth
 |0,L,_=>L
 |q+1,L,k=>if k<L.length∧L.length≤40 then bfK fr to q (L++bfE fr to (L.getD k bA) fr.length) (k+1)else L
def aD2 (a b:Pth):Bool:=if a.1≠b.1 then decide (a.1<b.1)else if a.2.1≠b.2.1 then decide (a.2.1<b.2.1)else uF a.2.2 b.2.2
def swP (L:List Pth) (k:Nat):List Pth:=(L.set (k+1) (L.getD k bA)).set k (L.getD (k+1) bA)
def dnP (L:List Pth):Nat→List Pth
 |0=>L
 |k+1=>if aD2 (L.getD (k+1) bA) (L.getD k bA)then dnP (swP L k) k else L
def stP (L:List Pth):Nat→List Pth
 |0=>L
 |i+1=>dnP (stP L i) i
def iD (n:Nat) (fr to:List Int):List Pth:=let L:=bfK fr to 64 (bf0 n) 0;stP L L.length
def idP (n:Nat) (A:List Pth):Nat→List Int
 |0=>List.replicate n 0
 |i+1=>if(A.getD i bA).2.2=[]then(idP n A i).set (A.getD i bA).1.toNat (i:Int)else idP n A i
def uD (A:List Pth) (f:Int) (b:List Int):Nat→Int
 |0=> -1
 |k+1=>if(A.getD k bA).1=f∧(A.getD k bA).2.2=b then(k:Int)else uD A f b k
def coP (A:List Pth) (i j:Nat):Int:=if(A.getD i bA).2.1=(A.getD j bA).1 then uD A (A.getD i bA).1 ((A.getD i bA).2.2++(A.getD j bA).2.2) A.length else-1
def cwP (A:List Pth) (i k:Nat):List Int:=(List.range k).map (coP A i)
def ptC (n:Nat) (A:List Pth):Cat:=⟨n,A.map (·.1),A.map (·.2.1),idP n A A.length,(List.range A.length).map fun i=>cwP A i A.length⟩
structure GrOk (n:Nat) (fr to:List Int):Prop where
 n2:n=2∨n=3
 len:fr.length≤3
 tol:to.length=fr.length
 edge:∀e,e<fr.length→0≤fr.getD e 0∧fr.getD e 0<to.getD e 0∧to.getD e 0<n
def egs (n:Nat):List (Int×Int):=if n=2 then [(0,1)]else [(0,1),(0,2),(1,2)]
def grs (n:Nat):Nat→List (List Int×List Int)
 |0=>[([],[])]
 |k+1=>(grs n k).flatMap fun g=>(egs n).map fun e=>(g.1++[e.1],g.2++[e.2])
theorem aDY {l:List Int} {k:Nat} (h:l.length=k+1):l=l.take k++[l.getD k 0]:=by
 have e:=List.take_succ_eq_append_getElem (l:=l) (i:=k) (by omega)
 rw [List.take_of_length_le (by omega)]at e
 rw [List.getD_eq_getElem?_getD,List.getElem?_eq_getElem (by omega)]
 exact e
theorem take_at {l:List Int} {k e:Nat} (h:e<k):(l.take k).getD e 0=l.getD e 0:=by
 rw [List.getD_eq_getElem?_getD,List.getElem?_take,if_pos h,←List.getD_eq_getElem?_getD]
theorem yZ {n:Nat} (hn:n=2∨n=3):∀(k:Nat) (fr to:List Int),fr.length=k→to.length=k→(∀e,e<k→0≤fr.getD e 0∧fr.getD e 0<to.getD e 0∧to.getD e 0<n)→(fr,to)∈grs n k
 |0,fr,to,h1,h2,_=>by rw [List.length_eq_zero_iff.1 h1,List.length_eq_zero_iff.1 h2];simp [grs]
 |k+1,fr,to,h1,h2,h=>by
  have e1:=aDY h1
  have e2:=aDY h2
  have ih:=yZ hn k (fr.take k) (to.take k) (by rw [List.length_take];omega) (by rw [List.length_take];omega) fun e he=>by
   rw [take_at he,take_at he];exact h e (by omega)
  have hk:=h k (by omega)
  rw [grs,List.mem_flatMap]
  refine⟨_,ih,List.mem_map.2 ⟨(fr.getD k 0,to.getD k 0),?_,by rw [←e1,←e2]⟩⟩
  generalize fr.getD k 0=a at hk
  generalize to.getD k 0=b at hk
  unfold egs
  rcases hn with rfl|rfl
  ·obtain rfl:a=0:=by omega
   obtain rfl:b=1:=by omega
   simp
  ·rw [if_neg (by decide)]
   have ha:a=0∨a=1:=by omega
   rcases ha with rfl|rfl
   ·have hb:b=1∨b=2:=by omega
    rcases hb with rfl|rfl<;>simp
   ·obtain rfl:b=2:=by omega
    simp
def ptB (n:Nat) (fr to:List Int):Bool:=
 let L:=bfK fr to 64 (bf0 n) 0
 decide (L.length≤40)&&catB (ptC n (iD n fr to))
theorem aK4:((List.range 4).all fun k=>(grs 2 k).all fun g=>ptB 2 g.1 g.2)=true:=by decide+kernel
theorem aIG:((List.range 4).all fun k=>(grs 3 k).all fun g=>ptB 3 g.1 g.2)=true:=by decide+kernel
theorem GrOk.b {n:Nat} {fr to:List Int} (h:GrOk n fr to):ptB n fr to=true:=by
 have hm:=yZ h.n2 fr.length fr to rfl h.tol h.edge
 have hl:=h.len
 rcases h.n2 with rfl|rfl
 ·exact List.all_eq_true.1 (List.all_eq_true.1 aK4 fr.length (List.mem_range.2 (by omega))) _ hm
 ·exact List.all_eq_true.1 (List.all_eq_true.1 aIG fr.length (List.mem_range.2 (by omega))) _ hm
theorem GrOk.cat {n:Nat} {fr to:List Int} (h:GrOk n fr to):IsCat (ptC n (iD n fr to)):=by
 have:=h.b
 unfold ptB at this
 simp only [Bool.and_eq_true]at this
 exact tS this.2
theorem GrOk.few {n:Nat} {fr to:List Int} (h:GrOk n fr to):(bfK fr to 64 (bf0 n) 0).length≤40:=by
 have:=h.b
 unfold ptB at this
 simp only [Bool.and_eq_true,decide_eq_true_eq]at this
 exact this.1
end Go.Cats
end
section
namespace Go.Cats
structure Link where
 i:Int
 j:Int
 left:List Int
 right:List Int
instance:Inhabited Link:=⟨⟨0,0,[],[]⟩⟩
structure LinksW (S:List Nat) (ls:List Link):Prop where
 i:∀l∈ls,0≤l.i∧l.i<S.length
 j:∀l∈ls,0≤l.j∧l.j<S.length
 left:∀l∈ls,l.left.length=S.getD l.i.toNat 0
 right:∀l∈ls,l.right.length=S.getD l.j.toNat 0
def aNJ (ls:List Link) (Q:List Int):Bool:=ls.all fun l=>decide (l.left.getD (Q.getD l.i.toNat 0).toNat 0=l.right.getD (Q.getD l.j.toNat 0).toNat 0)
def zA (A:List Int) (n:Nat) (e:Int) (l:Link):Bool:=
 if l.i=n∧l.j=n then decide (l.left.getD e.toNat 0=l.right.getD e.toNat 0)
 else if l.i=n∧0≤A.getD l.j.toNat 0 then decide (l.left.getD e.toNat 0=l.right.getD (A.getD l.j.toNat 0).toNat 0)
 else if l.j=n∧0≤A.getD l.i.toNat 0 then decide (l.left.getD (A.getD l.i.toNat 0).toNat 0=l.right.getD e.toNat 0)
 else true
def atL (ls:List Link) (n:Nat) (m:Nat):List Nat:=(List.range m).filter fun k=>decide ((ls.getD k default).i=n)||decide ((ls.getD k default).j=n)
def aMj (ls:List Link) (A:List Int) (n:Nat) (e:Int):Bool:=(atL ls n ls.length).all fun k=>zA A n e (ls.getD k default)
def fqI (A:List Int) (i:Nat):Option Nat:=if A.getD i 0= -1 then some i else none
section
variable {ls:List Link} {S:List Nat} {A B Q:List Int} {n i m:Nat} {e:Int} {l:Link}
theorem aIx (h:aMj ls A n e=true) (hl:l∈ls):zA A n e l=true:=by
 by_cases hn:l.i=n∨l.j=n
 ·obtain⟨k,hk,e1⟩:=List.getElem_of_mem hl
  have hg:ls.getD k default=l:=by rw [List.getD_eq_getElem?_getD,List.getElem?_eq_getElem hk,Option.getD_some,e1]
  have:=List.all_eq_true.1 h k (List.mem_filter.2 ⟨List.mem_range.2 hk,by rw [hg];simpa using hn⟩)
  rwa [hg]at this
 ·unfold zA
  rw [if_neg (fun q=>hn (.inl q.1)),if_neg (fun q=>hn (.inl q.1)),if_neg (fun q=>hn (.inr q.1))]
def CoL (ls:List Link) (A:List Int):Prop:=∀l∈ls,0≤A.getD l.i.toNat 0→0≤A.getD l.j.toNat 0→l.left.getD (A.getD l.i.toNat 0).toNat 0=l.right.getD (A.getD l.j.toNat 0).toNat 0
theorem CoL.set (hw:LinksW S ls) (hA:A.length=S.length) (hi:i<A.length) (h:CoL ls A) {u:Nat} (hu:aMj ls A i u=true):CoL ls (A.set i (u:Int)):=fun l hl h1 h2=>by
 have hf:=aIx hu hl
 have w1:=hw.i l hl
 have w2:=hw.j l hl
 rw [cN hi]at h1 h2⊢
 rw [cN hi]
 unfold zA at hf
 by_cases c1:l.i.toNat=i
 ·have e1:l.i=i:=by omega
  rw [if_pos c1]
  by_cases c2:l.j.toNat=i
  ·have e2:l.j=i:=by omega
   rw [if_pos c2]
   rw [if_pos ⟨e1,e2⟩]at hf
   simpa using hf
  ·rw [if_neg c2]at h2⊢
   rw [if_neg (fun q=>c2 (by omega)),if_pos ⟨e1,h2⟩]at hf
   simpa using hf
 ·rw [if_neg c1]at h1⊢
  by_cases c2:l.j.toNat=i
  ·have e2:l.j=i:=by omega
   rw [if_pos c2]
   rw [if_neg (fun q=>c1 (by omega)),if_neg (fun q=>c1 (by omega)),if_pos ⟨e2,h1⟩]at hf
   simpa using hf
  ·rw [if_neg c2]at h2⊢
   exact h l hl h1 h2
end
end Go.Cats
end
section
namespace Go.Cats
def pI:Option Nat→Int|none=> -1|some x=>x
def bkL (A:List Int) (i:Nat):Option Nat:=suf A.length (fqI A) i
end Go.Cats
end
section
namespace Go.Cats
structure ChW (W:List Int→Bool) (S:List Nat) (ch:List Int→Nat→List Int) (Co:List Int→Prop):Prop where
 out:∀A (i:Nat),A.length=S.length→i<A.length→∃p:Nat→Bool,ch A i=((List.range (S.getD i 0)).filter p).map fun e:Nat=>(e:Int)
 mono:∀A B (i:Nat) u,A.length=S.length→XtL A B→i<A.length→u∈ch B i→u∈ch A i
 comp:∀Q A (i:Nat),Q∈yC S→W Q=true→A.length=S.length→(∀j,j<A.length→j≠i→0≤A.getD j 0→Q.getD j 0=A.getD j 0)→i<A.length→Q.getD i 0∈ch A i
 leaf:∀A:List Int,A.length=S.length→(∀j,j<A.length→0≤A.getD j 0∧A.getD j 0<S.getD j 0)→Co A→W A=true
 step:∀A (i:Nat) u,A.length=S.length→i<A.length→A.getD i 0= -1→Co A→u∈ch A i→Co (A.set i u)
section
variable {W:List Int→Bool} {S:List Nat} {ch:List Int→Nat→List Int} {Co:List Int→Prop} {A B Q C:List Int} {n i k x:Nat} {u:Int}
theorem ChW.rng (h:ChW W S ch Co) (hA:A.length=S.length) (hi:i<A.length) (hu:u∈ch A i):0≤u∧u<S.getD i 0:=by
 obtain⟨p,hp⟩:=h.out A i hA hi
 rw [hp]at hu
 obtain⟨e,he,rfl⟩:=List.mem_map.1 hu
 have:=List.mem_range.1 (List.mem_filter.1 he).1
 omega
end
/-! ### Transformations -/
def SqP (f g:Fun) (A:List Int) (a:Nat):Prop:=f.tgt.C (f.ars.getD a 0) (A.getD (f.src.to.getD a 0).toNat 0)=f.tgt.C (A.getD (f.src.fr.getD a 0).toNat 0) (g.ars.getD a 0)
structure NatP (f g:Fun) (A:List Int):Prop where
 end_:∀x,x<A.length→A.getD x 0∈f.tgt.hom (f.obs.getD x 0) (g.obs.getD x 0)
 sq:∀a,a<f.src.fr.length→SqP f g A a
structure Par (f g:Fun):Prop where
 src:IsCat f.src
 tgt:IsCat f.tgt
 fit:Fits f
 fit2:Fits g
 es:g.src=f.src
 et:g.tgt=f.tgt
section
variable {f g:Fun} {A B P Q X C:List Int} {a x r k n:Nat} {b u:Int}
structure NatK (f g:Fun) (X:List Int):Prop where
 end_:∀x,x<X.length→X.getD x 0∈f.tgt.hom (f.obs.getD x 0) (g.obs.getD x 0)
 sq:∀a,a<f.src.fr.length→(f.src.fr.getD a 0).toNat<X.length→(f.src.to.getD a 0).toNat<X.length→SqP f g X a
theorem NatK.nil:NatK f g []:=⟨fun x hx=>by simp at hx,fun a _ h=>by simp at h⟩
/-! ### The program's search -/
def SqX (f g:Fun) (P:List Int) (x:Nat):Prop:=∀a,a<f.src.fr.length→max (f.src.fr.getD a 0) (f.src.to.getD a 0)=x→SqP f g P a
abbrev NSt:=Bool×List (List Int)×List Int
open Classical in
noncomputable def aQX (f g:Fun) (run:List Int→List (List Int)→NSt) (x:Nat) (s:NSt) (b:Int):NSt:=
 if s.1=true then(if SqX f g (s.2.2.set x b) x then run (s.2.2.set x b) s.2.1 else(true,s.2.1,s.2.2.set x b))else s
noncomputable def aFe (f g:Fun) (M:Nat):Nat→List Int→List (List Int)→NSt
 |0,P,F=>((stL M F P).1,(stL M F P).2,P)
 |r+1,P,F=>(f.tgt.hom (f.obs.getD (f.src.ob.toNat-(r+1)) 0) (g.obs.getD (f.src.ob.toNat-(r+1)) 0)).foldl (aQX f g (aFe f g M r) (f.src.ob.toNat-(r+1))) (true,F,P)
variable {run:List Int→List (List Int)→NSt} {s:NSt} {F:List (List Int)} {M:Nat}
structure RunW (f g:Fun) (M r:Nat) (X P:List Int) (F:List (List Int)) (s:NSt) (L:List (List Int)):Prop where
 ok:s.1=(eat (stL M) F L).1
 out:s.2.1=(eat (stL M) F L).2
 len:s.2.2.length=P.length
 pre:s.2.2.take X.length=X
structure StW (f g:Fun) (M r x:Nat) (P:List Int) (F:List (List Int)) (C:List Int) (st:Nat→NSt):Prop where
 zero:st 0=(true,F,P)
 all:aFe f g M (r+1) P F=st C.length
 yes:∀k,k<C.length→(st k).1=true→SqX f g ((st k).2.2.set x (C.getD k 0)) x→st (k+1)=aFe f g M r ((st k).2.2.set x (C.getD k 0)) (st k).2.1
 no:∀k,k<C.length→(st k).1=true→¬SqX f g ((st k).2.2.set x (C.getD k 0)) x→st (k+1)=(true,(st k).2.1,(st k).2.2.set x (C.getD k 0))
 stop:∀k,k<C.length→(st (k+1)).1=false→st C.length=st (k+1)
 len:∀k,k≤C.length→(st k).2.2.length=f.src.ob.toNat
 few:∀k,k≤C.length→(st k).1=true→(st k).2.1.length≤M
 rng:∀k,k<C.length→∀i,i≤x→0≤((st k).2.2.set x (C.getD k 0)).getD i 0∧((st k).2.2.set x (C.getD k 0)).getD i 0<f.tgt.fr.length
 good:∀k,k<C.length→SqX f g ((st k).2.2.set x (C.getD k 0)) x→NatK f g (((st k).2.2.set x (C.getD k 0)).take (x+1))
end
end Go.Cats
end
section
namespace Go.Cats
def pq (n:Nat) (x y:List Int) (w:Int) (k:Nat):List Int:=(List.range k).map fun k=>x.getD (k/n) 0*w+y.getD (k%n) 0
section
variable {n k i j:Nat} {x y:List Int} {w:Int}
theorem aLs (n x y w):pq n x y w 0=[]:=rfl
theorem sQ:(pq n x y w k).length=k:=by unfold pq;rw [List.length_map,List.length_range]
theorem uI (hj:j<n):(i*n+j)/n=i:=by
 have h0:0<n:=by omega
 rw [Nat.add_comm,Nat.add_mul_div_right _ _ h0,Nat.div_eq_of_lt hj,Nat.zero_add]
theorem uJ (hj:j<n):(i*n+j)%n=j:=by
 rw [Nat.add_comm,Nat.add_mul_mod_self_right,Nat.mod_eq_of_lt hj]
theorem aCV {m:Nat} (hi:i<m) (hj:j<n):i*n+j<m*n:=by
 have:(i+1)*n≤m*n:=Nat.mul_le_mul_right n hi
 rw [Nat.succ_mul]at this
 omega
theorem aCZ (hj:j<n):pq n x y w (i*n+(j+1))=pq n x y w (i*n+j)++[x.getD i 0*w+y.getD j 0]:=by
 rw [←Nat.add_assoc]
 unfold pq
 rw [List.range_succ,List.map_append,List.map_singleton,uI hj,uJ hj]
theorem aQE {m:Nat} (h:k<m):(pq n x y w m).getD k 0=x.getD (k/n) 0*w+y.getD (k%n) 0:=by
 unfold pq;rw [List.getD_eq_getElem?_getD,List.getElem?_map,List.getElem?_range h];rfl
theorem aCY {m:Nat} (hi:i<m) (hj:j<n):(pq n x y w (m*n)).getD (i*n+j) 0=x.getD i 0*w+y.getD j 0:=by
 rw [aQE (aCV hi hj),uI hj,uJ hj]
theorem zY {m:Nat} (h:k<m*n):k/n<m∧k%n<n:=by
 have h0:0<n:=by
  rcases Nat.eq_zero_or_pos n with e|e
  ·subst e;omega
  ·exact e
 exact⟨Nat.div_lt_of_lt_mul (by rw [Nat.mul_comm];exact h),Nat.mod_lt _ h0⟩
end
def prE (c d:Cat) (k l:Nat):Int:=
 if 0≤c.C (k/d.fr.length:Nat) (l/d.fr.length:Nat)∧0≤d.C (k%d.fr.length:Nat) (l%d.fr.length:Nat)then
  c.C (k/d.fr.length:Nat) (l/d.fr.length:Nat)*d.fr.length+d.C (k%d.fr.length:Nat) (l%d.fr.length:Nat)else-1
def prW (c d:Cat) (k l:Nat):List Int:=(List.range l).map (prE c d k)
def prT (c d:Cat) (k:Nat):List (List Int):=(List.range k).map fun k=>prW c d k (c.fr.length*d.fr.length)
def prC (c d:Cat):Cat:=⟨c.ob*d.ob,pq d.fr.length c.fr d.fr d.ob (c.fr.length*d.fr.length),pq d.fr.length c.to d.to d.ob (c.fr.length*d.fr.length),pq d.id.length c.id d.id d.fr.length (c.id.length*d.id.length),prT c d (c.fr.length*d.fr.length)⟩
section
variable {c d:Cat} {i j k l a b:Nat}
theorem aJv (c d k):prW c d k 0=[]:=rfl
theorem aJt (c d):prT c d 0=[]:=rfl
theorem aGs:(prW c d k l).length=l:=by unfold prW;rw [List.length_map,List.length_range]
theorem aGr:(prT c d k).length=k:=by unfold prT;rw [List.length_map,List.length_range]
theorem aD6 (hj:j<d.fr.length) (hb:b<d.fr.length):prE c d (i*d.fr.length+j) (a*d.fr.length+b)=if 0≤c.C i a∧0≤d.C j b then c.C i a*d.fr.length+d.C j b else-1:=by
 unfold prE;rw [uI hj,uJ hj,uI hb,uJ hb]
theorem aJu (hj:j<d.fr.length) (hb:b<d.fr.length):prW c d (i*d.fr.length+j) (a*d.fr.length+(b+1))=prW c d (i*d.fr.length+j) (a*d.fr.length+b)++[if 0≤c.C i a∧0≤d.C j b then c.C i a*d.fr.length+d.C j b else-1]:=by
 rw [←Nat.add_assoc,←aD6 hj hb]
 unfold prW
 rw [List.range_succ,List.map_append,List.map_singleton]
theorem aJs:prT c d (i*d.fr.length+(j+1))=prT c d (i*d.fr.length+j)++[prW c d (i*d.fr.length+j) (c.fr.length*d.fr.length)]:=by
 rw [←Nat.add_assoc];unfold prT;rw [List.range_succ,List.map_append,List.map_singleton]
theorem aOq {x x' n y y':Int} (h0:0≤y) (h1:y<n) (h2:0≤y') (h3:y'<n):x*n+y=x'*n+y'↔x=x'∧y=y':=by
 constructor
 ·intro h
  have hx:x=x':=by
   have e1:(x*n+y)/n=x:=by rw [Int.add_comm,Int.add_mul_ediv_right _ _ (by omega),Int.ediv_eq_zero_of_lt h0 h1];omega
   have e2:(x'*n+y')/n=x':=by rw [Int.add_comm,Int.add_mul_ediv_right _ _ (by omega),Int.ediv_eq_zero_of_lt h2 h3];omega
   rw [←e1,←e2,h]
  subst hx
  exact⟨rfl,by omega⟩
 ·rintro⟨rfl,rfl⟩;rfl
end
def fxO (d:Cat) (f:Fun) (i:Int) (k:Nat):List Int:=(List.range k).map fun(j:Nat)=>f.obs.getD (i*d.ob+(j:Int)).toNat 0
def fxA (c d:Cat) (f:Fun) (i:Int) (k:Nat):List Int:=(List.range k).map fun(b:Nat)=>f.ars.getD (c.I i*d.fr.length+(b:Int)).toNat 0
def fxF (c d:Cat) (f:Fun) (i:Int):Fun:=⟨d,f.tgt,fxO d f i d.ob.toNat,fxA c d f i d.fr.length⟩
section
variable {c d:Cat} {f:Fun} {i:Int} {k j a:Nat}
end
abbrev go2 (d:Cat) (f:Fun) (x y:Int):Int:=f.obs.getD (x*d.ob+y).toNat 0
abbrev ga2 (d:Cat) (f:Fun) (x y:Int):Int:=f.ars.getD (x*d.fr.length+y).toNat 0
structure TwoF (c d:Cat) (f:Fun):Prop where
 sc:IsCat c
 sd:IsCat d
 tg:IsCat f.tgt
 obl:f.obs.length=c.ob.toNat*d.ob.toNat
 arl:f.ars.length=c.fr.length*d.fr.length
 obw:Within f.obs f.tgt.ob
 arw:Within f.ars f.tgt.fr.length
 ends:∀i j:Nat,i<c.fr.length→j<d.fr.length→f.tgt.F (ga2 d f i j)=go2 d f (c.fr.getD i 0) (d.fr.getD j 0)∧f.tgt.T (ga2 d f i j)=go2 d f (c.to.getD i 0) (d.to.getD j 0)
 unit:∀p q:Nat,p<c.id.length→q<d.id.length→ga2 d f (c.id.getD p 0) (d.id.getD q 0)=f.tgt.I (go2 d f p q)
 comp:∀i j a b:Nat,i<c.fr.length→j<d.fr.length→a<c.fr.length→b<d.fr.length→c.to.getD i 0=c.fr.getD a 0→d.to.getD j 0=d.fr.getD b 0→ga2 d f (c.C i a) (d.C j b)=f.tgt.C (ga2 d f i j) (ga2 d f a b)
section
variable {c d:Cat} {f:Fun} {i a:Nat}
end
end Go.Cats
end
section
namespace Go.Cats
theorem aDn {a b A B:Int} (h0:0≤a) (h1:a<A) (h2:0≤b) (h3:b<B):0≤a*B+b∧a*B+b<A*B:=by
 have k1:(a+1)*B≤A*B:=Int.mul_le_mul_of_nonneg_right (by omega) (by omega)
 have k2:0≤a*B:=Int.mul_nonneg h0 (by omega)
 rw [Int.add_mul,Int.one_mul]at k1
 exact⟨by omega,by omega⟩
theorem lN {x y:Int} {m:Nat} (h0:0≤x) (h2:0≤y):(x*m+y).toNat=x.toNat*m+y.toNat:=by
 obtain⟨a,rfl⟩:=Int.eq_ofNat_of_zero_le h0
 obtain⟨b,rfl⟩:=Int.eq_ofNat_of_zero_le h2
 rw [←Int.natCast_mul,←Int.natCast_add,Int.toNat_natCast,Int.toNat_natCast,Int.toNat_natCast]
section
variable {c d:Cat} {x y x' y':Int} {f g:Nat}
theorem aAz:(prC c d).fr.length=c.fr.length*d.fr.length:=sQ
theorem aMv:(prC c d).to.length=c.fr.length*d.fr.length:=sQ
theorem aJw:(prC c d).id.length=c.id.length*d.id.length:=sQ
theorem aHz (h0:0≤x) (h1:x<c.fr.length) (h2:0≤y) (h3:y<d.fr.length):(prC c d).F (x*d.fr.length+y)=c.F x*d.ob+d.F y:=by
 unfold Cat.F
 rw [lN h0 h2]
 exact aCY (by omega) (by omega)
theorem aHA (h0:0≤x) (h1:x<c.fr.length) (h2:0≤y) (h3:y<d.fr.length):(prC c d).T (x*d.fr.length+y)=c.T x*d.ob+d.T y:=by
 unfold Cat.T
 rw [lN h0 h2]
 exact aCY (by omega) (by omega)
theorem aLu (sc:Shape c) (sd:Shape d) (h0:0≤x) (h1:x<c.ob) (h2:0≤y) (h3:y<d.ob):(prC c d).I (x*d.ob+y)=c.I x*d.fr.length+d.I y:=by
 have e1:=sc.idl
 have e2:=sd.idl
 unfold Cat.I
 rw [←e2,lN h0 h2]
 exact aCY (by omega) (by omega)
theorem aFj (sc:Shape c) (sd:Shape d) (h0:0≤x) (h1:x<c.fr.length) (h2:0≤y) (h3:y<d.fr.length) (k0:0≤x') (k1:x'<c.fr.length) (k2:0≤y') (k3:y'<d.fr.length):
  (prC c d).C (x*d.fr.length+y) (x'*d.fr.length+y')=if c.T x=c.F x'∧d.T y=d.F y' then c.C x x'*d.fr.length+d.C y y' else-1:=by
 have b1:x.toNat<c.fr.length:=by omega
 have b2:y.toNat<d.fr.length:=by omega
 have b3:x'.toNat<c.fr.length:=by omega
 have b4:y'.toNat<d.fr.length:=by omega
 have hk:=aCV b1 b2
 have hl:=aCV b3 b4
 have n1:=sc.neg b1 b3
 have n2:=sd.neg b2 b4
 rw [Int.toNat_of_nonneg h0,Int.toNat_of_nonneg k0]at n1
 rw [Int.toNat_of_nonneg h2,Int.toNat_of_nonneg k2]at n2
 have e:(prC c d).C (x*d.fr.length+y) (x'*d.fr.length+y')=prE c d (x.toNat*d.fr.length+y.toNat) (x'.toNat*d.fr.length+y'.toNat):=by
  show((prT c d (c.fr.length*d.fr.length)).getD (x*d.fr.length+y).toNat []).getD (x'*d.fr.length+y').toNat 0=_
  rw [lN h0 h2,lN k0 k2]
  unfold prT
  rw [List.getD_eq_getElem?_getD (l:=List.map _ _) (i:=x.toNat*d.fr.length+y.toNat),List.getElem?_map,List.getElem?_range hk]
  show(prW c d _ _).getD _ 0=_
  unfold prW
  rw [List.getD_eq_getElem?_getD,List.getElem?_map,List.getElem?_range hl];rfl
 rw [e,aD6 b2 b4,Int.toNat_of_nonneg h0,Int.toNat_of_nonneg h2,Int.toNat_of_nonneg k0,Int.toNat_of_nonneg k2]
 by_cases h:c.T x=c.F x'∧d.T y=d.F y'
 ·rw [if_pos h,if_pos]
  exact⟨Int.not_lt.1 fun q=>(n1.1 q) h.1,Int.not_lt.1 fun q=>(n2.1 q) h.2⟩
 ·rw [if_neg h,if_neg]
  rintro⟨q1,q2⟩
  refine h ⟨Classical.byContradiction fun q=>?_,Classical.byContradiction fun q=>?_⟩
  ·have:=n1.2 q;omega
  ·have:=n2.2 q;omega
theorem iM (h:f<c.fr.length*d.fr.length):∃x y:Int,0≤x∧x<c.fr.length∧0≤y∧y<d.fr.length∧(f:Int)=x*d.fr.length+y:=by
 obtain⟨h1,h2⟩:=zY h
 refine⟨((f/d.fr.length:Nat):Int),((f%d.fr.length:Nat):Int),Int.natCast_nonneg _,by omega,Int.natCast_nonneg _,by omega,?_⟩
 rw [←Int.natCast_mul,←Int.natCast_add,Nat.mul_comm,Nat.div_add_mod]
theorem aLt (hc:IsCat c) (hd:IsCat d) (h8:c.ob*d.ob≤8) (h40:c.fr.length*d.fr.length≤40):IsCat (prC c d):=by
 have sc:=hc.toShape
 have sd:=hd.toShape
 have e1:=sc.idl
 have e2:=sd.idl
 have cF:∀z:Int,0≤z→z<c.fr.length→0≤c.F z∧c.F z<c.ob:=fun z h0 h1=>sc.frw z.toNat (by omega)
 have cT:∀z:Int,0≤z→z<c.fr.length→0≤c.T z∧c.T z<c.ob:=fun z h0 h1=>sc.tow z.toNat (by rw [sc.tol];omega)
 have dF:∀z:Int,0≤z→z<d.fr.length→0≤d.F z∧d.F z<d.ob:=fun z h0 h1=>sd.frw z.toNat (by omega)
 have dT:∀z:Int,0≤z→z<d.fr.length→0≤d.T z∧d.T z<d.ob:=fun z h0 h1=>sd.tow z.toNat (by rw [sd.tol];omega)
 have bigI:∀f:Nat,f<(prC c d).id.length→∃x y:Int,0≤x∧x<c.ob∧0≤y∧y<d.ob∧(f:Int)=x*d.ob+y:=fun f hf=>by
  rw [aJw]at hf
  obtain⟨h1,h2⟩:=zY hf
  refine⟨((f/d.id.length:Nat):Int),((f%d.id.length:Nat):Int),Int.natCast_nonneg _,by omega,Int.natCast_nonneg _,by omega,?_⟩
  rw [←e2,←Int.natCast_mul,←Int.natCast_add,Nat.mul_comm,Nat.div_add_mod]
 have meet:∀{x y x' y':Int},0≤x→x<c.fr.length→0≤y→y<d.fr.length→0≤x'→x'<c.fr.length→0≤y'→y'<d.fr.length→((prC c d).T (x*d.fr.length+y)=(prC c d).F (x'*d.fr.length+y')↔c.T x=c.F x'∧d.T y=d.F y'):=fun h0 h1 h2 h3 k0 k1 k2 k3=>by
  rw [aHA h0 h1 h2 h3,aHz k0 k1 k2 k3]
  exact aOq (dT _ h2 h3).1 (dT _ h2 h3).2 (dF _ k2 k3).1 (dF _ k2 k3).2
 have shp:Shape (prC c d):=by
  refine⟨Int.mul_nonneg sc.ob0 sd.ob0,h8,by rw [aAz];exact h40,by rw [aAz,aMv],fun f hf=>?_,fun f hf=>?_,?_,fun i hi=>?_,?_,fun i hi=>?_,fun f hf=>⟨?_,fun g hg=>?_⟩⟩
  ·rw [aAz]at hf
   obtain⟨x,y,h0,h1,h2,h3,e⟩:=iM hf
   have:=aHz h0 h1 h2 h3
   rw [←e]at this
   show 0≤(prC c d).F (f:Int)∧(prC c d).F (f:Int)<c.ob*d.ob
   rw [this]
   exact aDn (cF x h0 h1).1 (cF x h0 h1).2 (dF y h2 h3).1 (dF y h2 h3).2
  ·rw [aMv]at hf
   obtain⟨x,y,h0,h1,h2,h3,e⟩:=iM hf
   have:=aHA h0 h1 h2 h3
   rw [←e]at this
   show 0≤(prC c d).T (f:Int)∧(prC c d).T (f:Int)<c.ob*d.ob
   rw [this]
   exact aDn (cT x h0 h1).1 (cT x h0 h1).2 (dT y h2 h3).1 (dT y h2 h3).2
  ·rw [aJw,Int.natCast_mul,e1,e2];rfl
  ·obtain⟨x,y,h0,h1,h2,h3,e⟩:=bigI i hi
   have:=aLu sc sd h0 h1 h2 h3
   rw [←e]at this
   show 0≤(prC c d).I (i:Int)∧(prC c d).I (i:Int)<_
   rw [this,aAz,Int.natCast_mul]
   obtain⟨a1,a2,_⟩:=hc.idI h0 h1
   obtain⟨b1,b2,_⟩:=hd.idI h2 h3
   exact aDn a1 a2 b1 b2
  ·show(prT c d _).length=_
   rw [aGr,aAz]
  ·obtain⟨x,y,h0,h1,h2,h3,e⟩:=bigI i hi
   have:=aLu sc sd h0 h1 h2 h3
   rw [←e]at this
   obtain⟨a1,a2,a3,a4⟩:=hc.idI h0 h1
   obtain⟨b1,b2,b3,b4⟩:=hd.idI h2 h3
   show(prC c d).F ((prC c d).I (i:Int))=i∧(prC c d).T ((prC c d).I (i:Int))=i
   rw [this,aHz a1 a2 b1 b2,aHA a1 a2 b1 b2,a3,a4,b3,b4,e]
   exact⟨rfl,rfl⟩
  ·rw [aAz]at hf⊢
   show((prT c d _).getD f []).length=_
   unfold prT
   rw [List.getD_eq_getElem?_getD,List.getElem?_map,List.getElem?_range hf]
   exact aGs
  ·rw [aAz]at hf hg
   obtain⟨x,y,h0,h1,h2,h3,ef⟩:=iM hf
   obtain⟨x',y',k0,k1,k2,k3,eg⟩:=iM hg
   have hC:=aFj sc sd h0 h1 h2 h3 k0 k1 k2 k3
   have hM:=meet h0 h1 h2 h3 k0 k1 k2 k3
   rw [←ef,←eg]at hC hM
   show((prC c d).T (f:Int)=(prC c d).F (g:Int)∧_∧(prC c d).F _=(prC c d).F (f:Int)∧(prC c d).T _=(prC c d).T (g:Int))∨((prC c d).T (f:Int)≠(prC c d).F (g:Int)∧_)
   by_cases h:c.T x=c.F x'∧d.T y=d.F y'
   ·rw [if_pos h]at hC
    obtain⟨p1,p2,p3,p4⟩:=hc.compI h0 h1 k0 k1 h.1
    obtain⟨q1,q2,q3,q4⟩:=hd.compI h2 h3 k2 k3 h.2
    refine .inl ⟨hM.2 h,?_,?_,?_⟩
    ·rw [hC,aAz,Int.natCast_mul];exact aDn p1 p2 q1 q2
    ·rw [hC,aHz p1 p2 q1 q2,p3,q3,ef,aHz h0 h1 h2 h3]
    ·rw [hC,aHA p1 p2 q1 q2,p4,q4,eg,aHA k0 k1 k2 k3]
   ·rw [if_neg h]at hC
    exact .inr ⟨fun q=>h (hM.1 q),hC⟩
 refine⟨shp,fun f hf=>?_,fun f hf=>?_,fun f g q hf hg hq m1 m2=>?_⟩
 ·rw [aAz]at hf
  obtain⟨x,y,h0,h1,h2,h3,e⟩:=iM hf
  obtain⟨a1,a2,a3,a4⟩:=hc.idI (cF x h0 h1).1 (cF x h0 h1).2
  obtain⟨b1,b2,b3,b4⟩:=hd.idI (dF y h2 h3).1 (dF y h2 h3).2
  rw [e,aHz h0 h1 h2 h3,aLu sc sd (cF x h0 h1).1 (cF x h0 h1).2 (dF y h2 h3).1 (dF y h2 h3).2,aFj sc sd a1 a2 b1 b2 h0 h1 h2 h3,if_pos ⟨a4,b4⟩,hc.unlI h0 h1,hd.unlI h2 h3]
 ·rw [aAz]at hf
  obtain⟨x,y,h0,h1,h2,h3,e⟩:=iM hf
  obtain⟨a1,a2,a3,a4⟩:=hc.idI (cT x h0 h1).1 (cT x h0 h1).2
  obtain⟨b1,b2,b3,b4⟩:=hd.idI (dT y h2 h3).1 (dT y h2 h3).2
  rw [e,aHA h0 h1 h2 h3,aLu sc sd (cT x h0 h1).1 (cT x h0 h1).2 (dT y h2 h3).1 (dT y h2 h3).2,aFj sc sd h0 h1 h2 h3 a1 a2 b1 b2,if_pos ⟨a3.symm,b3.symm⟩,hc.unrI h0 h1,hd.unrI h2 h3]
 ·rw [aAz]at hf hg hq
  obtain⟨x,y,h0,h1,h2,h3,ef⟩:=iM hf
  obtain⟨x',y',k0,k1,k2,k3,eg⟩:=iM hg
  obtain⟨x2,y2,l0,l1,l2,l3,eq⟩:=iM hq
  rw [ef,eg]at m1
  rw [eg,eq]at m2
  have M1:=(meet h0 h1 h2 h3 k0 k1 k2 k3).1 m1
  have M2:=(meet k0 k1 k2 k3 l0 l1 l2 l3).1 m2
  obtain⟨p1,p2,p3,p4⟩:=hc.compI h0 h1 k0 k1 M1.1
  obtain⟨q1,q2,q3,q4⟩:=hd.compI h2 h3 k2 k3 M1.2
  obtain⟨r1,r2,r3,r4⟩:=hc.compI k0 k1 l0 l1 M2.1
  obtain⟨s1,s2,s3,s4⟩:=hd.compI k2 k3 l2 l3 M2.2
  rw [ef,eg,eq,aFj sc sd h0 h1 h2 h3 k0 k1 k2 k3,if_pos M1,aFj sc sd k0 k1 k2 k3 l0 l1 l2 l3,if_pos M2,aFj sc sd p1 p2 q1 q2 l0 l1 l2 l3,if_pos ⟨p4.trans M2.1,q4.trans M2.2⟩,
   aFj sc sd h0 h1 h2 h3 r1 r2 s1 s2,if_pos ⟨M1.1.trans r3.symm,M1.2.trans s3.symm⟩,hc.assI h0 h1 k0 k1 l0 l1 M1.1 M2.1,hd.assI h2 h3 k2 k3 l2 l3 M1.2 M2.2]
end
end Go.Cats
end
section
namespace Go.Cats
def nums (n:Nat):List Int:=(List.range n).map fun i:Nat=>(i:Int)
theorem wD:nums 0=[]:=rfl
theorem iK (n:Nat):(nums n).length=n:=by simp [nums]
theorem aB7 (n:Nat):nums (n+1)=nums n++[(n:Int)]:=by simp [nums,List.range_succ]
theorem aLi {n i:Nat} (h:i<n):(nums n).getD i 0=i:=by simp [nums,h]
def oneC:Cat:=⟨1,[0],[0],[0],[[0]]⟩
def cB (c:Cat):Fun:=⟨c,c,nums c.ob.toNat,nums c.fr.length⟩
def bN (c:Cat) (x:Int):Fun:=⟨oneC,c,[x],[c.I x]⟩
end Go.Cats
end
section
namespace Go.Cats
abbrev Tr:=Nat×Nat×Nat
def aGz (acts:List (List Int)) (t:Tr):Rule:=⟨t.1,t.2.2,acts.getD t.2.1 []⟩
def aGi (acts:List (List Int)) (S:List Nat) (t:Tr):Link:=⟨t.1,t.2.2,acts.getD t.2.1 [],nums (S.getD t.2.2 0)⟩
structure TrW (S:List Nat) (acts:List (List Int)) (T:List Tr):Prop where
 fr:∀t∈T,t.1<S.length
 to:∀t∈T,t.2.2<S.length
 len:∀t∈T,(acts.getD t.2.1 []).length=S.getD t.1 0
 val:∀t∈T,∀e:Nat,e<S.getD t.1 0→0≤(acts.getD t.2.1 []).getD e 0∧(acts.getD t.2.1 []).getD e 0<S.getD t.2.2 0
 arr:∀t∈T,t.2.1<acts.length
variable {S:List Nat} {acts:List (List Int)} {T:List Tr}
theorem TrW.same (h:TrW S acts T) {Q:List Int} (hQ:Q∈yC S):aNJ (T.map (aGi acts S)) Q=okW (T.map (aGz acts)) Q:=by
 obtain⟨q1,q2⟩:=mem_lexP.1 hQ
 unfold aNJ okW
 rw [List.all_map,List.all_map]
 refine Bool.eq_iff_iff.2 ?_
 simp only [List.all_eq_true,Function.comp]
 refine⟨fun k t ht=>?_,fun k t ht=>?_⟩
 all_goals
  have k1:=k t ht
  have f1:=h.fr t ht
  have f2:=h.to t ht
  have b1:=q2 t.1 (by omega)
  have b2:=q2 t.2.2 (by omega)
  have e1:(nums (S.getD t.2.2 0)).getD (Q.getD t.2.2 0).toNat 0=Q.getD t.2.2 0:=by rw [aLi (by omega)];omega
  have k2:=of_decide_eq_true k1
  refine decide_eq_true ?_
  simp only [aGi,aGz,Int.toNat_natCast]at k2⊢
  rw [e1]at *
  exact k2.symm
theorem TrW.ext (h:TrW S acts T) (A:List Int):fT (aNJ (T.map (aGi acts S))) S A=fT (okW (T.map (aGz acts))) S A:=by
 unfold fT
 refine List.filter_congr fun Q hQ=>?_
 rw [h.same hQ]
end Go.Cats
end
section
namespace Go.Cats
def aPr (f g:Fun) (B:List Int) (x:Nat) (a:Nat):Prop:=(¬f.src.fr.getD a 0=x∧¬f.src.to.getD a 0=x)∨B.getD (f.src.fr.getD a 0).toNat 0<0∨B.getD (f.src.to.getD a 0).toNat 0<0∨SqP f g B a
def aUw (f g:Fun) (A:List Int) (x:Nat) (b:Int):Prop:=∀a,a<f.src.fr.length→aPr f g (A.set x b) x a
noncomputable def aU7 (f g:Fun) (A:List Int) (x k:Nat):List Int:=((f.tgt.hom (f.obs.getD x 0) (g.obs.getD x 0)).take k).filter fun b=>dec (aUw f g A x b)
section
variable {f g:Fun} {A B Q:List Int} {x i k n:Nat} {b u:Int}
theorem aHr:aU7 f g A x 0=[]:=rfl
structure CoN (f g:Fun) (A:List Int):Prop where
 end_:∀i,i<A.length→0≤A.getD i 0→A.getD i 0∈f.tgt.hom (f.obs.getD i 0) (g.obs.getD i 0)
 sq:∀a,a<f.src.fr.length→0≤A.getD (f.src.fr.getD a 0).toNat 0→0≤A.getD (f.src.to.getD a 0).toNat 0→SqP f g A a
end
end Go.Cats
end
section
namespace Go.Cats
abbrev Ps:=List Int×List Int
open Classical in
section
variable {f:Ps→Ps} {c d:Cat} {b:Bool} {x y r:Nat} {s:Ps} {P A:List Int}
theorem aEM {l:List Int} {n:Int} {y:Nat} (h:Within l n) (hy:(y:Int)<n):Within (l++[(y:Int)]) n:=fun i hi=>by
 rw [List.length_append,List.length_singleton]at hi
 by_cases q:i<l.length
 ·rw [List.getD_eq_getElem?_getD,List.getElem?_append_left q,←List.getD_eq_getElem?_getD];exact h i q
 ·rw [List.getD_eq_getElem?_getD,List.getElem?_append_right (by omega),show i-l.length=0 by omega]
  simp only [List.getElem?_cons_zero,Option.getD_some];omega
end
end Go.Cats
end
section
namespace Go.Cats
section
variable {n:Nat} {A:List (List Int)} {U:Nat→List Int} {cp:List Int→List Int→List Int} {d:Cat} {P:Nat→Int} {k:Nat}
theorem TabOK.func (h:TabOK n A U cp) (hd:IsCat d) (p1:∀i,i<n→0≤P i∧P i<d.ob) (q1:∀r∈A,0≤r.getD k 0∧r.getD k 0<d.fr.length) (q2:∀r∈A,d.F (r.getD k 0)=P (r.getD 0 0).toNat∧d.T (r.getD k 0)=P (r.getD 1 0).toNat)
  (q3:∀i,i<n→(U i).getD k 0=d.I (P i)) (q4:∀r∈A,∀s∈A,r.getD 1 0=s.getD 0 0→(cp r s).getD k 0=d.C (r.getD k 0) (s.getD k 0)):
  IsFun ⟨gN n A U cp,d,(List.range n).map P,A.map fun r=>r.getD k 0⟩:=by
 have hP:∀i,i<n→((List.range n).map P).getD i 0=P i:=fun i hi=>by
  rw [List.getD_eq_getElem?_getD,List.getElem?_map,List.getElem?_range hi];rfl
 have hA:∀a,a<A.length→(A.map fun r=>r.getD k 0).getD a 0=(A.getD a []).getD k 0:=fun a ha=>nZ (f:=fun r=>r.getD k 0) ha
 have hm:=aGI (n:=n) (A:=A) (U:=U) (cp:=cp)
 have e0:∀a,a<A.length→(((A.getD a []).getD 0 0).toNat:Int)=(A.getD a []).getD 0 0∧((A.getD a []).getD 0 0).toNat<n:=fun a ha=>by have:=h.e0 _ (TabOK.mem ha);omega
 have e1:∀a,a<A.length→(((A.getD a []).getD 1 0).toNat:Int)=(A.getD a []).getD 1 0∧((A.getD a []).getD 1 0).toNat<n:=fun a ha=>by have:=h.e1 _ (TabOK.mem ha);omega
 refine⟨h.cat,hd,?_,?_,fun i hi=>?_,fun a ha=>?_,fun a ha=>?_,fun x hx=>?_,fun a b ha hb hc=>?_⟩
 ·show(((List.range n).map P).length:Int)=n;rw [List.length_map,List.length_range]
 ·show(A.map _).length=(gN n A U cp).fr.length;rw [List.length_map,hm]
 ·have hi:i<n:=by
   have e:((List.range n).map P).length=n:=by rw [List.length_map,List.length_range]
   exact e▸hi
  show 0≤((List.range n).map P).getD i 0∧((List.range n).map P).getD i 0<d.ob
  rw [hP i hi];exact p1 i hi
 ·have ha:a<A.length:=by
   have e:(A.map fun r=>r.getD k 0).length=A.length:=List.length_map _
   exact e▸ha
  show 0≤(A.map _).getD a 0∧(A.map _).getD a 0<(d.fr.length:Int)
  rw [hA a ha];exact q1 _ (TabOK.mem ha)
 ·have ha:a<A.length:=by
   have e:(A.map fun r=>r.getD k 0).length=A.length:=List.length_map _
   exact e▸ha
  show d.F ((A.map _).getD a 0)=((List.range n).map P).getD ((gN n A U cp).F (a:Int)).toNat 0∧d.T ((A.map _).getD a 0)=((List.range n).map P).getD ((gN n A U cp).T (a:Int)).toNat 0
  rw [hA a ha,aCs ha,aCt ha,hP _ (e0 a ha).2,hP _ (e1 a ha).2]
  exact q2 _ (TabOK.mem ha)
 ·have hx:x<n:=by
   have e:(gN n A U cp).id.length=n:=by show((List.range n).map _).length=_;rw [List.length_map,List.length_range]
   exact e▸hx
  obtain⟨j,j1,j2,j3⟩:=h.I hx
  show(A.map _).getD ((gN n A U cp).id.getD x 0).toNat 0=d.I (((List.range n).map P).getD (x:Int).toNat 0)
  rw [j3,Int.toNat_natCast,Int.toNat_natCast,hA j j1,j2,hP x hx];exact q3 x hx
 ·have ha:a<A.length:=by rw [←hm];exact ha
  have hb:b<A.length:=by rw [←hm];exact hb
  by_cases e:(A.getD a []).getD 1 0=(A.getD b []).getD 0 0
  ·obtain⟨j,j1,j2,j3⟩:=h.C ha hb e
   show(A.map _).getD ((gN n A U cp).C a b).toNat 0=d.C ((A.map _).getD (a:Int).toNat 0) ((A.map _).getD (b:Int).toNat 0)
   rw [j3,Int.toNat_natCast,Int.toNat_natCast,Int.toNat_natCast,hA j j1,j2,hA a ha,hA b hb]
   exact q4 _ (TabOK.mem ha) _ (TabOK.mem hb) e
  ·exfalso
   have hc:0≤(gN n A U cp).C a b:=hc
   rw [aKr ha hb,if_neg e]at hc
   omega
end
section
variable {f e:Fun}
noncomputable def cmU (f e:Fun) (i:Nat):List Int:=[(i:Int),(i:Int),f.src.I (rw' (aK f e) i 0),e.src.I (rw' (aK f e) i 1)]
def cmP (f e:Fun) (r s:List Int):List Int:=[r.getD 0 0,s.getD 1 0,f.src.C (r.getD 2 0) (s.getD 2 0),e.src.C (r.getD 3 0) (s.getD 3 0)]
theorem pJ (l:List (List Int)) (k:Nat):bP l k l.length=l.map fun r=>r.getD k 0:=by unfold bP;rw [List.take_length]
theorem zW:cmC f e (cmA f e).length=gN (aK f e).length (cmA f e) (cmU f e) (cmP f e):=by
 unfold cmC nJ gN
 rw [pJ,pJ]
 refine congr (congr rfl ?_) rfl
 unfold tb
 refine List.map_congr_left fun i hi=>?_
 have hi:=List.mem_range.1 hi
 unfold bId cmU
 rw [fH hi (Nat.le_refl _),fH hi (Nat.le_refl _)]
theorem iH {r:List Int} (h:r∈cmA f e):∃s t u v,s<(aK f e).length∧t<(aK f e).length∧u∈cU f 0 (aK f e) s t∧v∈cU e 1 (aK f e) s t∧cC f e (aK f e) s t u v∧r=[(s:Int),(t:Int),u,v]:=mem_cArr.1 h
theorem aIp (hf:IsFun f) (he:IsFun e) (hT:f.tgt=e.tgt) (h8:(aK f e).length≤8) (h40:(cmA f e).length≤40):TabOK (aK f e).length (cmA f e) (cmU f e) (cmP f e):=by
 have hO:=fG hf he hT
 refine⟨h8,h40,zS f e _,fun r hr=>?_,fun r hr=>?_,fun i hi=>⟨aFX hf he hT hO hi,rfl,rfl⟩,fun r hr q hq hE=>?_,fun r hr=>?_,fun r hr=>?_,fun r hr q hq z hz h1 h2=>?_⟩
 ·obtain⟨s,t,u,v,hs,ht,_,_,_,rfl⟩:=iH hr
  exact⟨Int.natCast_nonneg s,by show(s:Int)<_;omega⟩
 ·obtain⟨s,t,u,v,hs,ht,_,_,_,rfl⟩:=iH hr
  exact⟨Int.natCast_nonneg t,by show(t:Int)<_;omega⟩
 ·obtain⟨s,t,u,v,hs,ht,hu,hv,hc,rfl⟩:=iH hr
  obtain⟨t',w,u',v',ht',hw,hu',hv',hc',rfl⟩:=iH hq
  obtain rfl:t=t':=by
   have hE:(t:Int)=t':=hE
   omega
  exact⟨aBH hf he hT hO hs ht hw hu hv hc hu' hv' hc',rfl,rfl⟩
 ·obtain⟨s,t,u,v,hs,ht,hu,hv,_,rfl⟩:=iH hr
  obtain⟨u1,u2,u3,u4⟩:=mem_cU.1 hu
  obtain⟨v1,v2,v3,v4⟩:=mem_cU.1 hv
  show [((s:Int).toNat:Int),(t:Int),f.src.C (f.src.I (rw' (aK f e) (s:Int).toNat 0)) u,e.src.C (e.src.I (rw' (aK f e) (s:Int).toNat 1)) v]=[(s:Int),(t:Int),u,v]
  rw [Int.toNat_natCast,←u3,←v3,hf.src.unlI u1 u2,he.src.unlI v1 v2]
 ·obtain⟨s,t,u,v,hs,ht,hu,hv,_,rfl⟩:=iH hr
  obtain⟨u1,u2,u3,u4⟩:=mem_cU.1 hu
  obtain⟨v1,v2,v3,v4⟩:=mem_cU.1 hv
  show [(s:Int),((t:Int).toNat:Int),f.src.C u (f.src.I (rw' (aK f e) (t:Int).toNat 0)),e.src.C v (e.src.I (rw' (aK f e) (t:Int).toNat 1))]=[(s:Int),(t:Int),u,v]
  rw [Int.toNat_natCast,←u4,←v4,hf.src.unrI u1 u2,he.src.unrI v1 v2]
 ·obtain⟨s,t,u,v,hs,ht,hu,hv,_,rfl⟩:=iH hr
  obtain⟨t',w,u',v',ht',hw,hu',hv',_,rfl⟩:=iH hq
  obtain⟨w',y,u'',v'',hw',hy,hu'',hv'',_,rfl⟩:=iH hz
  obtain rfl:t=t':=by
   have h1:(t:Int)=t':=h1
   omega
  obtain rfl:w=w':=by
   have h2:(w:Int)=w':=h2
   omega
  obtain⟨u1,u2,u3,u4⟩:=mem_cU.1 hu
  obtain⟨v1,v2,v3,v4⟩:=mem_cU.1 hv
  obtain⟨x1,x2,x3,x4⟩:=mem_cU.1 hu'
  obtain⟨y1,y2,y3,y4⟩:=mem_cU.1 hv'
  obtain⟨z1,z2,z3,z4⟩:=mem_cU.1 hu''
  obtain⟨p1,p2,p3,p4⟩:=mem_cU.1 hv''
  show [(s:Int),(y:Int),f.src.C (f.src.C u u') u'',e.src.C (e.src.C v v') v'']=[(s:Int),(y:Int),f.src.C u (f.src.C u' u''),e.src.C v (e.src.C v' v'')]
  rw [hf.src.assI u1 u2 x1 x2 z1 z2 (u4.trans x3.symm) (x4.trans z3.symm),he.src.assI v1 v2 y1 y2 p1 p2 (v4.trans y3.symm) (y4.trans p3.symm)]
theorem aF4 (l:List (List Int)) (k:Nat):bP l k l.length=(List.range l.length).map fun i=>rw' l i k:=by
 apply List.ext_getElem?
 intro i
 rw [pJ,List.getElem?_map,List.getElem?_map]
 rcases Nat.lt_or_ge i l.length with h|h
 ·rw [List.getElem?_range h,List.getElem?_eq_getElem h]
  simp only [Option.map_some,rw',List.getD_eq_getElem?_getD,List.getElem?_eq_getElem h,Option.getD_some]
 ·rw [List.getElem?_eq_none h,List.getElem?_eq_none (by rw [List.length_range];exact h)];rfl
theorem aKK (hf:IsFun f) (he:IsFun e) (hT:f.tgt=e.tgt) (h8:(aK f e).length≤8) (h40:(cmA f e).length≤40):IsFun ⟨cmC f e (cmA f e).length,f.src,bP (aK f e) 0 (aK f e).length,bP (cmA f e) 2 (cmA f e).length⟩:=by
 have hO:=fG hf he hT
 rw [zW,pJ (cmA f e) 2,aF4 (aK f e) 0]
 refine(aIp hf he hT h8 h40).func hf.src (fun i hi=>⟨(hO i hi).lo,(hO i hi).lh⟩) (fun r hr=>?_) (fun r hr=>?_) (fun i hi=>rfl) (fun r hr q hq h1=>rfl)
 ·obtain⟨s,t,u,v,hs,ht,hu,hv,_,rfl⟩:=iH hr
  exact⟨(mem_cU.1 hu).1,(mem_cU.1 hu).2.1⟩
 ·obtain⟨s,t,u,v,hs,ht,hu,hv,_,rfl⟩:=iH hr
  show f.src.F u=rw' (aK f e) (s:Int).toNat 0∧f.src.T u=rw' (aK f e) (t:Int).toNat 0
  rw [Int.toNat_natCast,Int.toNat_natCast]
  exact(mem_cU.1 hu).2.2
theorem aIq (hf:IsFun f) (he:IsFun e) (hT:f.tgt=e.tgt) (h8:(aK f e).length≤8) (h40:(cmA f e).length≤40):IsFun ⟨cmC f e (cmA f e).length,e.src,bP (aK f e) 1 (aK f e).length,bP (cmA f e) 3 (cmA f e).length⟩:=by
 have hO:=fG hf he hT
 rw [zW,pJ (cmA f e) 3,aF4 (aK f e) 1]
 refine(aIp hf he hT h8 h40).func he.src (fun i hi=>⟨(hO i hi).ro,(hO i hi).rh⟩) (fun r hr=>?_) (fun r hr=>?_) (fun i hi=>rfl) (fun r hr q hq h1=>rfl)
 ·obtain⟨s,t,u,v,hs,ht,hu,hv,_,rfl⟩:=iH hr
  exact⟨(mem_cU.1 hv).1,(mem_cU.1 hv).2.1⟩
 ·obtain⟨s,t,u,v,hs,ht,hu,hv,_,rfl⟩:=iH hr
  show e.src.F v=rw' (aK f e) (s:Int).toNat 1∧e.src.T v=rw' (aK f e) (t:Int).toNat 1
  rw [Int.toNat_natCast,Int.toNat_natCast]
  exact(mem_cU.1 hv).2.2
end
end Go.Cats
end
