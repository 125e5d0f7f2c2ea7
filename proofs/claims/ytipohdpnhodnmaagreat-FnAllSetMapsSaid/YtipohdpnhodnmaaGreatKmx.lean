/- Several texts in one: M01, M02, M03, M04, M05, M06, M07, M08, M09, M10, M11, M12, N32, N53, N02, N03, N04, N05, N06, N07, N08, N09, N10, N11, N12, N13, N14, N24, N25, N26, N27, N28, N29, N30, N31, N01, N15, N18, N19, N20, N51, N57, N55, N56, N39, N43, N45, N46, N47, N48, N16, N33, N36, N44. -/
set_option linter.unusedSimpArgs false
set_option linter.unusedVariables false
set_option linter.unusedSectionVars false
section
namespace Go.Cats
noncomputable def dec (P:Prop):Bool:= @decide P (Classical.propDecidable P)
theorem mQ {P:Prop} (h:P):dec P=true:=by simp [dec,h]
theorem tH {P:Prop} (h:¬P):dec P=false:=by simp [dec,h]
theorem aGK {P:Prop}:dec P=true↔P:=by simp [dec]
theorem aL8 {P:Prop}:dec P=false↔¬P:=by simp [dec]
theorem cI {P Q:Prop} (h:P↔Q):dec P=dec Q:=by
 by_cases p:P
 ·rw [mQ p,mQ (h.1 p)]
 ·rw [tH p,tH fun q=>p (h.2 q)]
theorem mF {P:Prop} [Decidable P]:dec P=decide P:=by by_cases h:P<;>simp [dec,h]
/-! ### Scans -/
def aV {α:Type} (n:Nat) (p:Nat→Option α):Option α:=(List.range n).findSome? p
theorem aIz {α:Type} (p:Nat→Option α):aV 0 p=none:=rfl
theorem gK {α:Type} (n:Nat) (p:Nat→Option α):aV (n+1) p=(aV n p).or (p n):=by
 unfold aV
 rw [List.range_succ,List.findSome?_append]
 simp [List.findSome?]
 cases p n<;>rfl
theorem aW {α:Type} {n:Nat} {p:Nat→Option α} (h:aV n p=none) (k:p n=none):aV (n+1) p=none:=by
 rw [gK,h,k];rfl
theorem scan_none {α:Type} {n:Nat} {p:Nat→Option α}:aV n p=none↔∀i,i<n→p i=none:=by
 simp [aV,List.findSome?_eq_none_iff]
theorem dM {α:Type} {n i:Nat} {p:Nat→Option α} {r:α} (hi:i<n) (h:aV i p=none) (k:p i=some r):aV n p=some r:=by
 induction n with
 |zero=>omega
 |succ n ih=>
  rw [gK]
  by_cases e:i=n
  ·subst e;rw [h,k];rfl
  ·rw [ih (by omega)];rfl
theorem bN {α:Type} {n:Nat} {p:Nat→Option α} {r:α} (h:aV n p=some r):∃i,i<n∧p i=some r:=by
 unfold aV at h
 obtain⟨i,hi,k⟩:=List.exists_of_findSome?_eq_some h
 exact⟨i,by simpa using hi,k⟩
theorem cB {P:Nat→Prop} {n:Nat} (h:∀i,i<n→P i) (k:P n):∀i,i<n+1→P i:=fun i hi=>by
 by_cases e:i=n
 ·subst e;exact k
 ·exact h i (by omega)
def jS {α:Type} (n:Nat) (f:Nat→List α):List α:=(List.range n).flatMap f
theorem aHQ {α:Type} (f:Nat→List α):jS 0 f=[]:=rfl
theorem qG {α:Type} (n:Nat) (f:Nat→List α):jS (n+1) f=jS n f++f n:=by
 simp [jS,List.range_succ]
theorem aKk {α:Type} {n:Nat} {f:Nat→List α} {x:α}:x∈jS n f↔∃i,i<n∧x∈f i:=by
 simp [jS,List.mem_flatMap]
theorem zI {α:Type} {n k:Nat} {f:Nat→List α} (h:∀i,i<n→(f i).length≤k):(jS n f).length≤n*k:=by
 induction n with
 |zero=>simp [jS]
 |succ n ih=>
  rw [qG,List.length_append,Nat.succ_mul]
  have:=ih fun i hi=>h i (by omega)
  have:=h n (by omega)
  omega
theorem cD {α:Type} {l:List α} {i:Nat} {d:α} (h:i<l.length):l.getD i d∈l:=by
 simp [List.getD_eq_getElem?_getD,h]
theorem mW {α:Type} {l:List α} {x d:α} (h:x∈l):∃i,i<l.length∧l.getD i d=x:=by
 obtain⟨i,hi,e⟩:=List.getElem_of_mem h
 exact⟨i,hi,by simp [List.getD_eq_getElem?_getD,hi,e]⟩
def Within (l:List Int) (n:Int):Prop:=∀i,i<l.length→0≤l.getD i 0∧l.getD i 0<n
theorem Within.mem {l:List Int} {n:Int} (h:Within l n) {x:Int} (hx:x∈l):0≤x∧x<n:=by
 obtain⟨i,hi,e⟩:=mW (d:=0) hx
 have:=h i hi
 rw [e]at this
 exact this
/-! ### Categories -/
structure Cat where
 ob:Int
 fr:List Int
 to:List Int
 id:List Int
 co:List (List Int)
def Cat.nil:Cat:=⟨0,[],[],[],[]⟩
abbrev Cat.F (c:Cat) (f:Int):Int:=c.fr.getD f.toNat 0
abbrev Cat.T (c:Cat) (f:Int):Int:=c.to.getD f.toNat 0
abbrev Cat.I (c:Cat) (x:Int):Int:=c.id.getD x.toNat 0
abbrev Cat.C (c:Cat) (f g:Int):Int:=(c.co.getD f.toNat []).getD g.toNat 0
structure CatB (c:Cat):Prop where
 ob1: -9223372036854775808≤c.ob
 ob2:c.ob≤9223372036854775807
 fr:c.fr.length≤1048576
 to:c.to.length≤1048576
 id:c.id.length≤1048576
 co:c.co.length≤1048576
 row:∀f,f<c.co.length→(c.co.getD f []).length≤1048576
def Cat.Entry (c:Cat) (f g:Nat):Prop:=
 (c.to.getD f 0=c.fr.getD g 0∧(0≤c.C f g∧c.C f g<c.fr.length)∧c.F (c.C f g)=c.fr.getD f 0∧c.T (c.C f g)=c.to.getD g 0)∨
 (c.to.getD f 0≠c.fr.getD g 0∧c.C f g= -1)
structure Shape (c:Cat):Prop where
 ob0:0≤c.ob
 ob8:c.ob≤8
 m40:c.fr.length≤40
 tol:c.to.length=c.fr.length
 frw:Within c.fr c.ob
 tow:Within c.to c.ob
 idl:(c.id.length:Int)=c.ob
 idw:Within c.id c.fr.length
 col:c.co.length=c.fr.length
 ide:∀x,x<c.id.length→c.F (c.id.getD x 0)=x∧c.T (c.id.getD x 0)=x
 coe:∀f,f<c.fr.length→(c.co.getD f []).length=c.fr.length∧∀g,g<c.fr.length→c.Entry f g
def Cat.fault1 (c:Cat) (f:Nat):Option (Int×Int×Int×Int):=
 if c.C (c.I (c.F f)) f≠f∨c.C f (c.I (c.T f))≠f then some (1,f,0,0)else none
def Cat.fault2 (c:Cat) (f g h:Nat):Option (Int×Int×Int×Int):=
 if 0≤c.C g h∧c.C (c.C f g) h≠c.C f (c.C g h)then some (2,f,g,h)else none
def Cat.fault2g (c:Cat) (f g:Nat):Option (Int×Int×Int×Int):=
 if c.C f g<0 then none else aV c.fr.length fun h=>c.fault2 f g h
def Cat.fault (c:Cat):Int×Int×Int×Int:=
 ((aV c.fr.length c.fault1).or (aV c.fr.length fun f=>aV c.fr.length fun g=>c.fault2g f g)).getD (0,0,0,0)
structure IsCat (c:Cat):Prop extends Shape c where
 unl:∀f:Nat,f<c.fr.length→c.C (c.I (c.F f)) f=f
 unr:∀f:Nat,f<c.fr.length→c.C f (c.I (c.T f))=f
 ass:∀f g h:Nat,f<c.fr.length→g<c.fr.length→h<c.fr.length→c.T f=c.F g→c.T g=c.F h→c.C (c.C f g) h=c.C f (c.C g h)
theorem Shape.neg {c:Cat} (s:Shape c) {f g:Nat} (hf:f<c.fr.length) (hg:g<c.fr.length):c.C f g<0↔c.T f≠c.F g:=by
 have:=(s.coe f hf).2 g hg
 unfold Cat.Entry at this
 simp only [Cat.T,Cat.F,Int.toNat_natCast]
 rcases this with⟨h1,h2,h3⟩|⟨h1,h2⟩
 ·constructor
  ·intro h;omega
  ·intro h;exact absurd h1 h
 ·constructor
  ·intro _;exact h1
  ·intro _;omega
theorem Shape.fault_zero {c:Cat} (s:Shape c):c.fault.1=0↔IsCat c:=by
 unfold Cat.fault
 constructor
 ·intro h
  cases h1:aV c.fr.length c.fault1 with
  |some r=>
   obtain⟨i,hi,k⟩:=bN h1
   unfold Cat.fault1 at k
   split at k
   ·simp at k;subst k;simp [h1]at h
   ·cases k
  |none=>
   rw [h1]at h
   cases h2:(aV c.fr.length fun f=>aV c.fr.length fun g=>c.fault2g f g)with
   |some r=>
    obtain⟨i,hi,k⟩:=bN h2
    obtain⟨j,hj,k⟩:=bN k
    unfold Cat.fault2g at k
    split at k
    ·cases k
    ·obtain⟨l,hl,k⟩:=bN k
     unfold Cat.fault2 at k
     split at k
     ·simp at k;subst k;simp [h2]at h
     ·cases k
   |none=>
    rw [scan_none]at h1 h2
    refine⟨s,fun f hf=>?_,fun f hf=>?_,fun f g h hf hg hh e1 e2=>?_⟩
    ·have:=h1 f hf
     unfold Cat.fault1 at this
     split at this
     ·cases this
     ·rename_i n;exact Classical.byContradiction fun q=>n (.inl q)
    ·have:=h1 f hf
     unfold Cat.fault1 at this
     split at this
     ·cases this
     ·rename_i n;exact Classical.byContradiction fun q=>n (.inr q)
    ·have:=h2 f hf
     rw [scan_none]at this
     have:=this g hg
     unfold Cat.fault2g at this
     rw [if_neg (by rw [s.neg hf hg];exact fun q=>q e1),scan_none]at this
     have:=this h hh
     unfold Cat.fault2 at this
     split at this
     ·cases this
     ·rename_i n
      refine Classical.byContradiction fun q=>n ⟨?_,q⟩
      have:=(s.neg hg hh)
      exact Int.not_lt.1 fun q=>this.1 q e2
 ·intro h
  have h1:aV c.fr.length c.fault1=none:=scan_none.2 fun f hf=>by
   unfold Cat.fault1
   rw [if_neg]
   rintro(q|q)
   ·exact q (h.unl f hf)
   ·exact q (h.unr f hf)
  have h2:(aV c.fr.length fun f=>aV c.fr.length fun g=>c.fault2g f g)=none:=scan_none.2 fun f hf=>scan_none.2 fun g hg=>by
   unfold Cat.fault2g
   split
   ·rfl
   ·rename_i n1
    refine scan_none.2 fun h' hh=>?_
    unfold Cat.fault2
    rw [if_neg]
    rintro⟨q1,q2⟩
    have e1:=s.neg hf hg
    have e2:=s.neg hg hh
    exact q2 (h.ass f g h' hf hg hh (Classical.byContradiction fun q=>n1 (e1.2 q)) (Classical.byContradiction fun q=>by have:=e2.2 q;omega))
  rw [h1,h2];rfl
theorem Cat.fault1_t {c:Cat} {f:Nat} (h:c.C (c.I (c.F f)) f≠f∨c.C f (c.I (c.T f))≠f):c.fault1 f=some ((1:Int),(f:Int),(0:Int),(0:Int)):=if_pos h
theorem Cat.fault1_f {c:Cat} {f:Nat} (h:c.C (c.I (c.F f)) f=f) (k:c.C f (c.I (c.T f))=f):c.fault1 f=none:=if_neg fun q=>q.elim (fun q=>q h) fun q=>q k
theorem Cat.fault2_t {c:Cat} {f g h:Nat} (a:0≤c.C g h) (b:c.C (c.C f g) h≠c.C f (c.C g h)):c.fault2 f g h=some ((2:Int),(f:Int),(g:Int),(h:Int)):=if_pos ⟨a,b⟩
theorem Cat.fault2_f {c:Cat} {f g h:Nat} (a:0≤c.C g h→c.C (c.C f g) h=c.C f (c.C g h)):c.fault2 f g h=none:=if_neg fun q=>q.2 (a q.1)
theorem Cat.fault2g_f {c:Cat} {f g:Nat} (a:c.C f g<0):c.fault2g f g=none:=if_pos a
theorem Cat.fault2g_t {c:Cat} {f g:Nat} (a:¬c.C f g<0):c.fault2g f g=aV c.fr.length fun h=>c.fault2 f g h:=if_neg a
theorem Cat.fault_1 {c:Cat} {f:Nat} {r:Int×Int×Int×Int} (h:aV f c.fault1=none) (hf:f<c.fr.length) (k:c.fault1 f=some r):c.fault=r:=by
 unfold Cat.fault
 rw [dM hf h k];rfl
theorem Cat.fault_2 {c:Cat} {f g h:Nat} {r:Int×Int×Int×Int} (a:aV c.fr.length c.fault1=none) (h1:aV f (fun f=>aV c.fr.length fun g=>c.fault2g f g)=none) (hf:f<c.fr.length)
  (h2:aV g (fun g=>c.fault2g f g)=none) (hg:g<c.fr.length) (n:¬c.C f g<0) (h3:aV h (fun h=>c.fault2 f g h)=none) (hh:h<c.fr.length) (k:c.fault2 f g h=some r):c.fault=r:=by
 unfold Cat.fault
 rw [a,dM hf h1 (dM hg h2 (by rw [Cat.fault2g_t n];exact dM hh h3 k))];rfl
theorem Cat.fault_0 {c:Cat} (a:aV c.fr.length c.fault1=none) (h1:aV c.fr.length (fun f=>aV c.fr.length fun g=>c.fault2g f g)=none):c.fault=(0,0,0,0):=by
 unfold Cat.fault
 rw [a,h1];rfl
def Cat.homI (c:Cat) (x y:Int) (i:Nat):List Int:=jS i fun f=>if c.fr.getD f 0=x∧c.to.getD f 0=y then [(f:Int)]else []
def Cat.hom (c:Cat) (x y:Int):List Int:=c.homI x y c.fr.length
theorem Cat.homI_zero (c:Cat) (x y:Int):c.homI x y 0=[]:=rfl
theorem Cat.homI_succ (c:Cat) (x y:Int) (i:Nat):c.homI x y (i+1)=c.homI x y i++if c.fr.getD i 0=x∧c.to.getD i 0=y then [(i:Int)]else []:=qG _ _
theorem Cat.homI_len (c:Cat) (x y:Int) (i:Nat):(c.homI x y i).length≤i:=by
 have:=zI (n:=i) (k:=1) (f:=fun f=>if c.fr.getD f 0=x∧c.to.getD f 0=y then [(f:Int)]else []) fun j _=>by split<;>simp
 simpa [Cat.homI]using this
theorem Cat.mem_hom {c:Cat} {x y f:Int}:f∈c.hom x y↔0≤f∧f<c.fr.length∧c.F f=x∧c.T f=y:=by
 unfold Cat.hom Cat.homI
 rw [aKk]
 constructor
 ·rintro⟨i,hi,h⟩
  split at h
  ·rename_i e;simp at h;subst h
   simp only [Cat.F,Cat.T,Int.toNat_natCast]
   exact⟨by omega,by omega,e.1,e.2⟩
  ·simp at h
 ·rintro⟨h1,h2,h3,h4⟩
  refine⟨f.toNat,by omega,?_⟩
  rw [if_pos ⟨h3,h4⟩]
  simp;omega
/-! ### Functors -/
structure Fun where
 src:Cat
 tgt:Cat
 obs:List Int
 ars:List Int
def Fun.nil:Fun:=⟨.nil, .nil,[],[]⟩
abbrev Fun.O (f:Fun) (x:Int):Int:=f.obs.getD x.toNat 0
abbrev Fun.A (f:Fun) (a:Int):Int:=f.ars.getD a.toNat 0
structure Fits (f:Fun):Prop where
 obl:(f.obs.length:Int)=f.src.ob
 arl:f.ars.length=f.src.fr.length
 obw:Within f.obs f.tgt.ob
 arw:Within f.ars f.tgt.fr.length
 endf:∀a,a<f.ars.length→f.tgt.F (f.ars.getD a 0)=f.O (f.src.F a)∧f.tgt.T (f.ars.getD a 0)=f.O (f.src.T a)
 unit:∀x,x<f.src.id.length→f.A (f.src.id.getD x 0)=f.tgt.I (f.O x)
 comp:∀a b:Nat,a<f.src.fr.length→b<f.src.fr.length→0≤f.src.C a b→f.A (f.src.C a b)=f.tgt.C (f.A a) (f.A b)
structure IsFun (f:Fun):Prop where
 src:IsCat f.src
 tgt:IsCat f.tgt
 fits:Fits f
/-! ### Set functors -/
structure SF where
 shape:Cat
 sizes:List Int
 acts:List (List Int)
structure SM where
 src:SF
 tgt:SF
 parts:List (List Int)
def SF.nil:SF:=⟨.nil,[],[]⟩
def SM.nil:SM:=⟨.nil, .nil,[]⟩
end Go.Cats
end
section
namespace Go.Cats
theorem bJ {α:Type} {p:Nat→Option α} {i n:Nat} (h:aV i p=none) (a:i≤n) (b:n≤i):aV n p=none:=by
 have:i=n:=by omega
 rw [←this];exact h
theorem iV {α:Type} {a b:List α} {d:α} {i:Nat} (h:a.take i=b.take i) (ha:i<a.length) (hb:i<b.length) (e:a.getD i d=b.getD i d):a.take (i+1)=b.take (i+1):=by
 have e1:a.getD i d=a[i]:=by simp [List.getD_eq_getElem?_getD,ha]
 have e2:b.getD i d=b[i]:=by simp [List.getD_eq_getElem?_getD,hb]
 rw [e1,e2]at e
 rw [List.take_succ_eq_append_getElem ha,List.take_succ_eq_append_getElem hb,h,e]
theorem nA {α:Type} {a b:List α} {i:Nat} (h:a.take i=b.take i) (ha:a.length≤i) (hb:b.length≤i):a=b:=by
 rwa [List.take_of_length_le ha,List.take_of_length_le hb]at h
theorem aCj {α:Type} {a:List α} {d:α} {i:Nat} (ha:i<a.length):a.take (i+1)=a.take i++[a.getD i d]:=by
 rw [List.take_succ_eq_append_getElem ha]
 simp [List.getD_eq_getElem?_getD,ha]
theorem Cat.eq {c d:Cat} (h1:c.ob=d.ob) (h2:c.fr=d.fr) (h3:c.to=d.to) (h4:c.id=d.id) (h5:c.co=d.co):c=d:=by
 cases c;cases d;simp_all
end Go.Cats
end
section
namespace Go.Cats
structure SFB (f:SF):Prop where
 shape:CatB f.shape
 sizes:f.sizes.length≤1048576
 acts:f.acts.length≤1048576
 row:∀a,a<f.acts.length→(f.acts.getD a []).length≤1048576
abbrev SF.act (f:SF) (a:Nat):List Int:=f.acts.getD a []
structure SFShape (f:SF):Prop where
 cat:IsCat f.shape
 szl:(f.sizes.length:Int)=f.shape.ob
 szw:Within f.sizes 17
 acl:f.acts.length=f.shape.fr.length
 act:∀a,a<f.acts.length→((f.acts.getD a []).length:Int)=f.sizes.getD (f.shape.fr.getD a 0).toNat 0∧Within (f.acts.getD a []) (f.sizes.getD (f.shape.to.getD a 0).toNat 0)
def SF.fault1 (f:SF) (x e:Nat):Option (Int×Int×Int×Int):=
 if(f.acts.getD (f.shape.id.getD x 0).toNat []).getD e 0≠e then some ((1:Int),(x:Int),(e:Int),(0:Int))else none
def SF.fault1x (f:SF) (x:Nat):Option (Int×Int×Int×Int):=aV (f.acts.getD (f.shape.id.getD x 0).toNat []).length fun e=>f.fault1 x e
def SF.fault2 (f:SF) (a b e:Nat):Option (Int×Int×Int×Int):=
 if(f.acts.getD ((f.shape.co.getD a []).getD b 0).toNat []).getD e 0≠(f.acts.getD b []).getD ((f.acts.getD a []).getD e 0).toNat 0 then some ((2:Int),(a:Int),(b:Int),(e:Int))else none
def SF.fault2b (f:SF) (a b:Nat):Option (Int×Int×Int×Int):=
 if(f.shape.co.getD a []).getD b 0<0 then none else aV (f.acts.getD a []).length fun e=>f.fault2 a b e
def SF.fault2a (f:SF) (a:Nat):Option (Int×Int×Int×Int):=aV (f.shape.co.getD a []).length fun b=>f.fault2b a b
def SF.fault (f:SF):Int×Int×Int×Int:=
 ((aV f.shape.id.length f.fault1x).or (aV f.shape.co.length f.fault2a)).getD (0,0,0,0)
structure IsSF (f:SF):Prop extends SFShape f where
 unit:∀x,x<f.shape.id.length→∀e,e<(f.acts.getD (f.shape.id.getD x 0).toNat []).length→(f.acts.getD (f.shape.id.getD x 0).toNat []).getD e 0=e
 comp:∀a b,a<f.shape.fr.length→b<f.shape.fr.length→0≤(f.shape.co.getD a []).getD b 0→∀e,e<(f.acts.getD a []).length→
  (f.acts.getD ((f.shape.co.getD a []).getD b 0).toNat []).getD e 0=(f.acts.getD b []).getD ((f.acts.getD a []).getD e 0).toNat 0
theorem SF.fault1_t {f:SF} {x e:Nat} (h:(f.acts.getD (f.shape.id.getD x 0).toNat []).getD e 0≠e):f.fault1 x e=some ((1:Int),(x:Int),(e:Int),(0:Int)):=if_pos h
theorem SF.fault1_f {f:SF} {x e:Nat} (h:(f.acts.getD (f.shape.id.getD x 0).toNat []).getD e 0=e):f.fault1 x e=none:=if_neg fun q=>q h
theorem SF.fault2_t {f:SF} {a b e:Nat} (h:(f.acts.getD ((f.shape.co.getD a []).getD b 0).toNat []).getD e 0≠(f.acts.getD b []).getD ((f.acts.getD a []).getD e 0).toNat 0):f.fault2 a b e=some ((2:Int),(a:Int),(b:Int),(e:Int)):=if_pos h
theorem SF.fault2_f {f:SF} {a b e:Nat} (h:(f.acts.getD ((f.shape.co.getD a []).getD b 0).toNat []).getD e 0=(f.acts.getD b []).getD ((f.acts.getD a []).getD e 0).toNat 0):f.fault2 a b e=none:=if_neg fun q=>q h
theorem SF.fault2b_f {f:SF} {a b:Nat} (h:(f.shape.co.getD a []).getD b 0<0):f.fault2b a b=none:=if_pos h
theorem SF.fault2b_t {f:SF} {a b:Nat} (h:¬(f.shape.co.getD a []).getD b 0<0):f.fault2b a b=aV (f.acts.getD a []).length fun e=>f.fault2 a b e:=if_neg h
theorem SF.fault_1 {f:SF} {x e:Nat} {r:Int×Int×Int×Int} (h:aV x f.fault1x=none) (hx:x<f.shape.id.length) (h2:(aV e fun e=>f.fault1 x e)=none) (he:e<(f.acts.getD (f.shape.id.getD x 0).toNat []).length) (k:f.fault1 x e=some r):f.fault=r:=by
 unfold SF.fault
 rw [dM hx h (show f.fault1x x=some r from dM he h2 k)];rfl
theorem SF.fault_2 {f:SF} {a b e:Nat} {r:Int×Int×Int×Int} (h0:aV f.shape.id.length f.fault1x=none) (h1:aV a f.fault2a=none) (ha:a<f.shape.co.length) (h2:(aV b fun b=>f.fault2b a b)=none) (hb:b<(f.shape.co.getD a []).length) (n:¬(f.shape.co.getD a []).getD b 0<0)
  (h3:(aV e fun e=>f.fault2 a b e)=none) (he:e<(f.acts.getD a []).length) (k:f.fault2 a b e=some r):f.fault=r:=by
 unfold SF.fault
 rw [h0,dM ha h1 (show f.fault2a a=some r from dM hb h2 (by rw [SF.fault2b_t n];exact dM he h3 k))];rfl
theorem SF.fault_0 {f:SF} (h0:aV f.shape.id.length f.fault1x=none) (h1:aV f.shape.co.length f.fault2a=none):f.fault=(0,0,0,0):=by
 unfold SF.fault
 rw [h0,h1];rfl
theorem SFShape.fault_zero {f:SF} (s:SFShape f):f.fault.1=0↔IsSF f:=by
 have hco:=s.cat.col
 constructor
 ·intro h
  unfold SF.fault at h
  cases h1:aV f.shape.id.length f.fault1x with
  |some r=>
   obtain⟨x,hx,k⟩:=bN h1
   obtain⟨e,he,k⟩:=bN k
   unfold SF.fault1 at k
   split at k
   ·simp at k;subst k;simp [h1]at h
   ·cases k
  |none=>
   rw [h1]at h
   cases h2:aV f.shape.co.length f.fault2a with
   |some r=>
    obtain⟨a,ha,k⟩:=bN h2
    obtain⟨b,hb,k⟩:=bN k
    unfold SF.fault2b at k
    split at k
    ·cases k
    ·obtain⟨e,he,k⟩:=bN k
     unfold SF.fault2 at k
     split at k
     ·simp at k;subst k;simp [h2]at h
     ·cases k
   |none=>
    refine⟨s,fun x hx e he=>?_,fun a b ha hb hn e he=>?_⟩
    ·have k:=scan_none.1 (scan_none.1 h1 x hx) e he
     unfold SF.fault1 at k
     split at k
     ·cases k
     ·rename_i n;exact Classical.byContradiction n
    ·have k:=scan_none.1 (scan_none.1 h2 a (by omega)) b (by have:=(s.cat.coe a ha).1;omega)
     simp only [SF.fault2b]at k
     rw [if_neg (by omega)]at k
     have k:=scan_none.1 k e he
     unfold SF.fault2 at k
     split at k
     ·cases k
     ·rename_i n;exact Classical.byContradiction n
 ·intro h
  rw [SF.fault_0]
  ·exact scan_none.2 fun x hx=>scan_none.2 fun e he=>SF.fault1_f (h.unit x hx e he)
  ·refine scan_none.2 fun a ha=>scan_none.2 fun b hb=>?_
   by_cases n:(f.shape.co.getD a []).getD b 0<0
   ·exact SF.fault2b_f n
   ·rw [SF.fault2b_t n]
    exact scan_none.2 fun e he=>SF.fault2_f (h.comp a b (by omega) (by have:=(s.cat.coe a (by omega)).1;omega) (by omega) e he)
/-! ### Natural maps -/
structure SMB (m:SM):Prop where
 src:SFB m.src
 tgt:SFB m.tgt
 parts:m.parts.length≤1048576
 row:∀x,x<m.parts.length→(m.parts.getD x []).length≤1048576
structure SMFits (m:SM):Prop where
 len:m.parts.length=m.src.sizes.length
 map:∀x,x<m.parts.length→((m.parts.getD x []).length:Int)=m.src.sizes.getD x 0∧Within (m.parts.getD x []) (m.tgt.sizes.getD x 0)
structure SMShape (m:SM):Prop where
 src:IsSF m.src
 tgt:IsSF m.tgt
 same:m.src.shape=m.tgt.shape
 fits:SMFits m
def SM.bad (m:SM) (a e:Nat):Option (Int×Int):=
 if(m.parts.getD (m.src.shape.to.getD a 0).toNat []).getD ((m.src.acts.getD a []).getD e 0).toNat 0≠(m.tgt.acts.getD a []).getD ((m.parts.getD (m.src.shape.fr.getD a 0).toNat []).getD e 0).toNat 0 then some ((a:Int),(e:Int))else none
def SM.bada (m:SM) (a:Nat):Option (Int×Int):=aV (m.src.acts.getD a []).length fun e=>m.bad a e
def SM.unnat (m:SM):Int×Int:=(aV m.src.shape.fr.length m.bada).getD (-1,0)
structure IsSM (m:SM):Prop extends SMShape m where
 nat:∀a,a<m.src.shape.fr.length→∀e,e<(m.src.acts.getD a []).length→
  (m.parts.getD (m.src.shape.to.getD a 0).toNat []).getD ((m.src.acts.getD a []).getD e 0).toNat 0=(m.tgt.acts.getD a []).getD ((m.parts.getD (m.src.shape.fr.getD a 0).toNat []).getD e 0).toNat 0
theorem SM.bad_t {m:SM} {a e:Nat} (h:(m.parts.getD (m.src.shape.to.getD a 0).toNat []).getD ((m.src.acts.getD a []).getD e 0).toNat 0≠(m.tgt.acts.getD a []).getD ((m.parts.getD (m.src.shape.fr.getD a 0).toNat []).getD e 0).toNat 0):m.bad a e=some ((a:Int),(e:Int)):=if_pos h
theorem SM.bad_f {m:SM} {a e:Nat} (h:(m.parts.getD (m.src.shape.to.getD a 0).toNat []).getD ((m.src.acts.getD a []).getD e 0).toNat 0=(m.tgt.acts.getD a []).getD ((m.parts.getD (m.src.shape.fr.getD a 0).toNat []).getD e 0).toNat 0):m.bad a e=none:=if_neg fun q=>q h
theorem SM.unnat_1 {m:SM} {a e:Nat} {r:Int×Int} (h:aV a m.bada=none) (ha:a<m.src.shape.fr.length) (h2:(aV e fun e=>m.bad a e)=none) (he:e<(m.src.acts.getD a []).length) (k:m.bad a e=some r):m.unnat=r:=by
 unfold SM.unnat
 rw [dM ha h (show m.bada a=some r from dM he h2 k)];rfl
theorem SM.unnat_0 {m:SM} (h:aV m.src.shape.fr.length m.bada=none):m.unnat=(-1,0):=by
 unfold SM.unnat
 rw [h];rfl
theorem SMShape.unnat_neg {m:SM} (s:SMShape m):m.unnat.1<0↔IsSM m:=by
 constructor
 ·intro h
  refine⟨s,fun a ha e he=>?_⟩
  cases h1:aV m.src.shape.fr.length m.bada with
  |some r=>
   unfold SM.unnat at h
   rw [h1]at h
   obtain⟨a,ha,k⟩:=bN h1
   obtain⟨e,he,k⟩:=bN k
   unfold SM.bad at k
   split at k
   ·simp at k;subst k;simp at h;omega
   ·cases k
  |none=>
   have k:=scan_none.1 (scan_none.1 h1 a ha) e he
   unfold SM.bad at k
   split at k
   ·cases k
   ·rename_i n;exact Classical.byContradiction n
 ·intro h
  rw [SM.unnat_0]
  ·decide
  ·exact scan_none.2 fun a ha=>scan_none.2 fun e he=>SM.bad_f (h.nat a ha e he)
theorem SF.eq {f g:SF} (h1:f.shape=g.shape) (h2:f.sizes=g.sizes) (h3:f.acts=g.acts):f=g:=by
 cases f;cases g;simp_all
theorem SM.eq {f g:SM} (h1:f.src=g.src) (h2:f.tgt=g.tgt) (h3:f.parts=g.parts):f=g:=by
 cases f;cases g;simp_all
end Go.Cats
end
section
namespace Go.Cats
def jH (l:List Int) (n:Int) (i:Nat):Option Int:=if l.getD i 0=n then some (i:Int)else none
def idxOf (l:List Int) (n:Int):Int:=(aV l.length (jH l n)).getD (-1)
theorem idxOf_hit {l:List Int} {n:Int} {i:Nat} (h:aV i (jH l n)=none) (hi:i<l.length) (k:l.getD i 0=n):idxOf l n=i:=by
 unfold idxOf
 rw [dM hi h (show jH l n i=some (i:Int) from if_pos k)];rfl
theorem rZ {l:List Int} {n:Int} (h:aV l.length (jH l n)=none):idxOf l n= -1:=by
 unfold idxOf
 rw [h];rfl
theorem aFM {l:List Int} {n:Int} {i:Nat} (k:¬l.getD i 0=n):jH l n i=none:=if_neg k
theorem aEk {l:List Int} {n:Int} (h:idxOf l n≠-1):0≤idxOf l n∧idxOf l n<l.length∧l.getD (idxOf l n).toNat 0=n:=by
 unfold idxOf at h⊢
 cases hs:aV l.length (jH l n)with
 |none=>rw [hs]at h;exact absurd rfl h
 |some r=>
  obtain⟨i,hi,k⟩:=bN hs
  unfold jH at k
  split at k
  ·rename_i q;simp at k;subst k
   simp only [Option.getD_some,Int.toNat_natCast]
   exact⟨by omega,by omega,q⟩
  ·cases k
theorem aIb {l:List Int} {n:Int} (h:n∈l):0≤idxOf l n∧idxOf l n<l.length∧l.getD (idxOf l n).toNat 0=n:=by
 refine aEk fun e=>?_
 unfold idxOf at e
 cases hs:aV l.length (jH l n)with
 |none=>
  obtain⟨i,hi,k⟩:=mW (d:=0) h
  have:=scan_none.1 hs i hi
  unfold jH at this
  rw [if_pos k]at this
  cases this
 |some r=>
  rw [hs]at e
  obtain⟨i,hi,k⟩:=bN hs
  unfold jH at k
  split at k
  ·simp at k;subst k;simp at e
  ·cases k
/-! ### Representables -/
def Cat.homs (c:Cat) (x:Int) (n:Nat):List (List Int):=(List.range n).map fun y:Nat=>c.hom x y
theorem Cat.hom_len (c:Cat) (x y:Int):(c.hom x y).length≤c.fr.length:=c.homI_len x y _
end Go.Cats
end
section
namespace Go.Cats
end Go.Cats
end
section
namespace Go.Cats
def SF.eRow (f:SF) (x e:Int) (y k:Nat):List Int:=((f.shape.hom x y).take k).map fun h=>(f.acts.getD h.toNat []).getD e.toNat 0
def SF.eParts (f:SF) (x e:Int) (y:Nat):List (List Int):=(List.range y).map fun y:Nat=>(f.shape.hom x y).map fun h=>(f.acts.getD h.toNat []).getD e.toNat 0
theorem SF.eRow_zero (f:SF) (x e:Int) (y:Nat):f.eRow x e y 0=[]:=rfl
theorem SF.eRow_len (f:SF) (x e:Int) (y k:Nat):(f.eRow x e y k).length=min k (f.shape.hom x y).length:=by simp [SF.eRow]
theorem SF.eParts_zero (f:SF) (x e:Int):f.eParts x e 0=[]:=rfl
theorem SF.eParts_len (f:SF) (x e:Int) (y:Nat):(f.eParts x e y).length=y:=by simp [SF.eParts]
end Go.Cats
end
section
namespace Go.Cats
theorem Shape.comp_nn {c:Cat} (s:Shape c) {f g:Nat} (hf:f<c.fr.length) (hg:g<c.fr.length) (h:c.to.getD f 0=c.fr.getD g 0):0≤(c.co.getD f []).getD g 0:=by
 rcases(s.coe f hf).2 g hg with⟨_,h2,_⟩|⟨h2,_⟩
 ·have e:c.C f g=(c.co.getD f []).getD g 0:=by simp [Cat.C]
  rw [e]at h2;exact h2.1
 ·exact absurd h h2
end Go.Cats
end
section
namespace Go.Cats
def cH (f g:Fun) (a b:Nat):List Int:=f.tgt.hom (f.obs.getD a 0) (g.obs.getD b 0)
def cO (f g:Fun) (a b k:Nat):List (List Int):=
 (jS a fun a=>jS g.obs.length fun b=>(cH f g a b).map fun h=>[(a:Int),(b:Int),h])++(jS b fun b=>(cH f g a b).map fun h=>[(a:Int),(b:Int),h])++((cH f g a b).take k).map fun h=>[(a:Int),(b:Int),h]
def sY (f g:Fun):List (List Int):=cO f g f.obs.length 0 0
theorem aGE (f g:Fun):cO f g 0 0 0=[]:=by simp [cO,jS]
def zH (l:List (List Int)) (k n:Nat):List Int:=(l.take n).map fun r=>r.getD k 0
theorem qF (l:List (List Int)) (k:Nat):zH l k 0=[]:=rfl
theorem gW (l:List (List Int)) (k n:Nat):(zH l k n).length=min n l.length:=by simp [zH]
end Go.Cats
end
section
namespace Go.Cats
abbrev rw' (O:List (List Int)) (p k:Nat):Int:=(O.getD p []).getD k 0
def cU (f:Fun) (k:Nat) (O:List (List Int)) (s t:Nat):List Int:=f.src.hom (rw' O s k) (rw' O t k)
def cC (f e:Fun) (O:List (List Int)) (s t:Nat) (u v:Int):Prop:=f.tgt.C (f.A u) (rw' O t 2)=f.tgt.C (rw' O s 2) (e.A v)
open Classical in
noncomputable def cE (f e:Fun) (O:List (List Int)) (s t i j:Nat):List (List Int):=
 if cC f e O s t ((cU f 0 O s t).getD i 0) ((cU e 1 O s t).getD j 0)then [[(s:Int),(t:Int),(cU f 0 O s t).getD i 0,(cU e 1 O s t).getD j 0]]else []
noncomputable def aQO (f e:Fun) (O:List (List Int)) (s t i:Nat):List (List Int):=jS (cU e 1 O s t).length fun j=>cE f e O s t i j
noncomputable def aNE (f e:Fun) (O:List (List Int)) (s t:Nat):List (List Int):=jS (cU f 0 O s t).length fun i=>aQO f e O s t i
noncomputable def cA (f e:Fun) (O:List (List Int)) (s t i j:Nat):List (List Int):=
 (jS s fun s=>jS O.length fun t=>aNE f e O s t)++(jS t fun t=>aNE f e O s t)++(jS i fun i=>aQO f e O s t i)++(jS j fun j=>cE f e O s t i j)
noncomputable def aVC (f e:Fun) (O:List (List Int)):List (List Int):=cA f e O O.length 0 0 0
variable {f e:Fun} {O:List (List Int)} {s t i j:Nat}
theorem aCw:cA f e O 0 0 0 0=[]:=by simp [cA,jS]
structure ObjR (f e:Fun) (r:List Int):Prop where
 len:r.length=3
 lo:0≤r.getD 0 0
 lh:r.getD 0 0<f.src.ob
 ro:0≤r.getD 1 0
 rh:r.getD 1 0<e.src.ob
 ao:0≤r.getD 2 0
 ah:r.getD 2 0<f.tgt.fr.length
 frm:f.tgt.F (r.getD 2 0)=f.O (r.getD 0 0)
 to:f.tgt.T (r.getD 2 0)=e.O (r.getD 1 0)
def aMn (l:List (List Int)) (r:List Int) (i:Nat):Option Int:=if l.getD i []=r then some (i:Int)else none
def fnd (l:List (List Int)) (r:List Int):Int:=(aV l.length (aMn l r)).getD (-1)
end Go.Cats
end
section
namespace Go.Cats
def tb {α:Type} (n:Nat) (F:Nat→α):List α:=(List.range n).map F
theorem aHD {α:Type} (F:Nat→α):tb 0 F=[]:=rfl
theorem aA8 {α:Type} (n:Nat) (F:Nat→α):(tb n F).length=n:=by simp [tb]
theorem tb_at {α:Type} (n:Nat) (F:Nat→α) (d:α) {i:Nat} (h:i<n):(tb n F).getD i d=F i:=by simp [tb,h]
def bId (A:List (List Int)) (a b:Cat) (L R:List Int) (x:Nat):Int:=fnd A [(x:Int),(x:Int),a.id.getD (L.getD x 0).toNat 0,b.id.getD (R.getD x 0).toNat 0]
def aVy (A:List (List Int)) (a b:Cat) (i j:Nat):List Int:=[rw' A i 0,rw' A j 1,a.C (rw' A i 2) (rw' A j 2),b.C (rw' A i 3) (rw' A j 3)]
def aVx (A:List (List Int)) (a b:Cat) (i j:Nat):Int:=if rw' A i 1=rw' A j 0 then fnd A (aVy A a b i j)else-1
def aCt (N:Nat) (A:List (List Int)) (a b:Cat) (L R:List Int) (k:Nat):Cat:=
 ⟨N,zH A 0 A.length,zH A 1 A.length,tb N (bId A a b L R),tb k fun i=>tb A.length (aVx A a b i)⟩
structure ArrR (a b:Cat) (r:List Int):Prop where
 len:r.length=4
 ul:0≤r.getD 2 0
 uh:r.getD 2 0<a.fr.length
 vl:0≤r.getD 3 0
 vh:r.getD 3 0<b.fr.length
noncomputable def cmA (f e:Fun):List (List Int):=aVC f e (sY f e)
noncomputable def cmC (f e:Fun) (k:Nat):Cat:=aCt (sY f e).length (cmA f e) f.src e.src (zH (sY f e) 0 (sY f e).length) (zH (sY f e) 1 (sY f e).length) k
end Go.Cats
end
section
namespace Go.Cats
variable {f e:Fun} {O:List (List Int)} {s t i j:Nat}
end Go.Cats
end
section
namespace Go.Cats
theorem aFz {α:Type} {n:Nat} {f:Nat→List α} (h1:∀i,i<n→(f i).Nodup) (h2:∀i j x,i<n→j<n→x∈f i→x∈f j→i=j):(jS n f).Nodup:=by
 unfold jS List.Nodup
 rw [List.pairwise_flatMap]
 refine⟨fun a ha=>h1 a (List.mem_range.1 ha),?_⟩
 refine List.Pairwise.imp_of_mem ?_ (List.pairwise_lt_range (n:=n))
 intro a b ha hb hab x hx y hy e
 subst e
 have:=h2 a b x (List.mem_range.1 ha) (List.mem_range.1 hb) hx hy
 omega
theorem Cat.hom_nodup (c:Cat) (x y:Int):(c.hom x y).Nodup:=by
 unfold Cat.hom Cat.homI
 refine aFz (fun i _=>by split<;>simp) fun i j z _ _ hi hj=>?_
 split at hi
 ·split at hj
  ·simp at hi hj;omega
  ·simp at hj
 ·simp at hi
variable {f e:Fun} {O:List (List Int)} {s t i j:Nat}
theorem aCP {l:List (List Int)} {r:List Int} (h:r∈l):∃i:Nat,i<l.length∧l.getD i []=r∧fnd l r=i:=by
 cases hs:aV l.length (aMn l r)with
 |none=>
  exfalso
  obtain⟨i,hi,rfl⟩:=List.getElem_of_mem h
  have:=scan_none.1 hs i hi
  unfold aMn at this
  rw [if_pos (by rw [List.getD_eq_getElem?_getD,List.getElem?_eq_getElem hi];rfl)]at this
  cases this
 |some x=>
  obtain⟨i,hi,k⟩:=bN hs
  unfold aMn at k
  split at k
  ·rename_i e
   cases k
   exact⟨i,hi,e,by unfold fnd;rw [hs];rfl⟩
  ·cases k
/-! ### Identities and composites -/
theorem IsCat.unlI {c:Cat} (h:IsCat c) {f:Int} (h0:0≤f) (h1:f<c.fr.length):c.C (c.I (c.F f)) f=f:=by
 have:=h.unl f.toNat (by omega)
 rwa [Int.toNat_of_nonneg h0]at this
theorem IsCat.unrI {c:Cat} (h:IsCat c) {f:Int} (h0:0≤f) (h1:f<c.fr.length):c.C f (c.I (c.T f))=f:=by
 have:=h.unr f.toNat (by omega)
 rwa [Int.toNat_of_nonneg h0]at this
theorem IsCat.assI {c:Cat} (k:IsCat c) {f g h:Int} (f0:0≤f) (f1:f<c.fr.length) (g0:0≤g) (g1:g<c.fr.length) (h0:0≤h) (h1:h<c.fr.length) (e1:c.T f=c.F g) (e2:c.T g=c.F h):c.C (c.C f g) h=c.C f (c.C g h):=by
 have:=k.ass f.toNat g.toNat h.toNat (by omega) (by omega) (by omega)
 rw [Int.toNat_of_nonneg f0,Int.toNat_of_nonneg g0,Int.toNat_of_nonneg h0]at this
 exact this e1 e2
theorem IsCat.compI {c:Cat} (k:IsCat c) {f g:Int} (f0:0≤f) (f1:f<c.fr.length) (g0:0≤g) (g1:g<c.fr.length) (e1:c.T f=c.F g):0≤c.C f g∧c.C f g<c.fr.length∧c.F (c.C f g)=c.F f∧c.T (c.C f g)=c.T g:=by
 have h:=(k.coe f.toNat (by omega)).2 g.toNat (by omega)
 unfold Cat.Entry at h
 rw [Int.toNat_of_nonneg f0,Int.toNat_of_nonneg g0]at h
 rcases h with⟨_,h2,h3,h4⟩|⟨h2,_⟩
 ·exact⟨h2.1,h2.2,h3,h4⟩
 ·exact absurd e1 h2
theorem IsCat.idI {c:Cat} (k:IsCat c) {x:Int} (h0:0≤x) (h1:x<c.ob):0≤c.I x∧c.I x<c.fr.length∧c.F (c.I x)=x∧c.T (c.I x)=x:=by
 have hl:=k.idl
 have h2:=k.idw x.toNat (by omega)
 have h3:=k.ide x.toNat (by omega)
 rw [Int.toNat_of_nonneg h0]at h3
 exact⟨h2.1,h2.2,h3.1,h3.2⟩
end Go.Cats
end
section
namespace Go.Cats
/-! ### The first of a list with a property, -1 if there is none -/
open Classical in
noncomputable def fpO (p:Int→Prop) (l:List Int) (i:Nat):Option Int:=if p (l.getD i 0)then some (l.getD i 0)else none
noncomputable def aCO (p:Int→Prop) (l:List Int):Int:=(aV l.length (fpO p l)).getD (-1)
section
variable {p:Int→Prop} {l:List Int} {i:Nat}
theorem aNQ (h:p (l.getD i 0)):fpO p l i=some (l.getD i 0):=if_pos h
theorem aQZ (h:¬p (l.getD i 0)):fpO p l i=none:=if_neg h
theorem aH0 (h:aV l.length (fpO p l)=none):aCO p l= -1:=by unfold aCO;rw [h];rfl
theorem aFE (p:Int→Prop) (l:List Int):(aCO p l= -1∧∀v∈l,¬p v)∨(aCO p l∈l∧p (aCO p l)):=by
 cases h:aV l.length (fpO p l)with
 |none=>
  refine .inl ⟨aH0 h,fun v hv k=>?_⟩
  obtain⟨i,hi,e⟩:=mW (d:=0) hv
  have:=scan_none.1 h i hi
  rw [aNQ (by rw [e];exact k)]at this
  cases this
 |some r=>
  obtain⟨i,hi,k⟩:=bN h
  have e:aCO p l=r:=by unfold aCO;rw [h];rfl
  rw [e]
  by_cases q:p (l.getD i 0)
  ·rw [aNQ q]at k
   have:l.getD i 0=r:=by simpa using k
   rw [←this]
   exact .inr ⟨cD hi,q⟩
  ·rw [aQZ q]at k;cases k
theorem aMo (h0:∀v∈l,0≤v):0≤aCO p l↔∃v∈l,p v:=by
 rcases aFE p l with⟨h1,h2⟩|⟨h1,h2⟩
 ·rw [h1]
  exact⟨fun h=>by omega,fun⟨v,hv,k⟩=>absurd k (h2 v hv)⟩
 ·exact⟨fun _=>⟨_,h1,h2⟩,fun _=>h0 _ h1⟩
end
/-! ### The numbers below n with a property, in order -/
open Classical in
noncomputable def aC7 (P:Nat→Prop) (n:Nat):List Int:=jS n fun x=>if P x then [(x:Int)]else []
section
variable {P Q:Nat→Prop} {n x:Nat}
theorem aIA:aC7 P 0=[]:=rfl
theorem aEN (h:P n):aC7 P (n+1)=aC7 P n++[(n:Int)]:=by unfold aC7;rw [qG,if_pos h]
theorem aHn (h:¬P n):aC7 P (n+1)=aC7 P n:=by unfold aC7;rw [qG,if_neg h,List.append_nil]
theorem aEM (P:Nat→Prop):∀n,(aC7 P n).length≤n
 |0=>Nat.le_refl _
 |n+1=>by
  have:=aEM P n
  by_cases k:P n
  ·rw [aEN k,List.length_append];simp;omega
  ·rw [aHn k];omega
end
/-! ### Categories by whole numbers -/
section
variable {c:Cat} {f g h x y z:Int}
theorem Shape.compI (s:Shape c) (f0:0≤f) (f1:f<c.fr.length) (g0:0≤g) (g1:g<c.fr.length) (e:c.T f=c.F g):0≤c.C f g∧c.C f g<c.fr.length∧c.F (c.C f g)=c.F f∧c.T (c.C f g)=c.T g:=by
 have:=(s.coe f.toNat (by omega)).2 g.toNat (by omega)
 unfold Cat.Entry at this
 simp only [Cat.C,Int.toNat_natCast]at this⊢
 rcases this with⟨_,h2,h3,h4⟩|⟨h1,_⟩
 ·exact⟨h2.1,h2.2,h3,h4⟩
 ·exact absurd e h1
/-! ### Inverses -/
def Cat.InvP (c:Cat) (f g:Int):Prop:=c.C f g=c.I (c.F f)∧c.C g f=c.I (c.T f)
noncomputable def Cat.inv (c:Cat) (f:Int):Int:=aCO (c.InvP f) (c.hom (c.T f) (c.F f))
theorem Cat.inv_ge:0≤c.inv f↔∃g∈c.hom (c.T f) (c.F f),c.InvP f g:=aMo fun v hv=>(Cat.mem_hom.1 hv).1
def Cat.IsoO (c:Cat) (x y:Int):Prop:=∃f∈c.hom x y,0≤c.inv f
theorem Cat.IsoO.symm (h:c.IsoO x y):c.IsoO y x:=by
 obtain⟨f,hf,hi⟩:=h
 obtain⟨g,hg,h1,h2⟩:=Cat.inv_ge.1 hi
 obtain⟨f0,f1,f2,f3⟩:=Cat.mem_hom.1 hf
 rw [f2,f3]at hg
 obtain⟨g0,g1,g2,g3⟩:=Cat.mem_hom.1 hg
 refine⟨g,hg,Cat.inv_ge.2 ⟨f,by rw [g2,g3];exact hf,?_,?_⟩⟩
 ·rw [h2,f3,g2]
 ·rw [h1,f2,g3]
end
structure SubA (c:Cat) (A:List Int):Prop where
 nd:A.Nodup
 len:A.length≤c.fr.length
 rng:∀f∈A,0≤f∧f<c.fr.length
 idf:∀f∈A,c.I (c.F f)∈A
 idt:∀f∈A,c.I (c.T f)∈A
 cmp:∀f∈A,∀g∈A,c.T f=c.F g→c.C f g∈A
theorem sC {α β:Type} {l:List α} {h:α→β} {i:Nat} {d:β} {e:α} (hi:i<l.length):(l.map h).getD i d=h (l.getD i e):=by
 rw [List.getD_eq_getElem?_getD,List.getElem?_map,List.getD_eq_getElem?_getD,List.getElem?_eq_getElem hi];rfl
section
variable {c:Cat} {A:List Int}
open Classical in
def mkA (A:List Int) (m:Nat):Nat→List Bool
 |0=>List.replicate m false
 |i+1=>(mkA A m i).set (A.getD i 0).toNat true
theorem yJ (A:List Int) (m:Nat):∀i,(mkA A m i).length=m
 |0=>List.length_replicate
 |i+1=>by rw [mkA,List.length_set,yJ A m i]
theorem aKl {m:Nat} (hr:∀f∈A,0≤f∧f<m):∀{i:Nat},i≤A.length→∀v:Int,0≤v→v<m→((mkA A m i).getD v.toNat false=true↔v∈A.take i)
 |0,_,v,h0,h1=>by
  rw [mkA,List.getD_eq_getElem?_getD,List.getElem?_replicate]
  split<;>simp
 |i+1,hi,v,h0,h1=>by
  have hl:=yJ A m i
  have ri:=hr _ (cD (d:=0) (show i<A.length by omega))
  have ih:=aKl hr (show i≤A.length by omega) v h0 h1
  rw [mkA,List.getD_eq_getElem?_getD]
  have et:A.take (i+1)=A.take i++[A.getD i 0]:=by
   rw [List.take_succ_eq_append_getElem (show i<A.length by omega),List.getD_eq_getElem?_getD,List.getElem?_eq_getElem (by omega)];rfl
  rw [et,List.mem_append,List.mem_singleton,←ih]
  by_cases e:v=A.getD i 0
  ·rw [e,List.getElem?_set_self (by omega)];simp
  ·rw [List.getElem?_set_ne (fun q=>e (by omega)),←List.getD_eq_getElem?_getD]
   exact⟨fun h=> .inl h,fun h=>h.elim id fun q=>absurd q e⟩
end
end Go.Cats
end
section
namespace Go.Cats
section
variable {c:Cat} {x y z:Int} {a e:Nat} {h k:Int}
/-! ### The map of an arrow -/
def aQE (c:Cat) (h:Int) (z:Nat):List Int:=(c.hom (c.T h) z).map fun k=>idxOf (c.hom (c.F h) z) (c.C h k)
def arP (c:Cat) (h:Int) (n:Nat):List (List Int):=(List.range n).map (aQE c h)
end
end Go.Cats
end
section
namespace Go.Cats
abbrev pv (P:List (List Int)) (y i:Nat):Int:=(P.getD y []).getD i 0
def pset (P:List (List Int)) (y i:Nat) (k:Int):List (List Int):=P.set y ((P.getD y []).set i k)
theorem fY (P:List (List Int)) (y i:Nat) (k:Int):(pset P y i k).length=P.length:=by simp [pset]
theorem pset_row {P:List (List Int)} {y i z:Nat} {k:Int}:((pset P y i k).getD z []).length=(P.getD z []).length:=by
 unfold pset
 by_cases h:z=y
 ·subst h
  by_cases hz:z<P.length
  ·simp [List.getD_eq_getElem?_getD,hz]
  ·simp [List.getD_eq_getElem?_getD,hz]
 ·simp [List.getD_eq_getElem?_getD,List.getElem?_set_ne (Ne.symm h)]
theorem kD {P:List (List Int)} {y i:Nat} {k:Int} (hy:y<P.length) (hi:i<(P.getD y []).length):pv (pset P y i k) y i=k:=by
 unfold pv pset
 rw [List.getD_eq_getElem?_getD (l:=P.set y _),List.getElem?_set_self hy]
 simp only [Option.getD_some]
 rw [List.getD_eq_getElem?_getD,List.getElem?_set_self hi]
 rfl
theorem fL {P:List (List Int)} {y i z j:Nat} {k:Int} (h:¬(z=y∧j=i)):pv (pset P y i k) z j=pv P z j:=by
 unfold pv pset
 by_cases hz:z=y
 ·subst hz
  have hj:j≠i:=fun e=>h ⟨rfl,e⟩
  by_cases hl:z<P.length
  ·rw [List.getD_eq_getElem?_getD (l:=P.set z _),List.getElem?_set_self hl]
   simp only [Option.getD_some]
   rw [List.getD_eq_getElem?_getD,List.getElem?_set_ne (Ne.symm hj),←List.getD_eq_getElem?_getD]
  ·rw [List.set_eq_of_length_le (by omega)]
 ·rw [List.getD_eq_getElem?_getD (l:=P.set y _),List.getElem?_set_ne (Ne.symm hz),←List.getD_eq_getElem?_getD]
section
variable (f g:SF) (once:Bool)
abbrev SF.av (f:SF) (a:Nat) (e:Nat):Int:=(f.acts.getD a []).getD e 0
abbrev SF.ty (f:SF) (a:Nat):Nat:=(f.shape.to.getD a 0).toNat
abbrev SF.fx (f:SF) (a:Nat):Nat:=(f.shape.fr.getD a 0).toNat
def dX (e u:Nat) (P:List (List Int)) (a:Nat):Option (List (List Int)):=
 if 0≤pv P (f.ty a) (f.av a e).toNat then(if pv P (f.ty a) (f.av a e).toNat=g.av a u then some P else none)
 else if once=true∧g.av a u∈P.getD (f.ty a) []then none else some (pset P (f.ty a) (f.av a e).toNat (g.av a u))
def eV (x e u:Nat) (P:List (List Int)):Nat→Option (List (List Int))
 |0=>some P
 |n+1=>(eV x e u P n).bind fun Q=>if f.shape.fr.getD n 0=x then dX f g once e u Q n else some Q
def gP (x e u:Nat) (P:List (List Int)):Option (List (List Int)):=eV f g once x e u P f.shape.fr.length
structure Good (P:List (List Int)):Prop where
 len:P.length=f.sizes.length
 row:∀y,y<P.length→((P.getD y []).length:Int)=f.sizes.getD y 0
 rng:∀y i,y<P.length→i<(P.getD y []).length→-1≤pv P y i∧pv P y i<g.sizes.getD y 0
 cl:∀b i,b<f.shape.fr.length→i<(P.getD (f.fx b) []).length→0≤pv P (f.fx b) i→pv P (f.ty b) (f.av b i).toNat=g.av b (pv P (f.fx b) i).toNat
 inj:once=true→∀y i j,y<P.length→i<(P.getD y []).length→j<(P.getD y []).length→0≤pv P y i→pv P y i=pv P y j→i=j
def Ext' (P Q:List (List Int)):Prop:=P.length=Q.length∧(∀y,(P.getD y []).length=(Q.getD y []).length)∧∀y i,y<P.length→i<(P.getD y []).length→0≤pv P y i→pv Q y i=pv P y i
end
theorem Ext'.refl (P:List (List Int)):Ext' P P:=⟨rfl,fun _=>rfl,fun _ _ _ _ _=>rfl⟩
theorem Ext'.trans {P Q R:List (List Int)} (h:Ext' P Q) (k:Ext' Q R):Ext' P R:=
 ⟨h.1.trans k.1,fun y=>(h.2.1 y).trans (k.2.1 y),fun y i hy hi h0=>by
  have e1:=h.2.2 y i hy hi h0
  have e2:=k.2.2 y i (by rw [←h.1];exact hy) (by rw [←h.2.1];exact hi) (by rw [e1];exact h0)
  rw [e2,e1]⟩
theorem Ext'.pset {P:List (List Int)} {y i:Nat} {k:Int} (h:¬0≤pv P y i):Ext' P (pset P y i k):=
 ⟨(fY P y i k).symm,fun z=>pset_row.symm,fun z j hz hj h0=>fL fun⟨e1,e2⟩=>h (by subst e1;subst e2;exact h0)⟩
variable {f g:SF} {once:Bool} {x e u:Nat} {P Q:List (List Int)}
theorem qU {a:Nat} (h:dX f g once e u P a=some Q):Ext' P Q:=by
 unfold dX at h
 split at h
 ·split at h
  ·simp only [Option.some.injEq]at h;subst h;exact .refl _
  ·cases h
 ·rename_i h0
  split at h
  ·cases h
  ·simp only [Option.some.injEq]at h;subst h;exact .pset h0
theorem aAu:∀(n:Nat) (Q:List (List Int)),eV f g once x e u P n=some Q→Ext' P Q
 |0,Q,h=>by simp only [eV,Option.some.injEq]at h;subst h;exact .refl _
 |n+1,Q,h=>by
  unfold eV at h
  obtain⟨R,h1,h2⟩:=Option.bind_eq_some_iff.1 h
  refine(aAu n R h1).trans ?_
  split at h2
  ·exact qU h2
  ·simp only [Option.some.injEq]at h2;subst h2;exact .refl _
theorem aLx {a:Nat} (hQ:Good f g once Q) (hfull:∀y i,y<Q.length→i<(Q.getD y []).length→0≤pv Q y i) (hP:Ext' P Q) (ha:a<f.shape.fr.length) (hx:f.fx a<Q.length) (hy:f.ty a<Q.length)
  (he:e<(Q.getD (f.fx a) []).length) (hi:(f.av a e).toNat<(Q.getD (f.ty a) []).length) (hu:pv Q (f.fx a) e=u):∃R,dX f g once e u P a=some R∧Ext' R Q:=by
 have hc:=hQ.cl a e ha he (hfull _ _ hx he)
 rw [hu]at hc
 have hc':pv Q (f.ty a) (f.av a e).toNat=g.av a u:=by simpa using hc
 unfold dX
 split
 ·rename_i h0
  have e1:=hP.2.2 (f.ty a) (f.av a e).toNat (by rw [hP.1];exact hy) (by rw [hP.2.1];exact hi) h0
  rw [if_pos (by rw [←e1];exact hc')]
  exact⟨P,rfl,hP⟩
 ·rename_i h0
  rw [if_neg ?_]
  ·refine⟨_,rfl,(fY ..).trans hP.1,fun z=>pset_row.trans (hP.2.1 z),fun z j hz hj h1=>?_⟩
   rw [fY]at hz
   rw [pset_row]at hj
   by_cases hzj:z=f.ty a∧j=(f.av a e).toNat
   ·obtain⟨rfl,rfl⟩:=hzj
    rw [kD hz hj,hc']
   ·rw [fL hzj]at h1⊢
    exact hP.2.2 z j hz hj h1
  ·rintro⟨ho,hm⟩
   obtain⟨j,hj,hje⟩:=List.getElem_of_mem hm
   have hyP:f.ty a<P.length:=by rw [hP.1];exact hy
   have hjQ:j<(Q.getD (f.ty a) []).length:=by rw [←hP.2.1];exact hj
   have hv:pv P (f.ty a) j=g.av a u:=by
    unfold pv
    rw [List.getD_eq_getElem?_getD (l:=P.getD (f.ty a) []),List.getElem?_eq_getElem hj,Option.getD_some,hje]
   have h2:0≤pv P (f.ty a) j:=by rw [hv,←hc'];exact hfull _ _ hy hi
   have h3:=hP.2.2 _ j hyP hj h2
   have h4:=hQ.inj ho (f.ty a) j _ hy hjQ hi (hfull _ _ hy hjQ) (by rw [h3,hv,hc'])
   subst h4
   exact h0 h2
structure SPair (f g:SF):Prop where
 src:IsSF f
 tgt:IsSF g
 one:f.shape=g.shape
theorem SPair.ft (h:SPair f g) {a:Nat} (ha:a<f.shape.fr.length):f.fx a<f.sizes.length∧f.ty a<f.sizes.length∧f.shape.fr.getD a 0=f.fx a∧f.shape.to.getD a 0=f.ty a:=by
 have h1:=h.src.cat.frw a ha
 have h2:=h.src.cat.tow a (by rw [h.src.cat.tol];exact ha)
 have h3:=h.src.szl
 unfold SF.fx SF.ty
 omega
theorem SPair.fa (h:SPair f g) {a e:Nat} (ha:a<f.shape.fr.length) (he:(e:Int)<f.sizes.getD (f.fx a) 0):0≤f.av a e∧f.av a e<f.sizes.getD (f.ty a) 0:=by
 have h1:=h.src.act a (by rw [h.src.acl];exact ha)
 exact h1.2 e (by have:=h1.1;unfold SF.fx at he;omega)
theorem SPair.ga (h:SPair f g) {a u:Nat} (ha:a<f.shape.fr.length) (hu:(u:Int)<g.sizes.getD (f.fx a) 0):0≤g.av a u∧g.av a u<g.sizes.getD (f.ty a) 0:=by
 have h1:=h.tgt.act a (by rw [h.tgt.acl,←h.one];exact ha)
 rw [←h.one]at h1
 exact h1.2 u (by have:=h1.1;unfold SF.fx at hu;omega)
theorem aHq (h:SPair f g) (hQ:Good f g once Q) (hfull:∀y i,y<Q.length→i<(Q.getD y []).length→0≤pv Q y i) (hx:x<Q.length) (he:e<(Q.getD x []).length) (hu:pv Q x e=u):
  ∀(n:Nat),n≤f.shape.fr.length→∀P,Ext' P Q→∃R,eV f g once x e u P n=some R∧Ext' R Q
 |0,_,P,hP=>⟨P,rfl,hP⟩
 |n+1,hn,P,hP=>by
  obtain⟨R,h1,h2⟩:=aHq h hQ hfull hx he hu n (by omega) P hP
  unfold eV
  rw [h1,Option.bind_some]
  split
  ·rename_i hfr
   obtain⟨b1,b2,b3,b4⟩:=h.ft (a:=n) (by omega)
   have ex:f.fx n=x:=by omega
   have hrow:=hQ.row x hx
   have hlen:=hQ.len
   have hfa:=h.fa (a:=n) (e:=e) (by omega) (by rw [ex];omega)
   have hty:f.ty n<Q.length:=by omega
   have hrow2:=hQ.row (f.ty n) hty
   exact aLx hQ hfull h2 (by omega) (by rw [ex];exact hx) hty (by rw [ex];exact he) (by omega) (by rw [ex];exact hu)
  ·exact⟨R,rfl,h2⟩
theorem aHr (h:SPair f g) (hQ:Good f g once Q) (hfull:∀y i,y<Q.length→i<(Q.getD y []).length→0≤pv Q y i) (hx:x<Q.length) (he:e<(Q.getD x []).length) (hu:pv Q x e=u) (hP:Ext' P Q):∃R,gP f g once x e u P=some R∧Ext' R Q:=
 aHq h hQ hfull hx he hu _ (Nat.le_refl _) P hP
structure Gd (f g:SF) (once:Bool) (P:List (List Int)):Prop where
 len:P.length=f.sizes.length
 row:∀y,y<P.length→((P.getD y []).length:Int)=f.sizes.getD y 0
 rng:∀y i,y<P.length→i<(P.getD y []).length→-1≤pv P y i∧pv P y i<g.sizes.getD y 0
 inj:once=true→∀y i j,y<P.length→i<(P.getD y []).length→j<(P.getD y []).length→0≤pv P y i→pv P y i=pv P y j→i=j
theorem Good.gd (h:Good f g once P):Gd f g once P:=⟨h.len,h.row,h.rng,h.inj⟩
theorem aOQ {P:List (List Int)} {y j:Nat} (h:j<(P.getD y []).length):pv P y j∈P.getD y []:=by
 unfold pv
 rw [List.getD_eq_getElem?_getD (l:=P.getD y []),List.getElem?_eq_getElem h,Option.getD_some]
 exact List.getElem_mem h
theorem aLw {a:Nat} (h:SPair f g) (hP:Gd f g once P) (ha:a<f.shape.fr.length) (he:(e:Int)<f.sizes.getD (f.fx a) 0) (hu:(u:Int)<g.sizes.getD (f.fx a) 0) (hs:dX f g once e u P a=some Q):
  Gd f g once Q∧pv Q (f.ty a) (f.av a e).toNat=g.av a u∧∀y i,y<Q.length→i<(Q.getD y []).length→0≤pv Q y i→0≤pv P y i∨(y=f.ty a∧i=(f.av a e).toNat):=by
 obtain⟨b1,b2,b3,b4⟩:=h.ft ha
 have fa:=h.fa ha he
 have ga:=h.ga ha hu
 have hl:=hP.len
 have hy:f.ty a<P.length:=by omega
 have hrow:=hP.row _ hy
 have hi:(f.av a e).toNat<(P.getD (f.ty a) []).length:=by omega
 unfold dX at hs
 split at hs
 ·split at hs
  ·rename_i e1
   simp only [Option.some.injEq]at hs;subst hs
   exact⟨hP,e1,fun y i _ _ h=> .inl h⟩
  ·cases hs
 ·rename_i h0
  split at hs
  ·cases hs
  ·rename_i hno
   simp only [Option.some.injEq]at hs;subst hs
   refine⟨⟨(fY ..).trans hl,fun y hy'=>?_,fun y i hy' hi'=>?_,fun ho y i j hy' hi' hj' h1 h2=>?_⟩,kD hy hi,fun y i hy' hi' h1=>?_⟩
   ·rw [pset_row];exact hP.row y (by rwa [fY]at hy')
   ·rw [fY]at hy';rw [pset_row]at hi'
    by_cases hc:y=f.ty a∧i=(f.av a e).toNat
    ·obtain⟨rfl,rfl⟩:=hc
     rw [kD hy' hi'];omega
    ·rw [fL hc];exact hP.rng y i hy' hi'
   ·rw [fY]at hy';rw [pset_row]at hi' hj'
    have hnm:∀l,l<(P.getD (f.ty a) []).length→pv P (f.ty a) l≠g.av a u:=fun l hl' e1=>hno ⟨ho,e1▸aOQ hl'⟩
    by_cases hc:y=f.ty a∧i=(f.av a e).toNat
    ·obtain⟨rfl,rfl⟩:=hc
     by_cases hd:j=(f.av a e).toNat
     ·exact hd.symm
     ·rw [kD hy' hi',fL (fun q=>hd q.2)]at h2
      exact absurd h2.symm (hnm j hj')
    ·rw [fL hc]at h1 h2
     by_cases hd:y=f.ty a∧j=(f.av a e).toNat
     ·obtain⟨rfl,rfl⟩:=hd
      rw [kD hy' hj']at h2
      exact absurd h2 (hnm i hi')
     ·rw [fL hd]at h2
      exact hP.inj ho y i j hy' hi' hj' h1 h2
   ·by_cases hc:y=f.ty a∧i=(f.av a e).toNat
    ·exact .inr hc
    ·rw [fL hc]at h1;exact .inl h1
theorem aHp (h:SPair f g) (he:(e:Int)<f.sizes.getD x 0) (hu:(u:Int)<g.sizes.getD x 0) (hP:Gd f g once P):∀(n:Nat),n≤f.shape.fr.length→∀Q,eV f g once x e u P n=some Q→
  Gd f g once Q∧(∀a,a<n→f.shape.fr.getD a 0=x→pv Q (f.ty a) (f.av a e).toNat=g.av a u)∧∀y i,y<Q.length→i<(Q.getD y []).length→0≤pv Q y i→0≤pv P y i∨∃a,a<n∧f.shape.fr.getD a 0=x∧y=f.ty a∧i=(f.av a e).toNat
 |0,_,Q,hs=>by
  simp only [eV,Option.some.injEq]at hs;subst hs
  exact⟨hP,fun a ha=>by omega,fun y i _ _ h=> .inl h⟩
 |n+1,hn,Q,hs=>by
  unfold eV at hs
  obtain⟨R,h1,h2⟩:=Option.bind_eq_some_iff.1 hs
  obtain⟨g1,g2,g3⟩:=aHp h he hu hP n (by omega) R h1
  split at h2
  ·rename_i hfr
   obtain⟨b1,b2,b3,b4⟩:=h.ft (a:=n) (by omega)
   have ex:f.fx n=x:=by omega
   obtain⟨k1,k2,k3⟩:=aLw h g1 (by omega) (by rw [ex];exact he) (by rw [ex];exact hu) h2
   have hx:=qU h2
   refine⟨k1,fun a ha hax=>?_,fun y i hy hi h0=>?_⟩
   ·by_cases e1:a=n
    ·subst e1;exact k2
    ·have e2:=g2 a (by omega) hax
     obtain⟨c1,c2,c3,c4⟩:=h.ft (a:=a) (by omega)
     have exa:f.fx a=x:=by omega
     have fa:=h.fa (a:=a) (e:=e) (by omega) (by rw [exa];exact he)
     have ga:=h.ga (a:=a) (u:=u) (by omega) (by rw [exa];exact hu)
     have hyR:f.ty a<R.length:=by rw [g1.len];exact c2
     have hrow:=g1.row _ hyR
     rw [hx.2.2 _ _ hyR (by omega) (by rw [e2];exact ga.1),e2]
   ·rcases k3 y i hy hi h0 with h4|⟨h4,h5⟩
    ·rcases g3 y i (by rw [hx.1];exact hy) (by rw [hx.2.1];exact hi) h4 with h6|⟨a,a1,a2,a3,a4⟩
     ·exact .inl h6
     ·exact .inr ⟨a,by omega,a2,a3,a4⟩
    ·exact .inr ⟨n,by omega,hfr,h4,h5⟩
  ·rename_i hfr
   simp only [Option.some.injEq]at h2;subst h2
   refine⟨g1,fun a ha hax=>g2 a (by
    by_cases e1:a=n
    ·subst e1;exact absurd hax hfr
    ·omega) hax,fun y i hy hi h0=>?_⟩
   rcases g3 y i hy hi h0 with h6|⟨a,a1,a2,a3,a4⟩
   ·exact .inl h6
   ·exact .inr ⟨a,by omega,a2,a3,a4⟩
theorem mT (h:SPair f g) (hP:Good f g once P) (hx:x<P.length) (he:e<(P.getD x []).length) (hu:(u:Int)<g.sizes.getD x 0) (hs:gP f g once x e u P=some Q):Good f g once Q∧Ext' P Q∧pv Q x e=u:=by
 have hrow:=hP.row x hx
 have he':(e:Int)<f.sizes.getD x 0:=by omega
 obtain⟨g1,g2,g3⟩:=aHp h he' hu hP.gd _ (Nat.le_refl _) Q hs
 have hx':=aAu _ _ hs
 have hc:=h.src.cat
 have hl:=hP.len
 refine⟨⟨g1.len,g1.row,g1.rng,fun b i hb hi h0=>?_,g1.inj⟩,hx',?_⟩
 ·obtain⟨b1,b2,b3,b4⟩:=h.ft hb
  have hyQ:f.fx b<Q.length:=by rw [g1.len];exact b1
  rcases g3 _ i hyQ hi h0 with h1|⟨a,a1,a2,a3,a4⟩
  ·have hyP:f.fx b<P.length:=by rw [hl];exact b1
   have hiP:i<(P.getD (f.fx b) []).length:=by rw [hx'.2.1];exact hi
   have e1:=hP.cl b i hb hiP h1
   have e2:=hx'.2.2 _ i hyP hiP h1
   have r1:=hP.row _ hyP
   have r2:=hP.rng _ i hyP hiP
   have fa:=h.fa (a:=b) (e:=i) hb (by omega)
   have ga:=h.ga (a:=b) (u:=(pv P (f.fx b) i).toNat) hb (by omega)
   have hyT:f.ty b<P.length:=by rw [hl];exact b2
   have r3:=hP.row _ hyT
   rw [e2,hx'.2.2 _ _ hyT (by omega) (by rw [e1];exact ga.1),e1]
  ·obtain⟨c1,c2,c3,c4⟩:=h.ft a1
   have hab:f.shape.to.getD a 0=f.shape.fr.getD b 0:=by rw [c4,b3,a3]
   have hE:=(hc.coe a a1).2 b hb
   unfold Cat.Entry at hE
   rcases hE with⟨_,⟨m0,m1⟩,m2,m3⟩|⟨hne,_⟩
   ·have k1:=h.src.comp a b a1 hb (by simpa [Cat.C]using m0) e (by
     have:=(h.src.act a (by rw [h.src.acl];exact a1)).1
     rw [a2,Int.toNat_natCast]at this;omega)
    have hEg:=(h.tgt.cat.coe a (by rw [←h.one];exact a1)).2 b (by rw [←h.one];exact hb)
    have k2:=h.tgt.comp a b (by rw [←h.one];exact a1) (by rw [←h.one];exact hb) (by rw [←h.one];simpa [Cat.C]using m0) u (by
     have:=(h.tgt.act a (by rw [h.tgt.acl,←h.one];exact a1)).1
     rw [←h.one,a2,Int.toNat_natCast]at this;omega)
    rw [←h.one]at k2
    have hm:((f.shape.co.getD a []).getD b 0).toNat<f.shape.fr.length:=by simp [Cat.C]at m0 m1⊢;omega
    have q1:=g2 _ hm (by rw [←a2];simpa [Cat.C,Cat.F]using m2)
    have q2:f.ty ((f.shape.co.getD a []).getD b 0).toNat=f.ty b:=by
     unfold SF.ty
     have:f.shape.to.getD ((f.shape.co.getD a []).getD b 0).toNat 0=f.shape.to.getD b 0:=by simpa [Cat.C,Cat.T]using m3
     rw [this]
    have q3:f.av ((f.shape.co.getD a []).getD b 0).toNat e=f.av b i:=by rw [a4];exact k1
    have q4:g.av ((f.shape.co.getD a []).getD b 0).toNat u=g.av b (g.av a u).toNat:=k2
    have q5:=g2 a a1 a2
    rw [q2,q3,q4]at q1
    rw [a3,a4,q5,←a4]
    exact q1
   ·exact absurd hab hne
 ·have hxi:x<f.shape.id.length:=by have:=h.src.szl;have:=hc.idl;omega
  have w:=hc.idw x hxi
  have w2:=hc.ide x hxi
  have hm:(f.shape.id.getD x 0).toNat<f.shape.fr.length:=by omega
  have q1:=g2 _ hm (by simpa [Cat.F]using w2.1)
  have q2:f.ty (f.shape.id.getD x 0).toNat=x:=by
   unfold SF.ty
   have:f.shape.to.getD (f.shape.id.getD x 0).toNat 0=x:=by simpa [Cat.T]using w2.2
   rw [this];omega
  have q6:f.shape.fr.getD (f.shape.id.getD x 0).toNat 0=x:=by simpa [Cat.F]using w2.1
  have q3:f.av (f.shape.id.getD x 0).toNat e=e:=h.src.unit x hxi e (by
   have:=(h.src.act _ (by rw [h.src.acl];exact hm)).1
   rw [q6,Int.toNat_natCast]at this;omega)
  have q4:g.av (f.shape.id.getD x 0).toNat u=u:=by
   have:=h.tgt.unit x (by rw [←h.one];exact hxi) u (by
    rw [←h.one]
    have:=(h.tgt.act (f.shape.id.getD x 0).toNat (by rw [h.tgt.acl,←h.one];exact hm)).1
    rw [←h.one,q6,Int.toNat_natCast]at this;omega)
   rw [←h.one]at this
   exact this
  rw [q2,q3,q4]at q1
  simpa using q1
end Go.Cats
end
section
namespace Go.Cats
def fuI (P:List (List Int)) (y:Nat) (i:Nat):Option (Nat×Nat):=if pv P y i<0 then some (y,i)else none
def fuR (P:List (List Int)) (y:Nat):Option (Nat×Nat):=aV (P.getD y []).length (fuI P y)
def fuP (P:List (List Int)):Option (Nat×Nat):=aV P.length (fuR P)
theorem aD8 {P:List (List Int)} {y i:Nat} {r:Nat×Nat} (h:fuI P y i=some r):r=(y,i)∧pv P y i<0:=by
 unfold fuI at h
 split at h
 ·rename_i h0;exact⟨(Option.some.inj h).symm,h0⟩
 ·cases h
theorem pH {P:List (List Int)} {y i:Nat} (h:fuP P=some (y,i)):y<P.length∧i<(P.getD y []).length∧pv P y i<0:=by
 obtain⟨z,hz,h1⟩:=bN h
 obtain⟨j,hj,h2⟩:=bN h1
 obtain⟨h3,h4⟩:=aD8 h2
 simp only [Prod.mk.injEq]at h3
 obtain⟨rfl,rfl⟩:=h3
 exact⟨hz,hj,h4⟩
theorem fuP_none {P:List (List Int)}:fuP P=none↔∀y i,y<P.length→i<(P.getD y []).length→0≤pv P y i:=by
 unfold fuP
 rw [scan_none]
 constructor
 ·intro h y i hy hi
  have h1:=scan_none.1 (h y hy) i hi
  unfold fuI at h1
  split at h1
  ·cases h1
  ·omega
 ·intro h y hy
  refine scan_none.2 fun i hi=>?_
  have:=h y i hy hi
  unfold fuI
  rw [if_neg (by omega)]
section
variable (f g:SF) (once:Bool)
def dfs:Nat→List (List Int)→List (List (List Int))
 |0,_=>[]
 |n+1,P=>match fuP P with
  |none=>[P]
  |some (x,e)=>(List.range (g.sizes.getD x 0).toNat).flatMap fun u=>match gP f g once x e u P with
   |none=>[]
   |some Q=>dfs n Q
end
variable {f g:SF} {once:Bool} {x e u:Nat} {P Q:List (List Int)}
theorem pC (h:SPair f g):∀(n:Nat) (P:List (List Int)),Good f g once P→∀Q,Q∈dfs f g once n P→Good f g once Q∧Ext' P Q∧fuP Q=none
 |0,P,hP,Q,hQ=>by simp [dfs]at hQ
 |n+1,P,hP,Q,hQ=>by
  unfold dfs at hQ
  split at hQ
  ·rename_i h0
   simp only [List.mem_singleton]at hQ
   subst hQ
   exact⟨hP, .refl _,h0⟩
  ·rename_i x e h0
   obtain⟨u,hu,hm⟩:=List.mem_flatMap.1 hQ
   have hu':=List.mem_range.1 hu
   obtain⟨p1,p2,p3⟩:=pH h0
   split at hm
   ·cases hm
   ·rename_i R hR
    obtain⟨g1,g2,g3⟩:=mT h hP p1 p2 (by omega) hR
    obtain⟨k1,k2,k3⟩:=pC h n R g1 Q hm
    exact⟨k1,g2.trans k2,k3⟩
theorem aMc (h:SPair f g) {n:Nat} (hP:Good f g once P) {y d:Nat} (hy:y<P.length) (hd:d<(P.getD y []).length) (hno:∀u:Nat,(u:Int)<g.sizes.getD y 0→gP f g once y d u P=none):dfs f g once n P=[]:=by
 rw [List.eq_nil_iff_forall_not_mem]
 intro Q hQ
 obtain⟨q1,q2,q3⟩:=pC h n P hP Q hQ
 have hfull:=fuP_none.1 q3
 have hyQ:y<Q.length:=by rw [←q2.1];exact hy
 have hdQ:d<(Q.getD y []).length:=by rw [←q2.2.1];exact hd
 have hv:=hfull y d hyQ hdQ
 have hr:=q1.rng y d hyQ hdQ
 obtain⟨R,hR,_⟩:=aHr (u:=(pv Q y d).toNat) h q1 hfull hyQ hdQ (by omega) q2
 rw [hno _ (by omega)]at hR
 cases hR
def nu (P:List (List Int)):Nat:=(P.map fun r=>(r.filter fun v=>decide (v<0)).length).sum
theorem yE:∀{r s:List Int},r.length=s.length→(∀i,i<r.length→0≤r.getD i 0→s.getD i 0=r.getD i 0)→(s.filter fun v=>decide (v<0)).length≤(r.filter fun v=>decide (v<0)).length
 |[],[],_,_=>Nat.le_refl _
 |[],_::_,h,_=>by simp at h
 |_::_,[],h,_=>by simp at h
 |a::r,b::s,hl,h=>by
  have ih:=yE (r:=r) (s:=s) (by simpa using hl) (fun i hi h0=>by
   have:=h (i+1) (by simp;omega) (by simpa using h0)
   simpa using this)
  have h0:=h 0 (by simp)
  simp only [List.getD_cons_zero]at h0
  simp only [List.filter_cons]
  by_cases ha:a<0
  ·by_cases hb:b<0
   ·simp [ha,hb];exact ih
   ·simp [ha,hb];omega
  ·have:=h0 (by omega)
   subst this
   simp [ha];exact ih
theorem aCN:∀{r s:List Int},r.length=s.length→(∀i,i<r.length→0≤r.getD i 0→s.getD i 0=r.getD i 0)→∀j,j<r.length→r.getD j 0<0→0≤s.getD j 0→(s.filter fun v=>decide (v<0)).length<(r.filter fun v=>decide (v<0)).length
 |[],_,_,_,j,hj,_,_=>by simp at hj
 |_::_,[],h,_,_,_,_,_=>by simp at h
 |a::r,b::s,hl,h,j,hj,h1,h2=>by
  have hl':r.length=s.length:=by simpa using hl
  have hs:∀i,i<r.length→0≤r.getD i 0→s.getD i 0=r.getD i 0:=fun i hi h0=>by
   have:=h (i+1) (by simp;omega) (by simpa using h0)
   simpa using this
  have h0:=h 0 (by simp)
  simp only [List.getD_cons_zero]at h0
  simp only [List.filter_cons]
  cases j with
  |zero=>
   have ha:a<0:=by simpa using h1
   have hb:¬b<0:=by
    have:0≤b:=by simpa using h2
    omega
   have:=yE hl' hs
   simp [ha,hb];omega
  |succ j=>
   have ih:=aCN hl' hs j (by simpa using hj) (by simpa using h1) (by simpa using h2)
   by_cases ha:a<0
   ·by_cases hb:b<0
    ·simp [ha,hb];exact ih
    ·simp [ha,hb];omega
   ·have:=h0 (by omega)
    subst this
    simp [ha];exact ih
theorem aNY:∀{P Q:List (List Int)},P.length=Q.length→(∀y,y<P.length→((Q.getD y []).filter fun v=>decide (v<0)).length≤((P.getD y []).filter fun v=>decide (v<0)).length)→nu Q≤nu P
 |[],[],_,_=>Nat.le_refl _
 |[],_::_,h,_=>by simp at h
 |_::_,[],h,_=>by simp at h
 |a::P,b::Q,hl,h=>by
  have ih:=aNY (P:=P) (Q:=Q) (by simpa using hl) (fun y hy=>by simpa using h (y+1) (by simp;omega))
  have h0:=h 0 (by simp)
  simp only [List.getD_cons_zero]at h0
  simp only [nu,List.map_cons,List.sum_cons]at ih⊢
  omega
theorem aNZ:∀{P Q:List (List Int)},P.length=Q.length→(∀y,y<P.length→((Q.getD y []).filter fun v=>decide (v<0)).length≤((P.getD y []).filter fun v=>decide (v<0)).length)→∀z,z<P.length→((Q.getD z []).filter fun v=>decide (v<0)).length<((P.getD z []).filter fun v=>decide (v<0)).length→nu Q<nu P
 |[],_,_,_,z,hz,_=>by simp at hz
 |_::_,[],h,_,_,_,_=>by simp at h
 |a::P,b::Q,hl,h,z,hz,hlt=>by
  have hl':P.length=Q.length:=by simpa using hl
  have hs:∀y,y<P.length→((Q.getD y []).filter fun v=>decide (v<0)).length≤((P.getD y []).filter fun v=>decide (v<0)).length:=fun y hy=>by simpa using h (y+1) (by simp;omega)
  have h0:=h 0 (by simp)
  simp only [List.getD_cons_zero]at h0
  cases z with
  |zero=>
   have:=aNY hl' hs
   simp only [List.getD_cons_zero]at hlt
   simp only [nu,List.map_cons,List.sum_cons]at this⊢
   omega
  |succ z=>
   have ih:=aNZ hl' hs z (by simpa using hz) (by simpa using hlt)
   simp only [nu,List.map_cons,List.sum_cons]at ih⊢
   omega
theorem aFU (h:Ext' P Q) (hx:x<P.length) (he:e<(P.getD x []).length) (h0:pv P x e<0) (h1:0≤pv Q x e):nu Q<nu P:=
 aNZ h.1 (fun y hy=>yE (h.2.1 y) fun i hi q=>h.2.2 y i hy hi q) x hx (aCN (h.2.1 x) (fun i hi q=>h.2.2 x i hx hi q) e he h0 h1)
end Go.Cats
end
section
namespace Go.Cats
section
variable (f g:SF) (once:Bool)
def aCW (e:Nat) (P:List (List Int)) (a:Nat):Prop:=¬0≤pv P (f.ty a) (f.av a e).toNat
instance (e:Nat) (P:List (List Int)) (a:Nat):Decidable (aCW f e P a):=by unfold aCW;infer_instance
def setL (e u:Nat):List Nat→List (List Int)→List (Int×Int)→Bool×List (List Int)×List (Int×Int)
 |[],P,N=>(true,P,N)
 |a::l,P,N=>match dX f g once e u P a with
  |none=>(false,P,N)
  |some Q=>setL e u l Q (if aCW f e P a then N++[((f.ty a:Int),f.av a e)]else N)
def eU (c:Cat) (x:Nat) (n:Nat):List Nat:=(List.range n).filter fun a=>decide (c.fr.getD a 0=x)
end
variable {f g:SF} {once:Bool} {x e u:Nat} {P Q:List (List Int)}
theorem vQ (c:Cat) (x n:Nat):eU c x (n+1)=eU c x n++(if c.fr.getD n 0=x then [n]else []):=by
 unfold eU
 rw [List.range_succ,List.filter_append]
 congr 1
 by_cases h:c.fr.getD n 0=x
 ·rw [if_pos h,List.filter_cons_of_pos (by simpa using h),List.filter_nil]
 ·rw [if_neg h,List.filter_cons_of_neg (by simpa using h),List.filter_nil]
theorem gL {e u a:Nat} {l:List Nat} {N:List (Int×Int)} (h:dX f g once e u P a=none):setL f g once e u (a::l) P N=(false,P,N):=by
 rw [setL];simp only [h]
theorem gM {e u a:Nat} {l:List Nat} {N:List (Int×Int)} (h:dX f g once e u P a=some Q):setL f g once e u (a::l) P N=setL f g once e u l Q (if aCW f e P a then N++[((f.ty a:Int),f.av a e)]else N):=by
 rw [setL];simp only [h]
theorem lQ (e u:Nat):∀(l m:List Nat) (P:List (List Int)) (N:List (Int×Int)),setL f g once e u (l++m) P N=if(setL f g once e u l P N).1=true then setL f g once e u m (setL f g once e u l P N).2.1 (setL f g once e u l P N).2.2 else setL f g once e u l P N
 |[],m,P,N=>by rw [List.nil_append,setL,if_pos rfl]
 |a::l,m,P,N=>by
  rw [List.cons_append]
  cases hs:dX f g once e u P a with
  |none=>rw [gL hs,gL hs,if_neg (by simp)]
  |some Q=>rw [gM hs,gM hs];exact lQ e u l m _ _
theorem aB9 (N:List (Int×Int)):∀(n:Nat),eV f g once x e u P n=if(setL f g once e u (eU f.shape x n) P N).1=true then some (setL f g once e u (eU f.shape x n) P N).2.1 else none
 |0=>by simp [eV,eU,setL]
 |n+1=>by
  rw [eV,aB9 N n,vQ,lQ]
  by_cases h1:(setL f g once e u (eU f.shape x n) P N).1=true
  ·rw [if_pos h1,if_pos h1,Option.bind_some]
   by_cases h2:f.shape.fr.getD n 0=x
   ·rw [if_pos h2,if_pos h2]
    cases hs:dX f g once e u (setL f g once e u (eU f.shape x n) P N).2.1 n with
    |none=>rw [gL hs,if_neg (by simp)]
    |some Q=>rw [gM hs,setL,if_pos rfl]
   ·rw [if_neg h2,if_neg h2,setL,if_pos rfl]
  ·rw [if_neg h1,if_neg h1,Option.bind_none,if_neg h1]
theorem aIB (N:List (Int×Int)):gP f g once x e u P=if(setL f g once e u (eU f.shape x f.shape.fr.length) P N).1=true then some (setL f g once e u (eU f.shape x f.shape.fr.length) P N).2.1 else none:=aB9 N _
def jK (P:List (List Int)) (N:List (Int×Int)):List (List Int):=N.foldl (fun P p=>pset P p.1.toNat p.2.toNat (-1)) P
theorem aIu {P:List (List Int)} {y i:Nat} {k:Int} (h:pv P y i= -1) (hy:y<P.length) (hi:i<(P.getD y []).length):pset (pset P y i k) y i (-1)=P:=by
 unfold pset
 have e1:(P.set y ((P.getD y []).set i k)).getD y []=(P.getD y []).set i k:=by
  rw [List.getD_eq_getElem?_getD,List.getElem?_set_self hy];rfl
 rw [e1,List.set_set,List.set_set]
 have e2:(P.getD y []).set i (-1)=P.getD y []:=by
  rw [←h]
  apply List.ext_getElem?
  intro n
  rw [List.getElem?_set]
  split
  ·rename_i hn
   subst hn
   unfold pv
   rw [List.getD_eq_getElem?_getD (l:=P.getD y []),List.getElem?_eq_getElem hi]
   rfl
  ·rfl
 rw [e2]
 apply List.ext_getElem?
 intro n
 rw [List.getElem?_set]
 split
 ·rename_i hn
  subst hn
  rw [List.getD_eq_getElem?_getD,List.getElem?_eq_getElem hy]
  rfl
 ·rfl
theorem aIt {P:List (List Int)} {y i z j:Nat} {k l:Int} (h:¬(y=z∧i=j)):pset (pset P y i k) z j l=pset (pset P z j l) y i k:=by
 unfold pset
 by_cases hyz:y=z
 ·subst hyz
  have hij:i≠j:=fun e=>h ⟨rfl,e⟩
  by_cases hy:y<P.length
  ·have e1:∀r:List Int,(P.set y r).getD y []=r:=fun r=>by
    rw [List.getD_eq_getElem?_getD,List.getElem?_set_self hy];rfl
   rw [e1,e1,List.set_set,List.set_set,List.set_comm _ _ hij]
  ·rw [List.set_eq_of_length_le (by simp;omega),List.set_eq_of_length_le (by omega),List.set_eq_of_length_le (by simp;omega),List.set_eq_of_length_le (by omega)]
 ·have e1:∀r:List Int,(P.set y r).getD z []=P.getD z []:=fun r=>by
   rw [List.getD_eq_getElem?_getD,List.getElem?_set_ne hyz,←List.getD_eq_getElem?_getD]
  have e2:∀r:List Int,(P.set z r).getD y []=P.getD y []:=fun r=>by
   rw [List.getD_eq_getElem?_getD,List.getElem?_set_ne (Ne.symm hyz),←List.getD_eq_getElem?_getD]
  rw [e1,e2,List.set_comm _ _ hyz]
theorem aCn (P:List (List Int)) (N:List (Int×Int)) (p:Int×Int):jK P (N++[p])=pset (jK P N) p.1.toNat p.2.toNat (-1):=by
 simp [jK,List.foldl_append]
theorem aCm (y i:Nat):∀(N:List (Int×Int)) (P:List (List Int)),jK (pset P y i (-1)) N=pset (jK P N) y i (-1)
 |[],P=>rfl
 |p::N,P=>by
  show jK (pset (pset P y i (-1)) p.1.toNat p.2.toNat (-1)) N=pset (jK (pset P p.1.toNat p.2.toNat (-1)) N) y i (-1)
  rw [←aCm y i N]
  by_cases h:y=p.1.toNat∧i=p.2.toNat
  ·obtain⟨rfl,rfl⟩:=h;rfl
  ·rw [aIt h]
theorem vT (e u:Nat):∀(l:List Nat) (P:List (List Int)) (N:List (Int×Int)),(∀a,a∈l→f.ty a<P.length∧(f.av a e).toNat<(P.getD (f.ty a) []).length∧0≤g.av a u)→(∀y i,y<P.length→i<(P.getD y []).length→-1≤pv P y i)→
  jK (setL f g once e u l P N).2.1 (setL f g once e u l P N).2.2=jK P N
 |[],P,N,_,_=>rfl
 |a::l,P,N,hl,hr=>by
  obtain⟨h1,h2,h3⟩:=hl a (List.mem_cons_self ..)
  cases hs:dX f g once e u P a with
  |none=>rw [gL hs]
  |some Q=>
   rw [gM hs]
   have hx:=qU hs
   have hs':=hs
   unfold dX at hs
   by_cases h0:0≤pv P (f.ty a) (f.av a e).toNat
   ·rw [if_pos h0]at hs
    split at hs
    ·simp only [Option.some.injEq]at hs
     subst hs
     rw [if_neg (show¬aCW f e P a from fun q=>q h0)]
     exact vT e u l P N (fun b hb=>hl b (List.mem_cons_of_mem _ hb)) hr
    ·cases hs
   ·rw [if_neg h0]at hs
    split at hs
    ·cases hs
    ·simp only [Option.some.injEq]at hs
     subst hs
     rw [if_pos (show aCW f e P a from h0),vT e u l _ _ (fun b hb=>?_) (fun y i hy hi=>?_)]
     ·rw [aCn,←aCm]
      have:=hr _ _ h1 h2
      rw [Int.toNat_natCast,aIu (by omega) h1 h2]
     ·rw [fY,pset_row];exact hl b (List.mem_cons_of_mem _ hb)
     ·rw [fY]at hy;rw [pset_row]at hi
      by_cases hc:y=f.ty a∧i=(f.av a e).toNat
      ·obtain⟨rfl,rfl⟩:=hc
       rw [kD hy hi];omega
      ·rw [fL hc];exact hr y i hy hi
theorem aAr (e u:Nat):∀(l:List Nat) (P:List (List Int)) (N:List (Int×Int)),Ext' P (setL f g once e u l P N).2.1
 |[],P,N=> .refl _
 |a::l,P,N=>by
  cases hs:dX f g once e u P a with
  |none=>rw [gL hs];exact .refl _
  |some Q=>rw [gM hs];exact(qU hs).trans (aAr e u l Q _)
theorem aAt (e u:Nat):∀(l:List Nat) (P:List (List Int)) (N:List (Int×Int)),∀p,p∈(setL f g once e u l P N).2.2→p∈N∨∃a,a∈l∧p=((f.ty a:Int),f.av a e)
 |[],P,N,p,hp=> .inl hp
 |a::l,P,N,p,hp=>by
  cases hs:dX f g once e u P a with
  |none=>rw [gL hs]at hp;exact .inl hp
  |some Q=>
   rw [gM hs]at hp
   rcases aAt e u l Q _ p hp with h|⟨b,h1,h2⟩
   ·split at h
    ·rcases List.mem_append.1 h with h|h
     ·exact .inl h
     ·exact .inr ⟨a,List.mem_cons_self ..,List.mem_singleton.1 h⟩
    ·exact .inl h
   ·exact .inr ⟨b,List.mem_cons_of_mem _ h1,h2⟩
theorem aAs (e u:Nat):∀(l:List Nat) (P:List (List Int)) (N:List (Int×Int)),(setL f g once e u l P N).2.2.length≤N.length+l.length
 |[],P,N=>Nat.le_refl _
 |a::l,P,N=>by
  cases hs:dX f g once e u P a with
  |none=>rw [gL hs];simp only [List.length_cons];omega
  |some Q=>
   rw [gM hs]
   refine Nat.le_trans (aAs e u l Q _) ?_
   split
   ·simp only [List.length_append,List.length_cons,List.length_nil];omega
   ·simp only [List.length_cons];omega
end Go.Cats
end
section
namespace Go.Cats
def yC (l:List Int):Nat→Int
 |0=>0
 |n+1=>yC l n+l.getD n 0
theorem aIQ (l:List Int):yC l 0=0:=rfl
theorem wD (l:List Int) (n:Nat):yC l (n+1)=yC l n+l.getD n 0:=rfl
theorem aA5 {l:List Int} {m:Int} (h:Within l (m+1)):∀n,n≤l.length→0≤yC l n∧yC l n≤m*n
 |0,_=>by simp [yC]
 |n+1,hn=>by
  have h1:=aA5 h n (by omega)
  have h2:=h n (by omega)
  have e:m*((n+1:Nat):Int)=m*n+m:=by rw [Int.natCast_succ,Int.mul_add,Int.mul_one]
  rw [wD,e]
  omega
def SF.elems (f:SF):Int:=yC f.sizes f.sizes.length
theorem IsSF.sum_le {f:SF} (h:IsSF f) {n:Nat} (hn:n≤f.sizes.length):0≤yC f.sizes n∧yC f.sizes n≤128:=by
 have h1:=aA5 (m:=16) h.szw n hn
 have h2:=h.szl
 have h3:=h.cat.ob8
 omega
def dD (l:List Int):List (List Int):=l.map fun n=>List.replicate n.toNat (-1)
theorem qM (l:List Int):(dD l).length=l.length:=by simp [dD]
theorem aBW (l:List Int) (y:Nat):(dD l).getD y []=List.replicate (l.getD y 0).toNat (-1):=by
 unfold dD
 rw [List.getD_eq_getElem?_getD,List.getElem?_map,List.getD_eq_getElem?_getD]
 cases l[y]? with
 |none=>rfl
 |some v=>rfl
theorem sD {l:List Int} {i:Nat} (h:i<l.length):dD (l.take (i+1))=dD (l.take i)++[List.replicate (l.getD i 0).toNat (-1)]:=by
 unfold dD
 rw [List.take_add_one,List.map_append,List.getElem?_eq_getElem h,List.getD_eq_getElem?_getD,List.getElem?_eq_getElem h]
 rfl
theorem aAd (l:List Int) {y i:Nat} (h:i<((dD l).getD y []).length):pv (dD l) y i= -1:=by
 unfold pv
 rw [aBW]at h⊢
 rw [List.length_replicate]at h
 rw [List.getD_eq_getElem?_getD,List.getElem?_replicate,if_pos h]
 rfl
theorem iM {f g:SF} (once:Bool) (h:SPair f g):Good f g once (dD f.sizes):=by
 have hl:=qM f.sizes
 refine⟨hl,fun y hy=>?_,fun y i hy hi=>?_,fun a i ha hi h0=>?_,fun _ y i j hy hi hj h0=>?_⟩
 ·rw [aBW,List.length_replicate]
  have:=h.src.szw y (by omega)
  omega
 ·rw [aAd _ hi]
  have h1:f.shape.ob=g.shape.ob:=by rw [h.one]
  have h2:=h.src.szl
  have h3:=h.tgt.szl
  have:=h.tgt.szw y (by omega)
  omega
 ·rw [aAd _ hi]at h0;omega
 ·rw [aAd _ hi]at h0;omega
def SCo (f g:SF) (c:Int):Prop:=(¬(IsSF f∧IsSF g)∧c=1)∨((IsSF f∧IsSF g)∧f.shape≠g.shape∧c=5)∨((IsSF f∧IsSF g)∧f.shape=g.shape∧c=0)
def LCo (f g:SF) (c:Int):Prop:=(¬(IsSF f∧IsSF g)∧c=1)∨((IsSF f∧IsSF g)∧f.shape≠g.shape∧c=5)∨((IsSF f∧IsSF g)∧f.shape=g.shape∧12<f.elems∧c=3)∨((IsSF f∧IsSF g)∧f.shape=g.shape∧f.elems≤12∧c=0)
theorem aK1 (n:Nat) (k:Int):List.replicate n k++[k]=List.replicate (n+1) k:=by rw [List.replicate_succ']
theorem aK0 {i n:Nat} (k:Int) (h:i<n):(List.replicate i k++List.replicate (n-i) 0).set i k=List.replicate (i+1) k++List.replicate (n-(i+1)) 0:=by
 have e:n-i=(n-(i+1))+1:=by omega
 rw [e,List.replicate_succ,List.set_append_right _ _ (by simp),List.length_replicate,Nat.sub_self,List.set_cons_zero,List.replicate_succ',List.append_assoc]
 rfl
theorem aKv {c:Cat} {x n:Nat} (h:c.fr.getD n 0=x):eU c x (n+1)=eU c x n++[n]:=by rw [vQ,if_pos h]
theorem aMW {c:Cat} {x n:Nat} (h:¬c.fr.getD n 0=x):eU c x (n+1)=eU c x n:=by rw [vQ,if_neg h,List.append_nil]
theorem aEu (c:Cat) (x n:Nat):(eU c x n).length≤n:=by
 have:=List.length_filter_le (fun a=>decide (c.fr.getD a 0=x)) (List.range n)
 rw [List.length_range]at this
 exact this
theorem aG6 {c:Cat} {x n a:Nat} (h:a∈eU c x n):a<n∧c.fr.getD a 0=x:=by
 unfold eU at h
 simpa [List.mem_filter]using h
def gZ (c:Cat) (x n:Nat):List Int:=(eU c x n).map fun a:Nat=>(a:Int)
theorem aKu {c:Cat} {x n:Nat} (h:c.fr.getD n 0=x):gZ c x (n+1)=gZ c x n++[(n:Int)]:=by unfold gZ;rw [aKv h,List.map_append];rfl
theorem aMV {c:Cat} {x n:Nat} (h:¬c.fr.getD n 0=x):gZ c x (n+1)=gZ c x n:=by unfold gZ;rw [aMW h]
theorem aIl (c:Cat) (x:Nat):gZ c x 0=[]:=rfl
theorem aEt (c:Cat) (x n:Nat):(gZ c x n).length≤n:=by unfold gZ;rw [List.length_map];exact aEu c x n
theorem aGV {l:List Int} {n:Int} {i:Nat} (hi:i<l.length) (h:l.getD i 0=n):n∈l:=by
 rw [←h,List.getD_eq_getElem?_getD,List.getElem?_eq_getElem hi];exact List.getElem_mem hi
theorem aEc {l:List Int} {n:Int} {i:Nat} (h:∀j,j<i→¬l.getD j 0=n) (hi:l.length≤i):¬n∈l:=by
 intro hm
 obtain⟨j,hj,e⟩:=List.getElem_of_mem hm
 refine h j (by omega) ?_
 rw [List.getD_eq_getElem?_getD,List.getElem?_eq_getElem hj];exact e
end Go.Cats
end
section
namespace Go.Cats
section
variable (f g:SF) (once:Bool)
def rA (x e u:Nat) (P:List (List Int)) (N:List (Int×Int)) (j:Nat):Bool×List (List Int)×List (Int×Int):=setL f g once e u ((eU f.shape x f.shape.fr.length).take j) P N
def pM (x e u:Nat) (P:List (List Int)) (N:List (Int×Int)):Bool×List (List Int)×List (Int×Int):=setL f g once e u (eU f.shape x f.shape.fr.length) P N
abbrev eY (x e u:Nat) (P:List (List Int)) (N:List (Int×Int)) (j:Nat):List (List Int):=(rA f g once x e u P N j).2.1
abbrev gN (x e u:Nat) (P:List (List Int)) (N:List (Int×Int)) (j:Nat):List (Int×Int):=(rA f g once x e u P N j).2.2
end
variable {f g:SF} {once:Bool} {x e u j a:Nat} {P Q:List (List Int)} {N:List (Int×Int)}
theorem aCb:eY f g once x e u P N 0=P:=rfl
theorem aAv:gN f g once x e u P N 0=N:=rfl
def aY (f:SF) (x j:Nat):Nat:=(eU f.shape x f.shape.fr.length).getD j 0
theorem aGz (f:SF) (x j:Nat):(gZ f.shape x f.shape.fr.length).getD j 0=aY f x j:=by
 unfold gZ aY
 rw [List.getD_eq_getElem?_getD,List.getElem?_map,List.getD_eq_getElem?_getD]
 cases (eU f.shape x f.shape.fr.length)[j]? <;>rfl
theorem kB (c:Cat) (x n:Nat):(gZ c x n).length=(eU c x n).length:=by simp [gZ]
theorem aI7 (h:j<(gZ f.shape x f.shape.fr.length).length):aY f x j<f.shape.fr.length∧f.shape.fr.getD (aY f x j) 0=x:=by
 rw [kB]at h
 refine aG6 (n:=f.shape.fr.length) ?_
 unfold aY
 rw [List.getD_eq_getElem?_getD,List.getElem?_eq_getElem h]
 exact List.getElem_mem h
theorem aF4 {l:List Nat} (h:(setL f g once e u l P N).1=true) (hs:dX f g once e u (setL f g once e u l P N).2.1 a=none) (m:List Nat):setL f g once e u (l++a::m) P N=(false,(setL f g once e u l P N).2.1,(setL f g once e u l P N).2.2):=by
 rw [lQ,if_pos h,gL hs]
theorem aGo {l:List Nat} (h:j<l.length):l=l.take j++l.getD j 0::l.drop (j+1):=by
 rw [List.getD_eq_getElem?_getD,List.getElem?_eq_getElem h,Option.getD_some,←List.drop_eq_getElem_cons h,List.take_append_drop]
theorem aCd (hj:j<(gZ f.shape x f.shape.fr.length).length) (h:(rA f g once x e u P N j).1=true) (hs:dX f g once e u (eY f g once x e u P N j) (aY f x j)=none):pM f g once x e u P N=(false,eY f g once x e u P N j,gN f g once x e u P N j):=by
 rw [kB]at hj
 unfold pM
 rw [aGo hj]
 exact aF4 h hs _
theorem aCc (hj:j<(gZ f.shape x f.shape.fr.length).length) (h:(rA f g once x e u P N j).1=true) (hs:dX f g once e u (eY f g once x e u P N j) (aY f x j)=some Q):
  rA f g once x e u P N (j+1)=(true,Q,if aCW f e (eY f g once x e u P N j) (aY f x j)then gN f g once x e u P N j++[((f.ty (aY f x j):Int),f.av (aY f x j) e)]else gN f g once x e u P N j):=by
 rw [kB]at hj
 unfold rA
 have e1:(eU f.shape x f.shape.fr.length).take (j+1)=(eU f.shape x f.shape.fr.length).take j++[aY f x j]:=by
  unfold aY
  rw [List.take_add_one,List.getD_eq_getElem?_getD,List.getElem?_eq_getElem hj];rfl
 rw [e1,lQ]
 rw [show(setL f g once e u ((eU f.shape x f.shape.fr.length).take j) P N).1=true from h,if_pos rfl]
 exact(gM hs).trans (by rw [setL];rfl)
theorem aEO (hj:(gZ f.shape x f.shape.fr.length).length≤j):rA f g once x e u P N j=pM f g once x e u P N:=by
 rw [kB]at hj
 unfold rA pM
 rw [List.take_of_length_le hj]
variable {y i k:Int}
theorem aHs (hj:j<(gZ f.shape x f.shape.fr.length).length) (h:(rA f g once x e u P N j).1=true) (h0:0≤pv (eY f g once x e u P N j) (f.ty (aY f x j)) (f.av (aY f x j) e).toNat) (h1:¬pv (eY f g once x e u P N j) (f.ty (aY f x j)) (f.av (aY f x j) e).toNat=g.av (aY f x j) u):
  pM f g once x e u P N=(false,eY f g once x e u P N j,gN f g once x e u P N j):=aCd hj h (by unfold dX;rw [if_pos h0,if_neg h1])
theorem aHt (hj:j<(gZ f.shape x f.shape.fr.length).length) (h:(rA f g once x e u P N j).1=true) (h0:0≤pv (eY f g once x e u P N j) (f.ty (aY f x j)) (f.av (aY f x j) e).toNat) (h1:pv (eY f g once x e u P N j) (f.ty (aY f x j)) (f.av (aY f x j) e).toNat=g.av (aY f x j) u):
  rA f g once x e u P N (j+1)=(true,eY f g once x e u P N j,gN f g once x e u P N j):=by
 rw [aCc hj h (Q:=eY f g once x e u P N j) (by unfold dX;rw [if_pos h0,if_pos h1]),if_neg (show¬aCW f e _ _ from fun q=>q h0)]
theorem aNg (hj:j<(gZ f.shape x f.shape.fr.length).length) (h:(rA f g once x e u P N j).1=true) (h0:¬0≤pv (eY f g once x e u P N j) (f.ty (aY f x j)) (f.av (aY f x j) e).toNat) (ho:once=true) (h1:g.av (aY f x j) u∈(eY f g once x e u P N j).getD (f.ty (aY f x j)) []):
  pM f g once x e u P N=(false,eY f g once x e u P N j,gN f g once x e u P N j):=aCd hj h (by unfold dX;rw [if_neg h0,if_pos ⟨ho,h1⟩])
theorem aHu (hj:j<(gZ f.shape x f.shape.fr.length).length) (h:(rA f g once x e u P N j).1=true) (h0:¬0≤pv (eY f g once x e u P N j) (f.ty (aY f x j)) (f.av (aY f x j) e).toNat) (h1:¬(once=true∧g.av (aY f x j) u∈(eY f g once x e u P N j).getD (f.ty (aY f x j)) [])):
  rA f g once x e u P N (j+1)=(true,pset (eY f g once x e u P N j) (f.ty (aY f x j)) (f.av (aY f x j) e).toNat (g.av (aY f x j) u),gN f g once x e u P N j++[((f.ty (aY f x j):Int),f.av (aY f x j) e)]):=by
 rw [aCc hj h (Q:=pset (eY f g once x e u P N j) (f.ty (aY f x j)) (f.av (aY f x j) e).toNat (g.av (aY f x j) u)) (by unfold dX;rw [if_neg h0,if_neg h1]),if_pos (show aCW f e _ _ from h0)]
theorem aCe (h:SPair f g) (hP:P.length=f.sizes.length) (hR:∀y,y<P.length→((P.getD y []).length:Int)=f.sizes.getD y 0) (he:(e:Int)<f.sizes.getD x 0) (hu:(u:Int)<g.sizes.getD x 0) (once:Bool) (N:List (Int×Int)) (j:Nat) (hj:j<(gZ f.shape x f.shape.fr.length).length):
  (aY f x j<f.shape.fr.length∧aY f x j<f.shape.to.length∧aY f x j<f.acts.length∧aY f x j<g.acts.length)∧
  (0≤f.shape.to.getD (aY f x j) 0∧(f.shape.to.getD (aY f x j) 0).toNat<(eY f g once x e u P N j).length)∧
  (e<(f.acts.getD (aY f x j) []).length∧u<(g.acts.getD (aY f x j) []).length)∧
  (0≤(f.acts.getD (aY f x j) []).getD e 0∧((f.acts.getD (aY f x j) []).getD e 0).toNat<((eY f g once x e u P N j).getD (f.shape.to.getD (aY f x j) 0).toNat []).length)∧
  (((eY f g once x e u P N j).getD (f.shape.to.getD (aY f x j) 0).toNat []).length≤16∧(eY f g once x e u P N j).length≤8∧(gN f g once x e u P N j).length≤N.length+40∧(gZ f.shape x f.shape.fr.length).length≤40):=by
 obtain⟨a1,a2⟩:=aI7 hj
 obtain⟨b1,b2,b3,b4⟩:=h.ft a1
 have ex:f.fx (aY f x j)=x:=by omega
 have fa:=h.fa a1 (e:=e) (by rw [ex];exact he)
 have xt:=aAr (f:=f) (g:=g) (once:=once) e u ((eU f.shape x f.shape.fr.length).take j) P N
 have xl:P.length=(eY f g once x e u P N j).length:=xt.1
 have xr:∀y,(P.getD y []).length=((eY f g once x e u P N j).getD y []).length:=xt.2.1
 have ctl:=h.src.cat.tol
 have acl:=h.src.acl
 have acg:g.acts.length=f.shape.fr.length:=by rw [h.tgt.acl,h.one]
 have r1:=h.src.act _ (by rw [acl];exact a1)
 have r2:=h.tgt.act _ (by rw [acg];exact a1)
 rw [←h.one,a2,Int.toNat_natCast]at r2
 rw [a2,Int.toNat_natCast]at r1
 have w:=h.src.szw _ b2
 have hr:=hR (f.ty (aY f x j)) (by rw [hP];exact b2)
 have hx:=xr (f.ty (aY f x j))
 have t2:=h.src.szl
 have t3:=h.src.cat.ob8
 have t4:=h.src.cat.m40
 have ll:=aAs (f:=f) (g:=g) (once:=once) e u ((eU f.shape x f.shape.fr.length).take j) P N
 have l2:(gN f g once x e u P N j).length≤N.length+((eU f.shape x f.shape.fr.length).take j).length:=ll
 have l3:=aEu f.shape x f.shape.fr.length
 have l4:=List.length_take_le j (eU f.shape x f.shape.fr.length)
 have l5:=List.length_take_le' j (eU f.shape x f.shape.fr.length)
 rw [kB]
 simp only [SF.ty,SF.av]at *
 refine⟨⟨a1,?_,?_,?_⟩,⟨?_,?_⟩,⟨?_,?_⟩,⟨fa.1,?_⟩,?_,?_,?_,?_⟩
 all_goals omega
end Go.Cats
end
section
namespace Go.Cats
section
variable (f g:SF) (once:Bool)
def cP (x e u:Nat) (P:List (List Int)) (a:Nat):List (List Int):=(eV f g once x e u P a).getD P
end
variable {f g:SF} {once:Bool} {x e u a:Nat} {P Q:List (List Int)}
theorem aIw:cP f g once x e u P 0=P:=rfl
theorem aCa (h:eV f g once x e u P a=none):∀b,eV f g once x e u P (a+b)=none
 |0=>h
 |b+1=>by rw [←Nat.add_assoc,eV,aCa h b];rfl
theorem aB5 (h:eV f g once x e u P a=some (cP f g once x e u P a)) (ha:a<f.shape.fr.length) (hx:f.shape.fr.getD a 0=x) (hs:dX f g once e u (cP f g once x e u P a) a=none):gP f g once x e u P=none:=by
 have h1:eV f g once x e u P (a+1)=none:=by rw [eV,h,Option.bind_some,if_pos hx,hs]
 have h2:=aCa h1 (f.shape.fr.length-(a+1))
 rw [show a+1+(f.shape.fr.length-(a+1))=f.shape.fr.length by omega]at h2
 exact h2
theorem qO (h:eV f g once x e u P a=some (cP f g once x e u P a)) (hx:¬f.shape.fr.getD a 0=x):eV f g once x e u P (a+1)=some (cP f g once x e u P (a+1))∧cP f g once x e u P (a+1)=cP f g once x e u P a:=by
 have h1:eV f g once x e u P (a+1)=some (cP f g once x e u P a):=by rw [eV,h,Option.bind_some,if_neg hx]
 have h2:cP f g once x e u P (a+1)=cP f g once x e u P a:=by rw [cP,h1];rfl
 rw [h2];exact⟨h1,rfl⟩
theorem aB4 (h:eV f g once x e u P a=some (cP f g once x e u P a)) (hx:f.shape.fr.getD a 0=x) (hs:dX f g once e u (cP f g once x e u P a) a=some Q):eV f g once x e u P (a+1)=some (cP f g once x e u P (a+1))∧cP f g once x e u P (a+1)=Q:=by
 have h1:eV f g once x e u P (a+1)=some Q:=by rw [eV,h,Option.bind_some,if_pos hx,hs]
 have h2:cP f g once x e u P (a+1)=Q:=by rw [cP,h1];rfl
 rw [h2];exact⟨h1,rfl⟩
theorem tZ (h:eV f g once x e u P a=some (cP f g once x e u P a)) (ha:a=f.shape.fr.length):gP f g once x e u P=some (cP f g once x e u P a):=by subst ha;exact h
theorem aM7 {y i:Nat} {k:Int} (h:pv P y i=k) (hy:y<P.length) (hi:i<(P.getD y []).length):pset P y i k=P:=by
 unfold pset
 have e2:(P.getD y []).set i k=P.getD y []:=by
  rw [←h]
  apply List.ext_getElem?
  intro n
  rw [List.getElem?_set]
  split
  ·rename_i hn
   subst hn
   unfold pv
   rw [List.getD_eq_getElem?_getD (l:=P.getD y []),List.getElem?_eq_getElem hi]
   simp [hi]
  ·rfl
 rw [e2]
 apply List.ext_getElem?
 intro n
 rw [List.getElem?_set]
 split
 ·rename_i hn
  subst hn
  rw [List.getD_eq_getElem?_getD,List.getElem?_eq_getElem hy]
  simp [hy]
 ·rfl
theorem qP (h:SPair f g) (hP:P.length=f.sizes.length) (hR:∀y,y<P.length→((P.getD y []).length:Int)=f.sizes.getD y 0) (he:(e:Int)<f.sizes.getD x 0) (hu:(u:Int)<g.sizes.getD x 0) (hn:eV f g once x e u P a=some (cP f g once x e u P a)) (ha:a<f.shape.fr.length) (hx:f.shape.fr.getD a 0=x):
  (a<f.shape.to.length∧a<f.acts.length∧a<g.acts.length)∧
  (0≤f.shape.to.getD a 0∧(f.shape.to.getD a 0).toNat<(cP f g once x e u P a).length)∧
  (e<(f.acts.getD a []).length∧u<(g.acts.getD a []).length)∧
  (0≤(f.acts.getD a []).getD e 0∧((f.acts.getD a []).getD e 0).toNat<((cP f g once x e u P a).getD (f.shape.to.getD a 0).toNat []).length)∧
  (((cP f g once x e u P a).getD (f.shape.to.getD a 0).toNat []).length≤16∧(cP f g once x e u P a).length≤8):=by
 obtain⟨b1,b2,b3,b4⟩:=h.ft ha
 have ex:f.fx a=x:=by omega
 have fa:=h.fa ha (e:=e) (by rw [ex];exact he)
 have xt:=aAu a _ hn
 have xl:=xt.1
 have xr:=xt.2.1
 have ctl:=h.src.cat.tol
 have acl:=h.src.acl
 have acg:g.acts.length=f.shape.fr.length:=by rw [h.tgt.acl,h.one]
 have r1:=h.src.act _ (by rw [acl];exact ha)
 have r2:=h.tgt.act _ (by rw [acg];exact ha)
 rw [←h.one,hx,Int.toNat_natCast]at r2
 rw [hx,Int.toNat_natCast]at r1
 have w:=h.src.szw _ b2
 have hr:=hR (f.ty a) (by rw [hP];exact b2)
 have hx':=xr (f.ty a)
 have t2:=h.src.szl
 have t3:=h.src.cat.ob8
 simp only [SF.ty,SF.av]at *
 refine⟨⟨?_,?_,?_⟩,⟨?_,?_⟩,⟨?_,?_⟩,⟨fa.1,?_⟩,?_,?_⟩
 all_goals omega
section
variable (h:eV f g once x e u P a=some (cP f g once x e u P a)) (ha:a<f.shape.fr.length) (hx:f.shape.fr.getD a 0=x)
include h ha hx
theorem aHf (h0:0≤((cP f g once x e u P a).getD (f.shape.to.getD a 0).toNat []).getD ((f.acts.getD a []).getD e 0).toNat 0) (h1:¬((cP f g once x e u P a).getD (f.shape.to.getD a 0).toNat []).getD ((f.acts.getD a []).getD e 0).toNat 0=(g.acts.getD a []).getD u 0):gP f g once x e u P=none:=
 aB5 h ha hx ((if_pos h0).trans (if_neg h1))
theorem aKW (h0:((cP f g once x e u P a).getD (f.shape.to.getD a 0).toNat []).getD ((f.acts.getD a []).getD e 0).toNat 0<0) (ho:once=true) (h1:(g.acts.getD a []).getD u 0∈(cP f g once x e u P a).getD (f.shape.to.getD a 0).toNat []):gP f g once x e u P=none:=
 aB5 h ha hx ((if_neg (Int.not_le.2 h0)).trans (if_pos ⟨ho,h1⟩))
theorem yN (h1:((cP f g once x e u P a).getD (f.shape.to.getD a 0).toNat []).getD ((f.acts.getD a []).getD e 0).toNat 0=(g.acts.getD a []).getD u 0) (h0:0≤((cP f g once x e u P a).getD (f.shape.to.getD a 0).toNat []).getD ((f.acts.getD a []).getD e 0).toNat 0)
  (h2:(f.shape.to.getD a 0).toNat<(cP f g once x e u P a).length) (h3:((f.acts.getD a []).getD e 0).toNat<((cP f g once x e u P a).getD (f.shape.to.getD a 0).toNat []).length):
  eV f g once x e u P (a+1)=some (cP f g once x e u P (a+1))∧cP f g once x e u P (a+1)=(cP f g once x e u P a).set (f.shape.to.getD a 0).toNat (((cP f g once x e u P a).getD (f.shape.to.getD a 0).toNat []).set ((f.acts.getD a []).getD e 0).toNat ((g.acts.getD a []).getD u 0)):=by
 obtain⟨k1,k2⟩:=aB4 h hx (Q:=cP f g once x e u P a) ((if_pos h0).trans (if_pos h1))
 exact⟨k1,k2.trans (aM7 h1 h2 h3).symm⟩
theorem uA (h0:((cP f g once x e u P a).getD (f.shape.to.getD a 0).toNat []).getD ((f.acts.getD a []).getD e 0).toNat 0<0) (h1:¬(once=true∧(g.acts.getD a []).getD u 0∈(cP f g once x e u P a).getD (f.shape.to.getD a 0).toNat [])):
  eV f g once x e u P (a+1)=some (cP f g once x e u P (a+1))∧cP f g once x e u P (a+1)=(cP f g once x e u P a).set (f.shape.to.getD a 0).toNat (((cP f g once x e u P a).getD (f.shape.to.getD a 0).toNat []).set ((f.acts.getD a []).getD e 0).toNat ((g.acts.getD a []).getD u 0)):=
 aB4 h hx (Q:=pset (cP f g once x e u P a) (f.shape.to.getD a 0).toNat ((f.acts.getD a []).getD e 0).toNat ((g.acts.getD a []).getD u 0)) ((if_neg (Int.not_le.2 h0)).trans (if_neg h1))
end
end Go.Cats
end
section
namespace Go.Cats
section
variable (f g:SF) (once:Bool)
def chN (x e:Nat) (P:List (List Int)) (n:Nat):List Nat:=(List.range n).filter fun u=>(gP f g once x e u P).isSome
def chI (x e:Nat) (P:List (List Int)) (n:Nat):List Int:=(chN f g once x e P n).map fun u:Nat=>(u:Int)
end
variable {f g:SF} {once:Bool} {x e n:Nat} {P Q:List (List Int)}
theorem aJo:chI f g once x e P 0=[]:=rfl
theorem aGJ (h:gP f g once x e n P=some Q):chI f g once x e P (n+1)=chI f g once x e P n++[(n:Int)]:=by
 unfold chI chN
 rw [List.range_succ,List.filter_append,List.filter_cons_of_pos (by rw [h];rfl),List.filter_nil,List.map_append]
 rfl
theorem aJm (h:gP f g once x e n P=none):chI f g once x e P (n+1)=chI f g once x e P n:=by
 unfold chI chN
 rw [List.range_succ,List.filter_append,List.filter_cons_of_neg (by rw [h];simp),List.filter_nil,List.append_nil]
theorem aGI (f g:SF) (once:Bool) (x e:Nat) (P:List (List Int)) (n:Nat):(chI f g once x e P n).length≤n:=by
 unfold chI chN
 rw [List.length_map]
 have:=List.length_filter_le (fun u=>(gP f g once x e u P).isSome) (List.range n)
 rw [List.length_range]at this
 exact this
theorem aJn (h:(chI f g once x e P n).length=0):∀u:Nat,u<n→gP f g once x e u P=none:=by
 intro u hu
 unfold chI at h
 rw [List.length_map]at h
 have h1:=List.length_eq_zero_iff.1 h
 unfold chN at h1
 rw [List.filter_eq_nil_iff]at h1
 have h2:=h1 u (List.mem_range.2 hu)
 cases hs:gP f g once x e u P with
 |none=>rfl
 |some Q=>rw [hs]at h2;simp at h2
end Go.Cats
end
section
namespace Go.Cats
section
variable (f g:SF) (once:Bool)
def below (n x e:Nat) (P:List (List Int)) (u:Nat):List (List (List Int)):=match gP f g once x e u P with
 |none=>[]
 |some Q=>dfs f g once n Q
def bQ (n x e:Nat) (P:List (List Int)) (u:Nat):List (List (List Int)):=(List.range u).flatMap (below f g once n x e P)
end
variable {f g:SF} {once:Bool} {n x e u:Nat} {P Q:List (List Int)}
theorem gJ:bQ f g once n x e P (u+1)=bQ f g once n x e P u++below f g once n x e P u:=by
 unfold bQ
 rw [List.range_succ,List.flatMap_append]
 simp
theorem kG (h:gP f g once x e u P=none):below f g once n x e P u=[]:=by unfold below;rw [h]
theorem kH (h:gP f g once x e u P=some Q):below f g once n x e P u=dfs f g once n Q:=by unfold below;rw [h]
theorem pD (h:fuP P=none):dfs f g once (n+1) P=[P]:=by unfold dfs;rw [h]
theorem pF (h:fuP P=some (x,e)):dfs f g once (n+1) P=bQ f g once n x e P (g.sizes.getD x 0).toNat:=by
 rw [dfs,h]
 rfl
theorem take_take (A B C:List (List (List Int))) (k:Nat):((A++B).take k++C).take k=(A++(B++C)).take k:=by
 rw [←List.append_assoc,List.take_append,List.take_append (l₁:=A++B),List.take_take,Nat.min_self,List.length_take]
 by_cases h:k≤(A++B).length
 ·rw [Nat.min_eq_left h,Nat.sub_self,Nat.sub_eq_zero_of_le h]
 ·rw [Nat.min_eq_right (by omega)]
end Go.Cats
end
section
namespace Go.Cats
def suf {α:Type} (n:Nat) (p:Nat→Option α):Nat→Option α
 |0=>none
 |k+1=>(p (n-1-k)).or (suf n p k)
theorem aLF {α:Type} {n:Nat} {p:Nat→Option α}:suf n p 0=none:=rfl
theorem aA4 {α:Type} {n k:Nat} {p:Nat→Option α}:suf n p (k+1)=(p (n-1-k)).or (suf n p k):=rfl
theorem aFb {α:Type} {n:Nat} {p:Nat→Option α}:∀k,k≤n→aV n p=(aV (n-k) p).or (suf n p k)
 |0,_=>by rw [aLF,Nat.sub_zero];cases aV n p<;>rfl
 |k+1,hk=>by
  rw [aFb k (by omega),aA4,show n-k=(n-1-k)+1 by omega,gK,show n-(k+1)=n-1-k by omega,Option.or_assoc]
theorem aHz {α:Type} {n:Nat} {p:Nat→Option α}:suf n p n=aV n p:=by
 rw [aFb n (Nat.le_refl n),Nat.sub_self,aIz];rfl
def pX:Option (Nat×Nat)→Int|none=> -1|some q=>q.1
def pE:Option (Nat×Nat)→Int|none=> -1|some q=>q.2
def bkR (P:List (List Int)) (i:Nat):Option (Nat×Nat):=suf P.length (fuR P) i
def bkI (P:List (List Int)) (i j:Nat):Option (Nat×Nat):=(suf (P.getD (P.length-1-i) []).length (fuI P (P.length-1-i)) j).or (bkR P i)
theorem aJf {P:List (List Int)}:bkR P 0=none:=rfl
theorem aGD {P:List (List Int)}:bkR P P.length=fuP P:=aHz
theorem aJe {P:List (List Int)} {i:Nat}:bkI P i 0=bkR P i:=rfl
theorem aGC {P:List (List Int)} {i j:Nat} (h:pv P (P.length-1-i) ((P.getD (P.length-1-i) []).length-1-j)<0):bkI P i (j+1)=some (P.length-1-i,(P.getD (P.length-1-i) []).length-1-j):=by
 unfold bkI
 rw [aA4,show fuI P _ _=some _ from if_pos h]
 rfl
theorem aDJ {P:List (List Int)} {i j:Nat} (h:¬pv P (P.length-1-i) ((P.getD (P.length-1-i) []).length-1-j)<0):bkI P i (j+1)=bkI P i j:=by
 unfold bkI
 rw [aA4,show fuI P _ _=none from if_neg h]
 rfl
theorem aGB {P:List (List Int)} {i:Nat}:bkI P i (P.getD (P.length-1-i) []).length=bkR P (i+1):=by
 unfold bkI
 rw [aHz]
 rfl
section
variable (f g:SF) (once:Bool)
def jI (n x e:Nat) (P:List (List Int)) (C:List Int):List (List (List Int)):=C.flatMap fun u=>below f g once n x e P u.toNat
end
variable {f g:SF} {once:Bool} {n x e u:Nat} {P Q:List (List Int)}
theorem aDF {C:List Int}:jI f g once n x e P (C.take 0)=[]:=by rw [List.take_zero];rfl
theorem aDE {C:List Int} {k:Nat} (h:k<C.length):jI f g once n x e P (C.take (k+1))=jI f g once n x e P (C.take k)++below f g once n x e P (C.getD k 0).toNat:=by
 unfold jI
 rw [List.take_add_one,List.flatMap_append,List.getD_eq_getElem?_getD,List.getElem?_eq_getElem h]
 simp
theorem aBA:∀K:Nat,jI f g once n x e P (chI f g once x e P K)=bQ f g once n x e P K
 |0=>rfl
 |K+1=>by
  rw [gJ,←aBA K]
  cases hs:gP f g once x e K P with
  |none=>rw [aJm hs,kG hs,List.append_nil]
  |some Q=>
   rw [aGJ hs]
   unfold jI
   rw [List.flatMap_append]
   simp
theorem aL4 {K k:Nat} (h:k<(chI f g once x e P K).length):∃u:Nat,u<K∧(chI f g once x e P K).getD k 0=u∧∃Q,gP f g once x e u P=some Q:=by
 have h1:(chI f g once x e P K).getD k 0∈chI f g once x e P K:=by
  rw [List.getD_eq_getElem?_getD,List.getElem?_eq_getElem h];exact List.getElem_mem h
 unfold chI at h1
 obtain⟨u,hu,e1⟩:=List.mem_map.1 h1
 unfold chN at hu
 obtain⟨h2,h3⟩:=List.mem_filter.1 hu
 refine⟨u,List.mem_range.1 h2,e1.symm,?_⟩
 cases hs:gP f g once x e u P with
 |none=>rw [hs]at h3;simp at h3
 |some Q=>exact⟨Q,rfl⟩
theorem aIU (A B:List (List (List Int))) {k:Nat} (h:¬(A.take k).length<k):(A++B).take k=A.take k:=by
 rw [List.length_take]at h
 rw [List.take_append,show k-A.length=0 by omega,List.take_zero,List.append_nil]
theorem aGY (hr:∀i,i<(P.getD x []).length→-1≤pv P x i):∀k,k≤(P.getD x []).length→aV k (jH (P.getD x []) (-1))=(aV k (fuI P x)).map fun q=>(q.2:Int)
 |0,_=>rfl
 |k+1,hk=>by
  rw [gK,gK,aGY hr k (by omega)]
  cases hs:aV k (fuI P x)with
  |some q=>rfl
  |none=>
   have:=hr k (by omega)
   unfold fuI jH
   by_cases h:pv P x k<0
   ·rw [if_pos h,if_pos (show(P.getD x []).getD k 0= -1 from by unfold pv at h this;omega)];rfl
   ·rw [if_neg h,if_neg (show¬(P.getD x []).getD k 0= -1 from by unfold pv at h;omega)];rfl
theorem aMG (hr:∀i,i<(P.getD x []).length→-1≤pv P x i):idxOf (P.getD x []) (-1)=pE (fuR P x):=by
 unfold idxOf fuR
 rw [aGY hr _ (Nat.le_refl _)]
 cases aV _ (fuI P x)<;>rfl
theorem aMx {y:Nat} {q:Nat×Nat} (h:fuR P y=some q):q.1=y∧q.2<(P.getD y []).length∧pv P y q.2<0:=by
 obtain⟨j,hj,h2⟩:=bN h
 obtain⟨h3,h4⟩:=aD8 h2
 subst h3
 exact⟨rfl,hj,h4⟩
end Go.Cats
end
section
namespace Go.Cats
/-! ### Results, taken up one by one -/
section
variable {α β:Type} (s:α→β→Bool×α)
def eat:α→List β→Bool×α
 |o,[]=>(true,o)
 |o,q::D=>if(s o q).1=true then eat (s o q).2 D else(false,(s o q).2)
end
section
variable {α β:Type} {s:α→β→Bool×α} {o:α} {D E:List β} {q:β}
theorem aGP:eat s o []=(true,o):=rfl
theorem xA (h:(s o q).1=true):eat s o (q::D)=eat s (s o q).2 D:=by rw [eat];exact if_pos h
theorem aBF (h:(s o q).1=false):eat s o (q::D)=(false,(s o q).2):=by rw [eat];exact if_neg (by rw [h];simp)
theorem aGQ:eat s o [q]=s o q:=by
 cases h:(s o q).1 with
 |true=>rw [xA h,aGP,←h]
 |false=>rw [aBF h,←h]
theorem aFB:∀{D:List β} {o:α},(eat s o D).1=true→eat s o (D++E)=eat s (eat s o D).2 E
 |[],o,_=>rfl
 |q::D,o,h=>by
  cases hq:(s o q).1 with
  |true=>
   rw [xA hq]at h
   rw [List.cons_append,xA hq,xA hq,aFB h]
  |false=>rw [aBF hq]at h;cases h
theorem zK:∀{D:List β} {o:α},(eat s o D).1=false→eat s o (D++E)=eat s o D
 |[],o,h=>by cases h
 |q::D,o,h=>by
  cases hq:(s o q).1 with
  |true=>
   rw [xA hq]at h
   rw [List.cons_append,xA hq,xA hq,zK h]
  |false=>rw [List.cons_append,aBF hq,aBF hq]
end
def stA (o:List (List Int)) (q:List (List Int)):Bool×List (List Int):=(false,q)
def stB (M:Nat) (o:List (List (List Int))) (q:List (List Int)):Bool×List (List (List Int)):=(decide (o.length+1≤M),o++[q])
theorem aQU (o:List (List Int)) (D:List (List (List Int))):eat stA o D=(D.isEmpty,D.headD o):=by
 cases D with
 |nil=>rfl
 |cons q D=>rw [aBF rfl];rfl
theorem aGO {M:Nat}:∀(D o:List (List (List Int))),o.length≤M→eat (stB M) o D=(decide ((o++D).length≤M),(o++D).take (M+1))
 |[],o,h=>by
  rw [aGP,List.append_nil,List.take_of_length_le (by omega),decide_eq_true h]
 |q::D,o,h=>by
  by_cases h1:o.length+1≤M
  ·rw [xA (decide_eq_true h1),show(stB M o q).2=o++[q] from rfl,aGO D _ (by simp;omega)]
   simp
  ·rw [aBF (decide_eq_false h1),show(stB M o q).2=o++[q] from rfl]
   have e1:o.length=M:=by omega
   have e2:decide ((o++q::D).length≤M)=false:=decide_eq_false (by simp;omega)
   rw [e2,←e1,List.take_append,List.take_of_length_le (by omega),show o.length+1-o.length=1 by omega]
   simp
theorem aJv {M:Nat} {D o:List (List (List Int))} (h:o.length≤M) (h1:(eat (stB M) o D).1=true):(eat (stB M) o D).2.length≤M:=by
 rw [aGO _ _ h]at h1⊢
 simp only [decide_eq_true_eq]at h1
 simp only [List.length_take]
 omega
/-! ### The way back -/
variable {f g:SF} {once:Bool} {x e u n:Nat} {P Q:List (List Int)} {N:List (Int×Int)}
theorem qV {i:Nat} (h:i<N.length):jK Q (N.take (i+1))=(jK Q (N.take i)).set (N.getD i (0,0)).1.toNat (((jK Q (N.take i)).getD (N.getD i (0,0)).1.toNat []).set (N.getD i (0,0)).2.toNat (-1)):=by
 rw [List.take_add_one,List.getElem?_eq_getElem h,List.getD_eq_getElem?_getD,List.getElem?_eq_getElem h]
 simp only [Option.toList_some,Option.getD_some,aCn]
 rfl
theorem nB:∀(N:List (Int×Int)) (Q:List (List Int)),(jK Q N).length=Q.length∧∀y,((jK Q N).getD y []).length=(Q.getD y []).length
 |[],Q=>⟨rfl,fun _=>rfl⟩
 |p::N,Q=>by
  have h:=nB N (pset Q p.1.toNat p.2.toNat (-1))
  refine⟨h.1.trans (fY ..),fun y=>(h.2 y).trans pset_row⟩
structure ChF (f g:SF) (once:Bool) (x e u:Nat) (P Q:List (List Int)) (N:List (Int×Int)) (ok:Bool):Prop where
 len:Q.length=P.length
 row:∀y,(Q.getD y []).length=(P.getD y []).length
 nl:N.length≤4096
 at1:∀i,i<N.length→0≤(N.getD i (0,0)).1∧(N.getD i (0,0)).1.toNat<P.length∧0≤(N.getD i (0,0)).2∧(N.getD i (0,0)).2.toNat<(P.getD (N.getD i (0,0)).1.toNat []).length
 back:jK Q N=P
 yes:ok=true→gP f g once x e u P=some Q
 no:ok=false→gP f g once x e u P=none
theorem aAq (h:SPair f g) (hG:Good f g once P) (hx:x<P.length) (he:e<(P.getD x []).length) (hu:(u:Int)<g.sizes.getD x 0) {ok:Bool} (hA:pM f g once x e u P []=(ok,Q,N)):ChF f g once x e u P Q N ok:=by
 have hl:∀a,a∈eU f.shape x f.shape.fr.length→f.ty a<P.length∧(f.av a e).toNat<(P.getD (f.ty a) []).length∧0≤g.av a u∧0≤f.av a e:=fun a ha=>by
  obtain⟨a1,a2⟩:=aG6 ha
  obtain⟨b1,b2,b3,b4⟩:=h.ft a1
  have e1:f.fx a=x:=by unfold SF.fx;rw [a2];simp
  have r1:=hG.row x hx
  have r2:=hG.len
  have fa:=h.fa (e:=e) a1 (by rw [e1];omega)
  have ga:=h.ga (u:=u) a1 (by rw [e1];exact hu)
  have r3:=hG.row (f.ty a) (by omega)
  exact⟨by omega,by omega,ga.1,fa.1⟩
 have hx1:=aAr (f:=f) (g:=g) (once:=once) e u (eU f.shape x f.shape.fr.length) P []
 have hn:=aAt (f:=f) (g:=g) (once:=once) e u (eU f.shape x f.shape.fr.length) P []
 have hle:=aAs (f:=f) (g:=g) (once:=once) e u (eU f.shape x f.shape.fr.length) P []
 have hb:=vT (f:=f) (g:=g) (once:=once) e u (eU f.shape x f.shape.fr.length) P [] (fun a ha=>⟨(hl a ha).1,(hl a ha).2.1,(hl a ha).2.2.1⟩) (fun y i hy hi=>(hG.rng y i hy hi).1)
 have hs:=aIB (f:=f) (g:=g) (once:=once) (x:=x) (e:=e) (u:=u) (P:=P) []
 have hA':setL f g once e u (eU f.shape x f.shape.fr.length) P []=(ok,Q,N):=hA
 rw [hA']at hx1 hn hle hb hs
 simp only at hx1 hn hle hb hs
 have c40:=h.src.cat.m40
 refine⟨hx1.1.symm,fun y=>(hx1.2.1 y).symm,?_,fun i hi=>?_,hb,fun q=>by rw [hs,if_pos q],fun q=>by rw [hs,if_neg (by rw [q];simp)]⟩
 ·have:=aEt f.shape x f.shape.fr.length
  rw [kB]at this
  simp only [List.length_nil]at hle
  omega
 ·have hm:N.getD i (0,0)∈N:=by rw [List.getD_eq_getElem?_getD,List.getElem?_eq_getElem hi];exact List.getElem_mem hi
  rcases hn _ hm with h0|⟨a,ha,e1⟩
  ·cases h0
  ·rw [e1]
   have:=hl a ha
   refine⟨Int.natCast_nonneg _,this.1,this.2.2.2,this.2.1⟩
/-! ### The program's rows -/
theorem yR (hG:Good f g once P) {i:Nat} (hi:i<P.length):idxOf (P.getD i []) (-1)=pE (fuR P i):=aMG fun j hj=>(hG.rng i j hi hj).1
theorem aHl {i:Nat} (hi:i<P.length) (h:aV i (fuR P)=none) {q:Nat×Nat} (hr:fuR P i=some q):fuP P=some (i,q.2)∧q.2<(P.getD i []).length:=by
 obtain⟨a,b,c⟩:=aMx hr
 refine⟨?_,b⟩
 have:fuP P=some q:=dM hi h hr
 rw [this,←a]
theorem sX {K:Nat} (h:u<K):∃R,bQ f g once n x e P K=bQ f g once n x e P (u+1)++R:=by
 induction K with
 |zero=>omega
 |succ K ih=>
  by_cases hu:u=K
  ·subst hu;exact⟨[],(List.append_nil _).symm⟩
  ·obtain⟨R,hR⟩:=ih (by omega)
   exact⟨R++below f g once n x e P K,by rw [gJ,hR,List.append_assoc]⟩
theorem aDG (h:SPair f g) (hG:Good f g once P) (hf:fuP P=some (x,e)) (hn:nu P<n+1) (hu:(u:Int)<g.sizes.getD x 0) (hs:gP f g once x e u P=some Q):Good f g once Q∧nu Q<n∧below f g once n x e P u=dfs f g once n Q:=by
 obtain⟨p1,p2,p3⟩:=pH hf
 obtain⟨g1,g2,g3⟩:=mT h hG p1 p2 hu hs
 have:=aFU g2 p1 p2 p3 (by rw [g3];omega)
 exact⟨g1,by omega,kH hs⟩
end Go.Cats
end
section
namespace Go.Cats
def aCV:List Nat→List (List Int)
 |[]=>[[]]
 |s::S=>(List.range s).flatMap fun v:Nat=>(aCV S).map fun l=>(v:Int)::l
def oK:List Int→List Int→Bool
 |[],[]=>true
 |a::A,q::Q=>(decide (a<0)||decide (q=a))&&oK A Q
 |_,_=>false
def oN (W:List Int→Bool) (S:List Nat) (A:List Int):List (List Int):=(aCV S).filter fun Q=>oK A Q&&W Q
theorem mem_lexP:∀{S:List Nat} {Q:List Int},Q∈aCV S↔Q.length=S.length∧∀i,i<Q.length→0≤Q.getD i 0∧Q.getD i 0<S.getD i 0
 |[],Q=>by
  simp only [aCV,List.mem_singleton,List.length_nil]
  constructor
  ·rintro rfl;exact⟨rfl,fun i hi=>by simp at hi⟩
  ·rintro⟨h,_⟩;exact List.length_eq_zero_iff.1 h
 |s::S,Q=>by
  simp only [aCV,List.mem_flatMap,List.mem_range,List.mem_map]
  constructor
  ·rintro⟨v,hv,l,hl,rfl⟩
   obtain⟨h1,h2⟩:=mem_lexP.1 hl
   refine⟨by simp [h1],fun i hi=>?_⟩
   cases i with
   |zero=>simpa using hv
   |succ i=>simpa using h2 i (by simpa using hi)
  ·rintro⟨h1,h2⟩
   cases Q with
   |nil=>simp at h1
   |cons q Q=>
    have h0:=h2 0 (by simp)
    simp only [List.getD_cons_zero]at h0
    refine⟨q.toNat,by omega,Q,mem_lexP.2 ⟨by simpa using h1,fun i hi=>by have:=h2 (i+1) (by simp;omega);simpa using this⟩,?_⟩
    rw [Int.toNat_of_nonneg h0.1]
theorem aJB {β:Type} {s:Nat} {a:Int} {g:Nat→List β}:((List.range s).flatMap fun v:Nat=>if(v:Int)=a then g v else [])=if 0≤a∧a<s then g a.toNat else []:=by
 induction s with
 |zero=>rw [if_neg (by omega)];rfl
 |succ s ih=>
  rw [List.range_succ,List.flatMap_append,ih,List.flatMap_cons,List.flatMap_nil,List.append_nil]
  by_cases h:(s:Int)=a
  ·subst h
   rw [if_neg (by omega),if_pos rfl,if_pos (by omega),List.nil_append,Int.toNat_natCast]
  ·rw [if_neg h,List.append_nil]
   by_cases h1:0≤a∧a<s
   ·rw [if_pos h1,if_pos (by omega)]
   ·rw [if_neg h1,if_neg (by omega)]
theorem aHY {W:List Int→Bool} {s:Nat} {S:List Nat} {a:Int} {A:List Int}:
  oN W (s::S) (a::A)=(List.range s).flatMap fun v:Nat=>if a<0∨(v:Int)=a then(oN (fun Q=>W ((v:Int)::Q)) S A).map fun l=>(v:Int)::l else []:=by
 unfold oN
 rw [aCV,List.filter_flatMap]
 congr 1
 funext v
 rw [List.filter_map]
 by_cases h:a<0∨(v:Int)=a
 ·rw [if_pos h]
  congr 1
  refine List.filter_congr fun Q _=>?_
  have:(decide (a<0)||decide ((v:Int)=a))=true:=by simpa using h
  simp only [Function.comp,oK,this,Bool.true_and]
 ·rw [if_neg h]
  have:(decide (a<0)||decide ((v:Int)=a))=false:=by simpa using h
  have e:((fun Q=>oK (a::A) Q&&W Q)∘fun l=>(v:Int)::l)=fun _=>false:=by
   funext Q
   simp only [Function.comp,oK,this,Bool.false_and]
  rw [e]
  simp
theorem aJx {W:List Int→Bool} {s:Nat} {S:List Nat} {a:Int} {A:List Int} (h:0≤a):oN W (s::S) (a::A)=if a<s then(oN (fun Q=>W (a::Q)) S A).map fun l=>a::l else []:=by
 rw [aHY]
 have:(fun v:Nat=>if a<0∨(v:Int)=a then(oN (fun Q=>W ((v:Int)::Q)) S A).map (fun l=>(v:Int)::l)else [])=fun v:Nat=>if(v:Int)=a then(oN (fun Q=>W ((v:Int)::Q)) S A).map (fun l=>(v:Int)::l)else []:=by
  funext v
  by_cases h1:(v:Int)=a
  ·rw [if_pos (.inr h1),if_pos h1]
  ·rw [if_neg (by omega),if_neg h1]
 rw [this,aJB]
 by_cases h1:a<s
 ·rw [if_pos ⟨h,h1⟩,if_pos h1,Int.toNat_of_nonneg h]
 ·rw [if_neg (by omega),if_neg h1]
theorem aBO:∀{W:List Int→Bool} {S:List Nat} {A:List Int},A.length=S.length→(∀j,j<A.length→0≤A.getD j 0∧A.getD j 0<S.getD j 0)→oN W S A=if W A=true then [A]else []
 |W,[],A,hl,_=>by
  have:A=[]:=List.length_eq_zero_iff.1 hl
  subst this
  cases h:W []<;>simp [oN,aCV,oK,h]
 |W,s::S,[],hl,_=>by simp at hl
 |W,s::S,a::A,hl,h=>by
  have h0:=h 0 (by simp)
  simp only [List.getD_cons_zero]at h0
  rw [aJx h0.1,if_pos h0.2,aBO (by simpa using hl) (fun j hj=>by have:=h (j+1) (by simp;omega);simpa using this)]
  split<;>simp_all
end Go.Cats
end
section
namespace Go.Cats
structure Rule where
 fr:Int
 to:Int
 by_:List Int
instance:Inhabited Rule:=⟨⟨0,0,[]⟩⟩
def yS (rs:List Rule) (i:Nat):List Rule:=rs.filter fun r=>decide (r.fr=i)
def okW (rs:List Rule) (Q:List Int):Bool:=rs.all fun r=>decide (Q.getD r.to.toNat 0=r.by_.getD (Q.getD r.fr.toNat 0).toNat 0)
structure RulesW (S:List Nat) (rs:List Rule):Prop where
 fr:∀r∈rs,0≤r.fr∧r.fr<S.length
 to:∀r∈rs,0≤r.to∧r.to<S.length
 len:∀r∈rs,r.by_.length=S.getD r.fr.toNat 0
 val:∀r∈rs,∀e:Nat,e<S.getD r.fr.toNat 0→0≤r.by_.getD e 0∧r.by_.getD e 0<S.getD r.to.toNat 0
theorem xE {rs:List Rule} {i:Nat} {r:Rule} (h:r∈yS rs i):r∈rs∧r.fr=i:=by
 unfold yS at h
 simpa [List.mem_filter]using h
abbrev St:=Bool×List Int×List Int
section
variable {f:Nat→Int→List Int→List Int→St} {e:Int} {r:Rule} {l m:List Rule} {A B C N Q:List Int} {rs:List Rule} {S:List Nat} {n i:Nat}
def XtL (A B:List Int):Prop:=A.length=B.length∧∀j,j<A.length→0≤A.getD j 0→B.getD j 0=A.getD j 0
theorem XtL.refl (A:List Int):XtL A A:=⟨rfl,fun _ _ _=>rfl⟩
theorem XtL.trans (h:XtL A B) (k:XtL B C):XtL A C:=⟨h.1.trans k.1,fun j hj h0=>by
 have e1:=h.2 j hj h0
 rw [k.2 j (by rw [←h.1];exact hj) (by rw [e1];exact h0),e1]⟩
def uns (A:List Int):Nat:=(A.filter fun v=>decide (v<0)).length
theorem XtL.uns (h:XtL A B):uns B≤uns A:=yE h.1 h.2
theorem XtL.uns_lt (h:XtL A B) {j:Nat} (hj:j<A.length) (h0:A.getD j 0<0) (h1:0≤B.getD j 0):Cats.uns B<Cats.uns A:=aCN h.1 h.2 j hj h0 h1
theorem kV {i j:Nat} {k:Int} (hi:i<A.length):(A.set i k).getD j 0=if j=i then k else A.getD j 0:=by
 rw [List.getD_eq_getElem?_getD,List.getElem?_set]
 by_cases h:j=i
 ·subst h;rw [if_pos rfl,if_pos hi,if_pos rfl];rfl
 ·rw [if_neg (fun q=>h q.symm),if_neg h,List.getD_eq_getElem?_getD]
theorem XtL.set (hi:i<A.length) (h:¬0≤A.getD i 0):XtL A (A.set i e):=⟨by simp,fun j hj h0=>by
 rw [kV hi,if_neg (fun q=>h (by rw [←q];exact h0))]⟩
def RngL (S:List Nat) (A:List Int):Prop:=A.length=S.length∧∀j,j<A.length→-1≤A.getD j 0∧A.getD j 0<S.getD j 0
theorem RngL.set (h:RngL S A) (hi:i<A.length) (he:0≤e∧e<S.getD i 0):RngL S (A.set i e):=⟨by simp [h.1],fun j hj=>by
 rw [kV hi]
 by_cases q:j=i
 ·subst q;rw [if_pos rfl];omega
 ·rw [if_neg q];exact h.2 j (by simpa using hj)⟩
def ClF (rs:List Rule) (A B:List Int):Prop:=∀j,j<A.length→A.getD j 0<0→0≤B.getD j 0→∀r∈yS rs j,B.getD r.to.toNat 0=r.by_.getD (B.getD j 0).toNat 0
theorem ClF.refl (A:List Int):ClF rs A A:=fun j _ h0 h1=>by omega
theorem ClF.trans (hw:RulesW S rs) (hB:RngL S B) (h:ClF rs A B) (x:XtL A B) (y:XtL B C) (k:ClF rs B C):ClF rs A C:=fun j hj h0 h1 r hr=>by
 by_cases hb:0≤B.getD j 0
 ·have e1:=h j hj h0 hb r hr
  have e2:=y.2 j (by rw [←x.1];exact hj) hb
  obtain⟨m1,m2⟩:=xE hr
  have b1:=hB.2 j (by rw [←x.1];exact hj)
  have t1:=hw.to r m1
  have v1:=hw.val r m1 (B.getD j 0).toNat (by rw [m2];simp only [Int.toNat_natCast];omega)
  have e3:=y.2 r.to.toNat (by have:=hB.1;omega) (by rw [e1];exact v1.1)
  rw [e3,e2,e1]
 ·exact k j (by rw [←x.1];exact hj) (by omega) h1 r hr
def aLK (A N:List Int):List Int:=N.foldl (fun A k=>A.set k.toNat (-1)) A
structure Fct (S:List Nat) (A N:List Int) (t:St):Prop where
 ext:XtL A t.2.1
 rng:RngL S t.2.1
 und:aLK t.2.1 t.2.2=aLK A N
 nts:∀k∈t.2.2,k∈N∨(0≤k∧k.toNat<A.length)
 cnt:t.2.2.length+uns t.2.1≤N.length+uns A
theorem Fct.refl {b:Bool} (h:RngL S A):Fct S A N (b,A,N):=⟨.refl _,h,rfl,fun k hk=> .inl hk,Nat.le_refl _⟩
theorem Fct.trans {t u:St} (h:Fct S A N t) (k:Fct S t.2.1 t.2.2 u):Fct S A N u:=
 ⟨h.ext.trans k.ext,k.rng,k.und.trans h.und,fun x hx=>by
  rcases k.nts x hx with h1|h1
  ·exact h.nts x h1
  ·exact .inr (by rw [h.ext.1];exact h1),Nat.le_trans k.cnt h.cnt⟩
def ClL (rs:List Rule) (A:List Int):Prop:=∀j,j<A.length→0≤A.getD j 0→∀r∈yS rs j,A.getD r.to.toNat 0=r.by_.getD (A.getD j 0).toNat 0
theorem ClL.step (hw:RulesW S rs) (hA:RngL S A) (h:ClL rs A) (x:XtL A B) (k:ClF rs A B):ClL rs B:=fun j hj h0 r hr=>by
 rw [←x.1]at hj
 by_cases q:0≤A.getD j 0
 ·have e1:=h j hj q r hr
  have e2:=x.2 j hj q
  obtain⟨m1,m2⟩:=xE hr
  have b1:=hA.2 j hj
  have t1:=hw.to r m1
  have v1:=hw.val r m1 (A.getD j 0).toNat (by rw [m2];simp only [Int.toNat_natCast];omega)
  rw [x.2 r.to.toNat (by have:=hA.1;omega) (by rw [e1];exact v1.1),e2,e1]
 ·exact k j hj (by omega) h0 r hr
end
end Go.Cats
end
section
namespace Go.Cats
def stL {β:Type} (M:Nat) (o:List β) (q:β):Bool×List β:=(decide (o.length+1≤M),o++[q])
section
variable {f:Nat→Int→List Int→List Int→St} {e:Int} {l:List Rule} {A N:List Int} {k:Nat}
end
structure TryF (rs:List Rule) (S:List Nat) (A:List Int) (i u:Nat) (T:St):Prop where
 len:T.2.1.length=A.length
 nl:T.2.2.length≤A.length
 at1:∀j,j<T.2.2.length→0≤T.2.2.getD j 0∧(T.2.2.getD j 0).toNat<A.length
 back:aLK T.2.1 T.2.2=A
 yes:T.1=true→RngL S T.2.1∧ClL rs T.2.1∧uns T.2.1<uns A∧oN (okW rs) S (A.set i (u:Int))=oN (okW rs) S T.2.1
 no:T.1=false→oN (okW rs) S (A.set i (u:Int))=[]
end Go.Cats
end
section
namespace Go.Cats
abbrev Fs:=Bool×Bool×List Int
abbrev Cat.cp (c:Cat) (a b:Nat):Int:=(c.co.getD a []).getD b 0
section
variable {c d:Cat} {a b m n k:Nat} {s t u:Fs} {O A B Q:List Int} {g:Bool}
structure VA (c d:Cat) (O A:List Int):Prop where
 len:A.length=c.fr.length
 lo:∀f:Nat,f<A.length→-1≤A.getD f 0
 hi:∀f:Nat,f<A.length→0≤A.getD f 0→A.getD f 0<d.fr.length∧d.fr.getD (A.getD f 0).toNat 0=O.getD (c.fr.getD f 0).toNat 0∧d.to.getD (A.getD f 0).toNat 0=O.getD (c.to.getD f 0).toNat 0
theorem tG (hc:Shape c) (ha:a<c.fr.length) (hb:b<c.fr.length) (h0:0≤c.cp a b):c.to.getD a 0=c.fr.getD b 0∧(c.cp a b).toNat<c.fr.length∧c.fr.getD (c.cp a b).toNat 0=c.fr.getD a 0∧c.to.getD (c.cp a b).toNat 0=c.to.getD b 0:=by
 have:=(hc.coe a ha).2 b hb
 unfold Cat.Entry at this
 simp only [Cat.F,Cat.T,Cat.C,Int.toNat_natCast]at this
 rcases this with⟨h1,h2,h3,h4⟩|⟨h1,h2⟩
 ·exact⟨h1,by show((c.co.getD a []).getD b 0).toNat<_;omega,h3,h4⟩
 ·exact absurd h0 (by show¬0≤(c.co.getD a []).getD b 0;omega)
theorem aJr (hd:Shape d) (ha:a<d.fr.length) (hb:b<d.fr.length) (h:d.to.getD a 0=d.fr.getD b 0):0≤d.cp a b∧d.cp a b<d.fr.length∧d.fr.getD (d.cp a b).toNat 0=d.fr.getD a 0∧d.to.getD (d.cp a b).toNat 0=d.to.getD b 0:=by
 have:=(hd.coe a ha).2 b hb
 unfold Cat.Entry at this
 simp only [Cat.F,Cat.T,Cat.C,Int.toNat_natCast]at this
 rcases this with⟨h1,h2,h3,h4⟩|⟨h1,h2⟩
 ·exact⟨h2.1,h2.2,h3,h4⟩
 ·exact absurd h h1
theorem VA.comp (hc:Shape c) (hd:Shape d) (h:VA c d O A) (ha:a<c.fr.length) (hb:b<c.fr.length) (h0:0≤c.cp a b) (a0:0≤A.getD a 0) (b0:0≤A.getD b 0):
  0≤d.C (A.getD a 0) (A.getD b 0)∧d.C (A.getD a 0) (A.getD b 0)<d.fr.length∧d.fr.getD (d.C (A.getD a 0) (A.getD b 0)).toNat 0=O.getD (c.fr.getD (c.cp a b).toNat 0).toNat 0∧d.to.getD (d.C (A.getD a 0) (A.getD b 0)).toNat 0=O.getD (c.to.getD (c.cp a b).toNat 0).toNat 0:=by
 obtain⟨e1,e2,e3,e4⟩:=tG hc ha hb h0
 obtain⟨p1,p2,p3⟩:=h.hi a (by rw [h.len];exact ha) a0
 obtain⟨q1,q2,q3⟩:=h.hi b (by rw [h.len];exact hb) b0
 obtain⟨r1,r2,r3,r4⟩:=aJr hd (a:=(A.getD a 0).toNat) (b:=(A.getD b 0).toNat) (by omega) (by omega) (by rw [p3,q2,e1])
 exact⟨r1,r2,by rw [e3,←p2];exact r3,by rw [e4,←q3];exact r4⟩
theorem VA.set (h:VA c d O A) {i:Nat} {v:Int} (hi:i<A.length) (v0:0≤v) (v1:v<d.fr.length) (v2:d.fr.getD v.toNat 0=O.getD (c.fr.getD i 0).toNat 0) (v3:d.to.getD v.toNat 0=O.getD (c.to.getD i 0).toNat 0):VA c d O (A.set i v):=by
 refine⟨by simp [h.len],fun f hf=>?_,fun f hf=>?_⟩
 ·rw [kV hi]
  by_cases e:f=i
  ·rw [if_pos e];omega
  ·rw [if_neg e];exact h.lo f (by simpa using hf)
 ·rw [kV hi]
  by_cases e:f=i
  ·subst e;rw [if_pos rfl];exact fun _=>⟨v1,v2,v3⟩
  ·rw [if_neg e];exact h.hi f (by simpa using hf)
theorem VA.rng (h:VA c d O A):RngL (List.replicate c.fr.length d.fr.length) A:=⟨by rw [List.length_replicate];exact h.len,fun j hj=>by
 have h1:=h.lo j hj
 have h2:=h.hi j hj
 have h3:=h.len
 have e:(List.replicate c.fr.length d.fr.length).getD j 0=d.fr.length:=by
  rw [List.getD_eq_getElem?_getD,List.getElem?_replicate,if_pos (by omega)];rfl
 rw [e]
 by_cases h0:0≤A.getD j 0
 ·exact⟨h1,(h2 h0).1⟩
 ·exact⟨h1,by omega⟩⟩
def Cmp (c d:Cat) (Q:List Int):Prop:=∀a b:Nat,a<c.fr.length→b<c.fr.length→0≤c.cp a b→Q.getD (c.cp a b).toNat 0=d.C (Q.getD a 0) (Q.getD b 0)
structure Ff (c d:Cat) (O A:List Int) (g:Bool) (t:Fs):Prop where
 va:VA c d O t.2.2
 ext:XtL A t.2.2
 keep:t.2.1=false→g=false∧t.2.2=A
 prog:t.2.1=true→g=true∨uns t.2.2<uns A
 snd:∀Q,Cmp c d Q→oK A Q=true→t.1=true∧oK t.2.2 Q=true
theorem Ff.refl (h:VA c d O A):Ff c d O A g (true,g,A):=⟨h, .refl _,fun e=>⟨e,rfl⟩,fun e=> .inl e,fun _ _ h=>⟨rfl,h⟩⟩
theorem Ff.trans (h:Ff c d O A g t) (k:Ff c d O t.2.2 t.2.1 u):Ff c d O A g u:=by
 refine⟨k.va,h.ext.trans k.ext,fun e=>?_,fun e=>?_,fun Q hq hA=>k.snd Q hq (h.snd Q hq hA).2⟩
 ·obtain⟨e1,e2⟩:=k.keep e
  obtain⟨e3,e4⟩:=h.keep e1
  exact⟨e3,e2.trans e4⟩
 ·have u1:=h.ext.uns
  have u2:=k.ext.uns
  rcases k.prog e with e1|e1
  ·rcases h.prog e1 with e2|e2
   ·exact .inl e2
   ·exact .inr (by omega)
  ·exact .inr (by omega)
def Clo (c d:Cat) (A:List Int) (a b:Nat):Prop:=0≤c.cp a b→0≤A.getD a 0→0≤A.getD b 0→A.getD (c.cp a b).toNat 0=d.C (A.getD a 0) (A.getD b 0)
structure Fo (c d:Cat) (O A:List Int) (t:Bool×List Int):Prop where
 va:VA c d O t.2
 ext:XtL A t.2
 clo:t.1=true→∀a,a<c.fr.length→∀b,b<c.fr.length→Clo c d t.2 a b
 snd:∀Q,Cmp c d Q→oK A Q=true→t.1=true∧oK t.2 Q=true
def NdI (A:List Int):Prop:=∀i j:Nat,i<j→j<A.length→0≤A.getD i 0→A.getD i 0≠A.getD j 0
noncomputable def WA (c d:Cat) (b:Bool) (O Q:List Int):Bool:=dec (Fits ⟨c,d,O,Q⟩∧(b=true→NdI O∧NdI Q))
theorem WA_iff {b:Bool}:WA c d b O Q=true↔Fits ⟨c,d,O,Q⟩∧(b=true→NdI O∧NdI Q):=aGK
theorem Fits.cmp (h:Fits ⟨c,d,O,Q⟩):Cmp c d Q:=fun a b ha hb h0=>by
 have:=h.comp a b ha hb (by simpa only [Cat.C,Int.toNat_natCast]using h0)
 simpa only [Cat.C,Fun.A,Int.toNat_natCast]using this
structure Sp (c d:Cat) (b:Bool) (O A:List Int) (t:Bool×List Int):Prop where
 va:VA c d O t.2
 ext:XtL A t.2
 clo:t.1=true→∀a,a<c.fr.length→∀b,b<c.fr.length→Clo c d t.2 a b
 nd:t.1=true→b=true→NdI t.2
 snd:∀Q,WA c d b O Q=true→oK A Q=true→t.1=true∧oK t.2 Q=true
end
end Go.Cats
end
section
namespace Go.Cats
structure XOK (c d:Cat) (b:Bool) (X:List Int):Prop where
 len:(X.length:Int)=c.ob
 wi:Within X d.ob
 nd:b=true→NdI X
structure NX (c d:Cat) (b:Bool) (X A:List Int):Prop where
 va:VA c d X A
 clo:∀a,a<c.fr.length→∀b,b<c.fr.length→Clo c d A a b
 nd:b=true→NdI A
 un:∀x:Nat,x<c.id.length→A.getD (c.id.getD x 0).toNat 0=d.id.getD (X.getD x 0).toNat 0
abbrev sA (c d:Cat):List Nat:=List.replicate c.fr.length d.fr.length
section
variable {c d:Cat} {b:Bool} {X A Q L:List Int} {i k:Nat} {v:Int} {W:List Int→Bool} {S:List Nat}
theorem NX.leaf (hX:XOK c d b X) (h:NX c d b X A) (hf:∀j,j<A.length→0≤A.getD j 0):oN (WA c d b X) (sA c d) A=[A]:=by
 have hr:=h.va.rng
 rw [aBO hr.1 fun j hj=>⟨hf j hj,(hr.2 j hj).2⟩,if_pos]
 have hl:=h.va.len
 refine WA_iff.2 ⟨⟨hX.len,hl,hX.wi,fun i hi=>⟨hf i hi,(h.va.hi i hi (hf i hi)).1⟩,fun a ha=>?_,fun x hx=>?_,fun a b ha hb h0=>?_⟩,fun e=>⟨hX.nd e,h.nd e⟩⟩
 ·have:=h.va.hi a ha (hf a ha)
  simp only [Cat.F,Cat.T,Fun.O,Int.toNat_natCast]
  exact this.2
 ·have:=h.un x hx
  simp only [Cat.I,Fun.A,Fun.O,Int.toNat_natCast]
  exact this
 ·have h0:0≤c.cp a b:=by simpa only [Cat.C,Int.toNat_natCast]using h0
  have:=h.clo a ha b hb h0 (hf a (by rw [hl];exact ha)) (hf b (by rw [hl];exact hb))
  simp only [Cat.C,Fun.A,Int.toNat_natCast]
  exact this
theorem aMD (h:VA c d X A) (hi:i<A.length) (hv:v∈d.hom (X.getD (c.fr.getD i 0).toNat 0) (X.getD (c.to.getD i 0).toNat 0)):VA c d X (A.set i v):=by
 obtain⟨h1,h2,h3,h4⟩:=Cat.mem_hom.1 hv
 exact h.set hi h1 h2 h3 h4
theorem aNv (hc:Shape c) (hd:Shape d) (hX:XOK c d b X) {x:Nat} (hx:x<c.id.length):0≤X.getD x 0∧(X.getD x 0).toNat<d.id.length∧0≤d.id.getD (X.getD x 0).toNat 0∧d.id.getD (X.getD x 0).toNat 0<d.fr.length∧d.fr.getD (d.id.getD (X.getD x 0).toNat 0).toNat 0=X.getD x 0∧d.to.getD (d.id.getD (X.getD x 0).toNat 0).toNat 0=X.getD x 0:=by
 have h1:=hX.len
 have h2:=hc.idl
 have h3:=hX.wi x (by omega)
 have h4:=hd.idl
 have hx':(X.getD x 0).toNat<d.id.length:=by omega
 have h5:=hd.idw _ hx'
 have h6:=hd.ide _ hx'
 refine⟨h3.1,hx',h5.1,h5.2,?_,?_⟩
 ·have:=h6.1;simp only [Cat.F]at this;rw [this];omega
 ·have:=h6.2;simp only [Cat.T]at this;rw [this];omega
structure TryN (c d:Cat) (b:Bool) (X A:List Int) (E:List (List Int)) (t:Bool×List Int):Prop where
 va:VA c d X t.2
 ext:XtL A t.2
 yes:t.1=true→NX c d b X t.2∧E=oN (WA c d b X) (sA c d) t.2
 no:t.1=false→E=[]
theorem vO:∀{L M:List Int},L.Nodup→(∀x∈L,x∈M)→L.length≤M.length
 |[],M,_,_=>Nat.zero_le _
 |a::L,M,hn,hs=>by
  have ha:=hs a (List.mem_cons_self ..)
  have hn':=List.nodup_cons.1 hn
  have:=vO (L:=L) (M:=M.erase a) hn'.2 fun x hx=>by
   have hne:x≠a:=fun e=>hn'.1 (e▸hx)
   exact(List.mem_erase_of_ne hne).2 (hs x (List.mem_cons_of_mem _ hx))
  rw [List.length_erase_of_mem ha]at this
  have hp:0<M.length:=List.length_pos_of_mem ha
  simp only [List.length_cons]
  omega
end
end Go.Cats
end
section
namespace Go.Cats
section
variable {c d:Cat} {b:Bool} {X A Q L:List Int} {i k:Nat} {v:Int}
end
end Go.Cats
end
section
namespace Go.Cats
def tR:List Int→List Int→Bool
 |[],[]=>false
 |[],_::_=>true
 |_::_,[]=>false
 |a::A,b::B=>if a=b then tR A B else decide (a<b)
section
variable {S R L:List (List Int)} {x:List Int} {k:Nat}
end
end Go.Cats
end
section
namespace Go.Cats
structure IsoQ (c d:Cat) (O Q:List Int):Prop where
 hc:IsCat c
 hd:IsCat d
 fit:Fits ⟨c,d,O,Q⟩
 no:NdI O
 nq:NdI Q
 ob:c.ob=d.ob
 ar:c.fr.length=d.fr.length
section
variable {c d:Cat} {O Q A B cc dd:List Int} {f g:Nat}
theorem NdI.inj (h:NdI A) (h0:∀i,i<A.length→0≤A.getD i 0) {i j:Nat} (hi:i<A.length) (hj:j<A.length) (e:A.getD i 0=A.getD j 0):i=j:=by
 rcases Nat.lt_trichotomy i j with q|q|q
 ·exact absurd e (h i j q hj (h0 i hi))
 ·exact q
 ·exact absurd e.symm (h j i q hi (h0 j hj))
theorem IsoQ.len (h:IsoQ c d O Q):Q.length=c.fr.length:=h.fit.arl
theorem IsoQ.rng (h:IsoQ c d O Q) (hf:f<c.fr.length):0≤Q.getD f 0∧Q.getD f 0<d.fr.length:=h.fit.arw f (by show f<Q.length;rw [h.len];exact hf)
theorem IsoQ.nat (h:IsoQ c d O Q) (hf:f<c.fr.length):(Q.getD f 0).toNat<d.fr.length:=by have:=h.rng hf;omega
theorem IsoQ.inj (h:IsoQ c d O Q) (hf:f<c.fr.length) (hg:g<c.fr.length) (e:Q.getD f 0=Q.getD g 0):f=g:=
 h.nq.inj (fun i hi=>(h.rng (by rw [←h.len];exact hi)).1) (by rw [h.len];exact hf) (by rw [h.len];exact hg) e
theorem IsoQ.perm (h:IsoQ c d O Q):((List.range c.fr.length).map fun f=>(Q.getD f 0).toNat).Perm (List.range d.fr.length):=by
 have hn:((List.range c.fr.length).map fun f=>(Q.getD f 0).toNat).Nodup:=by
  unfold List.Nodup
  rw [List.pairwise_map]
  refine List.Pairwise.imp_of_mem ?_ (List.pairwise_lt_range (n:=c.fr.length))
  intro a b ha hb hab e
  have ha:=List.mem_range.1 ha
  have hb:=List.mem_range.1 hb
  have h1:=h.rng ha
  have h2:=h.rng hb
  have:=h.inj ha hb (by omega)
  omega
 have hs:∀x∈(List.range c.fr.length).map fun f=>(Q.getD f 0).toNat,x∈List.range d.fr.length:=fun x hx=>by
  obtain⟨f,hf,rfl⟩:=List.mem_map.1 hx
  exact List.mem_range.2 (h.nat (List.mem_range.1 hf))
 rw [List.perm_ext_iff_of_nodup hn List.nodup_range]
 intro x
 refine⟨hs x,fun hx=>Classical.byContradiction fun hno=>?_⟩
 have hsub:∀y∈(List.range c.fr.length).map fun f=>(Q.getD f 0).toNat,y∈(List.range d.fr.length).erase x:=fun y hy=>by
  have hne:y≠x:=fun e=>hno (e▸hy)
  exact(List.mem_erase_of_ne hne).2 (hs y hy)
 have h1:=List.Nodup.length_le_of_subset hn hsub
 rw [List.length_map,List.length_range,List.length_erase_of_mem hx,List.length_range]at h1
 have h2:=List.mem_range.1 hx
 have h3:=h.ar
 omega
theorem IsoQ.surj (h:IsoQ c d O Q) {g:Nat} (hg:g<d.fr.length):∃f,f<c.fr.length∧Q.getD f 0=g:=by
 have:=(h.perm.mem_iff (a:=g)).2 (List.mem_range.2 hg)
 obtain⟨f,hf,e⟩:=List.mem_map.1 this
 have hf:=List.mem_range.1 hf
 exact⟨f,hf,by have:=h.rng hf;omega⟩
theorem IsoQ.fr (h:IsoQ c d O Q) (hf:f<c.fr.length):d.fr.getD (Q.getD f 0).toNat 0=O.getD (c.fr.getD f 0).toNat 0∧d.to.getD (Q.getD f 0).toNat 0=O.getD (c.to.getD f 0).toNat 0:=by
 have:=h.fit.endf f (by show f<Q.length;rw [h.len];exact hf)
 simpa only [Cat.F,Cat.T,Fun.O,Int.toNat_natCast]using this
theorem IsoQ.oinj (h:IsoQ c d O Q) {p q:Int} (hp:0≤p∧p<c.ob) (hq:0≤q∧q<c.ob) (e:O.getD p.toNat 0=O.getD q.toNat 0):p=q:=by
 have hl:(O.length:Int)=c.ob:=h.fit.obl
 have:=h.no.inj (fun i hi=>(h.fit.obw i hi).1) (by omega:p.toNat<O.length) (by omega:q.toNat<O.length) e
 omega
theorem IsoQ.cp (h:IsoQ c d O Q) (hf:f<c.fr.length) (hg:g<c.fr.length):(0≤c.cp f g↔0≤d.cp (Q.getD f 0).toNat (Q.getD g 0).toNat)∧(0≤c.cp f g→(c.cp f g).toNat<c.fr.length∧d.cp (Q.getD f 0).toNat (Q.getD g 0).toNat=Q.getD (c.cp f g).toNat 0):=by
 have key:0≤c.cp f g→(c.cp f g).toNat<c.fr.length∧d.cp (Q.getD f 0).toNat (Q.getD g 0).toNat=Q.getD (c.cp f g).toNat 0:=fun h0=>by
  have:=h.fit.cmp f g hf hg h0
  exact⟨(tG h.hc.toShape hf hg h0).2.1,this.symm⟩
 refine⟨⟨fun h0=>?_,fun h0=>?_⟩,key⟩
 ·obtain⟨k1,k2⟩:=key h0
  rw [k2];exact(h.rng k1).1
 ·have e:=(tG h.hd.toShape (h.nat hf) (h.nat hg) h0).1
  rw [(h.fr hf).2,(h.fr hg).1]at e
  have:=h.oinj (by have:=h.hc.tow f (by rw [h.hc.tol];exact hf);exact this) (h.hc.frw g hg) e
  exact h.hc.toShape.comp_nn hf hg this
theorem IsoQ.hom (h:IsoQ c d O Q) {p q:Int} (hp:0≤p∧p<c.ob) (hq:0≤q∧q<c.ob):(c.hom p q).length=(d.hom (O.getD p.toNat 0) (O.getD q.toNat 0)).length:=by
 have hmap:∀f∈c.hom p q,Q.getD f.toNat 0∈d.hom (O.getD p.toNat 0) (O.getD q.toNat 0):=fun f hf=>by
  obtain⟨h1,h2,h3,h4⟩:=Cat.mem_hom.1 hf
  have hf':f.toNat<c.fr.length:=by omega
  have e:=h.fr hf'
  have r:=h.rng hf'
  have h3:c.fr.getD f.toNat 0=p:=h3
  have h4:c.to.getD f.toNat 0=q:=h4
  rw [h3,h4]at e
  exact Cat.mem_hom.2 ⟨r.1,r.2,e.1,e.2⟩
 refine Nat.le_antisymm ?_ ?_
 ·have e:((c.hom p q).map fun g=>Q.getD g.toNat 0).length=(c.hom p q).length:=List.length_map ..
  rw [←e]
  refine vO ?_ fun x hx=>?_
  ·unfold List.Nodup
   rw [List.pairwise_map]
   refine List.Pairwise.imp_of_mem ?_ (Cat.hom_nodup c p q)
   intro g g' hg hg' hne e
   obtain⟨g1,g2,g3,g4⟩:=Cat.mem_hom.1 hg
   obtain⟨k1,k2,k3,k4⟩:=Cat.mem_hom.1 hg'
   have:=h.inj (by omega) (by omega) e
   exact hne (by omega)
  ·obtain⟨g,hg,rfl⟩:=List.mem_map.1 hx
   exact hmap g hg
 ·have e:((c.hom p q).map fun g=>Q.getD g.toNat 0).length=(c.hom p q).length:=List.length_map ..
  rw [←e]
  refine vO (Cat.hom_nodup _ _ _) fun x hx=>?_
  obtain⟨h1,h2,h3,h4⟩:=Cat.mem_hom.1 hx
  obtain⟨f,hf,e⟩:=h.surj (g:=x.toNat) (by omega)
  have k:=h.fr hf
  rw [e,Int.toNat_natCast]at k
  have h3:d.fr.getD x.toNat 0=O.getD p.toNat 0:=h3
  have h4:d.to.getD x.toNat 0=O.getD q.toNat 0:=h4
  rw [h3,h4]at k
  have e1:=h.oinj hp (h.hc.frw f hf) k.1
  have e2:=h.oinj hq (by have:=h.hc.tow f (by rw [h.hc.tol];exact hf);exact this) k.2
  refine List.mem_map.2 ⟨(f:Int),Cat.mem_hom.2 ⟨by omega,by omega,?_,?_⟩,?_⟩
  ·show c.fr.getD (f:Int).toNat 0=p;rw [Int.toNat_natCast];exact e1.symm
  ·show c.to.getD (f:Int).toNat 0=q;rw [Int.toNat_natCast];exact e2.symm
  ·rw [Int.toNat_natCast,e];omega
theorem aFF {L:List (List Int)} (h:L.Nodup) {i:Nat} (hi:i<L.length):fnd L (L.getD i [])=i:=by
 obtain⟨j,h1,h2,h3⟩:=aCP (cD (d:=[]) hi)
 rw [h3]
 have:j=i:=by
  rw [List.getD_eq_getElem?_getD,List.getD_eq_getElem?_getD,List.getElem?_eq_getElem h1,List.getElem?_eq_getElem hi,Option.getD_some,Option.getD_some]at h2
  unfold List.Nodup at h
  rw [List.pairwise_iff_getElem]at h
  rcases Nat.lt_trichotomy j i with q|q|q
  ·exact absurd h2 (h j i h1 hi q)
  ·exact q
  ·exact absurd h2.symm (h i j hi h1 q)
 omega
end
end Go.Cats
end
section
namespace Go.Cats
abbrev Ps:=List Int×List Int
open Classical in
section
variable {f:Ps→Ps} {c d:Cat} {b:Bool} {x y r:Nat} {s:Ps} {P A:List Int}
end
end Go.Cats
end
section
namespace Go.Cats
def aVt (c d:Cat) (A:List Int) (f:Nat):Prop:=
 (∀g,g<c.fr.length→0≤A.getD g 0→(0≤c.cp f g→0≤A.getD (c.cp f g).toNat 0→d.C (A.getD f 0) (A.getD g 0)=A.getD (c.cp f g).toNat 0)∧(0≤c.cp g f→0≤A.getD (c.cp g f).toNat 0→d.C (A.getD g 0) (A.getD f 0)=A.getD (c.cp g f).toNat 0))∧
 ∀g,g<c.fr.length→∀h,h<c.fr.length→0≤A.getD g 0→0≤A.getD h 0→c.cp g h=f→d.C (A.getD g 0) (A.getD h 0)=A.getD f 0
structure NY (c d:Cat) (X A:List Int):Prop where
 va:VA c d X A
 clw:∀a,a<c.fr.length→∀b,b<c.fr.length→0≤c.cp a b→0≤A.getD a 0→0≤A.getD b 0→0≤A.getD (c.cp a b).toNat 0→A.getD (c.cp a b).toNat 0=d.C (A.getD a 0) (A.getD b 0)
 nd:NdI A
 un:∀x:Nat,x<c.id.length→A.getD (c.id.getD x 0).toNat 0=d.id.getD (X.getD x 0).toNat 0
section
variable {c d:Cat} {X P A Q O:List Int} {i:Nat} {v:Int}
theorem NY.nx (hc:Shape c) (h:NY c d X A) (hf:∀j,j<A.length→0≤A.getD j 0):NX c d true X A:=
 ⟨h.va,fun a ha b hb h0 a0 b0=>h.clw a ha b hb h0 a0 b0 (hf _ (by rw [h.va.len];exact(tG hc ha hb h0).2.1)),fun _=>h.nd,h.un⟩
theorem NY.leaf (hc:Shape c) (hX:XOK c d true X) (h:NY c d X A) (hf:∀j,j<A.length→0≤A.getD j 0):oN (WA c d true X) (sA c d) A=[A]:=(h.nx hc hf).leaf hX hf
theorem NY.set (hc:Shape c) (hd:Shape d) (hX:XOK c d true X) (h:NY c d X A) (hi:i<A.length) (h1:A.getD i 0= -1) (hv:v∈d.hom (X.getD (c.fr.getD i 0).toNat 0) (X.getD (c.to.getD i 0).toNat 0)) (hn:v∉A) (hf:aVt c d (A.set i v) i):
  NY c d X (A.set i v)∧uns (A.set i v)<uns A:=by
 have hl:=h.va.len
 have v0:=(Cat.mem_hom.1 hv).1
 have hg:∀j,(A.set i v).getD j 0=if j=i then v else A.getD j 0:=fun j=>kV hi
 refine⟨⟨aMD h.va hi hv,fun a ha b hb c0 a0 b0 k0=>?_,fun p q hpq hq p0=>?_,fun x hx=>?_⟩,?_⟩
 ·by_cases ea:a=i
  ·subst ea;exact((hf.1 b hb b0).1 c0 k0).symm
  ·by_cases eb:b=i
   ·subst eb;exact((hf.1 a ha a0).2 c0 k0).symm
   ·by_cases ec:(c.cp a b).toNat=i
    ·rw [ec];exact(hf.2 a ha b hb a0 b0 (by omega)).symm
    ·have ga:(A.set i v).getD a 0=A.getD a 0:=by rw [hg,if_neg ea]
     have gb:(A.set i v).getD b 0=A.getD b 0:=by rw [hg,if_neg eb]
     have gc:(A.set i v).getD (c.cp a b).toNat 0=A.getD (c.cp a b).toNat 0:=by rw [hg,if_neg ec]
     rw [ga]at a0⊢
     rw [gb]at b0⊢
     rw [gc]at k0⊢
     exact h.clw a ha b hb c0 a0 b0 k0
 ·rw [List.length_set]at hq
  rw [hg]at p0
  rw [hg,hg]
  by_cases ep:p=i
  ·rw [if_pos ep,if_neg (by omega)]
   exact fun e=>hn (by rw [e];exact cD hq)
  ·rw [if_neg ep]at p0⊢
   by_cases eq:q=i
   ·rw [if_pos eq];exact fun e=>hn (by rw [←e];exact cD (by omega))
   ·rw [if_neg eq];exact h.nd p q hpq hq p0
 ·have k1:=h.un x hx
  have k2:=aNv hc hd hX hx
  rw [hg,if_neg,k1]
  intro e
  rw [e,h1]at k1
  omega
 ·exact(XtL.set (e:=v) hi (by omega)).uns_lt hi (by omega) (by rw [hg,if_pos rfl];exact v0)
end
end Go.Cats
end
section
namespace Go.Cats
structure UF (J:List Int):Prop where
 lo:∀x,x<J.length→0≤J.getD x 0
 hi:∀x,x<J.length→J.getD x 0≤x
section
variable {J:List Int} {x y k:Nat}
theorem tL {l:List Int} {i j:Nat} {v:Int} (hi:i<l.length):(l.set i v).getD j 0=if j=i then v else l.getD j 0:=by
 rw [List.getD_eq_getElem?_getD,List.getD_eq_getElem?_getD]
 by_cases e:j=i
 ·subst e;rw [if_pos rfl,List.getElem?_set_self hi];rfl
 ·rw [if_neg e,List.getElem?_set_ne (fun q=>e q.symm)]
theorem UF.set (h:UF J) (hx:x<J.length) {v:Int} (h0:0≤v) (h1:v≤x):UF (J.set x v):=by
 refine⟨fun y hy=>?_,fun y hy=>?_⟩<;>rw [List.length_set]at hy<;>rw [tL hx]<;>split
 ·exact h0
 ·exact h.lo y hy
 ·rename_i e;rw [e];exact h1
 ·exact h.hi y hy
def hvF:Nat→List Int→Nat→List Int
 |0,J,_=>J
 |k+1,J,x=>if(J.getD x 0).toNat=x then J else hvF k (J.set x (J.getD (J.getD x 0).toNat 0)) (J.getD (J.getD x 0).toNat 0).toNat
def hv (J:List Int) (x:Nat):List Int:=hvF x J x
end
end Go.Cats
end
section
namespace Go.Cats
def nums (n:Nat):List Int:=(List.range n).map fun i:Nat=>(i:Int)
theorem mX:nums 0=[]:=rfl
theorem bR (n:Nat):(nums n).length=n:=by simp [nums]
theorem qL (n:Nat):nums (n+1)=nums n++[(n:Int)]:=by simp [nums,List.range_succ]
theorem jT {n i:Nat} (h:i<n):(nums n).getD i 0=i:=by simp [nums,h]
def oneC:Cat:=⟨1,[0],[0],[0],[[0]]⟩
def aAp (c:Cat):Fun:=⟨c,c,nums c.ob.toNat,nums c.fr.length⟩
def sE (c:Cat) (x:Int):Fun:=⟨oneC,c,[x],[c.I x]⟩
end Go.Cats
end
section
namespace Go.Cats
structure Link where
 i:Int
 j:Int
 left:List Int
 right:List Int
instance:Inhabited Link:=⟨⟨0,0,[],[]⟩⟩
structure LinksW (S:List Nat) (ls:List Link):Prop where
 i:∀l∈ls,0≤l.i∧l.i<S.length
 j:∀l∈ls,0≤l.j∧l.j<S.length
 left:∀l∈ls,l.left.length=S.getD l.i.toNat 0
 right:∀l∈ls,l.right.length=S.getD l.j.toNat 0
def aOY (ls:List Link) (Q:List Int):Bool:=ls.all fun l=>decide (l.left.getD (Q.getD l.i.toNat 0).toNat 0=l.right.getD (Q.getD l.j.toNat 0).toNat 0)
def yI (A:List Int) (n:Nat) (e:Int) (l:Link):Bool:=
 if l.i=n∧l.j=n then decide (l.left.getD e.toNat 0=l.right.getD e.toNat 0)
 else if l.i=n∧0≤A.getD l.j.toNat 0 then decide (l.left.getD e.toNat 0=l.right.getD (A.getD l.j.toNat 0).toNat 0)
 else if l.j=n∧0≤A.getD l.i.toNat 0 then decide (l.left.getD (A.getD l.i.toNat 0).toNat 0=l.right.getD e.toNat 0)
 else true
def atL (ls:List Link) (n:Nat) (m:Nat):List Nat:=(List.range m).filter fun k=>decide ((ls.getD k default).i=n)||decide ((ls.getD k default).j=n)
def aNP (ls:List Link) (A:List Int) (n:Nat) (e:Int):Bool:=(atL ls n ls.length).all fun k=>yI A n e (ls.getD k default)
section
variable {ls:List Link} {S:List Nat} {A B Q:List Int} {n i m:Nat} {e:Int} {l:Link}
theorem aJz (h:aNP ls A n e=true) (hl:l∈ls):yI A n e l=true:=by
 by_cases hn:l.i=n∨l.j=n
 ·obtain⟨k,hk,e1⟩:=List.getElem_of_mem hl
  have hg:ls.getD k default=l:=by rw [List.getD_eq_getElem?_getD,List.getElem?_eq_getElem hk,Option.getD_some,e1]
  have:=List.all_eq_true.1 h k (List.mem_filter.2 ⟨List.mem_range.2 hk,by rw [hg];simpa using hn⟩)
  rwa [hg]at this
 ·unfold yI
  rw [if_neg (fun q=>hn (.inl q.1)),if_neg (fun q=>hn (.inl q.1)),if_neg (fun q=>hn (.inr q.1))]
theorem XtL.setL (hi:i<A.length) (h:A.getD i 0= -1):XtL A (A.set i e):= .set hi (by omega)
def CoL (ls:List Link) (A:List Int):Prop:=∀l∈ls,0≤A.getD l.i.toNat 0→0≤A.getD l.j.toNat 0→l.left.getD (A.getD l.i.toNat 0).toNat 0=l.right.getD (A.getD l.j.toNat 0).toNat 0
theorem CoL.set (hw:LinksW S ls) (hA:A.length=S.length) (hi:i<A.length) (h:CoL ls A) {u:Nat} (hu:aNP ls A i u=true):CoL ls (A.set i (u:Int)):=fun l hl h1 h2=>by
 have hf:=aJz hu hl
 have w1:=hw.i l hl
 have w2:=hw.j l hl
 rw [kV hi]at h1 h2⊢
 rw [kV hi]
 unfold yI at hf
 by_cases c1:l.i.toNat=i
 ·have e1:l.i=i:=by omega
  rw [if_pos c1]
  by_cases c2:l.j.toNat=i
  ·have e2:l.j=i:=by omega
   rw [if_pos c2]
   rw [if_pos ⟨e1,e2⟩]at hf
   simpa using hf
  ·rw [if_neg c2]at h2⊢
   rw [if_neg (fun q=>c2 (by omega)),if_pos ⟨e1,h2⟩]at hf
   simpa using hf
 ·rw [if_neg c1]at h1⊢
  by_cases c2:l.j.toNat=i
  ·have e2:l.j=i:=by omega
   rw [if_pos c2]
   rw [if_neg (fun q=>c1 (by omega)),if_neg (fun q=>c1 (by omega)),if_pos ⟨e2,h1⟩]at hf
   simpa using hf
  ·rw [if_neg c2]at h2⊢
   exact h l hl h1 h2
end
end Go.Cats
end
section
namespace Go.Cats
abbrev Tr:=Nat×Nat×Nat
def aK5 (acts:List (List Int)) (t:Tr):Rule:=⟨t.1,t.2.2,acts.getD t.2.1 []⟩
def aKi (acts:List (List Int)) (S:List Nat) (t:Tr):Link:=⟨t.1,t.2.2,acts.getD t.2.1 [],nums (S.getD t.2.2 0)⟩
structure TrW (S:List Nat) (acts:List (List Int)) (T:List Tr):Prop where
 fr:∀t∈T,t.1<S.length
 to:∀t∈T,t.2.2<S.length
 len:∀t∈T,(acts.getD t.2.1 []).length=S.getD t.1 0
 val:∀t∈T,∀e:Nat,e<S.getD t.1 0→0≤(acts.getD t.2.1 []).getD e 0∧(acts.getD t.2.1 []).getD e 0<S.getD t.2.2 0
 arr:∀t∈T,t.2.1<acts.length
variable {S:List Nat} {acts:List (List Int)} {T:List Tr}
theorem TrW.same (h:TrW S acts T) {Q:List Int} (hQ:Q∈aCV S):aOY (T.map (aKi acts S)) Q=okW (T.map (aK5 acts)) Q:=by
 obtain⟨q1,q2⟩:=mem_lexP.1 hQ
 unfold aOY okW
 rw [List.all_map,List.all_map]
 refine Bool.eq_iff_iff.2 ?_
 simp only [List.all_eq_true,Function.comp]
 refine⟨fun k t ht=>?_,fun k t ht=>?_⟩
 all_goals
  have k1:=k t ht
  have f1:=h.fr t ht
  have f2:=h.to t ht
  have b1:=q2 t.1 (by omega)
  have b2:=q2 t.2.2 (by omega)
  have e1:(nums (S.getD t.2.2 0)).getD (Q.getD t.2.2 0).toNat 0=Q.getD t.2.2 0:=by rw [jT (by omega)];omega
  have k2:=of_decide_eq_true k1
  refine decide_eq_true ?_
  simp only [aKi,aK5,Int.toNat_natCast]at k2⊢
  rw [e1]at *
  exact k2.symm
theorem TrW.ext (h:TrW S acts T) (A:List Int):oN (aOY (T.map (aKi acts S))) S A=oN (okW (T.map (aK5 acts))) S A:=by
 unfold oN
 refine List.filter_congr fun Q hQ=>?_
 rw [h.same hQ]
end Go.Cats
end
section
namespace Go.Cats
def Rises (l:List Int):Prop:=∀i,i+1<l.length→l.getD i 0<l.getD (i+1) 0
structure IsSieve (c:Cat) (x:Int) (s:List Int):Prop where
 up:Rises s
 wi:Within s c.fr.length
 at_:∀i,i<s.length→c.F (s.getD i 0)=x
 cl:∀i,i<s.length→∀b:Nat,b<c.fr.length→c.fr.getD b 0=c.T (s.getD i 0)→c.C (s.getD i 0) b∈s
theorem Rises.ge {l:List Int} (h:Rises l) (h0:∀i,i<l.length→0≤l.getD i 0):∀i:Nat,i<l.length→(i:Int)≤l.getD i 0
 |0,hi=>h0 0 hi
 |i+1,hi=>by
  have h1:=h.ge h0 i (by omega)
  have h2:=h i hi
  omega
theorem IsSieve.len {c:Cat} {x:Int} {s:List Int} (h:IsSieve c x s):s.length≤c.fr.length:=by
 by_cases h0:s.length=0
 ·omega
 ·have h1:=h.up.ge (fun i hi=>(h.wi i hi).1) (s.length-1) (by omega)
  have h2:=h.wi (s.length-1) (by omega)
  omega
section
variable {c:Cat} {s:List Int} {k n i b:Nat} {x:Int} {f:SF}
theorem IsSieve.arr (hs:Shape c) (h:IsSieve c x s) (hi:i<s.length):(0≤s.getD i 0∧s.getD i 0<c.fr.length)∧(0≤c.T (s.getD i 0)∧c.T (s.getD i 0)<c.ob):=by
 have h1:=h.wi i hi
 exact⟨h1,hs.tow _ (by have:=hs.tol;omega)⟩
end
end Go.Cats
end
section
namespace Go.Cats
section
variable {c:Cat} {o:Nat→Nat} {J:Nat→Nat→Nat} {k i n b:Nat} {f:SF}
structure GenW (c:Cat) (O:List Int) (J:Nat→Nat→Nat):Prop where
 ob:∀i,i<O.length→0≤O.getD i 0∧O.getD i 0<c.ob
 nx:∀i b,i<O.length→b<c.fr.length→c.fr.getD b 0=O.getD i 0→J i b<O.length∧O.getD (J i b) 0=c.to.getD b 0
end
section
variable {k:Fun} {y:Int} {n x:Nat}
structure SeatOK (k:Fun) (y:Int) (r:List Int):Prop where
 len:r.length=2
 x0:0≤r.getD 0 0
 x1:r.getD 0 0<k.src.ob
 h0:0≤r.getD 1 0
 h1:r.getD 1 0<k.tgt.fr.length
 hf:k.tgt.F (r.getD 1 0)=y
 ht:k.tgt.T (r.getD 1 0)=k.obs.getD (r.getD 0 0).toNat 0
end
end Go.Cats
end
section
namespace Go.Eng
open Go Go.Cats
end Go.Eng
namespace Go.Cats
open Go.Eng
structure Bij (n:Nat) (l:List Int):Prop where
 len:l.length=n
 win:Within l n
 inj:NdI l
section
variable {n:Nat} {l:List Int}
theorem Bij.eq (h:Bij n l) {i j:Nat} (hi:i<n) (hj:j<n) (e:l.getD i 0=l.getD j 0):i=j:=
 h.inj.inj (fun k hk=>(h.win k hk).1) (by rw [h.len];exact hi) (by rw [h.len];exact hj) e
theorem Bij.at (h:Bij n l) {i:Nat} (hi:i<n):0≤l.getD i 0∧l.getD i 0<n:=h.win i (by rw [h.len];exact hi)
theorem Bij.surj (h:Bij n l) {y:Nat} (hy:y<n):∃x,x<n∧l.getD x 0=y:=by
 have hn:((List.range n).map fun i=>(l.getD i 0).toNat).Nodup:=by
  unfold List.Nodup
  rw [List.pairwise_map]
  refine List.Pairwise.imp_of_mem ?_ (List.pairwise_lt_range (n:=n))
  intro a b ha hb hab e
  have ha:=List.mem_range.1 ha
  have hb:=List.mem_range.1 hb
  have h1:=h.at ha
  have h2:=h.at hb
  have:=h.eq ha hb (by omega)
  omega
 refine Classical.byContradiction fun hno=>?_
 have hsub:∀z∈(List.range n).map fun i=>(l.getD i 0).toNat,z∈(List.range n).erase y:=fun z hz=>by
  obtain⟨i,hi,rfl⟩:=List.mem_map.1 hz
  have hi:=List.mem_range.1 hi
  have h1:=h.at hi
  refine(List.mem_erase_of_ne fun e=>hno ⟨i,hi,by omega⟩).2 (List.mem_range.2 (by omega))
 have h1:=List.Nodup.length_le_of_subset hn hsub
 rw [List.length_map,List.length_range,List.length_erase_of_mem (List.mem_range.2 hy),List.length_range]at h1
 omega
def bwL (l:List Int):Nat→List Int
 |0=>List.replicate l.length 0
 |i+1=>(bwL l i).set (l.getD i 0).toNat i
theorem aDK:bwL l 0=List.replicate l.length 0:=rfl
theorem zC {i:Nat}:bwL l (i+1)=(bwL l i).set (l.getD i 0).toNat i:=rfl
theorem iW:∀i,(bwL l i).length=l.length
 |0=>by rw [aDK,List.length_replicate]
 |i+1=>by rw [zC,List.length_set,iW i]
theorem aJi (h:Bij n l):∀{i:Nat},i≤n→∀j,j<i→(bwL l i).getD (l.getD j 0).toNat 0=j
 |0,_,j,hj=>absurd hj (Nat.not_lt_zero j)
 |i+1,hi,j,hj=>by
  have h1:=h.at (show i<n by omega)
  have h2:=h.at (show j<n by omega)
  have hl:=h.len
  rw [zC,tL (by rw [iW];omega)]
  by_cases e:(l.getD j 0).toNat=(l.getD i 0).toNat
  ·rw [if_pos e]
   have:=h.eq (show j<n by omega) (show i<n by omega) (by omega)
   rw [this]
  ·rw [if_neg e]
   refine aJi h (by omega) j ?_
   rcases Nat.lt_or_ge j i with q|q
   ·exact q
   ·exact absurd (by rw [show j=i by omega]) e
theorem nF (h:Bij n l) {x:Nat} (hx:x<n):(bwL l n).getD (l.getD x 0).toNat 0=x:=aJi h (Nat.le_refl n) x hx
theorem jB (h:Bij n l) {y:Nat} (hy:y<n):0≤(bwL l n).getD y 0∧(bwL l n).getD y 0<n∧l.getD ((bwL l n).getD y 0).toNat 0=y:=by
 obtain⟨x,hx,e⟩:=h.surj hy
 have:=nF h hx
 rw [e,Int.toNat_natCast]at this
 rw [this]
 exact⟨by omega,by omega,by rw [Int.toNat_natCast];exact e⟩
theorem aCv (h:Bij n l):Bij n (bwL l n):=by
 have hl:=h.len
 have hb:=iW (l:=l) n
 refine⟨by omega,fun i hi=>?_,fun i j hij hj h0 e=>?_⟩
 ·have:=jB h (show i<n by omega);exact⟨this.1,this.2.1⟩
 ·have h1:=jB h (show i<n by omega)
  have h2:=jB h (show j<n by omega)
  rw [e,h2.2.2]at h1
  have:=h1.2.2
  omega
end
section
variable {c d:Cat} {O Q:List Int} {f:Fun}
theorem IsoQ.bo (h:IsoQ c d O Q):Bij c.ob.toNat O:=by
 have h1:(O.length:Int)=c.ob:=h.fit.obl
 have h2:Within O d.ob:=h.fit.obw
 have h3:=h.hc.toShape.ob0
 have h4:=h.ob
 refine⟨by omega,fun i hi=>?_,h.no⟩
 have:=h2 i hi
 omega
theorem IsoQ.bq (h:IsoQ c d O Q):Bij c.fr.length Q:=⟨h.len,fun i hi=>by have:=h.rng (f:=i) (by rw [←h.len];exact hi);have:=h.ar;omega,h.nq⟩
theorem IsoQ.back (h:IsoQ c d O Q):IsoQ d c (bwL O O.length) (bwL Q Q.length):=by
 have bo:=h.bo
 have bq:=h.bq
 have b1:=aCv bo
 have b2:=aCv bq
 have ho:=h.ob
 have ha:=h.ar
 have o0:=h.hc.toShape.ob0
 have lo:=bo.len
 have lq:=bq.len
 have sc:=h.hc.toShape
 have sd:=h.hd.toShape
 rw [bo.len,bq.len]
 refine⟨h.hd,h.hc,⟨?_,?_,?_,?_,fun a hx=>?_,fun x hx=>?_,fun a b hx hy h0=>?_⟩,b1.inj,b2.inj,ho.symm,ha.symm⟩
 ·show((bwL O c.ob.toNat).length:Int)=d.ob
  rw [iW];omega
 ·show(bwL Q c.fr.length).length=d.fr.length
  rw [iW];omega
 ·intro i hi
  have:=b1.at (show i<c.ob.toNat by have:i<(bwL O c.ob.toNat).length:=hi;rw [iW]at this;omega)
  show 0≤(bwL O c.ob.toNat).getD i 0∧(bwL O c.ob.toNat).getD i 0<c.ob
  omega
 ·intro i hi
  exact b2.at (show i<c.fr.length by have:i<(bwL Q c.fr.length).length:=hi;rw [iW]at this;omega)
 ·have hx:a<c.fr.length:=by have:a<(bwL Q c.fr.length).length:=hx;rw [iW]at this;omega
  obtain⟨r1,r2,r3⟩:=jB bq hx
  show c.F ((bwL Q c.fr.length).getD a 0)=(bwL O c.ob.toNat).getD (d.F (a:Int)).toNat 0∧c.T ((bwL Q c.fr.length).getD a 0)=(bwL O c.ob.toNat).getD (d.T (a:Int)).toNat 0
  obtain⟨b,hb⟩:∃b:Nat,(bwL Q c.fr.length).getD a 0=b:=⟨_,(Int.toNat_of_nonneg r1).symm⟩
  rw [hb]at r2 r3⊢
  rw [Int.toNat_natCast]at r3
  have hb2:b<c.fr.length:=by omega
  obtain⟨g1,g2⟩:=h.fr hb2
  rw [r3,Int.toNat_natCast]at g1 g2
  have f1:=sc.frw b hb2
  have f2:=sc.tow b (by rw [sc.tol];exact hb2)
  have k1:=nF bo (x:=(c.fr.getD b 0).toNat) (by omega)
  have k2:=nF bo (x:=(c.to.getD b 0).toNat) (by omega)
  unfold Cat.F Cat.T
  rw [Int.toNat_natCast,Int.toNat_natCast,g1,g2,k1,k2]
  omega
 ·have hx:x<d.id.length:=hx
  have il:=sd.idl
  have cl:=sc.idl
  have hx2:x<c.ob.toNat:=by omega
  obtain⟨r1,r2,r3⟩:=jB bo hx2
  obtain⟨y,hy⟩:∃y:Nat,(bwL O c.ob.toNat).getD x 0=y:=⟨_,(Int.toNat_of_nonneg r1).symm⟩
  rw [hy]at r2 r3
  rw [Int.toNat_natCast]at r3
  have hu:=h.fit.unit y (by show y<c.id.length;omega)
  have hu:Q.getD (c.id.getD y 0).toNat 0=d.id.getD (O.getD y 0).toNat 0:=by
   have e:(⟨c,d,O,Q⟩:Fun).O (y:Int)=O.getD y 0:=by unfold Fun.O;rw [Int.toNat_natCast]
   rw [e]at hu;exact hu
  rw [r3,Int.toNat_natCast]at hu
  have iw:=sc.idw y (by omega)
  show(bwL Q c.fr.length).getD (d.id.getD x 0).toNat 0=c.id.getD ((bwL O c.ob.toNat).getD (x:Int).toNat 0).toNat 0
  rw [Int.toNat_natCast,hy,Int.toNat_natCast,←hu,nF bq (by omega)]
  omega
 ·have hx:a<c.fr.length:=by have:a<d.fr.length:=hx;omega
  have hy:b<c.fr.length:=by have:b<d.fr.length:=hy;omega
  obtain⟨r1,r2,r3⟩:=jB bq hx
  obtain⟨s1,s2,s3⟩:=jB bq hy
  obtain⟨p,hp⟩:∃p:Nat,(bwL Q c.fr.length).getD a 0=p:=⟨_,(Int.toNat_of_nonneg r1).symm⟩
  obtain⟨q,hq⟩:∃q:Nat,(bwL Q c.fr.length).getD b 0=q:=⟨_,(Int.toNat_of_nonneg s1).symm⟩
  rw [hp]at r2 r3
  rw [hq]at s2 s3
  rw [Int.toNat_natCast]at r3 s3
  have hcp:=h.cp (f:=p) (g:=q) (by omega) (by omega)
  rw [r3,s3,Int.toNat_natCast,Int.toNat_natCast]at hcp
  have h0:0≤d.C (a:Int) (b:Int):=h0
  have e1:d.C (a:Int) (b:Int)=d.cp a b:=by unfold Cat.C Cat.cp;rw [Int.toNat_natCast,Int.toNat_natCast]
  rw [e1]at h0
  have h1:=hcp.1.2 h0
  obtain⟨k1,k2⟩:=hcp.2 h1
  show(bwL Q c.fr.length).getD (d.C (a:Int) (b:Int)).toNat 0=c.C ((bwL Q c.fr.length).getD (a:Int).toNat 0) ((bwL Q c.fr.length).getD (b:Int).toNat 0)
  have e2:c.C (p:Int) (q:Int)=c.cp p q:=by unfold Cat.C Cat.cp;rw [Int.toNat_natCast,Int.toNat_natCast]
  rw [e1,Int.toNat_natCast,Int.toNat_natCast,hp,hq,e2,k2,nF bq k1]
  omega
end
end Go.Cats
end
section
namespace Go.Cats
section
variable {f g:SF} {once:Bool} {P Q:List (List Int)}
theorem aKj (h1:P.length=Q.length) (h2:∀y,y<P.length→(P.getD y []).length=(Q.getD y []).length) (h3:∀y i,y<P.length→i<(P.getD y []).length→pv P y i=pv Q y i):P=Q:=by
 refine List.ext_getElem h1 fun y y1 y2=>?_
 have e1:P.getD y []=P[y]:=by rw [List.getD_eq_getElem?_getD,List.getElem?_eq_getElem y1];rfl
 have e2:Q.getD y []=Q[y]:=by rw [List.getD_eq_getElem?_getD,List.getElem?_eq_getElem y2];rfl
 have l:=h2 y y1
 rw [e1,e2]at l
 refine List.ext_getElem l fun i i1 i2=>?_
 have k:=h3 y i y1 (by rw [e1];exact i1)
 unfold pv at k
 rw [e1,e2,List.getD_eq_getElem?_getD,List.getElem?_eq_getElem i1,List.getD_eq_getElem?_getD,List.getElem?_eq_getElem i2]at k
 exact k
theorem aGL (h:SPair f g):∀(n:Nat) (P:List (List Int)),Good f g once P→nu P<n→Good f g once Q→(∀y i,y<Q.length→i<(Q.getD y []).length→0≤pv Q y i)→Ext' P Q→Q∈dfs f g once n P
 |0,P,_,hn,_,_,_=>absurd hn (Nat.not_lt_zero _)
 |n+1,P,hP,hn,hQ,hF,hE=>by
  cases h0:fuP P with
  |none=>
   rw [pD h0,List.mem_singleton]
   have k:=fuP_none.1 h0
   exact(aKj hE.1 (fun y _=>hE.2.1 y) fun y i hy hi=>(hE.2.2 y i hy hi (k y i hy hi)).symm).symm
  |some r=>
   obtain⟨x,e⟩:=r
   obtain⟨p1,p2,p3⟩:=pH h0
   have q1:x<Q.length:=by rw [←hE.1];exact p1
   have q2:e<(Q.getD x []).length:=by rw [←hE.2.1];exact p2
   have q3:=hF x e q1 q2
   have q4:=(hQ.rng x e q1 q2).2
   obtain⟨R,r1,r2⟩:=aHr (u:=(pv Q x e).toNat) h hQ hF q1 q2 (by omega) hE
   obtain⟨g1,g2,g3⟩:=mT h hP p1 p2 (by omega) r1
   have r3:=aFU g2 p1 p2 p3 (by omega)
   rw [pF h0]
   unfold bQ
   refine List.mem_flatMap.2 ⟨(pv Q x e).toNat,List.mem_range.2 (by omega),?_⟩
   rw [kH r1]
   exact aGL h n R g1 (by omega) hQ hF r2
theorem vF (h:SPair f g):∀(n:Nat) (P:List (List Int)),Good f g once P→(dfs f g once n P).Nodup
 |0,P,_=>by unfold dfs;exact List.nodup_nil
 |n+1,P,hP=>by
  cases h0:fuP P with
  |none=>rw [pD h0];exact List.nodup_cons.2 ⟨by simp,List.nodup_nil⟩
  |some r=>
   obtain⟨x,e⟩:=r
   obtain⟨p1,p2,p3⟩:=pH h0
   rw [pF h0]
   unfold bQ
   refine List.pairwise_flatMap.2 ⟨fun u hu=>?_,?_⟩
   ·have hu:=List.mem_range.1 hu
    cases hs:gP f g once x e u P with
    |none=>rw [kG hs];exact List.nodup_nil
    |some R=>rw [kH hs];exact vF h n R (mT h hP p1 p2 (by omega) hs).1
   ·refine List.Pairwise.imp_of_mem (R:=fun a b=>a≠b) (fun {u v} hu hv huv Q hQ R hR e1=>?_) List.nodup_range
    subst e1
    have hu:=List.mem_range.1 hu
    have hv:=List.mem_range.1 hv
    have key:∀u:Nat,u<(g.sizes.getD x 0).toNat→Q∈below f g once n x e P u→pv Q x e=u:=fun u hu hm=>by
     cases hs:gP f g once x e u P with
     |none=>rw [kG hs]at hm;cases hm
     |some R=>
      rw [kH hs]at hm
      obtain⟨g1,g2,g3⟩:=mT h hP p1 p2 (by omega) hs
      obtain⟨k1,k2,k3⟩:=pC h n R g1 Q hm
      have:=k2.2.2 x e (by rw [←g2.1];exact p1) (by rw [←g2.2.1];exact p2) (by omega)
      omega
    have a:=key u hu hQ
    have b:=key v hv hR
    omega
theorem aGU (h:SPair f g) (hQ:Good f g once Q) (hF:∀y i,y<Q.length→i<(Q.getD y []).length→0≤pv Q y i):IsSM ⟨f,g,Q⟩:=by
 have hs:=h.src.szl
 have gs:=h.tgt.szl
 refine {src:=h.src,tgt:=h.tgt,same:=h.one,fits:=⟨hQ.len,fun x hx=>⟨hQ.row x hx,fun i hi=>⟨hF x i hx hi,(hQ.rng x i hx hi).2⟩⟩⟩,nat:=fun a ha e he=>?_}
 have ha:a<f.shape.fr.length:=ha
 have he:e<(f.acts.getD a []).length:=he
 obtain⟨t1,t2,t3,t4⟩:=h.ft ha
 have al:=(h.src.act a (by rw [h.src.acl];exact ha)).1
 have hl:=hQ.len
 have r:=hQ.row (f.fx a) (by omega)
 have hi:e<(Q.getD (f.fx a) []).length:=by
  have:f.sizes.getD (f.fx a) 0=f.sizes.getD (f.shape.fr.getD a 0).toNat 0:=rfl
  omega
 exact hQ.cl a e ha hi (hF _ _ (by omega) hi)
theorem aNm (h:SPair f g) (hm:IsSM ⟨f,g,Q⟩):Good f g false Q∧∀y i,y<Q.length→i<(Q.getD y []).length→0≤pv Q y i:=by
 have hl:Q.length=f.sizes.length:=hm.fits.len
 refine⟨⟨hl,fun y hy=>(hm.fits.map y hy).1,fun y i hy hi=>?_,fun b i hb hi h0=>?_,fun q=>by cases q⟩,fun y i hy hi=>((hm.fits.map y hy).2 i hi).1⟩
 ·have:=(hm.fits.map y hy).2 i hi
  exact⟨by show-1≤(Q.getD y []).getD i 0;have:0≤(Q.getD y []).getD i 0:=this.1;omega,this.2⟩
 ·obtain⟨t1,t2,t3,t4⟩:=h.ft hb
  have al:=(h.src.act b (by rw [h.src.acl];exact hb)).1
  have r:=(hm.fits.map (f.fx b) (by show _<Q.length;omega)).1
  have r:((Q.getD (f.fx b) []).length:Int)=f.sizes.getD (f.fx b) 0:=r
  have e:f.sizes.getD (f.fx b) 0=f.sizes.getD (f.shape.fr.getD b 0).toNat 0:=rfl
  exact hm.nat b hb i (by show i<(f.acts.getD b []).length;omega)
theorem aKs (hQ:Good f g once Q):Ext' (dD f.sizes) Q:=by
 have hl:(dD f.sizes).length=f.sizes.length:=by unfold dD;rw [List.length_map]
 have row:∀y,y<f.sizes.length→(dD f.sizes).getD y []=List.replicate (f.sizes.getD y 0).toNat (-1):=fun y hy=>by
  unfold dD
  rw [List.getD_eq_getElem?_getD,List.getElem?_map,List.getElem?_eq_getElem hy,List.getD_eq_getElem?_getD,List.getElem?_eq_getElem hy];rfl
 refine⟨by rw [hl,hQ.len],fun y=>?_,fun y i hy hi h0=>?_⟩
 ·rcases Nat.lt_or_ge y f.sizes.length with hy|hy
  ·rw [row y hy,List.length_replicate]
   have:=hQ.row y (by rw [hQ.len];exact hy)
   omega
  ·have q:=hQ.len
   rw [List.getD_eq_getElem?_getD,List.getElem?_eq_none (by omega),List.getD_eq_getElem?_getD,List.getElem?_eq_none (by omega)]
 ·exfalso
  unfold pv at h0
  rw [row y (by omega)]at h0 hi
  rw [List.length_replicate]at hi
  rw [List.getD_eq_getElem?_getD,List.getElem?_replicate,if_pos hi]at h0
  revert h0
  decide
end
end Go.Cats
end
section
namespace Go.Cats
section
variable {c:Cat} {O:List Int} {x:Int} {k h:Nat}
def frA (c:Cat) (O:List Int) (x:Int):Nat→List (List Int)
 |0=>[]
 |k+1=>frA c O x k++(c.hom (O.getD k 0) x).map fun f=>[(k:Int),f]
def frB (c:Cat) (O:List Int) (x:Int) (k h:Nat):List (List Int):=frA c O x k++(c.homI (O.getD k 0) x h).map fun f=>[(k:Int),f]
theorem zR:frB c O x k 0=frA c O x k:=by unfold frB;rw [Cat.homI_zero,List.map_nil,List.append_nil]
theorem aMq:frB c O x k c.fr.length=frA c O x (k+1):=rfl
theorem aMr (h1:c.fr.getD h 0=O.getD k 0) (h2:c.to.getD h 0=x):frB c O x k (h+1)=frB c O x k h++[[(k:Int),(h:Int)]]:=by
 unfold frB
 rw [Cat.homI_succ,if_pos ⟨h1,h2⟩,List.map_append,List.append_assoc];rfl
theorem aD7 (h1:¬(c.fr.getD h 0=O.getD k 0∧c.to.getD h 0=x)):frB c O x k (h+1)=frB c O x k h:=by
 unfold frB
 rw [Cat.homI_succ,if_neg h1,List.append_nil]
theorem aCQ:(frA c O x k).length≤k*c.fr.length:=by
 induction k with
 |zero=>simp [frA]
 |succ k ih=>
  have:=c.hom_len (O.getD k 0) x
  rw [frA,List.length_append,List.length_map,Nat.succ_mul]
  omega
theorem aMs:(frB c O x k h).length≤k*c.fr.length+h:=by
 unfold frB
 rw [List.length_append,List.length_map]
 have:=aCQ (c:=c) (O:=O) (x:=x) (k:=k)
 have:=c.homI_len (O.getD k 0) x h
 omega
theorem mem_frA {p:List Int}:p∈frA c O x k↔∃(j:Nat) (f:Int),j<k∧p=[(j:Int),f]∧f∈c.hom (O.getD j 0) x:=by
 induction k with
 |zero=>simp [frA]
 |succ k ih=>
  rw [frA,List.mem_append,ih,List.mem_map]
  constructor
  ·rintro(⟨j,f,h1,h2,h3⟩|⟨f,h1,rfl⟩)
   ·exact⟨j,f,by omega,h2,h3⟩
   ·exact⟨k,f,by omega,rfl,h1⟩
  ·rintro⟨j,f,h1,h2,h3⟩
   by_cases e:j=k
   ·subst e;exact .inr ⟨f,h3,h2.symm⟩
   ·exact .inl ⟨j,f,by omega,h2,h3⟩
def frT (c:Cat) (O:List Int) (k h:Nat):List (List (List Int)):=(List.range c.ob.toNat).map fun y:Nat=>frB c O y k h
theorem iX:(frT c O k h).length=c.ob.toNat:=by unfold frT;rw [List.length_map,List.length_range]
theorem yF {y:Nat} (hy:y<c.ob.toNat):(frT c O k h).getD y []=frB c O y k h:=by
 unfold frT;rw [List.getD_eq_getElem?_getD,List.getElem?_map,List.getElem?_range hy];rfl
theorem rY {i:Nat} (hi:i<(frT c O k h).length):(frT c O k h)[i]=frB c O i k h:=by
 have h1:i<c.ob.toNat:=by have:=hi;rwa [iX]at this
 have h2:=yF (c:=c) (O:=O) (k:=k) (h:=h) h1
 rw [List.getD_eq_getElem?_getD,List.getElem?_eq_getElem hi]at h2
 exact h2
theorem aJI:frT c O 0 0=List.replicate c.ob.toNat []:=by
 refine List.ext_getElem (by rw [iX,List.length_replicate]) fun i h1 h2=>?_
 rw [List.getElem_replicate,rY,zR];rfl
theorem aJH:frT c O k c.fr.length=frT c O (k+1) 0:=by
 refine List.ext_getElem (by rw [iX,iX]) fun i h1 h2=>?_
 rw [rY,rY,zR,aMq]
theorem aJG (n:¬c.fr.getD h 0=O.getD k 0):frT c O k (h+1)=frT c O k h:=by
 refine List.ext_getElem (by rw [iX,iX]) fun i h1 h2=>?_
 rw [rY,rY,aD7 fun q=>n q.1]
theorem aMv (e:c.fr.getD h 0=O.getD k 0) (h0:0≤c.to.getD h 0) (h1:c.to.getD h 0<c.ob):
  frT c O k (h+1)=(frT c O k h).set (c.to.getD h 0).toNat ((frT c O k h).getD (c.to.getD h 0).toNat []++[[(k:Int),(h:Int)]]):=by
 rw [yF (by omega)]
 refine List.ext_getElem (by rw [iX,List.length_set,iX]) fun i i1 i2=>?_
 rw [List.getElem_set,rY]
 split
 ·rename_i q
  rw [←q,aMr e (by omega)]
 ·rename_i q
  rw [rY]
  exact aD7 fun r=>q (by omega)
structure Loose (f:SF):Prop where
 shape:Shape f.shape
 szl:f.sizes.length=f.shape.ob.toNat
 szw:∀x,x<f.sizes.length→0≤f.sizes.getD x 0∧f.sizes.getD x 0≤1000
 acl:f.acts.length=f.shape.fr.length
 act:∀a,a<f.acts.length→((f.acts.getD a []).length:Int)=f.sizes.getD (f.shape.fr.getD a 0).toNat 0∧Within (f.acts.getD a []) (f.sizes.getD (f.shape.to.getD a 0).toNat 0)
theorem Loose.b {f:SF} (h:Loose f) (hb:CatB f.shape):SFB f:=by
 have s8:=h.shape.ob8
 have s40:=h.shape.m40
 refine⟨hb,by rw [h.szl];omega,by rw [h.acl];omega,fun a ha=>?_⟩
 have h1:=(h.act a ha).1
 have ha':a<f.shape.fr.length:=by rw [←h.acl];exact ha
 have f1:=h.shape.frw a ha'
 have:=h.szw (f.shape.fr.getD a 0).toNat (by rw [h.szl];omega)
 omega
end
end Go.Cats
end
section
namespace Go.Cats
def aDY (L:List Int) (n:Nat):Nat→Nat
 |0=>0
 |i+1=>aDY L n i+(List.range n).countP fun j=>decide (L.getD i 0≠L.getD j 0)
def dif (L:List Int):Nat:=aDY L L.length L.length
section
variable {L M:List Int} {n:Nat}
theorem aGM (h:∀i j,i<n→j<n→L.getD i 0=L.getD j 0→M.getD i 0=M.getD j 0):∀i,i≤n→aDY M n i≤aDY L n i
 |0,_=>Nat.le_refl _
 |i+1,hi=>by
  have ih:=aGM h i (by omega)
  have:(List.range n).countP (fun j=>decide (M.getD i 0≠M.getD j 0))≤(List.range n).countP fun j=>decide (L.getD i 0≠L.getD j 0):=
   List.countP_mono_left fun j hj e=>by
    rw [decide_eq_true_eq]at e⊢
    exact fun q=>e (h i j (by omega) (List.mem_range.1 hj) q)
  simp only [aDY]
  omega
theorem aGN (h:∀i j,i<n→j<n→L.getD i 0=L.getD j 0→M.getD i 0=M.getD j 0) {u v:Nat} (hu:u<n) (hv:v<n) (h1:L.getD u 0≠L.getD v 0) (h2:M.getD u 0=M.getD v 0):∀i,i≤n→u<i→aDY M n i<aDY L n i
 |0,_,q=>by omega
 |i+1,hi,q=>by
  have key:∀l:List Nat,(∀j∈l,j<n)→l.countP (fun j=>decide (M.getD i 0≠M.getD j 0))≤l.countP fun j=>decide (L.getD i 0≠L.getD j 0):=fun l hl=>
   List.countP_mono_left fun j hj e=>by
    rw [decide_eq_true_eq]at e⊢
    exact fun q=>e (h i j (by omega) (hl j hj) q)
  simp only [aDY]
  by_cases e:u=i
  ·subst e
   have ih:=aGM h u (by omega)
   have lt:∀l:List Nat,(∀j∈l,j<n)→v∈l→l.countP (fun j=>decide (M.getD u 0≠M.getD j 0))<l.countP fun j=>decide (L.getD u 0≠L.getD j 0):=by
    intro l
    induction l with
    |nil=>intro _ hm;cases hm
    |cons a l ihl=>
     intro hl hm
     rw [List.countP_cons,List.countP_cons]
     have k:=key l fun j hj=>hl j (List.mem_cons_of_mem _ hj)
     rcases List.mem_cons.1 hm with rfl|hm
     ·rw [if_neg (by simpa using h2),if_pos (by simpa using h1)];omega
     ·have:=ihl (fun j hj=>hl j (List.mem_cons_of_mem _ hj)) hm
      have ha:=hl a List.mem_cons_self
      by_cases e:L.getD u 0=L.getD a 0
      ·have:=h u a (by omega) ha e
       rw [if_neg (by simpa using this),if_neg (by simpa using e)];omega
      ·rw [if_pos (c:=decide (L.getD u 0≠L.getD a 0)=true) (by simpa using e)]
       split<;>omega
   have:=lt (List.range n) (fun j hj=>List.mem_range.1 hj) (List.mem_range.2 hv)
   omega
  ·have ih:=aGN h hu hv h1 h2 i (by omega) (by omega)
   have:=key (List.range n) fun j hj=>List.mem_range.1 hj
   omega
theorem aOy (hl:M.length=L.length) (h:∀i j,i<L.length→j<L.length→L.getD i 0=L.getD j 0→M.getD i 0=M.getD j 0) {u v:Nat} (hu:u<L.length) (hv:v<L.length) (h1:L.getD u 0≠L.getD v 0) (h2:M.getD u 0=M.getD v 0):dif M<dif L:=by
 unfold dif
 rw [hl]
 exact aGN h hu hv h1 h2 _ (Nat.le_refl _) hu
end
def mes:List (List Int)→Nat
 |[]=>0
 |L::r=>dif L+mes r
theorem aG2 {M:List Int}:∀{Cs:List (List Int)} {y:Nat},y<Cs.length→dif M<dif (Cs.getD y [])→mes (Cs.set y M)<mes Cs
 |[],y,hy,_=>absurd hy (Nat.not_lt_zero _)
 |L::r,0,_,h=>by
  have h:dif M<dif L:=h
  show dif M+mes r<dif L+mes r
  omega
 |L::r,y+1,hy,h=>by
  have:=aG2 (Cs:=r) (y:=y) (Nat.lt_of_succ_lt_succ hy) h
  show dif L+mes (r.set y M)<dif L+mes r
  omega
end Go.Cats
end
section
namespace Go.Cats
structure TabOK (n:Nat) (A:List (List Int)) (U:Nat→List Int) (cp:List Int→List Int→List Int):Prop where
 n8:n≤8
 a40:A.length≤40
 nd:A.Nodup
 e0:∀r∈A,0≤r.getD 0 0∧r.getD 0 0<n
 e1:∀r∈A,0≤r.getD 1 0∧r.getD 1 0<n
 um:∀i,i<n→U i∈A∧(U i).getD 0 0=i∧(U i).getD 1 0=i
 cm:∀r∈A,∀s∈A,r.getD 1 0=s.getD 0 0→cp r s∈A∧(cp r s).getD 0 0=r.getD 0 0∧(cp r s).getD 1 0=s.getD 1 0
 ul:∀r∈A,cp (U (r.getD 0 0).toNat) r=r
 ur:∀r∈A,cp r (U (r.getD 1 0).toNat)=r
 as:∀r∈A,∀s∈A,∀q∈A,r.getD 1 0=s.getD 0 0→s.getD 1 0=q.getD 0 0→cp (cp r s) q=cp r (cp s q)
def sS (A:List (List Int)) (cp:List Int→List Int→List Int) (a n:Nat):List Int:=(List.range n).map fun b=>if(A.getD a []).getD 1 0=(A.getD b []).getD 0 0 then fnd A (cp (A.getD a []) (A.getD b []))else-1
def lJ (n:Nat) (A:List (List Int)) (U:Nat→List Int) (cp:List Int→List Int→List Int):Cat:=
 ⟨n,A.map fun r=>r.getD 0 0,A.map fun r=>r.getD 1 0,(List.range n).map fun i=>fnd A (U i),(List.range A.length).map fun a=>sS A cp a A.length⟩
section
variable {n:Nat} {A:List (List Int)} {U:Nat→List Int} {cp:List Int→List Int→List Int} {a b i:Nat}
theorem sH {f:List Int→Int} (h:a<A.length):(A.map f).getD a 0=f (A.getD a []):=by
 rw [List.getD_eq_getElem?_getD,List.getElem?_map,List.getElem?_eq_getElem h,List.getD_eq_getElem?_getD (l:=A),List.getElem?_eq_getElem h];rfl
theorem aDy (h:a<A.length):(lJ n A U cp).fr.getD a 0=(A.getD a []).getD 0 0:=sH (f:=fun r=>r.getD 0 0) h
theorem aDz (h:a<A.length):(lJ n A U cp).to.getD a 0=(A.getD a []).getD 1 0:=sH (f:=fun r=>r.getD 1 0) h
theorem aN8:(lJ n A U cp).fr.length=A.length:=by show(A.map _).length=_;rw [List.length_map]
theorem aPx (h:i<n):(lJ n A U cp).id.getD i 0=fnd A (U i):=by
 show((List.range n).map _).getD i 0=_
 rw [List.getD_eq_getElem?_getD,List.getElem?_map,List.getElem?_range h];rfl
theorem aHC (h:a<A.length):(lJ n A U cp).co.getD a []=sS A cp a A.length:=by
 show((List.range A.length).map _).getD a []=_
 rw [List.getD_eq_getElem?_getD,List.getElem?_map,List.getElem?_range h];rfl
theorem aN7 (ha:a<A.length) (hb:b<A.length):(lJ n A U cp).C a b=if(A.getD a []).getD 1 0=(A.getD b []).getD 0 0 then fnd A (cp (A.getD a []) (A.getD b []))else-1:=by
 show((lJ n A U cp).co.getD (a:Int).toNat []).getD (b:Int).toNat 0=_
 rw [Int.toNat_natCast,Int.toNat_natCast,aHC ha]
 unfold sS
 rw [List.getD_eq_getElem?_getD,List.getElem?_map,List.getElem?_range hb];rfl
theorem TabOK.mem (ha:a<A.length):A.getD a []∈A:=cD ha
theorem TabOK.C (h:TabOK n A U cp) (ha:a<A.length) (hb:b<A.length) (e:(A.getD a []).getD 1 0=(A.getD b []).getD 0 0):∃k:Nat,k<A.length∧A.getD k []=cp (A.getD a []) (A.getD b [])∧(lJ n A U cp).C a b=k:=by
 have hm:=(h.cm _ (TabOK.mem ha) _ (TabOK.mem hb) e).1
 obtain⟨k,h1,h2,h3⟩:=aCP hm
 exact⟨k,h1,h2,by rw [aN7 ha hb,if_pos e,h3]⟩
theorem TabOK.I (h:TabOK n A U cp) (hi:i<n):∃k:Nat,k<A.length∧A.getD k []=U i∧(lJ n A U cp).id.getD i 0=k:=by
 obtain⟨k,h1,h2,h3⟩:=aCP (h.um i hi).1
 exact⟨k,h1,h2,by rw [aPx hi,h3]⟩
theorem TabOK.inj (h:TabOK n A U cp) (ha:a<A.length) (hb:b<A.length) (e:A.getD a []=A.getD b []):a=b:=by
 have h1:=aFF h.nd ha
 have h2:=aFF h.nd hb
 rw [e,h2]at h1
 omega
theorem aFe (ha:a<A.length):(lJ n A U cp).F (a:Int)=(A.getD a []).getD 0 0:=by
 show(lJ n A U cp).fr.getD (a:Int).toNat 0=_
 rw [Int.toNat_natCast,aDy ha]
theorem aFf (ha:a<A.length):(lJ n A U cp).T (a:Int)=(A.getD a []).getD 1 0:=by
 show(lJ n A U cp).to.getD (a:Int).toNat 0=_
 rw [Int.toNat_natCast,aDz ha]
theorem TabOK.shape (h:TabOK n A U cp):Shape (lJ n A U cp):=by
 have hm:=aN8 (n:=n) (A:=A) (U:=U) (cp:=cp)
 refine⟨Int.natCast_nonneg n,?_,by rw [hm];exact h.a40,?_,fun a ha=>?_,fun a ha=>?_,?_,fun i hi=>?_,?_,fun i hi=>?_,fun a ha=>⟨?_,fun b hb=>?_⟩⟩
 ·show(n:Int)≤8;have:=h.n8;omega
 ·show(A.map _).length=(A.map _).length;rw [List.length_map,List.length_map]
 ·rw [hm]at ha;rw [aDy ha];exact h.e0 _ (TabOK.mem ha)
 ·have ha:a<A.length:=by
   have e:(lJ n A U cp).to.length=A.length:=by show(A.map _).length=_;rw [List.length_map]
   exact e▸ha
  rw [aDz ha];exact h.e1 _ (TabOK.mem ha)
 ·show(((List.range n).map _).length:Int)=n;rw [List.length_map,List.length_range]
 ·have hi:i<n:=by
   have e:(lJ n A U cp).id.length=n:=by show((List.range n).map _).length=_;rw [List.length_map,List.length_range]
   exact e▸hi
  obtain⟨k,k1,k2,k3⟩:=h.I hi
  rw [k3,hm];omega
 ·show((List.range A.length).map _).length=(A.map _).length;rw [List.length_map,List.length_range,List.length_map]
 ·have hi:i<n:=by
   have e:(lJ n A U cp).id.length=n:=by show((List.range n).map _).length=_;rw [List.length_map,List.length_range]
   exact e▸hi
  obtain⟨k,k1,k2,k3⟩:=h.I hi
  rw [k3,aFe k1,aFf k1,k2]
  exact(h.um i hi).2
 ·rw [hm]at ha⊢
  rw [aHC ha];unfold sS;rw [List.length_map,List.length_range]
 ·rw [hm]at ha hb
  unfold Cat.Entry
  rw [aDz ha,aDy hb,aDy ha,aDz hb,hm]
  by_cases e:(A.getD a []).getD 1 0=(A.getD b []).getD 0 0
  ·obtain⟨k,k1,k2,k3⟩:=h.C ha hb e
   have hc:=(h.cm _ (TabOK.mem ha) _ (TabOK.mem hb) e).2
   refine .inl ⟨e,by rw [k3];omega,?_,?_⟩
   ·rw [k3,aFe k1,k2];exact hc.1
   ·rw [k3,aFf k1,k2];exact hc.2
  ·exact .inr ⟨e,by rw [aN7 ha hb,if_neg e]⟩
theorem TabOK.cat (h:TabOK n A U cp):IsCat (lJ n A U cp):=by
 have hm:=aN8 (n:=n) (A:=A) (U:=U) (cp:=cp)
 refine⟨h.shape,fun f hf=>?_,fun f hf=>?_,fun f g q hf hg hq e1 e2=>?_⟩
 ·rw [hm]at hf
  have he:=h.e0 _ (TabOK.mem hf)
  rw [aFe hf]
  obtain⟨k,k1,k2,k3⟩:=h.I (i:=((A.getD f []).getD 0 0).toNat) (by omega)
  have hI:(lJ n A U cp).I ((A.getD f []).getD 0 0)=k:=k3
  have hu:=(h.um ((A.getD f []).getD 0 0).toNat (by omega)).2.2
  rw [hI]
  obtain⟨j,j1,j2,j3⟩:=h.C k1 hf (by rw [k2,hu];omega)
  rw [j3]
  rw [k2,h.ul _ (TabOK.mem hf)]at j2
  rw [h.inj j1 hf j2]
 ·rw [hm]at hf
  have he:=h.e1 _ (TabOK.mem hf)
  rw [aFf hf]
  obtain⟨k,k1,k2,k3⟩:=h.I (i:=((A.getD f []).getD 1 0).toNat) (by omega)
  have hI:(lJ n A U cp).I ((A.getD f []).getD 1 0)=k:=k3
  have hu:=(h.um ((A.getD f []).getD 1 0).toNat (by omega)).2.1
  rw [hI]
  obtain⟨j,j1,j2,j3⟩:=h.C hf k1 (by rw [k2,hu];omega)
  rw [j3]
  rw [k2,h.ur _ (TabOK.mem hf)]at j2
  rw [h.inj j1 hf j2]
 ·rw [hm]at hf hg hq
  rw [aFf hf,aFe hg]at e1
  rw [aFf hg,aFe hq]at e2
  obtain⟨j,j1,j2,j3⟩:=h.C hf hg e1
  obtain⟨k,k1,k2,k3⟩:=h.C hg hq e2
  have c1:=(h.cm _ (TabOK.mem hf) _ (TabOK.mem hg) e1).2
  have c2:=(h.cm _ (TabOK.mem hg) _ (TabOK.mem hq) e2).2
  rw [j3,k3]
  obtain⟨x,x1,x2,x3⟩:=h.C j1 hq (by rw [j2,c1.2];exact e2)
  obtain⟨y,y1,y2,y3⟩:=h.C hf k1 (by rw [k2,c2.1];exact e1)
  rw [x3,y3,h.inj x1 y1 (by rw [x2,y2,j2,k2];exact h.as _ (TabOK.mem hf) _ (TabOK.mem hg) _ (TabOK.mem hq) e1 e2)]
end
end Go.Cats
end
section
namespace Go.Cats
def mE (R:List (List Int)) (i j:Nat):Int:=(R.getD i []).getD j 0
def cN (R:List (List Int)) (i:Nat):Nat→List (List Int)
 |0=>[]
 |k+1=>if mE R i k=1 then cN R i k++[[(i:Int),(k:Int)]]else cN R i k
def poA (R:List (List Int)) (n:Nat):Nat→List (List Int)
 |0=>[]
 |i+1=>poA R n i++cN R i n
structure PoOK (R:List (List Int)) (n:Nat):Prop where
 n6:n≤6
 rf:∀i,i<n→mE R i i=1
 tr:∀i j k,i<n→j<n→k<n→mE R i j=1→mE R j k=1→mE R i k=1
def poU (i:Nat):List Int:=[(i:Int),(i:Int)]
def poP (r s:List Int):List Int:=[r.getD 0 0,s.getD 1 0]
def poC (R:List (List Int)) (n:Nat):Cat:=lJ n (poA R n n) poU poP
def poN (R:List (List Int)) (n i k:Nat):Int:=(((poA R n i).length+(cN R i k).length:Nat):Int)
section
variable {R:List (List Int)} {n m i j k:Nat} {x:List Int}
theorem kC (h:mE R i k=1):cN R i (k+1)=cN R i k++[[(i:Int),(k:Int)]]:=by rw [cN,if_pos h]
theorem tX (h:¬mE R i k=1):cN R i (k+1)=cN R i k:=by rw [cN,if_neg h]
theorem aAi:∀k,(cN R i k).length≤k
 |0=>Nat.le_refl 0
 |k+1=>by
  have:=aAi k
  unfold cN
  split
  ·rw [List.length_append];simp;omega
  ·omega
theorem aAf:∀m,(poA R n m).length≤m*n
 |0=>by simp [poA]
 |m+1=>by
  have h1:=aAf m
  have h2:=aAi (R:=R) (i:=m) n
  unfold poA
  rw [List.length_append,Nat.succ_mul]
  omega
theorem qK:∀k,x∈cN R i k↔∃j,j<k∧mE R i j=1∧x=[(i:Int),(j:Int)]
 |0=>by simp [cN]
 |k+1=>by
  have ih:=qK k
  by_cases h:mE R i k=1
  ·rw [kC h,List.mem_append,ih,List.mem_singleton]
   constructor
   ·rintro(⟨j,h1,h2,h3⟩|h1)
    ·exact⟨j,by omega,h2,h3⟩
    ·exact⟨k,by omega,h,h1⟩
   ·rintro⟨j,h1,h2,h3⟩
    rcases Nat.lt_or_ge j k with hj|hj
    ·exact .inl ⟨j,hj,h2,h3⟩
    ·exact .inr (by rw [h3,show j=k by omega])
  ·rw [tX h,ih]
   constructor
   ·rintro⟨j,h1,h2,h3⟩;exact⟨j,by omega,h2,h3⟩
   ·rintro⟨j,h1,h2,h3⟩
    rcases Nat.lt_or_ge j k with hj|hj
    ·exact⟨j,hj,h2,h3⟩
    ·exact absurd h2 (by rw [show j=k by omega];exact h)
theorem gY:∀m,x∈poA R n m↔∃i j,i<m∧j<n∧mE R i j=1∧x=[(i:Int),(j:Int)]
 |0=>by simp [poA]
 |m+1=>by
  have ih:=gY m
  rw [poA,List.mem_append,ih,qK]
  constructor
  ·rintro(⟨i,j,h1,h2⟩|⟨j,h1,h2⟩)
   ·exact⟨i,j,by omega,h2⟩
   ·exact⟨m,j,by omega,h1,h2⟩
  ·rintro⟨i,j,h1,h2,h3⟩
   rcases Nat.lt_or_ge i m with hi|hi
   ·exact .inl ⟨i,j,hi,h2,h3⟩
   ·exact .inr ⟨j,h2,by rw [←show i=m by omega];exact h3⟩
theorem aEz:∀k,(cN R i k).Nodup
 |0=>List.nodup_nil
 |k+1=>by
  have ih:=aEz k
  by_cases h:mE R i k=1
  ·rw [kC h,List.nodup_append]
   refine⟨ih,by simp,fun a ha b hb e=>?_⟩
   rw [List.mem_singleton]at hb
   subst e hb
   obtain⟨j,h1,_,h3⟩:=(qK k).1 ha
   simp at h3;omega
  ·rw [tX h];exact ih
theorem aFX:∀m,(poA R n m).Nodup
 |0=>List.nodup_nil
 |m+1=>by
  rw [poA,List.nodup_append]
  refine⟨aFX m,aEz n,fun a ha b hb e=>?_⟩
  subst e
  obtain⟨i,j,h1,_,_,h3⟩:=(gY m).1 ha
  obtain⟨j',_,_,h4⟩:=(qK n).1 hb
  rw [h3]at h4
  simp at h4;omega
theorem aBZ:∀k,j<k→mE R i j=1→∃r,cN R i k=cN R i j++[[(i:Int),(j:Int)]]++r
 |0,h,_=>absurd h (Nat.not_lt_zero j)
 |k+1,h,hj=>by
  rcases Nat.lt_or_ge j k with h1|h1
  ·obtain⟨r,e⟩:=aBZ k h1 hj
   by_cases hk:mE R i k=1
   ·exact⟨r++[[(i:Int),(k:Int)]],by rw [kC hk,e,List.append_assoc]⟩
   ·exact⟨r,by rw [tX hk,e]⟩
  ·obtain rfl:j=k:=by omega
   exact⟨[],by rw [kC hj,List.append_nil]⟩
theorem aG8:∀m,i<m→∃r,poA R n m=poA R n i++cN R i n++r
 |0,h=>absurd h (Nat.not_lt_zero i)
 |m+1,h=>by
  rcases Nat.lt_or_ge i m with h1|h1
  ·obtain⟨r,e⟩:=aG8 m h1
   exact⟨r++cN R m n,by rw [poA,e,List.append_assoc]⟩
  ·obtain rfl:i=m:=by omega
   exact⟨[],by rw [poA,List.append_nil]⟩
theorem aG9 (hi:i<n) (hj:j<n) (h:mE R i j=1):fnd (poA R n n) [(i:Int),(j:Int)]=poN R n i j:=by
 obtain⟨r,e1⟩:=aG8 n hi
 obtain⟨q,e2⟩:=aBZ n hj h
 have e:poA R n n=(poA R n i++cN R i j)++[(i:Int),(j:Int)]::(q++r):=by rw [e1,e2];simp
 have hl:(poA R n i++cN R i j).length<(poA R n n).length:=by rw [e,List.length_append];simp
 have h1:=aFF (aFX (R:=R) (n:=n) n) hl
 have h2:(poA R n n).getD (poA R n i++cN R i j).length []=[(i:Int),(j:Int)]:=by
  rw [List.getD_eq_getElem?_getD,e,List.getElem?_append_right (Nat.le_refl _),Nat.sub_self];rfl
 rw [h2]at h1
 rw [h1,List.length_append];rfl
theorem PoOK.tab (h:PoOK R n):TabOK n (poA R n n) poU poP:=by
 have h6:=h.n6
 have hl:=aAf (R:=R) (n:=n) n
 have hnn:n*n≤6*6:=Nat.mul_le_mul h6 h6
 refine⟨by omega,by omega,aFX n,fun r hr=>?_,fun r hr=>?_,fun i hi=>⟨?_,rfl,rfl⟩,fun r hr s hs e=>?_,fun r hr=>?_,fun r hr=>?_,fun r hr s hs q hq e1 e2=>rfl⟩
 ·obtain⟨i,j,h1,h2,h3,rfl⟩:=(gY n).1 hr
  show(0:Int)≤i∧(i:Int)<n;omega
 ·obtain⟨i,j,h1,h2,h3,rfl⟩:=(gY n).1 hr
  show(0:Int)≤j∧(j:Int)<n;omega
 ·exact(gY n).2 ⟨i,i,hi,hi,h.rf i hi,rfl⟩
 ·obtain⟨i,j,h1,h2,h3,rfl⟩:=(gY n).1 hr
  obtain⟨i',k,h4,h5,h7,rfl⟩:=(gY n).1 hs
  have e':(j:Int)=i':=e
  obtain rfl:j=i':=by omega
  exact⟨(gY n).2 ⟨i,k,h1,h5,h.tr i j k h1 h2 h5 h3 h7,rfl⟩,rfl,rfl⟩
 ·obtain⟨i,j,h1,h2,h3,rfl⟩:=(gY n).1 hr
  show [(((i:Int).toNat:Nat):Int),(j:Int)]=_
  rw [Int.toNat_natCast]
 ·obtain⟨i,j,h1,h2,h3,rfl⟩:=(gY n).1 hr
  show [(i:Int),(((j:Int).toNat:Nat):Int)]=_
  rw [Int.toNat_natCast]
theorem PoOK.cat (h:PoOK R n):IsCat (poC R n):=h.tab.cat
theorem PoOK.len (h:PoOK R n):(poA R n n).length≤36:=by
 have hl:=aAf (R:=R) (n:=n) n
 have hnn:n*n≤6*6:=Nat.mul_le_mul h.n6 h.n6
 omega
end
end Go.Cats
end
section
namespace Go.Cats
def shI (m:Nat) (h:Int):Int:=if 0≤h then h+m else h
def smC (c d:Cat):Cat:=⟨c.ob+d.ob,c.fr++d.fr.map (· +c.ob),c.to++d.to.map (· +c.ob),c.id++d.id.map (· +(c.fr.length:Int)),
 c.co.map (fun r=>r++List.replicate d.fr.length (-1))++d.co.map (fun r=>List.replicate c.fr.length (-1)++r.map (shI c.fr.length))⟩
section
variable {c d:Cat} {x y:Int}
theorem aGx {l k:List Int} (h0:0≤x) (h1:x<l.length):(l++k).getD x.toNat 0=l.getD x.toNat 0:=by
 rw [List.getD_eq_getElem?_getD,List.getElem?_append_left (by omega),←List.getD_eq_getElem?_getD]
theorem aGy {l k:List Int} {g:Int→Int} (h0:0≤y) (h1:y<k.length):(l++k.map g).getD ((l.length:Int)+y).toNat 0=g (k.getD y.toNat 0):=by
 have e:((l.length:Int)+y).toNat=l.length+y.toNat:=by omega
 rw [e,List.getD_eq_getElem?_getD,List.getElem?_append_right (by omega),Nat.add_sub_cancel_left,List.getElem?_map,List.getElem?_eq_getElem (by omega),List.getD_eq_getElem?_getD,List.getElem?_eq_getElem (by omega)]
 rfl
theorem aKZ {n k:Nat} (h:k<n):(List.replicate n (-1:Int)).getD k 0= -1:=by
 rw [List.getD_eq_getElem?_getD,List.getElem?_replicate,if_pos h];rfl
theorem aAx:(smC c d).fr.length=c.fr.length+d.fr.length:=by unfold smC;rw [List.length_append,List.length_map]
theorem pN (h0:0≤x) (h1:x<c.fr.length):(smC c d).F x=c.F x:=aGx h0 h1
theorem pO (h0:0≤y) (h1:y<d.fr.length):(smC c d).F ((c.fr.length:Int)+y)=d.F y+c.ob:=aGy (g:=(· +c.ob)) h0 h1
theorem pP (sc:Shape c) (h0:0≤x) (h1:x<c.fr.length):(smC c d).T x=c.T x:=aGx h0 (by rw [sc.tol];exact h1)
theorem pQ (sc:Shape c) (sd:Shape d) (h0:0≤y) (h1:y<d.fr.length):(smC c d).T ((c.fr.length:Int)+y)=d.T y+c.ob:=by
 have:=aGy (l:=c.to) (k:=d.to) (g:=(· +c.ob)) h0 (by rw [sd.tol];exact h1)
 rw [sc.tol]at this
 exact this
theorem aHw (sc:Shape c) (h0:0≤x) (h1:x<c.ob):(smC c d).I x=c.I x:=aGx h0 (by rw [sc.idl];exact h1)
theorem aHx (sc:Shape c) (sd:Shape d) (h0:0≤y) (h1:y<d.ob):(smC c d).I (c.ob+y)=d.I y+c.fr.length:=by
 have:=aGy (l:=c.id) (k:=d.id) (g:=(· +(c.fr.length:Int))) h0 (by rw [sd.idl];exact h1)
 rw [sc.idl]at this
 exact this
theorem aLm (sc:Shape c) (h0:0≤x) (h1:x<c.fr.length):(smC c d).co.getD x.toNat []=c.co.getD x.toNat []++List.replicate d.fr.length (-1):=by
 have hl:x.toNat<c.co.length:=by rw [sc.col];omega
 unfold smC
 rw [List.getD_eq_getElem?_getD,List.getElem?_append_left (by rw [List.length_map];exact hl),List.getElem?_map,List.getElem?_eq_getElem hl,List.getD_eq_getElem?_getD,List.getElem?_eq_getElem hl];rfl
theorem aLn (sc:Shape c) (sd:Shape d) (h0:0≤y) (h1:y<d.fr.length):(smC c d).co.getD ((c.fr.length:Int)+y).toNat []=List.replicate c.fr.length (-1)++(d.co.getD y.toNat []).map (shI c.fr.length):=by
 have hl:y.toNat<d.co.length:=by rw [sd.col];omega
 have e:((c.fr.length:Int)+y).toNat=c.fr.length+y.toNat:=by omega
 unfold smC
 rw [e,List.getD_eq_getElem?_getD,List.getElem?_append_right (by rw [List.length_map,sc.col];omega),List.length_map,sc.col,Nat.add_sub_cancel_left,List.getElem?_map,List.getElem?_eq_getElem hl,List.getD_eq_getElem?_getD,List.getElem?_eq_getElem hl];rfl
theorem sL (sc:Shape c) (h0:0≤x) (h1:x<c.fr.length) (k0:0≤y) (k1:y<c.fr.length):(smC c d).C x y=c.C x y:=by
 have h:=(sc.coe x.toNat (by omega)).1
 show(((smC c d).co.getD x.toNat []).getD y.toNat 0)=_
 rw [aLm sc h0 h1]
 exact aGx k0 (by rw [h];exact k1)
theorem aPr (sc:Shape c) (h0:0≤x) (h1:x<c.fr.length) (k0:0≤y) (k1:y<d.fr.length):(smC c d).C x ((c.fr.length:Int)+y)= -1:=by
 have h:=(sc.coe x.toNat (by omega)).1
 show(((smC c d).co.getD x.toNat []).getD _ 0)=_
 have e:((c.fr.length:Int)+y).toNat=c.fr.length+y.toNat:=by omega
 rw [aLm sc h0 h1,e,List.getD_eq_getElem?_getD,List.getElem?_append_right (by omega),h,Nat.add_sub_cancel_left,←List.getD_eq_getElem?_getD,aKZ (by omega)]
theorem aPs (sc:Shape c) (sd:Shape d) (h0:0≤x) (h1:x<d.fr.length) (k0:0≤y) (k1:y<c.fr.length):(smC c d).C ((c.fr.length:Int)+x) y= -1:=by
 show(((smC c d).co.getD _ []).getD y.toNat 0)=_
 rw [aLn sc sd h0 h1,List.getD_eq_getElem?_getD,List.getElem?_append_left (by rw [List.length_replicate];omega),←List.getD_eq_getElem?_getD,aKZ (by omega)]
theorem aLl (sc:Shape c) (sd:Shape d) (h0:0≤x) (h1:x<d.fr.length) (k0:0≤y) (k1:y<d.fr.length):(smC c d).C ((c.fr.length:Int)+x) ((c.fr.length:Int)+y)=shI c.fr.length (d.C x y):=by
 have h:=(sd.coe x.toNat (by omega)).1
 show(((smC c d).co.getD _ []).getD _ 0)=_
 rw [aLn sc sd h0 h1]
 have:=aGy (y:=y) (l:=List.replicate c.fr.length (-1)) (k:=d.co.getD x.toNat []) (g:=shI c.fr.length) k0 (by rw [h];exact k1)
 rw [List.length_replicate]at this
 exact this
theorem dR {f:Nat} (h:f<c.fr.length+d.fr.length):(0≤(f:Int)∧(f:Int)<c.fr.length)∨∃y:Int,0≤y∧y<d.fr.length∧(f:Int)=(c.fr.length:Int)+y:=by
 rcases Nat.lt_or_ge f c.fr.length with h1|h1
 ·exact .inl ⟨by omega,by omega⟩
 ·exact .inr ⟨(f:Int)-c.fr.length,by omega,by omega,by omega⟩
theorem aDa (hc:IsCat c) (hd:IsCat d) (h8:c.ob+d.ob≤8) (h40:c.fr.length+d.fr.length≤40):IsCat (smC c d):=by
 have sc:=hc.toShape
 have sd:=hd.toShape
 have e1:=sc.idl
 have e2:=sd.idl
 have o1:=sc.ob0
 have o2:=sd.ob0
 have cF:∀z:Int,0≤z→z<c.fr.length→0≤c.F z∧c.F z<c.ob:=fun z h0 h1=>sc.frw z.toNat (by omega)
 have cT:∀z:Int,0≤z→z<c.fr.length→0≤c.T z∧c.T z<c.ob:=fun z h0 h1=>sc.tow z.toNat (by rw [sc.tol];omega)
 have dF:∀z:Int,0≤z→z<d.fr.length→0≤d.F z∧d.F z<d.ob:=fun z h0 h1=>sd.frw z.toNat (by omega)
 have dT:∀z:Int,0≤z→z<d.fr.length→0≤d.T z∧d.T z<d.ob:=fun z h0 h1=>sd.tow z.toNat (by rw [sd.tol];omega)
 have hid:(smC c d).id.length=c.id.length+d.id.length:=by unfold smC;rw [List.length_append,List.length_map]
 have hto:(smC c d).to.length=c.fr.length+d.fr.length:=by unfold smC;rw [List.length_append,List.length_map,sc.tol,sd.tol]
 have sI:∀i:Nat,i<(smC c d).id.length→(0≤(i:Int)∧(i:Int)<c.ob)∨∃y:Int,0≤y∧y<d.ob∧(i:Int)=c.ob+y:=fun i hi=>by
  rw [hid]at hi
  rcases Nat.lt_or_ge i c.id.length with h1|h1
  ·exact .inl ⟨by omega,by omega⟩
  ·exact .inr ⟨(i:Int)-c.ob,by omega,by omega,by omega⟩
 have shp:Shape (smC c d):=by
  refine⟨by show 0≤c.ob+d.ob;omega,h8,by rw [aAx];exact h40,by rw [aAx,hto],fun f hf=>?_,fun f hf=>?_,?_,fun i hi=>?_,?_,fun i hi=>?_,fun f hf=>⟨?_,fun g hg=>?_⟩⟩
  ·rw [aAx]at hf
   show 0≤(smC c d).F (f:Int)∧(smC c d).F (f:Int)<c.ob+d.ob
   rcases dR hf with⟨h0,h1⟩|⟨y,h0,h1,e⟩
   ·rw [pN h0 h1];have:=cF _ h0 h1;omega
   ·rw [e,pO h0 h1];have:=dF _ h0 h1;omega
  ·rw [hto]at hf
   show 0≤(smC c d).T (f:Int)∧(smC c d).T (f:Int)<c.ob+d.ob
   rcases dR hf with⟨h0,h1⟩|⟨y,h0,h1,e⟩
   ·rw [pP sc h0 h1];have:=cT _ h0 h1;omega
   ·rw [e,pQ sc sd h0 h1];have:=dT _ h0 h1;omega
  ·rw [hid];show _=c.ob+d.ob;omega
  ·show 0≤(smC c d).I (i:Int)∧(smC c d).I (i:Int)<_
   rw [aAx]
   rcases sI i hi with⟨h0,h1⟩|⟨y,h0,h1,e⟩
   ·rw [aHw sc h0 h1];have:=hc.idI h0 h1;omega
   ·rw [e,aHx sc sd h0 h1];have:=hd.idI h0 h1;omega
  ·rw [aAx]
   unfold smC
   rw [List.length_append,List.length_map,List.length_map,sc.col,sd.col]
  ·show(smC c d).F ((smC c d).I (i:Int))=i∧(smC c d).T ((smC c d).I (i:Int))=i
   rcases sI i hi with⟨h0,h1⟩|⟨y,h0,h1,e⟩
   ·obtain⟨a1,a2,a3,a4⟩:=hc.idI h0 h1
    rw [aHw sc h0 h1,pN a1 a2,pP sc a1 a2];exact⟨a3,a4⟩
   ·obtain⟨a1,a2,a3,a4⟩:=hd.idI h0 h1
    rw [e,aHx sc sd h0 h1,Int.add_comm (d.I y),pO a1 a2,pQ sc sd a1 a2,a3,a4];omega
  ·rw [aAx]at hf⊢
   show((smC c d).co.getD (f:Int).toNat []).length=_
   rcases dR hf with⟨h0,h1⟩|⟨y,h0,h1,e⟩
   ·have h:=(sc.coe f (by omega)).1
    rw [aLm sc h0 h1,List.length_append,List.length_replicate,Int.toNat_natCast,h]
   ·have h:=(sd.coe y.toNat (by omega)).1
    rw [e,aLn sc sd h0 h1,List.length_append,List.length_replicate,List.length_map,h]
  ·rw [aAx]at hf hg
   show((smC c d).T (f:Int)=(smC c d).F (g:Int)∧(0≤(smC c d).C f g∧(smC c d).C f g<_)∧(smC c d).F ((smC c d).C f g)=(smC c d).F (f:Int)∧(smC c d).T ((smC c d).C f g)=(smC c d).T (g:Int))∨((smC c d).T (f:Int)≠(smC c d).F (g:Int)∧(smC c d).C f g= -1)
   rw [aAx]
   rcases dR hf with⟨h0,h1⟩|⟨y,h0,h1,e⟩
   ·rcases dR hg with⟨k0,k1⟩|⟨z,k0,k1,e'⟩
    ·rw [pP sc h0 h1,pN k0 k1,sL sc h0 h1 k0 k1]
     by_cases h:c.T f=c.F g
     ·obtain⟨p1,p2,p3,p4⟩:=hc.compI h0 h1 k0 k1 h
      exact .inl ⟨h,⟨p1,by omega⟩,by rw [pN p1 p2,pN h0 h1,p3],by rw [pP sc p1 p2,pP sc k0 k1,p4]⟩
     ·rcases(sc.coe f (by omega)).2 g (by omega)with q|q
      ·exact absurd q.1 h
      ·exact .inr ⟨h,q.2⟩
    ·rw [e',pP sc h0 h1,pO k0 k1,aPr sc h0 h1 k0 k1]
     have:=cT _ h0 h1
     have:=dF _ k0 k1
     exact .inr ⟨by omega,rfl⟩
   ·rcases dR hg with⟨k0,k1⟩|⟨z,k0,k1,e'⟩
    ·rw [e,pQ sc sd h0 h1,pN k0 k1,aPs sc sd h0 h1 k0 k1]
     have:=dT _ h0 h1
     have:=cF _ k0 k1
     exact .inr ⟨by omega,rfl⟩
    ·rw [e,e',pQ sc sd h0 h1,pO k0 k1,aLl sc sd h0 h1 k0 k1]
     by_cases h:d.T y=d.F z
     ·obtain⟨p1,p2,p3,p4⟩:=hd.compI h0 h1 k0 k1 h
      have es:shI c.fr.length (d.C y z)=(c.fr.length:Int)+d.C y z:=by unfold shI;rw [if_pos p1];omega
      exact .inl ⟨by omega,by rw [es];omega,by rw [es,pO p1 p2,pO h0 h1,p3],by rw [es,pQ sc sd p1 p2,pQ sc sd k0 k1,p4]⟩
     ·have hn:d.C y z= -1:=by
       rcases(sd.coe y.toNat (by omega)).2 z.toNat (by omega)with q|q
       ·exact absurd q.1 h
       ·have:=q.2
        rwa [Int.toNat_of_nonneg h0,Int.toNat_of_nonneg k0]at this
      exact .inr ⟨by omega,by rw [hn];rfl⟩
 have comp1:∀{y z:Int},0≤y→y<d.fr.length→0≤z→z<d.fr.length→d.T y=d.F z→(smC c d).C ((c.fr.length:Int)+y) ((c.fr.length:Int)+z)=(c.fr.length:Int)+d.C y z:=fun h0 h1 k0 k1 h=>by
  have p1:=(hd.compI h0 h1 k0 k1 h).1
  rw [aLl sc sd h0 h1 k0 k1];unfold shI;rw [if_pos p1];omega
 refine⟨shp,fun f hf=>?_,fun f hf=>?_,fun f g q hf hg hq m1 m2=>?_⟩
 ·rw [aAx]at hf
  rcases dR hf with⟨h0,h1⟩|⟨y,h0,h1,e⟩
  ·obtain⟨a1,a2,a3,a4⟩:=hc.idI (cF _ h0 h1).1 (cF _ h0 h1).2
   rw [pN h0 h1,aHw sc (cF _ h0 h1).1 (cF _ h0 h1).2,sL sc a1 a2 h0 h1,hc.unlI h0 h1]
  ·obtain⟨a1,a2,a3,a4⟩:=hd.idI (dF _ h0 h1).1 (dF _ h0 h1).2
   rw [e,pO h0 h1,Int.add_comm (d.F y),aHx sc sd (dF _ h0 h1).1 (dF _ h0 h1).2,Int.add_comm (d.I _),comp1 a1 a2 h0 h1 a4,hd.unlI h0 h1]
 ·rw [aAx]at hf
  rcases dR hf with⟨h0,h1⟩|⟨y,h0,h1,e⟩
  ·obtain⟨a1,a2,a3,a4⟩:=hc.idI (cT _ h0 h1).1 (cT _ h0 h1).2
   rw [pP sc h0 h1,aHw sc (cT _ h0 h1).1 (cT _ h0 h1).2,sL sc h0 h1 a1 a2,hc.unrI h0 h1]
  ·obtain⟨a1,a2,a3,a4⟩:=hd.idI (dT _ h0 h1).1 (dT _ h0 h1).2
   rw [e,pQ sc sd h0 h1,Int.add_comm (d.T y),aHx sc sd (dT _ h0 h1).1 (dT _ h0 h1).2,Int.add_comm (d.I _),comp1 h0 h1 a1 a2 a3.symm,hd.unrI h0 h1]
 ·rw [aAx]at hf hg hq
  rcases dR hf with⟨h0,h1⟩|⟨y,h0,h1,e⟩
  ·rcases dR hg with⟨k0,k1⟩|⟨z,k0,k1,e'⟩
   ·rcases dR hq with⟨l0,l1⟩|⟨u,l0,l1,e2⟩
    ·rw [pP sc h0 h1,pN k0 k1]at m1
     rw [pP sc k0 k1,pN l0 l1]at m2
     obtain⟨p1,p2,p3,p4⟩:=hc.compI h0 h1 k0 k1 m1
     obtain⟨r1,r2,r3,r4⟩:=hc.compI k0 k1 l0 l1 m2
     rw [sL sc h0 h1 k0 k1,sL sc k0 k1 l0 l1,sL sc p1 p2 l0 l1,sL sc h0 h1 r1 r2,hc.assI h0 h1 k0 k1 l0 l1 m1 m2]
    ·rw [e2,pP sc k0 k1,pO l0 l1]at m2
     have:=cT _ k0 k1
     have:=dF _ l0 l1
     omega
   ·rw [e',pP sc h0 h1,pO k0 k1]at m1
    have:=cT _ h0 h1
    have:=dF _ k0 k1
    omega
  ·rcases dR hg with⟨k0,k1⟩|⟨z,k0,k1,e'⟩
   ·rw [e,pQ sc sd h0 h1,pN k0 k1]at m1
    have:=dT _ h0 h1
    have:=cF _ k0 k1
    omega
   ·rcases dR hq with⟨l0,l1⟩|⟨u,l0,l1,e2⟩
    ·rw [e',pQ sc sd k0 k1,pN l0 l1]at m2
     have:=dT _ k0 k1
     have:=cF _ l0 l1
     omega
    ·rw [e,e',pQ sc sd h0 h1,pO k0 k1]at m1
     rw [e',e2,pQ sc sd k0 k1,pO l0 l1]at m2
     have n1:d.T y=d.F z:=by omega
     have n2:d.T z=d.F u:=by omega
     obtain⟨p1,p2,p3,p4⟩:=hd.compI h0 h1 k0 k1 n1
     obtain⟨r1,r2,r3,r4⟩:=hd.compI k0 k1 l0 l1 n2
     rw [e,e',e2,comp1 h0 h1 k0 k1 n1,comp1 k0 k1 l0 l1 n2,comp1 p1 p2 l0 l1 (p4.trans n2),comp1 h0 h1 r1 r2 (n1.trans r3.symm),hd.assI h0 h1 k0 k1 l0 l1 n1 n2]
end
end Go.Cats
end
section
namespace Go.Cats
instance (c:Cat) (f g:Nat):Decidable (c.Entry f g):=by unfold Cat.Entry;infer_instance
def aHG (l:List Int) (n:Int):Bool:=l.all fun x=>decide (0≤x)&&decide (x<n)
def catB (c:Cat):Bool:=
 decide (0≤c.ob)&&decide (c.ob≤8)&&decide (c.fr.length≤40)&&decide (c.to.length=c.fr.length)&&decide ((c.id.length:Int)=c.ob)&&decide (c.co.length=c.fr.length)&&
 aHG c.fr c.ob&&aHG c.to c.ob&&aHG c.id c.fr.length&&
 ((List.range c.id.length).all fun x=>decide (c.F (c.id.getD x 0)=x)&&decide (c.T (c.id.getD x 0)=x))&&
 ((List.range c.fr.length).all fun f=>decide ((c.co.getD f []).length=c.fr.length)&&(List.range c.fr.length).all fun g=>decide (c.Entry f g))&&
 ((List.range c.fr.length).all fun f=>decide (c.C (c.I (c.F f)) f=f)&&decide (c.C f (c.I (c.T f))=f))&&
 ((List.range c.fr.length).all fun f=>(List.range c.fr.length).all fun g=> !decide (c.T f=c.F g)||(List.range c.fr.length).all fun h=> !decide (c.T g=c.F h)||decide (c.C (c.C f g) h=c.C f (c.C g h)))
theorem aBc {l:List Int} {n:Int} (h:aHG l n=true):Within l n:=fun i hi=>by
 have h1:=List.all_eq_true.1 h (l.getD i 0) (cD hi)
 simp only [Bool.and_eq_true,decide_eq_true_eq]at h1
 exact h1
theorem tE {c:Cat} (h:catB c=true):IsCat c:=by
 unfold catB at h
 simp only [Bool.and_eq_true,decide_eq_true_eq,List.all_eq_true,List.mem_range,Bool.or_eq_true,Bool.not_eq_true',decide_eq_false_iff_not]at h
 obtain⟨⟨⟨⟨⟨⟨⟨⟨⟨⟨⟨⟨h1,h2⟩,h3⟩,h4⟩,h5⟩,h6⟩,h7⟩,h8⟩,h9⟩,h10⟩,h11⟩,h12⟩,h13⟩:=h
 refine⟨⟨h1,h2,h3,h4,aBc h7,aBc h8,h5,aBc h9,h6,h10,h11⟩,fun f hf=>(h12 f hf).1,fun f hf=>(h12 f hf).2,fun f g q hf hg hq e1 e2=>?_⟩
 rcases h13 f hf g hg with k|k
 ·exact absurd e1 k
 ·rcases k q hq with k|k
  ·exact absurd e2 k
  ·exact k
def moC (t:List (List Int)):Cat:=⟨1,List.replicate t.length 0,List.replicate t.length 0,[0],t⟩
def moT:Nat→List (List Int)
 |0=>[[0]]
 |1=>[[0,1],[1,0]]
 |2=>[[0,1],[1,1]]
 |3=>[[0,1,2],[1,2,0],[2,0,1]]
 |4=>[[0,1,2],[1,1,2],[2,2,2]]
 |5=>[[0,1,2],[1,1,2],[2,1,2]]
 |6=>[[0,1,2,3],[1,0,2,3],[2,3,2,3],[3,2,2,3]]
 |_=>[[0,1,2],[1,2,2],[2,2,2]]
def opR (c:Cat) (f k:Nat):List Int:=(List.range k).map fun g:Nat=>c.C (g:Int) (f:Int)
def opC (c:Cat):Cat:=⟨c.ob,c.to,c.fr,c.id,(List.range c.fr.length).map fun f=>opR c f c.fr.length⟩
def jnF (n k:Nat):List Int:=(List.range k).map fun k=>((k/n:Nat):Int)
def jnT (o:Int) (n k:Nat):List Int:=(List.range k).map fun k=>o+((k%n:Nat):Int)
def jnE (s:Cat) (o p:Int) (fr to:List Int) (f g:Nat):Int:=
 if to.getD f 0≠fr.getD g 0 then-1 else if f<s.fr.length∧g<s.fr.length then s.C f g else(s.fr.length:Int)+fr.getD f 0*p+to.getD g 0-o
def jnW (s:Cat) (o p:Int) (fr to:List Int) (f k:Nat):List Int:=(List.range k).map (jnE s o p fr to f)
def jnC (c d:Cat):Cat:=
 let fr:=(smC c d).fr++jnF d.ob.toNat (c.ob.toNat*d.ob.toNat)
 let to:=(smC c d).to++jnT c.ob d.ob.toNat (c.ob.toNat*d.ob.toNat)
 ⟨(smC c d).ob,fr,to,(smC c d).id,(List.range fr.length).map fun f=>jnW (smC c d) c.ob d.ob fr to f fr.length⟩
def one1:Cat:=poC [[1]] 1
def splC:Cat:=⟨2,[0,1,0,0,1],[0,1,0,1,0],[0,1],[[0, -1,2,3, -1],[-1,1, -1, -1,4],[2, -1,2,3, -1],[-1,3, -1, -1,2],[4, -1,4,1, -1]]⟩
theorem jZ (P:List (List Int)→Prop) (h:∀i,i<8→P (moT i)) (k:Nat):P (moT k):=by
 rcases Nat.lt_or_ge k 8 with h1|h1
 ·exact h k h1
 ·have e:moT k=moT 7:=by
   match k,h1 with
   |k+8,_=>rfl
  rw [e];exact h 7 (by decide)
theorem aFR (k:Nat):IsCat (moC (moT k)):=jZ (fun t=>IsCat (moC t)) (fun i hi=>tE (by
 have:((List.range 8).all fun i=>catB (moC (moT i)))=true:=by decide+kernel
 exact List.all_eq_true.1 this i (List.mem_range.2 hi))) k
theorem aJ8 (k:Nat):IsCat (jnC (moC (moT k)) one1):=jZ (fun t=>IsCat (jnC (moC t) one1)) (fun i hi=>tE (by
 have:((List.range 8).all fun i=>catB (jnC (moC (moT i)) one1))=true:=by decide+kernel
 exact List.all_eq_true.1 this i (List.mem_range.2 hi))) k
theorem aKt (k:Nat):IsCat (opC (jnC (moC (moT k)) one1)):=jZ (fun t=>IsCat (opC (jnC (moC t) one1))) (fun i hi=>tE (by
 have:((List.range 8).all fun i=>catB (opC (jnC (moC (moT i)) one1)))=true:=by decide+kernel
 exact List.all_eq_true.1 this i (List.mem_range.2 hi))) k
theorem aNs:IsCat splC:=tE (by decide+kernel)
end Go.Cats
end
section
namespace Go.Cats
def wS (R:List (List Int)) (k i j:Nat):List (List Int):=if mE R i k=1∧mE R k j=1 then R.set i ((R.getD i []).set j 1)else R
def wJ (R:List (List Int)) (k i:Nat):Nat→List (List Int)
 |0=>R
 |j+1=>wS (wJ R k i j) k i j
def wI (R:List (List Int)) (n k:Nat):Nat→List (List Int)
 |0=>R
 |i+1=>wJ (wI R n k i) k i n
def wK (R:List (List Int)) (n:Nat):Nat→List (List Int)
 |0=>R
 |k+1=>wI (wK R n k) n k n
def poB (R:List (List Int)) (n:Nat):Bool:=
 decide (n≤6)&&((List.range n).all fun i=>decide (mE R i i=1))&&((List.range n).all fun i=>(List.range n).all fun j=>(List.range n).all fun k=> !(decide (mE R i j=1)&&decide (mE R j k=1))||decide (mE R i k=1))
theorem vR {R:List (List Int)} {n:Nat} (h:poB R n=true):PoOK R n:=by
 unfold poB at h
 simp only [Bool.and_eq_true,decide_eq_true_eq,List.all_eq_true,List.mem_range,Bool.or_eq_true,Bool.not_eq_true',Bool.and_eq_false_iff,decide_eq_false_iff_not]at h
 obtain⟨⟨h1,h2⟩,h3⟩:=h
 refine⟨h1,h2,fun i j k hi hj hk a b=>?_⟩
 rcases h3 i hi j hj k hk with(q|q)|q
 ·exact absurd a q
 ·exact absurd b q
 ·exact q
def aIY (n i:Nat) (r:List Int):Prop:=r.length=n∧∀j,j<n→(j<i→r.getD j 0=0)∧(j=i→r.getD j 0=1)∧(i<j→r.getD j 0=0∨r.getD j 0=1)
structure RelOk (n:Nat) (R:List (List Int)):Prop where
 len:R.length=n
 row:∀i,i<n→aIY n i (R.getD i [])
def aEJ (n i:Nat):Nat→List (List Int)
 |0=>[[]]
 |k+1=>(aEJ n i k).flatMap fun r=>if k<i then [r++[0]]else if k=i then [r++[1]]else [r++[0],r++[1]]
def aEG (n:Nat):Nat→List (List (List Int))
 |0=>[[]]
 |i+1=>(aEG n i).flatMap fun R=>(aEJ n i n).map fun r=>R++[r]
def aC3 (n:Nat) (R:List (List Int)):Option Nat→List (List Int)
 |none=>R
 |some x=>R.set (n-1) ((R.getD (n-1) []).set x 1)
theorem aHy {α:Type} {l:List α} {k:Nat} {d:α} (h:l.length=k+1):l=l.take k++[l.getD k d]:=by
 have e:=List.take_succ_eq_append_getElem (l:=l) (i:=k) (by omega)
 rw [List.take_of_length_le (by omega)]at e
 rw [List.getD_eq_getElem?_getD,List.getElem?_eq_getElem (by omega)]
 exact e
theorem aB8 {n i:Nat}:∀(k:Nat) (r:List Int),r.length=k→(∀j,j<k→(j<i→r.getD j 0=0)∧(j=i→r.getD j 0=1)∧(i<j→r.getD j 0=0∨r.getD j 0=1))→r∈aEJ n i k
 |0,r,h,_=>by rw [List.length_eq_zero_iff.1 h];simp [aEJ]
 |k+1,r,h,hr=>by
  have e:=aHy (d:=0) h
  have hl:(r.take k).length=k:=by rw [List.length_take];omega
  have ih:=aB8 (n:=n) (i:=i) k (r.take k) hl fun j hj=>by
   have:=hr j (by omega)
   have e2:(r.take k).getD j 0=r.getD j 0:=by rw [List.getD_eq_getElem?_getD,List.getElem?_take,if_pos hj,←List.getD_eq_getElem?_getD]
   rw [e2];exact this
  have hk:=hr k (by omega)
  rw [aEJ,List.mem_flatMap]
  refine⟨_,ih,?_⟩
  split
  ·rename_i h1
   rw [List.mem_singleton,←hk.1 h1];exact e
  ·split
   ·rename_i h1
    rw [List.mem_singleton]
    have:=hk.2.1 h1
    rw [this]at e;exact e
   ·have:=hk.2.2 (by omega)
    rcases this with h0|h0
    ·rw [h0]at e;exact List.mem_cons.2 (.inl e)
    ·rw [h0]at e;exact List.mem_cons.2 (.inr (List.mem_singleton.2 e))
theorem aB6 {n:Nat}:∀(k:Nat) (R:List (List Int)),k≤n→R.length=k→(∀i,i<k→aIY n i (R.getD i []))→R∈aEG n k
 |0,R,_,h,_=>by rw [List.length_eq_zero_iff.1 h];simp [aEG]
 |k+1,R,hn,h,hr=>by
  have e:=aHy (d:=[]) h
  have hl:(R.take k).length=k:=by rw [List.length_take];omega
  have ih:=aB6 (n:=n) k (R.take k) (by omega) hl fun i hi=>by
   have:=hr i (by omega)
   have e2:(R.take k).getD i []=R.getD i []:=by rw [List.getD_eq_getElem?_getD,List.getElem?_take,if_pos hi,←List.getD_eq_getElem?_getD]
   rw [e2];exact this
  have hk:=hr k (by omega)
  rw [aEG,List.mem_flatMap]
  exact⟨_,ih,List.mem_map.2 ⟨_,aB8 n _ hk.1 hk.2,e.symm⟩⟩
theorem aKX:((List.range 5).all fun n=>(aEG n n).all fun R=>poB (wK R n n) n&&(List.range n).all fun x=>poB (wK (aC3 n R (some x)) n n) n)=true:=by decide+kernel
theorem aPj {n:Nat} {R:List (List Int)} {x:Option Nat} (hn:n<5) (h:RelOk n R) (hx:∀y,x=some y→y<n):PoOK (wK (aC3 n R x) n n) n:=by
 have h1:=List.all_eq_true.1 (List.all_eq_true.1 aKX n (List.mem_range.2 hn)) R (aB6 n R (Nat.le_refl n) h.len h.row)
 simp only [Bool.and_eq_true,List.all_eq_true,List.mem_range]at h1
 cases x with
 |none=>exact vR h1.1
 |some y=>exact vR (h1.2 y (hx y rfl))
def oT (n:Nat):List (List Int):=List.replicate n (List.replicate n 1)
theorem aBy {n:Nat} (hn:n<5):PoOK (oT n) n:=vR (by
 have:((List.range 5).all fun n=>poB (oT n) n)=true:=by decide+kernel
 exact List.all_eq_true.1 this n (List.mem_range.2 hn))
theorem po1:PoOK [[1]] 1:=vR (by decide)
theorem po2:PoOK [[1,1],[0,1]] 2:=vR (by decide)
theorem po3:PoOK [[1,1,1],[0,1,0],[0,0,1]] 3:=vR (by decide)
end Go.Cats
end
section
namespace Go.Cats
abbrev Pth:=Int×Int×List Int
def bA:Pth:=(0,0,[])
def bfE (fr to:List Int) (p:Pth):Nat→List Pth
 |0=>[]
 |e+1=>if fr.getD e 0=p.2.1 then bfE fr to p e++[(p.1,to.getD e 0,p.2.2++[(e:Int)])]else bfE fr to p e
def bf0 (n:Nat):List Pth:=(List.range n).map fun x:Nat=>((x:Int),(x:Int),[])
def bfK (fr to:List Int):Nat→List Pth→Nat→List Pth
 |0,L,_=>L
 |q+1,L,k=>if k<L.length∧L.length≤40 then bfK fr to q (L++bfE fr to (L.getD k bA) fr.length) (k+1)else L
def aEw (a b:Pth):Bool:=if a.1≠b.1 then decide (a.1<b.1)else if a.2.1≠b.2.1 then decide (a.2.1<b.2.1)else tR a.2.2 b.2.2
def swP (L:List Pth) (k:Nat):List Pth:=(L.set (k+1) (L.getD k bA)).set k (L.getD (k+1) bA)
def dnP (L:List Pth):Nat→List Pth
 |0=>L
 |k+1=>if aEw (L.getD (k+1) bA) (L.getD k bA)then dnP (swP L k) k else L
def stP (L:List Pth):Nat→List Pth
 |0=>L
 |i+1=>dnP (stP L i) i
def gS (n:Nat) (fr to:List Int):List Pth:=let L:=bfK fr to 64 (bf0 n) 0;stP L L.length
def idP (n:Nat) (A:List Pth):Nat→List Int
 |0=>List.replicate n 0
 |i+1=>if(A.getD i bA).2.2=[]then(idP n A i).set (A.getD i bA).1.toNat (i:Int)else idP n A i
def tQ (A:List Pth) (f:Int) (b:List Int):Nat→Int
 |0=> -1
 |k+1=>if(A.getD k bA).1=f∧(A.getD k bA).2.2=b then(k:Int)else tQ A f b k
def coP (A:List Pth) (i j:Nat):Int:=if(A.getD i bA).2.1=(A.getD j bA).1 then tQ A (A.getD i bA).1 ((A.getD i bA).2.2++(A.getD j bA).2.2) A.length else-1
def cwP (A:List Pth) (i k:Nat):List Int:=(List.range k).map (coP A i)
def ptC (n:Nat) (A:List Pth):Cat:=⟨n,A.map (·.1),A.map (·.2.1),idP n A A.length,(List.range A.length).map fun i=>cwP A i A.length⟩
structure GrOk (n:Nat) (fr to:List Int):Prop where
 n2:n=2∨n=3
 len:fr.length≤3
 tol:to.length=fr.length
 edge:∀e,e<fr.length→0≤fr.getD e 0∧fr.getD e 0<to.getD e 0∧to.getD e 0<n
def egs (n:Nat):List (Int×Int):=if n=2 then [(0,1)]else [(0,1),(0,2),(1,2)]
def grs (n:Nat):Nat→List (List Int×List Int)
 |0=>[([],[])]
 |k+1=>(grs n k).flatMap fun g=>(egs n).map fun e=>(g.1++[e.1],g.2++[e.2])
theorem aEq {l:List Int} {k:Nat} (h:l.length=k+1):l=l.take k++[l.getD k 0]:=by
 have e:=List.take_succ_eq_append_getElem (l:=l) (i:=k) (by omega)
 rw [List.take_of_length_le (by omega)]at e
 rw [List.getD_eq_getElem?_getD,List.getElem?_eq_getElem (by omega)]
 exact e
theorem take_at {l:List Int} {k e:Nat} (h:e<k):(l.take k).getD e 0=l.getD e 0:=by
 rw [List.getD_eq_getElem?_getD,List.getElem?_take,if_pos h,←List.getD_eq_getElem?_getD]
theorem yH {n:Nat} (hn:n=2∨n=3):∀(k:Nat) (fr to:List Int),fr.length=k→to.length=k→(∀e,e<k→0≤fr.getD e 0∧fr.getD e 0<to.getD e 0∧to.getD e 0<n)→(fr,to)∈grs n k
 |0,fr,to,h1,h2,_=>by rw [List.length_eq_zero_iff.1 h1,List.length_eq_zero_iff.1 h2];simp [grs]
 |k+1,fr,to,h1,h2,h=>by
  have e1:=aEq h1
  have e2:=aEq h2
  have ih:=yH hn k (fr.take k) (to.take k) (by rw [List.length_take];omega) (by rw [List.length_take];omega) fun e he=>by
   rw [take_at he,take_at he];exact h e (by omega)
  have hk:=h k (by omega)
  rw [grs,List.mem_flatMap]
  refine⟨_,ih,List.mem_map.2 ⟨(fr.getD k 0,to.getD k 0),?_,by rw [←e1,←e2]⟩⟩
  generalize fr.getD k 0=a at hk
  generalize to.getD k 0=b at hk
  unfold egs
  rcases hn with rfl|rfl
  ·obtain rfl:a=0:=by omega
   obtain rfl:b=1:=by omega
   simp
  ·rw [if_neg (by decide)]
   have ha:a=0∨a=1:=by omega
   rcases ha with rfl|rfl
   ·have hb:b=1∨b=2:=by omega
    rcases hb with rfl|rfl<;>simp
   ·obtain rfl:b=2:=by omega
    simp
def ptB (n:Nat) (fr to:List Int):Bool:=
 let L:=bfK fr to 64 (bf0 n) 0
 decide (L.length≤40)&&catB (ptC n (gS n fr to))
theorem aMB:((List.range 4).all fun k=>(grs 2 k).all fun g=>ptB 2 g.1 g.2)=true:=by decide+kernel
theorem aJQ:((List.range 4).all fun k=>(grs 3 k).all fun g=>ptB 3 g.1 g.2)=true:=by decide+kernel
theorem GrOk.b {n:Nat} {fr to:List Int} (h:GrOk n fr to):ptB n fr to=true:=by
 have hm:=yH h.n2 fr.length fr to rfl h.tol h.edge
 have hl:=h.len
 rcases h.n2 with rfl|rfl
 ·exact List.all_eq_true.1 (List.all_eq_true.1 aMB fr.length (List.mem_range.2 (by omega))) _ hm
 ·exact List.all_eq_true.1 (List.all_eq_true.1 aJQ fr.length (List.mem_range.2 (by omega))) _ hm
theorem GrOk.cat {n:Nat} {fr to:List Int} (h:GrOk n fr to):IsCat (ptC n (gS n fr to)):=by
 have:=h.b
 unfold ptB at this
 simp only [Bool.and_eq_true]at this
 exact tE this.2
theorem GrOk.few {n:Nat} {fr to:List Int} (h:GrOk n fr to):(bfK fr to 64 (bf0 n) 0).length≤40:=by
 have:=h.b
 unfold ptB at this
 simp only [Bool.and_eq_true,decide_eq_true_eq]at this
 exact this.1
end Go.Cats
end
section
namespace Go.Cats
end Go.Cats
end
section
namespace Go.Cats
structure ChW (W:List Int→Bool) (S:List Nat) (ch:List Int→Nat→List Int) (Co:List Int→Prop):Prop where
 out:∀A (i:Nat),A.length=S.length→i<A.length→∃p:Nat→Bool,ch A i=((List.range (S.getD i 0)).filter p).map fun e:Nat=>(e:Int)
 mono:∀A B (i:Nat) u,A.length=S.length→XtL A B→i<A.length→u∈ch B i→u∈ch A i
 comp:∀Q A (i:Nat),Q∈aCV S→W Q=true→A.length=S.length→(∀j,j<A.length→j≠i→0≤A.getD j 0→Q.getD j 0=A.getD j 0)→i<A.length→Q.getD i 0∈ch A i
 leaf:∀A:List Int,A.length=S.length→(∀j,j<A.length→0≤A.getD j 0∧A.getD j 0<S.getD j 0)→Co A→W A=true
 step:∀A (i:Nat) u,A.length=S.length→i<A.length→A.getD i 0= -1→Co A→u∈ch A i→Co (A.set i u)
section
variable {W:List Int→Bool} {S:List Nat} {ch:List Int→Nat→List Int} {Co:List Int→Prop} {A B Q C:List Int} {n i k x:Nat} {u:Int}
theorem ChW.rng (h:ChW W S ch Co) (hA:A.length=S.length) (hi:i<A.length) (hu:u∈ch A i):0≤u∧u<S.getD i 0:=by
 obtain⟨p,hp⟩:=h.out A i hA hi
 rw [hp]at hu
 obtain⟨e,he,rfl⟩:=List.mem_map.1 hu
 have:=List.mem_range.1 (List.mem_filter.1 he).1
 omega
end
/-! ### Transformations -/
def SqP (f g:Fun) (A:List Int) (a:Nat):Prop:=f.tgt.C (f.ars.getD a 0) (A.getD (f.src.to.getD a 0).toNat 0)=f.tgt.C (A.getD (f.src.fr.getD a 0).toNat 0) (g.ars.getD a 0)
structure NatP (f g:Fun) (A:List Int):Prop where
 end_:∀x,x<A.length→A.getD x 0∈f.tgt.hom (f.obs.getD x 0) (g.obs.getD x 0)
 sq:∀a,a<f.src.fr.length→SqP f g A a
structure Par (f g:Fun):Prop where
 src:IsCat f.src
 tgt:IsCat f.tgt
 fit:Fits f
 fit2:Fits g
 es:g.src=f.src
 et:g.tgt=f.tgt
section
variable {f g:Fun} {A B P Q X C:List Int} {a x r k n:Nat} {b u:Int}
structure NatK (f g:Fun) (X:List Int):Prop where
 end_:∀x,x<X.length→X.getD x 0∈f.tgt.hom (f.obs.getD x 0) (g.obs.getD x 0)
 sq:∀a,a<f.src.fr.length→(f.src.fr.getD a 0).toNat<X.length→(f.src.to.getD a 0).toNat<X.length→SqP f g X a
theorem NatK.nil:NatK f g []:=⟨fun x hx=>by simp at hx,fun a _ h=>by simp at h⟩
/-! ### The program's search -/
def SqX (f g:Fun) (P:List Int) (x:Nat):Prop:=∀a,a<f.src.fr.length→max (f.src.fr.getD a 0) (f.src.to.getD a 0)=x→SqP f g P a
abbrev NSt:=Bool×List (List Int)×List Int
open Classical in
noncomputable def aRW (f g:Fun) (run:List Int→List (List Int)→NSt) (x:Nat) (s:NSt) (b:Int):NSt:=
 if s.1=true then(if SqX f g (s.2.2.set x b) x then run (s.2.2.set x b) s.2.1 else(true,s.2.1,s.2.2.set x b))else s
noncomputable def aFS (f g:Fun) (M:Nat):Nat→List Int→List (List Int)→NSt
 |0,P,F=>((stL M F P).1,(stL M F P).2,P)
 |r+1,P,F=>(f.tgt.hom (f.obs.getD (f.src.ob.toNat-(r+1)) 0) (g.obs.getD (f.src.ob.toNat-(r+1)) 0)).foldl (aRW f g (aFS f g M r) (f.src.ob.toNat-(r+1))) (true,F,P)
variable {run:List Int→List (List Int)→NSt} {s:NSt} {F:List (List Int)} {M:Nat}
structure RunW (f g:Fun) (M r:Nat) (X P:List Int) (F:List (List Int)) (s:NSt) (L:List (List Int)):Prop where
 ok:s.1=(eat (stL M) F L).1
 out:s.2.1=(eat (stL M) F L).2
 len:s.2.2.length=P.length
 pre:s.2.2.take X.length=X
structure StW (f g:Fun) (M r x:Nat) (P:List Int) (F:List (List Int)) (C:List Int) (st:Nat→NSt):Prop where
 zero:st 0=(true,F,P)
 all:aFS f g M (r+1) P F=st C.length
 yes:∀k,k<C.length→(st k).1=true→SqX f g ((st k).2.2.set x (C.getD k 0)) x→st (k+1)=aFS f g M r ((st k).2.2.set x (C.getD k 0)) (st k).2.1
 no:∀k,k<C.length→(st k).1=true→¬SqX f g ((st k).2.2.set x (C.getD k 0)) x→st (k+1)=(true,(st k).2.1,(st k).2.2.set x (C.getD k 0))
 stop:∀k,k<C.length→(st (k+1)).1=false→st C.length=st (k+1)
 len:∀k,k≤C.length→(st k).2.2.length=f.src.ob.toNat
 few:∀k,k≤C.length→(st k).1=true→(st k).2.1.length≤M
 rng:∀k,k<C.length→∀i,i≤x→0≤((st k).2.2.set x (C.getD k 0)).getD i 0∧((st k).2.2.set x (C.getD k 0)).getD i 0<f.tgt.fr.length
 good:∀k,k<C.length→SqX f g ((st k).2.2.set x (C.getD k 0)) x→NatK f g (((st k).2.2.set x (C.getD k 0)).take (x+1))
end
end Go.Cats
end
section
namespace Go.Cats
def pq (n:Nat) (x y:List Int) (w:Int) (k:Nat):List Int:=(List.range k).map fun k=>x.getD (k/n) 0*w+y.getD (k%n) 0
section
variable {n k i j:Nat} {x y:List Int} {w:Int}
theorem aM4 (n x y w):pq n x y w 0=[]:=rfl
theorem sF:(pq n x y w k).length=k:=by unfold pq;rw [List.length_map,List.length_range]
theorem tU (hj:j<n):(i*n+j)/n=i:=by
 have h0:0<n:=by omega
 rw [Nat.add_comm,Nat.add_mul_div_right _ _ h0,Nat.div_eq_of_lt hj,Nat.zero_add]
theorem tV (hj:j<n):(i*n+j)%n=j:=by
 rw [Nat.add_comm,Nat.add_mul_mod_self_right,Nat.mod_eq_of_lt hj]
theorem yL {m:Nat} (hi:i<m) (hj:j<n):i*n+j<m*n:=by
 have:(i+1)*n≤m*n:=Nat.mul_le_mul_right n hi
 rw [Nat.succ_mul]at this
 omega
theorem aC2 (hj:j<n):pq n x y w (i*n+(j+1))=pq n x y w (i*n+j)++[x.getD i 0*w+y.getD j 0]:=by
 rw [←Nat.add_assoc]
 unfold pq
 rw [List.range_succ,List.map_append,List.map_singleton,tU hj,tV hj]
theorem aRE {m:Nat} (h:k<m):(pq n x y w m).getD k 0=x.getD (k/n) 0*w+y.getD (k%n) 0:=by
 unfold pq;rw [List.getD_eq_getElem?_getD,List.getElem?_map,List.getElem?_range h];rfl
theorem aC1 {m:Nat} (hi:i<m) (hj:j<n):(pq n x y w (m*n)).getD (i*n+j) 0=x.getD i 0*w+y.getD j 0:=by
 rw [aRE (yL hi hj),tU hj,tV hj]
theorem zJ {m:Nat} (h:k<m*n):k/n<m∧k%n<n:=by
 have h0:0<n:=by
  rcases Nat.eq_zero_or_pos n with e|e
  ·subst e;omega
  ·exact e
 exact⟨Nat.div_lt_of_lt_mul (by rw [Nat.mul_comm];exact h),Nat.mod_lt _ h0⟩
end
def prE (c d:Cat) (k l:Nat):Int:=
 if 0≤c.C (k/d.fr.length:Nat) (l/d.fr.length:Nat)∧0≤d.C (k%d.fr.length:Nat) (l%d.fr.length:Nat)then
  c.C (k/d.fr.length:Nat) (l/d.fr.length:Nat)*d.fr.length+d.C (k%d.fr.length:Nat) (l%d.fr.length:Nat)else-1
def prW (c d:Cat) (k l:Nat):List Int:=(List.range l).map (prE c d k)
def prT (c d:Cat) (k:Nat):List (List Int):=(List.range k).map fun k=>prW c d k (c.fr.length*d.fr.length)
def prC (c d:Cat):Cat:=⟨c.ob*d.ob,pq d.fr.length c.fr d.fr d.ob (c.fr.length*d.fr.length),pq d.fr.length c.to d.to d.ob (c.fr.length*d.fr.length),pq d.id.length c.id d.id d.fr.length (c.id.length*d.id.length),prT c d (c.fr.length*d.fr.length)⟩
section
variable {c d:Cat} {i j k l a b:Nat}
theorem aKJ (c d k):prW c d k 0=[]:=rfl
theorem aKH (c d):prT c d 0=[]:=rfl
theorem aHd:(prW c d k l).length=l:=by unfold prW;rw [List.length_map,List.length_range]
theorem aHc:(prT c d k).length=k:=by unfold prT;rw [List.length_map,List.length_range]
theorem aEB (hj:j<d.fr.length) (hb:b<d.fr.length):prE c d (i*d.fr.length+j) (a*d.fr.length+b)=if 0≤c.C i a∧0≤d.C j b then c.C i a*d.fr.length+d.C j b else-1:=by
 unfold prE;rw [tU hj,tV hj,tU hb,tV hb]
theorem aKI (hj:j<d.fr.length) (hb:b<d.fr.length):prW c d (i*d.fr.length+j) (a*d.fr.length+(b+1))=prW c d (i*d.fr.length+j) (a*d.fr.length+b)++[if 0≤c.C i a∧0≤d.C j b then c.C i a*d.fr.length+d.C j b else-1]:=by
 rw [←Nat.add_assoc,←aEB hj hb]
 unfold prW
 rw [List.range_succ,List.map_append,List.map_singleton]
theorem aKG:prT c d (i*d.fr.length+(j+1))=prT c d (i*d.fr.length+j)++[prW c d (i*d.fr.length+j) (c.fr.length*d.fr.length)]:=by
 rw [←Nat.add_assoc];unfold prT;rw [List.range_succ,List.map_append,List.map_singleton]
theorem aPB {x x' n y y':Int} (h0:0≤y) (h1:y<n) (h2:0≤y') (h3:y'<n):x*n+y=x'*n+y'↔x=x'∧y=y':=by
 constructor
 ·intro h
  have hx:x=x':=by
   have e1:(x*n+y)/n=x:=by rw [Int.add_comm,Int.add_mul_ediv_right _ _ (by omega),Int.ediv_eq_zero_of_lt h0 h1];omega
   have e2:(x'*n+y')/n=x':=by rw [Int.add_comm,Int.add_mul_ediv_right _ _ (by omega),Int.ediv_eq_zero_of_lt h2 h3];omega
   rw [←e1,←e2,h]
  subst hx
  exact⟨rfl,by omega⟩
 ·rintro⟨rfl,rfl⟩;rfl
end
section
variable {c d:Cat} {f:Fun} {i:Int} {k j a:Nat}
end
abbrev go2 (d:Cat) (f:Fun) (x y:Int):Int:=f.obs.getD (x*d.ob+y).toNat 0
abbrev ga2 (d:Cat) (f:Fun) (x y:Int):Int:=f.ars.getD (x*d.fr.length+y).toNat 0
structure TwoF (c d:Cat) (f:Fun):Prop where
 sc:IsCat c
 sd:IsCat d
 tg:IsCat f.tgt
 obl:f.obs.length=c.ob.toNat*d.ob.toNat
 arl:f.ars.length=c.fr.length*d.fr.length
 obw:Within f.obs f.tgt.ob
 arw:Within f.ars f.tgt.fr.length
 ends:∀i j:Nat,i<c.fr.length→j<d.fr.length→f.tgt.F (ga2 d f i j)=go2 d f (c.fr.getD i 0) (d.fr.getD j 0)∧f.tgt.T (ga2 d f i j)=go2 d f (c.to.getD i 0) (d.to.getD j 0)
 unit:∀p q:Nat,p<c.id.length→q<d.id.length→ga2 d f (c.id.getD p 0) (d.id.getD q 0)=f.tgt.I (go2 d f p q)
 comp:∀i j a b:Nat,i<c.fr.length→j<d.fr.length→a<c.fr.length→b<d.fr.length→c.to.getD i 0=c.fr.getD a 0→d.to.getD j 0=d.fr.getD b 0→ga2 d f (c.C i a) (d.C j b)=f.tgt.C (ga2 d f i j) (ga2 d f a b)
theorem aJ0 {i j n:Nat}:((i:Int)*n+j).toNat=i*n+j:=by
 have:(i:Int)*n+j=((i*n+j:Nat):Int):=by push_cast;rfl
 rw [this,Int.toNat_natCast]
section
variable {c d:Cat} {f:Fun} {i a:Nat}
theorem TwoF.aw (h:TwoF c d f) {x y:Nat} (h1:x<c.fr.length) (h3:y<d.fr.length):0≤ga2 d f x y∧ga2 d f x y<f.tgt.fr.length:=by
 refine h.arw _ ?_
 rw [h.arl,aJ0]
 exact yL h1 h3
end
end Go.Cats
end
section
namespace Go.Cats
theorem aDC {a b A B:Int} (h0:0≤a) (h1:a<A) (h2:0≤b) (h3:b<B):0≤a*B+b∧a*B+b<A*B:=by
 have k1:(a+1)*B≤A*B:=Int.mul_le_mul_of_nonneg_right (by omega) (by omega)
 have k2:0≤a*B:=Int.mul_nonneg h0 (by omega)
 rw [Int.add_mul,Int.one_mul]at k1
 exact⟨by omega,by omega⟩
theorem lD {x y:Int} {m:Nat} (h0:0≤x) (h2:0≤y):(x*m+y).toNat=x.toNat*m+y.toNat:=by
 obtain⟨a,rfl⟩:=Int.eq_ofNat_of_zero_le h0
 obtain⟨b,rfl⟩:=Int.eq_ofNat_of_zero_le h2
 rw [←Int.natCast_mul,←Int.natCast_add,Int.toNat_natCast,Int.toNat_natCast,Int.toNat_natCast]
section
variable {c d:Cat} {x y x' y':Int} {f g:Nat}
theorem aAk:(prC c d).fr.length=c.fr.length*d.fr.length:=sF
theorem aN3:(prC c d).to.length=c.fr.length*d.fr.length:=sF
theorem aKK:(prC c d).id.length=c.id.length*d.id.length:=sF
theorem aIr (h0:0≤x) (h1:x<c.fr.length) (h2:0≤y) (h3:y<d.fr.length):(prC c d).F (x*d.fr.length+y)=c.F x*d.ob+d.F y:=by
 unfold Cat.F
 rw [lD h0 h2]
 exact aC1 (by omega) (by omega)
theorem aIs (h0:0≤x) (h1:x<c.fr.length) (h2:0≤y) (h3:y<d.fr.length):(prC c d).T (x*d.fr.length+y)=c.T x*d.ob+d.T y:=by
 unfold Cat.T
 rw [lD h0 h2]
 exact aC1 (by omega) (by omega)
theorem aM6 (sc:Shape c) (sd:Shape d) (h0:0≤x) (h1:x<c.ob) (h2:0≤y) (h3:y<d.ob):(prC c d).I (x*d.ob+y)=c.I x*d.fr.length+d.I y:=by
 have e1:=sc.idl
 have e2:=sd.idl
 unfold Cat.I
 rw [←e2,lD h0 h2]
 exact aC1 (by omega) (by omega)
theorem aFZ (sc:Shape c) (sd:Shape d) (h0:0≤x) (h1:x<c.fr.length) (h2:0≤y) (h3:y<d.fr.length) (k0:0≤x') (k1:x'<c.fr.length) (k2:0≤y') (k3:y'<d.fr.length):
  (prC c d).C (x*d.fr.length+y) (x'*d.fr.length+y')=if c.T x=c.F x'∧d.T y=d.F y' then c.C x x'*d.fr.length+d.C y y' else-1:=by
 have b1:x.toNat<c.fr.length:=by omega
 have b2:y.toNat<d.fr.length:=by omega
 have b3:x'.toNat<c.fr.length:=by omega
 have b4:y'.toNat<d.fr.length:=by omega
 have hk:=yL b1 b2
 have hl:=yL b3 b4
 have n1:=sc.neg b1 b3
 have n2:=sd.neg b2 b4
 rw [Int.toNat_of_nonneg h0,Int.toNat_of_nonneg k0]at n1
 rw [Int.toNat_of_nonneg h2,Int.toNat_of_nonneg k2]at n2
 have e:(prC c d).C (x*d.fr.length+y) (x'*d.fr.length+y')=prE c d (x.toNat*d.fr.length+y.toNat) (x'.toNat*d.fr.length+y'.toNat):=by
  show((prT c d (c.fr.length*d.fr.length)).getD (x*d.fr.length+y).toNat []).getD (x'*d.fr.length+y').toNat 0=_
  rw [lD h0 h2,lD k0 k2]
  unfold prT
  rw [List.getD_eq_getElem?_getD (l:=List.map _ _) (i:=x.toNat*d.fr.length+y.toNat),List.getElem?_map,List.getElem?_range hk]
  show(prW c d _ _).getD _ 0=_
  unfold prW
  rw [List.getD_eq_getElem?_getD,List.getElem?_map,List.getElem?_range hl];rfl
 rw [e,aEB b2 b4,Int.toNat_of_nonneg h0,Int.toNat_of_nonneg h2,Int.toNat_of_nonneg k0,Int.toNat_of_nonneg k2]
 by_cases h:c.T x=c.F x'∧d.T y=d.F y'
 ·rw [if_pos h,if_pos]
  exact⟨Int.not_lt.1 fun q=>(n1.1 q) h.1,Int.not_lt.1 fun q=>(n2.1 q) h.2⟩
 ·rw [if_neg h,if_neg]
  rintro⟨q1,q2⟩
  refine h ⟨Classical.byContradiction fun q=>?_,Classical.byContradiction fun q=>?_⟩
  ·have:=n1.2 q;omega
  ·have:=n2.2 q;omega
theorem iA (h:f<c.fr.length*d.fr.length):∃x y:Int,0≤x∧x<c.fr.length∧0≤y∧y<d.fr.length∧(f:Int)=x*d.fr.length+y:=by
 obtain⟨h1,h2⟩:=zJ h
 refine⟨((f/d.fr.length:Nat):Int),((f%d.fr.length:Nat):Int),Int.natCast_nonneg _,by omega,Int.natCast_nonneg _,by omega,?_⟩
 rw [←Int.natCast_mul,←Int.natCast_add,Nat.mul_comm,Nat.div_add_mod]
theorem aM5 (hc:IsCat c) (hd:IsCat d) (h8:c.ob*d.ob≤8) (h40:c.fr.length*d.fr.length≤40):IsCat (prC c d):=by
 have sc:=hc.toShape
 have sd:=hd.toShape
 have e1:=sc.idl
 have e2:=sd.idl
 have cF:∀z:Int,0≤z→z<c.fr.length→0≤c.F z∧c.F z<c.ob:=fun z h0 h1=>sc.frw z.toNat (by omega)
 have cT:∀z:Int,0≤z→z<c.fr.length→0≤c.T z∧c.T z<c.ob:=fun z h0 h1=>sc.tow z.toNat (by rw [sc.tol];omega)
 have dF:∀z:Int,0≤z→z<d.fr.length→0≤d.F z∧d.F z<d.ob:=fun z h0 h1=>sd.frw z.toNat (by omega)
 have dT:∀z:Int,0≤z→z<d.fr.length→0≤d.T z∧d.T z<d.ob:=fun z h0 h1=>sd.tow z.toNat (by rw [sd.tol];omega)
 have bigI:∀f:Nat,f<(prC c d).id.length→∃x y:Int,0≤x∧x<c.ob∧0≤y∧y<d.ob∧(f:Int)=x*d.ob+y:=fun f hf=>by
  rw [aKK]at hf
  obtain⟨h1,h2⟩:=zJ hf
  refine⟨((f/d.id.length:Nat):Int),((f%d.id.length:Nat):Int),Int.natCast_nonneg _,by omega,Int.natCast_nonneg _,by omega,?_⟩
  rw [←e2,←Int.natCast_mul,←Int.natCast_add,Nat.mul_comm,Nat.div_add_mod]
 have meet:∀{x y x' y':Int},0≤x→x<c.fr.length→0≤y→y<d.fr.length→0≤x'→x'<c.fr.length→0≤y'→y'<d.fr.length→((prC c d).T (x*d.fr.length+y)=(prC c d).F (x'*d.fr.length+y')↔c.T x=c.F x'∧d.T y=d.F y'):=fun h0 h1 h2 h3 k0 k1 k2 k3=>by
  rw [aIs h0 h1 h2 h3,aIr k0 k1 k2 k3]
  exact aPB (dT _ h2 h3).1 (dT _ h2 h3).2 (dF _ k2 k3).1 (dF _ k2 k3).2
 have shp:Shape (prC c d):=by
  refine⟨Int.mul_nonneg sc.ob0 sd.ob0,h8,by rw [aAk];exact h40,by rw [aAk,aN3],fun f hf=>?_,fun f hf=>?_,?_,fun i hi=>?_,?_,fun i hi=>?_,fun f hf=>⟨?_,fun g hg=>?_⟩⟩
  ·rw [aAk]at hf
   obtain⟨x,y,h0,h1,h2,h3,e⟩:=iA hf
   have:=aIr h0 h1 h2 h3
   rw [←e]at this
   show 0≤(prC c d).F (f:Int)∧(prC c d).F (f:Int)<c.ob*d.ob
   rw [this]
   exact aDC (cF x h0 h1).1 (cF x h0 h1).2 (dF y h2 h3).1 (dF y h2 h3).2
  ·rw [aN3]at hf
   obtain⟨x,y,h0,h1,h2,h3,e⟩:=iA hf
   have:=aIs h0 h1 h2 h3
   rw [←e]at this
   show 0≤(prC c d).T (f:Int)∧(prC c d).T (f:Int)<c.ob*d.ob
   rw [this]
   exact aDC (cT x h0 h1).1 (cT x h0 h1).2 (dT y h2 h3).1 (dT y h2 h3).2
  ·rw [aKK,Int.natCast_mul,e1,e2];rfl
  ·obtain⟨x,y,h0,h1,h2,h3,e⟩:=bigI i hi
   have:=aM6 sc sd h0 h1 h2 h3
   rw [←e]at this
   show 0≤(prC c d).I (i:Int)∧(prC c d).I (i:Int)<_
   rw [this,aAk,Int.natCast_mul]
   obtain⟨a1,a2,_⟩:=hc.idI h0 h1
   obtain⟨b1,b2,_⟩:=hd.idI h2 h3
   exact aDC a1 a2 b1 b2
  ·show(prT c d _).length=_
   rw [aHc,aAk]
  ·obtain⟨x,y,h0,h1,h2,h3,e⟩:=bigI i hi
   have:=aM6 sc sd h0 h1 h2 h3
   rw [←e]at this
   obtain⟨a1,a2,a3,a4⟩:=hc.idI h0 h1
   obtain⟨b1,b2,b3,b4⟩:=hd.idI h2 h3
   show(prC c d).F ((prC c d).I (i:Int))=i∧(prC c d).T ((prC c d).I (i:Int))=i
   rw [this,aIr a1 a2 b1 b2,aIs a1 a2 b1 b2,a3,a4,b3,b4,e]
   exact⟨rfl,rfl⟩
  ·rw [aAk]at hf⊢
   show((prT c d _).getD f []).length=_
   unfold prT
   rw [List.getD_eq_getElem?_getD,List.getElem?_map,List.getElem?_range hf]
   exact aHd
  ·rw [aAk]at hf hg
   obtain⟨x,y,h0,h1,h2,h3,ef⟩:=iA hf
   obtain⟨x',y',k0,k1,k2,k3,eg⟩:=iA hg
   have hC:=aFZ sc sd h0 h1 h2 h3 k0 k1 k2 k3
   have hM:=meet h0 h1 h2 h3 k0 k1 k2 k3
   rw [←ef,←eg]at hC hM
   show((prC c d).T (f:Int)=(prC c d).F (g:Int)∧_∧(prC c d).F _=(prC c d).F (f:Int)∧(prC c d).T _=(prC c d).T (g:Int))∨((prC c d).T (f:Int)≠(prC c d).F (g:Int)∧_)
   by_cases h:c.T x=c.F x'∧d.T y=d.F y'
   ·rw [if_pos h]at hC
    obtain⟨p1,p2,p3,p4⟩:=hc.compI h0 h1 k0 k1 h.1
    obtain⟨q1,q2,q3,q4⟩:=hd.compI h2 h3 k2 k3 h.2
    refine .inl ⟨hM.2 h,?_,?_,?_⟩
    ·rw [hC,aAk,Int.natCast_mul];exact aDC p1 p2 q1 q2
    ·rw [hC,aIr p1 p2 q1 q2,p3,q3,ef,aIr h0 h1 h2 h3]
    ·rw [hC,aIs p1 p2 q1 q2,p4,q4,eg,aIs k0 k1 k2 k3]
   ·rw [if_neg h]at hC
    exact .inr ⟨fun q=>h (hM.1 q),hC⟩
 refine⟨shp,fun f hf=>?_,fun f hf=>?_,fun f g q hf hg hq m1 m2=>?_⟩
 ·rw [aAk]at hf
  obtain⟨x,y,h0,h1,h2,h3,e⟩:=iA hf
  obtain⟨a1,a2,a3,a4⟩:=hc.idI (cF x h0 h1).1 (cF x h0 h1).2
  obtain⟨b1,b2,b3,b4⟩:=hd.idI (dF y h2 h3).1 (dF y h2 h3).2
  rw [e,aIr h0 h1 h2 h3,aM6 sc sd (cF x h0 h1).1 (cF x h0 h1).2 (dF y h2 h3).1 (dF y h2 h3).2,aFZ sc sd a1 a2 b1 b2 h0 h1 h2 h3,if_pos ⟨a4,b4⟩,hc.unlI h0 h1,hd.unlI h2 h3]
 ·rw [aAk]at hf
  obtain⟨x,y,h0,h1,h2,h3,e⟩:=iA hf
  obtain⟨a1,a2,a3,a4⟩:=hc.idI (cT x h0 h1).1 (cT x h0 h1).2
  obtain⟨b1,b2,b3,b4⟩:=hd.idI (dT y h2 h3).1 (dT y h2 h3).2
  rw [e,aIs h0 h1 h2 h3,aM6 sc sd (cT x h0 h1).1 (cT x h0 h1).2 (dT y h2 h3).1 (dT y h2 h3).2,aFZ sc sd h0 h1 h2 h3 a1 a2 b1 b2,if_pos ⟨a3.symm,b3.symm⟩,hc.unrI h0 h1,hd.unrI h2 h3]
 ·rw [aAk]at hf hg hq
  obtain⟨x,y,h0,h1,h2,h3,ef⟩:=iA hf
  obtain⟨x',y',k0,k1,k2,k3,eg⟩:=iA hg
  obtain⟨x2,y2,l0,l1,l2,l3,eq⟩:=iA hq
  rw [ef,eg]at m1
  rw [eg,eq]at m2
  have M1:=(meet h0 h1 h2 h3 k0 k1 k2 k3).1 m1
  have M2:=(meet k0 k1 k2 k3 l0 l1 l2 l3).1 m2
  obtain⟨p1,p2,p3,p4⟩:=hc.compI h0 h1 k0 k1 M1.1
  obtain⟨q1,q2,q3,q4⟩:=hd.compI h2 h3 k2 k3 M1.2
  obtain⟨r1,r2,r3,r4⟩:=hc.compI k0 k1 l0 l1 M2.1
  obtain⟨s1,s2,s3,s4⟩:=hd.compI k2 k3 l2 l3 M2.2
  rw [ef,eg,eq,aFZ sc sd h0 h1 h2 h3 k0 k1 k2 k3,if_pos M1,aFZ sc sd k0 k1 k2 k3 l0 l1 l2 l3,if_pos M2,aFZ sc sd p1 p2 q1 q2 l0 l1 l2 l3,if_pos ⟨p4.trans M2.1,q4.trans M2.2⟩,
   aFZ sc sd h0 h1 h2 h3 r1 r2 s1 s2,if_pos ⟨M1.1.trans r3.symm,M1.2.trans s3.symm⟩,hc.assI h0 h1 k0 k1 l0 l1 M1.1 M2.1,hd.assI h2 h3 k2 k3 l2 l3 M1.2 M2.2]
end
end Go.Cats
end
