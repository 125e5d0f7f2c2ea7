/- Several texts in one: M01, M02, M03, N02, N03, N04, N05, N06, N07, N08, N09, M04, N10, N11, N12, N13, N14, N15, N16, N24, M05, M06, M07, M08, M09, M10, M11, M12, N25, N33, N01, N18, N19, N20, N26, N34, N29, N27, N28, N30, N31, N51, N39, N49, N32, N43, N45, N46, N47, N48, N36, N44. -/
set_option linter.unusedSimpArgs false
set_option linter.unusedVariables false
set_option linter.unusedSectionVars false
section
namespace Go.Cats
noncomputable def dec (P:Prop):Bool:= @decide P (Classical.propDecidable P)
theorem bH {P:Prop} (h:P):dec P=true:=by simp [dec,h]
theorem eD {P:Prop} (h:¬P):dec P=false:=by simp [dec,h]
theorem dec_iff {P:Prop}:dec P=true↔P:=by simp [dec]
theorem dec_not {P:Prop}:dec P=false↔¬P:=by simp [dec]
theorem cV {P Q:Prop} (h:P↔Q):dec P=dec Q:=by
 by_cases p:P
 ·rw [bH p,bH (h.1 p)]
 ·rw [eD p,eD fun q=>p (h.2 q)]
theorem mU {P:Prop} [Decidable P]:dec P=decide P:=by by_cases h:P<;>simp [dec,h]
/-! ### Scans -/
def bJ {α:Type} (n:Nat) (p:Nat→Option α):Option α:=(List.range n).findSome? p
theorem aJ5 {α:Type} (p:Nat→Option α):bJ 0 p=none:=rfl
theorem sS {α:Type} (n:Nat) (p:Nat→Option α):bJ (n+1) p=(bJ n p).or (p n):=by
 unfold bJ
 rw [List.range_succ,List.findSome?_append]
 simp [List.findSome?]
 cases p n<;>rfl
theorem cM {α:Type} {n:Nat} {p:Nat→Option α} (h:bJ n p=none) (k:p n=none):bJ (n+1) p=none:=by
 rw [sS,h,k];rfl
theorem scan_none {α:Type} {n:Nat} {p:Nat→Option α}:bJ n p=none↔∀i,i<n→p i=none:=by
 simp [bJ,List.findSome?_eq_none_iff]
theorem gE {α:Type} {n i:Nat} {p:Nat→Option α} {r:α} (hi:i<n) (h:bJ i p=none) (k:p i=some r):bJ n p=some r:=by
 induction n with
 |zero=>omega
 |succ n ih=>
  rw [sS]
  by_cases e:i=n
  ·subst e;rw [h,k];rfl
  ·rw [ih (by omega)];rfl
theorem dJ {α:Type} {n:Nat} {p:Nat→Option α} {r:α} (h:bJ n p=some r):∃i,i<n∧p i=some r:=by
 unfold bJ at h
 obtain⟨i,hi,k⟩:=List.exists_of_findSome?_eq_some h
 exact⟨i,by simpa using hi,k⟩
theorem cB {P:Nat→Prop} {n:Nat} (h:∀i,i<n→P i) (k:P n):∀i,i<n+1→P i:=fun i hi=>by
 by_cases e:i=n
 ·subst e;exact k
 ·exact h i (by omega)
def gO {α:Type} (n:Nat) (f:Nat→List α):List α:=(List.range n).flatMap f
theorem xX {α:Type} (f:Nat→List α):gO 0 f=[]:=rfl
theorem iI {α:Type} (n:Nat) (f:Nat→List α):gO (n+1) f=gO n f++f n:=by
 simp [gO,List.range_succ]
theorem mem_coll {α:Type} {n:Nat} {f:Nat→List α} {x:α}:x∈gO n f↔∃i,i<n∧x∈f i:=by
 simp [gO,List.mem_flatMap]
theorem aAZ {α:Type} {n k:Nat} {f:Nat→List α} (h:∀i,i<n→(f i).length≤k):(gO n f).length≤n*k:=by
 induction n with
 |zero=>simp [gO]
 |succ n ih=>
  rw [iI,List.length_append,Nat.succ_mul]
  have:=ih fun i hi=>h i (by omega)
  have:=h n (by omega)
  omega
theorem bI {α:Type} {l:List α} {i:Nat} {d:α} (h:i<l.length):l.getD i d∈l:=by
 simp [List.getD_eq_getElem?_getD,h]
theorem qX {α:Type} {l:List α} {x d:α} (h:x∈l):∃i,i<l.length∧l.getD i d=x:=by
 obtain⟨i,hi,e⟩:=List.getElem_of_mem h
 exact⟨i,hi,by simp [List.getD_eq_getElem?_getD,hi,e]⟩
def Within (l:List Int) (n:Int):Prop:=∀i,i<l.length→0≤l.getD i 0∧l.getD i 0<n
theorem Within.mem {l:List Int} {n:Int} (h:Within l n) {x:Int} (hx:x∈l):0≤x∧x<n:=by
 obtain⟨i,hi,e⟩:=qX (d:=0) hx
 have:=h i hi
 rw [e]at this
 exact this
/-! ### Categories -/
structure Cat where
 ob:Int
 fr:List Int
 to:List Int
 id:List Int
 co:List (List Int)
def Cat.nil:Cat:=⟨0,[],[],[],[]⟩
abbrev Cat.F (c:Cat) (f:Int):Int:=c.fr.getD f.toNat 0
abbrev Cat.T (c:Cat) (f:Int):Int:=c.to.getD f.toNat 0
abbrev Cat.I (c:Cat) (x:Int):Int:=c.id.getD x.toNat 0
abbrev Cat.C (c:Cat) (f g:Int):Int:=(c.co.getD f.toNat []).getD g.toNat 0
structure CatB (c:Cat):Prop where
 ob1: -9223372036854775808≤c.ob
 ob2:c.ob≤9223372036854775807
 fr:c.fr.length≤1048576
 to:c.to.length≤1048576
 id:c.id.length≤1048576
 co:c.co.length≤1048576
 row:∀f,f<c.co.length→(c.co.getD f []).length≤1048576
def Cat.Entry (c:Cat) (f g:Nat):Prop:=
 (c.to.getD f 0=c.fr.getD g 0∧(0≤c.C f g∧c.C f g<c.fr.length)∧c.F (c.C f g)=c.fr.getD f 0∧c.T (c.C f g)=c.to.getD g 0)∨
 (c.to.getD f 0≠c.fr.getD g 0∧c.C f g= -1)
structure Shape (c:Cat):Prop where
 ob0:0≤c.ob
 ob8:c.ob≤8
 m40:c.fr.length≤40
 tol:c.to.length=c.fr.length
 frw:Within c.fr c.ob
 tow:Within c.to c.ob
 idl:(c.id.length:Int)=c.ob
 idw:Within c.id c.fr.length
 col:c.co.length=c.fr.length
 ide:∀x,x<c.id.length→c.F (c.id.getD x 0)=x∧c.T (c.id.getD x 0)=x
 coe:∀f,f<c.fr.length→(c.co.getD f []).length=c.fr.length∧∀g,g<c.fr.length→c.Entry f g
def Cat.fault1 (c:Cat) (f:Nat):Option (Int×Int×Int×Int):=
 if c.C (c.I (c.F f)) f≠f∨c.C f (c.I (c.T f))≠f then some (1,f,0,0)else none
def Cat.fault2 (c:Cat) (f g h:Nat):Option (Int×Int×Int×Int):=
 if 0≤c.C g h∧c.C (c.C f g) h≠c.C f (c.C g h)then some (2,f,g,h)else none
def Cat.fault2g (c:Cat) (f g:Nat):Option (Int×Int×Int×Int):=
 if c.C f g<0 then none else bJ c.fr.length fun h=>c.fault2 f g h
def Cat.fault (c:Cat):Int×Int×Int×Int:=
 ((bJ c.fr.length c.fault1).or (bJ c.fr.length fun f=>bJ c.fr.length fun g=>c.fault2g f g)).getD (0,0,0,0)
structure IsCat (c:Cat):Prop extends Shape c where
 unl:∀f:Nat,f<c.fr.length→c.C (c.I (c.F f)) f=f
 unr:∀f:Nat,f<c.fr.length→c.C f (c.I (c.T f))=f
 ass:∀f g h:Nat,f<c.fr.length→g<c.fr.length→h<c.fr.length→c.T f=c.F g→c.T g=c.F h→c.C (c.C f g) h=c.C f (c.C g h)
theorem Shape.neg {c:Cat} (s:Shape c) {f g:Nat} (hf:f<c.fr.length) (hg:g<c.fr.length):c.C f g<0↔c.T f≠c.F g:=by
 have:=(s.coe f hf).2 g hg
 unfold Cat.Entry at this
 simp only [Cat.T,Cat.F,Int.toNat_natCast]
 rcases this with⟨h1,h2,h3⟩|⟨h1,h2⟩
 ·constructor
  ·intro h;omega
  ·intro h;exact absurd h1 h
 ·constructor
  ·intro _;exact h1
  ·intro _;omega
theorem Shape.fault_zero {c:Cat} (s:Shape c):c.fault.1=0↔IsCat c:=by
 unfold Cat.fault
 constructor
 ·intro h
  cases h1:bJ c.fr.length c.fault1 with
  |some r=>
   obtain⟨i,hi,k⟩:=dJ h1
   unfold Cat.fault1 at k
   split at k
   ·simp at k;subst k;simp [h1]at h
   ·cases k
  |none=>
   rw [h1]at h
   cases h2:(bJ c.fr.length fun f=>bJ c.fr.length fun g=>c.fault2g f g)with
   |some r=>
    obtain⟨i,hi,k⟩:=dJ h2
    obtain⟨j,hj,k⟩:=dJ k
    unfold Cat.fault2g at k
    split at k
    ·cases k
    ·obtain⟨l,hl,k⟩:=dJ k
     unfold Cat.fault2 at k
     split at k
     ·simp at k;subst k;simp [h2]at h
     ·cases k
   |none=>
    rw [scan_none]at h1 h2
    refine⟨s,fun f hf=>?_,fun f hf=>?_,fun f g h hf hg hh e1 e2=>?_⟩
    ·have:=h1 f hf
     unfold Cat.fault1 at this
     split at this
     ·cases this
     ·rename_i n;exact Classical.byContradiction fun q=>n (.inl q)
    ·have:=h1 f hf
     unfold Cat.fault1 at this
     split at this
     ·cases this
     ·rename_i n;exact Classical.byContradiction fun q=>n (.inr q)
    ·have:=h2 f hf
     rw [scan_none]at this
     have:=this g hg
     unfold Cat.fault2g at this
     rw [if_neg (by rw [s.neg hf hg];exact fun q=>q e1),scan_none]at this
     have:=this h hh
     unfold Cat.fault2 at this
     split at this
     ·cases this
     ·rename_i n
      refine Classical.byContradiction fun q=>n ⟨?_,q⟩
      have:=(s.neg hg hh)
      exact Int.not_lt.1 fun q=>this.1 q e2
 ·intro h
  have h1:bJ c.fr.length c.fault1=none:=scan_none.2 fun f hf=>by
   unfold Cat.fault1
   rw [if_neg]
   rintro(q|q)
   ·exact q (h.unl f hf)
   ·exact q (h.unr f hf)
  have h2:(bJ c.fr.length fun f=>bJ c.fr.length fun g=>c.fault2g f g)=none:=scan_none.2 fun f hf=>scan_none.2 fun g hg=>by
   unfold Cat.fault2g
   split
   ·rfl
   ·rename_i n1
    refine scan_none.2 fun h' hh=>?_
    unfold Cat.fault2
    rw [if_neg]
    rintro⟨q1,q2⟩
    have e1:=s.neg hf hg
    have e2:=s.neg hg hh
    exact q2 (h.ass f g h' hf hg hh (Classical.byContradiction fun q=>n1 (e1.2 q)) (Classical.byContradiction fun q=>by have:=e2.2 q;omega))
  rw [h1,h2];rfl
theorem Cat.fault1_t {c:Cat} {f:Nat} (h:c.C (c.I (c.F f)) f≠f∨c.C f (c.I (c.T f))≠f):c.fault1 f=some ((1:Int),(f:Int),(0:Int),(0:Int)):=if_pos h
theorem Cat.fault1_f {c:Cat} {f:Nat} (h:c.C (c.I (c.F f)) f=f) (k:c.C f (c.I (c.T f))=f):c.fault1 f=none:=if_neg fun q=>q.elim (fun q=>q h) fun q=>q k
theorem Cat.fault2_t {c:Cat} {f g h:Nat} (a:0≤c.C g h) (b:c.C (c.C f g) h≠c.C f (c.C g h)):c.fault2 f g h=some ((2:Int),(f:Int),(g:Int),(h:Int)):=if_pos ⟨a,b⟩
theorem Cat.fault2_f {c:Cat} {f g h:Nat} (a:0≤c.C g h→c.C (c.C f g) h=c.C f (c.C g h)):c.fault2 f g h=none:=if_neg fun q=>q.2 (a q.1)
theorem Cat.fault2g_f {c:Cat} {f g:Nat} (a:c.C f g<0):c.fault2g f g=none:=if_pos a
theorem Cat.fault2g_t {c:Cat} {f g:Nat} (a:¬c.C f g<0):c.fault2g f g=bJ c.fr.length fun h=>c.fault2 f g h:=if_neg a
theorem Cat.fault_1 {c:Cat} {f:Nat} {r:Int×Int×Int×Int} (h:bJ f c.fault1=none) (hf:f<c.fr.length) (k:c.fault1 f=some r):c.fault=r:=by
 unfold Cat.fault
 rw [gE hf h k];rfl
theorem Cat.fault_2 {c:Cat} {f g h:Nat} {r:Int×Int×Int×Int} (a:bJ c.fr.length c.fault1=none) (h1:bJ f (fun f=>bJ c.fr.length fun g=>c.fault2g f g)=none) (hf:f<c.fr.length)
  (h2:bJ g (fun g=>c.fault2g f g)=none) (hg:g<c.fr.length) (n:¬c.C f g<0) (h3:bJ h (fun h=>c.fault2 f g h)=none) (hh:h<c.fr.length) (k:c.fault2 f g h=some r):c.fault=r:=by
 unfold Cat.fault
 rw [a,gE hf h1 (gE hg h2 (by rw [Cat.fault2g_t n];exact gE hh h3 k))];rfl
theorem Cat.fault_0 {c:Cat} (a:bJ c.fr.length c.fault1=none) (h1:bJ c.fr.length (fun f=>bJ c.fr.length fun g=>c.fault2g f g)=none):c.fault=(0,0,0,0):=by
 unfold Cat.fault
 rw [a,h1];rfl
def Cat.homI (c:Cat) (x y:Int) (i:Nat):List Int:=gO i fun f=>if c.fr.getD f 0=x∧c.to.getD f 0=y then [(f:Int)]else []
def Cat.hom (c:Cat) (x y:Int):List Int:=c.homI x y c.fr.length
theorem Cat.homI_zero (c:Cat) (x y:Int):c.homI x y 0=[]:=rfl
theorem Cat.homI_succ (c:Cat) (x y:Int) (i:Nat):c.homI x y (i+1)=c.homI x y i++if c.fr.getD i 0=x∧c.to.getD i 0=y then [(i:Int)]else []:=iI _ _
theorem Cat.homI_len (c:Cat) (x y:Int) (i:Nat):(c.homI x y i).length≤i:=by
 have:=aAZ (n:=i) (k:=1) (f:=fun f=>if c.fr.getD f 0=x∧c.to.getD f 0=y then [(f:Int)]else []) fun j _=>by split<;>simp
 simpa [Cat.homI]using this
theorem Cat.mem_hom {c:Cat} {x y f:Int}:f∈c.hom x y↔0≤f∧f<c.fr.length∧c.F f=x∧c.T f=y:=by
 unfold Cat.hom Cat.homI
 rw [mem_coll]
 constructor
 ·rintro⟨i,hi,h⟩
  split at h
  ·rename_i e;simp at h;subst h
   simp only [Cat.F,Cat.T,Int.toNat_natCast]
   exact⟨by omega,by omega,e.1,e.2⟩
  ·simp at h
 ·rintro⟨h1,h2,h3,h4⟩
  refine⟨f.toNat,by omega,?_⟩
  rw [if_pos ⟨h3,h4⟩]
  simp;omega
/-! ### Functors -/
structure Fun where
 src:Cat
 tgt:Cat
 obs:List Int
 ars:List Int
def Fun.nil:Fun:=⟨.nil, .nil,[],[]⟩
abbrev Fun.O (f:Fun) (x:Int):Int:=f.obs.getD x.toNat 0
abbrev Fun.A (f:Fun) (a:Int):Int:=f.ars.getD a.toNat 0
structure Fits (f:Fun):Prop where
 obl:(f.obs.length:Int)=f.src.ob
 arl:f.ars.length=f.src.fr.length
 obw:Within f.obs f.tgt.ob
 arw:Within f.ars f.tgt.fr.length
 endf:∀a,a<f.ars.length→f.tgt.F (f.ars.getD a 0)=f.O (f.src.F a)∧f.tgt.T (f.ars.getD a 0)=f.O (f.src.T a)
 unit:∀x,x<f.src.id.length→f.A (f.src.id.getD x 0)=f.tgt.I (f.O x)
 comp:∀a b:Nat,a<f.src.fr.length→b<f.src.fr.length→0≤f.src.C a b→f.A (f.src.C a b)=f.tgt.C (f.A a) (f.A b)
structure IsFun (f:Fun):Prop where
 src:IsCat f.src
 tgt:IsCat f.tgt
 fits:Fits f
/-! ### Set functors -/
structure SF where
 shape:Cat
 sizes:List Int
 acts:List (List Int)
structure SM where
 src:SF
 tgt:SF
 parts:List (List Int)
def SF.nil:SF:=⟨.nil,[],[]⟩
def SM.nil:SM:=⟨.nil, .nil,[]⟩
end Go.Cats
end
section
namespace Go.Cats
theorem iZ {α:Type} {p:Nat→Option α} {i n:Nat} (h:bJ i p=none) (a:i≤n) (b:n≤i):bJ n p=none:=by
 have:i=n:=by omega
 rw [←this];exact h
theorem oB {α:Type} {a b:List α} {d:α} {i:Nat} (h:a.take i=b.take i) (ha:i<a.length) (hb:i<b.length) (e:a.getD i d=b.getD i d):a.take (i+1)=b.take (i+1):=by
 have e1:a.getD i d=a[i]:=by simp [List.getD_eq_getElem?_getD,ha]
 have e2:b.getD i d=b[i]:=by simp [List.getD_eq_getElem?_getD,hb]
 rw [e1,e2]at e
 rw [List.take_succ_eq_append_getElem ha,List.take_succ_eq_append_getElem hb,h,e]
theorem xK {α:Type} {a b:List α} {i:Nat} (h:a.take i=b.take i) (ha:a.length≤i) (hb:b.length≤i):a=b:=by
 rwa [List.take_of_length_le ha,List.take_of_length_le hb]at h
theorem aDM {α:Type} {a:List α} {d:α} {i:Nat} (ha:i<a.length):a.take (i+1)=a.take i++[a.getD i d]:=by
 rw [List.take_succ_eq_append_getElem ha]
 simp [List.getD_eq_getElem?_getD,ha]
theorem Cat.eq {c d:Cat} (h1:c.ob=d.ob) (h2:c.fr=d.fr) (h3:c.to=d.to) (h4:c.id=d.id) (h5:c.co=d.co):c=d:=by
 cases c;cases d;simp_all
end Go.Cats
end
section
namespace Go.Cats
structure SFB (f:SF):Prop where
 shape:CatB f.shape
 sizes:f.sizes.length≤1048576
 acts:f.acts.length≤1048576
 row:∀a,a<f.acts.length→(f.acts.getD a []).length≤1048576
abbrev SF.act (f:SF) (a:Nat):List Int:=f.acts.getD a []
structure SFShape (f:SF):Prop where
 cat:IsCat f.shape
 szl:(f.sizes.length:Int)=f.shape.ob
 szw:Within f.sizes 17
 acl:f.acts.length=f.shape.fr.length
 act:∀a,a<f.acts.length→((f.acts.getD a []).length:Int)=f.sizes.getD (f.shape.fr.getD a 0).toNat 0∧Within (f.acts.getD a []) (f.sizes.getD (f.shape.to.getD a 0).toNat 0)
def SF.fault1 (f:SF) (x e:Nat):Option (Int×Int×Int×Int):=
 if(f.acts.getD (f.shape.id.getD x 0).toNat []).getD e 0≠e then some ((1:Int),(x:Int),(e:Int),(0:Int))else none
def SF.fault1x (f:SF) (x:Nat):Option (Int×Int×Int×Int):=bJ (f.acts.getD (f.shape.id.getD x 0).toNat []).length fun e=>f.fault1 x e
def SF.fault2 (f:SF) (a b e:Nat):Option (Int×Int×Int×Int):=
 if(f.acts.getD ((f.shape.co.getD a []).getD b 0).toNat []).getD e 0≠(f.acts.getD b []).getD ((f.acts.getD a []).getD e 0).toNat 0 then some ((2:Int),(a:Int),(b:Int),(e:Int))else none
def SF.fault2b (f:SF) (a b:Nat):Option (Int×Int×Int×Int):=
 if(f.shape.co.getD a []).getD b 0<0 then none else bJ (f.acts.getD a []).length fun e=>f.fault2 a b e
def SF.fault2a (f:SF) (a:Nat):Option (Int×Int×Int×Int):=bJ (f.shape.co.getD a []).length fun b=>f.fault2b a b
def SF.fault (f:SF):Int×Int×Int×Int:=
 ((bJ f.shape.id.length f.fault1x).or (bJ f.shape.co.length f.fault2a)).getD (0,0,0,0)
structure IsSF (f:SF):Prop extends SFShape f where
 unit:∀x,x<f.shape.id.length→∀e,e<(f.acts.getD (f.shape.id.getD x 0).toNat []).length→(f.acts.getD (f.shape.id.getD x 0).toNat []).getD e 0=e
 comp:∀a b,a<f.shape.fr.length→b<f.shape.fr.length→0≤(f.shape.co.getD a []).getD b 0→∀e,e<(f.acts.getD a []).length→
  (f.acts.getD ((f.shape.co.getD a []).getD b 0).toNat []).getD e 0=(f.acts.getD b []).getD ((f.acts.getD a []).getD e 0).toNat 0
theorem SF.fault1_t {f:SF} {x e:Nat} (h:(f.acts.getD (f.shape.id.getD x 0).toNat []).getD e 0≠e):f.fault1 x e=some ((1:Int),(x:Int),(e:Int),(0:Int)):=if_pos h
theorem SF.fault1_f {f:SF} {x e:Nat} (h:(f.acts.getD (f.shape.id.getD x 0).toNat []).getD e 0=e):f.fault1 x e=none:=if_neg fun q=>q h
theorem SF.fault2_t {f:SF} {a b e:Nat} (h:(f.acts.getD ((f.shape.co.getD a []).getD b 0).toNat []).getD e 0≠(f.acts.getD b []).getD ((f.acts.getD a []).getD e 0).toNat 0):f.fault2 a b e=some ((2:Int),(a:Int),(b:Int),(e:Int)):=if_pos h
theorem SF.fault2_f {f:SF} {a b e:Nat} (h:(f.acts.getD ((f.shape.co.getD a []).getD b 0).toNat []).getD e 0=(f.acts.getD b []).getD ((f.acts.getD a []).getD e 0).toNat 0):f.fault2 a b e=none:=if_neg fun q=>q h
theorem SF.fault2b_f {f:SF} {a b:Nat} (h:(f.shape.co.getD a []).getD b 0<0):f.fault2b a b=none:=if_pos h
theorem SF.fault2b_t {f:SF} {a b:Nat} (h:¬(f.shape.co.getD a []).getD b 0<0):f.fault2b a b=bJ (f.acts.getD a []).length fun e=>f.fault2 a b e:=if_neg h
theorem SF.fault_1 {f:SF} {x e:Nat} {r:Int×Int×Int×Int} (h:bJ x f.fault1x=none) (hx:x<f.shape.id.length) (h2:(bJ e fun e=>f.fault1 x e)=none) (he:e<(f.acts.getD (f.shape.id.getD x 0).toNat []).length) (k:f.fault1 x e=some r):f.fault=r:=by
 unfold SF.fault
 rw [gE hx h (show f.fault1x x=some r from gE he h2 k)];rfl
theorem SF.fault_2 {f:SF} {a b e:Nat} {r:Int×Int×Int×Int} (h0:bJ f.shape.id.length f.fault1x=none) (h1:bJ a f.fault2a=none) (ha:a<f.shape.co.length) (h2:(bJ b fun b=>f.fault2b a b)=none) (hb:b<(f.shape.co.getD a []).length) (n:¬(f.shape.co.getD a []).getD b 0<0)
  (h3:(bJ e fun e=>f.fault2 a b e)=none) (he:e<(f.acts.getD a []).length) (k:f.fault2 a b e=some r):f.fault=r:=by
 unfold SF.fault
 rw [h0,gE ha h1 (show f.fault2a a=some r from gE hb h2 (by rw [SF.fault2b_t n];exact gE he h3 k))];rfl
theorem SF.fault_0 {f:SF} (h0:bJ f.shape.id.length f.fault1x=none) (h1:bJ f.shape.co.length f.fault2a=none):f.fault=(0,0,0,0):=by
 unfold SF.fault
 rw [h0,h1];rfl
theorem SFShape.fault_zero {f:SF} (s:SFShape f):f.fault.1=0↔IsSF f:=by
 have hco:=s.cat.col
 constructor
 ·intro h
  unfold SF.fault at h
  cases h1:bJ f.shape.id.length f.fault1x with
  |some r=>
   obtain⟨x,hx,k⟩:=dJ h1
   obtain⟨e,he,k⟩:=dJ k
   unfold SF.fault1 at k
   split at k
   ·simp at k;subst k;simp [h1]at h
   ·cases k
  |none=>
   rw [h1]at h
   cases h2:bJ f.shape.co.length f.fault2a with
   |some r=>
    obtain⟨a,ha,k⟩:=dJ h2
    obtain⟨b,hb,k⟩:=dJ k
    unfold SF.fault2b at k
    split at k
    ·cases k
    ·obtain⟨e,he,k⟩:=dJ k
     unfold SF.fault2 at k
     split at k
     ·simp at k;subst k;simp [h2]at h
     ·cases k
   |none=>
    refine⟨s,fun x hx e he=>?_,fun a b ha hb hn e he=>?_⟩
    ·have k:=scan_none.1 (scan_none.1 h1 x hx) e he
     unfold SF.fault1 at k
     split at k
     ·cases k
     ·rename_i n;exact Classical.byContradiction n
    ·have k:=scan_none.1 (scan_none.1 h2 a (by omega)) b (by have:=(s.cat.coe a ha).1;omega)
     simp only [SF.fault2b]at k
     rw [if_neg (by omega)]at k
     have k:=scan_none.1 k e he
     unfold SF.fault2 at k
     split at k
     ·cases k
     ·rename_i n;exact Classical.byContradiction n
 ·intro h
  rw [SF.fault_0]
  ·exact scan_none.2 fun x hx=>scan_none.2 fun e he=>SF.fault1_f (h.unit x hx e he)
  ·refine scan_none.2 fun a ha=>scan_none.2 fun b hb=>?_
   by_cases n:(f.shape.co.getD a []).getD b 0<0
   ·exact SF.fault2b_f n
   ·rw [SF.fault2b_t n]
    exact scan_none.2 fun e he=>SF.fault2_f (h.comp a b (by omega) (by have:=(s.cat.coe a (by omega)).1;omega) (by omega) e he)
/-! ### Natural maps -/
structure SMB (m:SM):Prop where
 src:SFB m.src
 tgt:SFB m.tgt
 parts:m.parts.length≤1048576
 row:∀x,x<m.parts.length→(m.parts.getD x []).length≤1048576
structure SMFits (m:SM):Prop where
 len:m.parts.length=m.src.sizes.length
 map:∀x,x<m.parts.length→((m.parts.getD x []).length:Int)=m.src.sizes.getD x 0∧Within (m.parts.getD x []) (m.tgt.sizes.getD x 0)
structure SMShape (m:SM):Prop where
 src:IsSF m.src
 tgt:IsSF m.tgt
 same:m.src.shape=m.tgt.shape
 fits:SMFits m
structure IsSM (m:SM):Prop extends SMShape m where
 nat:∀a,a<m.src.shape.fr.length→∀e,e<(m.src.acts.getD a []).length→
  (m.parts.getD (m.src.shape.to.getD a 0).toNat []).getD ((m.src.acts.getD a []).getD e 0).toNat 0=(m.tgt.acts.getD a []).getD ((m.parts.getD (m.src.shape.fr.getD a 0).toNat []).getD e 0).toNat 0
theorem SF.eq {f g:SF} (h1:f.shape=g.shape) (h2:f.sizes=g.sizes) (h3:f.acts=g.acts):f=g:=by
 cases f;cases g;simp_all
theorem SM.eq {f g:SM} (h1:f.src=g.src) (h2:f.tgt=g.tgt) (h3:f.parts=g.parts):f=g:=by
 cases f;cases g;simp_all
end Go.Cats
end
section
namespace Go.Cats
abbrev pv (P:List (List Int)) (y i:Nat):Int:=(P.getD y []).getD i 0
def pset (P:List (List Int)) (y i:Nat) (k:Int):List (List Int):=P.set y ((P.getD y []).set i k)
theorem aMF (P:List (List Int)) (y i:Nat) (k:Int):(pset P y i k).length=P.length:=by simp [pset]
theorem pset_row {P:List (List Int)} {y i z:Nat} {k:Int}:((pset P y i k).getD z []).length=(P.getD z []).length:=by
 unfold pset
 by_cases h:z=y
 ·subst h
  by_cases hz:z<P.length
  ·simp [List.getD_eq_getElem?_getD,hz]
  ·simp [List.getD_eq_getElem?_getD,hz]
 ·simp [List.getD_eq_getElem?_getD,List.getElem?_set_ne (Ne.symm h)]
theorem aHn {P:List (List Int)} {y i z j:Nat} {k:Int} (h:¬(z=y∧j=i)):pv (pset P y i k) z j=pv P z j:=by
 unfold pv pset
 by_cases hz:z=y
 ·subst hz
  have hj:j≠i:=fun e=>h ⟨rfl,e⟩
  by_cases hl:z<P.length
  ·rw [List.getD_eq_getElem?_getD (l:=P.set z _),List.getElem?_set_self hl]
   simp only [Option.getD_some]
   rw [List.getD_eq_getElem?_getD,List.getElem?_set_ne (Ne.symm hj),←List.getD_eq_getElem?_getD]
  ·rw [List.set_eq_of_length_le (by omega)]
 ·rw [List.getD_eq_getElem?_getD (l:=P.set y _),List.getElem?_set_ne (Ne.symm hz),←List.getD_eq_getElem?_getD]
section
variable (f g:SF) (once:Bool)
abbrev SF.av (f:SF) (a:Nat) (e:Nat):Int:=(f.acts.getD a []).getD e 0
abbrev SF.ty (f:SF) (a:Nat):Nat:=(f.shape.to.getD a 0).toNat
abbrev SF.fx (f:SF) (a:Nat):Nat:=(f.shape.fr.getD a 0).toNat
def aQg (e u:Nat) (P:List (List Int)) (a:Nat):Option (List (List Int)):=
 if 0≤pv P (f.ty a) (f.av a e).toNat then(if pv P (f.ty a) (f.av a e).toNat=g.av a u then some P else none)
 else if once=true∧g.av a u∈P.getD (f.ty a) []then none else some (pset P (f.ty a) (f.av a e).toNat (g.av a u))
def aPk (x e u:Nat) (P:List (List Int)):Nat→Option (List (List Int))
 |0=>some P
 |n+1=>(aPk x e u P n).bind fun Q=>if f.shape.fr.getD n 0=x then aQg f g once e u Q n else some Q
def aRG (x e u:Nat) (P:List (List Int)):Option (List (List Int)):=aPk f g once x e u P f.shape.fr.length
structure Good (P:List (List Int)):Prop where
 len:P.length=f.sizes.length
 row:∀y,y<P.length→((P.getD y []).length:Int)=f.sizes.getD y 0
 rng:∀y i,y<P.length→i<(P.getD y []).length→-1≤pv P y i∧pv P y i<g.sizes.getD y 0
 cl:∀b i,b<f.shape.fr.length→i<(P.getD (f.fx b) []).length→0≤pv P (f.fx b) i→pv P (f.ty b) (f.av b i).toNat=g.av b (pv P (f.fx b) i).toNat
 inj:once=true→∀y i j,y<P.length→i<(P.getD y []).length→j<(P.getD y []).length→0≤pv P y i→pv P y i=pv P y j→i=j
def Ext' (P Q:List (List Int)):Prop:=P.length=Q.length∧(∀y,(P.getD y []).length=(Q.getD y []).length)∧∀y i,y<P.length→i<(P.getD y []).length→0≤pv P y i→pv Q y i=pv P y i
end
theorem Ext'.refl (P:List (List Int)):Ext' P P:=⟨rfl,fun _=>rfl,fun _ _ _ _ _=>rfl⟩
theorem Ext'.trans {P Q R:List (List Int)} (h:Ext' P Q) (k:Ext' Q R):Ext' P R:=
 ⟨h.1.trans k.1,fun y=>(h.2.1 y).trans (k.2.1 y),fun y i hy hi h0=>by
  have e1:=h.2.2 y i hy hi h0
  have e2:=k.2.2 y i (by rw [←h.1];exact hy) (by rw [←h.2.1];exact hi) (by rw [e1];exact h0)
  rw [e2,e1]⟩
theorem Ext'.pset {P:List (List Int)} {y i:Nat} {k:Int} (h:¬0≤pv P y i):Ext' P (pset P y i k):=
 ⟨(aMF P y i k).symm,fun z=>pset_row.symm,fun z j hz hj h0=>aHn fun⟨e1,e2⟩=>h (by subst e1;subst e2;exact h0)⟩
variable {f g:SF} {once:Bool} {x e u:Nat} {P Q:List (List Int)}
structure SPair (f g:SF):Prop where
 src:IsSF f
 tgt:IsSF g
 one:f.shape=g.shape
theorem SPair.ft (h:SPair f g) {a:Nat} (ha:a<f.shape.fr.length):f.fx a<f.sizes.length∧f.ty a<f.sizes.length∧f.shape.fr.getD a 0=f.fx a∧f.shape.to.getD a 0=f.ty a:=by
 have h1:=h.src.cat.frw a ha
 have h2:=h.src.cat.tow a (by rw [h.src.cat.tol];exact ha)
 have h3:=h.src.szl
 unfold SF.fx SF.ty
 omega
theorem SPair.fa (h:SPair f g) {a e:Nat} (ha:a<f.shape.fr.length) (he:(e:Int)<f.sizes.getD (f.fx a) 0):0≤f.av a e∧f.av a e<f.sizes.getD (f.ty a) 0:=by
 have h1:=h.src.act a (by rw [h.src.acl];exact ha)
 exact h1.2 e (by have:=h1.1;unfold SF.fx at he;omega)
theorem SPair.ga (h:SPair f g) {a u:Nat} (ha:a<f.shape.fr.length) (hu:(u:Int)<g.sizes.getD (f.fx a) 0):0≤g.av a u∧g.av a u<g.sizes.getD (f.ty a) 0:=by
 have h1:=h.tgt.act a (by rw [h.tgt.acl,←h.one];exact ha)
 rw [←h.one]at h1
 exact h1.2 u (by have:=h1.1;unfold SF.fx at hu;omega)
structure Gd (f g:SF) (once:Bool) (P:List (List Int)):Prop where
 len:P.length=f.sizes.length
 row:∀y,y<P.length→((P.getD y []).length:Int)=f.sizes.getD y 0
 rng:∀y i,y<P.length→i<(P.getD y []).length→-1≤pv P y i∧pv P y i<g.sizes.getD y 0
 inj:once=true→∀y i j,y<P.length→i<(P.getD y []).length→j<(P.getD y []).length→0≤pv P y i→pv P y i=pv P y j→i=j
theorem Good.gd (h:Good f g once P):Gd f g once P:=⟨h.len,h.row,h.rng,h.inj⟩
end Go.Cats
end
section
namespace Go.Cats
def fuI (P:List (List Int)) (y:Nat) (i:Nat):Option (Nat×Nat):=if pv P y i<0 then some (y,i)else none
def fuR (P:List (List Int)) (y:Nat):Option (Nat×Nat):=bJ (P.getD y []).length (fuI P y)
def fuP (P:List (List Int)):Option (Nat×Nat):=bJ P.length (fuR P)
section
variable (f g:SF) (once:Bool)
def dfs:Nat→List (List Int)→List (List (List Int))
 |0,_=>[]
 |n+1,P=>match fuP P with
  |none=>[P]
  |some (x,e)=>(List.range (g.sizes.getD x 0).toNat).flatMap fun u=>match aRG f g once x e u P with
   |none=>[]
   |some Q=>dfs n Q
end
variable {f g:SF} {once:Bool} {x e u:Nat} {P Q:List (List Int)}
theorem aEa:∀{r s:List Int},r.length=s.length→(∀i,i<r.length→0≤r.getD i 0→s.getD i 0=r.getD i 0)→(s.filter fun v=>decide (v<0)).length≤(r.filter fun v=>decide (v<0)).length
 |[],[],_,_=>Nat.le_refl _
 |[],_::_,h,_=>by simp at h
 |_::_,[],h,_=>by simp at h
 |a::r,b::s,hl,h=>by
  have ih:=aEa (r:=r) (s:=s) (by simpa using hl) (fun i hi h0=>by
   have:=h (i+1) (by simp;omega) (by simpa using h0)
   simpa using this)
  have h0:=h 0 (by simp)
  simp only [List.getD_cons_zero]at h0
  simp only [List.filter_cons]
  by_cases ha:a<0
  ·by_cases hb:b<0
   ·simp [ha,hb];exact ih
   ·simp [ha,hb];omega
  ·have:=h0 (by omega)
   subst this
   simp [ha];exact ih
theorem aIf:∀{r s:List Int},r.length=s.length→(∀i,i<r.length→0≤r.getD i 0→s.getD i 0=r.getD i 0)→∀j,j<r.length→r.getD j 0<0→0≤s.getD j 0→(s.filter fun v=>decide (v<0)).length<(r.filter fun v=>decide (v<0)).length
 |[],_,_,_,j,hj,_,_=>by simp at hj
 |_::_,[],h,_,_,_,_,_=>by simp at h
 |a::r,b::s,hl,h,j,hj,h1,h2=>by
  have hl':r.length=s.length:=by simpa using hl
  have hs:∀i,i<r.length→0≤r.getD i 0→s.getD i 0=r.getD i 0:=fun i hi h0=>by
   have:=h (i+1) (by simp;omega) (by simpa using h0)
   simpa using this
  have h0:=h 0 (by simp)
  simp only [List.getD_cons_zero]at h0
  simp only [List.filter_cons]
  cases j with
  |zero=>
   have ha:a<0:=by simpa using h1
   have hb:¬b<0:=by
    have:0≤b:=by simpa using h2
    omega
   have:=aEa hl' hs
   simp [ha,hb];omega
  |succ j=>
   have ih:=aIf hl' hs j (by simpa using hj) (by simpa using h1) (by simpa using h2)
   by_cases ha:a<0
   ·by_cases hb:b<0
    ·simp [ha,hb];exact ih
    ·simp [ha,hb];omega
   ·have:=h0 (by omega)
    subst this
    simp [ha];exact ih
end Go.Cats
end
section
namespace Go.Cats
section
variable (f g:SF) (once:Bool)
def aQ8 (e:Nat) (P:List (List Int)) (a:Nat):Prop:=¬0≤pv P (f.ty a) (f.av a e).toNat
instance (e:Nat) (P:List (List Int)) (a:Nat):Decidable (aQ8 f e P a):=by unfold aQ8;infer_instance
def setL (e u:Nat):List Nat→List (List Int)→List (Int×Int)→Bool×List (List Int)×List (Int×Int)
 |[],P,N=>(true,P,N)
 |a::l,P,N=>match aQg f g once e u P a with
  |none=>(false,P,N)
  |some Q=>setL e u l Q (if aQ8 f e P a then N++[((f.ty a:Int),f.av a e)]else N)
def aZi (c:Cat) (x:Nat) (n:Nat):List Nat:=(List.range n).filter fun a=>decide (c.fr.getD a 0=x)
end
variable {f g:SF} {once:Bool} {x e u:Nat} {P Q:List (List Int)}
def bAs (P:List (List Int)) (N:List (Int×Int)):List (List Int):=N.foldl (fun P p=>pset P p.1.toNat p.2.toNat (-1)) P
end Go.Cats
end
section
namespace Go.Cats
def aUB (l:List Int):Nat→Int
 |0=>0
 |n+1=>aUB l n+l.getD n 0
theorem aKA (l:List Int):aUB l 0=0:=rfl
theorem wV (n:Nat) (k:Int):List.replicate n k++[k]=List.replicate (n+1) k:=by rw [List.replicate_succ']
theorem aMV {i n:Nat} (k:Int) (h:i<n):(List.replicate i k++List.replicate (n-i) 0).set i k=List.replicate (i+1) k++List.replicate (n-(i+1)) 0:=by
 have e:n-i=(n-(i+1))+1:=by omega
 rw [e,List.replicate_succ,List.set_append_right _ _ (by simp),List.length_replicate,Nat.sub_self,List.set_cons_zero,List.replicate_succ',List.append_assoc]
 rfl
def aZg (c:Cat) (x n:Nat):List Int:=(aZi c x n).map fun a:Nat=>(a:Int)
theorem aJS (c:Cat) (x:Nat):aZg c x 0=[]:=rfl
theorem aOz {l:List Int} {n:Int} {i:Nat} (hi:i<l.length) (h:l.getD i 0=n):n∈l:=by
 rw [←h,List.getD_eq_getElem?_getD,List.getElem?_eq_getElem hi];exact List.getElem_mem hi
theorem aLD {l:List Int} {n:Int} {i:Nat} (h:∀j,j<i→¬l.getD j 0=n) (hi:l.length≤i):¬n∈l:=by
 intro hm
 obtain⟨j,hj,e⟩:=List.getElem_of_mem hm
 refine h j (by omega) ?_
 rw [List.getD_eq_getElem?_getD,List.getElem?_eq_getElem hj];exact e
end Go.Cats
end
section
namespace Go.Cats
section
variable (f g:SF) (once:Bool)
end
variable {f g:SF} {once:Bool} {x e u j a:Nat} {P Q:List (List Int)} {N:List (Int×Int)}
variable {y i k:Int}
end Go.Cats
end
section
namespace Go.Cats
section
variable (f g:SF) (once:Bool)
def aZl (x e u:Nat) (P:List (List Int)) (a:Nat):List (List Int):=(aPk f g once x e u P a).getD P
end
variable {f g:SF} {once:Bool} {x e u a:Nat} {P Q:List (List Int)}
section
variable (h:aPk f g once x e u P a=some (aZl f g once x e u P a)) (ha:a<f.shape.fr.length) (hx:f.shape.fr.getD a 0=x)
include h ha hx
end
end Go.Cats
end
section
namespace Go.Cats
section
variable (f g:SF) (once:Bool)
end
variable {f g:SF} {once:Bool} {x e n:Nat} {P Q:List (List Int)}
end Go.Cats
end
section
namespace Go.Cats
section
variable (f g:SF) (once:Bool)
end
variable {f g:SF} {once:Bool} {n x e u:Nat} {P Q:List (List Int)}
theorem take_take (A B C:List (List (List Int))) (k:Nat):((A++B).take k++C).take k=(A++(B++C)).take k:=by
 rw [←List.append_assoc,List.take_append,List.take_append (l₁:=A++B),List.take_take,Nat.min_self,List.length_take]
 by_cases h:k≤(A++B).length
 ·rw [Nat.min_eq_left h,Nat.sub_self,Nat.sub_eq_zero_of_le h]
 ·rw [Nat.min_eq_right (by omega)]
end Go.Cats
end
section
namespace Go.Cats
def tB (l:List Int) (n:Int) (i:Nat):Option Int:=if l.getD i 0=n then some (i:Int)else none
def idxOf (l:List Int) (n:Int):Int:=(bJ l.length (tB l n)).getD (-1)
theorem idxOf_hit {l:List Int} {n:Int} {i:Nat} (h:bJ i (tB l n)=none) (hi:i<l.length) (k:l.getD i 0=n):idxOf l n=i:=by
 unfold idxOf
 rw [gE hi h (show tB l n i=some (i:Int) from if_pos k)];rfl
theorem uE {l:List Int} {n:Int} (h:bJ l.length (tB l n)=none):idxOf l n= -1:=by
 unfold idxOf
 rw [h];rfl
theorem aLL {l:List Int} {n:Int} {i:Nat} (k:¬l.getD i 0=n):tB l n i=none:=if_neg k
theorem aFA {l:List Int} {n:Int} (h:idxOf l n≠-1):0≤idxOf l n∧idxOf l n<l.length∧l.getD (idxOf l n).toNat 0=n:=by
 unfold idxOf at h⊢
 cases hs:bJ l.length (tB l n)with
 |none=>rw [hs]at h;exact absurd rfl h
 |some r=>
  obtain⟨i,hi,k⟩:=dJ hs
  unfold tB at k
  split at k
  ·rename_i q;simp at k;subst k
   simp only [Option.getD_some,Int.toNat_natCast]
   exact⟨by omega,by omega,q⟩
  ·cases k
theorem aJw {l:List Int} {n:Int} (h:n∈l):0≤idxOf l n∧idxOf l n<l.length∧l.getD (idxOf l n).toNat 0=n:=by
 refine aFA fun e=>?_
 unfold idxOf at e
 cases hs:bJ l.length (tB l n)with
 |none=>
  obtain⟨i,hi,k⟩:=qX (d:=0) h
  have:=scan_none.1 hs i hi
  unfold tB at this
  rw [if_pos k]at this
  cases this
 |some r=>
  rw [hs]at e
  obtain⟨i,hi,k⟩:=dJ hs
  unfold tB at k
  split at k
  ·simp at k;subst k;simp at e
  ·cases k
def Cat.small (c:Cat) (x:Int):Prop:=∀y:Nat,(y:Int)<c.ob→(c.hom x y).length≤16
theorem Cat.hom_len (c:Cat) (x y:Int):(c.hom x y).length≤c.fr.length:=c.homI_len x y _
end Go.Cats
end
section
namespace Go.Cats
def suf {α:Type} (n:Nat) (p:Nat→Option α):Nat→Option α
 |0=>none
 |k+1=>(p (n-1-k)).or (suf n p k)
theorem aND {α:Type} {n:Nat} {p:Nat→Option α}:suf n p 0=none:=rfl
theorem aB9 {α:Type} {n k:Nat} {p:Nat→Option α}:suf n p (k+1)=(p (n-1-k)).or (suf n p k):=rfl
theorem aGp {α:Type} {n:Nat} {p:Nat→Option α}:∀k,k≤n→bJ n p=(bJ (n-k) p).or (suf n p k)
 |0,_=>by rw [aND,Nat.sub_zero];cases bJ n p<;>rfl
 |k+1,hk=>by
  rw [aGp k (by omega),aB9,show n-k=(n-1-k)+1 by omega,sS,show n-(k+1)=n-1-k by omega,Option.or_assoc]
theorem aPz {α:Type} {n:Nat} {p:Nat→Option α}:suf n p n=bJ n p:=by
 rw [aGp n (Nat.le_refl n),Nat.sub_self,aJ5];rfl
section
variable (f g:SF) (once:Bool)
end
variable {f g:SF} {once:Bool} {n x e u:Nat} {P Q:List (List Int)}
end Go.Cats
end
section
namespace Go.Cats
/-! ### Results, taken up one by one -/
section
variable {α β:Type} (s:α→β→Bool×α)
def eat:α→List β→Bool×α
 |o,[]=>(true,o)
 |o,q::D=>if(s o q).1=true then eat (s o q).2 D else(false,(s o q).2)
end
section
variable {α β:Type} {s:α→β→Bool×α} {o:α} {D E:List β} {q:β}
theorem aH8:eat s o []=(true,o):=rfl
theorem vT (h:(s o q).1=true):eat s o (q::D)=eat s (s o q).2 D:=by rw [eat];exact if_pos h
theorem aCU (h:(s o q).1=false):eat s o (q::D)=(false,(s o q).2):=by rw [eat];exact if_neg (by rw [h];simp)
theorem aD4:eat s o [q]=s o q:=by
 cases h:(s o q).1 with
 |true=>rw [vT h,aH8,←h]
 |false=>rw [aCU h,←h]
theorem aA3:∀{D:List β} {o:α},(eat s o D).1=true→eat s o (D++E)=eat s (eat s o D).2 E
 |[],o,_=>rfl
 |q::D,o,h=>by
  cases hq:(s o q).1 with
  |true=>
   rw [vT hq]at h
   rw [List.cons_append,vT hq,vT hq,aA3 h]
  |false=>rw [aCU hq]at h;cases h
theorem qN:∀{D:List β} {o:α},(eat s o D).1=false→eat s o (D++E)=eat s o D
 |[],o,h=>by cases h
 |q::D,o,h=>by
  cases hq:(s o q).1 with
  |true=>
   rw [vT hq]at h
   rw [List.cons_append,vT hq,vT hq,qN h]
  |false=>rw [List.cons_append,aCU hq,aCU hq]
end
/-! ### The way back -/
variable {f g:SF} {once:Bool} {x e u n:Nat} {P Q:List (List Int)} {N:List (Int×Int)}
structure ChF (f g:SF) (once:Bool) (x e u:Nat) (P Q:List (List Int)) (N:List (Int×Int)) (ok:Bool):Prop where
 len:Q.length=P.length
 row:∀y,(Q.getD y []).length=(P.getD y []).length
 nl:N.length≤4096
 at1:∀i,i<N.length→0≤(N.getD i (0,0)).1∧(N.getD i (0,0)).1.toNat<P.length∧0≤(N.getD i (0,0)).2∧(N.getD i (0,0)).2.toNat<(P.getD (N.getD i (0,0)).1.toNat []).length
 back:bAs Q N=P
 yes:ok=true→aRG f g once x e u P=some Q
 no:ok=false→aRG f g once x e u P=none
end Go.Cats
end
section
namespace Go.Cats
def qV:List Nat→List (List Int)
 |[]=>[[]]
 |s::S=>(List.range s).flatMap fun v:Nat=>(qV S).map fun l=>(v:Int)::l
def dS:List Int→List Int→Bool
 |[],[]=>true
 |a::A,q::Q=>(decide (a<0)||decide (q=a))&&dS A Q
 |_,_=>false
def dE (W:List Int→Bool) (S:List Nat) (A:List Int):List (List Int):=(qV S).filter fun Q=>dS A Q&&W Q
theorem mem_lexP:∀{S:List Nat} {Q:List Int},Q∈qV S↔Q.length=S.length∧∀i,i<Q.length→0≤Q.getD i 0∧Q.getD i 0<S.getD i 0
 |[],Q=>by
  simp only [qV,List.mem_singleton,List.length_nil]
  constructor
  ·rintro rfl;exact⟨rfl,fun i hi=>by simp at hi⟩
  ·rintro⟨h,_⟩;exact List.length_eq_zero_iff.1 h
 |s::S,Q=>by
  simp only [qV,List.mem_flatMap,List.mem_range,List.mem_map]
  constructor
  ·rintro⟨v,hv,l,hl,rfl⟩
   obtain⟨h1,h2⟩:=mem_lexP.1 hl
   refine⟨by simp [h1],fun i hi=>?_⟩
   cases i with
   |zero=>simpa using hv
   |succ i=>simpa using h2 i (by simpa using hi)
  ·rintro⟨h1,h2⟩
   cases Q with
   |nil=>simp at h1
   |cons q Q=>
    have h0:=h2 0 (by simp)
    simp only [List.getD_cons_zero]at h0
    refine⟨q.toNat,by omega,Q,mem_lexP.2 ⟨by simpa using h1,fun i hi=>by have:=h2 (i+1) (by simp;omega);simpa using this⟩,?_⟩
    rw [Int.toNat_of_nonneg h0.1]
theorem contB_iff:∀{A Q:List Int},dS A Q=true↔A.length=Q.length∧∀i,i<A.length→0≤A.getD i 0→Q.getD i 0=A.getD i 0
 |[],[]=>by simp [dS]
 |[],_::_=>by simp [dS]
 |_::_,[]=>by simp [dS]
 |a::A,q::Q=>by
  simp only [dS,Bool.and_eq_true,Bool.or_eq_true,decide_eq_true_eq,contB_iff (A:=A) (Q:=Q),List.length_cons,Nat.add_right_cancel_iff]
  constructor
  ·rintro⟨h0,h1,h2⟩
   refine⟨h1,fun i hi h=>?_⟩
   cases i with
   |zero=>simp only [List.getD_cons_zero]at h⊢;omega
   |succ i=>simp only [List.getD_cons_succ]at h⊢;exact h2 i (by omega) h
  ·rintro⟨h1,h2⟩
   refine⟨?_,h1,fun i hi h=>?_⟩
   ·have:=h2 0 (by omega)
    simp only [List.getD_cons_zero]at this
    omega
   ·have:=h2 (i+1) (by omega)
    simpa using this (by simpa using h)
theorem mem_extW {W:List Int→Bool} {S:List Nat} {A Q:List Int}:Q∈dE W S A↔Q∈qV S∧dS A Q=true∧W Q=true:=by
 unfold dE
 rw [List.mem_filter,Bool.and_eq_true]
theorem uC {W:List Int→Bool} {S:List Nat} {A B:List Int} (h:∀Q,Q∈qV S→W Q=true→(dS A Q=true↔dS B Q=true)):dE W S A=dE W S B:=by
 unfold dE
 refine List.filter_congr fun Q hQ=>?_
 cases hW:W Q with
 |false=>rw [Bool.and_false,Bool.and_false]
 |true=>
  rw [Bool.and_true,Bool.and_true]
  have:=h Q hQ hW
  cases h1:dS A Q<;>cases h2:dS B Q<;>simp_all
theorem nM {W:List Int→Bool} {S:List Nat} {A:List Int} (h:∀Q,Q∈qV S→W Q=true→dS A Q=true→False):dE W S A=[]:=by
 rw [List.eq_nil_iff_forall_not_mem]
 intro Q hQ
 obtain⟨h1,h2,h3⟩:=mem_extW.1 hQ
 exact h Q h1 h3 h2
theorem aLu {β:Type} {s:Nat} {a:Int} {g:Nat→List β}:((List.range s).flatMap fun v:Nat=>if(v:Int)=a then g v else [])=if 0≤a∧a<s then g a.toNat else []:=by
 induction s with
 |zero=>rw [if_neg (by omega)];rfl
 |succ s ih=>
  rw [List.range_succ,List.flatMap_append,ih,List.flatMap_cons,List.flatMap_nil,List.append_nil]
  by_cases h:(s:Int)=a
  ·subst h
   rw [if_neg (by omega),if_pos rfl,if_pos (by omega),List.nil_append,Int.toNat_natCast]
  ·rw [if_neg h,List.append_nil]
   by_cases h1:0≤a∧a<s
   ·rw [if_pos h1,if_pos (by omega)]
   ·rw [if_neg h1,if_neg (by omega)]
theorem aC7 {W:List Int→Bool} {s:Nat} {S:List Nat} {a:Int} {A:List Int}:
  dE W (s::S) (a::A)=(List.range s).flatMap fun v:Nat=>if a<0∨(v:Int)=a then(dE (fun Q=>W ((v:Int)::Q)) S A).map fun l=>(v:Int)::l else []:=by
 unfold dE
 rw [qV,List.filter_flatMap]
 congr 1
 funext v
 rw [List.filter_map]
 by_cases h:a<0∨(v:Int)=a
 ·rw [if_pos h]
  congr 1
  refine List.filter_congr fun Q _=>?_
  have:(decide (a<0)||decide ((v:Int)=a))=true:=by simpa using h
  simp only [Function.comp,dS,this,Bool.true_and]
 ·rw [if_neg h]
  have:(decide (a<0)||decide ((v:Int)=a))=false:=by simpa using h
  have e:((fun Q=>dS (a::A) Q&&W Q)∘fun l=>(v:Int)::l)=fun _=>false:=by
   funext Q
   simp only [Function.comp,dS,this,Bool.false_and]
  rw [e]
  simp
theorem vV {W:List Int→Bool} {s:Nat} {S:List Nat} {a:Int} {A:List Int} (h:0≤a):dE W (s::S) (a::A)=if a<s then(dE (fun Q=>W (a::Q)) S A).map fun l=>a::l else []:=by
 rw [aC7]
 have:(fun v:Nat=>if a<0∨(v:Int)=a then(dE (fun Q=>W ((v:Int)::Q)) S A).map (fun l=>(v:Int)::l)else [])=fun v:Nat=>if(v:Int)=a then(dE (fun Q=>W ((v:Int)::Q)) S A).map (fun l=>(v:Int)::l)else []:=by
  funext v
  by_cases h1:(v:Int)=a
  ·rw [if_pos (.inr h1),if_pos h1]
  ·rw [if_neg (by omega),if_neg h1]
 rw [this,aLu]
 by_cases h1:a<s
 ·rw [if_pos ⟨h,h1⟩,if_pos h1,Int.toNat_of_nonneg h]
 ·rw [if_neg (by omega),if_neg h1]
theorem mF:∀{W:List Int→Bool} {S:List Nat} {A:List Int} {i:Nat},A.length=S.length→i<A.length→(∀j,j<i→0≤A.getD j 0)→A.getD i 0<0→
  dE W S A=(List.range (S.getD i 0)).flatMap fun u:Nat=>dE W S (A.set i (u:Int))
 |W,[],A,i,hl,hi,_,_=>by simp at hl;subst hl;simp at hi
 |W,s::S,[],i,hl,hi,_,_=>by simp at hi
 |W,s::S,a::A,0,hl,hi,_,h0=>by
  simp only [List.getD_cons_zero]at h0⊢
  rw [aC7]
  rw [List.flatMap_def,List.flatMap_def]
  congr 1
  refine List.map_congr_left fun u hu=>?_
  have hu:=List.mem_range.1 hu
  rw [List.set_cons_zero,vV (by omega),if_pos (Or.inl h0),if_pos (show(u:Int)<s by omega)]
 |W,s::S,a::A,i+1,hl,hi,hlt,h0=>by
  have ha:=hlt 0 (by omega)
  simp only [List.getD_cons_zero,List.getD_cons_succ]at ha h0⊢
  have ih:=mF (W:=fun Q=>W (a::Q)) (S:=S) (A:=A) (i:=i) (by simpa using hl) (by simpa using hi) (fun j hj=>by have:=hlt (j+1) (by omega);simpa using this) h0
  rw [vV ha]
  have:(fun u:Nat=>dE W (s::S) ((a::A).set (i+1) (u:Int)))=fun u:Nat=>if a<s then(dE (fun Q=>W (a::Q)) S (A.set i (u:Int))).map (fun l=>a::l)else []:=by
   funext u
   rw [List.set_cons_succ,vV ha]
  rw [this]
  by_cases h1:a<s
  ·rw [if_pos h1,ih,List.map_flatMap]
   simp only [if_pos h1]
  ·rw [if_neg h1]
   simp only [if_neg h1]
   simp
theorem sJ:∀{W:List Int→Bool} {S:List Nat} {A:List Int},A.length=S.length→(∀j,j<A.length→0≤A.getD j 0∧A.getD j 0<S.getD j 0)→dE W S A=if W A=true then [A]else []
 |W,[],A,hl,_=>by
  have:A=[]:=List.length_eq_zero_iff.1 hl
  subst this
  cases h:W []<;>simp [dE,qV,dS,h]
 |W,s::S,[],hl,_=>by simp at hl
 |W,s::S,a::A,hl,h=>by
  have h0:=h 0 (by simp)
  simp only [List.getD_cons_zero]at h0
  rw [vV h0.1,if_pos h0.2,sJ (by simpa using hl) (fun j hj=>by have:=h (j+1) (by simp;omega);simpa using this)]
  split<;>simp_all
end Go.Cats
end
section
namespace Go.Cats
structure Rule where
 fr:Int
 to:Int
 by_:List Int
instance:Inhabited Rule:=⟨⟨0,0,[]⟩⟩
def aAG (rs:List Rule) (i:Nat):List Rule:=rs.filter fun r=>decide (r.fr=i)
def okW (rs:List Rule) (Q:List Int):Bool:=rs.all fun r=>decide (Q.getD r.to.toNat 0=r.by_.getD (Q.getD r.fr.toNat 0).toNat 0)
structure RulesW (S:List Nat) (rs:List Rule):Prop where
 fr:∀r∈rs,0≤r.fr∧r.fr<S.length
 to:∀r∈rs,0≤r.to∧r.to<S.length
 len:∀r∈rs,r.by_.length=S.getD r.fr.toNat 0
 val:∀r∈rs,∀e:Nat,e<S.getD r.fr.toNat 0→0≤r.by_.getD e 0∧r.by_.getD e 0<S.getD r.to.toNat 0
theorem zR {rs:List Rule} {i:Nat} {r:Rule} (h:r∈aAG rs i):r∈rs∧r.fr=i:=by
 unfold aAG at h
 simpa [List.mem_filter]using h
abbrev St:=Bool×List Int×List Int
section
variable {f:Nat→Int→List Int→List Int→St} {e:Int} {r:Rule} {l m:List Rule} {A B C N Q:List Int} {rs:List Rule} {S:List Nat} {n i:Nat}
def XtL (A B:List Int):Prop:=A.length=B.length∧∀j,j<A.length→0≤A.getD j 0→B.getD j 0=A.getD j 0
theorem XtL.refl (A:List Int):XtL A A:=⟨rfl,fun _ _ _=>rfl⟩
theorem XtL.trans (h:XtL A B) (k:XtL B C):XtL A C:=⟨h.1.trans k.1,fun j hj h0=>by
 have e1:=h.2 j hj h0
 rw [k.2 j (by rw [←h.1];exact hj) (by rw [e1];exact h0),e1]⟩
def uns (A:List Int):Nat:=(A.filter fun v=>decide (v<0)).length
theorem XtL.uns (h:XtL A B):uns B≤uns A:=aEa h.1 h.2
theorem XtL.uns_lt (h:XtL A B) {j:Nat} (hj:j<A.length) (h0:A.getD j 0<0) (h1:0≤B.getD j 0):Cats.uns B<Cats.uns A:=aIf h.1 h.2 j hj h0 h1
theorem aV {i j:Nat} {k:Int} (hi:i<A.length):(A.set i k).getD j 0=if j=i then k else A.getD j 0:=by
 rw [List.getD_eq_getElem?_getD,List.getElem?_set]
 by_cases h:j=i
 ·subst h;rw [if_pos rfl,if_pos hi,if_pos rfl];rfl
 ·rw [if_neg (fun q=>h q.symm),if_neg h,List.getD_eq_getElem?_getD]
theorem XtL.set (hi:i<A.length) (h:¬0≤A.getD i 0):XtL A (A.set i e):=⟨by simp,fun j hj h0=>by
 rw [aV hi,if_neg (fun q=>h (by rw [←q];exact h0))]⟩
theorem XtL.cont (h:XtL A B) (k:dS B Q=true):dS A Q=true:=by
 rw [contB_iff]at k⊢
 refine⟨h.1.trans k.1,fun j hj h0=>?_⟩
 have e1:=h.2 j hj h0
 rw [k.2 j (by rw [←h.1];exact hj) (by rw [e1];exact h0),e1]
def RngL (S:List Nat) (A:List Int):Prop:=A.length=S.length∧∀j,j<A.length→-1≤A.getD j 0∧A.getD j 0<S.getD j 0
theorem RngL.set (h:RngL S A) (hi:i<A.length) (he:0≤e∧e<S.getD i 0):RngL S (A.set i e):=⟨by simp [h.1],fun j hj=>by
 rw [aV hi]
 by_cases q:j=i
 ·subst q;rw [if_pos rfl];omega
 ·rw [if_neg q];exact h.2 j (by simpa using hj)⟩
def ClF (rs:List Rule) (A B:List Int):Prop:=∀j,j<A.length→A.getD j 0<0→0≤B.getD j 0→∀r∈aAG rs j,B.getD r.to.toNat 0=r.by_.getD (B.getD j 0).toNat 0
theorem ClF.refl (A:List Int):ClF rs A A:=fun j _ h0 h1=>by omega
theorem ClF.trans (hw:RulesW S rs) (hB:RngL S B) (h:ClF rs A B) (x:XtL A B) (y:XtL B C) (k:ClF rs B C):ClF rs A C:=fun j hj h0 h1 r hr=>by
 by_cases hb:0≤B.getD j 0
 ·have e1:=h j hj h0 hb r hr
  have e2:=y.2 j (by rw [←x.1];exact hj) hb
  obtain⟨m1,m2⟩:=zR hr
  have b1:=hB.2 j (by rw [←x.1];exact hj)
  have t1:=hw.to r m1
  have v1:=hw.val r m1 (B.getD j 0).toNat (by rw [m2];simp only [Int.toNat_natCast];omega)
  have e3:=y.2 r.to.toNat (by have:=hB.1;omega) (by rw [e1];exact v1.1)
  rw [e3,e2,e1]
 ·exact k j (by rw [←x.1];exact hj) (by omega) h1 r hr
def aNL (A N:List Int):List Int:=N.foldl (fun A k=>A.set k.toNat (-1)) A
structure Fct (S:List Nat) (A N:List Int) (t:St):Prop where
 ext:XtL A t.2.1
 rng:RngL S t.2.1
 und:aNL t.2.1 t.2.2=aNL A N
 nts:∀k∈t.2.2,k∈N∨(0≤k∧k.toNat<A.length)
 cnt:t.2.2.length+uns t.2.1≤N.length+uns A
theorem Fct.refl {b:Bool} (h:RngL S A):Fct S A N (b,A,N):=⟨.refl _,h,rfl,fun k hk=> .inl hk,Nat.le_refl _⟩
theorem Fct.trans {t u:St} (h:Fct S A N t) (k:Fct S t.2.1 t.2.2 u):Fct S A N u:=
 ⟨h.ext.trans k.ext,k.rng,k.und.trans h.und,fun x hx=>by
  rcases k.nts x hx with h1|h1
  ·exact h.nts x h1
  ·exact .inr (by rw [h.ext.1];exact h1),Nat.le_trans k.cnt h.cnt⟩
def ClL (rs:List Rule) (A:List Int):Prop:=∀j,j<A.length→0≤A.getD j 0→∀r∈aAG rs j,A.getD r.to.toNat 0=r.by_.getD (A.getD j 0).toNat 0
theorem ClL.step (hw:RulesW S rs) (hA:RngL S A) (h:ClL rs A) (x:XtL A B) (k:ClF rs A B):ClL rs B:=fun j hj h0 r hr=>by
 rw [←x.1]at hj
 by_cases q:0≤A.getD j 0
 ·have e1:=h j hj q r hr
  have e2:=x.2 j hj q
  obtain⟨m1,m2⟩:=zR hr
  have b1:=hA.2 j hj
  have t1:=hw.to r m1
  have v1:=hw.val r m1 (A.getD j 0).toNat (by rw [m2];simp only [Int.toNat_natCast];omega)
  rw [x.2 r.to.toNat (by have:=hA.1;omega) (by rw [e1];exact v1.1),e2,e1]
 ·exact k j hj (by omega) h0 r hr
end
end Go.Cats
end
section
namespace Go.Cats
def stL {β:Type} (M:Nat) (o:List β) (q:β):Bool×List β:=(decide (o.length+1≤M),o++[q])
theorem aCT {β:Type} {M:Nat}:∀(D o:List β),o.length≤M→eat (stL M) o D=(decide ((o++D).length≤M),(o++D).take (M+1))
 |[],o,h=>by
  rw [aH8,List.append_nil,List.take_of_length_le (by omega),decide_eq_true h]
 |q::D,o,h=>by
  by_cases h1:o.length+1≤M
  ·rw [vT (decide_eq_true h1),show(stL M o q).2=o++[q] from rfl,aCT D _ (by simp;omega)]
   simp
  ·rw [aCU (decide_eq_false h1),show(stL M o q).2=o++[q] from rfl]
   have e1:o.length=M:=by omega
   have e2:decide ((o++q::D).length≤M)=false:=decide_eq_false (by simp;omega)
   rw [e2,←e1,List.take_append,List.take_of_length_le (by omega),show o.length+1-o.length=1 by omega]
   simp
theorem vS {β:Type} {M:Nat} {D o:List β} (h:o.length≤M) (h1:(eat (stL M) o D).1=true):(eat (stL M) o D).2.length≤M:=by
 rw [aCT _ _ h]at h1⊢
 simp only [decide_eq_true_eq]at h1
 simp only [List.length_take]
 omega
section
variable {f:Nat→Int→List Int→List Int→St} {e:Int} {l:List Rule} {A N:List Int} {k:Nat}
end
/-! ### The search -/
theorem uR {α:Type} {p:Nat→Option α} {r:α}:∀{n:Nat},bJ n p=some r→∃i,i<n∧p i=some r∧bJ i p=none
 |0,h=>by cases h
 |n+1,h=>by
  rw [sS]at h
  cases hs:bJ n p with
  |none=>rw [hs]at h;exact⟨n,Nat.lt_succ_self _,h,hs⟩
  |some q=>
   rw [hs]at h
   obtain⟨i,h1,h2,h3⟩:=uR hs
   have:q=r:=Option.some.inj h
   subst this
   exact⟨i,by omega,h2,h3⟩
theorem aJx {S:List Nat} {A:List Int} (hA:RngL S A):(idxOf A (-1)= -1∧∀j,j<A.length→0≤A.getD j 0)∨∃i:Nat,idxOf A (-1)=i∧i<A.length∧A.getD i 0= -1∧∀j,j<i→0≤A.getD j 0:=by
 have hne:∀j,j<A.length→tB A (-1) j=none→0≤A.getD j 0:=fun j hj h=>by
  have h1:=(hA.2 j hj).1
  unfold tB at h
  split at h
  ·cases h
  ·omega
 cases hs:bJ A.length (tB A (-1))with
 |none=>exact .inl ⟨uE hs,fun j hj=>hne j hj (scan_none.1 hs j hj)⟩
 |some r=>
  obtain⟨i,h1,h2,h3⟩:=uR hs
  have h4:A.getD i 0= -1:=by
   unfold tB at h2
   split at h2
   ·assumption
   ·cases h2
  exact .inr ⟨i,idxOf_hit h3 h1 h4,h1,h4,fun j hj=>hne j (by omega) (scan_none.1 h3 j hj)⟩
theorem vB (A:List Int):uns A≤A.length:=List.length_filter_le _ _
structure TryF (rs:List Rule) (S:List Nat) (A:List Int) (i u:Nat) (T:St):Prop where
 len:T.2.1.length=A.length
 nl:T.2.2.length≤A.length
 at1:∀j,j<T.2.2.length→0≤T.2.2.getD j 0∧(T.2.2.getD j 0).toNat<A.length
 back:aNL T.2.1 T.2.2=A
 yes:T.1=true→RngL S T.2.1∧ClL rs T.2.1∧uns T.2.1<uns A∧dE (okW rs) S (A.set i (u:Int))=dE (okW rs) S T.2.1
 no:T.1=false→dE (okW rs) S (A.set i (u:Int))=[]
end Go.Cats
end
section
namespace Go.Cats
structure Link where
 i:Int
 j:Int
 left:List Int
 right:List Int
instance:Inhabited Link:=⟨⟨0,0,[],[]⟩⟩
structure LinksW (S:List Nat) (ls:List Link):Prop where
 i:∀l∈ls,0≤l.i∧l.i<S.length
 j:∀l∈ls,0≤l.j∧l.j<S.length
 left:∀l∈ls,l.left.length=S.getD l.i.toNat 0
 right:∀l∈ls,l.right.length=S.getD l.j.toNat 0
def aRe (ls:List Link) (Q:List Int):Bool:=ls.all fun l=>decide (l.left.getD (Q.getD l.i.toNat 0).toNat 0=l.right.getD (Q.getD l.j.toNat 0).toNat 0)
def aAz (A:List Int) (n:Nat) (e:Int) (l:Link):Bool:=
 if l.i=n∧l.j=n then decide (l.left.getD e.toNat 0=l.right.getD e.toNat 0)
 else if l.i=n∧0≤A.getD l.j.toNat 0 then decide (l.left.getD e.toNat 0=l.right.getD (A.getD l.j.toNat 0).toNat 0)
 else if l.j=n∧0≤A.getD l.i.toNat 0 then decide (l.left.getD (A.getD l.i.toNat 0).toNat 0=l.right.getD e.toNat 0)
 else true
def atL (ls:List Link) (n:Nat) (m:Nat):List Nat:=(List.range m).filter fun k=>decide ((ls.getD k default).i=n)||decide ((ls.getD k default).j=n)
def aPY (ls:List Link) (A:List Int) (n:Nat) (e:Int):Bool:=(atL ls n ls.length).all fun k=>aAz A n e (ls.getD k default)
def fqI (A:List Int) (i:Nat):Option Nat:=if A.getD i 0= -1 then some i else none
def fqL (A:List Int):Option Nat:=bJ A.length (fqI A)
section
variable {ls:List Link} {S:List Nat} {A B Q:List Int} {n i m:Nat} {e:Int} {l:Link}
theorem vY (h:fqL A=some i):i<A.length∧A.getD i 0= -1∧∀j,j<i→A.getD j 0≠-1:=by
 obtain⟨k,h1,h2,h3⟩:=uR h
 unfold fqI at h2
 split at h2
 ·rename_i h4
  have:k=i:=Option.some.inj h2
  subst this
  refine⟨h1,h4,fun j hj q=>?_⟩
  have:=scan_none.1 h3 j hj
  unfold fqI at this
  rw [if_pos q]at this
  cases this
 ·cases h2
theorem fqL_none:fqL A=none↔∀j,j<A.length→A.getD j 0≠-1:=by
 unfold fqL
 rw [scan_none]
 constructor
 ·intro h j hj q
  have:=h j hj
  unfold fqI at this
  rw [if_pos q]at this
  cases this
 ·intro h j hj
  unfold fqI
  rw [if_neg (h j hj)]
theorem aLs (h:aPY ls A n e=true) (hl:l∈ls):aAz A n e l=true:=by
 by_cases hn:l.i=n∨l.j=n
 ·obtain⟨k,hk,e1⟩:=List.getElem_of_mem hl
  have hg:ls.getD k default=l:=by rw [List.getD_eq_getElem?_getD,List.getElem?_eq_getElem hk,Option.getD_some,e1]
  have:=List.all_eq_true.1 h k (List.mem_filter.2 ⟨List.mem_range.2 hk,by rw [hg];simpa using hn⟩)
  rwa [hg]at this
 ·unfold aAz
  rw [if_neg (fun q=>hn (.inl q.1)),if_neg (fun q=>hn (.inl q.1)),if_neg (fun q=>hn (.inr q.1))]
theorem XtL.setL (hi:i<A.length) (h:A.getD i 0= -1):XtL A (A.set i e):= .set hi (by omega)
def CoL (ls:List Link) (A:List Int):Prop:=∀l∈ls,0≤A.getD l.i.toNat 0→0≤A.getD l.j.toNat 0→l.left.getD (A.getD l.i.toNat 0).toNat 0=l.right.getD (A.getD l.j.toNat 0).toNat 0
theorem CoL.set (hw:LinksW S ls) (hA:A.length=S.length) (hi:i<A.length) (h:CoL ls A) {u:Nat} (hu:aPY ls A i u=true):CoL ls (A.set i (u:Int)):=fun l hl h1 h2=>by
 have hf:=aLs hu hl
 have w1:=hw.i l hl
 have w2:=hw.j l hl
 rw [aV hi]at h1 h2⊢
 rw [aV hi]
 unfold aAz at hf
 by_cases c1:l.i.toNat=i
 ·have e1:l.i=i:=by omega
  rw [if_pos c1]
  by_cases c2:l.j.toNat=i
  ·have e2:l.j=i:=by omega
   rw [if_pos c2]
   rw [if_pos ⟨e1,e2⟩]at hf
   simpa using hf
  ·rw [if_neg c2]at h2⊢
   rw [if_neg (fun q=>c2 (by omega)),if_pos ⟨e1,h2⟩]at hf
   simpa using hf
 ·rw [if_neg c1]at h1⊢
  by_cases c2:l.j.toNat=i
  ·have e2:l.j=i:=by omega
   rw [if_pos c2]
   rw [if_neg (fun q=>c1 (by omega)),if_neg (fun q=>c1 (by omega)),if_pos ⟨e2,h1⟩]at hf
   simpa using hf
  ·rw [if_neg c2]at h2⊢
   exact h l hl h1 h2
end
end Go.Cats
end
section
namespace Go.Cats
def pI:Option Nat→Int|none=> -1|some x=>x
def bkL (A:List Int) (i:Nat):Option Nat:=suf A.length (fqI A) i
theorem aH0 {A:List Int}:bkL A A.length=fqL A:=aPz
theorem aN4 {A:List Int} {i:Nat} (h:A.getD (A.length-1-i) 0= -1):bkL A (i+1)=some (A.length-1-i):=by
 unfold bkL
 rw [aB9,show fqI A _=some _ from if_pos h]
 rfl
theorem aEV {A:List Int} {i:Nat} (h:¬A.getD (A.length-1-i) 0= -1):bkL A (i+1)=bkL A i:=by
 unfold bkL
 rw [aB9,show fqI A _=none from if_neg h]
 rfl
theorem aUC {α:Type} (A B C:List α) (k:Nat):((A++B).take k++C).take k=(A++(B++C)).take k:=by
 rw [←List.append_assoc,List.take_append,List.take_append (l₁:=A++B),List.take_take,Nat.min_self,List.length_take]
 by_cases h:k≤(A++B).length
 ·rw [Nat.min_eq_left h,Nat.sub_self,Nat.sub_eq_zero_of_le h]
 ·rw [Nat.min_eq_right (by omega)]
theorem aTE {α:Type} (A B:List α) {k:Nat} (h:¬(A.take k).length<k):(A++B).take k=A.take k:=by
 rw [List.length_take]at h
 rw [List.take_append,show k-A.length=0 by omega,List.take_zero,List.append_nil]
end Go.Cats
end
section
namespace Go.Cats
abbrev Fs:=Bool×Bool×List Int
abbrev Cat.cp (c:Cat) (a b:Nat):Int:=(c.co.getD a []).getD b 0
def stF (c d:Cat) (a b:Nat) (s:Fs):Fs:=
 if c.cp a b<0∨s.2.2.getD a 0<0∨s.2.2.getD b 0<0 then s
 else if s.2.2.getD (c.cp a b).toNat 0<0 then(true,true,s.2.2.set (c.cp a b).toNat (d.C (s.2.2.getD a 0) (s.2.2.getD b 0)))
 else(decide (s.2.2.getD (c.cp a b).toNat 0=d.C (s.2.2.getD a 0) (s.2.2.getD b 0)),s.2.1,s.2.2)
def cL (c d:Cat) (a:Nat):Nat→Fs→Fs
 |0,s=>s
 |b+1,s=>if(cL c d a b s).1=true then stF c d a b (cL c d a b s)else cL c d a b s
def bM (c d:Cat) (m:Nat):Nat→Fs→Fs
 |0,s=>s
 |a+1,s=>if(bM c d m a s).1=true then cL c d a m (bM c d m a s)else bM c d m a s
def cK (c d:Cat):Nat→List Int→Bool×List Int
 |0,A=>(false,A)
 |k+1,A=>if(bM c d c.fr.length c.fr.length (true,false,A)).1=true then
   (if(bM c d c.fr.length c.fr.length (true,false,A)).2.1=true then cK c d k (bM c d c.fr.length c.fr.length (true,false,A)).2.2 else(true,(bM c d c.fr.length c.fr.length (true,false,A)).2.2))
   else(false,(bM c d c.fr.length c.fr.length (true,false,A)).2.2)
section
variable {c d:Cat} {a b m n k:Nat} {s t u:Fs} {O A B Q:List Int} {g:Bool}
theorem kB (h:c.cp a b<0∨s.2.2.getD a 0<0∨s.2.2.getD b 0<0):stF c d a b s=s:=if_pos h
theorem xF (h:¬(c.cp a b<0∨s.2.2.getD a 0<0∨s.2.2.getD b 0<0)) (k:s.2.2.getD (c.cp a b).toNat 0<0):stF c d a b s=(true,true,s.2.2.set (c.cp a b).toNat (d.C (s.2.2.getD a 0) (s.2.2.getD b 0))):=by
 unfold stF;rw [if_neg h,if_pos k]
theorem pM (h:¬(c.cp a b<0∨s.2.2.getD a 0<0∨s.2.2.getD b 0<0)) (k:¬s.2.2.getD (c.cp a b).toNat 0<0):stF c d a b s=(decide (s.2.2.getD (c.cp a b).toNat 0=d.C (s.2.2.getD a 0) (s.2.2.getD b 0)),s.2.1,s.2.2):=by
 unfold stF;rw [if_neg h,if_neg k]
theorem nS:cL c d a 0 s=s:=rfl
theorem sQ (h:(cL c d a b s).1=true):cL c d a (b+1) s=stF c d a b (cL c d a b s):=by rw [cL];exact if_pos h
theorem wX (h:(cL c d a b s).1=false):cL c d a (b+1) s=cL c d a b s:=by rw [cL];exact if_neg (by rw [h];simp)
theorem aDD (h:(cL c d a b s).1=false):∀{n:Nat},b≤n→cL c d a n s=cL c d a b s
 |0,hn=>by rw [show b=0 by omega]
 |n+1,hn=>by
  by_cases e:b=n+1
  ·rw [e]
  ·have ih:=aDD h (n:=n) (by omega)
   rw [wX (by rw [ih];exact h),ih]
theorem uK:bM c d m 0 s=s:=rfl
theorem nQ (h:(bM c d m a s).1=true):bM c d m (a+1) s=cL c d a m (bM c d m a s):=by rw [bM];exact if_pos h
theorem aBn (h:(bM c d m a s).1=false):bM c d m (a+1) s=bM c d m a s:=by rw [bM];exact if_neg (by rw [h];simp)
theorem aBo (h:(bM c d m a s).1=false):∀{n:Nat},a≤n→bM c d m n s=bM c d m a s
 |0,hn=>by rw [show a=0 by omega]
 |n+1,hn=>by
  by_cases e:a=n+1
  ·rw [e]
  ·have ih:=aBo h (n:=n) (by omega)
   rw [aBn (by rw [ih];exact h),ih]
structure VA (c d:Cat) (O A:List Int):Prop where
 len:A.length=c.fr.length
 lo:∀f:Nat,f<A.length→-1≤A.getD f 0
 hi:∀f:Nat,f<A.length→0≤A.getD f 0→A.getD f 0<d.fr.length∧d.fr.getD (A.getD f 0).toNat 0=O.getD (c.fr.getD f 0).toNat 0∧d.to.getD (A.getD f 0).toNat 0=O.getD (c.to.getD f 0).toNat 0
theorem jQ (hc:Shape c) (ha:a<c.fr.length) (hb:b<c.fr.length) (h0:0≤c.cp a b):c.to.getD a 0=c.fr.getD b 0∧(c.cp a b).toNat<c.fr.length∧c.fr.getD (c.cp a b).toNat 0=c.fr.getD a 0∧c.to.getD (c.cp a b).toNat 0=c.to.getD b 0:=by
 have:=(hc.coe a ha).2 b hb
 unfold Cat.Entry at this
 simp only [Cat.F,Cat.T,Cat.C,Int.toNat_natCast]at this
 rcases this with⟨h1,h2,h3,h4⟩|⟨h1,h2⟩
 ·exact⟨h1,by show((c.co.getD a []).getD b 0).toNat<_;omega,h3,h4⟩
 ·exact absurd h0 (by show¬0≤(c.co.getD a []).getD b 0;omega)
theorem aLb (hd:Shape d) (ha:a<d.fr.length) (hb:b<d.fr.length) (h:d.to.getD a 0=d.fr.getD b 0):0≤d.cp a b∧d.cp a b<d.fr.length∧d.fr.getD (d.cp a b).toNat 0=d.fr.getD a 0∧d.to.getD (d.cp a b).toNat 0=d.to.getD b 0:=by
 have:=(hd.coe a ha).2 b hb
 unfold Cat.Entry at this
 simp only [Cat.F,Cat.T,Cat.C,Int.toNat_natCast]at this
 rcases this with⟨h1,h2,h3,h4⟩|⟨h1,h2⟩
 ·exact⟨h2.1,h2.2,h3,h4⟩
 ·exact absurd h h1
theorem VA.comp (hc:Shape c) (hd:Shape d) (h:VA c d O A) (ha:a<c.fr.length) (hb:b<c.fr.length) (h0:0≤c.cp a b) (a0:0≤A.getD a 0) (b0:0≤A.getD b 0):
  0≤d.C (A.getD a 0) (A.getD b 0)∧d.C (A.getD a 0) (A.getD b 0)<d.fr.length∧d.fr.getD (d.C (A.getD a 0) (A.getD b 0)).toNat 0=O.getD (c.fr.getD (c.cp a b).toNat 0).toNat 0∧d.to.getD (d.C (A.getD a 0) (A.getD b 0)).toNat 0=O.getD (c.to.getD (c.cp a b).toNat 0).toNat 0:=by
 obtain⟨e1,e2,e3,e4⟩:=jQ hc ha hb h0
 obtain⟨p1,p2,p3⟩:=h.hi a (by rw [h.len];exact ha) a0
 obtain⟨q1,q2,q3⟩:=h.hi b (by rw [h.len];exact hb) b0
 obtain⟨r1,r2,r3,r4⟩:=aLb hd (a:=(A.getD a 0).toNat) (b:=(A.getD b 0).toNat) (by omega) (by omega) (by rw [p3,q2,e1])
 exact⟨r1,r2,by rw [e3,←p2];exact r3,by rw [e4,←q3];exact r4⟩
theorem VA.set (h:VA c d O A) {i:Nat} {v:Int} (hi:i<A.length) (v0:0≤v) (v1:v<d.fr.length) (v2:d.fr.getD v.toNat 0=O.getD (c.fr.getD i 0).toNat 0) (v3:d.to.getD v.toNat 0=O.getD (c.to.getD i 0).toNat 0):VA c d O (A.set i v):=by
 refine⟨by simp [h.len],fun f hf=>?_,fun f hf=>?_⟩
 ·rw [aV hi]
  by_cases e:f=i
  ·rw [if_pos e];omega
  ·rw [if_neg e];exact h.lo f (by simpa using hf)
 ·rw [aV hi]
  by_cases e:f=i
  ·subst e;rw [if_pos rfl];exact fun _=>⟨v1,v2,v3⟩
  ·rw [if_neg e];exact h.hi f (by simpa using hf)
theorem VA.rng (h:VA c d O A):RngL (List.replicate c.fr.length d.fr.length) A:=⟨by rw [List.length_replicate];exact h.len,fun j hj=>by
 have h1:=h.lo j hj
 have h2:=h.hi j hj
 have h3:=h.len
 have e:(List.replicate c.fr.length d.fr.length).getD j 0=d.fr.length:=by
  rw [List.getD_eq_getElem?_getD,List.getElem?_replicate,if_pos (by omega)];rfl
 rw [e]
 by_cases h0:0≤A.getD j 0
 ·exact⟨h1,(h2 h0).1⟩
 ·exact⟨h1,by omega⟩⟩
def Cmp (c d:Cat) (Q:List Int):Prop:=∀a b:Nat,a<c.fr.length→b<c.fr.length→0≤c.cp a b→Q.getD (c.cp a b).toNat 0=d.C (Q.getD a 0) (Q.getD b 0)
structure Ff (c d:Cat) (O A:List Int) (g:Bool) (t:Fs):Prop where
 va:VA c d O t.2.2
 ext:XtL A t.2.2
 keep:t.2.1=false→g=false∧t.2.2=A
 prog:t.2.1=true→g=true∨uns t.2.2<uns A
 snd:∀Q,Cmp c d Q→dS A Q=true→t.1=true∧dS t.2.2 Q=true
theorem Ff.refl (h:VA c d O A):Ff c d O A g (true,g,A):=⟨h, .refl _,fun e=>⟨e,rfl⟩,fun e=> .inl e,fun _ _ h=>⟨rfl,h⟩⟩
theorem Ff.trans (h:Ff c d O A g t) (k:Ff c d O t.2.2 t.2.1 u):Ff c d O A g u:=by
 refine⟨k.va,h.ext.trans k.ext,fun e=>?_,fun e=>?_,fun Q hq hA=>k.snd Q hq (h.snd Q hq hA).2⟩
 ·obtain⟨e1,e2⟩:=k.keep e
  obtain⟨e3,e4⟩:=h.keep e1
  exact⟨e3,e2.trans e4⟩
 ·have u1:=h.ext.uns
  have u2:=k.ext.uns
  rcases k.prog e with e1|e1
  ·rcases h.prog e1 with e2|e2
   ·exact .inl e2
   ·exact .inr (by omega)
  ·exact .inr (by omega)
theorem aKr (hc:Shape c) (hd:Shape d) (h:VA c d O s.2.2) (ha:a<c.fr.length) (hb:b<c.fr.length) (h1:s.1=true):Ff c d O s.2.2 s.2.1 (stF c d a b s):=by
 have es:s=(true,s.2.1,s.2.2):=by rw [←h1]
 by_cases hk:c.cp a b<0∨s.2.2.getD a 0<0∨s.2.2.getD b 0<0
 ·rw [kB hk,es]
  exact .refl h
 ·have c0:0≤c.cp a b:=by omega
  have a0:0≤s.2.2.getD a 0:=by omega
  have b0:0≤s.2.2.getD b 0:=by omega
  obtain⟨v0,v1,v2,v3⟩:=h.comp hc hd ha hb c0 a0 b0
  have hh:=(jQ hc ha hb c0).2.1
  have hl:=h.len
  have hQ:∀Q,Cmp c d Q→dS s.2.2 Q=true→Q.getD (c.cp a b).toNat 0=d.C (s.2.2.getD a 0) (s.2.2.getD b 0):=fun Q hq hA=>by
   have e1:=(contB_iff.1 hA).2 a (by omega) a0
   have e2:=(contB_iff.1 hA).2 b (by omega) b0
   rw [hq a b ha hb c0,e1,e2]
  by_cases hn:s.2.2.getD (c.cp a b).toNat 0<0
  ·rw [xF hk hn]
   refine⟨h.set (by omega) v0 v1 v2 v3, .set (by omega) (by omega),fun e=>(Bool.noConfusion e),fun _=> .inr ?_,fun Q hq hA=>⟨rfl,?_⟩⟩
   ·refine(XtL.set (e:=d.C (s.2.2.getD a 0) (s.2.2.getD b 0)) (A:=s.2.2) (i:=(c.cp a b).toNat) (by omega) (by omega)).uns_lt (j:=(c.cp a b).toNat) (by omega) hn ?_
    rw [aV (by omega),if_pos rfl];exact v0
   ·have e:=hQ Q hq hA
    rw [contB_iff]at hA⊢
    refine⟨by simpa using hA.1,fun j hj h1=>?_⟩
    show Q.getD j 0=(s.2.2.set _ _).getD j 0
    have h1:0≤(s.2.2.set _ _).getD j 0:=h1
    rw [aV (by omega)]at h1⊢
    by_cases q:j=(c.cp a b).toNat
    ·rw [if_pos q,q];exact e
    ·rw [if_neg q]at h1⊢;exact hA.2 j (by simpa using hj) h1
  ·rw [pM hk hn]
   refine⟨h, .refl _,fun e=>⟨e,rfl⟩,fun e=> .inl e,fun Q hq hA=>⟨?_,hA⟩⟩
   have e:=hQ Q hq hA
   rw [(contB_iff.1 hA).2 _ (by omega) (by omega)]at e
   exact decide_eq_true e
theorem oZ (hc:Shape c) (hd:Shape d) (h:VA c d O s.2.2) (ha:a<c.fr.length) (h1:s.1=true):∀{n:Nat},n≤c.fr.length→Ff c d O s.2.2 s.2.1 (cL c d a n s)
 |0,_=>by
  have es:s=(true,s.2.1,s.2.2):=by rw [←h1]
  rw [nS]
  rw [es]
  exact .refl h
 |n+1,hn=>by
  have ih:=oZ hc hd h ha h1 (n:=n) (by omega)
  cases hr:(cL c d a n s).1 with
  |true=>rw [sQ hr];exact ih.trans (aKr hc hd ih.va ha (by omega) hr)
  |false=>rw [wX hr];exact ih
theorem mI (hc:Shape c) (hd:Shape d) (h:VA c d O s.2.2) (h1:s.1=true):∀{n:Nat},n≤c.fr.length→Ff c d O s.2.2 s.2.1 (bM c d c.fr.length n s)
 |0,_=>by
  have es:s=(true,s.2.1,s.2.2):=by rw [←h1]
  rw [uK]
  rw [es]
  exact .refl h
 |n+1,hn=>by
  have ih:=mI hc hd h h1 (n:=n) (by omega)
  cases hr:(bM c d c.fr.length n s).1 with
  |true=>rw [nQ hr];exact ih.trans (oZ hc hd ih.va (by omega) hr (Nat.le_refl _))
  |false=>rw [aBn hr];exact ih
def Clo (c d:Cat) (A:List Int) (a b:Nat):Prop:=0≤c.cp a b→0≤A.getD a 0→0≤A.getD b 0→A.getD (c.cp a b).toNat 0=d.C (A.getD a 0) (A.getD b 0)
theorem aPv (h1:(stF c d a b s).1=true) (h2:(stF c d a b s).2.1=false):Clo c d s.2.2 a b∧(stF c d a b s).2.2=s.2.2∧s.2.1=false:=by
 by_cases hk:c.cp a b<0∨s.2.2.getD a 0<0∨s.2.2.getD b 0<0
 ·rw [kB hk]at h2⊢
  exact⟨fun _ _ _=>by omega,rfl,h2⟩
 ·by_cases hn:s.2.2.getD (c.cp a b).toNat 0<0
  ·rw [xF hk hn]at h2;cases h2
  ·rw [pM hk hn]at h1 h2⊢
   exact⟨fun _ _ _=>by simpa using h1,rfl,h2⟩
theorem aF0:∀{n:Nat},(cL c d a n s).1=true→(cL c d a n s).2.1=false→(∀b,b<n→Clo c d s.2.2 a b)∧(cL c d a n s).2.2=s.2.2∧s.2.1=false
 |0,_,h2=>⟨fun b hb=>by omega,rfl,h2⟩
 |n+1,h1,h2=>by
  cases hr:(cL c d a n s).1 with
  |true=>
   rw [sQ hr]at h1 h2⊢
   obtain⟨e1,e2,e3⟩:=aPv h1 h2
   obtain⟨i1,i2,i3⟩:=aF0 hr e3
   rw [i2]at e1 e2
   exact⟨cB i1 e1,e2,i3⟩
  |false=>rw [wX hr,hr]at h1;cases h1
theorem aDt:∀{n:Nat},(bM c d m n s).1=true→(bM c d m n s).2.1=false→(∀a,a<n→∀b,b<m→Clo c d s.2.2 a b)∧(bM c d m n s).2.2=s.2.2∧s.2.1=false
 |0,_,h2=>⟨fun b hb=>by omega,rfl,h2⟩
 |n+1,h1,h2=>by
  cases hr:(bM c d m n s).1 with
  |true=>
   rw [nQ hr]at h1 h2⊢
   obtain⟨e1,e2,e3⟩:=aF0 h1 h2
   obtain⟨i1,i2,i3⟩:=aDt hr e3
   rw [i2]at e1 e2
   exact⟨cB i1 e1,e2,i3⟩
  |false=>rw [aBn hr,hr]at h1;cases h1
theorem yE (h1:(bM c d c.fr.length c.fr.length (true,false,A)).1=true) (h2:(bM c d c.fr.length c.fr.length (true,false,A)).2.1=true):cK c d (k+1) A=cK c d k (bM c d c.fr.length c.fr.length (true,false,A)).2.2:=by
 rw [cK,if_pos h1,if_pos h2]
theorem uD (h1:(bM c d c.fr.length c.fr.length (true,false,A)).1=true) (h2:(bM c d c.fr.length c.fr.length (true,false,A)).2.1=false):cK c d (k+1) A=(true,(bM c d c.fr.length c.fr.length (true,false,A)).2.2):=by
 rw [cK,if_pos h1,if_neg (by rw [h2];simp)]
theorem aDd (h1:(bM c d c.fr.length c.fr.length (true,false,A)).1=false):cK c d (k+1) A=(false,(bM c d c.fr.length c.fr.length (true,false,A)).2.2):=by
 rw [cK,if_neg (by rw [h1];simp)]
structure Fo (c d:Cat) (O A:List Int) (t:Bool×List Int):Prop where
 va:VA c d O t.2
 ext:XtL A t.2
 clo:t.1=true→∀a,a<c.fr.length→∀b,b<c.fr.length→Clo c d t.2 a b
 snd:∀Q,Cmp c d Q→dS A Q=true→t.1=true∧dS t.2 Q=true
theorem vX (hc:Shape c) (hd:Shape d):∀{k:Nat} {A:List Int},VA c d O A→uns A<k→Fo c d O A (cK c d k A)
 |0,A,_,h=>by omega
 |k+1,A,h,hk=>by
  have f:=mI (s:=(true,false,A)) hc hd h rfl (Nat.le_refl _)
  cases h1:(bM c d c.fr.length c.fr.length (true,false,A)).1 with
  |false=>
   rw [aDd h1]
   exact⟨f.va,f.ext,fun e=>Bool.noConfusion e,fun Q hq hA=>by have:=(f.snd Q hq hA).1;rw [h1]at this;cases this⟩
  |true=>
   cases h2:(bM c d c.fr.length c.fr.length (true,false,A)).2.1 with
   |true=>
    rw [yE h1 h2]
    have hu:uns (bM c d c.fr.length c.fr.length (true,false,A)).2.2<uns A:=by
     rcases f.prog h2 with e|e
     ·cases e
     ·exact e
    have ih:=vX hc hd (k:=k) f.va (by omega)
    exact⟨ih.va,f.ext.trans ih.ext,ih.clo,fun Q hq hA=>ih.snd Q hq (f.snd Q hq hA).2⟩
   |false=>
    rw [uD h1 h2]
    obtain⟨g1,g2,_⟩:=aDt h1 h2
    have g2:(bM c d c.fr.length c.fr.length (true,false,A)).2.2=A:=g2
    exact⟨f.va,f.ext,fun _=>by rw [g2];exact g1,fun Q hq hA=>⟨rfl,(f.snd Q hq hA).2⟩⟩
def NdI (A:List Int):Prop:=∀i j:Nat,i<j→j<A.length→0≤A.getD i 0→A.getD i 0≠A.getD j 0
theorem NdI.of_cont (h:NdI Q) (k:dS A Q=true):NdI A:=fun i j hij hj h0 e=>by
 rw [contB_iff]at k
 have e1:=k.2 i (by omega) h0
 have e2:=k.2 j hj (by omega)
 exact h i j hij (by omega) (by omega) (by omega)
noncomputable def cY (c d:Cat) (b:Bool) (A:List Int):Bool×List Int:=((cK c d (c.fr.length+1) A).1&&(!b||dec (NdI (cK c d (c.fr.length+1) A).2)),(cK c d (c.fr.length+1) A).2)
noncomputable def WA (c d:Cat) (b:Bool) (O Q:List Int):Bool:=dec (Fits ⟨c,d,O,Q⟩∧(b=true→NdI O∧NdI Q))
theorem WA_iff {b:Bool}:WA c d b O Q=true↔Fits ⟨c,d,O,Q⟩∧(b=true→NdI O∧NdI Q):=dec_iff
theorem Fits.cmp (h:Fits ⟨c,d,O,Q⟩):Cmp c d Q:=fun a b ha hb h0=>by
 have:=h.comp a b ha hb (by simpa only [Cat.C,Int.toNat_natCast]using h0)
 simpa only [Cat.C,Fun.A,Int.toNat_natCast]using this
structure Sp (c d:Cat) (b:Bool) (O A:List Int) (t:Bool×List Int):Prop where
 va:VA c d O t.2
 ext:XtL A t.2
 clo:t.1=true→∀a,a<c.fr.length→∀b,b<c.fr.length→Clo c d t.2 a b
 nd:t.1=true→b=true→NdI t.2
 snd:∀Q,WA c d b O Q=true→dS A Q=true→t.1=true∧dS t.2 Q=true
theorem aCC {b:Bool} (hc:Shape c) (hd:Shape d) (h:VA c d O A):Sp c d b O A (cY c d b A):=by
 have f:=vX hc hd (k:=c.fr.length+1) h (by have:=vB A;have:=h.len;omega)
 unfold cY
 refine⟨f.va,f.ext,fun e=>f.clo ?_,fun e hb=>?_,fun Q hQ hA=>?_⟩
 ·simp only [Bool.and_eq_true]at e;exact e.1
 ·subst hb
  simp only [Bool.and_eq_true,Bool.not_true,Bool.false_or]at e
  exact dec_iff.1 e.2
 ·obtain⟨w1,w2⟩:=WA_iff.1 hQ
  obtain⟨s1,s2⟩:=f.snd Q w1.cmp hA
  refine⟨?_,s2⟩
  simp only [Bool.and_eq_true]
  refine⟨s1,?_⟩
  cases b with
  |false=>rfl
  |true=>simp only [Bool.not_true,Bool.false_or];exact dec_iff.2 ((w2 rfl).2.of_cont s2)
end
end Go.Cats
end
section
namespace Go.Cats
end Go.Cats
end
section
namespace Go.Cats
end Go.Cats
end
section
namespace Go.Cats
theorem Shape.comp_lt {c:Cat} (s:Shape c) {f g:Nat} (hf:f<c.fr.length) (hg:g<c.fr.length) (h:0≤(c.co.getD f []).getD g 0):(c.co.getD f []).getD g 0<c.fr.length∧c.to.getD f 0=c.fr.getD g 0:=by
 rcases(s.coe f hf).2 g hg with⟨h1,h2,_⟩|⟨_,h2⟩
 ·have e:c.C f g=(c.co.getD f []).getD g 0:=by simp [Cat.C]
  rw [e]at h2
  exact⟨h2.2,h1⟩
 ·have e:c.C f g=(c.co.getD f []).getD g 0:=by simp [Cat.C]
  rw [e]at h2
  omega
theorem Shape.comp_nn {c:Cat} (s:Shape c) {f g:Nat} (hf:f<c.fr.length) (hg:g<c.fr.length) (h:c.to.getD f 0=c.fr.getD g 0):0≤(c.co.getD f []).getD g 0:=by
 rcases(s.coe f hf).2 g hg with⟨_,h2,_⟩|⟨h2,_⟩
 ·have e:c.C f g=(c.co.getD f []).getD g 0:=by simp [Cat.C]
  rw [e]at h2;exact h2.1
 ·exact absurd h h2
theorem Shape.comp_row {c:Cat} (s:Shape c) {f:Int} (h0:0≤f) (h1:f<c.fr.length):(c.co.getD f.toNat []).length=c.fr.length:=(s.coe f.toNat (by omega)).1
end Go.Cats
end
section
namespace Go.Cats
def cH (f g:Fun) (a b:Nat):List Int:=f.tgt.hom (f.obs.getD a 0) (g.obs.getD b 0)
def cO (f g:Fun) (a b k:Nat):List (List Int):=
 (gO a fun a=>gO g.obs.length fun b=>(cH f g a b).map fun h=>[(a:Int),(b:Int),h])++(gO b fun b=>(cH f g a b).map fun h=>[(a:Int),(b:Int),h])++((cH f g a b).take k).map fun h=>[(a:Int),(b:Int),h]
def vF (f g:Fun):List (List Int):=cO f g f.obs.length 0 0
theorem aH1 (f g:Fun):cO f g 0 0 0=[]:=by simp [cO,gO]
def aAY (l:List (List Int)) (k n:Nat):List Int:=(l.take n).map fun r=>r.getD k 0
theorem sD (l:List (List Int)) (k:Nat):aAY l k 0=[]:=rfl
theorem iR (l:List (List Int)) (k n:Nat):(aAY l k n).length=min n l.length:=by simp [aAY]
end Go.Cats
end
section
namespace Go.Cats
abbrev rw' (O:List (List Int)) (p k:Nat):Int:=(O.getD p []).getD k 0
def cU (f:Fun) (k:Nat) (O:List (List Int)) (s t:Nat):List Int:=f.src.hom (rw' O s k) (rw' O t k)
def cC (f e:Fun) (O:List (List Int)) (s t:Nat) (u v:Int):Prop:=f.tgt.C (f.A u) (rw' O t 2)=f.tgt.C (rw' O s 2) (e.A v)
open Classical in
noncomputable def cE (f e:Fun) (O:List (List Int)) (s t i j:Nat):List (List Int):=
 if cC f e O s t ((cU f 0 O s t).getD i 0) ((cU e 1 O s t).getD j 0)then [[(s:Int),(t:Int),(cU f 0 O s t).getD i 0,(cU e 1 O s t).getD j 0]]else []
noncomputable def aTg (f e:Fun) (O:List (List Int)) (s t i:Nat):List (List Int):=gO (cU e 1 O s t).length fun j=>cE f e O s t i j
noncomputable def aPM (f e:Fun) (O:List (List Int)) (s t:Nat):List (List Int):=gO (cU f 0 O s t).length fun i=>aTg f e O s t i
noncomputable def cA (f e:Fun) (O:List (List Int)) (s t i j:Nat):List (List Int):=
 (gO s fun s=>gO O.length fun t=>aPM f e O s t)++(gO t fun t=>aPM f e O s t)++(gO i fun i=>aTg f e O s t i)++(gO j fun j=>cE f e O s t i j)
noncomputable def aYW (f e:Fun) (O:List (List Int)):List (List Int):=cA f e O O.length 0 0 0
variable {f e:Fun} {O:List (List Int)} {s t i j:Nat}
theorem aDU:cA f e O 0 0 0 0=[]:=by simp [cA,gO]
structure ObjR (f e:Fun) (r:List Int):Prop where
 len:r.length=3
 lo:0≤r.getD 0 0
 lh:r.getD 0 0<f.src.ob
 ro:0≤r.getD 1 0
 rh:r.getD 1 0<e.src.ob
 ao:0≤r.getD 2 0
 ah:r.getD 2 0<f.tgt.fr.length
 frm:f.tgt.F (r.getD 2 0)=f.O (r.getD 0 0)
 to:f.tgt.T (r.getD 2 0)=e.O (r.getD 1 0)
def aEb (l:List (List Int)) (r:List Int) (i:Nat):Option Int:=if l.getD i []=r then some (i:Int)else none
def fnd (l:List (List Int)) (r:List Int):Int:=(bJ l.length (aEb l r)).getD (-1)
theorem aQM {l:List (List Int)} {r:List Int} {i:Nat} (h:¬l.getD i []=r):aEb l r i=none:=if_neg h
theorem aOs {l:List (List Int)} {r:List Int} {i:Nat} (h:bJ i (aEb l r)=none) (hi:i<l.length) (e:l.getD i []=r):fnd l r=i:=by
 unfold fnd
 rw [gE hi h (show aEb l r i=some (i:Int) from if_pos e)];rfl
theorem aLv {l:List (List Int)} {r:List Int} (h:bJ l.length (aEb l r)=none):fnd l r= -1:=by unfold fnd;rw [h];rfl
end Go.Cats
end
section
namespace Go.Cats
def tb {α:Type} (n:Nat) (F:Nat→α):List α:=(List.range n).map F
theorem aIR {α:Type} (F:Nat→α):tb 0 F=[]:=rfl
theorem aCe {α:Type} (n:Nat) (F:Nat→α):(tb n F).length=n:=by simp [tb]
theorem tb_at {α:Type} (n:Nat) (F:Nat→α) (d:α) {i:Nat} (h:i<n):(tb n F).getD i d=F i:=by simp [tb,h]
def bId (A:List (List Int)) (a b:Cat) (L R:List Int) (x:Nat):Int:=fnd A [(x:Int),(x:Int),a.id.getD (L.getD x 0).toNat 0,b.id.getD (R.getD x 0).toNat 0]
def aYS (A:List (List Int)) (a b:Cat) (i j:Nat):List Int:=[rw' A i 0,rw' A j 1,a.C (rw' A i 2) (rw' A j 2),b.C (rw' A i 3) (rw' A j 3)]
def aYR (A:List (List Int)) (a b:Cat) (i j:Nat):Int:=if rw' A i 1=rw' A j 0 then fnd A (aYS A a b i j)else-1
def aDR (N:Nat) (A:List (List Int)) (a b:Cat) (L R:List Int) (k:Nat):Cat:=
 ⟨N,aAY A 0 A.length,aAY A 1 A.length,tb N (bId A a b L R),tb k fun i=>tb A.length (aYR A a b i)⟩
structure ArrR (a b:Cat) (r:List Int):Prop where
 len:r.length=4
 ul:0≤r.getD 2 0
 uh:r.getD 2 0<a.fr.length
 vl:0≤r.getD 3 0
 vh:r.getD 3 0<b.fr.length
theorem aDp {l:List (List Int)} {i:Nat} (h:i<l.length):l.getD i []∈l:=by
 rw [List.getD_eq_getElem?_getD,List.getElem?_eq_getElem h,Option.getD_some];exact List.getElem_mem h
theorem aBk {l:List Int} {i:Nat} (h:i<l.length):l.getD i 0∈l:=by
 rw [List.getD_eq_getElem?_getD,List.getElem?_eq_getElem h,Option.getD_some];exact List.getElem_mem h
noncomputable def cmA (f e:Fun):List (List Int):=aYW f e (vF f e)
noncomputable def cmC (f e:Fun) (k:Nat):Cat:=aDR (vF f e).length (cmA f e) f.src e.src (aAY (vF f e) 0 (vF f e).length) (aAY (vF f e) 1 (vF f e).length) k
end Go.Cats
end
section
namespace Go.Cats
variable {f e:Fun} {O:List (List Int)} {s t i j:Nat}
end Go.Cats
end
section
namespace Go.Cats
theorem lD {α:Type} {n:Nat} {f:Nat→List α} (h1:∀i,i<n→(f i).Nodup) (h2:∀i j x,i<n→j<n→x∈f i→x∈f j→i=j):(gO n f).Nodup:=by
 unfold gO List.Nodup
 rw [List.pairwise_flatMap]
 refine⟨fun a ha=>h1 a (List.mem_range.1 ha),?_⟩
 refine List.Pairwise.imp_of_mem ?_ (List.pairwise_lt_range (n:=n))
 intro a b ha hb hab x hx y hy e
 subst e
 have:=h2 a b x (List.mem_range.1 ha) (List.mem_range.1 hb) hx hy
 omega
theorem Cat.hom_nodup (c:Cat) (x y:Int):(c.hom x y).Nodup:=by
 unfold Cat.hom Cat.homI
 refine lD (fun i _=>by split<;>simp) fun i j z _ _ hi hj=>?_
 split at hi
 ·split at hj
  ·simp at hi hj;omega
  ·simp at hj
 ·simp at hi
variable {f e:Fun} {O:List (List Int)} {s t i j:Nat}
theorem vW {l:List (List Int)} {r:List Int} (h:r∈l):∃i:Nat,i<l.length∧l.getD i []=r∧fnd l r=i:=by
 cases hs:bJ l.length (aEb l r)with
 |none=>
  exfalso
  obtain⟨i,hi,rfl⟩:=List.getElem_of_mem h
  have:=scan_none.1 hs i hi
  unfold aEb at this
  rw [if_pos (by rw [List.getD_eq_getElem?_getD,List.getElem?_eq_getElem hi];rfl)]at this
  cases this
 |some x=>
  obtain⟨i,hi,k⟩:=dJ hs
  unfold aEb at k
  split at k
  ·rename_i e
   cases k
   exact⟨i,hi,e,by unfold fnd;rw [hs];rfl⟩
  ·cases k
/-! ### Identities and composites -/
theorem IsCat.unlI {c:Cat} (h:IsCat c) {f:Int} (h0:0≤f) (h1:f<c.fr.length):c.C (c.I (c.F f)) f=f:=by
 have:=h.unl f.toNat (by omega)
 rwa [Int.toNat_of_nonneg h0]at this
theorem IsCat.unrI {c:Cat} (h:IsCat c) {f:Int} (h0:0≤f) (h1:f<c.fr.length):c.C f (c.I (c.T f))=f:=by
 have:=h.unr f.toNat (by omega)
 rwa [Int.toNat_of_nonneg h0]at this
theorem IsCat.assI {c:Cat} (k:IsCat c) {f g h:Int} (f0:0≤f) (f1:f<c.fr.length) (g0:0≤g) (g1:g<c.fr.length) (h0:0≤h) (h1:h<c.fr.length) (e1:c.T f=c.F g) (e2:c.T g=c.F h):c.C (c.C f g) h=c.C f (c.C g h):=by
 have:=k.ass f.toNat g.toNat h.toNat (by omega) (by omega) (by omega)
 rw [Int.toNat_of_nonneg f0,Int.toNat_of_nonneg g0,Int.toNat_of_nonneg h0]at this
 exact this e1 e2
theorem IsCat.compI {c:Cat} (k:IsCat c) {f g:Int} (f0:0≤f) (f1:f<c.fr.length) (g0:0≤g) (g1:g<c.fr.length) (e1:c.T f=c.F g):0≤c.C f g∧c.C f g<c.fr.length∧c.F (c.C f g)=c.F f∧c.T (c.C f g)=c.T g:=by
 have h:=(k.coe f.toNat (by omega)).2 g.toNat (by omega)
 unfold Cat.Entry at h
 rw [Int.toNat_of_nonneg f0,Int.toNat_of_nonneg g0]at h
 rcases h with⟨_,h2,h3,h4⟩|⟨h2,_⟩
 ·exact⟨h2.1,h2.2,h3,h4⟩
 ·exact absurd e1 h2
theorem IsCat.idI {c:Cat} (k:IsCat c) {x:Int} (h0:0≤x) (h1:x<c.ob):0≤c.I x∧c.I x<c.fr.length∧c.F (c.I x)=x∧c.T (c.I x)=x:=by
 have hl:=k.idl
 have h2:=k.idw x.toNat (by omega)
 have h3:=k.ide x.toNat (by omega)
 rw [Int.toNat_of_nonneg h0]at h3
 exact⟨h2.1,h2.2,h3.1,h3.2⟩
end Go.Cats
end
section
namespace Go.Cats
structure XOK (c d:Cat) (b:Bool) (X:List Int):Prop where
 len:(X.length:Int)=c.ob
 wi:Within X d.ob
 nd:b=true→NdI X
structure NX (c d:Cat) (b:Bool) (X A:List Int):Prop where
 va:VA c d X A
 clo:∀a,a<c.fr.length→∀b,b<c.fr.length→Clo c d A a b
 nd:b=true→NdI A
 un:∀x:Nat,x<c.id.length→A.getD (c.id.getD x 0).toNat 0=d.id.getD (X.getD x 0).toNat 0
abbrev sA (c d:Cat):List Nat:=List.replicate c.fr.length d.fr.length
def bR (c d:Cat) (X:List Int):Nat→List Int
 |0=>List.replicate c.fr.length (-1)
 |y+1=>(bR c d X y).set (c.id.getD y 0).toNat (d.id.getD (X.getD y 0).toNat 0)
def fL (c d:Cat) (X:List Int):List Int:=bR c d X c.id.length
noncomputable def aAb (c d:Cat) (b:Bool) (X:List Int):List (List Int):=dE (WA c d b X) (sA c d) (List.replicate c.fr.length (-1))
noncomputable def dU (c d:Cat) (b:Bool):Nat→List Int→List Fun
 |0,X=>(aAb c d b X).map fun Q=>⟨c,d,X,Q⟩
 |r+1,X=>(List.range d.ob.toNat).flatMap fun y:Nat=>dU c d b r (X++[(y:Int)])
def cZ (W:List Int→Bool) (S:List Nat) (A:List Int) (i:Nat) (L:List Int):List (List Int):=L.flatMap fun v=>dE W S (A.set i v)
section
variable {c d:Cat} {b:Bool} {X A Q L:List Int} {i k:Nat} {v:Int} {W:List Int→Bool} {S:List Nat}
theorem aEq (h:i<c.fr.length):(sA c d).getD i 0=d.fr.length:=by
 rw [List.getD_eq_getElem?_getD,List.getElem?_replicate,if_pos h];rfl
theorem NX.leaf (hX:XOK c d b X) (h:NX c d b X A) (hf:∀j,j<A.length→0≤A.getD j 0):dE (WA c d b X) (sA c d) A=[A]:=by
 have hr:=h.va.rng
 rw [sJ hr.1 fun j hj=>⟨hf j hj,(hr.2 j hj).2⟩,if_pos]
 have hl:=h.va.len
 refine WA_iff.2 ⟨⟨hX.len,hl,hX.wi,fun i hi=>⟨hf i hi,(h.va.hi i hi (hf i hi)).1⟩,fun a ha=>?_,fun x hx=>?_,fun a b ha hb h0=>?_⟩,fun e=>⟨hX.nd e,h.nd e⟩⟩
 ·have:=h.va.hi a ha (hf a ha)
  simp only [Cat.F,Cat.T,Fun.O,Int.toNat_natCast]
  exact this.2
 ·have:=h.un x hx
  simp only [Cat.I,Fun.A,Fun.O,Int.toNat_natCast]
  exact this
 ·have h0:0≤c.cp a b:=by simpa only [Cat.C,Int.toNat_natCast]using h0
  have:=h.clo a ha b hb h0 (hf a (by rw [hl];exact ha)) (hf b (by rw [hl];exact hb))
  simp only [Cat.C,Fun.A,Int.toNat_natCast]
  exact this
theorem kV:cZ W S A i []=[]:=rfl
theorem zB (h:k<L.length):cZ W S A i (L.take (k+1))=cZ W S A i (L.take k)++dE W S (A.set i (L.getD k 0)):=by
 unfold cZ
 rw [List.take_add_one,List.getElem?_eq_getElem h,List.flatMap_append,List.getD_eq_getElem?_getD,List.getElem?_eq_getElem h]
 simp
theorem aDS (h:k<L.length):∃R,cZ W S A i L=cZ W S A i (L.take (k+1))++R:=by
 refine⟨cZ W S A i (L.drop (k+1)),?_⟩
 unfold cZ
 rw [←List.flatMap_append,List.take_append_drop]
theorem aAy (h:VA c d X A) (hi:i<A.length) (hv:v∈d.hom (X.getD (c.fr.getD i 0).toNat 0) (X.getD (c.to.getD i 0).toNat 0)):VA c d X (A.set i v):=by
 obtain⟨h1,h2,h3,h4⟩:=Cat.mem_hom.1 hv
 exact h.set hi h1 h2 h3 h4
theorem aAP (h:VA c d X A) (hi:i<A.length) (h0:A.getD i 0= -1) (hlt:∀j,j<i→0≤A.getD j 0):
  dE (WA c d b X) (sA c d) A=cZ (WA c d b X) (sA c d) A i (d.hom (X.getD (c.fr.getD i 0).toNat 0) (X.getD (c.to.getD i 0).toNat 0)):=by
 have hl:=h.len
 rw [mF h.rng.1 hi hlt (by omega),aEq (by omega)]
 unfold cZ Cat.hom Cat.homI gO
 rw [List.flatMap_assoc,List.flatMap_def,List.flatMap_def]
 congr 1
 refine List.map_congr_left fun u hu=>?_
 have hu:=List.mem_range.1 hu
 by_cases e:d.fr.getD u 0=X.getD (c.fr.getD i 0).toNat 0∧d.to.getD u 0=X.getD (c.to.getD i 0).toNat 0
 ·rw [if_pos e];simp
 ·rw [if_neg e,List.flatMap_nil]
  refine nM fun Q hQ hW hc=>e ?_
  have e1:=(contB_iff.1 hc).2 i (by simpa using hi) (by rw [aV hi,if_pos rfl];omega)
  rw [aV hi,if_pos rfl]at e1
  obtain⟨w1,_⟩:=WA_iff.1 hW
  have:=w1.endf i (by show i<Q.length;rw [←(contB_iff.1 hc).1];simpa using hi)
  simp only [Cat.F,Cat.T,Fun.O,Int.toNat_natCast,e1]at this
  exact this
theorem mG (hc:Shape c) {x:Nat} (hx:x<c.id.length):(c.id.getD x 0).toNat<c.fr.length∧0≤c.id.getD x 0∧c.fr.getD (c.id.getD x 0).toNat 0=x∧c.to.getD (c.id.getD x 0).toNat 0=x:=by
 have h1:=hc.idw x hx
 have h2:=hc.ide x hx
 exact⟨by omega,h1.1,h2.1,h2.2⟩
theorem pO (hc:Shape c) (hd:Shape d) (hX:XOK c d b X) {x:Nat} (hx:x<c.id.length):0≤X.getD x 0∧(X.getD x 0).toNat<d.id.length∧0≤d.id.getD (X.getD x 0).toNat 0∧d.id.getD (X.getD x 0).toNat 0<d.fr.length∧d.fr.getD (d.id.getD (X.getD x 0).toNat 0).toNat 0=X.getD x 0∧d.to.getD (d.id.getD (X.getD x 0).toNat 0).toNat 0=X.getD x 0:=by
 have h1:=hX.len
 have h2:=hc.idl
 have h3:=hX.wi x (by omega)
 have h4:=hd.idl
 have hx':(X.getD x 0).toNat<d.id.length:=by omega
 have h5:=hd.idw _ hx'
 have h6:=hd.ide _ hx'
 refine⟨h3.1,hx',h5.1,h5.2,?_,?_⟩
 ·have:=h6.1;simp only [Cat.F]at this;rw [this];omega
 ·have:=h6.2;simp only [Cat.T]at this;rw [this];omega
structure TryN (c d:Cat) (b:Bool) (X A:List Int) (E:List (List Int)) (t:Bool×List Int):Prop where
 va:VA c d X t.2
 ext:XtL A t.2
 yes:t.1=true→NX c d b X t.2∧E=dE (WA c d b X) (sA c d) t.2
 no:t.1=false→E=[]
theorem aBY (hc:Shape c) (hd:Shape d) (hX:XOK c d b X) (hA:VA c d X A) (hu:∀x:Nat,x<c.id.length→A.getD (c.id.getD x 0).toNat 0=d.id.getD (X.getD x 0).toNat 0):TryN c d b X A (dE (WA c d b X) (sA c d) A) (cY c d b A):=by
 have f:=aCC (b:=b) hc hd hA
 refine⟨f.va,f.ext,fun e=>⟨⟨f.va,f.clo e,f.nd e,fun x hx=>?_⟩,?_⟩,fun e=>?_⟩
 ·have h1:=mG hc hx
  have h2:=pO hc hd hX hx
  rw [f.ext.2 _ (by rw [hA.len];exact h1.1) (by rw [hu x hx];exact h2.2.2.1),hu x hx]
 ·exact uC fun Q hQ hW=>⟨fun k=>(f.snd Q hW k).2,fun k=>f.ext.cont k⟩
 ·exact nM fun Q hQ hW k=>by have:=(f.snd Q hW k).1;rw [e]at this;cases this
theorem NX.try_ (hc:Shape c) (hd:Shape d) (hX:XOK c d b X) (h:NX c d b X A) (hi:i<A.length) (h0:A.getD i 0= -1) (hv:v∈d.hom (X.getD (c.fr.getD i 0).toNat 0) (X.getD (c.to.getD i 0).toNat 0)):
  TryN c d b X (A.set i v) (dE (WA c d b X) (sA c d) (A.set i v)) (cY c d b (A.set i v))∧uns (cY c d b (A.set i v)).2<uns A:=by
 have t:=aBY (b:=b) (X:=X) (A:=A.set i v) hc hd hX (aAy h.va hi hv) fun x hx=>by
  have h1:=h.un x hx
  have h2:=pO hc hd hX hx
  rw [aV hi,if_neg,h1]
  intro e
  rw [e,h0]at h1
  omega
 have hv0:=(Cat.mem_hom.1 hv).1
 refine⟨t,?_⟩
 have x1:XtL A (A.set i v):= .set hi (by omega)
 have e1:=t.ext.2 i (by simpa using hi) (by rw [aV hi,if_pos rfl];exact hv0)
 rw [aV hi,if_pos rfl]at e1
 exact(x1.trans t.ext).uns_lt hi (by omega) (by rw [e1];exact hv0)
theorem eB:∀k,(bR c d X k).length=c.fr.length
 |0=>by simp [bR]
 |k+1=>by rw [bR,List.length_set,eB k]
theorem oX {n j:Nat}:(List.replicate n (-1:Int)).getD j 0=if j<n then-1 else 0:=by
 rw [List.getD_eq_getElem?_getD,List.getElem?_replicate]
 split<;>rfl
theorem sW (hc:Shape c) (hd:Shape d) (hX:XOK c d b X):∀{k:Nat},k≤c.id.length→VA c d X (bR c d X k)
 |0,_=>by
  refine⟨by simp [bR],fun f hf=>?_,fun f hf h0=>?_⟩
  ·have hf:f<c.fr.length:=by simpa [bR]using hf
   rw [bR,oX,if_pos hf];omega
  ·have hf:f<c.fr.length:=by simpa [bR]using hf
   rw [bR,oX,if_pos hf]at h0;omega
 |k+1,hk=>by
  have ih:=sW hc hd hX (k:=k) (by omega)
  have h1:=mG hc (x:=k) (by omega)
  have h2:=pO hc hd hX (x:=k) (by omega)
  rw [bR]
  exact ih.set (by rw [eB];exact h1.1) h2.2.2.1 h2.2.2.2.1 (by rw [h2.2.2.2.2.1,h1.2.2.1,Int.toNat_natCast]) (by rw [h2.2.2.2.2.2,h1.2.2.2,Int.toNat_natCast])
theorem sV (hc:Shape c):∀{k:Nat},k≤c.id.length→∀x:Nat,x<k→(bR c d X k).getD (c.id.getD x 0).toNat 0=d.id.getD (X.getD x 0).toNat 0
 |0,_,x,hx=>by omega
 |k+1,hk,x,hx=>by
  have h1:=mG hc (x:=k) (by omega)
  have h2:=mG hc (x:=x) (by omega)
  rw [bR,aV (by rw [eB];exact h1.1)]
  by_cases e:x=k
  ·rw [e,if_pos rfl]
  ·rw [if_neg]
   ·exact sV hc (by omega) x (by omega)
   ·intro q
    have a1:=h1.2.2.1
    have a2:=h2.2.2.1
    rw [q]at a2
    omega
theorem rW (hc:Shape c) (hQ:Fits ⟨c,d,X,Q⟩):∀{k:Nat},k≤c.id.length→dS (bR c d X k) Q=true
 |0,_=>by
  rw [contB_iff]
  refine⟨by rw [bR,List.length_replicate];exact hQ.arl.symm,fun i hi h0=>?_⟩
  have hi:i<c.fr.length:=by simpa [bR]using hi
  rw [bR,oX,if_pos hi]at h0
  omega
 |k+1,hk=>by
  have ih:=rW hc hQ (k:=k) (by omega)
  have h1:=mG hc (x:=k) (by omega)
  rw [contB_iff]at ih⊢
  rw [bR]
  refine⟨by simpa using ih.1,fun i hi h0=>?_⟩
  rw [aV (by rw [eB];exact h1.1)]at h0⊢
  by_cases e:i=(c.id.getD k 0).toNat
  ·rw [if_pos e,e]
   have:=hQ.unit k (by show k<c.id.length;omega)
   simpa only [Cat.I,Fun.A,Fun.O,Int.toNat_natCast]using this
  ·rw [if_neg e]at h0⊢
   exact ih.2 i (by simpa using hi) h0
theorem aKt (hc:Shape c) (hd:Shape d) (hX:XOK c d b X):TryN c d b X (fL c d X) (aAb c d b X) (cY c d b (fL c d X)):=by
 have hva:=sW hc hd hX (Nat.le_refl _)
 have t:=aBY (b:=b) (X:=X) (A:=fL c d X) hc hd hX hva fun x hx=>sV hc (Nat.le_refl _) x hx
 have e:aAb c d b X=dE (WA c d b X) (sA c d) (fL c d X):=by
  unfold aAb
  refine uC fun Q hQ hW=>⟨fun _=>rW hc (WA_iff.1 hW).1 (Nat.le_refl _),fun k=>?_⟩
  rw [contB_iff]at k⊢
  refine⟨by rw [←k.1,List.length_replicate];exact(eB _).symm,fun i hi h0=>?_⟩
  rw [List.length_replicate]at hi
  rw [oX,if_pos hi]at h0
  omega
 rw [e];exact t
/-! ### Objects -/
theorem qW:∀{r:Nat} {X:List Int} {g:Fun},g∈dU c d b r X→g.src=c∧g.tgt=d∧g.obs.take X.length=X∧WA c d b g.obs g.ars=true
 |0,X,g,h=>by
  rw [dU]at h
  obtain⟨Q,hQ,rfl⟩:=List.mem_map.1 h
  exact⟨rfl,rfl,List.take_length,(mem_extW.1 hQ).2.2⟩
 |r+1,X,g,h=>by
  rw [dU]at h
  obtain⟨y,hy,hg⟩:=List.mem_flatMap.1 h
  obtain⟨h1,h2,h3,h4⟩:=qW hg
  refine⟨h1,h2,?_,h4⟩
  have:=congrArg (List.take X.length) h3
  rw [List.take_take,List.length_append,List.length_singleton,Nat.min_eq_left (by omega),List.take_append_of_le_length (Nat.le_refl _),List.take_length]at this
  exact this
theorem aBc {r:Nat} (h:∀O Q:List Int,O.take X.length=X→WA c d b O Q=true→False):dU c d b r X=[]:=by
 rw [List.eq_nil_iff_forall_not_mem]
 intro g hg
 obtain⟨h1,h2,h3,h4⟩:=qW hg
 exact h _ _ h3 h4
theorem sM:∀{L M:List Int},L.Nodup→(∀x∈L,x∈M)→L.length≤M.length
 |[],M,_,_=>Nat.zero_le _
 |a::L,M,hn,hs=>by
  have ha:=hs a (List.mem_cons_self ..)
  have hn':=List.nodup_cons.1 hn
  have:=sM (L:=L) (M:=M.erase a) hn'.2 fun x hx=>by
   have hne:x≠a:=fun e=>hn'.1 (e▸hx)
   exact(List.mem_erase_of_ne hne).2 (hs x (List.mem_cons_of_mem _ hx))
  rw [List.length_erase_of_mem ha]at this
  have hp:0<M.length:=List.length_pos_of_mem ha
  simp only [List.length_cons]
  omega
def aKI (c:Cat) (b:Bool) (p q:Int):Nat:=if b=true then(c.hom p q).length else 1
def PlF (c d:Cat) (b:Bool) (X:List Int) (x:Nat) (f:Nat):Prop:=c.fr.getD f 0≤x→c.to.getD f 0≤x→(c.fr.getD f 0=x∨c.to.getD f 0=x)→aKI c b (c.fr.getD f 0) (c.to.getD f 0)≤(d.hom (X.getD (c.fr.getD f 0).toNat 0) (X.getD (c.to.getD f 0).toNat 0)).length
def oD (c d:Cat) (b:Bool) (X:List Int) (x:Nat):Prop:=∀f,f<c.fr.length→PlF c d b X x f
theorem aDc {O:List Int} {f:Nat} (h:WA c d b O Q=true) (hf:f<c.fr.length):aKI c b (c.fr.getD f 0) (c.to.getD f 0)≤(d.hom (O.getD (c.fr.getD f 0).toNat 0) (O.getD (c.to.getD f 0).toNat 0)).length:=by
 obtain⟨w1,w2⟩:=WA_iff.1 h
 have hm:∀g:Nat,g<c.fr.length→c.fr.getD g 0=c.fr.getD f 0→c.to.getD g 0=c.to.getD f 0→Q.getD g 0∈d.hom (O.getD (c.fr.getD f 0).toNat 0) (O.getD (c.to.getD f 0).toNat 0):=fun g hg e1 e2=>by
  have a1:Q.length=c.fr.length:=w1.arl
  have a2:=w1.arw g (by show g<Q.length;omega)
  have a3:=w1.endf g (by show g<Q.length;omega)
  simp only [Cat.F,Cat.T,Fun.O,Int.toNat_natCast,e1,e2]at a3
  exact Cat.mem_hom.2 ⟨a2.1,a2.2,a3.1,a3.2⟩
 unfold aKI
 split
 ·rename_i hb
  have hn:=(w2 hb).2
  have e:((c.hom (c.fr.getD f 0) (c.to.getD f 0)).map fun g=>Q.getD g.toNat 0).length=(c.hom (c.fr.getD f 0) (c.to.getD f 0)).length:=List.length_map ..
  rw [←e]
  refine sM ?_ fun x hx=>?_
  ·unfold List.Nodup
   rw [List.pairwise_map]
   refine List.Pairwise.imp_of_mem ?_ (Cat.hom_nodup c (c.fr.getD f 0) (c.to.getD f 0))
   intro g g' hg hg' hne e
   obtain⟨g1,g2,g3,g4⟩:=Cat.mem_hom.1 hg
   obtain⟨k1,k2,k3,k4⟩:=Cat.mem_hom.1 hg'
   have a1:Q.length=c.fr.length:=w1.arl
   have a2:=w1.arw g.toNat (by show _<Q.length;omega)
   have a3:=w1.arw g'.toNat (by show _<Q.length;omega)
   simp only at a2 a3
   rcases Nat.lt_trichotomy g.toNat g'.toNat with q|q|q
   ·exact hn _ _ q (by omega) a2.1 e
   ·exact hne (by omega)
   ·exact hn _ _ q (by omega) a3.1 e.symm
  ·obtain⟨g,hg,rfl⟩:=List.mem_map.1 hx
   obtain⟨g1,g2,g3,g4⟩:=Cat.mem_hom.1 hg
   exact hm g.toNat (by omega) g3 g4
 ·exact List.length_pos_of_mem (hm f hf rfl rfl)
theorem getD_take {l m:List Int} {n i:Nat} (h:l.take n=m) (hi:i<m.length):l.getD i 0=m.getD i 0:=by
 subst h
 rw [List.length_take]at hi
 rw [List.getD_eq_getElem?_getD,List.getD_eq_getElem?_getD,List.getElem?_take,if_pos (by omega)]
theorem aJT {r:Nat} {x:Nat} (hc:Shape c) (hx:X.length=x+1) (h:¬oD c d b X x):dU c d b r X=[]:=by
 refine aBc fun O Q hO hW=>h fun f hf h1 h2 _=>?_
 have:=aDc hW hf
 have f1:=hc.frw f hf
 have f2:=hc.tow f (by rw [hc.tol];exact hf)
 rw [getD_take hO (by omega),getD_take hO (by omega)]at this
 exact this
theorem aOS {r y:Nat} (h:(y:Int)∈X):dU c d true r (X++[(y:Int)])=[]:=by
 refine aBc fun O Q hO hW=>?_
 have hn:=((WA_iff.1 hW).2 rfl).1
 obtain⟨i,hi,e⟩:=qX (d:=0) h
 have hl:X.length<O.length:=by
  have:=congrArg List.length hO
  simp only [List.length_take,List.length_append,List.length_singleton]at this
  omega
 have e1:O.getD i 0=y:=by
  rw [getD_take hO (by simp;omega),List.getD_eq_getElem?_getD,List.getElem?_append_left hi,←List.getD_eq_getElem?_getD,e]
 have e2:O.getD X.length 0=y:=by
  rw [getD_take hO (by simp),List.getD_eq_getElem?_getD,List.getElem?_append_right (Nat.le_refl _)]
  simp
 exact hn i X.length hi hl (by omega) (by rw [e1,e2])
noncomputable def fG (c d:Cat) (b:Bool) (r:Nat) (X:List Int) (y:Nat):List Fun:=(List.range y).flatMap fun v:Nat=>dU c d b r (X++[(v:Int)])
theorem zC {r:Nat}:fG c d b r X 0=[]:=rfl
theorem mB {r y:Nat}:fG c d b r X (y+1)=fG c d b r X y++dU c d b r (X++[(y:Int)]):=by
 unfold fG
 rw [List.range_succ,List.flatMap_append]
 simp
theorem vD {r y K:Nat} (h:y<K):∃R,fG c d b r X K=fG c d b r X (y+1)++R:=by
 induction K with
 |zero=>omega
 |succ K ih=>
  by_cases hu:y=K
  ·subst hu;exact⟨[],(List.append_nil _).symm⟩
  ·obtain⟨R,hR⟩:=ih (by omega)
   exact⟨R++dU c d b r (X++[(K:Int)]),by rw [mB,hR,List.append_assoc]⟩
theorem aFo {r:Nat}:dU c d b (r+1) X=fG c d b r X d.ob.toNat:=rfl
end
end Go.Cats
end
section
namespace Go.Cats
/-! ### A search in depth by choices -/
def goC (ch:List Int→Nat→List Int):Nat→List Int→List (List Int)
 |0,_=>[]
 |n+1,A=>match fqL A with
  |none=>[A]
  |some i=>(ch A i).flatMap fun u=>goC ch n (A.set i u)
def sY (ch:List Int→Nat→List Int) (n x:Nat) (A C:List Int):List (List Int):=C.flatMap fun u=>goC ch n (A.set x u)
structure ChW (W:List Int→Bool) (S:List Nat) (ch:List Int→Nat→List Int) (Co:List Int→Prop):Prop where
 out:∀A (i:Nat),A.length=S.length→i<A.length→∃p:Nat→Bool,ch A i=((List.range (S.getD i 0)).filter p).map fun e:Nat=>(e:Int)
 mono:∀A B (i:Nat) u,A.length=S.length→XtL A B→i<A.length→u∈ch B i→u∈ch A i
 comp:∀Q A (i:Nat),Q∈qV S→W Q=true→A.length=S.length→(∀j,j<A.length→j≠i→0≤A.getD j 0→Q.getD j 0=A.getD j 0)→i<A.length→Q.getD i 0∈ch A i
 leaf:∀A:List Int,A.length=S.length→(∀j,j<A.length→0≤A.getD j 0∧A.getD j 0<S.getD j 0)→Co A→W A=true
 step:∀A (i:Nat) u,A.length=S.length→i<A.length→A.getD i 0= -1→Co A→u∈ch A i→Co (A.set i u)
section
variable {W:List Int→Bool} {S:List Nat} {ch:List Int→Nat→List Int} {Co:List Int→Prop} {A B Q C:List Int} {n i k x:Nat} {u:Int}
theorem aBe (h:fqL A=none):goC ch (n+1) A=[A]:=by rw [goC,h]
theorem wA (h:fqL A=some i):goC ch (n+1) A=sY ch n i A (ch A i):=by rw [goC,h];rfl
theorem aIZ:sY ch n x A (C.take 0)=[]:=by rw [List.take_zero];rfl
theorem aIY (h:k<C.length):sY ch n x A (C.take (k+1))=sY ch n x A (C.take k)++goC ch n (A.set x (C.getD k 0)):=by
 unfold sY
 rw [List.take_add_one,List.getElem?_eq_getElem h,Option.toList_some,List.flatMap_append,List.getD_eq_getElem?_getD,List.getElem?_eq_getElem h]
 simp
theorem aGK:sY ch n x A C=sY ch n x A (C.take k)++sY ch n x A (C.drop k):=by
 unfold sY
 rw [←List.flatMap_append,List.take_append_drop]
theorem ChW.rng (h:ChW W S ch Co) (hA:A.length=S.length) (hi:i<A.length) (hu:u∈ch A i):0≤u∧u<S.getD i 0:=by
 obtain⟨p,hp⟩:=h.out A i hA hi
 rw [hp]at hu
 obtain⟨e,he,rfl⟩:=List.mem_map.1 hu
 have:=List.mem_range.1 (List.mem_filter.1 he).1
 omega
theorem aIi (hw:ChW W S ch Co):∀(n:Nat) (A:List Int),A.length=S.length→∀k,k<A.length→A.getD k 0= -1→(ch A k).length=0→goC ch n A=[]
 |0,_,_,_,_,_,_=>rfl
 |n+1,A,hA,k,hk,h1,h0=>by
  cases hf:fqL A with
  |none=>exact absurd h1 (fqL_none.1 hf k hk)
  |some i=>
   obtain⟨f1,f2,f3⟩:=vY hf
   rw [wA hf]
   by_cases hik:i=k
   ·subst hik
    rw [List.length_eq_zero_iff.1 h0];rfl
   ·unfold sY
    rw [List.flatMap_eq_nil_iff]
    intro u hu
    refine aIi hw n _ (by simpa using hA) k (by simpa using hk) (by rw [aV f1,if_neg (fun q=>hik q.symm)];exact h1) ?_
    rw [List.length_eq_zero_iff,List.eq_nil_iff_forall_not_mem]
    intro v hv
    have:=hw.mono A (A.set i u) k v hA (.setL f1 f2) hk hv
    rw [List.length_eq_zero_iff.1 h0]at this
    cases this
theorem aFs (hw:ChW W S ch Co) (hQ:Q∈qV S) (hW:W Q=true):∀(n:Nat) (A:List Int),A.length=S.length→uns A<n→dS A Q=true→goC ch n A≠[]
 |0,_,_,hn,_=>by omega
 |n+1,A,hA,hn,hc=>by
  cases hf:fqL A with
  |none=>rw [aBe hf];simp
  |some i=>
   obtain⟨f1,f2,f3⟩:=vY hf
   obtain⟨q1,q2⟩:=mem_lexP.1 hQ
   have qi:=q2 i (by omega)
   obtain⟨c1,c2⟩:=contB_iff.1 hc
   rw [wA hf]
   have hx:XtL A (A.set i (Q.getD i 0)):= .setL f1 f2
   have hu:=hx.uns_lt f1 (by omega) (by rw [aV f1,if_pos rfl];exact qi.1)
   have hmem:Q.getD i 0∈ch A i:=hw.comp Q A i hQ hW hA (fun j hj _ h0=>c2 j hj h0) f1
   have hr:=aFs hw hQ hW n (A.set i (Q.getD i 0)) (by simpa using hA) (by omega) (contB_iff.2 ⟨by simpa using c1,fun j hj h1=>by
    rw [aV f1]at h1⊢
    by_cases q:j=i
    ·rw [if_pos q,q]
    ·rw [if_neg q]at h1⊢;exact c2 j (by simpa using hj) h1⟩)
   intro h
   exact hr (List.flatMap_eq_nil_iff.1 h _ hmem)
theorem aIj (hw:ChW W S ch Co):∀(n:Nat) (A:List Int),RngL S A→uns A<n→Co A→goC ch n A=dE W S A
 |0,_,_,hn,_=>by omega
 |n+1,A,hA,hn,hc=>by
  cases hf:fqL A with
  |none=>
   have hfull:∀j,j<A.length→0≤A.getD j 0:=fun j hj=>by
    have h1:=fqL_none.1 hf j hj
    have h2:=(hA.2 j hj).1
    omega
   rw [aBe hf,sJ hA.1 fun j hj=>⟨hfull j hj,(hA.2 j hj).2⟩,if_pos]
   exact hw.leaf A hA.1 (fun j hj=>⟨hfull j hj,(hA.2 j hj).2⟩) hc
  |some i=>
   obtain⟨f1,f2,f3⟩:=vY hf
   rw [wA hf,mF hA.1 f1 (fun j hj=>by
    have h1:=f3 j hj
    have h2:=(hA.2 j (by omega)).1
    omega) (by omega)]
   obtain⟨p,hp⟩:=hw.out A i hA.1 f1
   have hmem:∀m:Nat,m<S.getD i 0→(p m=true↔(m:Int)∈ch A i):=fun m hm=>by
    rw [hp]
    constructor
    ·intro h;exact List.mem_map.2 ⟨m,List.mem_filter.2 ⟨List.mem_range.2 hm,h⟩,rfl⟩
    ·intro h
     obtain⟨e,he,h2⟩:=List.mem_map.1 h
     have:e=m:=by omega
     subst this
     exact(List.mem_filter.1 he).2
   unfold sY
   rw [hp,List.flatMap_map]
   have key:∀m,m≤S.getD i 0→(((List.range m).filter p).flatMap fun e:Nat=>goC ch n (A.set i (e:Int)))=(List.range m).flatMap fun u:Nat=>dE W S (A.set i (u:Int)):=by
    intro m
    induction m with
    |zero=>intro _;rfl
    |succ m ih=>
     intro hm
     rw [List.range_succ,List.filter_append,List.flatMap_append,List.flatMap_append,ih (by omega)]
     congr 1
     have hrg:=hA.set (e:=(m:Int)) f1 ⟨by omega,by omega⟩
     have hiff:=hmem m (by omega)
     by_cases hfit:p m=true
     ·rw [List.filter_cons_of_pos (p:=p) hfit,List.filter_nil,List.flatMap_cons,List.flatMap_nil,List.append_nil,List.flatMap_cons,List.flatMap_nil,List.append_nil]
      have hu:=(XtL.setL (e:=(m:Int)) f1 f2).uns_lt f1 (by omega) (by rw [aV f1,if_pos rfl];omega)
      exact aIj hw n _ hrg (by omega) (hw.step A i m hA.1 f1 f2 hc (hiff.1 hfit))
     ·rw [List.filter_cons_of_neg (p:=p) hfit,List.filter_nil,List.flatMap_nil,List.flatMap_cons,List.flatMap_nil,List.append_nil]
      symm
      refine nM fun Q hQ hW hcQ=>hfit (hiff.2 ?_)
      obtain⟨c1,c2⟩:=contB_iff.1 hcQ
      have qi:=c2 i (by simpa using f1) (by rw [aV f1,if_pos rfl];omega)
      rw [aV f1,if_pos rfl]at qi
      rw [←qi]
      refine hw.comp Q A i hQ hW hA.1 (fun j hj hne h0=>?_) f1
      have:=c2 j (by simpa using hj) (by rw [aV f1,if_neg hne];exact h0)
      rwa [aV f1,if_neg hne]at this
   exact key (S.getD i 0) (Nat.le_refl _)
end
/-! ### Transformations -/
def SqP (f g:Fun) (A:List Int) (a:Nat):Prop:=f.tgt.C (f.ars.getD a 0) (A.getD (f.src.to.getD a 0).toNat 0)=f.tgt.C (A.getD (f.src.fr.getD a 0).toNat 0) (g.ars.getD a 0)
structure NatP (f g:Fun) (A:List Int):Prop where
 end_:∀x,x<A.length→A.getD x 0∈f.tgt.hom (f.obs.getD x 0) (g.obs.getD x 0)
 sq:∀a,a<f.src.fr.length→SqP f g A a
noncomputable def aQ7 (f g:Fun) (A:List Int):Bool:=dec (NatP f g A)
theorem natW_iff {f g:Fun} {A:List Int}:aQ7 f g A=true↔NatP f g A:=dec_iff
abbrev sN (f:Fun):List Nat:=List.replicate f.src.ob.toNat f.tgt.fr.length
noncomputable def qB (f g:Fun) (r:Nat) (X:List Int):List (List Int):=dE (aQ7 f g) (sN f) (X++List.replicate r (-1))
noncomputable def gQ (f g:Fun):List (List Int):=qB f g f.src.ob.toNat []
structure Par (f g:Fun):Prop where
 src:IsCat f.src
 tgt:IsCat f.tgt
 fit:Fits f
 fit2:Fits g
 es:g.src=f.src
 et:g.tgt=f.tgt
section
variable {f g:Fun} {A B P Q X C:List Int} {a x r k n:Nat} {b u:Int}
theorem xA (h:x<f.src.ob.toNat):(sN f).getD x 0=f.tgt.fr.length:=by
 rw [List.getD_eq_getElem?_getD,List.getElem?_replicate,if_pos h];rfl
theorem kE:(sN f).length=f.src.ob.toNat:=by rw [List.length_replicate]
structure NatK (f g:Fun) (X:List Int):Prop where
 end_:∀x,x<X.length→X.getD x 0∈f.tgt.hom (f.obs.getD x 0) (g.obs.getD x 0)
 sq:∀a,a<f.src.fr.length→(f.src.fr.getD a 0).toNat<X.length→(f.src.to.getD a 0).toNat<X.length→SqP f g X a
theorem NatK.nil:NatK f g []:=⟨fun x hx=>by simp at hx,fun a _ h=>by simp at h⟩
theorem gG {X Y:List Int} {i:Nat}:(X++Y).getD i 0=if i<X.length then X.getD i 0 else Y.getD (i-X.length) 0:=by
 rw [List.getD_eq_getElem?_getD]
 split
 ·rename_i h;rw [List.getElem?_append_left h,List.getD_eq_getElem?_getD]
 ·rename_i h;rw [List.getElem?_append_right (by omega),List.getD_eq_getElem?_getD]
theorem sR {i:Nat}:(List.replicate r (-1:Int)).getD i 0=if i<r then-1 else 0:=by
 rw [List.getD_eq_getElem?_getD,List.getElem?_replicate]
 split<;>rfl
theorem aJN (hs:Shape f.src) (hX:NatK f g X) (hl:X.length=f.src.ob.toNat):qB f g 0 X=[X]:=by
 have h0:=hs.ob0
 unfold qB
 rw [List.replicate_zero,List.append_nil,sJ (by rw [kE];exact hl) (fun j hj=>?_),if_pos]
 ·refine natW_iff.2 ⟨hX.end_,fun a ha=>hX.sq a ha ?_ ?_⟩
  ·have:=hs.frw a ha;omega
  ·have:=hs.tow a (by rw [hs.tol];exact ha);omega
 ·have:=Cat.mem_hom.1 (hX.end_ j hj)
  rw [xA (by omega)]
  exact⟨this.1,this.2.1⟩
theorem aJO (hl:X.length+(r+1)=f.src.ob.toNat) (h0:∀i,i<X.length→0≤X.getD i 0):
  qB f g (r+1) X=(f.tgt.hom (f.obs.getD X.length 0) (g.obs.getD X.length 0)).flatMap fun b=>qB f g r (X++[b]):=by
 have e1:∀b:Int,(X++List.replicate (r+1) (-1)).set X.length b=(X++[b])++List.replicate r (-1):=fun b=>by
  rw [List.set_append_right _ _ (Nat.le_refl _),Nat.sub_self,List.replicate_succ,List.set_cons_zero,List.append_assoc];rfl
 have hi:X.length<(X++List.replicate (r+1) (-1)).length:=by simp
 unfold qB
 rw [mF (i:=X.length) (by rw [kE];simp;omega) hi (fun j hj=>by rw [gG,if_pos hj];exact h0 j hj) (by rw [gG,if_neg (by omega),Nat.sub_self,sR,if_pos (by omega)];omega),xA (by omega)]
 simp only [e1]
 unfold Cat.hom Cat.homI gO
 rw [List.flatMap_assoc,List.flatMap_def,List.flatMap_def]
 congr 1
 refine List.map_congr_left fun v hv=>?_
 have hv:=List.mem_range.1 hv
 by_cases e:f.tgt.fr.getD v 0=f.obs.getD X.length 0∧f.tgt.to.getD v 0=g.obs.getD X.length 0
 ·rw [if_pos e];simp
 ·rw [if_neg e,List.flatMap_nil]
  refine nM fun Q hQ hW hc=>e ?_
  obtain⟨c1,c2⟩:=contB_iff.1 hc
  have e2:=c2 X.length (by simp) (by rw [gG,if_pos (by simp),gG,if_neg (by omega),Nat.sub_self];simp)
  rw [gG,if_pos (by simp),gG,if_neg (by omega),Nat.sub_self]at e2
  have:=(natW_iff.1 hW).end_ X.length (by rw [←c1];simp)
  have:=Cat.mem_hom.1 this
  have e2:Q.getD X.length 0=(v:Int):=by simpa using e2
  rw [e2]at this
  simpa [Cat.F,Cat.T]using this.2.2
def SqN (f g:Fun) (X:List Int) (a:Nat):Prop:=max (f.src.fr.getD a 0) (f.src.to.getD a 0)+1=X.length→SqP f g X a
theorem aOQ (hs:Shape f.src) (h0:∀i,i<X.length→0≤X.getD i 0) {a:Nat} (ha:a<f.src.fr.length) (hX:¬SqN f g X a):qB f g r X=[]:=by
 unfold qB
 refine nM fun Q hQ hW hc=>hX fun hm=>?_
 obtain⟨c1,c2⟩:=contB_iff.1 hc
 have f1:=hs.frw a ha
 have f2:=hs.tow a (by rw [hs.tol];exact ha)
 have hk:∀i:Nat,i<X.length→Q.getD i 0=X.getD i 0:=fun i hi=>by
  have:=c2 i (by simp;omega) (by rw [gG,if_pos hi];exact h0 i hi)
  rwa [gG,if_pos hi]at this
 have s:=(natW_iff.1 hW).sq a ha
 unfold SqP at s⊢
 rw [hk _ (by omega),hk _ (by omega)]at s
 exact s
theorem aFJ (hX:NatK f g X) (hb:b∈f.tgt.hom (f.obs.getD X.length 0) (g.obs.getD X.length 0)) (hs:Shape f.src) (hn:∀a,a<f.src.fr.length→SqN f g (X++[b]) a):NatK f g (X++[b]):=by
 refine⟨fun x hx=>?_,fun a ha h1 h2=>?_⟩
 ·rw [gG]
  split
  ·rename_i h;exact hX.end_ x h
  ·rename_i h
   have:x=X.length:=by simp at hx;omega
   subst this
   rw [Nat.sub_self]
   simpa using hb
 ·have f1:=hs.frw a ha
  have f2:=hs.tow a (by rw [hs.tol];exact ha)
  rw [List.length_append,List.length_singleton]at h1 h2
  by_cases hm:(f.src.fr.getD a 0).toNat<X.length∧(f.src.to.getD a 0).toNat<X.length
  ·have:=hX.sq a ha hm.1 hm.2
   unfold SqP at this⊢
   rw [gG,gG,if_pos (by omega),if_pos (by omega)]
   exact this
  ·exact hn a ha (by rw [List.length_append,List.length_singleton];omega)
/-! ### The program's search -/
def SqX (f g:Fun) (P:List Int) (x:Nat):Prop:=∀a,a<f.src.fr.length→max (f.src.fr.getD a 0) (f.src.to.getD a 0)=x→SqP f g P a
abbrev NSt:=Bool×List (List Int)×List Int
open Classical in
noncomputable def eL (f g:Fun) (run:List Int→List (List Int)→NSt) (x:Nat) (s:NSt) (b:Int):NSt:=
 if s.1=true then(if SqX f g (s.2.2.set x b) x then run (s.2.2.set x b) s.2.1 else(true,s.2.1,s.2.2.set x b))else s
noncomputable def dL (f g:Fun) (M:Nat):Nat→List Int→List (List Int)→NSt
 |0,P,F=>((stL M F P).1,(stL M F P).2,P)
 |r+1,P,F=>(f.tgt.hom (f.obs.getD (f.src.ob.toNat-(r+1)) 0) (g.obs.getD (f.src.ob.toNat-(r+1)) 0)).foldl (eL f g (dL f g M r) (f.src.ob.toNat-(r+1))) (true,F,P)
variable {run:List Int→List (List Int)→NSt} {s:NSt} {F:List (List Int)} {M:Nat}
theorem aBZ (h:s.1=false):∀C:List Int,C.foldl (eL f g run x) s=s
 |[]=>rfl
 |b::C=>by
  have e:eL f g run x s b=s:=by unfold eL;rw [if_neg (by rw [h];simp)]
  rw [List.foldl_cons,e,aBZ h C]
theorem vA (h:k<C.length):(C.take (k+1)).foldl (eL f g run x) s=eL f g run x ((C.take k).foldl (eL f g run x) s) (C.getD k 0):=by
 rw [List.take_add_one,List.getElem?_eq_getElem h,Option.toList_some,List.foldl_append,List.foldl_cons,List.foldl_nil,List.getD_eq_getElem?_getD,List.getElem?_eq_getElem h];rfl
theorem aKu (h:k<C.length) (h1:((C.take (k+1)).foldl (eL f g run x) s).1=false):C.foldl (eL f g run x) s=(C.take (k+1)).foldl (eL f g run x) s:=by
 have e:C.foldl (eL f g run x) s=(C.drop (k+1)).foldl (eL f g run x) ((C.take (k+1)).foldl (eL f g run x) s):=by rw [←List.foldl_append,List.take_append_drop]
 rw [e,aBZ h1]
theorem aDH (h:s.1=true) (hq:SqX f g (s.2.2.set x b) x):eL f g run x s b=run (s.2.2.set x b) s.2.1:=by unfold eL;rw [if_pos h,if_pos hq]
theorem aGf (h:s.1=true) (hq:¬SqX f g (s.2.2.set x b) x):eL f g run x s b=(true,s.2.1,s.2.2.set x b):=by unfold eL;rw [if_pos h,if_neg hq]
theorem aEE (hs:Shape f.src) (hx:x<P.length):SqX f g P x↔∀a,a<f.src.fr.length→SqN f g (P.take (x+1)) a:=by
 have hl:(P.take (x+1)).length=x+1:=by rw [List.length_take];omega
 have ht:∀i:Nat,i≤x→(P.take (x+1)).getD i 0=P.getD i 0:=fun i hi=>by
  rw [List.getD_eq_getElem?_getD,List.getElem?_take,if_pos (by omega),←List.getD_eq_getElem?_getD]
 constructor
 ·intro h a ha hm
  have f1:=hs.frw a ha
  have f2:=hs.tow a (by rw [hs.tol];exact ha)
  rw [hl]at hm
  have:=h a ha (by omega)
  unfold SqP at this⊢
  rw [ht _ (by omega),ht _ (by omega)]
  exact this
 ·intro h a ha hm
  have f1:=hs.frw a ha
  have f2:=hs.tow a (by rw [hs.tol];exact ha)
  have:=h a ha (by rw [hl];omega)
  unfold SqP at this⊢
  rw [ht _ (by omega),ht _ (by omega)]at this
  exact this
structure RunW (f g:Fun) (M r:Nat) (X P:List Int) (F:List (List Int)) (s:NSt) (L:List (List Int)):Prop where
 ok:s.1=(eat (stL M) F L).1
 out:s.2.1=(eat (stL M) F L).2
 len:s.2.2.length=P.length
 pre:s.2.2.take X.length=X
theorem aDI (hs:Shape f.src) {r x:Nat} {P:List Int} {F:List (List Int)} (hP:P.length=f.src.ob.toNat) (hx:x+(r+1)=f.src.ob.toNat) (hX:NatK f g (P.take x)) (hF:F.length≤M) (hC:∀b∈C,b∈f.tgt.hom (f.obs.getD x 0) (g.obs.getD x 0))
  (IH:∀(Q:List Int) (O:List (List Int)),Q.length=f.src.ob.toNat→NatK f g (Q.take (x+1))→O.length≤M→RunW f g M r (Q.take (x+1)) Q O (dL f g M r Q O) (qB f g r (Q.take (x+1)))):
  ∀k,k≤C.length→RunW f g M r (P.take x) P F ((C.take k).foldl (eL f g (dL f g M r) x) (true,F,P)) ((C.take k).flatMap fun b=>qB f g r (P.take x++[b])):=by
 have hl:(P.take x).length=x:=by rw [List.length_take];omega
 have h0:∀i,i<(P.take x).length→0≤(P.take x).getD i 0:=fun i hi=>(Cat.mem_hom.1 (hX.end_ i hi)).1
 have hm:∀b∈C,b∈f.tgt.hom (f.obs.getD (P.take x).length 0) (g.obs.getD (P.take x).length 0):=fun b hb=>by rw [hl];exact hC b hb
 intro k
 induction k with
 |zero=>intro _;exact⟨rfl,rfl,rfl,by rw [hl];rfl⟩
 |succ k ih=>
  intro hk
  obtain⟨t,ht⟩:∃t,(C.take k).foldl (eL f g (dL f g M r) x) (true,F,P)=t:=⟨_,rfl⟩
  have ih:=ih (by omega)
  rw [ht]at ih
  obtain⟨i1,i2,i3,i4⟩:=ih
  rw [hl]at i4
  rw [vA (by omega),ht]
  have hfl:(C.take (k+1)).flatMap (fun b=>qB f g r (P.take x++[b]))=(C.take k).flatMap (fun b=>qB f g r (P.take x++[b]))++qB f g r (P.take x++[C.getD k 0]):=by
   rw [List.take_add_one,List.getElem?_eq_getElem (by omega),Option.toList_some,List.flatMap_append,List.getD_eq_getElem?_getD,List.getElem?_eq_getElem (by omega)];simp
  rw [hfl]
  cases h1:t.1 with
  |false=>
   rw [show eL f g (dL f g M r) x t (C.getD k 0)=t from by unfold eL;rw [if_neg (by rw [h1];simp)]]
   rw [h1]at i1
   exact⟨by rw [qN i1.symm,h1,←i1],by rw [qN i1.symm];exact i2,i3,by rw [hl];exact i4⟩
  |true=>
   have hset:(t.2.2.set x (C.getD k 0)).take (x+1)=P.take x++[C.getD k 0]:=by
    rw [List.take_set,List.take_add_one,List.getElem?_eq_getElem (by omega),Option.toList_some,i4,List.set_append_right _ _ (by omega),hl,Nat.sub_self];rfl
   have hlen2:(t.2.2.set x (C.getD k 0)).length=f.src.ob.toNat:=by rw [List.length_set];omega
   have hCm:C.getD k 0∈C:=by rw [List.getD_eq_getElem?_getD,List.getElem?_eq_getElem (by omega)];exact List.getElem_mem _
   have hb0:=(Cat.mem_hom.1 (hm _ hCm)).1
   rw [h1]at i1
   by_cases hq:SqX f g (t.2.2.set x (C.getD k 0)) x
   ·rw [aDH h1 hq]
    have hN:=aFJ hX (hm _ hCm) hs (by
     have:=(aEE hs (by omega)).1 hq
     rw [hset]at this
     exact this)
    have hF2:t.2.1.length≤M:=by rw [i2];exact vS hF i1.symm
    obtain⟨j1,j2,j3,j4⟩:=IH (t.2.2.set x (C.getD k 0)) t.2.1 hlen2 (by rw [hset];exact hN) hF2
    rw [hset]at j1 j2 j4
    refine⟨by rw [aA3 i1.symm,←i2];exact j1,by rw [aA3 i1.symm,←i2];exact j2,by rw [j3];omega,?_⟩
    have:=congrArg (List.take x) j4
    rw [List.take_take,List.length_append,List.length_singleton,hl,Nat.min_eq_left (by omega),List.take_append_of_le_length (by rw [hl];exact Nat.le_refl _)]at this
    rw [hl,this,List.take_take,Nat.min_self]
   ·rw [aGf h1 hq]
    have hno:∃a,¬(a<f.src.fr.length→SqN f g (P.take x++[C.getD k 0]) a):=Classical.not_forall.1 fun q=>hq ((aEE hs (by omega)).2 (by rw [hset];exact q))
    obtain⟨a,ha⟩:=hno
    obtain⟨ha1,ha2⟩:=Classical.not_imp.1 ha
    rw [aOQ hs (fun i hi=>?_) ha1 ha2,List.append_nil]
    ·refine⟨i1,i2,by rw [List.length_set];exact i3,?_⟩
     show(t.2.2.set x (C.getD k 0)).take (P.take x).length=P.take x
     rw [hl,List.take_set_of_le (Nat.le_refl _)]
     exact i4
    ·rw [gG]
     split
     ·rename_i h;exact h0 i h
     ·rename_i h
      have:i=(P.take x).length:=by simp at hi⊢;omega
      rw [this,Nat.sub_self];simpa using hb0
theorem uJ (hs:Shape f.src):∀(r x:Nat) (P:List Int) (F:List (List Int)),P.length=f.src.ob.toNat→x+r=f.src.ob.toNat→NatK f g (P.take x)→F.length≤M→
  RunW f g M r (P.take x) P F (dL f g M r P F) (qB f g r (P.take x))
 |0,x,P,F,hP,hx,hX,hF=>by
  have e:P.take x=P:=List.take_of_length_le (by omega)
  rw [e]at hX⊢
  rw [aJN hs hX hP]
  exact⟨by rw [aD4];rfl,by rw [aD4];rfl,rfl,List.take_length⟩
 |r+1,x,P,F,hP,hx,hX,hF=>by
  have ex:f.src.ob.toNat-(r+1)=x:=by omega
  have hl:(P.take x).length=x:=by rw [List.length_take];omega
  have h0:∀i,i<(P.take x).length→0≤(P.take x).getD i 0:=fun i hi=>(Cat.mem_hom.1 (hX.end_ i hi)).1
  have hnode:=aJO (f:=f) (g:=g) (X:=P.take x) (r:=r) (by omega) h0
  rw [hl]at hnode
  rw [dL,ex,hnode]
  have:=aDI (C:=f.tgt.hom (f.obs.getD x 0) (g.obs.getD x 0)) hs hP hx hX hF (fun b hb=>hb) (fun Q O h1 h2 h3=>uJ hs r (x+1) Q O h1 (by omega) h2 h3) _ (Nat.le_refl _)
  rw [List.take_length]at this
  exact⟨this.ok,this.out,this.len,this.pre⟩
structure StW (f g:Fun) (M r x:Nat) (P:List Int) (F:List (List Int)) (C:List Int) (st:Nat→NSt):Prop where
 zero:st 0=(true,F,P)
 all:dL f g M (r+1) P F=st C.length
 yes:∀k,k<C.length→(st k).1=true→SqX f g ((st k).2.2.set x (C.getD k 0)) x→st (k+1)=dL f g M r ((st k).2.2.set x (C.getD k 0)) (st k).2.1
 no:∀k,k<C.length→(st k).1=true→¬SqX f g ((st k).2.2.set x (C.getD k 0)) x→st (k+1)=(true,(st k).2.1,(st k).2.2.set x (C.getD k 0))
 stop:∀k,k<C.length→(st (k+1)).1=false→st C.length=st (k+1)
 len:∀k,k≤C.length→(st k).2.2.length=f.src.ob.toNat
 few:∀k,k≤C.length→(st k).1=true→(st k).2.1.length≤M
 rng:∀k,k<C.length→∀i,i≤x→0≤((st k).2.2.set x (C.getD k 0)).getD i 0∧((st k).2.2.set x (C.getD k 0)).getD i 0<f.tgt.fr.length
 good:∀k,k<C.length→SqX f g ((st k).2.2.set x (C.getD k 0)) x→NatK f g (((st k).2.2.set x (C.getD k 0)).take (x+1))
theorem aNu (hs:Shape f.src) {r x:Nat} {P:List Int} {F:List (List Int)} (hP:P.length=f.src.ob.toNat) (hx:x+(r+1)=f.src.ob.toNat) (hX:NatK f g (P.take x)) (hF:F.length≤M):
  ∃st,StW f g M r x P F (f.tgt.hom (f.obs.getD x 0) (g.obs.getD x 0)) st:=by
 have ex:f.src.ob.toNat-(r+1)=x:=by omega
 have hl:(P.take x).length=x:=by rw [List.length_take];omega
 have hst:=aDI (C:=f.tgt.hom (f.obs.getD x 0) (g.obs.getD x 0)) hs hP hx hX hF (fun b hb=>hb) (fun Q O h1 h2 h3=>uJ hs r (x+1) Q O h1 (by omega) h2 h3)
 have hall:dL f g M (r+1) P F=((f.tgt.hom (f.obs.getD x 0) (g.obs.getD x 0)).take (f.tgt.hom (f.obs.getD x 0) (g.obs.getD x 0)).length).foldl (eL f g (dL f g M r) x) (true,F,P):=by rw [dL,ex,List.take_length]
 have hmem:∀b∈f.tgt.hom (f.obs.getD x 0) (g.obs.getD x 0),b∈f.tgt.hom (f.obs.getD (P.take x).length 0) (g.obs.getD (P.take x).length 0):=fun b hb=>by rw [hl];exact hb
 generalize f.tgt.hom (f.obs.getD x 0) (g.obs.getD x 0)=C at *
 have hset:∀k,k<C.length→(((C.take k).foldl (eL f g (dL f g M r) x) (true,F,P)).2.2.set x (C.getD k 0)).take (x+1)=P.take x++[C.getD k 0]:=fun k hk=>by
  obtain⟨i1,i2,i3,i4⟩:=hst k (by omega)
  rw [hl]at i4
  rw [List.take_set,List.take_add_one,List.getElem?_eq_getElem (by omega),Option.toList_some,i4,List.set_append_right _ _ (by omega),hl,Nat.sub_self];rfl
 have hCm:∀k,k<C.length→C.getD k 0∈C:=fun k hk=>by rw [List.getD_eq_getElem?_getD,List.getElem?_eq_getElem (by omega)];exact List.getElem_mem _
 refine⟨fun k=>(C.take k).foldl (eL f g (dL f g M r) x) (true,F,P),rfl,hall,fun k hk h1 hq=>?_,fun k hk h1 hq=>?_,fun k hk h1=>?_,fun k hk=>?_,fun k hk h1=>?_,fun k hk i hi=>?_,fun k hk hq=>?_⟩
 ·show(C.take (k+1)).foldl _ _=_
  rw [vA hk,aDH h1 hq]
 ·show(C.take (k+1)).foldl _ _=_
  rw [vA hk,aGf h1 hq]
 ·show(C.take C.length).foldl _ _=_
  rw [List.take_length]
  exact aKu hk h1
 ·rw [(hst k hk).len];exact hP
 ·have:=(hst k hk)
  show((C.take k).foldl (eL f g (dL f g M r) x) (true,F,P)).2.1.length≤M
  rw [this.out]
  exact vS hF (by rw [←this.ok];exact h1)
 ·have h:((((C.take k).foldl (eL f g (dL f g M r) x) (true,F,P)).2.2.set x (C.getD k 0)).take (x+1)).getD i 0=(P.take x++[C.getD k 0]).getD i 0:=by rw [hset k hk]
  rw [List.getD_eq_getElem?_getD,List.getElem?_take,if_pos (by omega),←List.getD_eq_getElem?_getD,gG]at h
  show 0≤(((C.take k).foldl (eL f g (dL f g M r) x) (true,F,P)).2.2.set x (C.getD k 0)).getD i 0∧_
  rw [h]
  split
  ·rename_i hi2
   have:=Cat.mem_hom.1 (hX.end_ i hi2)
   exact⟨this.1,this.2.1⟩
  ·rename_i hi2
   have e:i=(P.take x).length:=by omega
   have:=Cat.mem_hom.1 (hmem _ (hCm k hk))
   rw [e,Nat.sub_self]
   exact⟨this.1,this.2.1⟩
 ·show NatK f g (List.take (x+1) (((C.take k).foldl (eL f g (dL f g M r) x) (true,F,P)).2.2.set x (C.getD k 0)))
  have:=(aEE hs (by rw [List.length_set,(hst k (by omega)).len];omega)).1 hq
  rw [hset k hk]at this⊢
  exact aFJ hX (hmem _ (hCm k hk)) hs this
end
end Go.Cats
end
section
namespace Go.Cats
def nums (n:Nat):List Int:=(List.range n).map fun i:Nat=>(i:Int)
theorem yF:nums 0=[]:=rfl
theorem eV (n:Nat):(nums n).length=n:=by simp [nums]
theorem aDq (n:Nat):nums (n+1)=nums n++[(n:Int)]:=by simp [nums,List.range_succ]
theorem aEf {n i:Nat} (h:i<n):(nums n).getD i 0=i:=by simp [nums,h]
def oneC:Cat:=⟨1,[0],[0],[0],[[0]]⟩
def cX (c:Cat):Fun:=⟨c,c,nums c.ob.toNat,nums c.fr.length⟩
def uM (c:Cat) (x:Int):Fun:=⟨oneC,c,[x],[c.I x]⟩
end Go.Cats
end
section
namespace Go.Cats
abbrev Tr:=Nat×Nat×Nat
def aII (acts:List (List Int)) (t:Tr):Rule:=⟨t.1,t.2.2,acts.getD t.2.1 []⟩
def aIp (acts:List (List Int)) (S:List Nat) (t:Tr):Link:=⟨t.1,t.2.2,acts.getD t.2.1 [],nums (S.getD t.2.2 0)⟩
structure TrW (S:List Nat) (acts:List (List Int)) (T:List Tr):Prop where
 fr:∀t∈T,t.1<S.length
 to:∀t∈T,t.2.2<S.length
 len:∀t∈T,(acts.getD t.2.1 []).length=S.getD t.1 0
 val:∀t∈T,∀e:Nat,e<S.getD t.1 0→0≤(acts.getD t.2.1 []).getD e 0∧(acts.getD t.2.1 []).getD e 0<S.getD t.2.2 0
 arr:∀t∈T,t.2.1<acts.length
variable {S:List Nat} {acts:List (List Int)} {T:List Tr}
theorem TrW.same (h:TrW S acts T) {Q:List Int} (hQ:Q∈qV S):aRe (T.map (aIp acts S)) Q=okW (T.map (aII acts)) Q:=by
 obtain⟨q1,q2⟩:=mem_lexP.1 hQ
 unfold aRe okW
 rw [List.all_map,List.all_map]
 refine Bool.eq_iff_iff.2 ?_
 simp only [List.all_eq_true,Function.comp]
 refine⟨fun k t ht=>?_,fun k t ht=>?_⟩
 all_goals
  have k1:=k t ht
  have f1:=h.fr t ht
  have f2:=h.to t ht
  have b1:=q2 t.1 (by omega)
  have b2:=q2 t.2.2 (by omega)
  have e1:(nums (S.getD t.2.2 0)).getD (Q.getD t.2.2 0).toNat 0=Q.getD t.2.2 0:=by rw [aEf (by omega)];omega
  have k2:=of_decide_eq_true k1
  refine decide_eq_true ?_
  simp only [aIp,aII,Int.toNat_natCast]at k2⊢
  rw [e1]at *
  exact k2.symm
theorem TrW.ext (h:TrW S acts T) (A:List Int):dE (aRe (T.map (aIp acts S))) S A=dE (okW (T.map (aII acts))) S A:=by
 unfold dE
 refine List.filter_congr fun Q hQ=>?_
 rw [h.same hQ]
end Go.Cats
end
section
namespace Go.Cats
def Rises (l:List Int):Prop:=∀i,i+1<l.length→l.getD i 0<l.getD (i+1) 0
structure IsSieve (c:Cat) (x:Int) (s:List Int):Prop where
 up:Rises s
 wi:Within s c.fr.length
 at_:∀i,i<s.length→c.F (s.getD i 0)=x
 cl:∀i,i<s.length→∀b:Nat,b<c.fr.length→c.fr.getD b 0=c.T (s.getD i 0)→c.C (s.getD i 0) b∈s
theorem Rises.ge {l:List Int} (h:Rises l) (h0:∀i,i<l.length→0≤l.getD i 0):∀i:Nat,i<l.length→(i:Int)≤l.getD i 0
 |0,hi=>h0 0 hi
 |i+1,hi=>by
  have h1:=h.ge h0 i (by omega)
  have h2:=h i hi
  omega
theorem IsSieve.len {c:Cat} {x:Int} {s:List Int} (h:IsSieve c x s):s.length≤c.fr.length:=by
 by_cases h0:s.length=0
 ·omega
 ·have h1:=h.up.ge (fun i hi=>(h.wi i hi).1) (s.length-1) (by omega)
  have h2:=h.wi (s.length-1) (by omega)
  omega
def trS (c:Cat) (s:List Int) (i b:Nat):Tr:=(i,b,(idxOf s (c.C (s.getD i 0) b)).toNat)
section
variable {c:Cat} {s:List Int} {k n i b:Nat} {x:Int} {f:SF}
theorem IsSieve.arr (hs:Shape c) (h:IsSieve c x s) (hi:i<s.length):(0≤s.getD i 0∧s.getD i 0<c.fr.length)∧(0≤c.T (s.getD i 0)∧c.T (s.getD i 0)<c.ob):=by
 have h1:=h.wi i hi
 exact⟨h1,hs.tow _ (by have:=hs.tol;omega)⟩
theorem IsSieve.next (hs:IsCat c) (h:IsSieve c x s) (hi:i<s.length) (hb:b<c.fr.length) (e:c.fr.getD b 0=(c.T (s.getD i 0)).toNat):
  ∃j:Nat,idxOf s (c.C (s.getD i 0) b)=j∧j<s.length∧s.getD j 0=c.C (s.getD i 0) b∧c.T (s.getD j 0)=c.to.getD b 0:=by
 obtain⟨⟨a1,a2⟩,a3,a4⟩:=h.arr hs.toShape hi
 have e':c.fr.getD b 0=c.T (s.getD i 0):=by omega
 have m:=h.cl i hi b hb e'
 obtain⟨m1,m2,m3⟩:=aJw m
 have k:=hs.compI (f:=s.getD i 0) (g:=(b:Int)) a1 a2 (by omega) (by omega) (by simpa using e'.symm)
 refine⟨(idxOf s (c.C (s.getD i 0) b)).toNat,by omega,by omega,m3,?_⟩
 rw [m3,k.2.2.2]
 simp
end
end Go.Cats
end
section
namespace Go.Cats
section
variable {c:Cat} {o:Nat→Nat} {J:Nat→Nat→Nat} {k i n b:Nat} {f:SF}
structure GenW (c:Cat) (O:List Int) (J:Nat→Nat→Nat):Prop where
 ob:∀i,i<O.length→0≤O.getD i 0∧O.getD i 0<c.ob
 nx:∀i b,i<O.length→b<c.fr.length→c.fr.getD b 0=O.getD i 0→J i b<O.length∧O.getD (J i b) 0=c.to.getD b 0
theorem uH:∀S:List Nat,(qV S).Nodup
 |[]=>by simp [qV]
 |s::S=>by
  have ih:=uH S
  have e:qV (s::S)=gO s fun v:Nat=>(qV S).map fun l=>(v:Int)::l:=rfl
  rw [e]
  refine lD (fun i _=>?_) fun i j x _ _ h1 h2=>?_
  ·unfold List.Nodup at ih⊢
   rw [List.pairwise_map]
   exact ih.imp fun h q=>h (by simpa using q)
  ·simp only [List.mem_map]at h1 h2
   obtain⟨a,_,rfl⟩:=h1
   obtain⟨b,_,q⟩:=h2
   simp only [List.cons.injEq]at q
   omega
end
section
variable {k:Fun} {y:Int} {n x:Nat}
structure SeatOK (k:Fun) (y:Int) (r:List Int):Prop where
 len:r.length=2
 x0:0≤r.getD 0 0
 x1:r.getD 0 0<k.src.ob
 h0:0≤r.getD 1 0
 h1:r.getD 1 0<k.tgt.fr.length
 hf:k.tgt.F (r.getD 1 0)=y
 ht:k.tgt.T (r.getD 1 0)=k.obs.getD (r.getD 0 0).toNat 0
end
end Go.Cats
end
section
namespace Go.Cats
section
variable {c d:Cat} {b:Bool} {X A Q L:List Int} {i k:Nat} {v:Int}
theorem aIU (hc:IsCat c) {x:Nat} (hx:x<c.id.length):c.cp (c.id.getD x 0).toNat (c.id.getD x 0).toNat=c.id.getD x 0:=by
 have h1:=mG hc.toShape hx
 have h2:=hc.unl (c.id.getD x 0).toNat h1.1
 simp only [Cat.C,Cat.I,Cat.F,Int.toNat_natCast]at h2
 rw [h1.2.2.1,Int.toNat_natCast]at h2
 show(c.co.getD _ []).getD _ 0=_
 rw [h2];omega
theorem rX (hc:Shape c) {j:Nat} (hj:j<c.fr.length):∀{k:Nat},k≤c.id.length→0≤(bR c d X k).getD j 0→∃x,x<k∧j=(c.id.getD x 0).toNat
 |0,_,h0=>by rw [bR,oX,if_pos hj]at h0;omega
 |k+1,hk,h0=>by
  have h1:=mG hc (x:=k) (by omega)
  rw [bR,aV (by rw [eB];exact h1.1)]at h0
  by_cases e:j=(c.id.getD k 0).toNat
  ·exact⟨k,by omega,e⟩
  ·rw [if_neg e]at h0
   obtain⟨x,h2,h3⟩:=rX hc hj (by omega) h0
   exact⟨x,by omega,h3⟩
theorem aKs (hc:IsCat c) (hd:IsCat d) (hX:XOK c d b X):∀a,a<c.fr.length→∀b,b<c.fr.length→Clo c d (fL c d X) a b:=fun p hp q hq h0 a0 b0=>by
 obtain⟨x,hx,e1⟩:=rX hc.toShape hp (Nat.le_refl _) a0
 obtain⟨y,hy,e2⟩:=rX hc.toShape hq (Nat.le_refl _) b0
 obtain⟨g1,_,_,_⟩:=jQ hc.toShape hp hq h0
 have i1:=mG hc.toShape hx
 have i2:=mG hc.toShape hy
 rw [e1,e2,i1.2.2.2,i2.2.2.1]at g1
 have e:x=y:=by omega
 subst e
 have u1:=aIU hc hx
 have s1:=sV (d:=d) (X:=X) hc.toShape (Nat.le_refl c.id.length) x hx
 have u2:=pO hc.toShape hd.toShape hX hx
 subst e1 e2
 rw [u1]
 unfold fL
 rw [s1]
 have u3:=aIU hd (x:=(X.getD x 0).toNat) u2.2.1
 exact u3.symm
theorem aNv (hc:IsCat c) (hd:IsCat d) (hX:XOK c d b X) (hb:b=true→NdI (fL c d X)):NX c d b X (fL c d X):=
 ⟨sW hc.toShape hd.toShape hX (Nat.le_refl _),aKs hc hd hX,hb,fun x hx=>sV hc.toShape (Nat.le_refl _) x hx⟩
theorem aG3 (hc:Shape c):aAb c d b X=dE (WA c d b X) (sA c d) (fL c d X):=by
 unfold aAb
 refine uC fun Q hQ hW=>⟨fun _=>rW hc (WA_iff.1 hW).1 (Nat.le_refl _),fun k=>?_⟩
 rw [contB_iff]at k⊢
 refine⟨by rw [←k.1,List.length_replicate];exact(eB _).symm,fun i hi h0=>?_⟩
 rw [List.length_replicate]at hi
 rw [oX,if_pos hi]at h0
 omega
theorem aCD:cY c d false A=cK c d (c.fr.length+1) A:=by
 unfold cY
 simp
def yY (c d:Cat) (X:List Int):Prop:=∀f,f<c.fr.length→c.fr.getD f 0<X.length→c.to.getD f 0<X.length→0<(d.hom (X.getD (c.fr.getD f 0).toNat 0) (X.getD (c.to.getD f 0).toNat 0)).length
theorem aMZ {r:Nat} (hc:Shape c) (h:¬yY c d X):dU c d false r X=[]:=by
 refine aBc fun O Q hO hW=>h fun f hf h1 h2=>?_
 have:=aDc hW hf
 have f1:=hc.frw f hf
 have f2:=hc.tow f (by rw [hc.tol];exact hf)
 rw [getD_take hO (by omega),getD_take hO (by omega)]at this
 unfold aKI at this
 rw [if_neg (by simp)]at this
 exact this
theorem aAI {α:Type} {A B C:List α} {n:Nat}:((A++B).take n++C).take n=(A++(B++C)).take n:=by
 rw [←List.append_assoc]
 by_cases h:(A++B).length≤n
 ·rw [List.take_of_length_le h]
 ·have hl:((A++B).take n).length=n:=by rw [List.length_take];omega
  rw [List.take_append_of_le_length (l₁:=(A++B).take n) (by omega),List.take_take,Nat.min_self,List.take_append_of_le_length (l₁:=A++B) (by omega)]
end
end Go.Cats
end
section
namespace Go.Cats
def aES (f g:Fun) (B:List Int) (x:Nat) (a:Nat):Prop:=(¬f.src.fr.getD a 0=x∧¬f.src.to.getD a 0=x)∨B.getD (f.src.fr.getD a 0).toNat 0<0∨B.getD (f.src.to.getD a 0).toNat 0<0∨SqP f g B a
def aER (f g:Fun) (A:List Int) (x:Nat) (b:Int):Prop:=∀a,a<f.src.fr.length→aES f g (A.set x b) x a
noncomputable def aCu (f g:Fun) (A:List Int) (x k:Nat):List Int:=((f.tgt.hom (f.obs.getD x 0) (g.obs.getD x 0)).take k).filter fun b=>dec (aER f g A x b)
noncomputable def nCh (f g:Fun) (A:List Int) (x:Nat):List Int:=(f.tgt.hom (f.obs.getD x 0) (g.obs.getD x 0)).filter fun b=>dec (aER f g A x b)
section
variable {f g:Fun} {A B Q:List Int} {x i k n:Nat} {b u:Int}
theorem aJK:aCu f g A x 0=[]:=rfl
theorem aL7:aCu f g A x (f.tgt.hom (f.obs.getD x 0) (g.obs.getD x 0)).length=nCh f g A x:=by unfold aCu nCh;rw [List.take_length]
theorem aLr {C:List Int} {p:Int→Bool} (hk:k<C.length) (h:p (C.getD k 0)=true):(C.take (k+1)).filter p=(C.take k).filter p++[C.getD k 0]:=by
 rw [List.take_add_one,List.getElem?_eq_getElem hk,Option.toList_some,List.filter_append]
 rw [List.getD_eq_getElem?_getD,List.getElem?_eq_getElem hk,Option.getD_some]at h⊢
 rw [List.filter_cons_of_pos h,List.filter_nil]
theorem aOp {C:List Int} {p:Int→Bool} (hk:k<C.length) (h:p (C.getD k 0)=false):(C.take (k+1)).filter p=(C.take k).filter p:=by
 rw [List.take_add_one,List.getElem?_eq_getElem hk,Option.toList_some,List.filter_append]
 rw [List.getD_eq_getElem?_getD,List.getElem?_eq_getElem hk,Option.getD_some]at h
 rw [List.filter_cons_of_neg (by rw [h];simp),List.filter_nil,List.append_nil]
theorem aL9 (hk:k<(f.tgt.hom (f.obs.getD x 0) (g.obs.getD x 0)).length) (h:aER f g A x ((f.tgt.hom (f.obs.getD x 0) (g.obs.getD x 0)).getD k 0)):aCu f g A x (k+1)=aCu f g A x k++[(f.tgt.hom (f.obs.getD x 0) (g.obs.getD x 0)).getD k 0]:=
 aLr hk (bH h)
theorem aON (hk:k<(f.tgt.hom (f.obs.getD x 0) (g.obs.getD x 0)).length) (h:¬aER f g A x ((f.tgt.hom (f.obs.getD x 0) (g.obs.getD x 0)).getD k 0)):aCu f g A x (k+1)=aCu f g A x k:=
 aOp hk (eD h)
theorem aL8:(aCu f g A x k).length≤k:=by
 unfold aCu
 exact Nat.le_trans (List.length_filter_le _ _) (by rw [List.length_take];omega)
theorem aOM (f g:Fun) (A:List Int) (x:Nat):(nCh f g A x).length≤f.tgt.fr.length:=by
 unfold nCh
 exact Nat.le_trans (List.length_filter_le _ _) (f.tgt.homI_len _ _ _)
theorem aN7 {n:Nat} {p:Nat→Prop} [DecidablePred p]:(gO n fun e=>if p e then [(e:Int)]else [])=((List.range n).filter fun e=>decide (p e)).map fun e:Nat=>(e:Int):=by
 induction n with
 |zero=>rfl
 |succ n ih=>
  rw [iI,ih,List.range_succ,List.filter_append,List.map_append]
  congr 1
  by_cases h:p n
  ·rw [if_pos h,List.filter_cons_of_pos (by simpa using h)];rfl
  ·rw [if_neg h,List.filter_cons_of_neg (by simpa using h)];rfl
theorem mem_nCh:u∈nCh f g A x↔u∈f.tgt.hom (f.obs.getD x 0) (g.obs.getD x 0)∧aER f g A x u:=by
 unfold nCh
 rw [List.mem_filter,dec_iff]
structure CoN (f g:Fun) (A:List Int):Prop where
 end_:∀i,i<A.length→0≤A.getD i 0→A.getD i 0∈f.tgt.hom (f.obs.getD i 0) (g.obs.getD i 0)
 sq:∀a,a<f.src.fr.length→0≤A.getD (f.src.fr.getD a 0).toNat 0→0≤A.getD (f.src.to.getD a 0).toNat 0→SqP f g A a
theorem yR {a:Nat} (h1:A.getD (f.src.fr.getD a 0).toNat 0=B.getD (f.src.fr.getD a 0).toNat 0) (h2:A.getD (f.src.to.getD a 0).toNat 0=B.getD (f.src.to.getD a 0).toNat 0) (h:SqP f g A a):SqP f g B a:=by
 unfold SqP at h⊢
 rw [←h1,←h2];exact h
theorem aL6 (hs:Shape f.src):ChW (aQ7 f g) (sN f) (nCh f g) (CoN f g):=by
 refine⟨fun A i hA hi=>?_,fun A B i u hA hx hi hu=>?_,fun Q A i hQ hW hA hag hi=>?_,fun A hA hr hC=>?_,fun A i u hA hi h1 hC hu=>?_⟩
 ·have hin:i<f.src.ob.toNat:=by rw [←kE (f:=f),←hA];exact hi
  refine⟨fun e=>decide (f.tgt.fr.getD e 0=f.obs.getD i 0∧f.tgt.to.getD e 0=g.obs.getD i 0)&&dec (aER f g A i e),?_⟩
  unfold nCh Cat.hom Cat.homI
  rw [aN7,List.filter_map,List.filter_filter,xA hin]
  congr 1
  refine List.filter_congr fun e _=>?_
  rw [Bool.and_comm];rfl
 ·obtain⟨h1,h2⟩:=mem_nCh.1 hu
  refine mem_nCh.2 ⟨h1,fun a ha=>?_⟩
  have f1:=hs.frw a ha
  have f2:=hs.tow a (by rw [hs.tol];exact ha)
  have hl:A.length=f.src.ob.toNat:=by rw [hA,kE]
  have hl2:=hx.1
  have e:∀j:Nat,j<A.length→0≤(A.set i u).getD j 0→(B.set i u).getD j 0=(A.set i u).getD j 0:=fun j hj h0=>by
   rw [aV hi]at h0⊢
   rw [aV (by omega)]
   by_cases q:j=i
   ·rw [if_pos q,if_pos q]
   ·rw [if_neg q]at h0⊢
    rw [if_neg q];exact hx.2 j hj h0
  by_cases c1:(A.set i u).getD (f.src.fr.getD a 0).toNat 0<0
  ·exact .inr (.inl c1)
  ·by_cases c2:(A.set i u).getD (f.src.to.getD a 0).toNat 0<0
   ·exact .inr (.inr (.inl c2))
   ·have e1:=e (f.src.fr.getD a 0).toNat (by omega) (by omega)
    have e2:=e (f.src.to.getD a 0).toNat (by omega) (by omega)
    rcases h2 a ha with q|q|q|q
    ·exact .inl q
    ·rw [e1]at q;exact .inr (.inl q)
    ·rw [e2]at q;exact .inr (.inr (.inl q))
    ·exact .inr (.inr (.inr (yR e1 e2 q)))
 ·obtain⟨q1,q2⟩:=mem_lexP.1 hQ
  have hN:=natW_iff.1 hW
  have hl:A.length=f.src.ob.toNat:=by rw [hA,kE]
  refine mem_nCh.2 ⟨hN.end_ i (by omega),fun a ha=>?_⟩
  have f1:=hs.frw a ha
  have f2:=hs.tow a (by rw [hs.tol];exact ha)
  have e:∀j:Nat,j<A.length→0≤(A.set i (Q.getD i 0)).getD j 0→Q.getD j 0=(A.set i (Q.getD i 0)).getD j 0:=fun j hj h0=>by
   rw [aV hi]at h0⊢
   by_cases q:j=i
   ·rw [if_pos q,q]
   ·rw [if_neg q]at h0⊢;exact hag j hj q h0
  by_cases c1:(A.set i (Q.getD i 0)).getD (f.src.fr.getD a 0).toNat 0<0
  ·exact .inr (.inl c1)
  ·by_cases c2:(A.set i (Q.getD i 0)).getD (f.src.to.getD a 0).toNat 0<0
   ·exact .inr (.inr (.inl c2))
   ·exact .inr (.inr (.inr (yR (e _ (by omega) (by omega)) (e _ (by omega) (by omega)) (hN.sq a ha))))
 ·have hl:A.length=f.src.ob.toNat:=by rw [hA,kE]
  refine natW_iff.2 ⟨fun x hx=>hC.end_ x hx (hr x hx).1,fun a ha=>?_⟩
  have f1:=hs.frw a ha
  have f2:=hs.tow a (by rw [hs.tol];exact ha)
  exact hC.sq a ha (hr _ (by omega)).1 (hr _ (by omega)).1
 ·obtain⟨h2,h3⟩:=mem_nCh.1 hu
  have hl:A.length=f.src.ob.toNat:=by rw [hA,kE]
  refine⟨fun j hj h0=>?_,fun a ha a0 b0=>?_⟩
  ·rw [List.length_set]at hj
   rw [aV hi]at h0⊢
   by_cases q:j=i
   ·rw [if_pos q,q];exact h2
   ·rw [if_neg q]at h0⊢;exact hC.end_ j hj h0
  ·have f1:=hs.frw a ha
   have f2:=hs.tow a (by rw [hs.tol];exact ha)
   rcases h3 a ha with q|q|q|q
   ·have n1:¬(f.src.fr.getD a 0).toNat=i:=fun e=>q.1 (by omega)
    have n2:¬(f.src.to.getD a 0).toNat=i:=fun e=>q.2 (by omega)
    rw [aV hi,if_neg n1]at a0
    rw [aV hi,if_neg n2]at b0
    exact yR (by rw [aV hi,if_neg n1]) (by rw [aV hi,if_neg n2]) (hC.sq a ha a0 b0)
   ·omega
   ·omega
   ·exact q
end
end Go.Cats
end
section
namespace Go.Cats
abbrev Ps:=List Int×List Int
open Classical in
noncomputable def rL (f:Ps→Ps) (c d:Cat) (b:Bool) (x:Nat):Nat→Ps→Ps
 |0,s=>s
 |y+1,s=>if b=true∧(y:Int)∈(rL f c d b x y s).1.take x then rL f c d b x y s
   else if oD c d b ((rL f c d b x y s).1.set x (y:Int)) x then f ((rL f c d b x y s).1.set x (y:Int),(rL f c d b x y s).2)else((rL f c d b x y s).1.set x (y:Int),(rL f c d b x y s).2)
noncomputable def rG (c d:Cat) (b:Bool):Nat→Ps→Ps
 |0,s=>(s.1,(cY c d b (fL c d s.1)).2)
 |r+1,s=>rL (rG c d b r) c d b (s.1.length-(r+1)) d.ob.toNat s
section
variable {f:Ps→Ps} {c d:Cat} {b:Bool} {x y r:Nat} {s:Ps} {P A:List Int}
theorem aID (h:b=true∧(y:Int)∈(rL f c d b x y s).1.take x):rL f c d b x (y+1) s=rL f c d b x y s:=by rw [rL,if_pos h]
theorem aQc (h:¬(b=true∧(y:Int)∈(rL f c d b x y s).1.take x)) (k:¬oD c d b ((rL f c d b x y s).1.set x (y:Int)) x):rL f c d b x (y+1) s=((rL f c d b x y s).1.set x (y:Int),(rL f c d b x y s).2):=by rw [rL,if_neg h,if_neg k]
theorem aMP (h:¬(b=true∧(y:Int)∈(rL f c d b x y s).1.take x)) (k:oD c d b ((rL f c d b x y s).1.set x (y:Int)) x):rL f c d b x (y+1) s=f ((rL f c d b x y s).1.set x (y:Int),(rL f c d b x y s).2):=by rw [rL,if_neg h,if_pos k]
def aPG (n m x:Nat) (f:Ps→Ps):Prop:=∀s:Ps,s.1.length=n→s.2.length=m→(f s).1.length=n∧(f s).2.length=m∧(f s).1.take x=s.1.take x
theorem nB {l:List Int} {x:Nat} {v:Int}:(l.set x v).take x=l.take x:=by
 rw [List.take_set]
 exact List.set_eq_of_length_le (by rw [List.length_take];omega)
theorem aBv {n m:Nat} (hf:aPG n m (x+1) f) (h1:s.1.length=n) (h2:s.2.length=m):∀y,(rL f c d b x y s).1.length=n∧(rL f c d b x y s).2.length=m∧(rL f c d b x y s).1.take x=s.1.take x
 |0=>⟨h1,h2,rfl⟩
 |y+1=>by
  obtain⟨e1,e2,e3⟩:=aBv hf h1 h2 y
  by_cases h:b=true∧(y:Int)∈(rL f c d b x y s).1.take x
  ·rw [aID h];exact⟨e1,e2,e3⟩
  ·by_cases k:oD c d b ((rL f c d b x y s).1.set x (y:Int)) x
   ·rw [aMP h k]
    obtain⟨g1,g2,g3⟩:=hf ((rL f c d b x y s).1.set x (y:Int),(rL f c d b x y s).2) (by simpa using e1) e2
    refine⟨g1,g2,?_⟩
    have g4:=congrArg (List.take x) g3
    rw [List.take_take,List.take_take,Nat.min_eq_left (by omega)]at g4
    rw [g4,nB,e3]
   ·rw [aQc h k]
    exact⟨by simpa using e1,e2,by rw [nB,e3]⟩
theorem aNs {a q:Nat} {s:Fs}:(stF c d a q s).2.2.length=s.2.2.length:=by
 unfold stF
 split
 ·rfl
 ·split
  ·simp
  ·rfl
theorem yH {a:Nat} {s:Fs}:∀{q:Nat},(cL c d a q s).2.2.length=s.2.2.length
 |0=>rfl
 |q+1=>by
  rw [cL]
  split
  ·rw [aNs,yH]
  ·exact yH
theorem lJ {m:Nat} {s:Fs}:∀{a:Nat},(bM c d m a s).2.2.length=s.2.2.length
 |0=>rfl
 |q+1=>by
  rw [bM]
  split
  ·rw [yH,lJ]
  ·exact lJ
theorem zQ:∀{k:Nat} {A:List Int},(cK c d k A).2.length=A.length
 |0,A=>rfl
 |k+1,A=>by
  rw [cK]
  split
  ·split
   ·rw [zQ,lJ]
   ·exact lJ
  ·exact lJ
theorem aFR:∀{r n:Nat},r≤n→aPG n c.fr.length (n-r) (rG c d b r)
 |0,n,_=>fun s h1 h2=>by
  refine⟨h1,?_,rfl⟩
  show(cY c d b (fL c d s.1)).2.length=_
  unfold cY
  rw [zQ]
  exact eB _
 |r+1,n,hr=>fun s h1 h2=>by
  have ih:= @aFR r n (by omega)
  have hx:s.1.length-(r+1)+1=n-r:=by omega
  have:=aBv (c:=c) (d:=d) (b:=b) (f:=rG c d b r) (x:=s.1.length-(r+1)) (n:=n) (m:=c.fr.length) (s:=s) (by rw [hx];exact ih) h1 h2 d.ob.toNat
  rw [rG]
  rw [show n-(r+1)=s.1.length-(r+1) by omega]
  exact this
theorem aCL {l:List Int} {x:Nat} {v:Int} (hx:x<l.length):(l.set x v).take (x+1)=l.take x++[v]:=by
 rw [List.take_add_one,nB,List.getElem?_set,if_pos rfl,if_pos hx];rfl
theorem aFM (hc:Shape c) (hx:x<P.length):oD c d b (P.take (x+1)) x↔oD c d b P x:=by
 have e:∀i:Nat,i≤x→(P.take (x+1)).getD i 0=P.getD i 0:=fun i hi=>by
  rw [List.getD_eq_getElem?_getD,List.getElem?_take,if_pos (by omega),List.getD_eq_getElem?_getD]
 constructor
 ·intro h f hf h1 h2 h3
  have f1:=hc.frw f hf
  have f2:=hc.tow f (by rw [hc.tol];exact hf)
  have:=h f hf h1 h2 h3
  rwa [e _ (by omega),e _ (by omega)]at this
 ·intro h f hf h1 h2 h3
  have f1:=hc.frw f hf
  have f2:=hc.tow f (by rw [hc.tol];exact hf)
  have:=h f hf h1 h2 h3
  rwa [e _ (by omega),e _ (by omega)]
theorem zX {l:List Int} {n:Int} {y:Nat} (h:Within l n) (hy:(y:Int)<n):Within (l++[(y:Int)]) n:=fun i hi=>by
 rw [List.length_append,List.length_singleton]at hi
 by_cases q:i<l.length
 ·rw [List.getD_eq_getElem?_getD,List.getElem?_append_left q,←List.getD_eq_getElem?_getD];exact h i q
 ·rw [List.getD_eq_getElem?_getD,List.getElem?_append_right (by omega),show i-l.length=0 by omega]
  simp only [List.getElem?_cons_zero,Option.getD_some];omega
theorem aMa {l:List Int} {v:Int} (h:NdI l) (hv:v∉l):NdI (l++[v]):=fun i j hij hj h0=>by
 rw [List.length_append,List.length_singleton]at hj
 have ej:∀k,k<l.length→(l++[v]).getD k 0=l.getD k 0:=fun k hk=>by rw [List.getD_eq_getElem?_getD,List.getElem?_append_left hk,←List.getD_eq_getElem?_getD]
 rw [ej i (by omega)]at h0⊢
 by_cases q:j<l.length
 ·rw [ej j q]
  exact h i j hij q h0
 ·have e:(l++[v]).getD j 0=v:=by
   rw [List.getD_eq_getElem?_getD,List.getElem?_append_right (by omega),show j-l.length=0 by omega];rfl
  rw [e]
  exact fun e=>hv (by rw [←e];exact bI (by omega))
theorem aFi {β:Type} {M:Nat} {z:β}:∀{D o:List β},(eat (stL M) o D).1=false→∃q∈D,(eat (stL M) o D).2.getLastD z=q
 |[],o,h=>by cases h
 |q::D,o,h=>by
  cases hq:(stL M o q).1 with
  |true=>
   rw [vT hq]at h⊢
   obtain⟨p,h1,h2⟩:=aFi (D:=D) h
   exact⟨p,List.mem_cons_of_mem _ h1,h2⟩
  |false=>
   rw [aCU hq]
   exact⟨q,List.mem_cons_self ..,by show(o++[q]).getLastD z=q;rw [List.getLastD_concat]⟩
theorem aTC {l:List Int} {i:Nat} {v:Int} (hi:i<l.length):(List.replicate i v++l.drop i).set i v=List.replicate (i+1) v++l.drop (i+1):=by
 rw [List.set_append_right _ _ (by simp),List.length_replicate,Nat.sub_self,List.drop_eq_getElem_cons hi,List.set_cons_zero,List.replicate_succ',List.append_assoc]
 rfl
end
end Go.Cats
end
section
namespace Go.Cats
def wM:List Int→List Int→Bool
 |[],[]=>false
 |[],_::_=>true
 |_::_,[]=>false
 |a::A,b::B=>if a=b then wM A B else decide (a<b)
section
variable {S R L:List (List Int)} {x:List Int} {k:Nat}
end
end Go.Cats
end
section
namespace Go.Cats
structure IsoQ (c d:Cat) (O Q:List Int):Prop where
 hc:IsCat c
 hd:IsCat d
 fit:Fits ⟨c,d,O,Q⟩
 no:NdI O
 nq:NdI Q
 ob:c.ob=d.ob
 ar:c.fr.length=d.fr.length
section
variable {c d:Cat} {O Q A B cc dd:List Int} {f g:Nat}
theorem NdI.inj (h:NdI A) (h0:∀i,i<A.length→0≤A.getD i 0) {i j:Nat} (hi:i<A.length) (hj:j<A.length) (e:A.getD i 0=A.getD j 0):i=j:=by
 rcases Nat.lt_trichotomy i j with q|q|q
 ·exact absurd e (h i j q hj (h0 i hi))
 ·exact q
 ·exact absurd e.symm (h j i q hi (h0 j hj))
theorem IsoQ.len (h:IsoQ c d O Q):Q.length=c.fr.length:=h.fit.arl
theorem IsoQ.rng (h:IsoQ c d O Q) (hf:f<c.fr.length):0≤Q.getD f 0∧Q.getD f 0<d.fr.length:=h.fit.arw f (by show f<Q.length;rw [h.len];exact hf)
theorem IsoQ.nat (h:IsoQ c d O Q) (hf:f<c.fr.length):(Q.getD f 0).toNat<d.fr.length:=by have:=h.rng hf;omega
theorem IsoQ.inj (h:IsoQ c d O Q) (hf:f<c.fr.length) (hg:g<c.fr.length) (e:Q.getD f 0=Q.getD g 0):f=g:=
 h.nq.inj (fun i hi=>(h.rng (by rw [←h.len];exact hi)).1) (by rw [h.len];exact hf) (by rw [h.len];exact hg) e
theorem IsoQ.perm (h:IsoQ c d O Q):((List.range c.fr.length).map fun f=>(Q.getD f 0).toNat).Perm (List.range d.fr.length):=by
 have hn:((List.range c.fr.length).map fun f=>(Q.getD f 0).toNat).Nodup:=by
  unfold List.Nodup
  rw [List.pairwise_map]
  refine List.Pairwise.imp_of_mem ?_ (List.pairwise_lt_range (n:=c.fr.length))
  intro a b ha hb hab e
  have ha:=List.mem_range.1 ha
  have hb:=List.mem_range.1 hb
  have h1:=h.rng ha
  have h2:=h.rng hb
  have:=h.inj ha hb (by omega)
  omega
 have hs:∀x∈(List.range c.fr.length).map fun f=>(Q.getD f 0).toNat,x∈List.range d.fr.length:=fun x hx=>by
  obtain⟨f,hf,rfl⟩:=List.mem_map.1 hx
  exact List.mem_range.2 (h.nat (List.mem_range.1 hf))
 rw [List.perm_ext_iff_of_nodup hn List.nodup_range]
 intro x
 refine⟨hs x,fun hx=>Classical.byContradiction fun hno=>?_⟩
 have hsub:∀y∈(List.range c.fr.length).map fun f=>(Q.getD f 0).toNat,y∈(List.range d.fr.length).erase x:=fun y hy=>by
  have hne:y≠x:=fun e=>hno (e▸hy)
  exact(List.mem_erase_of_ne hne).2 (hs y hy)
 have h1:=List.Nodup.length_le_of_subset hn hsub
 rw [List.length_map,List.length_range,List.length_erase_of_mem hx,List.length_range]at h1
 have h2:=List.mem_range.1 hx
 have h3:=h.ar
 omega
theorem IsoQ.surj (h:IsoQ c d O Q) {g:Nat} (hg:g<d.fr.length):∃f,f<c.fr.length∧Q.getD f 0=g:=by
 have:=(h.perm.mem_iff (a:=g)).2 (List.mem_range.2 hg)
 obtain⟨f,hf,e⟩:=List.mem_map.1 this
 have hf:=List.mem_range.1 hf
 exact⟨f,hf,by have:=h.rng hf;omega⟩
theorem IsoQ.fr (h:IsoQ c d O Q) (hf:f<c.fr.length):d.fr.getD (Q.getD f 0).toNat 0=O.getD (c.fr.getD f 0).toNat 0∧d.to.getD (Q.getD f 0).toNat 0=O.getD (c.to.getD f 0).toNat 0:=by
 have:=h.fit.endf f (by show f<Q.length;rw [h.len];exact hf)
 simpa only [Cat.F,Cat.T,Fun.O,Int.toNat_natCast]using this
theorem IsoQ.oinj (h:IsoQ c d O Q) {p q:Int} (hp:0≤p∧p<c.ob) (hq:0≤q∧q<c.ob) (e:O.getD p.toNat 0=O.getD q.toNat 0):p=q:=by
 have hl:(O.length:Int)=c.ob:=h.fit.obl
 have:=h.no.inj (fun i hi=>(h.fit.obw i hi).1) (by omega:p.toNat<O.length) (by omega:q.toNat<O.length) e
 omega
theorem IsoQ.cp (h:IsoQ c d O Q) (hf:f<c.fr.length) (hg:g<c.fr.length):(0≤c.cp f g↔0≤d.cp (Q.getD f 0).toNat (Q.getD g 0).toNat)∧(0≤c.cp f g→(c.cp f g).toNat<c.fr.length∧d.cp (Q.getD f 0).toNat (Q.getD g 0).toNat=Q.getD (c.cp f g).toNat 0):=by
 have key:0≤c.cp f g→(c.cp f g).toNat<c.fr.length∧d.cp (Q.getD f 0).toNat (Q.getD g 0).toNat=Q.getD (c.cp f g).toNat 0:=fun h0=>by
  have:=h.fit.cmp f g hf hg h0
  exact⟨(jQ h.hc.toShape hf hg h0).2.1,this.symm⟩
 refine⟨⟨fun h0=>?_,fun h0=>?_⟩,key⟩
 ·obtain⟨k1,k2⟩:=key h0
  rw [k2];exact(h.rng k1).1
 ·have e:=(jQ h.hd.toShape (h.nat hf) (h.nat hg) h0).1
  rw [(h.fr hf).2,(h.fr hg).1]at e
  have:=h.oinj (by have:=h.hc.tow f (by rw [h.hc.tol];exact hf);exact this) (h.hc.frw g hg) e
  exact h.hc.toShape.comp_nn hf hg this
theorem IsoQ.hom (h:IsoQ c d O Q) {p q:Int} (hp:0≤p∧p<c.ob) (hq:0≤q∧q<c.ob):(c.hom p q).length=(d.hom (O.getD p.toNat 0) (O.getD q.toNat 0)).length:=by
 have hmap:∀f∈c.hom p q,Q.getD f.toNat 0∈d.hom (O.getD p.toNat 0) (O.getD q.toNat 0):=fun f hf=>by
  obtain⟨h1,h2,h3,h4⟩:=Cat.mem_hom.1 hf
  have hf':f.toNat<c.fr.length:=by omega
  have e:=h.fr hf'
  have r:=h.rng hf'
  have h3:c.fr.getD f.toNat 0=p:=h3
  have h4:c.to.getD f.toNat 0=q:=h4
  rw [h3,h4]at e
  exact Cat.mem_hom.2 ⟨r.1,r.2,e.1,e.2⟩
 refine Nat.le_antisymm ?_ ?_
 ·have e:((c.hom p q).map fun g=>Q.getD g.toNat 0).length=(c.hom p q).length:=List.length_map ..
  rw [←e]
  refine sM ?_ fun x hx=>?_
  ·unfold List.Nodup
   rw [List.pairwise_map]
   refine List.Pairwise.imp_of_mem ?_ (Cat.hom_nodup c p q)
   intro g g' hg hg' hne e
   obtain⟨g1,g2,g3,g4⟩:=Cat.mem_hom.1 hg
   obtain⟨k1,k2,k3,k4⟩:=Cat.mem_hom.1 hg'
   have:=h.inj (by omega) (by omega) e
   exact hne (by omega)
  ·obtain⟨g,hg,rfl⟩:=List.mem_map.1 hx
   exact hmap g hg
 ·have e:((c.hom p q).map fun g=>Q.getD g.toNat 0).length=(c.hom p q).length:=List.length_map ..
  rw [←e]
  refine sM (Cat.hom_nodup _ _ _) fun x hx=>?_
  obtain⟨h1,h2,h3,h4⟩:=Cat.mem_hom.1 hx
  obtain⟨f,hf,e⟩:=h.surj (g:=x.toNat) (by omega)
  have k:=h.fr hf
  rw [e,Int.toNat_natCast]at k
  have h3:d.fr.getD x.toNat 0=O.getD p.toNat 0:=h3
  have h4:d.to.getD x.toNat 0=O.getD q.toNat 0:=h4
  rw [h3,h4]at k
  have e1:=h.oinj hp (h.hc.frw f hf) k.1
  have e2:=h.oinj hq (by have:=h.hc.tow f (by rw [h.hc.tol];exact hf);exact this) k.2
  refine List.mem_map.2 ⟨(f:Int),Cat.mem_hom.2 ⟨by omega,by omega,?_,?_⟩,?_⟩
  ·show c.fr.getD (f:Int).toNat 0=p;rw [Int.toNat_natCast];exact e1.symm
  ·show c.to.getD (f:Int).toNat 0=q;rw [Int.toNat_natCast];exact e2.symm
  ·rw [Int.toNat_natCast,e];omega
def mT (c:Cat):List Int:=(List.range c.fr.length).map fun f=>if c.id.getD (c.fr.getD f 0).toNat 0=f then 1 else 0
theorem aG0 {L:List (List Int)} (h:L.Nodup) {i:Nat} (hi:i<L.length):fnd L (L.getD i [])=i:=by
 obtain⟨j,h1,h2,h3⟩:=vW (bI (d:=[]) hi)
 rw [h3]
 have:j=i:=by
  rw [List.getD_eq_getElem?_getD,List.getD_eq_getElem?_getD,List.getElem?_eq_getElem h1,List.getElem?_eq_getElem hi,Option.getD_some,Option.getD_some]at h2
  unfold List.Nodup at h
  rw [List.pairwise_iff_getElem]at h
  rcases Nat.lt_trichotomy j i with q|q|q
  ·exact absurd h2 (h j i h1 hi q)
  ·exact q
  ·exact absurd h2.symm (h i j hi h1 q)
 omega
end
end Go.Cats
end
section
namespace Go.Cats
def aYN (c d:Cat) (A:List Int) (f:Nat):Prop:=
 (∀g,g<c.fr.length→0≤A.getD g 0→(0≤c.cp f g→0≤A.getD (c.cp f g).toNat 0→d.C (A.getD f 0) (A.getD g 0)=A.getD (c.cp f g).toNat 0)∧(0≤c.cp g f→0≤A.getD (c.cp g f).toNat 0→d.C (A.getD g 0) (A.getD f 0)=A.getD (c.cp g f).toNat 0))∧
 ∀g,g<c.fr.length→∀h,h<c.fr.length→0≤A.getD g 0→0≤A.getD h 0→c.cp g h=f→d.C (A.getD g 0) (A.getD h 0)=A.getD f 0
structure NY (c d:Cat) (X A:List Int):Prop where
 va:VA c d X A
 clw:∀a,a<c.fr.length→∀b,b<c.fr.length→0≤c.cp a b→0≤A.getD a 0→0≤A.getD b 0→0≤A.getD (c.cp a b).toNat 0→A.getD (c.cp a b).toNat 0=d.C (A.getD a 0) (A.getD b 0)
 nd:NdI A
 un:∀x:Nat,x<c.id.length→A.getD (c.id.getD x 0).toNat 0=d.id.getD (X.getD x 0).toNat 0
section
variable {c d:Cat} {X P A Q O:List Int} {i:Nat} {v:Int}
theorem NY.nx (hc:Shape c) (h:NY c d X A) (hf:∀j,j<A.length→0≤A.getD j 0):NX c d true X A:=
 ⟨h.va,fun a ha b hb h0 a0 b0=>h.clw a ha b hb h0 a0 b0 (hf _ (by rw [h.va.len];exact(jQ hc ha hb h0).2.1)),fun _=>h.nd,h.un⟩
theorem NY.leaf (hc:Shape c) (hX:XOK c d true X) (h:NY c d X A) (hf:∀j,j<A.length→0≤A.getD j 0):dE (WA c d true X) (sA c d) A=[A]:=(h.nx hc hf).leaf hX hf
theorem NY.set (hc:Shape c) (hd:Shape d) (hX:XOK c d true X) (h:NY c d X A) (hi:i<A.length) (h1:A.getD i 0= -1) (hv:v∈d.hom (X.getD (c.fr.getD i 0).toNat 0) (X.getD (c.to.getD i 0).toNat 0)) (hn:v∉A) (hf:aYN c d (A.set i v) i):
  NY c d X (A.set i v)∧uns (A.set i v)<uns A:=by
 have hl:=h.va.len
 have v0:=(Cat.mem_hom.1 hv).1
 have hg:∀j,(A.set i v).getD j 0=if j=i then v else A.getD j 0:=fun j=>aV hi
 refine⟨⟨aAy h.va hi hv,fun a ha b hb c0 a0 b0 k0=>?_,fun p q hpq hq p0=>?_,fun x hx=>?_⟩,?_⟩
 ·by_cases ea:a=i
  ·subst ea;exact((hf.1 b hb b0).1 c0 k0).symm
  ·by_cases eb:b=i
   ·subst eb;exact((hf.1 a ha a0).2 c0 k0).symm
   ·by_cases ec:(c.cp a b).toNat=i
    ·rw [ec];exact(hf.2 a ha b hb a0 b0 (by omega)).symm
    ·have ga:(A.set i v).getD a 0=A.getD a 0:=by rw [hg,if_neg ea]
     have gb:(A.set i v).getD b 0=A.getD b 0:=by rw [hg,if_neg eb]
     have gc:(A.set i v).getD (c.cp a b).toNat 0=A.getD (c.cp a b).toNat 0:=by rw [hg,if_neg ec]
     rw [ga]at a0⊢
     rw [gb]at b0⊢
     rw [gc]at k0⊢
     exact h.clw a ha b hb c0 a0 b0 k0
 ·rw [List.length_set]at hq
  rw [hg]at p0
  rw [hg,hg]
  by_cases ep:p=i
  ·rw [if_pos ep,if_neg (by omega)]
   exact fun e=>hn (by rw [e];exact bI hq)
  ·rw [if_neg ep]at p0⊢
   by_cases eq:q=i
   ·rw [if_pos eq];exact fun e=>hn (by rw [←e];exact bI (by omega))
   ·rw [if_neg eq];exact h.nd p q hpq hq p0
 ·have k1:=h.un x hx
  have k2:=pO hc hd hX hx
  rw [hg,if_neg,k1]
  intro e
  rw [e,h1]at k1
  omega
 ·exact(XtL.set (e:=v) hi (by omega)).uns_lt hi (by omega) (by rw [hg,if_pos rfl];exact v0)
end
end Go.Cats
end
section
namespace Go.Cats
structure UF (J:List Int):Prop where
 lo:∀x,x<J.length→0≤J.getD x 0
 hi:∀x,x<J.length→J.getD x 0≤x
section
variable {J:List Int} {x y k:Nat}
theorem UF.par (h:UF J) (hx:x<J.length):(J.getD x 0).toNat≤x:=by have:=h.lo x hx;have:=h.hi x hx;omega
theorem aFr {l:List Int} {i j:Nat} {v:Int} (hi:i<l.length):(l.set i v).getD j 0=if j=i then v else l.getD j 0:=by
 rw [List.getD_eq_getElem?_getD,List.getD_eq_getElem?_getD]
 by_cases e:j=i
 ·subst e;rw [if_pos rfl,List.getElem?_set_self hi];rfl
 ·rw [if_neg e,List.getElem?_set_ne (fun q=>e q.symm)]
theorem UF.set (h:UF J) (hx:x<J.length) {v:Int} (h0:0≤v) (h1:v≤x):UF (J.set x v):=by
 refine⟨fun y hy=>?_,fun y hy=>?_⟩<;>rw [List.length_set]at hy<;>rw [aFr hx]<;>split
 ·exact h0
 ·exact h.lo y hy
 ·rename_i e;rw [e];exact h1
 ·exact h.hi y hy
def hvF:Nat→List Int→Nat→List Int
 |0,J,_=>J
 |k+1,J,x=>if(J.getD x 0).toNat=x then J else hvF k (J.set x (J.getD (J.getD x 0).toNat 0)) (J.getD (J.getD x 0).toNat 0).toNat
def hv (J:List Int) (x:Nat):List Int:=hvF x J x
end
end Go.Cats
end
section
namespace Go.Eng
open Go Go.Cats
theorem aFp {c d:Cat} {b:Bool} {O Q:List Int} (hw:WA c d b O Q=true) (hO:Within O d.ob) (hQ:Q.length=c.fr.length) (hQw:Within Q d.fr.length):∀(r:Nat) (X:List Int),O.take X.length=X→O.length=X.length+r→(⟨c,d,O,Q⟩:Fun)∈dU c d b r X
 |0,X,h1,h2=>by
  have e:X=O:=by rw [←h1,List.take_of_length_le (by omega)]
  subst e
  refine List.mem_map.2 ⟨Q,mem_extW.2 ⟨mem_lexP.2 ⟨?_,fun i hi=>?_⟩,contB_iff.2 ⟨?_,fun j hj h0=>?_⟩,hw⟩,rfl⟩
  ·show Q.length=(List.replicate _ _).length
   rw [List.length_replicate];exact hQ
  ·have:=hQw i hi
   rw [aEq (by omega)]
   exact this
  ·simp [hQ]
  ·rw [List.length_replicate]at hj
   rw [oX,if_pos hj]at h0
   omega
 |r+1,X,h1,h2=>by
  have hx:=hO X.length (by omega)
  show _∈(List.range d.ob.toNat).flatMap fun v:Nat=>dU c d b r (X++[(v:Int)])
  refine List.mem_flatMap.2 ⟨(O.getD X.length 0).toNat,List.mem_range.2 (by omega),aFp hw hO hQ hQw r _ ?_ ?_⟩
  ·rw [List.length_append,List.length_singleton,List.take_succ_eq_append_getElem (by omega),h1,Int.toNat_of_nonneg hx.1,List.getD_eq_getElem?_getD,List.getElem?_eq_getElem (by omega)];rfl
  ·rw [List.length_append,List.length_singleton];omega
theorem aBd {c d:Cat} {b:Bool}:∀(r:Nat) (X:List Int),(dU c d b r X).Nodup
 |0,X=>by
  show((aAb c d b X).map fun Q=>(⟨c,d,X,Q⟩:Fun)).Nodup
  refine List.Pairwise.map _ (fun a b h e=>?_) (List.Pairwise.filter _ (uH _))
  exact h (congrArg Fun.ars e)
 |r+1,X=>by
  show(gO d.ob.toNat fun v:Nat=>dU c d b r (X++[(v:Int)])).Nodup
  refine lD (fun i _=>aBd r _) fun i j x _ _ h h'=>?_
  obtain⟨_,_,h1,_⟩:=qW h
  obtain⟨_,_,h2,_⟩:=qW h'
  rw [List.length_append,List.length_singleton]at h1 h2
  rw [h1]at h2
  have:=List.append_cancel_left h2
  have:(i:Int)=(j:Int):=by simpa using this
  omega
theorem aMb {α:Type} {l:List α} (h:l.Nodup) {x:α} {i j:Nat} (hi:i<l.length) (hj:j<l.length) (e:l.getD i x=l.getD j x):i=j:=by
 rw [List.getD_eq_getElem?_getD,List.getElem?_eq_getElem hi,List.getD_eq_getElem?_getD,List.getElem?_eq_getElem hj]at e
 unfold List.Nodup at h
 rw [List.pairwise_iff_getElem]at h
 have e:l[i]=l[j]:=e
 rcases Nat.lt_trichotomy i j with q|q|q
 ·exact absurd e (h i j hi hj q)
 ·exact q
 ·exact absurd e.symm (h j i hj hi q)
end Go.Eng
namespace Go.Cats
open Go.Eng
structure Bij (n:Nat) (l:List Int):Prop where
 len:l.length=n
 win:Within l n
 inj:NdI l
section
variable {n:Nat} {l:List Int}
theorem Bij.eq (h:Bij n l) {i j:Nat} (hi:i<n) (hj:j<n) (e:l.getD i 0=l.getD j 0):i=j:=
 h.inj.inj (fun k hk=>(h.win k hk).1) (by rw [h.len];exact hi) (by rw [h.len];exact hj) e
theorem Bij.at (h:Bij n l) {i:Nat} (hi:i<n):0≤l.getD i 0∧l.getD i 0<n:=h.win i (by rw [h.len];exact hi)
theorem Bij.surj (h:Bij n l) {y:Nat} (hy:y<n):∃x,x<n∧l.getD x 0=y:=by
 have hn:((List.range n).map fun i=>(l.getD i 0).toNat).Nodup:=by
  unfold List.Nodup
  rw [List.pairwise_map]
  refine List.Pairwise.imp_of_mem ?_ (List.pairwise_lt_range (n:=n))
  intro a b ha hb hab e
  have ha:=List.mem_range.1 ha
  have hb:=List.mem_range.1 hb
  have h1:=h.at ha
  have h2:=h.at hb
  have:=h.eq ha hb (by omega)
  omega
 refine Classical.byContradiction fun hno=>?_
 have hsub:∀z∈(List.range n).map fun i=>(l.getD i 0).toNat,z∈(List.range n).erase y:=fun z hz=>by
  obtain⟨i,hi,rfl⟩:=List.mem_map.1 hz
  have hi:=List.mem_range.1 hi
  have h1:=h.at hi
  refine(List.mem_erase_of_ne fun e=>hno ⟨i,hi,by omega⟩).2 (List.mem_range.2 (by omega))
 have h1:=List.Nodup.length_le_of_subset hn hsub
 rw [List.length_map,List.length_range,List.length_erase_of_mem (List.mem_range.2 hy),List.length_range]at h1
 omega
def bwL (l:List Int):Nat→List Int
 |0=>List.replicate l.length 0
 |i+1=>(bwL l i).set (l.getD i 0).toNat i
theorem aKY:bwL l 0=List.replicate l.length 0:=rfl
theorem aEW {i:Nat}:bwL l (i+1)=(bwL l i).set (l.getD i 0).toNat i:=rfl
theorem mC:∀i,(bwL l i).length=l.length
 |0=>by rw [aKY,List.length_replicate]
 |i+1=>by rw [aEW,List.length_set,mC i]
theorem aKX (h:Bij n l):∀{i:Nat},i≤n→∀j,j<i→(bwL l i).getD (l.getD j 0).toNat 0=j
 |0,_,j,hj=>absurd hj (Nat.not_lt_zero j)
 |i+1,hi,j,hj=>by
  have h1:=h.at (show i<n by omega)
  have h2:=h.at (show j<n by omega)
  have hl:=h.len
  rw [aEW,aFr (by rw [mC];omega)]
  by_cases e:(l.getD j 0).toNat=(l.getD i 0).toNat
  ·rw [if_pos e]
   have:=h.eq (show j<n by omega) (show i<n by omega) (by omega)
   rw [this]
  ·rw [if_neg e]
   refine aKX h (by omega) j ?_
   rcases Nat.lt_or_ge j i with q|q
   ·exact q
   ·exact absurd (by rw [show j=i by omega]) e
theorem vE (h:Bij n l) {x:Nat} (hx:x<n):(bwL l n).getD (l.getD x 0).toNat 0=x:=aKX h (Nat.le_refl n) x hx
theorem kW (h:Bij n l) {y:Nat} (hy:y<n):0≤(bwL l n).getD y 0∧(bwL l n).getD y 0<n∧l.getD ((bwL l n).getD y 0).toNat 0=y:=by
 obtain⟨x,hx,e⟩:=h.surj hy
 have:=vE h hx
 rw [e,Int.toNat_natCast]at this
 rw [this]
 exact⟨by omega,by omega,by rw [Int.toNat_natCast];exact e⟩
theorem aKZ (h:Bij n l):Bij n (bwL l n):=by
 have hl:=h.len
 have hb:=mC (l:=l) n
 refine⟨by omega,fun i hi=>?_,fun i j hij hj h0 e=>?_⟩
 ·have:=kW h (show i<n by omega);exact⟨this.1,this.2.1⟩
 ·have h1:=kW h (show i<n by omega)
  have h2:=kW h (show j<n by omega)
  rw [e,h2.2.2]at h1
  have:=h1.2.2
  omega
end
section
variable {c d:Cat} {O Q:List Int} {f:Fun}
theorem IsoQ.bo (h:IsoQ c d O Q):Bij c.ob.toNat O:=by
 have h1:(O.length:Int)=c.ob:=h.fit.obl
 have h2:Within O d.ob:=h.fit.obw
 have h3:=h.hc.toShape.ob0
 have h4:=h.ob
 refine⟨by omega,fun i hi=>?_,h.no⟩
 have:=h2 i hi
 omega
theorem IsoQ.bq (h:IsoQ c d O Q):Bij c.fr.length Q:=⟨h.len,fun i hi=>by have:=h.rng (f:=i) (by rw [←h.len];exact hi);have:=h.ar;omega,h.nq⟩
theorem IsoQ.back (h:IsoQ c d O Q):IsoQ d c (bwL O O.length) (bwL Q Q.length):=by
 have bo:=h.bo
 have bq:=h.bq
 have b1:=aKZ bo
 have b2:=aKZ bq
 have ho:=h.ob
 have ha:=h.ar
 have o0:=h.hc.toShape.ob0
 have lo:=bo.len
 have lq:=bq.len
 have sc:=h.hc.toShape
 have sd:=h.hd.toShape
 rw [bo.len,bq.len]
 refine⟨h.hd,h.hc,⟨?_,?_,?_,?_,fun a hx=>?_,fun x hx=>?_,fun a b hx hy h0=>?_⟩,b1.inj,b2.inj,ho.symm,ha.symm⟩
 ·show((bwL O c.ob.toNat).length:Int)=d.ob
  rw [mC];omega
 ·show(bwL Q c.fr.length).length=d.fr.length
  rw [mC];omega
 ·intro i hi
  have:=b1.at (show i<c.ob.toNat by have:i<(bwL O c.ob.toNat).length:=hi;rw [mC]at this;omega)
  show 0≤(bwL O c.ob.toNat).getD i 0∧(bwL O c.ob.toNat).getD i 0<c.ob
  omega
 ·intro i hi
  exact b2.at (show i<c.fr.length by have:i<(bwL Q c.fr.length).length:=hi;rw [mC]at this;omega)
 ·have hx:a<c.fr.length:=by have:a<(bwL Q c.fr.length).length:=hx;rw [mC]at this;omega
  obtain⟨r1,r2,r3⟩:=kW bq hx
  show c.F ((bwL Q c.fr.length).getD a 0)=(bwL O c.ob.toNat).getD (d.F (a:Int)).toNat 0∧c.T ((bwL Q c.fr.length).getD a 0)=(bwL O c.ob.toNat).getD (d.T (a:Int)).toNat 0
  obtain⟨b,hb⟩:∃b:Nat,(bwL Q c.fr.length).getD a 0=b:=⟨_,(Int.toNat_of_nonneg r1).symm⟩
  rw [hb]at r2 r3⊢
  rw [Int.toNat_natCast]at r3
  have hb2:b<c.fr.length:=by omega
  obtain⟨g1,g2⟩:=h.fr hb2
  rw [r3,Int.toNat_natCast]at g1 g2
  have f1:=sc.frw b hb2
  have f2:=sc.tow b (by rw [sc.tol];exact hb2)
  have k1:=vE bo (x:=(c.fr.getD b 0).toNat) (by omega)
  have k2:=vE bo (x:=(c.to.getD b 0).toNat) (by omega)
  unfold Cat.F Cat.T
  rw [Int.toNat_natCast,Int.toNat_natCast,g1,g2,k1,k2]
  omega
 ·have hx:x<d.id.length:=hx
  have il:=sd.idl
  have cl:=sc.idl
  have hx2:x<c.ob.toNat:=by omega
  obtain⟨r1,r2,r3⟩:=kW bo hx2
  obtain⟨y,hy⟩:∃y:Nat,(bwL O c.ob.toNat).getD x 0=y:=⟨_,(Int.toNat_of_nonneg r1).symm⟩
  rw [hy]at r2 r3
  rw [Int.toNat_natCast]at r3
  have hu:=h.fit.unit y (by show y<c.id.length;omega)
  have hu:Q.getD (c.id.getD y 0).toNat 0=d.id.getD (O.getD y 0).toNat 0:=by
   have e:(⟨c,d,O,Q⟩:Fun).O (y:Int)=O.getD y 0:=by unfold Fun.O;rw [Int.toNat_natCast]
   rw [e]at hu;exact hu
  rw [r3,Int.toNat_natCast]at hu
  have iw:=sc.idw y (by omega)
  show(bwL Q c.fr.length).getD (d.id.getD x 0).toNat 0=c.id.getD ((bwL O c.ob.toNat).getD (x:Int).toNat 0).toNat 0
  rw [Int.toNat_natCast,hy,Int.toNat_natCast,←hu,vE bq (by omega)]
  omega
 ·have hx:a<c.fr.length:=by have:a<d.fr.length:=hx;omega
  have hy:b<c.fr.length:=by have:b<d.fr.length:=hy;omega
  obtain⟨r1,r2,r3⟩:=kW bq hx
  obtain⟨s1,s2,s3⟩:=kW bq hy
  obtain⟨p,hp⟩:∃p:Nat,(bwL Q c.fr.length).getD a 0=p:=⟨_,(Int.toNat_of_nonneg r1).symm⟩
  obtain⟨q,hq⟩:∃q:Nat,(bwL Q c.fr.length).getD b 0=q:=⟨_,(Int.toNat_of_nonneg s1).symm⟩
  rw [hp]at r2 r3
  rw [hq]at s2 s3
  rw [Int.toNat_natCast]at r3 s3
  have hcp:=h.cp (f:=p) (g:=q) (by omega) (by omega)
  rw [r3,s3,Int.toNat_natCast,Int.toNat_natCast]at hcp
  have h0:0≤d.C (a:Int) (b:Int):=h0
  have e1:d.C (a:Int) (b:Int)=d.cp a b:=by unfold Cat.C Cat.cp;rw [Int.toNat_natCast,Int.toNat_natCast]
  rw [e1]at h0
  have h1:=hcp.1.2 h0
  obtain⟨k1,k2⟩:=hcp.2 h1
  show(bwL Q c.fr.length).getD (d.C (a:Int) (b:Int)).toNat 0=c.C ((bwL Q c.fr.length).getD (a:Int).toNat 0) ((bwL Q c.fr.length).getD (b:Int).toNat 0)
  have e2:c.C (p:Int) (q:Int)=c.cp p q:=by unfold Cat.C Cat.cp;rw [Int.toNat_natCast,Int.toNat_natCast]
  rw [e1,Int.toNat_natCast,Int.toNat_natCast,hp,hq,e2,k2,vE bq k1]
  omega
end
end Go.Cats
end
section
namespace Go.Cats
structure TabOK (n:Nat) (A:List (List Int)) (U:Nat→List Int) (cp:List Int→List Int→List Int):Prop where
 n8:n≤8
 a40:A.length≤40
 nd:A.Nodup
 e0:∀r∈A,0≤r.getD 0 0∧r.getD 0 0<n
 e1:∀r∈A,0≤r.getD 1 0∧r.getD 1 0<n
 um:∀i,i<n→U i∈A∧(U i).getD 0 0=i∧(U i).getD 1 0=i
 cm:∀r∈A,∀s∈A,r.getD 1 0=s.getD 0 0→cp r s∈A∧(cp r s).getD 0 0=r.getD 0 0∧(cp r s).getD 1 0=s.getD 1 0
 ul:∀r∈A,cp (U (r.getD 0 0).toNat) r=r
 ur:∀r∈A,cp r (U (r.getD 1 0).toNat)=r
 as:∀r∈A,∀s∈A,∀q∈A,r.getD 1 0=s.getD 0 0→s.getD 1 0=q.getD 0 0→cp (cp r s) q=cp r (cp s q)
def tH (A:List (List Int)) (cp:List Int→List Int→List Int) (a n:Nat):List Int:=(List.range n).map fun b=>if(A.getD a []).getD 1 0=(A.getD b []).getD 0 0 then fnd A (cp (A.getD a []) (A.getD b []))else-1
def gS (n:Nat) (A:List (List Int)) (U:Nat→List Int) (cp:List Int→List Int→List Int):Cat:=
 ⟨n,A.map fun r=>r.getD 0 0,A.map fun r=>r.getD 1 0,(List.range n).map fun i=>fnd A (U i),(List.range A.length).map fun a=>tH A cp a A.length⟩
section
variable {n:Nat} {A:List (List Int)} {U:Nat→List Int} {cp:List Int→List Int→List Int} {a b i:Nat}
theorem lL {f:List Int→Int} (h:a<A.length):(A.map f).getD a 0=f (A.getD a []):=by
 rw [List.getD_eq_getElem?_getD,List.getElem?_map,List.getElem?_eq_getElem h,List.getD_eq_getElem?_getD (l:=A),List.getElem?_eq_getElem h];rfl
theorem aCa (h:a<A.length):(gS n A U cp).fr.getD a 0=(A.getD a []).getD 0 0:=lL (f:=fun r=>r.getD 0 0) h
theorem aCb (h:a<A.length):(gS n A U cp).to.getD a 0=(A.getD a []).getD 1 0:=lL (f:=fun r=>r.getD 1 0) h
theorem aGv:(gS n A U cp).fr.length=A.length:=by show(A.map _).length=_;rw [List.length_map]
theorem aNG (h:i<n):(gS n A U cp).id.getD i 0=fnd A (U i):=by
 show((List.range n).map _).getD i 0=_
 rw [List.getD_eq_getElem?_getD,List.getElem?_map,List.getElem?_range h];rfl
theorem aIQ (h:a<A.length):(gS n A U cp).co.getD a []=tH A cp a A.length:=by
 show((List.range A.length).map _).getD a []=_
 rw [List.getD_eq_getElem?_getD,List.getElem?_map,List.getElem?_range h];rfl
theorem aIP (ha:a<A.length) (hb:b<A.length):(gS n A U cp).C a b=if(A.getD a []).getD 1 0=(A.getD b []).getD 0 0 then fnd A (cp (A.getD a []) (A.getD b []))else-1:=by
 show((gS n A U cp).co.getD (a:Int).toNat []).getD (b:Int).toNat 0=_
 rw [Int.toNat_natCast,Int.toNat_natCast,aIQ ha]
 unfold tH
 rw [List.getD_eq_getElem?_getD,List.getElem?_map,List.getElem?_range hb];rfl
theorem TabOK.mem (ha:a<A.length):A.getD a []∈A:=bI ha
theorem TabOK.C (h:TabOK n A U cp) (ha:a<A.length) (hb:b<A.length) (e:(A.getD a []).getD 1 0=(A.getD b []).getD 0 0):∃k:Nat,k<A.length∧A.getD k []=cp (A.getD a []) (A.getD b [])∧(gS n A U cp).C a b=k:=by
 have hm:=(h.cm _ (TabOK.mem ha) _ (TabOK.mem hb) e).1
 obtain⟨k,h1,h2,h3⟩:=vW hm
 exact⟨k,h1,h2,by rw [aIP ha hb,if_pos e,h3]⟩
theorem TabOK.I (h:TabOK n A U cp) (hi:i<n):∃k:Nat,k<A.length∧A.getD k []=U i∧(gS n A U cp).id.getD i 0=k:=by
 obtain⟨k,h1,h2,h3⟩:=vW (h.um i hi).1
 exact⟨k,h1,h2,by rw [aNG hi,h3]⟩
theorem TabOK.inj (h:TabOK n A U cp) (ha:a<A.length) (hb:b<A.length) (e:A.getD a []=A.getD b []):a=b:=by
 have h1:=aG0 h.nd ha
 have h2:=aG0 h.nd hb
 rw [e,h2]at h1
 omega
theorem aDK (ha:a<A.length):(gS n A U cp).F (a:Int)=(A.getD a []).getD 0 0:=by
 show(gS n A U cp).fr.getD (a:Int).toNat 0=_
 rw [Int.toNat_natCast,aCa ha]
theorem aDL (ha:a<A.length):(gS n A U cp).T (a:Int)=(A.getD a []).getD 1 0:=by
 show(gS n A U cp).to.getD (a:Int).toNat 0=_
 rw [Int.toNat_natCast,aCb ha]
theorem TabOK.shape (h:TabOK n A U cp):Shape (gS n A U cp):=by
 have hm:=aGv (n:=n) (A:=A) (U:=U) (cp:=cp)
 refine⟨Int.natCast_nonneg n,?_,by rw [hm];exact h.a40,?_,fun a ha=>?_,fun a ha=>?_,?_,fun i hi=>?_,?_,fun i hi=>?_,fun a ha=>⟨?_,fun b hb=>?_⟩⟩
 ·show(n:Int)≤8;have:=h.n8;omega
 ·show(A.map _).length=(A.map _).length;rw [List.length_map,List.length_map]
 ·rw [hm]at ha;rw [aCa ha];exact h.e0 _ (TabOK.mem ha)
 ·have ha:a<A.length:=by
   have e:(gS n A U cp).to.length=A.length:=by show(A.map _).length=_;rw [List.length_map]
   exact e▸ha
  rw [aCb ha];exact h.e1 _ (TabOK.mem ha)
 ·show(((List.range n).map _).length:Int)=n;rw [List.length_map,List.length_range]
 ·have hi:i<n:=by
   have e:(gS n A U cp).id.length=n:=by show((List.range n).map _).length=_;rw [List.length_map,List.length_range]
   exact e▸hi
  obtain⟨k,k1,k2,k3⟩:=h.I hi
  rw [k3,hm];omega
 ·show((List.range A.length).map _).length=(A.map _).length;rw [List.length_map,List.length_range,List.length_map]
 ·have hi:i<n:=by
   have e:(gS n A U cp).id.length=n:=by show((List.range n).map _).length=_;rw [List.length_map,List.length_range]
   exact e▸hi
  obtain⟨k,k1,k2,k3⟩:=h.I hi
  rw [k3,aDK k1,aDL k1,k2]
  exact(h.um i hi).2
 ·rw [hm]at ha⊢
  rw [aIQ ha];unfold tH;rw [List.length_map,List.length_range]
 ·rw [hm]at ha hb
  unfold Cat.Entry
  rw [aCb ha,aCa hb,aCa ha,aCb hb,hm]
  by_cases e:(A.getD a []).getD 1 0=(A.getD b []).getD 0 0
  ·obtain⟨k,k1,k2,k3⟩:=h.C ha hb e
   have hc:=(h.cm _ (TabOK.mem ha) _ (TabOK.mem hb) e).2
   refine .inl ⟨e,by rw [k3];omega,?_,?_⟩
   ·rw [k3,aDK k1,k2];exact hc.1
   ·rw [k3,aDL k1,k2];exact hc.2
  ·exact .inr ⟨e,by rw [aIP ha hb,if_neg e]⟩
theorem TabOK.cat (h:TabOK n A U cp):IsCat (gS n A U cp):=by
 have hm:=aGv (n:=n) (A:=A) (U:=U) (cp:=cp)
 refine⟨h.shape,fun f hf=>?_,fun f hf=>?_,fun f g q hf hg hq e1 e2=>?_⟩
 ·rw [hm]at hf
  have he:=h.e0 _ (TabOK.mem hf)
  rw [aDK hf]
  obtain⟨k,k1,k2,k3⟩:=h.I (i:=((A.getD f []).getD 0 0).toNat) (by omega)
  have hI:(gS n A U cp).I ((A.getD f []).getD 0 0)=k:=k3
  have hu:=(h.um ((A.getD f []).getD 0 0).toNat (by omega)).2.2
  rw [hI]
  obtain⟨j,j1,j2,j3⟩:=h.C k1 hf (by rw [k2,hu];omega)
  rw [j3]
  rw [k2,h.ul _ (TabOK.mem hf)]at j2
  rw [h.inj j1 hf j2]
 ·rw [hm]at hf
  have he:=h.e1 _ (TabOK.mem hf)
  rw [aDL hf]
  obtain⟨k,k1,k2,k3⟩:=h.I (i:=((A.getD f []).getD 1 0).toNat) (by omega)
  have hI:(gS n A U cp).I ((A.getD f []).getD 1 0)=k:=k3
  have hu:=(h.um ((A.getD f []).getD 1 0).toNat (by omega)).2.1
  rw [hI]
  obtain⟨j,j1,j2,j3⟩:=h.C hf k1 (by rw [k2,hu];omega)
  rw [j3]
  rw [k2,h.ur _ (TabOK.mem hf)]at j2
  rw [h.inj j1 hf j2]
 ·rw [hm]at hf hg hq
  rw [aDL hf,aDK hg]at e1
  rw [aDL hg,aDK hq]at e2
  obtain⟨j,j1,j2,j3⟩:=h.C hf hg e1
  obtain⟨k,k1,k2,k3⟩:=h.C hg hq e2
  have c1:=(h.cm _ (TabOK.mem hf) _ (TabOK.mem hg) e1).2
  have c2:=(h.cm _ (TabOK.mem hg) _ (TabOK.mem hq) e2).2
  rw [j3,k3]
  obtain⟨x,x1,x2,x3⟩:=h.C j1 hq (by rw [j2,c1.2];exact e2)
  obtain⟨y,y1,y2,y3⟩:=h.C hf k1 (by rw [k2,c2.1];exact e1)
  rw [x3,y3,h.inj x1 y1 (by rw [x2,y2,j2,k2];exact h.as _ (TabOK.mem hf) _ (TabOK.mem hg) _ (TabOK.mem hq) e1 e2)]
end
end Go.Cats
end
section
namespace Go.Cats
section
variable {n:Nat} {A:List (List Int)} {U:Nat→List Int} {cp:List Int→List Int→List Int} {d:Cat} {P:Nat→Int} {k:Nat}
theorem TabOK.func (h:TabOK n A U cp) (hd:IsCat d) (p1:∀i,i<n→0≤P i∧P i<d.ob) (q1:∀r∈A,0≤r.getD k 0∧r.getD k 0<d.fr.length) (q2:∀r∈A,d.F (r.getD k 0)=P (r.getD 0 0).toNat∧d.T (r.getD k 0)=P (r.getD 1 0).toNat)
  (q3:∀i,i<n→(U i).getD k 0=d.I (P i)) (q4:∀r∈A,∀s∈A,r.getD 1 0=s.getD 0 0→(cp r s).getD k 0=d.C (r.getD k 0) (s.getD k 0)):
  IsFun ⟨gS n A U cp,d,(List.range n).map P,A.map fun r=>r.getD k 0⟩:=by
 have hP:∀i,i<n→((List.range n).map P).getD i 0=P i:=fun i hi=>by
  rw [List.getD_eq_getElem?_getD,List.getElem?_map,List.getElem?_range hi];rfl
 have hA:∀a,a<A.length→(A.map fun r=>r.getD k 0).getD a 0=(A.getD a []).getD k 0:=fun a ha=>lL (f:=fun r=>r.getD k 0) ha
 have hm:=aGv (n:=n) (A:=A) (U:=U) (cp:=cp)
 have e0:∀a,a<A.length→(((A.getD a []).getD 0 0).toNat:Int)=(A.getD a []).getD 0 0∧((A.getD a []).getD 0 0).toNat<n:=fun a ha=>by have:=h.e0 _ (TabOK.mem ha);omega
 have e1:∀a,a<A.length→(((A.getD a []).getD 1 0).toNat:Int)=(A.getD a []).getD 1 0∧((A.getD a []).getD 1 0).toNat<n:=fun a ha=>by have:=h.e1 _ (TabOK.mem ha);omega
 refine⟨h.cat,hd,?_,?_,fun i hi=>?_,fun a ha=>?_,fun a ha=>?_,fun x hx=>?_,fun a b ha hb hc=>?_⟩
 ·show(((List.range n).map P).length:Int)=n;rw [List.length_map,List.length_range]
 ·show(A.map _).length=(gS n A U cp).fr.length;rw [List.length_map,hm]
 ·have hi:i<n:=by
   have e:((List.range n).map P).length=n:=by rw [List.length_map,List.length_range]
   exact e▸hi
  show 0≤((List.range n).map P).getD i 0∧((List.range n).map P).getD i 0<d.ob
  rw [hP i hi];exact p1 i hi
 ·have ha:a<A.length:=by
   have e:(A.map fun r=>r.getD k 0).length=A.length:=List.length_map _
   exact e▸ha
  show 0≤(A.map _).getD a 0∧(A.map _).getD a 0<(d.fr.length:Int)
  rw [hA a ha];exact q1 _ (TabOK.mem ha)
 ·have ha:a<A.length:=by
   have e:(A.map fun r=>r.getD k 0).length=A.length:=List.length_map _
   exact e▸ha
  show d.F ((A.map _).getD a 0)=((List.range n).map P).getD ((gS n A U cp).F (a:Int)).toNat 0∧d.T ((A.map _).getD a 0)=((List.range n).map P).getD ((gS n A U cp).T (a:Int)).toNat 0
  rw [hA a ha,aDK ha,aDL ha,hP _ (e0 a ha).2,hP _ (e1 a ha).2]
  exact q2 _ (TabOK.mem ha)
 ·have hx:x<n:=by
   have e:(gS n A U cp).id.length=n:=by show((List.range n).map _).length=_;rw [List.length_map,List.length_range]
   exact e▸hx
  obtain⟨j,j1,j2,j3⟩:=h.I hx
  show(A.map _).getD ((gS n A U cp).id.getD x 0).toNat 0=d.I (((List.range n).map P).getD (x:Int).toNat 0)
  rw [j3,Int.toNat_natCast,Int.toNat_natCast,hA j j1,j2,hP x hx];exact q3 x hx
 ·have ha:a<A.length:=by rw [←hm];exact ha
  have hb:b<A.length:=by rw [←hm];exact hb
  by_cases e:(A.getD a []).getD 1 0=(A.getD b []).getD 0 0
  ·obtain⟨j,j1,j2,j3⟩:=h.C ha hb e
   show(A.map _).getD ((gS n A U cp).C a b).toNat 0=d.C ((A.map _).getD (a:Int).toNat 0) ((A.map _).getD (b:Int).toNat 0)
   rw [j3,Int.toNat_natCast,Int.toNat_natCast,Int.toNat_natCast,hA j j1,j2,hA a ha,hA b hb]
   exact q4 _ (TabOK.mem ha) _ (TabOK.mem hb) e
  ·exfalso
   have hc:0≤(gS n A U cp).C a b:=hc
   rw [aIP ha hb,if_neg e]at hc
   omega
end
section
variable {f e:Fun}
end
end Go.Cats
end
section
namespace Go.Cats
/-! ### The first of a list with a property, -1 if there is none -/
open Classical in
noncomputable def fpO (p:Int→Prop) (l:List Int) (i:Nat):Option Int:=if p (l.getD i 0)then some (l.getD i 0)else none
noncomputable def aEc (p:Int→Prop) (l:List Int):Int:=(bJ l.length (fpO p l)).getD (-1)
section
variable {p:Int→Prop} {l:List Int} {i:Nat}
theorem aPZ (h:p (l.getD i 0)):fpO p l i=some (l.getD i 0):=if_pos h
theorem aTD (h:¬p (l.getD i 0)):fpO p l i=none:=if_neg h
theorem aJl (h:bJ l.length (fpO p l)=none):aEc p l= -1:=by unfold aEc;rw [h];rfl
theorem aGZ (p:Int→Prop) (l:List Int):(aEc p l= -1∧∀v∈l,¬p v)∨(aEc p l∈l∧p (aEc p l)):=by
 cases h:bJ l.length (fpO p l)with
 |none=>
  refine .inl ⟨aJl h,fun v hv k=>?_⟩
  obtain⟨i,hi,e⟩:=qX (d:=0) hv
  have:=scan_none.1 h i hi
  rw [aPZ (by rw [e];exact k)]at this
  cases this
 |some r=>
  obtain⟨i,hi,k⟩:=dJ h
  have e:aEc p l=r:=by unfold aEc;rw [h];rfl
  rw [e]
  by_cases q:p (l.getD i 0)
  ·rw [aPZ q]at k
   have:l.getD i 0=r:=by simpa using k
   rw [←this]
   exact .inr ⟨bI hi,q⟩
  ·rw [aTD q]at k;cases k
theorem aOr (h0:∀v∈l,0≤v):0≤aEc p l↔∃v∈l,p v:=by
 rcases aGZ p l with⟨h1,h2⟩|⟨h1,h2⟩
 ·rw [h1]
  exact⟨fun h=>by omega,fun⟨v,hv,k⟩=>absurd k (h2 v hv)⟩
 ·exact⟨fun _=>⟨_,h1,h2⟩,fun _=>h0 _ h1⟩
end
section
variable {P Q:Nat→Prop} {n x:Nat}
end
/-! ### Categories by whole numbers -/
section
variable {c:Cat} {f g h x y z:Int}
theorem Shape.compI (s:Shape c) (f0:0≤f) (f1:f<c.fr.length) (g0:0≤g) (g1:g<c.fr.length) (e:c.T f=c.F g):0≤c.C f g∧c.C f g<c.fr.length∧c.F (c.C f g)=c.F f∧c.T (c.C f g)=c.T g:=by
 have:=(s.coe f.toNat (by omega)).2 g.toNat (by omega)
 unfold Cat.Entry at this
 simp only [Cat.C,Int.toNat_natCast]at this⊢
 rcases this with⟨_,h2,h3,h4⟩|⟨h1,_⟩
 ·exact⟨h2.1,h2.2,h3,h4⟩
 ·exact absurd e h1
/-! ### Inverses -/
def Cat.InvP (c:Cat) (f g:Int):Prop:=c.C f g=c.I (c.F f)∧c.C g f=c.I (c.T f)
noncomputable def Cat.inv (c:Cat) (f:Int):Int:=aEc (c.InvP f) (c.hom (c.T f) (c.F f))
theorem Cat.inv_ge:0≤c.inv f↔∃g∈c.hom (c.T f) (c.F f),c.InvP f g:=aOr fun v hv=>(Cat.mem_hom.1 hv).1
def Cat.IsoO (c:Cat) (x y:Int):Prop:=∃f∈c.hom x y,0≤c.inv f
theorem Cat.IsoO.symm (h:c.IsoO x y):c.IsoO y x:=by
 obtain⟨f,hf,hi⟩:=h
 obtain⟨g,hg,h1,h2⟩:=Cat.inv_ge.1 hi
 obtain⟨f0,f1,f2,f3⟩:=Cat.mem_hom.1 hf
 rw [f2,f3]at hg
 obtain⟨g0,g1,g2,g3⟩:=Cat.mem_hom.1 hg
 refine⟨g,hg,Cat.inv_ge.2 ⟨f,by rw [g2,g3];exact hf,?_,?_⟩⟩
 ·rw [h2,f3,g2]
 ·rw [h1,f2,g3]
end
structure SubA (c:Cat) (A:List Int):Prop where
 nd:A.Nodup
 len:A.length≤c.fr.length
 rng:∀f∈A,0≤f∧f<c.fr.length
 idf:∀f∈A,c.I (c.F f)∈A
 idt:∀f∈A,c.I (c.T f)∈A
 cmp:∀f∈A,∀g∈A,c.T f=c.F g→c.C f g∈A
theorem uI {α β:Type} {l:List α} {h:α→β} {i:Nat} {d:β} {e:α} (hi:i<l.length):(l.map h).getD i d=h (l.getD i e):=by
 rw [List.getD_eq_getElem?_getD,List.getElem?_map,List.getD_eq_getElem?_getD,List.getElem?_eq_getElem hi];rfl
section
variable {c:Cat} {A:List Int}
open Classical in
end
end Go.Cats
end
section
namespace Go.Cats
def mE (R:List (List Int)) (i j:Nat):Int:=(R.getD i []).getD j 0
def cR (R:List (List Int)) (i:Nat):Nat→List (List Int)
 |0=>[]
 |k+1=>if mE R i k=1 then cR R i k++[[(i:Int),(k:Int)]]else cR R i k
def poA (R:List (List Int)) (n:Nat):Nat→List (List Int)
 |0=>[]
 |i+1=>poA R n i++cR R i n
structure PoOK (R:List (List Int)) (n:Nat):Prop where
 n6:n≤6
 rf:∀i,i<n→mE R i i=1
 tr:∀i j k,i<n→j<n→k<n→mE R i j=1→mE R j k=1→mE R i k=1
def poU (i:Nat):List Int:=[(i:Int),(i:Int)]
def poP (r s:List Int):List Int:=[r.getD 0 0,s.getD 1 0]
def poC (R:List (List Int)) (n:Nat):Cat:=gS n (poA R n n) poU poP
def poN (R:List (List Int)) (n i k:Nat):Int:=(((poA R n i).length+(cR R i k).length:Nat):Int)
section
variable {R:List (List Int)} {n m i j k:Nat} {x:List Int}
theorem kS (h:mE R i k=1):cR R i (k+1)=cR R i k++[[(i:Int),(k:Int)]]:=by rw [cR,if_pos h]
theorem wT (h:¬mE R i k=1):cR R i (k+1)=cR R i k:=by rw [cR,if_neg h]
theorem aBr:∀k,(cR R i k).length≤k
 |0=>Nat.le_refl 0
 |k+1=>by
  have:=aBr k
  unfold cR
  split
  ·rw [List.length_append];simp;omega
  ·omega
theorem aBp:∀m,(poA R n m).length≤m*n
 |0=>by simp [poA]
 |m+1=>by
  have h1:=aBp m
  have h2:=aBr (R:=R) (i:=m) n
  unfold poA
  rw [List.length_append,Nat.succ_mul]
  omega
theorem sL:∀k,x∈cR R i k↔∃j,j<k∧mE R i j=1∧x=[(i:Int),(j:Int)]
 |0=>by simp [cR]
 |k+1=>by
  have ih:=sL k
  by_cases h:mE R i k=1
  ·rw [kS h,List.mem_append,ih,List.mem_singleton]
   constructor
   ·rintro(⟨j,h1,h2,h3⟩|h1)
    ·exact⟨j,by omega,h2,h3⟩
    ·exact⟨k,by omega,h,h1⟩
   ·rintro⟨j,h1,h2,h3⟩
    rcases Nat.lt_or_ge j k with hj|hj
    ·exact .inl ⟨j,hj,h2,h3⟩
    ·exact .inr (by rw [h3,show j=k by omega])
  ·rw [wT h,ih]
   constructor
   ·rintro⟨j,h1,h2,h3⟩;exact⟨j,by omega,h2,h3⟩
   ·rintro⟨j,h1,h2,h3⟩
    rcases Nat.lt_or_ge j k with hj|hj
    ·exact⟨j,hj,h2,h3⟩
    ·exact absurd h2 (by rw [show j=k by omega];exact h)
theorem iW:∀m,x∈poA R n m↔∃i j,i<m∧j<n∧mE R i j=1∧x=[(i:Int),(j:Int)]
 |0=>by simp [poA]
 |m+1=>by
  have ih:=iW m
  rw [poA,List.mem_append,ih,sL]
  constructor
  ·rintro(⟨i,j,h1,h2⟩|⟨j,h1,h2⟩)
   ·exact⟨i,j,by omega,h2⟩
   ·exact⟨m,j,by omega,h1,h2⟩
  ·rintro⟨i,j,h1,h2,h3⟩
   rcases Nat.lt_or_ge i m with hi|hi
   ·exact .inl ⟨i,j,hi,h2,h3⟩
   ·exact .inr ⟨j,h2,by rw [←show i=m by omega];exact h3⟩
theorem aFN:∀k,(cR R i k).Nodup
 |0=>List.nodup_nil
 |k+1=>by
  have ih:=aFN k
  by_cases h:mE R i k=1
  ·rw [kS h,List.nodup_append]
   refine⟨ih,by simp,fun a ha b hb e=>?_⟩
   rw [List.mem_singleton]at hb
   subst e hb
   obtain⟨j,h1,_,h3⟩:=(sL k).1 ha
   simp at h3;omega
  ·rw [wT h];exact ih
theorem aHk:∀m,(poA R n m).Nodup
 |0=>List.nodup_nil
 |m+1=>by
  rw [poA,List.nodup_append]
  refine⟨aHk m,aFN n,fun a ha b hb e=>?_⟩
  subst e
  obtain⟨i,j,h1,_,_,h3⟩:=(iW m).1 ha
  obtain⟨j',_,_,h4⟩:=(sL n).1 hb
  rw [h3]at h4
  simp at h4;omega
theorem aDu:∀k,j<k→mE R i j=1→∃r,cR R i k=cR R i j++[[(i:Int),(j:Int)]]++r
 |0,h,_=>absurd h (Nat.not_lt_zero j)
 |k+1,h,hj=>by
  rcases Nat.lt_or_ge j k with h1|h1
  ·obtain⟨r,e⟩:=aDu k h1 hj
   by_cases hk:mE R i k=1
   ·exact⟨r++[[(i:Int),(k:Int)]],by rw [kS hk,e,List.append_assoc]⟩
   ·exact⟨r,by rw [wT hk,e]⟩
  ·obtain rfl:j=k:=by omega
   exact⟨[],by rw [kS hj,List.append_nil]⟩
theorem aIw:∀m,i<m→∃r,poA R n m=poA R n i++cR R i n++r
 |0,h=>absurd h (Nat.not_lt_zero i)
 |m+1,h=>by
  rcases Nat.lt_or_ge i m with h1|h1
  ·obtain⟨r,e⟩:=aIw m h1
   exact⟨r++cR R m n,by rw [poA,e,List.append_assoc]⟩
  ·obtain rfl:i=m:=by omega
   exact⟨[],by rw [poA,List.append_nil]⟩
theorem aIx (hi:i<n) (hj:j<n) (h:mE R i j=1):fnd (poA R n n) [(i:Int),(j:Int)]=poN R n i j:=by
 obtain⟨r,e1⟩:=aIw n hi
 obtain⟨q,e2⟩:=aDu n hj h
 have e:poA R n n=(poA R n i++cR R i j)++[(i:Int),(j:Int)]::(q++r):=by rw [e1,e2];simp
 have hl:(poA R n i++cR R i j).length<(poA R n n).length:=by rw [e,List.length_append];simp
 have h1:=aG0 (aHk (R:=R) (n:=n) n) hl
 have h2:(poA R n n).getD (poA R n i++cR R i j).length []=[(i:Int),(j:Int)]:=by
  rw [List.getD_eq_getElem?_getD,e,List.getElem?_append_right (Nat.le_refl _),Nat.sub_self];rfl
 rw [h2]at h1
 rw [h1,List.length_append];rfl
theorem PoOK.tab (h:PoOK R n):TabOK n (poA R n n) poU poP:=by
 have h6:=h.n6
 have hl:=aBp (R:=R) (n:=n) n
 have hnn:n*n≤6*6:=Nat.mul_le_mul h6 h6
 refine⟨by omega,by omega,aHk n,fun r hr=>?_,fun r hr=>?_,fun i hi=>⟨?_,rfl,rfl⟩,fun r hr s hs e=>?_,fun r hr=>?_,fun r hr=>?_,fun r hr s hs q hq e1 e2=>rfl⟩
 ·obtain⟨i,j,h1,h2,h3,rfl⟩:=(iW n).1 hr
  show(0:Int)≤i∧(i:Int)<n;omega
 ·obtain⟨i,j,h1,h2,h3,rfl⟩:=(iW n).1 hr
  show(0:Int)≤j∧(j:Int)<n;omega
 ·exact(iW n).2 ⟨i,i,hi,hi,h.rf i hi,rfl⟩
 ·obtain⟨i,j,h1,h2,h3,rfl⟩:=(iW n).1 hr
  obtain⟨i',k,h4,h5,h7,rfl⟩:=(iW n).1 hs
  have e':(j:Int)=i':=e
  obtain rfl:j=i':=by omega
  exact⟨(iW n).2 ⟨i,k,h1,h5,h.tr i j k h1 h2 h5 h3 h7,rfl⟩,rfl,rfl⟩
 ·obtain⟨i,j,h1,h2,h3,rfl⟩:=(iW n).1 hr
  show [(((i:Int).toNat:Nat):Int),(j:Int)]=_
  rw [Int.toNat_natCast]
 ·obtain⟨i,j,h1,h2,h3,rfl⟩:=(iW n).1 hr
  show [(i:Int),(((j:Int).toNat:Nat):Int)]=_
  rw [Int.toNat_natCast]
theorem PoOK.cat (h:PoOK R n):IsCat (poC R n):=h.tab.cat
theorem PoOK.len (h:PoOK R n):(poA R n n).length≤36:=by
 have hl:=aBp (R:=R) (n:=n) n
 have hnn:n*n≤6*6:=Nat.mul_le_mul h.n6 h.n6
 omega
end
end Go.Cats
end
section
namespace Go.Cats
def shI (m:Nat) (h:Int):Int:=if 0≤h then h+m else h
def smC (c d:Cat):Cat:=⟨c.ob+d.ob,c.fr++d.fr.map (· +c.ob),c.to++d.to.map (· +c.ob),c.id++d.id.map (· +(c.fr.length:Int)),
 c.co.map (fun r=>r++List.replicate d.fr.length (-1))++d.co.map (fun r=>List.replicate c.fr.length (-1)++r.map (shI c.fr.length))⟩
section
variable {c d:Cat} {x y:Int}
theorem aHX {l k:List Int} (h0:0≤x) (h1:x<l.length):(l++k).getD x.toNat 0=l.getD x.toNat 0:=by
 rw [List.getD_eq_getElem?_getD,List.getElem?_append_left (by omega),←List.getD_eq_getElem?_getD]
theorem aHY {l k:List Int} {g:Int→Int} (h0:0≤y) (h1:y<k.length):(l++k.map g).getD ((l.length:Int)+y).toNat 0=g (k.getD y.toNat 0):=by
 have e:((l.length:Int)+y).toNat=l.length+y.toNat:=by omega
 rw [e,List.getD_eq_getElem?_getD,List.getElem?_append_right (by omega),Nat.add_sub_cancel_left,List.getElem?_map,List.getElem?_eq_getElem (by omega),List.getD_eq_getElem?_getD,List.getElem?_eq_getElem (by omega)]
 rfl
theorem rC {n k:Nat} (h:k<n):(List.replicate n (-1:Int)).getD k 0= -1:=by
 rw [List.getD_eq_getElem?_getD,List.getElem?_replicate,if_pos h];rfl
theorem aBy:(smC c d).fr.length=c.fr.length+d.fr.length:=by unfold smC;rw [List.length_append,List.length_map]
theorem rD (h0:0≤x) (h1:x<c.fr.length):(smC c d).F x=c.F x:=aHX h0 h1
theorem rE (h0:0≤y) (h1:y<d.fr.length):(smC c d).F ((c.fr.length:Int)+y)=d.F y+c.ob:=aHY (g:=(· +c.ob)) h0 h1
theorem rF (sc:Shape c) (h0:0≤x) (h1:x<c.fr.length):(smC c d).T x=c.T x:=aHX h0 (by rw [sc.tol];exact h1)
theorem rH (sc:Shape c) (sd:Shape d) (h0:0≤y) (h1:y<d.fr.length):(smC c d).T ((c.fr.length:Int)+y)=d.T y+c.ob:=by
 have:=aHY (l:=c.to) (k:=d.to) (g:=(· +c.ob)) h0 (by rw [sd.tol];exact h1)
 rw [sc.tol]at this
 exact this
theorem aIK (sc:Shape c) (h0:0≤x) (h1:x<c.ob):(smC c d).I x=c.I x:=aHX h0 (by rw [sc.idl];exact h1)
theorem aIL (sc:Shape c) (sd:Shape d) (h0:0≤y) (h1:y<d.ob):(smC c d).I (c.ob+y)=d.I y+c.fr.length:=by
 have:=aHY (l:=c.id) (k:=d.id) (g:=(· +(c.fr.length:Int))) h0 (by rw [sd.idl];exact h1)
 rw [sc.idl]at this
 exact this
theorem aNg (sc:Shape c) (h0:0≤x) (h1:x<c.fr.length):(smC c d).co.getD x.toNat []=c.co.getD x.toNat []++List.replicate d.fr.length (-1):=by
 have hl:x.toNat<c.co.length:=by rw [sc.col];omega
 unfold smC
 rw [List.getD_eq_getElem?_getD,List.getElem?_append_left (by rw [List.length_map];exact hl),List.getElem?_map,List.getElem?_eq_getElem hl,List.getD_eq_getElem?_getD,List.getElem?_eq_getElem hl];rfl
theorem aNi (sc:Shape c) (sd:Shape d) (h0:0≤y) (h1:y<d.fr.length):(smC c d).co.getD ((c.fr.length:Int)+y).toNat []=List.replicate c.fr.length (-1)++(d.co.getD y.toNat []).map (shI c.fr.length):=by
 have hl:y.toNat<d.co.length:=by rw [sd.col];omega
 have e:((c.fr.length:Int)+y).toNat=c.fr.length+y.toNat:=by omega
 unfold smC
 rw [e,List.getD_eq_getElem?_getD,List.getElem?_append_right (by rw [List.length_map,sc.col];omega),List.length_map,sc.col,Nat.add_sub_cancel_left,List.getElem?_map,List.getElem?_eq_getElem hl,List.getD_eq_getElem?_getD,List.getElem?_eq_getElem hl];rfl
theorem uT (sc:Shape c) (h0:0≤x) (h1:x<c.fr.length) (k0:0≤y) (k1:y<c.fr.length):(smC c d).C x y=c.C x y:=by
 have h:=(sc.coe x.toNat (by omega)).1
 show(((smC c d).co.getD x.toNat []).getD y.toNat 0)=_
 rw [aNg sc h0 h1]
 exact aHX k0 (by rw [h];exact k1)
theorem aRI (sc:Shape c) (h0:0≤x) (h1:x<c.fr.length) (k0:0≤y) (k1:y<d.fr.length):(smC c d).C x ((c.fr.length:Int)+y)= -1:=by
 have h:=(sc.coe x.toNat (by omega)).1
 show(((smC c d).co.getD x.toNat []).getD _ 0)=_
 have e:((c.fr.length:Int)+y).toNat=c.fr.length+y.toNat:=by omega
 rw [aNg sc h0 h1,e,List.getD_eq_getElem?_getD,List.getElem?_append_right (by omega),h,Nat.add_sub_cancel_left,←List.getD_eq_getElem?_getD,rC (by omega)]
theorem aRJ (sc:Shape c) (sd:Shape d) (h0:0≤x) (h1:x<d.fr.length) (k0:0≤y) (k1:y<c.fr.length):(smC c d).C ((c.fr.length:Int)+x) y= -1:=by
 show(((smC c d).co.getD _ []).getD y.toNat 0)=_
 rw [aNi sc sd h0 h1,List.getD_eq_getElem?_getD,List.getElem?_append_left (by rw [List.length_replicate];omega),←List.getD_eq_getElem?_getD,rC (by omega)]
theorem aNf (sc:Shape c) (sd:Shape d) (h0:0≤x) (h1:x<d.fr.length) (k0:0≤y) (k1:y<d.fr.length):(smC c d).C ((c.fr.length:Int)+x) ((c.fr.length:Int)+y)=shI c.fr.length (d.C x y):=by
 have h:=(sd.coe x.toNat (by omega)).1
 show(((smC c d).co.getD _ []).getD _ 0)=_
 rw [aNi sc sd h0 h1]
 have:=aHY (y:=y) (l:=List.replicate c.fr.length (-1)) (k:=d.co.getD x.toNat []) (g:=shI c.fr.length) k0 (by rw [h];exact k1)
 rw [List.length_replicate]at this
 exact this
theorem eY {f:Nat} (h:f<c.fr.length+d.fr.length):(0≤(f:Int)∧(f:Int)<c.fr.length)∨∃y:Int,0≤y∧y<d.fr.length∧(f:Int)=(c.fr.length:Int)+y:=by
 rcases Nat.lt_or_ge f c.fr.length with h1|h1
 ·exact .inl ⟨by omega,by omega⟩
 ·exact .inr ⟨(f:Int)-c.fr.length,by omega,by omega,by omega⟩
theorem aEs (hc:IsCat c) (hd:IsCat d) (h8:c.ob+d.ob≤8) (h40:c.fr.length+d.fr.length≤40):IsCat (smC c d):=by
 have sc:=hc.toShape
 have sd:=hd.toShape
 have e1:=sc.idl
 have e2:=sd.idl
 have o1:=sc.ob0
 have o2:=sd.ob0
 have cF:∀z:Int,0≤z→z<c.fr.length→0≤c.F z∧c.F z<c.ob:=fun z h0 h1=>sc.frw z.toNat (by omega)
 have cT:∀z:Int,0≤z→z<c.fr.length→0≤c.T z∧c.T z<c.ob:=fun z h0 h1=>sc.tow z.toNat (by rw [sc.tol];omega)
 have dF:∀z:Int,0≤z→z<d.fr.length→0≤d.F z∧d.F z<d.ob:=fun z h0 h1=>sd.frw z.toNat (by omega)
 have dT:∀z:Int,0≤z→z<d.fr.length→0≤d.T z∧d.T z<d.ob:=fun z h0 h1=>sd.tow z.toNat (by rw [sd.tol];omega)
 have hid:(smC c d).id.length=c.id.length+d.id.length:=by unfold smC;rw [List.length_append,List.length_map]
 have hto:(smC c d).to.length=c.fr.length+d.fr.length:=by unfold smC;rw [List.length_append,List.length_map,sc.tol,sd.tol]
 have sI:∀i:Nat,i<(smC c d).id.length→(0≤(i:Int)∧(i:Int)<c.ob)∨∃y:Int,0≤y∧y<d.ob∧(i:Int)=c.ob+y:=fun i hi=>by
  rw [hid]at hi
  rcases Nat.lt_or_ge i c.id.length with h1|h1
  ·exact .inl ⟨by omega,by omega⟩
  ·exact .inr ⟨(i:Int)-c.ob,by omega,by omega,by omega⟩
 have shp:Shape (smC c d):=by
  refine⟨by show 0≤c.ob+d.ob;omega,h8,by rw [aBy];exact h40,by rw [aBy,hto],fun f hf=>?_,fun f hf=>?_,?_,fun i hi=>?_,?_,fun i hi=>?_,fun f hf=>⟨?_,fun g hg=>?_⟩⟩
  ·rw [aBy]at hf
   show 0≤(smC c d).F (f:Int)∧(smC c d).F (f:Int)<c.ob+d.ob
   rcases eY hf with⟨h0,h1⟩|⟨y,h0,h1,e⟩
   ·rw [rD h0 h1];have:=cF _ h0 h1;omega
   ·rw [e,rE h0 h1];have:=dF _ h0 h1;omega
  ·rw [hto]at hf
   show 0≤(smC c d).T (f:Int)∧(smC c d).T (f:Int)<c.ob+d.ob
   rcases eY hf with⟨h0,h1⟩|⟨y,h0,h1,e⟩
   ·rw [rF sc h0 h1];have:=cT _ h0 h1;omega
   ·rw [e,rH sc sd h0 h1];have:=dT _ h0 h1;omega
  ·rw [hid];show _=c.ob+d.ob;omega
  ·show 0≤(smC c d).I (i:Int)∧(smC c d).I (i:Int)<_
   rw [aBy]
   rcases sI i hi with⟨h0,h1⟩|⟨y,h0,h1,e⟩
   ·rw [aIK sc h0 h1];have:=hc.idI h0 h1;omega
   ·rw [e,aIL sc sd h0 h1];have:=hd.idI h0 h1;omega
  ·rw [aBy]
   unfold smC
   rw [List.length_append,List.length_map,List.length_map,sc.col,sd.col]
  ·show(smC c d).F ((smC c d).I (i:Int))=i∧(smC c d).T ((smC c d).I (i:Int))=i
   rcases sI i hi with⟨h0,h1⟩|⟨y,h0,h1,e⟩
   ·obtain⟨a1,a2,a3,a4⟩:=hc.idI h0 h1
    rw [aIK sc h0 h1,rD a1 a2,rF sc a1 a2];exact⟨a3,a4⟩
   ·obtain⟨a1,a2,a3,a4⟩:=hd.idI h0 h1
    rw [e,aIL sc sd h0 h1,Int.add_comm (d.I y),rE a1 a2,rH sc sd a1 a2,a3,a4];omega
  ·rw [aBy]at hf⊢
   show((smC c d).co.getD (f:Int).toNat []).length=_
   rcases eY hf with⟨h0,h1⟩|⟨y,h0,h1,e⟩
   ·have h:=(sc.coe f (by omega)).1
    rw [aNg sc h0 h1,List.length_append,List.length_replicate,Int.toNat_natCast,h]
   ·have h:=(sd.coe y.toNat (by omega)).1
    rw [e,aNi sc sd h0 h1,List.length_append,List.length_replicate,List.length_map,h]
  ·rw [aBy]at hf hg
   show((smC c d).T (f:Int)=(smC c d).F (g:Int)∧(0≤(smC c d).C f g∧(smC c d).C f g<_)∧(smC c d).F ((smC c d).C f g)=(smC c d).F (f:Int)∧(smC c d).T ((smC c d).C f g)=(smC c d).T (g:Int))∨((smC c d).T (f:Int)≠(smC c d).F (g:Int)∧(smC c d).C f g= -1)
   rw [aBy]
   rcases eY hf with⟨h0,h1⟩|⟨y,h0,h1,e⟩
   ·rcases eY hg with⟨k0,k1⟩|⟨z,k0,k1,e'⟩
    ·rw [rF sc h0 h1,rD k0 k1,uT sc h0 h1 k0 k1]
     by_cases h:c.T f=c.F g
     ·obtain⟨p1,p2,p3,p4⟩:=hc.compI h0 h1 k0 k1 h
      exact .inl ⟨h,⟨p1,by omega⟩,by rw [rD p1 p2,rD h0 h1,p3],by rw [rF sc p1 p2,rF sc k0 k1,p4]⟩
     ·rcases(sc.coe f (by omega)).2 g (by omega)with q|q
      ·exact absurd q.1 h
      ·exact .inr ⟨h,q.2⟩
    ·rw [e',rF sc h0 h1,rE k0 k1,aRI sc h0 h1 k0 k1]
     have:=cT _ h0 h1
     have:=dF _ k0 k1
     exact .inr ⟨by omega,rfl⟩
   ·rcases eY hg with⟨k0,k1⟩|⟨z,k0,k1,e'⟩
    ·rw [e,rH sc sd h0 h1,rD k0 k1,aRJ sc sd h0 h1 k0 k1]
     have:=dT _ h0 h1
     have:=cF _ k0 k1
     exact .inr ⟨by omega,rfl⟩
    ·rw [e,e',rH sc sd h0 h1,rE k0 k1,aNf sc sd h0 h1 k0 k1]
     by_cases h:d.T y=d.F z
     ·obtain⟨p1,p2,p3,p4⟩:=hd.compI h0 h1 k0 k1 h
      have es:shI c.fr.length (d.C y z)=(c.fr.length:Int)+d.C y z:=by unfold shI;rw [if_pos p1];omega
      exact .inl ⟨by omega,by rw [es];omega,by rw [es,rE p1 p2,rE h0 h1,p3],by rw [es,rH sc sd p1 p2,rH sc sd k0 k1,p4]⟩
     ·have hn:d.C y z= -1:=by
       rcases(sd.coe y.toNat (by omega)).2 z.toNat (by omega)with q|q
       ·exact absurd q.1 h
       ·have:=q.2
        rwa [Int.toNat_of_nonneg h0,Int.toNat_of_nonneg k0]at this
      exact .inr ⟨by omega,by rw [hn];rfl⟩
 have comp1:∀{y z:Int},0≤y→y<d.fr.length→0≤z→z<d.fr.length→d.T y=d.F z→(smC c d).C ((c.fr.length:Int)+y) ((c.fr.length:Int)+z)=(c.fr.length:Int)+d.C y z:=fun h0 h1 k0 k1 h=>by
  have p1:=(hd.compI h0 h1 k0 k1 h).1
  rw [aNf sc sd h0 h1 k0 k1];unfold shI;rw [if_pos p1];omega
 refine⟨shp,fun f hf=>?_,fun f hf=>?_,fun f g q hf hg hq m1 m2=>?_⟩
 ·rw [aBy]at hf
  rcases eY hf with⟨h0,h1⟩|⟨y,h0,h1,e⟩
  ·obtain⟨a1,a2,a3,a4⟩:=hc.idI (cF _ h0 h1).1 (cF _ h0 h1).2
   rw [rD h0 h1,aIK sc (cF _ h0 h1).1 (cF _ h0 h1).2,uT sc a1 a2 h0 h1,hc.unlI h0 h1]
  ·obtain⟨a1,a2,a3,a4⟩:=hd.idI (dF _ h0 h1).1 (dF _ h0 h1).2
   rw [e,rE h0 h1,Int.add_comm (d.F y),aIL sc sd (dF _ h0 h1).1 (dF _ h0 h1).2,Int.add_comm (d.I _),comp1 a1 a2 h0 h1 a4,hd.unlI h0 h1]
 ·rw [aBy]at hf
  rcases eY hf with⟨h0,h1⟩|⟨y,h0,h1,e⟩
  ·obtain⟨a1,a2,a3,a4⟩:=hc.idI (cT _ h0 h1).1 (cT _ h0 h1).2
   rw [rF sc h0 h1,aIK sc (cT _ h0 h1).1 (cT _ h0 h1).2,uT sc h0 h1 a1 a2,hc.unrI h0 h1]
  ·obtain⟨a1,a2,a3,a4⟩:=hd.idI (dT _ h0 h1).1 (dT _ h0 h1).2
   rw [e,rH sc sd h0 h1,Int.add_comm (d.T y),aIL sc sd (dT _ h0 h1).1 (dT _ h0 h1).2,Int.add_comm (d.I _),comp1 h0 h1 a1 a2 a3.symm,hd.unrI h0 h1]
 ·rw [aBy]at hf hg hq
  rcases eY hf with⟨h0,h1⟩|⟨y,h0,h1,e⟩
  ·rcases eY hg with⟨k0,k1⟩|⟨z,k0,k1,e'⟩
   ·rcases eY hq with⟨l0,l1⟩|⟨u,l0,l1,e2⟩
    ·rw [rF sc h0 h1,rD k0 k1]at m1
     rw [rF sc k0 k1,rD l0 l1]at m2
     obtain⟨p1,p2,p3,p4⟩:=hc.compI h0 h1 k0 k1 m1
     obtain⟨r1,r2,r3,r4⟩:=hc.compI k0 k1 l0 l1 m2
     rw [uT sc h0 h1 k0 k1,uT sc k0 k1 l0 l1,uT sc p1 p2 l0 l1,uT sc h0 h1 r1 r2,hc.assI h0 h1 k0 k1 l0 l1 m1 m2]
    ·rw [e2,rF sc k0 k1,rE l0 l1]at m2
     have:=cT _ k0 k1
     have:=dF _ l0 l1
     omega
   ·rw [e',rF sc h0 h1,rE k0 k1]at m1
    have:=cT _ h0 h1
    have:=dF _ k0 k1
    omega
  ·rcases eY hg with⟨k0,k1⟩|⟨z,k0,k1,e'⟩
   ·rw [e,rH sc sd h0 h1,rD k0 k1]at m1
    have:=dT _ h0 h1
    have:=cF _ k0 k1
    omega
   ·rcases eY hq with⟨l0,l1⟩|⟨u,l0,l1,e2⟩
    ·rw [e',rH sc sd k0 k1,rD l0 l1]at m2
     have:=dT _ k0 k1
     have:=cF _ l0 l1
     omega
    ·rw [e,e',rH sc sd h0 h1,rE k0 k1]at m1
     rw [e',e2,rH sc sd k0 k1,rE l0 l1]at m2
     have n1:d.T y=d.F z:=by omega
     have n2:d.T z=d.F u:=by omega
     obtain⟨p1,p2,p3,p4⟩:=hd.compI h0 h1 k0 k1 n1
     obtain⟨r1,r2,r3,r4⟩:=hd.compI k0 k1 l0 l1 n2
     rw [e,e',e2,comp1 h0 h1 k0 k1 n1,comp1 k0 k1 l0 l1 n2,comp1 p1 p2 l0 l1 (p4.trans n2),comp1 h0 h1 r1 r2 (n1.trans r3.symm),hd.assI h0 h1 k0 k1 l0 l1 n1 n2]
end
end Go.Cats
end
section
namespace Go.Cats
instance (c:Cat) (f g:Nat):Decidable (c.Entry f g):=by unfold Cat.Entry;infer_instance
def aIV (l:List Int) (n:Int):Bool:=l.all fun x=>decide (0≤x)&&decide (x<n)
def catB (c:Cat):Bool:=
 decide (0≤c.ob)&&decide (c.ob≤8)&&decide (c.fr.length≤40)&&decide (c.to.length=c.fr.length)&&decide ((c.id.length:Int)=c.ob)&&decide (c.co.length=c.fr.length)&&
 aIV c.fr c.ob&&aIV c.to c.ob&&aIV c.id c.fr.length&&
 ((List.range c.id.length).all fun x=>decide (c.F (c.id.getD x 0)=x)&&decide (c.T (c.id.getD x 0)=x))&&
 ((List.range c.fr.length).all fun f=>decide ((c.co.getD f []).length=c.fr.length)&&(List.range c.fr.length).all fun g=>decide (c.Entry f g))&&
 ((List.range c.fr.length).all fun f=>decide (c.C (c.I (c.F f)) f=f)&&decide (c.C f (c.I (c.T f))=f))&&
 ((List.range c.fr.length).all fun f=>(List.range c.fr.length).all fun g=> !decide (c.T f=c.F g)||(List.range c.fr.length).all fun h=> !decide (c.T g=c.F h)||decide (c.C (c.C f g) h=c.C f (c.C g h)))
theorem aCk {l:List Int} {n:Int} (h:aIV l n=true):Within l n:=fun i hi=>by
 have h1:=List.all_eq_true.1 h (l.getD i 0) (bI hi)
 simp only [Bool.and_eq_true,decide_eq_true_eq]at h1
 exact h1
theorem vP {c:Cat} (h:catB c=true):IsCat c:=by
 unfold catB at h
 simp only [Bool.and_eq_true,decide_eq_true_eq,List.all_eq_true,List.mem_range,Bool.or_eq_true,Bool.not_eq_true',decide_eq_false_iff_not]at h
 obtain⟨⟨⟨⟨⟨⟨⟨⟨⟨⟨⟨⟨h1,h2⟩,h3⟩,h4⟩,h5⟩,h6⟩,h7⟩,h8⟩,h9⟩,h10⟩,h11⟩,h12⟩,h13⟩:=h
 refine⟨⟨h1,h2,h3,h4,aCk h7,aCk h8,h5,aCk h9,h6,h10,h11⟩,fun f hf=>(h12 f hf).1,fun f hf=>(h12 f hf).2,fun f g q hf hg hq e1 e2=>?_⟩
 rcases h13 f hf g hg with k|k
 ·exact absurd e1 k
 ·rcases k q hq with k|k
  ·exact absurd e2 k
  ·exact k
def moC (t:List (List Int)):Cat:=⟨1,List.replicate t.length 0,List.replicate t.length 0,[0],t⟩
def moT:Nat→List (List Int)
 |0=>[[0]]
 |1=>[[0,1],[1,0]]
 |2=>[[0,1],[1,1]]
 |3=>[[0,1,2],[1,2,0],[2,0,1]]
 |4=>[[0,1,2],[1,1,2],[2,2,2]]
 |5=>[[0,1,2],[1,1,2],[2,1,2]]
 |6=>[[0,1,2,3],[1,0,2,3],[2,3,2,3],[3,2,2,3]]
 |_=>[[0,1,2],[1,2,2],[2,2,2]]
def opR (c:Cat) (f k:Nat):List Int:=(List.range k).map fun g:Nat=>c.C (g:Int) (f:Int)
def opC (c:Cat):Cat:=⟨c.ob,c.to,c.fr,c.id,(List.range c.fr.length).map fun f=>opR c f c.fr.length⟩
def jnF (n k:Nat):List Int:=(List.range k).map fun k=>((k/n:Nat):Int)
def jnT (o:Int) (n k:Nat):List Int:=(List.range k).map fun k=>o+((k%n:Nat):Int)
def jnE (s:Cat) (o p:Int) (fr to:List Int) (f g:Nat):Int:=
 if to.getD f 0≠fr.getD g 0 then-1 else if f<s.fr.length∧g<s.fr.length then s.C f g else(s.fr.length:Int)+fr.getD f 0*p+to.getD g 0-o
def jnW (s:Cat) (o p:Int) (fr to:List Int) (f k:Nat):List Int:=(List.range k).map (jnE s o p fr to f)
def jnC (c d:Cat):Cat:=
 let fr:=(smC c d).fr++jnF d.ob.toNat (c.ob.toNat*d.ob.toNat)
 let to:=(smC c d).to++jnT c.ob d.ob.toNat (c.ob.toNat*d.ob.toNat)
 ⟨(smC c d).ob,fr,to,(smC c d).id,(List.range fr.length).map fun f=>jnW (smC c d) c.ob d.ob fr to f fr.length⟩
def one1:Cat:=poC [[1]] 1
def splC:Cat:=⟨2,[0,1,0,0,1],[0,1,0,1,0],[0,1],[[0, -1,2,3, -1],[-1,1, -1, -1,4],[2, -1,2,3, -1],[-1,3, -1, -1,2],[4, -1,4,1, -1]]⟩
theorem kR (P:List (List Int)→Prop) (h:∀i,i<8→P (moT i)) (k:Nat):P (moT k):=by
 rcases Nat.lt_or_ge k 8 with h1|h1
 ·exact h k h1
 ·have e:moT k=moT 7:=by
   match k,h1 with
   |k+8,_=>rfl
  rw [e];exact h 7 (by decide)
theorem aHe (k:Nat):IsCat (moC (moT k)):=kR (fun t=>IsCat (moC t)) (fun i hi=>vP (by
 have:((List.range 8).all fun i=>catB (moC (moT i)))=true:=by decide+kernel
 exact List.all_eq_true.1 this i (List.mem_range.2 hi))) k
theorem aLS (k:Nat):IsCat (jnC (moC (moT k)) one1):=kR (fun t=>IsCat (jnC (moC t) one1)) (fun i hi=>vP (by
 have:((List.range 8).all fun i=>catB (jnC (moC (moT i)) one1))=true:=by decide+kernel
 exact List.all_eq_true.1 this i (List.mem_range.2 hi))) k
theorem aMj (k:Nat):IsCat (opC (jnC (moC (moT k)) one1)):=kR (fun t=>IsCat (opC (jnC (moC t) one1))) (fun i hi=>vP (by
 have:((List.range 8).all fun i=>catB (opC (jnC (moC (moT i)) one1)))=true:=by decide+kernel
 exact List.all_eq_true.1 this i (List.mem_range.2 hi))) k
theorem aPu:IsCat splC:=vP (by decide+kernel)
end Go.Cats
end
section
namespace Go.Cats
def wS (R:List (List Int)) (k i j:Nat):List (List Int):=if mE R i k=1∧mE R k j=1 then R.set i ((R.getD i []).set j 1)else R
def wJ (R:List (List Int)) (k i:Nat):Nat→List (List Int)
 |0=>R
 |j+1=>wS (wJ R k i j) k i j
def wI (R:List (List Int)) (n k:Nat):Nat→List (List Int)
 |0=>R
 |i+1=>wJ (wI R n k i) k i n
def wK (R:List (List Int)) (n:Nat):Nat→List (List Int)
 |0=>R
 |k+1=>wI (wK R n k) n k n
def poB (R:List (List Int)) (n:Nat):Bool:=
 decide (n≤6)&&((List.range n).all fun i=>decide (mE R i i=1))&&((List.range n).all fun i=>(List.range n).all fun j=>(List.range n).all fun k=> !(decide (mE R i j=1)&&decide (mE R j k=1))||decide (mE R i k=1))
theorem uL {R:List (List Int)} {n:Nat} (h:poB R n=true):PoOK R n:=by
 unfold poB at h
 simp only [Bool.and_eq_true,decide_eq_true_eq,List.all_eq_true,List.mem_range,Bool.or_eq_true,Bool.not_eq_true',Bool.and_eq_false_iff,decide_eq_false_iff_not]at h
 obtain⟨⟨h1,h2⟩,h3⟩:=h
 refine⟨h1,h2,fun i j k hi hj hk a b=>?_⟩
 rcases h3 i hi j hj k hk with(q|q)|q
 ·exact absurd a q
 ·exact absurd b q
 ·exact q
def aKL (n i:Nat) (r:List Int):Prop:=r.length=n∧∀j,j<n→(j<i→r.getD j 0=0)∧(j=i→r.getD j 0=1)∧(i<j→r.getD j 0=0∨r.getD j 0=1)
structure RelOk (n:Nat) (R:List (List Int)):Prop where
 len:R.length=n
 row:∀i,i<n→aKL n i (R.getD i [])
def aF2 (n i:Nat):Nat→List (List Int)
 |0=>[[]]
 |k+1=>(aF2 n i k).flatMap fun r=>if k<i then [r++[0]]else if k=i then [r++[1]]else [r++[0],r++[1]]
def aFV (n:Nat):Nat→List (List (List Int))
 |0=>[[]]
 |i+1=>(aFV n i).flatMap fun R=>(aF2 n i n).map fun r=>R++[r]
def aEn (n:Nat) (R:List (List Int)):Option Nat→List (List Int)
 |none=>R
 |some x=>R.set (n-1) ((R.getD (n-1) []).set x 1)
theorem aIM {α:Type} {l:List α} {k:Nat} {d:α} (h:l.length=k+1):l=l.take k++[l.getD k d]:=by
 have e:=List.take_succ_eq_append_getElem (l:=l) (i:=k) (by omega)
 rw [List.take_of_length_le (by omega)]at e
 rw [List.getD_eq_getElem?_getD,List.getElem?_eq_getElem (by omega)]
 exact e
theorem aDE {n i:Nat}:∀(k:Nat) (r:List Int),r.length=k→(∀j,j<k→(j<i→r.getD j 0=0)∧(j=i→r.getD j 0=1)∧(i<j→r.getD j 0=0∨r.getD j 0=1))→r∈aF2 n i k
 |0,r,h,_=>by rw [List.length_eq_zero_iff.1 h];simp [aF2]
 |k+1,r,h,hr=>by
  have e:=aIM (d:=0) h
  have hl:(r.take k).length=k:=by rw [List.length_take];omega
  have ih:=aDE (n:=n) (i:=i) k (r.take k) hl fun j hj=>by
   have:=hr j (by omega)
   have e2:(r.take k).getD j 0=r.getD j 0:=by rw [List.getD_eq_getElem?_getD,List.getElem?_take,if_pos hj,←List.getD_eq_getElem?_getD]
   rw [e2];exact this
  have hk:=hr k (by omega)
  rw [aF2,List.mem_flatMap]
  refine⟨_,ih,?_⟩
  split
  ·rename_i h1
   rw [List.mem_singleton,←hk.1 h1];exact e
  ·split
   ·rename_i h1
    rw [List.mem_singleton]
    have:=hk.2.1 h1
    rw [this]at e;exact e
   ·have:=hk.2.2 (by omega)
    rcases this with h0|h0
    ·rw [h0]at e;exact List.mem_cons.2 (.inl e)
    ·rw [h0]at e;exact List.mem_cons.2 (.inr (List.mem_singleton.2 e))
theorem aDz {n:Nat}:∀(k:Nat) (R:List (List Int)),k≤n→R.length=k→(∀i,i<k→aKL n i (R.getD i []))→R∈aFV n k
 |0,R,_,h,_=>by rw [List.length_eq_zero_iff.1 h];simp [aFV]
 |k+1,R,hn,h,hr=>by
  have e:=aIM (d:=[]) h
  have hl:(R.take k).length=k:=by rw [List.length_take];omega
  have ih:=aDz (n:=n) k (R.take k) (by omega) hl fun i hi=>by
   have:=hr i (by omega)
   have e2:(R.take k).getD i []=R.getD i []:=by rw [List.getD_eq_getElem?_getD,List.getElem?_take,if_pos hi,←List.getD_eq_getElem?_getD]
   rw [e2];exact this
  have hk:=hr k (by omega)
  rw [aFV,List.mem_flatMap]
  exact⟨_,ih,List.mem_map.2 ⟨_,aDE n _ hk.1 hk.2,e.symm⟩⟩
theorem aMT:((List.range 5).all fun n=>(aFV n n).all fun R=>poB (wK R n n) n&&(List.range n).all fun x=>poB (wK (aEn n R (some x)) n n) n)=true:=by decide+kernel
theorem aRz {n:Nat} {R:List (List Int)} {x:Option Nat} (hn:n<5) (h:RelOk n R) (hx:∀y,x=some y→y<n):PoOK (wK (aEn n R x) n n) n:=by
 have h1:=List.all_eq_true.1 (List.all_eq_true.1 aMT n (List.mem_range.2 hn)) R (aDz n R (Nat.le_refl n) h.len h.row)
 simp only [Bool.and_eq_true,List.all_eq_true,List.mem_range]at h1
 cases x with
 |none=>exact uL h1.1
 |some y=>exact uL (h1.2 y (hx y rfl))
def qG (n:Nat):List (List Int):=List.replicate n (List.replicate n 1)
theorem aCP {n:Nat} (hn:n<5):PoOK (qG n) n:=uL (by
 have:((List.range 5).all fun n=>poB (qG n) n)=true:=by decide+kernel
 exact List.all_eq_true.1 this n (List.mem_range.2 hn))
theorem po1:PoOK [[1]] 1:=uL (by decide)
theorem po2:PoOK [[1,1],[0,1]] 2:=uL (by decide)
theorem po3:PoOK [[1,1,1],[0,1,0],[0,0,1]] 3:=uL (by decide)
end Go.Cats
end
section
namespace Go.Cats
abbrev Pth:=Int×Int×List Int
def bC:Pth:=(0,0,[])
def bfE (fr to:List Int) (p:Pth):Nat→List Pth
 |0=>[]
 |e+1=>if fr.getD e 0=p.2.1 then bfE fr to p e++[(p.1,to.getD e 0,p.2.2++[(e:Int)])]else bfE fr to p e
def bf0 (n:Nat):List Pth:=(List.range n).map fun x:Nat=>((x:Int),(x:Int),[])
def bfK (fr to:List Int):Nat→List Pth→Nat→List Pth
 |0,L,_=>L
 |q+1,L,k=>if k<L.length∧L.length≤40 then bfK fr to q (L++bfE fr to (L.getD k bC) fr.length) (k+1)else L
def aFL (a b:Pth):Bool:=if a.1≠b.1 then decide (a.1<b.1)else if a.2.1≠b.2.1 then decide (a.2.1<b.2.1)else wM a.2.2 b.2.2
def swP (L:List Pth) (k:Nat):List Pth:=(L.set (k+1) (L.getD k bC)).set k (L.getD (k+1) bC)
def dnP (L:List Pth):Nat→List Pth
 |0=>L
 |k+1=>if aFL (L.getD (k+1) bC) (L.getD k bC)then dnP (swP L k) k else L
def stP (L:List Pth):Nat→List Pth
 |0=>L
 |i+1=>dnP (stP L i) i
def iO (n:Nat) (fr to:List Int):List Pth:=let L:=bfK fr to 64 (bf0 n) 0;stP L L.length
def idP (n:Nat) (A:List Pth):Nat→List Int
 |0=>List.replicate n 0
 |i+1=>if(A.getD i bC).2.2=[]then(idP n A i).set (A.getD i bC).1.toNat (i:Int)else idP n A i
def wH (A:List Pth) (f:Int) (b:List Int):Nat→Int
 |0=> -1
 |k+1=>if(A.getD k bC).1=f∧(A.getD k bC).2.2=b then(k:Int)else wH A f b k
def coP (A:List Pth) (i j:Nat):Int:=if(A.getD i bC).2.1=(A.getD j bC).1 then wH A (A.getD i bC).1 ((A.getD i bC).2.2++(A.getD j bC).2.2) A.length else-1
def cwP (A:List Pth) (i k:Nat):List Int:=(List.range k).map (coP A i)
def ptC (n:Nat) (A:List Pth):Cat:=⟨n,A.map (·.1),A.map (·.2.1),idP n A A.length,(List.range A.length).map fun i=>cwP A i A.length⟩
structure GrOk (n:Nat) (fr to:List Int):Prop where
 n2:n=2∨n=3
 len:fr.length≤3
 tol:to.length=fr.length
 edge:∀e,e<fr.length→0≤fr.getD e 0∧fr.getD e 0<to.getD e 0∧to.getD e 0<n
def egs (n:Nat):List (Int×Int):=if n=2 then [(0,1)]else [(0,1),(0,2),(1,2)]
def grs (n:Nat):Nat→List (List Int×List Int)
 |0=>[([],[])]
 |k+1=>(grs n k).flatMap fun g=>(egs n).map fun e=>(g.1++[e.1],g.2++[e.2])
theorem aFG {l:List Int} {k:Nat} (h:l.length=k+1):l=l.take k++[l.getD k 0]:=by
 have e:=List.take_succ_eq_append_getElem (l:=l) (i:=k) (by omega)
 rw [List.take_of_length_le (by omega)]at e
 rw [List.getD_eq_getElem?_getD,List.getElem?_eq_getElem (by omega)]
 exact e
theorem take_at {l:List Int} {k e:Nat} (h:e<k):(l.take k).getD e 0=l.getD e 0:=by
 rw [List.getD_eq_getElem?_getD,List.getElem?_take,if_pos h,←List.getD_eq_getElem?_getD]
theorem aAx {n:Nat} (hn:n=2∨n=3):∀(k:Nat) (fr to:List Int),fr.length=k→to.length=k→(∀e,e<k→0≤fr.getD e 0∧fr.getD e 0<to.getD e 0∧to.getD e 0<n)→(fr,to)∈grs n k
 |0,fr,to,h1,h2,_=>by rw [List.length_eq_zero_iff.1 h1,List.length_eq_zero_iff.1 h2];simp [grs]
 |k+1,fr,to,h1,h2,h=>by
  have e1:=aFG h1
  have e2:=aFG h2
  have ih:=aAx hn k (fr.take k) (to.take k) (by rw [List.length_take];omega) (by rw [List.length_take];omega) fun e he=>by
   rw [take_at he,take_at he];exact h e (by omega)
  have hk:=h k (by omega)
  rw [grs,List.mem_flatMap]
  refine⟨_,ih,List.mem_map.2 ⟨(fr.getD k 0,to.getD k 0),?_,by rw [←e1,←e2]⟩⟩
  generalize fr.getD k 0=a at hk
  generalize to.getD k 0=b at hk
  unfold egs
  rcases hn with rfl|rfl
  ·obtain rfl:a=0:=by omega
   obtain rfl:b=1:=by omega
   simp
  ·rw [if_neg (by decide)]
   have ha:a=0∨a=1:=by omega
   rcases ha with rfl|rfl
   ·have hb:b=1∨b=2:=by omega
    rcases hb with rfl|rfl<;>simp
   ·obtain rfl:b=2:=by omega
    simp
def ptB (n:Nat) (fr to:List Int):Bool:=
 let L:=bfK fr to 64 (bf0 n) 0
 decide (L.length≤40)&&catB (ptC n (iO n fr to))
theorem aOx:((List.range 4).all fun k=>(grs 2 k).all fun g=>ptB 2 g.1 g.2)=true:=by decide+kernel
theorem aLA:((List.range 4).all fun k=>(grs 3 k).all fun g=>ptB 3 g.1 g.2)=true:=by decide+kernel
theorem GrOk.b {n:Nat} {fr to:List Int} (h:GrOk n fr to):ptB n fr to=true:=by
 have hm:=aAx h.n2 fr.length fr to rfl h.tol h.edge
 have hl:=h.len
 rcases h.n2 with rfl|rfl
 ·exact List.all_eq_true.1 (List.all_eq_true.1 aOx fr.length (List.mem_range.2 (by omega))) _ hm
 ·exact List.all_eq_true.1 (List.all_eq_true.1 aLA fr.length (List.mem_range.2 (by omega))) _ hm
theorem GrOk.cat {n:Nat} {fr to:List Int} (h:GrOk n fr to):IsCat (ptC n (iO n fr to)):=by
 have:=h.b
 unfold ptB at this
 simp only [Bool.and_eq_true]at this
 exact vP this.2
theorem GrOk.few {n:Nat} {fr to:List Int} (h:GrOk n fr to):(bfK fr to 64 (bf0 n) 0).length≤40:=by
 have:=h.b
 unfold ptB at this
 simp only [Bool.and_eq_true,decide_eq_true_eq]at this
 exact this.1
end Go.Cats
end
section
namespace Go.Cats
def pq (n:Nat) (x y:List Int) (w:Int) (k:Nat):List Int:=(List.range k).map fun k=>x.getD (k/n) 0*w+y.getD (k%n) 0
section
variable {n k i j:Nat} {x y:List Int} {w:Int}
theorem aO2 (n x y w):pq n x y w 0=[]:=rfl
theorem uN:(pq n x y w k).length=k:=by unfold pq;rw [List.length_map,List.length_range]
theorem wP (hj:j<n):(i*n+j)/n=i:=by
 have h0:0<n:=by omega
 rw [Nat.add_comm,Nat.add_mul_div_right _ _ h0,Nat.div_eq_of_lt hj,Nat.zero_add]
theorem wQ (hj:j<n):(i*n+j)%n=j:=by
 rw [Nat.add_comm,Nat.add_mul_mod_self_right,Nat.mod_eq_of_lt hj]
theorem aEi {m:Nat} (hi:i<m) (hj:j<n):i*n+j<m*n:=by
 have:(i+1)*n≤m*n:=Nat.mul_le_mul_right n hi
 rw [Nat.succ_mul]at this
 omega
theorem aEl (hj:j<n):pq n x y w (i*n+(j+1))=pq n x y w (i*n+j)++[x.getD i 0*w+y.getD j 0]:=by
 rw [←Nat.add_assoc]
 unfold pq
 rw [List.range_succ,List.map_append,List.map_singleton,wP hj,wQ hj]
theorem aUk {m:Nat} (h:k<m):(pq n x y w m).getD k 0=x.getD (k/n) 0*w+y.getD (k%n) 0:=by
 unfold pq;rw [List.getD_eq_getElem?_getD,List.getElem?_map,List.getElem?_range h];rfl
theorem aEk {m:Nat} (hi:i<m) (hj:j<n):(pq n x y w (m*n)).getD (i*n+j) 0=x.getD i 0*w+y.getD j 0:=by
 rw [aUk (aEi hi hj),wP hj,wQ hj]
theorem aA1 {m:Nat} (h:k<m*n):k/n<m∧k%n<n:=by
 have h0:0<n:=by
  rcases Nat.eq_zero_or_pos n with e|e
  ·subst e;omega
  ·exact e
 exact⟨Nat.div_lt_of_lt_mul (by rw [Nat.mul_comm];exact h),Nat.mod_lt _ h0⟩
end
def prE (c d:Cat) (k l:Nat):Int:=
 if 0≤c.C (k/d.fr.length:Nat) (l/d.fr.length:Nat)∧0≤d.C (k%d.fr.length:Nat) (l%d.fr.length:Nat)then
  c.C (k/d.fr.length:Nat) (l/d.fr.length:Nat)*d.fr.length+d.C (k%d.fr.length:Nat) (l%d.fr.length:Nat)else-1
def prW (c d:Cat) (k l:Nat):List Int:=(List.range l).map (prE c d k)
def prT (c d:Cat) (k:Nat):List (List Int):=(List.range k).map fun k=>prW c d k (c.fr.length*d.fr.length)
def prC (c d:Cat):Cat:=⟨c.ob*d.ob,pq d.fr.length c.fr d.fr d.ob (c.fr.length*d.fr.length),pq d.fr.length c.to d.to d.ob (c.fr.length*d.fr.length),pq d.id.length c.id d.id d.fr.length (c.id.length*d.id.length),prT c d (c.fr.length*d.fr.length)⟩
section
variable {c d:Cat} {i j k l a b:Nat}
theorem aMD (c d k):prW c d k 0=[]:=rfl
theorem aMB (c d):prT c d 0=[]:=rfl
theorem aIB:(prW c d k l).length=l:=by unfold prW;rw [List.length_map,List.length_range]
theorem aIA:(prT c d k).length=k:=by unfold prT;rw [List.length_map,List.length_range]
theorem aFQ (hj:j<d.fr.length) (hb:b<d.fr.length):prE c d (i*d.fr.length+j) (a*d.fr.length+b)=if 0≤c.C i a∧0≤d.C j b then c.C i a*d.fr.length+d.C j b else-1:=by
 unfold prE;rw [wP hj,wQ hj,wP hb,wQ hb]
theorem aMC (hj:j<d.fr.length) (hb:b<d.fr.length):prW c d (i*d.fr.length+j) (a*d.fr.length+(b+1))=prW c d (i*d.fr.length+j) (a*d.fr.length+b)++[if 0≤c.C i a∧0≤d.C j b then c.C i a*d.fr.length+d.C j b else-1]:=by
 rw [←Nat.add_assoc,←aFQ hj hb]
 unfold prW
 rw [List.range_succ,List.map_append,List.map_singleton]
theorem aMA:prT c d (i*d.fr.length+(j+1))=prT c d (i*d.fr.length+j)++[prW c d (i*d.fr.length+j) (c.fr.length*d.fr.length)]:=by
 rw [←Nat.add_assoc];unfold prT;rw [List.range_succ,List.map_append,List.map_singleton]
theorem aRU {x x' n y y':Int} (h0:0≤y) (h1:y<n) (h2:0≤y') (h3:y'<n):x*n+y=x'*n+y'↔x=x'∧y=y':=by
 constructor
 ·intro h
  have hx:x=x':=by
   have e1:(x*n+y)/n=x:=by rw [Int.add_comm,Int.add_mul_ediv_right _ _ (by omega),Int.ediv_eq_zero_of_lt h0 h1];omega
   have e2:(x'*n+y')/n=x':=by rw [Int.add_comm,Int.add_mul_ediv_right _ _ (by omega),Int.ediv_eq_zero_of_lt h2 h3];omega
   rw [←e1,←e2,h]
  subst hx
  exact⟨rfl,by omega⟩
 ·rintro⟨rfl,rfl⟩;rfl
end
section
variable {c d:Cat} {f:Fun} {i:Int} {k j a:Nat}
end
abbrev go2 (d:Cat) (f:Fun) (x y:Int):Int:=f.obs.getD (x*d.ob+y).toNat 0
abbrev ga2 (d:Cat) (f:Fun) (x y:Int):Int:=f.ars.getD (x*d.fr.length+y).toNat 0
structure TwoF (c d:Cat) (f:Fun):Prop where
 sc:IsCat c
 sd:IsCat d
 tg:IsCat f.tgt
 obl:f.obs.length=c.ob.toNat*d.ob.toNat
 arl:f.ars.length=c.fr.length*d.fr.length
 obw:Within f.obs f.tgt.ob
 arw:Within f.ars f.tgt.fr.length
 ends:∀i j:Nat,i<c.fr.length→j<d.fr.length→f.tgt.F (ga2 d f i j)=go2 d f (c.fr.getD i 0) (d.fr.getD j 0)∧f.tgt.T (ga2 d f i j)=go2 d f (c.to.getD i 0) (d.to.getD j 0)
 unit:∀p q:Nat,p<c.id.length→q<d.id.length→ga2 d f (c.id.getD p 0) (d.id.getD q 0)=f.tgt.I (go2 d f p q)
 comp:∀i j a b:Nat,i<c.fr.length→j<d.fr.length→a<c.fr.length→b<d.fr.length→c.to.getD i 0=c.fr.getD a 0→d.to.getD j 0=d.fr.getD b 0→ga2 d f (c.C i a) (d.C j b)=f.tgt.C (ga2 d f i j) (ga2 d f a b)
section
variable {c d:Cat} {f:Fun} {i a:Nat}
end
end Go.Cats
end
section
namespace Go.Cats
theorem aEO {a b A B:Int} (h0:0≤a) (h1:a<A) (h2:0≤b) (h3:b<B):0≤a*B+b∧a*B+b<A*B:=by
 have k1:(a+1)*B≤A*B:=Int.mul_le_mul_of_nonneg_right (by omega) (by omega)
 have k2:0≤a*B:=Int.mul_nonneg h0 (by omega)
 rw [Int.add_mul,Int.one_mul]at k1
 exact⟨by omega,by omega⟩
theorem lQ {x y:Int} {m:Nat} (h0:0≤x) (h2:0≤y):(x*m+y).toNat=x.toNat*m+y.toNat:=by
 obtain⟨a,rfl⟩:=Int.eq_ofNat_of_zero_le h0
 obtain⟨b,rfl⟩:=Int.eq_ofNat_of_zero_le h2
 rw [←Int.natCast_mul,←Int.natCast_add,Int.toNat_natCast,Int.toNat_natCast,Int.toNat_natCast]
section
variable {c d:Cat} {x y x' y':Int} {f g:Nat}
theorem aBt:(prC c d).fr.length=c.fr.length*d.fr.length:=uN
theorem aQb:(prC c d).to.length=c.fr.length*d.fr.length:=uN
theorem aME:(prC c d).id.length=c.id.length*d.id.length:=uN
theorem aJY (h0:0≤x) (h1:x<c.fr.length) (h2:0≤y) (h3:y<d.fr.length):(prC c d).F (x*d.fr.length+y)=c.F x*d.ob+d.F y:=by
 unfold Cat.F
 rw [lQ h0 h2]
 exact aEk (by omega) (by omega)
theorem aJZ (h0:0≤x) (h1:x<c.fr.length) (h2:0≤y) (h3:y<d.fr.length):(prC c d).T (x*d.fr.length+y)=c.T x*d.ob+d.T y:=by
 unfold Cat.T
 rw [lQ h0 h2]
 exact aEk (by omega) (by omega)
theorem aO4 (sc:Shape c) (sd:Shape d) (h0:0≤x) (h1:x<c.ob) (h2:0≤y) (h3:y<d.ob):(prC c d).I (x*d.ob+y)=c.I x*d.fr.length+d.I y:=by
 have e1:=sc.idl
 have e2:=sd.idl
 unfold Cat.I
 rw [←e2,lQ h0 h2]
 exact aEk (by omega) (by omega)
theorem aHm (sc:Shape c) (sd:Shape d) (h0:0≤x) (h1:x<c.fr.length) (h2:0≤y) (h3:y<d.fr.length) (k0:0≤x') (k1:x'<c.fr.length) (k2:0≤y') (k3:y'<d.fr.length):
  (prC c d).C (x*d.fr.length+y) (x'*d.fr.length+y')=if c.T x=c.F x'∧d.T y=d.F y' then c.C x x'*d.fr.length+d.C y y' else-1:=by
 have b1:x.toNat<c.fr.length:=by omega
 have b2:y.toNat<d.fr.length:=by omega
 have b3:x'.toNat<c.fr.length:=by omega
 have b4:y'.toNat<d.fr.length:=by omega
 have hk:=aEi b1 b2
 have hl:=aEi b3 b4
 have n1:=sc.neg b1 b3
 have n2:=sd.neg b2 b4
 rw [Int.toNat_of_nonneg h0,Int.toNat_of_nonneg k0]at n1
 rw [Int.toNat_of_nonneg h2,Int.toNat_of_nonneg k2]at n2
 have e:(prC c d).C (x*d.fr.length+y) (x'*d.fr.length+y')=prE c d (x.toNat*d.fr.length+y.toNat) (x'.toNat*d.fr.length+y'.toNat):=by
  show((prT c d (c.fr.length*d.fr.length)).getD (x*d.fr.length+y).toNat []).getD (x'*d.fr.length+y').toNat 0=_
  rw [lQ h0 h2,lQ k0 k2]
  unfold prT
  rw [List.getD_eq_getElem?_getD (l:=List.map _ _) (i:=x.toNat*d.fr.length+y.toNat),List.getElem?_map,List.getElem?_range hk]
  show(prW c d _ _).getD _ 0=_
  unfold prW
  rw [List.getD_eq_getElem?_getD,List.getElem?_map,List.getElem?_range hl];rfl
 rw [e,aFQ b2 b4,Int.toNat_of_nonneg h0,Int.toNat_of_nonneg h2,Int.toNat_of_nonneg k0,Int.toNat_of_nonneg k2]
 by_cases h:c.T x=c.F x'∧d.T y=d.F y'
 ·rw [if_pos h,if_pos]
  exact⟨Int.not_lt.1 fun q=>(n1.1 q) h.1,Int.not_lt.1 fun q=>(n2.1 q) h.2⟩
 ·rw [if_neg h,if_neg]
  rintro⟨q1,q2⟩
  refine h ⟨Classical.byContradiction fun q=>?_,Classical.byContradiction fun q=>?_⟩
  ·have:=n1.2 q;omega
  ·have:=n2.2 q;omega
theorem iX (h:f<c.fr.length*d.fr.length):∃x y:Int,0≤x∧x<c.fr.length∧0≤y∧y<d.fr.length∧(f:Int)=x*d.fr.length+y:=by
 obtain⟨h1,h2⟩:=aA1 h
 refine⟨((f/d.fr.length:Nat):Int),((f%d.fr.length:Nat):Int),Int.natCast_nonneg _,by omega,Int.natCast_nonneg _,by omega,?_⟩
 rw [←Int.natCast_mul,←Int.natCast_add,Nat.mul_comm,Nat.div_add_mod]
theorem aO3 (hc:IsCat c) (hd:IsCat d) (h8:c.ob*d.ob≤8) (h40:c.fr.length*d.fr.length≤40):IsCat (prC c d):=by
 have sc:=hc.toShape
 have sd:=hd.toShape
 have e1:=sc.idl
 have e2:=sd.idl
 have cF:∀z:Int,0≤z→z<c.fr.length→0≤c.F z∧c.F z<c.ob:=fun z h0 h1=>sc.frw z.toNat (by omega)
 have cT:∀z:Int,0≤z→z<c.fr.length→0≤c.T z∧c.T z<c.ob:=fun z h0 h1=>sc.tow z.toNat (by rw [sc.tol];omega)
 have dF:∀z:Int,0≤z→z<d.fr.length→0≤d.F z∧d.F z<d.ob:=fun z h0 h1=>sd.frw z.toNat (by omega)
 have dT:∀z:Int,0≤z→z<d.fr.length→0≤d.T z∧d.T z<d.ob:=fun z h0 h1=>sd.tow z.toNat (by rw [sd.tol];omega)
 have bigI:∀f:Nat,f<(prC c d).id.length→∃x y:Int,0≤x∧x<c.ob∧0≤y∧y<d.ob∧(f:Int)=x*d.ob+y:=fun f hf=>by
  rw [aME]at hf
  obtain⟨h1,h2⟩:=aA1 hf
  refine⟨((f/d.id.length:Nat):Int),((f%d.id.length:Nat):Int),Int.natCast_nonneg _,by omega,Int.natCast_nonneg _,by omega,?_⟩
  rw [←e2,←Int.natCast_mul,←Int.natCast_add,Nat.mul_comm,Nat.div_add_mod]
 have meet:∀{x y x' y':Int},0≤x→x<c.fr.length→0≤y→y<d.fr.length→0≤x'→x'<c.fr.length→0≤y'→y'<d.fr.length→((prC c d).T (x*d.fr.length+y)=(prC c d).F (x'*d.fr.length+y')↔c.T x=c.F x'∧d.T y=d.F y'):=fun h0 h1 h2 h3 k0 k1 k2 k3=>by
  rw [aJZ h0 h1 h2 h3,aJY k0 k1 k2 k3]
  exact aRU (dT _ h2 h3).1 (dT _ h2 h3).2 (dF _ k2 k3).1 (dF _ k2 k3).2
 have shp:Shape (prC c d):=by
  refine⟨Int.mul_nonneg sc.ob0 sd.ob0,h8,by rw [aBt];exact h40,by rw [aBt,aQb],fun f hf=>?_,fun f hf=>?_,?_,fun i hi=>?_,?_,fun i hi=>?_,fun f hf=>⟨?_,fun g hg=>?_⟩⟩
  ·rw [aBt]at hf
   obtain⟨x,y,h0,h1,h2,h3,e⟩:=iX hf
   have:=aJY h0 h1 h2 h3
   rw [←e]at this
   show 0≤(prC c d).F (f:Int)∧(prC c d).F (f:Int)<c.ob*d.ob
   rw [this]
   exact aEO (cF x h0 h1).1 (cF x h0 h1).2 (dF y h2 h3).1 (dF y h2 h3).2
  ·rw [aQb]at hf
   obtain⟨x,y,h0,h1,h2,h3,e⟩:=iX hf
   have:=aJZ h0 h1 h2 h3
   rw [←e]at this
   show 0≤(prC c d).T (f:Int)∧(prC c d).T (f:Int)<c.ob*d.ob
   rw [this]
   exact aEO (cT x h0 h1).1 (cT x h0 h1).2 (dT y h2 h3).1 (dT y h2 h3).2
  ·rw [aME,Int.natCast_mul,e1,e2];rfl
  ·obtain⟨x,y,h0,h1,h2,h3,e⟩:=bigI i hi
   have:=aO4 sc sd h0 h1 h2 h3
   rw [←e]at this
   show 0≤(prC c d).I (i:Int)∧(prC c d).I (i:Int)<_
   rw [this,aBt,Int.natCast_mul]
   obtain⟨a1,a2,_⟩:=hc.idI h0 h1
   obtain⟨b1,b2,_⟩:=hd.idI h2 h3
   exact aEO a1 a2 b1 b2
  ·show(prT c d _).length=_
   rw [aIA,aBt]
  ·obtain⟨x,y,h0,h1,h2,h3,e⟩:=bigI i hi
   have:=aO4 sc sd h0 h1 h2 h3
   rw [←e]at this
   obtain⟨a1,a2,a3,a4⟩:=hc.idI h0 h1
   obtain⟨b1,b2,b3,b4⟩:=hd.idI h2 h3
   show(prC c d).F ((prC c d).I (i:Int))=i∧(prC c d).T ((prC c d).I (i:Int))=i
   rw [this,aJY a1 a2 b1 b2,aJZ a1 a2 b1 b2,a3,a4,b3,b4,e]
   exact⟨rfl,rfl⟩
  ·rw [aBt]at hf⊢
   show((prT c d _).getD f []).length=_
   unfold prT
   rw [List.getD_eq_getElem?_getD,List.getElem?_map,List.getElem?_range hf]
   exact aIB
  ·rw [aBt]at hf hg
   obtain⟨x,y,h0,h1,h2,h3,ef⟩:=iX hf
   obtain⟨x',y',k0,k1,k2,k3,eg⟩:=iX hg
   have hC:=aHm sc sd h0 h1 h2 h3 k0 k1 k2 k3
   have hM:=meet h0 h1 h2 h3 k0 k1 k2 k3
   rw [←ef,←eg]at hC hM
   show((prC c d).T (f:Int)=(prC c d).F (g:Int)∧_∧(prC c d).F _=(prC c d).F (f:Int)∧(prC c d).T _=(prC c d).T (g:Int))∨((prC c d).T (f:Int)≠(prC c d).F (g:Int)∧_)
   by_cases h:c.T x=c.F x'∧d.T y=d.F y'
   ·rw [if_pos h]at hC
    obtain⟨p1,p2,p3,p4⟩:=hc.compI h0 h1 k0 k1 h.1
    obtain⟨q1,q2,q3,q4⟩:=hd.compI h2 h3 k2 k3 h.2
    refine .inl ⟨hM.2 h,?_,?_,?_⟩
    ·rw [hC,aBt,Int.natCast_mul];exact aEO p1 p2 q1 q2
    ·rw [hC,aJY p1 p2 q1 q2,p3,q3,ef,aJY h0 h1 h2 h3]
    ·rw [hC,aJZ p1 p2 q1 q2,p4,q4,eg,aJZ k0 k1 k2 k3]
   ·rw [if_neg h]at hC
    exact .inr ⟨fun q=>h (hM.1 q),hC⟩
 refine⟨shp,fun f hf=>?_,fun f hf=>?_,fun f g q hf hg hq m1 m2=>?_⟩
 ·rw [aBt]at hf
  obtain⟨x,y,h0,h1,h2,h3,e⟩:=iX hf
  obtain⟨a1,a2,a3,a4⟩:=hc.idI (cF x h0 h1).1 (cF x h0 h1).2
  obtain⟨b1,b2,b3,b4⟩:=hd.idI (dF y h2 h3).1 (dF y h2 h3).2
  rw [e,aJY h0 h1 h2 h3,aO4 sc sd (cF x h0 h1).1 (cF x h0 h1).2 (dF y h2 h3).1 (dF y h2 h3).2,aHm sc sd a1 a2 b1 b2 h0 h1 h2 h3,if_pos ⟨a4,b4⟩,hc.unlI h0 h1,hd.unlI h2 h3]
 ·rw [aBt]at hf
  obtain⟨x,y,h0,h1,h2,h3,e⟩:=iX hf
  obtain⟨a1,a2,a3,a4⟩:=hc.idI (cT x h0 h1).1 (cT x h0 h1).2
  obtain⟨b1,b2,b3,b4⟩:=hd.idI (dT y h2 h3).1 (dT y h2 h3).2
  rw [e,aJZ h0 h1 h2 h3,aO4 sc sd (cT x h0 h1).1 (cT x h0 h1).2 (dT y h2 h3).1 (dT y h2 h3).2,aHm sc sd h0 h1 h2 h3 a1 a2 b1 b2,if_pos ⟨a3.symm,b3.symm⟩,hc.unrI h0 h1,hd.unrI h2 h3]
 ·rw [aBt]at hf hg hq
  obtain⟨x,y,h0,h1,h2,h3,ef⟩:=iX hf
  obtain⟨x',y',k0,k1,k2,k3,eg⟩:=iX hg
  obtain⟨x2,y2,l0,l1,l2,l3,eq⟩:=iX hq
  rw [ef,eg]at m1
  rw [eg,eq]at m2
  have M1:=(meet h0 h1 h2 h3 k0 k1 k2 k3).1 m1
  have M2:=(meet k0 k1 k2 k3 l0 l1 l2 l3).1 m2
  obtain⟨p1,p2,p3,p4⟩:=hc.compI h0 h1 k0 k1 M1.1
  obtain⟨q1,q2,q3,q4⟩:=hd.compI h2 h3 k2 k3 M1.2
  obtain⟨r1,r2,r3,r4⟩:=hc.compI k0 k1 l0 l1 M2.1
  obtain⟨s1,s2,s3,s4⟩:=hd.compI k2 k3 l2 l3 M2.2
  rw [ef,eg,eq,aHm sc sd h0 h1 h2 h3 k0 k1 k2 k3,if_pos M1,aHm sc sd k0 k1 k2 k3 l0 l1 l2 l3,if_pos M2,aHm sc sd p1 p2 q1 q2 l0 l1 l2 l3,if_pos ⟨p4.trans M2.1,q4.trans M2.2⟩,
   aHm sc sd h0 h1 h2 h3 r1 r2 s1 s2,if_pos ⟨M1.1.trans r3.symm,M1.2.trans s3.symm⟩,hc.assI h0 h1 k0 k1 l0 l1 M1.1 M2.1,hd.assI h2 h3 k2 k3 l2 l3 M1.2 M2.2]
end
end Go.Cats
end
