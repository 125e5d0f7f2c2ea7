/- Several texts in one: M01, M02, M03, N02, N03, N04, N05, N06, N07, N08, N09, M04, N10, N11, N12, N13, N14, N24, M05, M06, M07, M08, M09, M10, M11, M12, N25, N26, N27, N28, N29, N30, N31, N01, N15, N18, N19, N20, N51, N32, N39, N49, N57, N53, N54, N58, N62, N63, N55, N56, N43, N45, N46, N47, N48, N16, N33, N36, N44, N61. -/
set_option linter.unusedSimpArgs false
set_option linter.unusedVariables false
set_option linter.unusedSectionVars false
section
namespace Go.Cats
noncomputable def dec (P:Prop):Bool:= @decide P (Classical.propDecidable P)
theorem lE {P:Prop} (h:P):dec P=true:=by simp [dec,h]
theorem mF {P:Prop} (h:¬P):dec P=false:=by simp [dec,h]
theorem aF2 {P:Prop}:dec P=true↔P:=by simp [dec]
theorem aLQ {P:Prop}:dec P=false↔¬P:=by simp [dec]
theorem cB {P Q:Prop} (h:P↔Q):dec P=dec Q:=by
 by_cases p:P
 ·rw [lE p,lE (h.1 p)]
 ·rw [mF p,mF fun q=>p (h.2 q)]
theorem jC {P:Prop} [Decidable P]:dec P=decide P:=by by_cases h:P<;>simp [dec,h]
/-! ### Scans -/
def aW {α:Type} (n:Nat) (p:Nat→Option α):Option α:=(List.range n).findSome? p
theorem iK {α:Type} (n:Nat) (p:Nat→Option α):aW (n+1) p=(aW n p).or (p n):=by
 unfold aW
 rw [List.range_succ,List.findSome?_append]
 simp [List.findSome?]
 cases p n<;>rfl
theorem aX {α:Type} {n:Nat} {p:Nat→Option α} (h:aW n p=none) (k:p n=none):aW (n+1) p=none:=by
 rw [iK,h,k];rfl
theorem scan_none {α:Type} {n:Nat} {p:Nat→Option α}:aW n p=none↔∀i,i<n→p i=none:=by
 simp [aW,List.findSome?_eq_none_iff]
theorem dL {α:Type} {n i:Nat} {p:Nat→Option α} {r:α} (hi:i<n) (h:aW i p=none) (k:p i=some r):aW n p=some r:=by
 induction n with
 |zero=>omega
 |succ n ih=>
  rw [iK]
  by_cases e:i=n
  ·subst e;rw [h,k];rfl
  ·rw [ih (by omega)];rfl
theorem bN {α:Type} {n:Nat} {p:Nat→Option α} {r:α} (h:aW n p=some r):∃i,i<n∧p i=some r:=by
 unfold aW at h
 obtain⟨i,hi,k⟩:=List.exists_of_findSome?_eq_some h
 exact⟨i,by simpa using hi,k⟩
theorem bW {P:Nat→Prop} {n:Nat} (h:∀i,i<n→P i) (k:P n):∀i,i<n+1→P i:=fun i hi=>by
 by_cases e:i=n
 ·subst e;exact k
 ·exact h i (by omega)
def dR {α:Type} (n:Nat) (f:Nat→List α):List α:=(List.range n).flatMap f
theorem pC {α:Type} (f:Nat→List α):dR 0 f=[]:=rfl
theorem fJ {α:Type} (n:Nat) (f:Nat→List α):dR (n+1) f=dR n f++f n:=by
 simp [dR,List.range_succ]
theorem aER {α:Type} {n:Nat} {f g:Nat→List α} (h:∀i,i<n→f i=g i):dR n f=dR n g:=by
 unfold dR
 induction n with
 |zero=>rfl
 |succ n ih=>
  simp only [List.range_succ,List.flatMap_append,List.flatMap_cons,List.flatMap_nil,List.append_nil]
  rw [ih fun i hi=>h i (by omega),h n (by omega)]
theorem aDH {α:Type} {n:Nat} {f:Nat→List α} {x:α}:x∈dR n f↔∃i,i<n∧x∈f i:=by
 simp [dR,List.mem_flatMap]
theorem dK {α:Type} {n k:Nat} {f:Nat→List α} (h:∀i,i<n→(f i).length≤k):(dR n f).length≤n*k:=by
 induction n with
 |zero=>simp [dR]
 |succ n ih=>
  rw [fJ,List.length_append,Nat.succ_mul]
  have:=ih fun i hi=>h i (by omega)
  have:=h n (by omega)
  omega
theorem aT {α:Type} {l:List α} {i:Nat} {d:α} (h:i<l.length):l.getD i d∈l:=by
 simp [List.getD_eq_getElem?_getD,h]
theorem fB {α:Type} {l:List α} {x d:α} (h:x∈l):∃i,i<l.length∧l.getD i d=x:=by
 obtain⟨i,hi,e⟩:=List.getElem_of_mem h
 exact⟨i,hi,by simp [List.getD_eq_getElem?_getD,hi,e]⟩
def Within (l:List Int) (n:Int):Prop:=∀i,i<l.length→0≤l.getD i 0∧l.getD i 0<n
theorem Within.mem {l:List Int} {n:Int} (h:Within l n) {x:Int} (hx:x∈l):0≤x∧x<n:=by
 obtain⟨i,hi,e⟩:=fB (d:=0) hx
 have:=h i hi
 rw [e]at this
 exact this
/-! ### Categories -/
structure Cat where
 ob:Int
 fr:List Int
 to:List Int
 id:List Int
 co:List (List Int)
def Cat.nil:Cat:=⟨0,[],[],[],[]⟩
abbrev Cat.F (c:Cat) (f:Int):Int:=c.fr.getD f.toNat 0
abbrev Cat.T (c:Cat) (f:Int):Int:=c.to.getD f.toNat 0
abbrev Cat.I (c:Cat) (x:Int):Int:=c.id.getD x.toNat 0
abbrev Cat.C (c:Cat) (f g:Int):Int:=(c.co.getD f.toNat []).getD g.toNat 0
structure CatB (c:Cat):Prop where
 ob1: -9223372036854775808≤c.ob
 ob2:c.ob≤9223372036854775807
 fr:c.fr.length≤1048576
 to:c.to.length≤1048576
 id:c.id.length≤1048576
 co:c.co.length≤1048576
 row:∀f,f<c.co.length→(c.co.getD f []).length≤1048576
def Cat.Entry (c:Cat) (f g:Nat):Prop:=
 (c.to.getD f 0=c.fr.getD g 0∧(0≤c.C f g∧c.C f g<c.fr.length)∧c.F (c.C f g)=c.fr.getD f 0∧c.T (c.C f g)=c.to.getD g 0)∨
 (c.to.getD f 0≠c.fr.getD g 0∧c.C f g= -1)
structure Shape (c:Cat):Prop where
 ob0:0≤c.ob
 ob8:c.ob≤8
 m40:c.fr.length≤40
 tol:c.to.length=c.fr.length
 frw:Within c.fr c.ob
 tow:Within c.to c.ob
 idl:(c.id.length:Int)=c.ob
 idw:Within c.id c.fr.length
 col:c.co.length=c.fr.length
 ide:∀x,x<c.id.length→c.F (c.id.getD x 0)=x∧c.T (c.id.getD x 0)=x
 coe:∀f,f<c.fr.length→(c.co.getD f []).length=c.fr.length∧∀g,g<c.fr.length→c.Entry f g
def Cat.fault1 (c:Cat) (f:Nat):Option (Int×Int×Int×Int):=
 if c.C (c.I (c.F f)) f≠f∨c.C f (c.I (c.T f))≠f then some (1,f,0,0)else none
def Cat.fault2 (c:Cat) (f g h:Nat):Option (Int×Int×Int×Int):=
 if 0≤c.C g h∧c.C (c.C f g) h≠c.C f (c.C g h)then some (2,f,g,h)else none
def Cat.fault2g (c:Cat) (f g:Nat):Option (Int×Int×Int×Int):=
 if c.C f g<0 then none else aW c.fr.length fun h=>c.fault2 f g h
def Cat.fault (c:Cat):Int×Int×Int×Int:=
 ((aW c.fr.length c.fault1).or (aW c.fr.length fun f=>aW c.fr.length fun g=>c.fault2g f g)).getD (0,0,0,0)
structure IsCat (c:Cat):Prop extends Shape c where
 unl:∀f:Nat,f<c.fr.length→c.C (c.I (c.F f)) f=f
 unr:∀f:Nat,f<c.fr.length→c.C f (c.I (c.T f))=f
 ass:∀f g h:Nat,f<c.fr.length→g<c.fr.length→h<c.fr.length→c.T f=c.F g→c.T g=c.F h→c.C (c.C f g) h=c.C f (c.C g h)
theorem Shape.neg {c:Cat} (s:Shape c) {f g:Nat} (hf:f<c.fr.length) (hg:g<c.fr.length):c.C f g<0↔c.T f≠c.F g:=by
 have:=(s.coe f hf).2 g hg
 unfold Cat.Entry at this
 simp only [Cat.T,Cat.F,Int.toNat_natCast]
 rcases this with⟨h1,h2,h3⟩|⟨h1,h2⟩
 ·constructor
  ·intro h;omega
  ·intro h;exact absurd h1 h
 ·constructor
  ·intro _;exact h1
  ·intro _;omega
theorem Shape.fault_zero {c:Cat} (s:Shape c):c.fault.1=0↔IsCat c:=by
 unfold Cat.fault
 constructor
 ·intro h
  cases h1:aW c.fr.length c.fault1 with
  |some r=>
   obtain⟨i,hi,k⟩:=bN h1
   unfold Cat.fault1 at k
   split at k
   ·simp at k;subst k;simp [h1]at h
   ·cases k
  |none=>
   rw [h1]at h
   cases h2:(aW c.fr.length fun f=>aW c.fr.length fun g=>c.fault2g f g)with
   |some r=>
    obtain⟨i,hi,k⟩:=bN h2
    obtain⟨j,hj,k⟩:=bN k
    unfold Cat.fault2g at k
    split at k
    ·cases k
    ·obtain⟨l,hl,k⟩:=bN k
     unfold Cat.fault2 at k
     split at k
     ·simp at k;subst k;simp [h2]at h
     ·cases k
   |none=>
    rw [scan_none]at h1 h2
    refine⟨s,fun f hf=>?_,fun f hf=>?_,fun f g h hf hg hh e1 e2=>?_⟩
    ·have:=h1 f hf
     unfold Cat.fault1 at this
     split at this
     ·cases this
     ·rename_i n;exact Classical.byContradiction fun q=>n (.inl q)
    ·have:=h1 f hf
     unfold Cat.fault1 at this
     split at this
     ·cases this
     ·rename_i n;exact Classical.byContradiction fun q=>n (.inr q)
    ·have:=h2 f hf
     rw [scan_none]at this
     have:=this g hg
     unfold Cat.fault2g at this
     rw [if_neg (by rw [s.neg hf hg];exact fun q=>q e1),scan_none]at this
     have:=this h hh
     unfold Cat.fault2 at this
     split at this
     ·cases this
     ·rename_i n
      refine Classical.byContradiction fun q=>n ⟨?_,q⟩
      have:=(s.neg hg hh)
      exact Int.not_lt.1 fun q=>this.1 q e2
 ·intro h
  have h1:aW c.fr.length c.fault1=none:=scan_none.2 fun f hf=>by
   unfold Cat.fault1
   rw [if_neg]
   rintro(q|q)
   ·exact q (h.unl f hf)
   ·exact q (h.unr f hf)
  have h2:(aW c.fr.length fun f=>aW c.fr.length fun g=>c.fault2g f g)=none:=scan_none.2 fun f hf=>scan_none.2 fun g hg=>by
   unfold Cat.fault2g
   split
   ·rfl
   ·rename_i n1
    refine scan_none.2 fun h' hh=>?_
    unfold Cat.fault2
    rw [if_neg]
    rintro⟨q1,q2⟩
    have e1:=s.neg hf hg
    have e2:=s.neg hg hh
    exact q2 (h.ass f g h' hf hg hh (Classical.byContradiction fun q=>n1 (e1.2 q)) (Classical.byContradiction fun q=>by have:=e2.2 q;omega))
  rw [h1,h2];rfl
theorem Cat.fault1_t {c:Cat} {f:Nat} (h:c.C (c.I (c.F f)) f≠f∨c.C f (c.I (c.T f))≠f):c.fault1 f=some ((1:Int),(f:Int),(0:Int),(0:Int)):=if_pos h
theorem Cat.fault1_f {c:Cat} {f:Nat} (h:c.C (c.I (c.F f)) f=f) (k:c.C f (c.I (c.T f))=f):c.fault1 f=none:=if_neg fun q=>q.elim (fun q=>q h) fun q=>q k
theorem Cat.fault2_t {c:Cat} {f g h:Nat} (a:0≤c.C g h) (b:c.C (c.C f g) h≠c.C f (c.C g h)):c.fault2 f g h=some ((2:Int),(f:Int),(g:Int),(h:Int)):=if_pos ⟨a,b⟩
theorem Cat.fault2_f {c:Cat} {f g h:Nat} (a:0≤c.C g h→c.C (c.C f g) h=c.C f (c.C g h)):c.fault2 f g h=none:=if_neg fun q=>q.2 (a q.1)
theorem Cat.fault2g_f {c:Cat} {f g:Nat} (a:c.C f g<0):c.fault2g f g=none:=if_pos a
theorem Cat.fault2g_t {c:Cat} {f g:Nat} (a:¬c.C f g<0):c.fault2g f g=aW c.fr.length fun h=>c.fault2 f g h:=if_neg a
theorem Cat.fault_1 {c:Cat} {f:Nat} {r:Int×Int×Int×Int} (h:aW f c.fault1=none) (hf:f<c.fr.length) (k:c.fault1 f=some r):c.fault=r:=by
 unfold Cat.fault
 rw [dL hf h k];rfl
theorem Cat.fault_2 {c:Cat} {f g h:Nat} {r:Int×Int×Int×Int} (a:aW c.fr.length c.fault1=none) (h1:aW f (fun f=>aW c.fr.length fun g=>c.fault2g f g)=none) (hf:f<c.fr.length)
  (h2:aW g (fun g=>c.fault2g f g)=none) (hg:g<c.fr.length) (n:¬c.C f g<0) (h3:aW h (fun h=>c.fault2 f g h)=none) (hh:h<c.fr.length) (k:c.fault2 f g h=some r):c.fault=r:=by
 unfold Cat.fault
 rw [a,dL hf h1 (dL hg h2 (by rw [Cat.fault2g_t n];exact dL hh h3 k))];rfl
theorem Cat.fault_0 {c:Cat} (a:aW c.fr.length c.fault1=none) (h1:aW c.fr.length (fun f=>aW c.fr.length fun g=>c.fault2g f g)=none):c.fault=(0,0,0,0):=by
 unfold Cat.fault
 rw [a,h1];rfl
def Cat.homI (c:Cat) (x y:Int) (i:Nat):List Int:=dR i fun f=>if c.fr.getD f 0=x∧c.to.getD f 0=y then [(f:Int)]else []
def Cat.hom (c:Cat) (x y:Int):List Int:=c.homI x y c.fr.length
theorem Cat.homI_zero (c:Cat) (x y:Int):c.homI x y 0=[]:=rfl
theorem Cat.homI_succ (c:Cat) (x y:Int) (i:Nat):c.homI x y (i+1)=c.homI x y i++if c.fr.getD i 0=x∧c.to.getD i 0=y then [(i:Int)]else []:=fJ _ _
theorem Cat.homI_len (c:Cat) (x y:Int) (i:Nat):(c.homI x y i).length≤i:=by
 have:=dK (n:=i) (k:=1) (f:=fun f=>if c.fr.getD f 0=x∧c.to.getD f 0=y then [(f:Int)]else []) fun j _=>by split<;>simp
 simpa [Cat.homI]using this
theorem Cat.mem_hom {c:Cat} {x y f:Int}:f∈c.hom x y↔0≤f∧f<c.fr.length∧c.F f=x∧c.T f=y:=by
 unfold Cat.hom Cat.homI
 rw [aDH]
 constructor
 ·rintro⟨i,hi,h⟩
  split at h
  ·rename_i e;simp at h;subst h
   simp only [Cat.F,Cat.T,Int.toNat_natCast]
   exact⟨by omega,by omega,e.1,e.2⟩
  ·simp at h
 ·rintro⟨h1,h2,h3,h4⟩
  refine⟨f.toNat,by omega,?_⟩
  rw [if_pos ⟨h3,h4⟩]
  simp;omega
/-! ### Functors -/
structure Fun where
 src:Cat
 tgt:Cat
 obs:List Int
 ars:List Int
def Fun.nil:Fun:=⟨.nil, .nil,[],[]⟩
abbrev Fun.O (f:Fun) (x:Int):Int:=f.obs.getD x.toNat 0
abbrev Fun.A (f:Fun) (a:Int):Int:=f.ars.getD a.toNat 0
structure Fits (f:Fun):Prop where
 obl:(f.obs.length:Int)=f.src.ob
 arl:f.ars.length=f.src.fr.length
 obw:Within f.obs f.tgt.ob
 arw:Within f.ars f.tgt.fr.length
 endf:∀a,a<f.ars.length→f.tgt.F (f.ars.getD a 0)=f.O (f.src.F a)∧f.tgt.T (f.ars.getD a 0)=f.O (f.src.T a)
 unit:∀x,x<f.src.id.length→f.A (f.src.id.getD x 0)=f.tgt.I (f.O x)
 comp:∀a b:Nat,a<f.src.fr.length→b<f.src.fr.length→0≤f.src.C a b→f.A (f.src.C a b)=f.tgt.C (f.A a) (f.A b)
structure IsFun (f:Fun):Prop where
 src:IsCat f.src
 tgt:IsCat f.tgt
 fits:Fits f
/-! ### Set functors -/
structure SF where
 shape:Cat
 sizes:List Int
 acts:List (List Int)
structure SM where
 src:SF
 tgt:SF
 parts:List (List Int)
def SF.nil:SF:=⟨.nil,[],[]⟩
def SM.nil:SM:=⟨.nil, .nil,[]⟩
end Go.Cats
end
section
namespace Go.Cats
theorem bK {α:Type} {p:Nat→Option α} {i n:Nat} (h:aW i p=none) (a:i≤n) (b:n≤i):aW n p=none:=by
 have:i=n:=by omega
 rw [←this];exact h
theorem mO {α:Type} {a b:List α} {d:α} {i:Nat} (h:a.take i=b.take i) (ha:i<a.length) (hb:i<b.length) (e:a.getD i d=b.getD i d):a.take (i+1)=b.take (i+1):=by
 have e1:a.getD i d=a[i]:=by simp [List.getD_eq_getElem?_getD,ha]
 have e2:b.getD i d=b[i]:=by simp [List.getD_eq_getElem?_getD,hb]
 rw [e1,e2]at e
 rw [List.take_succ_eq_append_getElem ha,List.take_succ_eq_append_getElem hb,h,e]
theorem tF {α:Type} {a b:List α} {i:Nat} (h:a.take i=b.take i) (ha:a.length≤i) (hb:b.length≤i):a=b:=by
 rwa [List.take_of_length_le ha,List.take_of_length_le hb]at h
theorem aBO {α:Type} {a:List α} {d:α} {i:Nat} (ha:i<a.length):a.take (i+1)=a.take i++[a.getD i d]:=by
 rw [List.take_succ_eq_append_getElem ha]
 simp [List.getD_eq_getElem?_getD,ha]
theorem Cat.eq {c d:Cat} (h1:c.ob=d.ob) (h2:c.fr=d.fr) (h3:c.to=d.to) (h4:c.id=d.id) (h5:c.co=d.co):c=d:=by
 cases c;cases d;simp_all
end Go.Cats
end
section
namespace Go.Cats
structure SFB (f:SF):Prop where
 shape:CatB f.shape
 sizes:f.sizes.length≤1048576
 acts:f.acts.length≤1048576
 row:∀a,a<f.acts.length→(f.acts.getD a []).length≤1048576
abbrev SF.act (f:SF) (a:Nat):List Int:=f.acts.getD a []
structure SFShape (f:SF):Prop where
 cat:IsCat f.shape
 szl:(f.sizes.length:Int)=f.shape.ob
 szw:Within f.sizes 17
 acl:f.acts.length=f.shape.fr.length
 act:∀a,a<f.acts.length→((f.acts.getD a []).length:Int)=f.sizes.getD (f.shape.fr.getD a 0).toNat 0∧Within (f.acts.getD a []) (f.sizes.getD (f.shape.to.getD a 0).toNat 0)
def SF.fault1 (f:SF) (x e:Nat):Option (Int×Int×Int×Int):=
 if(f.acts.getD (f.shape.id.getD x 0).toNat []).getD e 0≠e then some ((1:Int),(x:Int),(e:Int),(0:Int))else none
def SF.fault1x (f:SF) (x:Nat):Option (Int×Int×Int×Int):=aW (f.acts.getD (f.shape.id.getD x 0).toNat []).length fun e=>f.fault1 x e
def SF.fault2 (f:SF) (a b e:Nat):Option (Int×Int×Int×Int):=
 if(f.acts.getD ((f.shape.co.getD a []).getD b 0).toNat []).getD e 0≠(f.acts.getD b []).getD ((f.acts.getD a []).getD e 0).toNat 0 then some ((2:Int),(a:Int),(b:Int),(e:Int))else none
def SF.fault2b (f:SF) (a b:Nat):Option (Int×Int×Int×Int):=
 if(f.shape.co.getD a []).getD b 0<0 then none else aW (f.acts.getD a []).length fun e=>f.fault2 a b e
def SF.fault2a (f:SF) (a:Nat):Option (Int×Int×Int×Int):=aW (f.shape.co.getD a []).length fun b=>f.fault2b a b
def SF.fault (f:SF):Int×Int×Int×Int:=
 ((aW f.shape.id.length f.fault1x).or (aW f.shape.co.length f.fault2a)).getD (0,0,0,0)
structure IsSF (f:SF):Prop extends SFShape f where
 unit:∀x,x<f.shape.id.length→∀e,e<(f.acts.getD (f.shape.id.getD x 0).toNat []).length→(f.acts.getD (f.shape.id.getD x 0).toNat []).getD e 0=e
 comp:∀a b,a<f.shape.fr.length→b<f.shape.fr.length→0≤(f.shape.co.getD a []).getD b 0→∀e,e<(f.acts.getD a []).length→
  (f.acts.getD ((f.shape.co.getD a []).getD b 0).toNat []).getD e 0=(f.acts.getD b []).getD ((f.acts.getD a []).getD e 0).toNat 0
theorem SF.fault1_t {f:SF} {x e:Nat} (h:(f.acts.getD (f.shape.id.getD x 0).toNat []).getD e 0≠e):f.fault1 x e=some ((1:Int),(x:Int),(e:Int),(0:Int)):=if_pos h
theorem SF.fault1_f {f:SF} {x e:Nat} (h:(f.acts.getD (f.shape.id.getD x 0).toNat []).getD e 0=e):f.fault1 x e=none:=if_neg fun q=>q h
theorem SF.fault2_t {f:SF} {a b e:Nat} (h:(f.acts.getD ((f.shape.co.getD a []).getD b 0).toNat []).getD e 0≠(f.acts.getD b []).getD ((f.acts.getD a []).getD e 0).toNat 0):f.fault2 a b e=some ((2:Int),(a:Int),(b:Int),(e:Int)):=if_pos h
theorem SF.fault2_f {f:SF} {a b e:Nat} (h:(f.acts.getD ((f.shape.co.getD a []).getD b 0).toNat []).getD e 0=(f.acts.getD b []).getD ((f.acts.getD a []).getD e 0).toNat 0):f.fault2 a b e=none:=if_neg fun q=>q h
theorem SF.fault2b_f {f:SF} {a b:Nat} (h:(f.shape.co.getD a []).getD b 0<0):f.fault2b a b=none:=if_pos h
theorem SF.fault2b_t {f:SF} {a b:Nat} (h:¬(f.shape.co.getD a []).getD b 0<0):f.fault2b a b=aW (f.acts.getD a []).length fun e=>f.fault2 a b e:=if_neg h
theorem SF.fault_1 {f:SF} {x e:Nat} {r:Int×Int×Int×Int} (h:aW x f.fault1x=none) (hx:x<f.shape.id.length) (h2:(aW e fun e=>f.fault1 x e)=none) (he:e<(f.acts.getD (f.shape.id.getD x 0).toNat []).length) (k:f.fault1 x e=some r):f.fault=r:=by
 unfold SF.fault
 rw [dL hx h (show f.fault1x x=some r from dL he h2 k)];rfl
theorem SF.fault_2 {f:SF} {a b e:Nat} {r:Int×Int×Int×Int} (h0:aW f.shape.id.length f.fault1x=none) (h1:aW a f.fault2a=none) (ha:a<f.shape.co.length) (h2:(aW b fun b=>f.fault2b a b)=none) (hb:b<(f.shape.co.getD a []).length) (n:¬(f.shape.co.getD a []).getD b 0<0)
  (h3:(aW e fun e=>f.fault2 a b e)=none) (he:e<(f.acts.getD a []).length) (k:f.fault2 a b e=some r):f.fault=r:=by
 unfold SF.fault
 rw [h0,dL ha h1 (show f.fault2a a=some r from dL hb h2 (by rw [SF.fault2b_t n];exact dL he h3 k))];rfl
theorem SF.fault_0 {f:SF} (h0:aW f.shape.id.length f.fault1x=none) (h1:aW f.shape.co.length f.fault2a=none):f.fault=(0,0,0,0):=by
 unfold SF.fault
 rw [h0,h1];rfl
theorem SFShape.fault_zero {f:SF} (s:SFShape f):f.fault.1=0↔IsSF f:=by
 have hco:=s.cat.col
 constructor
 ·intro h
  unfold SF.fault at h
  cases h1:aW f.shape.id.length f.fault1x with
  |some r=>
   obtain⟨x,hx,k⟩:=bN h1
   obtain⟨e,he,k⟩:=bN k
   unfold SF.fault1 at k
   split at k
   ·simp at k;subst k;simp [h1]at h
   ·cases k
  |none=>
   rw [h1]at h
   cases h2:aW f.shape.co.length f.fault2a with
   |some r=>
    obtain⟨a,ha,k⟩:=bN h2
    obtain⟨b,hb,k⟩:=bN k
    unfold SF.fault2b at k
    split at k
    ·cases k
    ·obtain⟨e,he,k⟩:=bN k
     unfold SF.fault2 at k
     split at k
     ·simp at k;subst k;simp [h2]at h
     ·cases k
   |none=>
    refine⟨s,fun x hx e he=>?_,fun a b ha hb hn e he=>?_⟩
    ·have k:=scan_none.1 (scan_none.1 h1 x hx) e he
     unfold SF.fault1 at k
     split at k
     ·cases k
     ·rename_i n;exact Classical.byContradiction n
    ·have k:=scan_none.1 (scan_none.1 h2 a (by omega)) b (by have:=(s.cat.coe a ha).1;omega)
     simp only [SF.fault2b]at k
     rw [if_neg (by omega)]at k
     have k:=scan_none.1 k e he
     unfold SF.fault2 at k
     split at k
     ·cases k
     ·rename_i n;exact Classical.byContradiction n
 ·intro h
  rw [SF.fault_0]
  ·exact scan_none.2 fun x hx=>scan_none.2 fun e he=>SF.fault1_f (h.unit x hx e he)
  ·refine scan_none.2 fun a ha=>scan_none.2 fun b hb=>?_
   by_cases n:(f.shape.co.getD a []).getD b 0<0
   ·exact SF.fault2b_f n
   ·rw [SF.fault2b_t n]
    exact scan_none.2 fun e he=>SF.fault2_f (h.comp a b (by omega) (by have:=(s.cat.coe a (by omega)).1;omega) (by omega) e he)
/-! ### Natural maps -/
structure SMB (m:SM):Prop where
 src:SFB m.src
 tgt:SFB m.tgt
 parts:m.parts.length≤1048576
 row:∀x,x<m.parts.length→(m.parts.getD x []).length≤1048576
structure SMFits (m:SM):Prop where
 len:m.parts.length=m.src.sizes.length
 map:∀x,x<m.parts.length→((m.parts.getD x []).length:Int)=m.src.sizes.getD x 0∧Within (m.parts.getD x []) (m.tgt.sizes.getD x 0)
structure SMShape (m:SM):Prop where
 src:IsSF m.src
 tgt:IsSF m.tgt
 same:m.src.shape=m.tgt.shape
 fits:SMFits m
def SM.bad (m:SM) (a e:Nat):Option (Int×Int):=
 if(m.parts.getD (m.src.shape.to.getD a 0).toNat []).getD ((m.src.acts.getD a []).getD e 0).toNat 0≠(m.tgt.acts.getD a []).getD ((m.parts.getD (m.src.shape.fr.getD a 0).toNat []).getD e 0).toNat 0 then some ((a:Int),(e:Int))else none
def SM.bada (m:SM) (a:Nat):Option (Int×Int):=aW (m.src.acts.getD a []).length fun e=>m.bad a e
def SM.unnat (m:SM):Int×Int:=(aW m.src.shape.fr.length m.bada).getD (-1,0)
structure IsSM (m:SM):Prop extends SMShape m where
 nat:∀a,a<m.src.shape.fr.length→∀e,e<(m.src.acts.getD a []).length→
  (m.parts.getD (m.src.shape.to.getD a 0).toNat []).getD ((m.src.acts.getD a []).getD e 0).toNat 0=(m.tgt.acts.getD a []).getD ((m.parts.getD (m.src.shape.fr.getD a 0).toNat []).getD e 0).toNat 0
theorem SM.bad_t {m:SM} {a e:Nat} (h:(m.parts.getD (m.src.shape.to.getD a 0).toNat []).getD ((m.src.acts.getD a []).getD e 0).toNat 0≠(m.tgt.acts.getD a []).getD ((m.parts.getD (m.src.shape.fr.getD a 0).toNat []).getD e 0).toNat 0):m.bad a e=some ((a:Int),(e:Int)):=if_pos h
theorem SM.bad_f {m:SM} {a e:Nat} (h:(m.parts.getD (m.src.shape.to.getD a 0).toNat []).getD ((m.src.acts.getD a []).getD e 0).toNat 0=(m.tgt.acts.getD a []).getD ((m.parts.getD (m.src.shape.fr.getD a 0).toNat []).getD e 0).toNat 0):m.bad a e=none:=if_neg fun q=>q h
theorem SM.unnat_1 {m:SM} {a e:Nat} {r:Int×Int} (h:aW a m.bada=none) (ha:a<m.src.shape.fr.length) (h2:(aW e fun e=>m.bad a e)=none) (he:e<(m.src.acts.getD a []).length) (k:m.bad a e=some r):m.unnat=r:=by
 unfold SM.unnat
 rw [dL ha h (show m.bada a=some r from dL he h2 k)];rfl
theorem SM.unnat_0 {m:SM} (h:aW m.src.shape.fr.length m.bada=none):m.unnat=(-1,0):=by
 unfold SM.unnat
 rw [h];rfl
theorem SMShape.unnat_neg {m:SM} (s:SMShape m):m.unnat.1<0↔IsSM m:=by
 constructor
 ·intro h
  refine⟨s,fun a ha e he=>?_⟩
  cases h1:aW m.src.shape.fr.length m.bada with
  |some r=>
   unfold SM.unnat at h
   rw [h1]at h
   obtain⟨a,ha,k⟩:=bN h1
   obtain⟨e,he,k⟩:=bN k
   unfold SM.bad at k
   split at k
   ·simp at k;subst k;simp at h;omega
   ·cases k
  |none=>
   have k:=scan_none.1 (scan_none.1 h1 a ha) e he
   unfold SM.bad at k
   split at k
   ·cases k
   ·rename_i n;exact Classical.byContradiction n
 ·intro h
  rw [SM.unnat_0]
  ·decide
  ·exact scan_none.2 fun a ha=>scan_none.2 fun e he=>SM.bad_f (h.nat a ha e he)
theorem SF.eq {f g:SF} (h1:f.shape=g.shape) (h2:f.sizes=g.sizes) (h3:f.acts=g.acts):f=g:=by
 cases f;cases g;simp_all
theorem SM.eq {f g:SM} (h1:f.src=g.src) (h2:f.tgt=g.tgt) (h3:f.parts=g.parts):f=g:=by
 cases f;cases g;simp_all
end Go.Cats
end
section
namespace Go.Cats
abbrev pv (P:List (List Int)) (y i:Nat):Int:=(P.getD y []).getD i 0
def pset (P:List (List Int)) (y i:Nat) (k:Int):List (List Int):=P.set y ((P.getD y []).set i k)
theorem aKm (P:List (List Int)) (y i:Nat) (k:Int):(pset P y i k).length=P.length:=by simp [pset]
theorem pset_row {P:List (List Int)} {y i z:Nat} {k:Int}:((pset P y i k).getD z []).length=(P.getD z []).length:=by
 unfold pset
 by_cases h:z=y
 ·subst h
  by_cases hz:z<P.length
  ·simp [List.getD_eq_getElem?_getD,hz]
  ·simp [List.getD_eq_getElem?_getD,hz]
 ·simp [List.getD_eq_getElem?_getD,List.getElem?_set_ne (Ne.symm h)]
theorem aFn {P:List (List Int)} {y i z j:Nat} {k:Int} (h:¬(z=y∧j=i)):pv (pset P y i k) z j=pv P z j:=by
 unfold pv pset
 by_cases hz:z=y
 ·subst hz
  have hj:j≠i:=fun e=>h ⟨rfl,e⟩
  by_cases hl:z<P.length
  ·rw [List.getD_eq_getElem?_getD (l:=P.set z _),List.getElem?_set_self hl]
   simp only [Option.getD_some]
   rw [List.getD_eq_getElem?_getD,List.getElem?_set_ne (Ne.symm hj),←List.getD_eq_getElem?_getD]
  ·rw [List.set_eq_of_length_le (by omega)]
 ·rw [List.getD_eq_getElem?_getD (l:=P.set y _),List.getElem?_set_ne (Ne.symm hz),←List.getD_eq_getElem?_getD]
section
variable (f g:SF) (once:Bool)
abbrev SF.av (f:SF) (a:Nat) (e:Nat):Int:=(f.acts.getD a []).getD e 0
abbrev SF.ty (f:SF) (a:Nat):Nat:=(f.shape.to.getD a 0).toNat
abbrev SF.fx (f:SF) (a:Nat):Nat:=(f.shape.fr.getD a 0).toNat
def aNV (e u:Nat) (P:List (List Int)) (a:Nat):Option (List (List Int)):=
 if 0≤pv P (f.ty a) (f.av a e).toNat then(if pv P (f.ty a) (f.av a e).toNat=g.av a u then some P else none)
 else if once=true∧g.av a u∈P.getD (f.ty a) []then none else some (pset P (f.ty a) (f.av a e).toNat (g.av a u))
def aMZ (x e u:Nat) (P:List (List Int)):Nat→Option (List (List Int))
 |0=>some P
 |n+1=>(aMZ x e u P n).bind fun Q=>if f.shape.fr.getD n 0=x then aNV f g once e u Q n else some Q
def aKK (x e u:Nat) (P:List (List Int)):Option (List (List Int)):=aMZ f g once x e u P f.shape.fr.length
structure Good (P:List (List Int)):Prop where
 len:P.length=f.sizes.length
 row:∀y,y<P.length→((P.getD y []).length:Int)=f.sizes.getD y 0
 rng:∀y i,y<P.length→i<(P.getD y []).length→-1≤pv P y i∧pv P y i<g.sizes.getD y 0
 cl:∀b i,b<f.shape.fr.length→i<(P.getD (f.fx b) []).length→0≤pv P (f.fx b) i→pv P (f.ty b) (f.av b i).toNat=g.av b (pv P (f.fx b) i).toNat
 inj:once=true→∀y i j,y<P.length→i<(P.getD y []).length→j<(P.getD y []).length→0≤pv P y i→pv P y i=pv P y j→i=j
def Ext' (P Q:List (List Int)):Prop:=P.length=Q.length∧(∀y,(P.getD y []).length=(Q.getD y []).length)∧∀y i,y<P.length→i<(P.getD y []).length→0≤pv P y i→pv Q y i=pv P y i
end
theorem Ext'.refl (P:List (List Int)):Ext' P P:=⟨rfl,fun _=>rfl,fun _ _ _ _ _=>rfl⟩
theorem Ext'.trans {P Q R:List (List Int)} (h:Ext' P Q) (k:Ext' Q R):Ext' P R:=
 ⟨h.1.trans k.1,fun y=>(h.2.1 y).trans (k.2.1 y),fun y i hy hi h0=>by
  have e1:=h.2.2 y i hy hi h0
  have e2:=k.2.2 y i (by rw [←h.1];exact hy) (by rw [←h.2.1];exact hi) (by rw [e1];exact h0)
  rw [e2,e1]⟩
theorem Ext'.pset {P:List (List Int)} {y i:Nat} {k:Int} (h:¬0≤pv P y i):Ext' P (pset P y i k):=
 ⟨(aKm P y i k).symm,fun z=>pset_row.symm,fun z j hz hj h0=>aFn fun⟨e1,e2⟩=>h (by subst e1;subst e2;exact h0)⟩
variable {f g:SF} {once:Bool} {x e u:Nat} {P Q:List (List Int)}
structure SPair (f g:SF):Prop where
 src:IsSF f
 tgt:IsSF g
 one:f.shape=g.shape
theorem SPair.ft (h:SPair f g) {a:Nat} (ha:a<f.shape.fr.length):f.fx a<f.sizes.length∧f.ty a<f.sizes.length∧f.shape.fr.getD a 0=f.fx a∧f.shape.to.getD a 0=f.ty a:=by
 have h1:=h.src.cat.frw a ha
 have h2:=h.src.cat.tow a (by rw [h.src.cat.tol];exact ha)
 have h3:=h.src.szl
 unfold SF.fx SF.ty
 omega
theorem SPair.fa (h:SPair f g) {a e:Nat} (ha:a<f.shape.fr.length) (he:(e:Int)<f.sizes.getD (f.fx a) 0):0≤f.av a e∧f.av a e<f.sizes.getD (f.ty a) 0:=by
 have h1:=h.src.act a (by rw [h.src.acl];exact ha)
 exact h1.2 e (by have:=h1.1;unfold SF.fx at he;omega)
theorem SPair.ga (h:SPair f g) {a u:Nat} (ha:a<f.shape.fr.length) (hu:(u:Int)<g.sizes.getD (f.fx a) 0):0≤g.av a u∧g.av a u<g.sizes.getD (f.ty a) 0:=by
 have h1:=h.tgt.act a (by rw [h.tgt.acl,←h.one];exact ha)
 rw [←h.one]at h1
 exact h1.2 u (by have:=h1.1;unfold SF.fx at hu;omega)
structure Gd (f g:SF) (once:Bool) (P:List (List Int)):Prop where
 len:P.length=f.sizes.length
 row:∀y,y<P.length→((P.getD y []).length:Int)=f.sizes.getD y 0
 rng:∀y i,y<P.length→i<(P.getD y []).length→-1≤pv P y i∧pv P y i<g.sizes.getD y 0
 inj:once=true→∀y i j,y<P.length→i<(P.getD y []).length→j<(P.getD y []).length→0≤pv P y i→pv P y i=pv P y j→i=j
theorem Good.gd (h:Good f g once P):Gd f g once P:=⟨h.len,h.row,h.rng,h.inj⟩
end Go.Cats
end
section
namespace Go.Cats
def fuI (P:List (List Int)) (y:Nat) (i:Nat):Option (Nat×Nat):=if pv P y i<0 then some (y,i)else none
def fuR (P:List (List Int)) (y:Nat):Option (Nat×Nat):=aW (P.getD y []).length (fuI P y)
def fuP (P:List (List Int)):Option (Nat×Nat):=aW P.length (fuR P)
section
variable (f g:SF) (once:Bool)
def dfs:Nat→List (List Int)→List (List (List Int))
 |0,_=>[]
 |n+1,P=>match fuP P with
  |none=>[P]
  |some (x,e)=>(List.range (g.sizes.getD x 0).toNat).flatMap fun u=>match aKK f g once x e u P with
   |none=>[]
   |some Q=>dfs n Q
end
variable {f g:SF} {once:Bool} {x e u:Nat} {P Q:List (List Int)}
theorem aCe:∀{r s:List Int},r.length=s.length→(∀i,i<r.length→0≤r.getD i 0→s.getD i 0=r.getD i 0)→(s.filter fun v=>decide (v<0)).length≤(r.filter fun v=>decide (v<0)).length
 |[],[],_,_=>Nat.le_refl _
 |[],_::_,h,_=>by simp at h
 |_::_,[],h,_=>by simp at h
 |a::r,b::s,hl,h=>by
  have ih:=aCe (r:=r) (s:=s) (by simpa using hl) (fun i hi h0=>by
   have:=h (i+1) (by simp;omega) (by simpa using h0)
   simpa using this)
  have h0:=h 0 (by simp)
  simp only [List.getD_cons_zero]at h0
  simp only [List.filter_cons]
  by_cases ha:a<0
  ·by_cases hb:b<0
   ·simp [ha,hb];exact ih
   ·simp [ha,hb];omega
  ·have:=h0 (by omega)
   subst this
   simp [ha];exact ih
theorem aGe:∀{r s:List Int},r.length=s.length→(∀i,i<r.length→0≤r.getD i 0→s.getD i 0=r.getD i 0)→∀j,j<r.length→r.getD j 0<0→0≤s.getD j 0→(s.filter fun v=>decide (v<0)).length<(r.filter fun v=>decide (v<0)).length
 |[],_,_,_,j,hj,_,_=>by simp at hj
 |_::_,[],h,_,_,_,_,_=>by simp at h
 |a::r,b::s,hl,h,j,hj,h1,h2=>by
  have hl':r.length=s.length:=by simpa using hl
  have hs:∀i,i<r.length→0≤r.getD i 0→s.getD i 0=r.getD i 0:=fun i hi h0=>by
   have:=h (i+1) (by simp;omega) (by simpa using h0)
   simpa using this
  have h0:=h 0 (by simp)
  simp only [List.getD_cons_zero]at h0
  simp only [List.filter_cons]
  cases j with
  |zero=>
   have ha:a<0:=by simpa using h1
   have hb:¬b<0:=by
    have:0≤b:=by simpa using h2
    omega
   have:=aCe hl' hs
   simp [ha,hb];omega
  |succ j=>
   have ih:=aGe hl' hs j (by simpa using hj) (by simpa using h1) (by simpa using h2)
   by_cases ha:a<0
   ·by_cases hb:b<0
    ·simp [ha,hb];exact ih
    ·simp [ha,hb];omega
   ·have:=h0 (by omega)
    subst this
    simp [ha];exact ih
end Go.Cats
end
section
namespace Go.Cats
section
variable (f g:SF) (once:Bool)
def aON (e:Nat) (P:List (List Int)) (a:Nat):Prop:=¬0≤pv P (f.ty a) (f.av a e).toNat
instance (e:Nat) (P:List (List Int)) (a:Nat):Decidable (aON f e P a):=by unfold aON;infer_instance
def setL (e u:Nat):List Nat→List (List Int)→List (Int×Int)→Bool×List (List Int)×List (Int×Int)
 |[],P,N=>(true,P,N)
 |a::l,P,N=>match aNV f g once e u P a with
  |none=>(false,P,N)
  |some Q=>setL e u l Q (if aON f e P a then N++[((f.ty a:Int),f.av a e)]else N)
def aJ3 (c:Cat) (x:Nat) (n:Nat):List Nat:=(List.range n).filter fun a=>decide (c.fr.getD a 0=x)
end
variable {f g:SF} {once:Bool} {x e u:Nat} {P Q:List (List Int)}
def aPz (P:List (List Int)) (N:List (Int×Int)):List (List Int):=N.foldl (fun P p=>pset P p.1.toNat p.2.toNat (-1)) P
end Go.Cats
end
section
namespace Go.Cats
def uM (l:List Int):Nat→Int
 |0=>0
 |n+1=>uM l n+l.getD n 0
theorem aBM (l:List Int):uM l 0=0:=rfl
theorem aBL (l:List Int) (n:Nat):uM l (n+1)=uM l n+l.getD n 0:=rfl
theorem aAA {l:List Int} {m:Int} (h:Within l (m+1)):∀n,n≤l.length→0≤uM l n∧uM l n≤m*n
 |0,_=>by simp [uM]
 |n+1,hn=>by
  have h1:=aAA h n (by omega)
  have h2:=h n (by omega)
  have e:m*((n+1:Nat):Int)=m*n+m:=by rw [Int.natCast_succ,Int.mul_add,Int.mul_one]
  rw [aBL,e]
  omega
def SF.elems (f:SF):Int:=uM f.sizes f.sizes.length
theorem IsSF.sum_le {f:SF} (h:IsSF f) {n:Nat} (hn:n≤f.sizes.length):0≤uM f.sizes n∧uM f.sizes n≤128:=by
 have h1:=aAA (m:=16) h.szw n hn
 have h2:=h.szl
 have h3:=h.cat.ob8
 omega
def aRJ (l:List Int):List (List Int):=l.map fun n=>List.replicate n.toNat (-1)
def SCo (f g:SF) (c:Int):Prop:=(¬(IsSF f∧IsSF g)∧c=1)∨((IsSF f∧IsSF g)∧f.shape≠g.shape∧c=5)∨((IsSF f∧IsSF g)∧f.shape=g.shape∧c=0)
def aOW (c:Cat) (x n:Nat):List Int:=(aJ3 c x n).map fun a:Nat=>(a:Int)
theorem aHC (c:Cat) (x:Nat):aOW c x 0=[]:=rfl
theorem aMk {l:List Int} {n:Int} {i:Nat} (hi:i<l.length) (h:l.getD i 0=n):n∈l:=by
 rw [←h,List.getD_eq_getElem?_getD,List.getElem?_eq_getElem hi];exact List.getElem_mem hi
theorem aJl {l:List Int} {n:Int} {i:Nat} (h:∀j,j<i→¬l.getD j 0=n) (hi:l.length≤i):¬n∈l:=by
 intro hm
 obtain⟨j,hj,e⟩:=List.getElem_of_mem hm
 refine h j (by omega) ?_
 rw [List.getD_eq_getElem?_getD,List.getElem?_eq_getElem hj];exact e
end Go.Cats
end
section
namespace Go.Cats
section
variable (f g:SF) (once:Bool)
def aR0 (x e u:Nat) (P:List (List Int)) (N:List (Int×Int)) (j:Nat):Bool×List (List Int)×List (Int×Int):=setL f g once e u ((aJ3 f.shape x f.shape.fr.length).take j) P N
abbrev aWm (x e u:Nat) (P:List (List Int)) (N:List (Int×Int)) (j:Nat):List (List Int):=(aR0 f g once x e u P N j).2.1
abbrev aRZ (x e u:Nat) (P:List (List Int)) (N:List (Int×Int)) (j:Nat):List (Int×Int):=(aR0 f g once x e u P N j).2.2
end
variable {f g:SF} {once:Bool} {x e u j a:Nat} {P Q:List (List Int)} {N:List (Int×Int)}
theorem aBG:aWm f g once x e u P N 0=P:=rfl
theorem zN:aRZ f g once x e u P N 0=N:=rfl
def aNq (f:SF) (x j:Nat):Nat:=(aJ3 f.shape x f.shape.fr.length).getD j 0
theorem aFW (f:SF) (x j:Nat):(aOW f.shape x f.shape.fr.length).getD j 0=aNq f x j:=by
 unfold aOW aNq
 rw [List.getD_eq_getElem?_getD,List.getElem?_map,List.getD_eq_getElem?_getD]
 cases (aJ3 f.shape x f.shape.fr.length)[j]? <;>rfl
variable {y i k:Int}
end Go.Cats
end
section
namespace Go.Cats
section
variable (f g:SF) (once:Bool)
def aRV (x e u:Nat) (P:List (List Int)) (a:Nat):List (List Int):=(aMZ f g once x e u P a).getD P
end
variable {f g:SF} {once:Bool} {x e u a:Nat} {P Q:List (List Int)}
theorem aHL:aRV f g once x e u P 0=P:=rfl
section
variable (h:aMZ f g once x e u P a=some (aRV f g once x e u P a)) (ha:a<f.shape.fr.length) (hx:f.shape.fr.getD a 0=x)
include h ha hx
end
end Go.Cats
end
section
namespace Go.Cats
section
variable (f g:SF) (once:Bool)
def chN (x e:Nat) (P:List (List Int)) (n:Nat):List Nat:=(List.range n).filter fun u=>(aKK f g once x e u P).isSome
def chI (x e:Nat) (P:List (List Int)) (n:Nat):List Int:=(chN f g once x e P n).map fun u:Nat=>(u:Int)
end
variable {f g:SF} {once:Bool} {x e n:Nat} {P Q:List (List Int)}
theorem aIJ:chI f g once x e P 0=[]:=rfl
end Go.Cats
end
section
namespace Go.Cats
section
variable (f g:SF) (once:Bool)
def below (n x e:Nat) (P:List (List Int)) (u:Nat):List (List (List Int)):=match aKK f g once x e u P with
 |none=>[]
 |some Q=>dfs f g once n Q
def aIw (n x e:Nat) (P:List (List Int)) (u:Nat):List (List (List Int)):=(List.range u).flatMap (below f g once n x e P)
end
variable {f g:SF} {once:Bool} {n x e u:Nat} {P Q:List (List Int)}
end Go.Cats
end
section
namespace Go.Cats
def iY (l:List Int) (n:Int) (i:Nat):Option Int:=if l.getD i 0=n then some (i:Int)else none
def idxOf (l:List Int) (n:Int):Int:=(aW l.length (iY l n)).getD (-1)
theorem idxOf_hit {l:List Int} {n:Int} {i:Nat} (h:aW i (iY l n)=none) (hi:i<l.length) (k:l.getD i 0=n):idxOf l n=i:=by
 unfold idxOf
 rw [dL hi h (show iY l n i=some (i:Int) from if_pos k)];rfl
theorem qW {l:List Int} {n:Int} (h:aW l.length (iY l n)=none):idxOf l n= -1:=by
 unfold idxOf
 rw [h];rfl
theorem aE2 {l:List Int} {n:Int} {i:Nat} (k:¬l.getD i 0=n):iY l n i=none:=if_neg k
theorem aDB {l:List Int} {n:Int} (h:idxOf l n≠-1):0≤idxOf l n∧idxOf l n<l.length∧l.getD (idxOf l n).toNat 0=n:=by
 unfold idxOf at h⊢
 cases hs:aW l.length (iY l n)with
 |none=>rw [hs]at h;exact absurd rfl h
 |some r=>
  obtain⟨i,hi,k⟩:=bN hs
  unfold iY at k
  split at k
  ·rename_i q;simp at k;subst k
   simp only [Option.getD_some,Int.toNat_natCast]
   exact⟨by omega,by omega,q⟩
  ·cases k
theorem pH {l:List Int} {n:Int} (h:n∈l):0≤idxOf l n∧idxOf l n<l.length∧l.getD (idxOf l n).toNat 0=n:=by
 refine aDB fun e=>?_
 unfold idxOf at e
 cases hs:aW l.length (iY l n)with
 |none=>
  obtain⟨i,hi,k⟩:=fB (d:=0) h
  have:=scan_none.1 hs i hi
  unfold iY at this
  rw [if_pos k]at this
  cases this
 |some r=>
  rw [hs]at e
  obtain⟨i,hi,k⟩:=bN hs
  unfold iY at k
  split at k
  ·simp at k;subst k;simp at e
  ·cases k
/-! ### Representables -/
def Cat.homs (c:Cat) (x:Int) (n:Nat):List (List Int):=(List.range n).map fun y:Nat=>c.hom x y
def Cat.small (c:Cat) (x:Int):Prop:=∀y:Nat,(y:Int)<c.ob→(c.hom x y).length≤16
def Cat.repAct (c:Cat) (x:Int) (a:Nat):List Int:=(c.hom x (c.fr.getD a 0)).map fun h=>idxOf (c.hom x (c.to.getD a 0)) ((c.co.getD h.toNat []).getD a 0)
def Cat.rep (c:Cat) (x:Int):SF:=⟨c,(List.range c.ob.toNat).map fun y:Nat=>((c.hom x y).length:Int),(List.range c.fr.length).map (c.repAct x)⟩
theorem Cat.hom_len (c:Cat) (x y:Int):(c.hom x y).length≤c.fr.length:=c.homI_len x y _
end Go.Cats
end
section
namespace Go.Cats
def suf {α:Type} (n:Nat) (p:Nat→Option α):Nat→Option α
 |0=>none
 |k+1=>(p (n-1-k)).or (suf n p k)
def pX:Option (Nat×Nat)→Int|none=> -1|some q=>q.1
def pE:Option (Nat×Nat)→Int|none=> -1|some q=>q.2
def bkR (P:List (List Int)) (i:Nat):Option (Nat×Nat):=suf P.length (fuR P) i
def bkI (P:List (List Int)) (i j:Nat):Option (Nat×Nat):=(suf (P.getD (P.length-1-i) []).length (fuI P (P.length-1-i)) j).or (bkR P i)
theorem aID {P:List (List Int)}:bkR P 0=none:=rfl
theorem aIC {P:List (List Int)} {i:Nat}:bkI P i 0=bkR P i:=rfl
section
variable (f g:SF) (once:Bool)
end
variable {f g:SF} {once:Bool} {n x e u:Nat} {P Q:List (List Int)}
end Go.Cats
end
section
namespace Go.Cats
/-! ### Results, taken up one by one -/
section
variable {α β:Type} (s:α→β→Bool×α)
def eat:α→List β→Bool×α
 |o,[]=>(true,o)
 |o,q::D=>if(s o q).1=true then eat (s o q).2 D else(false,(s o q).2)
end
section
variable {α β:Type} {s:α→β→Bool×α} {o:α} {D E:List β} {q:β}
end
def stA (o:List (List Int)) (q:List (List Int)):Bool×List (List Int):=(false,q)
def stB (M:Nat) (o:List (List (List Int))) (q:List (List Int)):Bool×List (List (List Int)):=(decide (o.length+1≤M),o++[q])
/-! ### The way back -/
variable {f g:SF} {once:Bool} {x e u n:Nat} {P Q:List (List Int)} {N:List (Int×Int)}
structure ChF (f g:SF) (once:Bool) (x e u:Nat) (P Q:List (List Int)) (N:List (Int×Int)) (ok:Bool):Prop where
 len:Q.length=P.length
 row:∀y,(Q.getD y []).length=(P.getD y []).length
 nl:N.length≤4096
 at1:∀i,i<N.length→0≤(N.getD i (0,0)).1∧(N.getD i (0,0)).1.toNat<P.length∧0≤(N.getD i (0,0)).2∧(N.getD i (0,0)).2.toNat<(P.getD (N.getD i (0,0)).1.toNat []).length
 back:aPz Q N=P
 yes:ok=true→aKK f g once x e u P=some Q
 no:ok=false→aKK f g once x e u P=none
end Go.Cats
end
section
namespace Go.Cats
def aCo:List Nat→List (List Int)
 |[]=>[[]]
 |s::S=>(List.range s).flatMap fun v:Nat=>(aCo S).map fun l=>(v:Int)::l
def nN:List Int→List Int→Bool
 |[],[]=>true
 |a::A,q::Q=>(decide (a<0)||decide (q=a))&&nN A Q
 |_,_=>false
def mU (W:List Int→Bool) (S:List Nat) (A:List Int):List (List Int):=(aCo S).filter fun Q=>nN A Q&&W Q
theorem mem_lexP:∀{S:List Nat} {Q:List Int},Q∈aCo S↔Q.length=S.length∧∀i,i<Q.length→0≤Q.getD i 0∧Q.getD i 0<S.getD i 0
 |[],Q=>by
  simp only [aCo,List.mem_singleton,List.length_nil]
  constructor
  ·rintro rfl;exact⟨rfl,fun i hi=>by simp at hi⟩
  ·rintro⟨h,_⟩;exact List.length_eq_zero_iff.1 h
 |s::S,Q=>by
  simp only [aCo,List.mem_flatMap,List.mem_range,List.mem_map]
  constructor
  ·rintro⟨v,hv,l,hl,rfl⟩
   obtain⟨h1,h2⟩:=mem_lexP.1 hl
   refine⟨by simp [h1],fun i hi=>?_⟩
   cases i with
   |zero=>simpa using hv
   |succ i=>simpa using h2 i (by simpa using hi)
  ·rintro⟨h1,h2⟩
   cases Q with
   |nil=>simp at h1
   |cons q Q=>
    have h0:=h2 0 (by simp)
    simp only [List.getD_cons_zero]at h0
    refine⟨q.toNat,by omega,Q,mem_lexP.2 ⟨by simpa using h1,fun i hi=>by have:=h2 (i+1) (by simp;omega);simpa using this⟩,?_⟩
    rw [Int.toNat_of_nonneg h0.1]
theorem aI2 {β:Type} {s:Nat} {a:Int} {g:Nat→List β}:((List.range s).flatMap fun v:Nat=>if(v:Int)=a then g v else [])=if 0≤a∧a<s then g a.toNat else []:=by
 induction s with
 |zero=>rw [if_neg (by omega)];rfl
 |succ s ih=>
  rw [List.range_succ,List.flatMap_append,ih,List.flatMap_cons,List.flatMap_nil,List.append_nil]
  by_cases h:(s:Int)=a
  ·subst h
   rw [if_neg (by omega),if_pos rfl,if_pos (by omega),List.nil_append,Int.toNat_natCast]
  ·rw [if_neg h,List.append_nil]
   by_cases h1:0≤a∧a<s
   ·rw [if_pos h1,if_pos (by omega)]
   ·rw [if_neg h1,if_neg (by omega)]
theorem aHc {W:List Int→Bool} {s:Nat} {S:List Nat} {a:Int} {A:List Int}:
  mU W (s::S) (a::A)=(List.range s).flatMap fun v:Nat=>if a<0∨(v:Int)=a then(mU (fun Q=>W ((v:Int)::Q)) S A).map fun l=>(v:Int)::l else []:=by
 unfold mU
 rw [aCo,List.filter_flatMap]
 congr 1
 funext v
 rw [List.filter_map]
 by_cases h:a<0∨(v:Int)=a
 ·rw [if_pos h]
  congr 1
  refine List.filter_congr fun Q _=>?_
  have:(decide (a<0)||decide ((v:Int)=a))=true:=by simpa using h
  simp only [Function.comp,nN,this,Bool.true_and]
 ·rw [if_neg h]
  have:(decide (a<0)||decide ((v:Int)=a))=false:=by simpa using h
  have e:((fun Q=>nN (a::A) Q&&W Q)∘fun l=>(v:Int)::l)=fun _=>false:=by
   funext Q
   simp only [Function.comp,nN,this,Bool.false_and]
  rw [e]
  simp
theorem aIY {W:List Int→Bool} {s:Nat} {S:List Nat} {a:Int} {A:List Int} (h:0≤a):mU W (s::S) (a::A)=if a<s then(mU (fun Q=>W (a::Q)) S A).map fun l=>a::l else []:=by
 rw [aHc]
 have:(fun v:Nat=>if a<0∨(v:Int)=a then(mU (fun Q=>W ((v:Int)::Q)) S A).map (fun l=>(v:Int)::l)else [])=fun v:Nat=>if(v:Int)=a then(mU (fun Q=>W ((v:Int)::Q)) S A).map (fun l=>(v:Int)::l)else []:=by
  funext v
  by_cases h1:(v:Int)=a
  ·rw [if_pos (.inr h1),if_pos h1]
  ·rw [if_neg (by omega),if_neg h1]
 rw [this,aI2]
 by_cases h1:a<s
 ·rw [if_pos ⟨h,h1⟩,if_pos h1,Int.toNat_of_nonneg h]
 ·rw [if_neg (by omega),if_neg h1]
theorem aBn:∀{W:List Int→Bool} {S:List Nat} {A:List Int},A.length=S.length→(∀j,j<A.length→0≤A.getD j 0∧A.getD j 0<S.getD j 0)→mU W S A=if W A=true then [A]else []
 |W,[],A,hl,_=>by
  have:A=[]:=List.length_eq_zero_iff.1 hl
  subst this
  cases h:W []<;>simp [mU,aCo,nN,h]
 |W,s::S,[],hl,_=>by simp at hl
 |W,s::S,a::A,hl,h=>by
  have h0:=h 0 (by simp)
  simp only [List.getD_cons_zero]at h0
  rw [aIY h0.1,if_pos h0.2,aBn (by simpa using hl) (fun j hj=>by have:=h (j+1) (by simp;omega);simpa using this)]
  split<;>simp_all
end Go.Cats
end
section
namespace Go.Cats
structure Rule where
 fr:Int
 to:Int
 by_:List Int
instance:Inhabited Rule:=⟨⟨0,0,[]⟩⟩
def xH (rs:List Rule) (i:Nat):List Rule:=rs.filter fun r=>decide (r.fr=i)
def okW (rs:List Rule) (Q:List Int):Bool:=rs.all fun r=>decide (Q.getD r.to.toNat 0=r.by_.getD (Q.getD r.fr.toNat 0).toNat 0)
structure RulesW (S:List Nat) (rs:List Rule):Prop where
 fr:∀r∈rs,0≤r.fr∧r.fr<S.length
 to:∀r∈rs,0≤r.to∧r.to<S.length
 len:∀r∈rs,r.by_.length=S.getD r.fr.toNat 0
 val:∀r∈rs,∀e:Nat,e<S.getD r.fr.toNat 0→0≤r.by_.getD e 0∧r.by_.getD e 0<S.getD r.to.toNat 0
theorem vE {rs:List Rule} {i:Nat} {r:Rule} (h:r∈xH rs i):r∈rs∧r.fr=i:=by
 unfold xH at h
 simpa [List.mem_filter]using h
abbrev St:=Bool×List Int×List Int
def aNM (f:Nat→Int→List Int→List Int→St) (e:Int):List Rule→List Int→List Int→St
 |[],A,N=>(true,A,N)
 |r::l,A,N=>if(f r.to.toNat (r.by_.getD e.toNat 0) A N).1=true then aNM f e l (f r.to.toNat (r.by_.getD e.toNat 0) A N).2.1 (f r.to.toNat (r.by_.getD e.toNat 0) A N).2.2 else f r.to.toNat (r.by_.getD e.toNat 0) A N
section
variable {f:Nat→Int→List Int→List Int→St} {e:Int} {r:Rule} {l m:List Rule} {A B C N Q:List Int} {rs:List Rule} {S:List Nat} {n i:Nat}
def XtL (A B:List Int):Prop:=A.length=B.length∧∀j,j<A.length→0≤A.getD j 0→B.getD j 0=A.getD j 0
theorem XtL.refl (A:List Int):XtL A A:=⟨rfl,fun _ _ _=>rfl⟩
theorem XtL.trans (h:XtL A B) (k:XtL B C):XtL A C:=⟨h.1.trans k.1,fun j hj h0=>by
 have e1:=h.2 j hj h0
 rw [k.2 j (by rw [←h.1];exact hj) (by rw [e1];exact h0),e1]⟩
def uns (A:List Int):Nat:=(A.filter fun v=>decide (v<0)).length
theorem XtL.uns (h:XtL A B):uns B≤uns A:=aCe h.1 h.2
theorem XtL.uns_lt (h:XtL A B) {j:Nat} (hj:j<A.length) (h0:A.getD j 0<0) (h1:0≤B.getD j 0):Cats.uns B<Cats.uns A:=aGe h.1 h.2 j hj h0 h1
theorem kK {i j:Nat} {k:Int} (hi:i<A.length):(A.set i k).getD j 0=if j=i then k else A.getD j 0:=by
 rw [List.getD_eq_getElem?_getD,List.getElem?_set]
 by_cases h:j=i
 ·subst h;rw [if_pos rfl,if_pos hi,if_pos rfl];rfl
 ·rw [if_neg (fun q=>h q.symm),if_neg h,List.getD_eq_getElem?_getD]
theorem XtL.set (hi:i<A.length) (h:¬0≤A.getD i 0):XtL A (A.set i e):=⟨by simp,fun j hj h0=>by
 rw [kK hi,if_neg (fun q=>h (by rw [←q];exact h0))]⟩
def RngL (S:List Nat) (A:List Int):Prop:=A.length=S.length∧∀j,j<A.length→-1≤A.getD j 0∧A.getD j 0<S.getD j 0
theorem RngL.set (h:RngL S A) (hi:i<A.length) (he:0≤e∧e<S.getD i 0):RngL S (A.set i e):=⟨by simp [h.1],fun j hj=>by
 rw [kK hi]
 by_cases q:j=i
 ·subst q;rw [if_pos rfl];omega
 ·rw [if_neg q];exact h.2 j (by simpa using hj)⟩
def ClF (rs:List Rule) (A B:List Int):Prop:=∀j,j<A.length→A.getD j 0<0→0≤B.getD j 0→∀r∈xH rs j,B.getD r.to.toNat 0=r.by_.getD (B.getD j 0).toNat 0
theorem ClF.refl (A:List Int):ClF rs A A:=fun j _ h0 h1=>by omega
theorem ClF.trans (hw:RulesW S rs) (hB:RngL S B) (h:ClF rs A B) (x:XtL A B) (y:XtL B C) (k:ClF rs B C):ClF rs A C:=fun j hj h0 h1 r hr=>by
 by_cases hb:0≤B.getD j 0
 ·have e1:=h j hj h0 hb r hr
  have e2:=y.2 j (by rw [←x.1];exact hj) hb
  obtain⟨m1,m2⟩:=vE hr
  have b1:=hB.2 j (by rw [←x.1];exact hj)
  have t1:=hw.to r m1
  have v1:=hw.val r m1 (B.getD j 0).toNat (by rw [m2];simp only [Int.toNat_natCast];omega)
  have e3:=y.2 r.to.toNat (by have:=hB.1;omega) (by rw [e1];exact v1.1)
  rw [e3,e2,e1]
 ·exact k j (by rw [←x.1];exact hj) (by omega) h1 r hr
def aGU (A N:List Int):List Int:=N.foldl (fun A k=>A.set k.toNat (-1)) A
structure Fct (S:List Nat) (A N:List Int) (t:St):Prop where
 ext:XtL A t.2.1
 rng:RngL S t.2.1
 und:aGU t.2.1 t.2.2=aGU A N
 nts:∀k∈t.2.2,k∈N∨(0≤k∧k.toNat<A.length)
 cnt:t.2.2.length+uns t.2.1≤N.length+uns A
theorem Fct.refl {b:Bool} (h:RngL S A):Fct S A N (b,A,N):=⟨.refl _,h,rfl,fun k hk=> .inl hk,Nat.le_refl _⟩
theorem Fct.trans {t u:St} (h:Fct S A N t) (k:Fct S t.2.1 t.2.2 u):Fct S A N u:=
 ⟨h.ext.trans k.ext,k.rng,k.und.trans h.und,fun x hx=>by
  rcases k.nts x hx with h1|h1
  ·exact h.nts x h1
  ·exact .inr (by rw [h.ext.1];exact h1),Nat.le_trans k.cnt h.cnt⟩
def ClL (rs:List Rule) (A:List Int):Prop:=∀j,j<A.length→0≤A.getD j 0→∀r∈xH rs j,A.getD r.to.toNat 0=r.by_.getD (A.getD j 0).toNat 0
theorem ClL.step (hw:RulesW S rs) (hA:RngL S A) (h:ClL rs A) (x:XtL A B) (k:ClF rs A B):ClL rs B:=fun j hj h0 r hr=>by
 rw [←x.1]at hj
 by_cases q:0≤A.getD j 0
 ·have e1:=h j hj q r hr
  have e2:=x.2 j hj q
  obtain⟨m1,m2⟩:=vE hr
  have b1:=hA.2 j hj
  have t1:=hw.to r m1
  have v1:=hw.val r m1 (A.getD j 0).toNat (by rw [m2];simp only [Int.toNat_natCast];omega)
  rw [x.2 r.to.toNat (by have:=hA.1;omega) (by rw [e1];exact v1.1),e2,e1]
 ·exact k j hj (by omega) h0 r hr
end
end Go.Cats
end
section
namespace Go.Cats
def stL {β:Type} (M:Nat) (o:List β) (q:β):Bool×List β:=(decide (o.length+1≤M),o++[q])
section
variable {f:Nat→Int→List Int→List Int→St} {e:Int} {l:List Rule} {A N:List Int} {k:Nat}
end
def aN6 (W:List Int→Bool) (S:List Nat) (A:List Int) (i u:Nat):List (List Int):=(List.range u).flatMap fun v:Nat=>mU W S (A.set i (v:Int))
structure TryF (rs:List Rule) (S:List Nat) (A:List Int) (i u:Nat) (T:St):Prop where
 len:T.2.1.length=A.length
 nl:T.2.2.length≤A.length
 at1:∀j,j<T.2.2.length→0≤T.2.2.getD j 0∧(T.2.2.getD j 0).toNat<A.length
 back:aGU T.2.1 T.2.2=A
 yes:T.1=true→RngL S T.2.1∧ClL rs T.2.1∧uns T.2.1<uns A∧mU (okW rs) S (A.set i (u:Int))=mU (okW rs) S T.2.1
 no:T.1=false→mU (okW rs) S (A.set i (u:Int))=[]
end Go.Cats
end
section
namespace Go.Cats
abbrev Fs:=Bool×Bool×List Int
abbrev Cat.cp (c:Cat) (a b:Nat):Int:=(c.co.getD a []).getD b 0
section
variable {c d:Cat} {a b m n k:Nat} {s t u:Fs} {O A B Q:List Int} {g:Bool}
structure VA (c d:Cat) (O A:List Int):Prop where
 len:A.length=c.fr.length
 lo:∀f:Nat,f<A.length→-1≤A.getD f 0
 hi:∀f:Nat,f<A.length→0≤A.getD f 0→A.getD f 0<d.fr.length∧d.fr.getD (A.getD f 0).toNat 0=O.getD (c.fr.getD f 0).toNat 0∧d.to.getD (A.getD f 0).toNat 0=O.getD (c.to.getD f 0).toNat 0
theorem rW (hc:Shape c) (ha:a<c.fr.length) (hb:b<c.fr.length) (h0:0≤c.cp a b):c.to.getD a 0=c.fr.getD b 0∧(c.cp a b).toNat<c.fr.length∧c.fr.getD (c.cp a b).toNat 0=c.fr.getD a 0∧c.to.getD (c.cp a b).toNat 0=c.to.getD b 0:=by
 have:=(hc.coe a ha).2 b hb
 unfold Cat.Entry at this
 simp only [Cat.F,Cat.T,Cat.C,Int.toNat_natCast]at this
 rcases this with⟨h1,h2,h3,h4⟩|⟨h1,h2⟩
 ·exact⟨h1,by show((c.co.getD a []).getD b 0).toNat<_;omega,h3,h4⟩
 ·exact absurd h0 (by show¬0≤(c.co.getD a []).getD b 0;omega)
theorem aIM (hd:Shape d) (ha:a<d.fr.length) (hb:b<d.fr.length) (h:d.to.getD a 0=d.fr.getD b 0):0≤d.cp a b∧d.cp a b<d.fr.length∧d.fr.getD (d.cp a b).toNat 0=d.fr.getD a 0∧d.to.getD (d.cp a b).toNat 0=d.to.getD b 0:=by
 have:=(hd.coe a ha).2 b hb
 unfold Cat.Entry at this
 simp only [Cat.F,Cat.T,Cat.C,Int.toNat_natCast]at this
 rcases this with⟨h1,h2,h3,h4⟩|⟨h1,h2⟩
 ·exact⟨h2.1,h2.2,h3,h4⟩
 ·exact absurd h h1
theorem VA.comp (hc:Shape c) (hd:Shape d) (h:VA c d O A) (ha:a<c.fr.length) (hb:b<c.fr.length) (h0:0≤c.cp a b) (a0:0≤A.getD a 0) (b0:0≤A.getD b 0):
  0≤d.C (A.getD a 0) (A.getD b 0)∧d.C (A.getD a 0) (A.getD b 0)<d.fr.length∧d.fr.getD (d.C (A.getD a 0) (A.getD b 0)).toNat 0=O.getD (c.fr.getD (c.cp a b).toNat 0).toNat 0∧d.to.getD (d.C (A.getD a 0) (A.getD b 0)).toNat 0=O.getD (c.to.getD (c.cp a b).toNat 0).toNat 0:=by
 obtain⟨e1,e2,e3,e4⟩:=rW hc ha hb h0
 obtain⟨p1,p2,p3⟩:=h.hi a (by rw [h.len];exact ha) a0
 obtain⟨q1,q2,q3⟩:=h.hi b (by rw [h.len];exact hb) b0
 obtain⟨r1,r2,r3,r4⟩:=aIM hd (a:=(A.getD a 0).toNat) (b:=(A.getD b 0).toNat) (by omega) (by omega) (by rw [p3,q2,e1])
 exact⟨r1,r2,by rw [e3,←p2];exact r3,by rw [e4,←q3];exact r4⟩
theorem VA.set (h:VA c d O A) {i:Nat} {v:Int} (hi:i<A.length) (v0:0≤v) (v1:v<d.fr.length) (v2:d.fr.getD v.toNat 0=O.getD (c.fr.getD i 0).toNat 0) (v3:d.to.getD v.toNat 0=O.getD (c.to.getD i 0).toNat 0):VA c d O (A.set i v):=by
 refine⟨by simp [h.len],fun f hf=>?_,fun f hf=>?_⟩
 ·rw [kK hi]
  by_cases e:f=i
  ·rw [if_pos e];omega
  ·rw [if_neg e];exact h.lo f (by simpa using hf)
 ·rw [kK hi]
  by_cases e:f=i
  ·subst e;rw [if_pos rfl];exact fun _=>⟨v1,v2,v3⟩
  ·rw [if_neg e];exact h.hi f (by simpa using hf)
theorem VA.rng (h:VA c d O A):RngL (List.replicate c.fr.length d.fr.length) A:=⟨by rw [List.length_replicate];exact h.len,fun j hj=>by
 have h1:=h.lo j hj
 have h2:=h.hi j hj
 have h3:=h.len
 have e:(List.replicate c.fr.length d.fr.length).getD j 0=d.fr.length:=by
  rw [List.getD_eq_getElem?_getD,List.getElem?_replicate,if_pos (by omega)];rfl
 rw [e]
 by_cases h0:0≤A.getD j 0
 ·exact⟨h1,(h2 h0).1⟩
 ·exact⟨h1,by omega⟩⟩
def Cmp (c d:Cat) (Q:List Int):Prop:=∀a b:Nat,a<c.fr.length→b<c.fr.length→0≤c.cp a b→Q.getD (c.cp a b).toNat 0=d.C (Q.getD a 0) (Q.getD b 0)
structure Ff (c d:Cat) (O A:List Int) (g:Bool) (t:Fs):Prop where
 va:VA c d O t.2.2
 ext:XtL A t.2.2
 keep:t.2.1=false→g=false∧t.2.2=A
 prog:t.2.1=true→g=true∨uns t.2.2<uns A
 snd:∀Q,Cmp c d Q→nN A Q=true→t.1=true∧nN t.2.2 Q=true
theorem Ff.refl (h:VA c d O A):Ff c d O A g (true,g,A):=⟨h, .refl _,fun e=>⟨e,rfl⟩,fun e=> .inl e,fun _ _ h=>⟨rfl,h⟩⟩
theorem Ff.trans (h:Ff c d O A g t) (k:Ff c d O t.2.2 t.2.1 u):Ff c d O A g u:=by
 refine⟨k.va,h.ext.trans k.ext,fun e=>?_,fun e=>?_,fun Q hq hA=>k.snd Q hq (h.snd Q hq hA).2⟩
 ·obtain⟨e1,e2⟩:=k.keep e
  obtain⟨e3,e4⟩:=h.keep e1
  exact⟨e3,e2.trans e4⟩
 ·have u1:=h.ext.uns
  have u2:=k.ext.uns
  rcases k.prog e with e1|e1
  ·rcases h.prog e1 with e2|e2
   ·exact .inl e2
   ·exact .inr (by omega)
  ·exact .inr (by omega)
def Clo (c d:Cat) (A:List Int) (a b:Nat):Prop:=0≤c.cp a b→0≤A.getD a 0→0≤A.getD b 0→A.getD (c.cp a b).toNat 0=d.C (A.getD a 0) (A.getD b 0)
structure Fo (c d:Cat) (O A:List Int) (t:Bool×List Int):Prop where
 va:VA c d O t.2
 ext:XtL A t.2
 clo:t.1=true→∀a,a<c.fr.length→∀b,b<c.fr.length→Clo c d t.2 a b
 snd:∀Q,Cmp c d Q→nN A Q=true→t.1=true∧nN t.2 Q=true
def NdI (A:List Int):Prop:=∀i j:Nat,i<j→j<A.length→0≤A.getD i 0→A.getD i 0≠A.getD j 0
noncomputable def WA (c d:Cat) (b:Bool) (O Q:List Int):Bool:=dec (Fits ⟨c,d,O,Q⟩∧(b=true→NdI O∧NdI Q))
theorem WA_iff {b:Bool}:WA c d b O Q=true↔Fits ⟨c,d,O,Q⟩∧(b=true→NdI O∧NdI Q):=aF2
theorem Fits.cmp (h:Fits ⟨c,d,O,Q⟩):Cmp c d Q:=fun a b ha hb h0=>by
 have:=h.comp a b ha hb (by simpa only [Cat.C,Int.toNat_natCast]using h0)
 simpa only [Cat.C,Fun.A,Int.toNat_natCast]using this
structure Sp (c d:Cat) (b:Bool) (O A:List Int) (t:Bool×List Int):Prop where
 va:VA c d O t.2
 ext:XtL A t.2
 clo:t.1=true→∀a,a<c.fr.length→∀b,b<c.fr.length→Clo c d t.2 a b
 nd:t.1=true→b=true→NdI t.2
 snd:∀Q,WA c d b O Q=true→nN A Q=true→t.1=true∧nN t.2 Q=true
end
end Go.Cats
end
section
namespace Go.Cats
theorem Cat.rep_sfb {c:Cat} (hs:Shape c) (hb:CatB c) (x:Int):SFB (c.rep x):=by
 have h1:=hs.ob8
 have h2:=hs.m40
 refine⟨hb,?_,?_,fun a ha=>?_⟩
 ·simp [Cat.rep];omega
 ·simp [Cat.rep];omega
 ·have h3:a<c.fr.length:=by simpa [Cat.rep]using ha
  have e:(c.rep x).acts.getD a []=c.repAct x a:=by simp [Cat.rep,List.getD_eq_getElem?_getD,h3]
  have h4:=c.hom_len x (c.fr.getD a 0)
  rw [e];unfold Cat.repAct;rw [List.length_map];omega
end Go.Cats
end
section
namespace Go.Cats
def SF.eRow (f:SF) (x e:Int) (y k:Nat):List Int:=((f.shape.hom x y).take k).map fun h=>(f.acts.getD h.toNat []).getD e.toNat 0
def SF.eParts (f:SF) (x e:Int) (y:Nat):List (List Int):=(List.range y).map fun y:Nat=>(f.shape.hom x y).map fun h=>(f.acts.getD h.toNat []).getD e.toNat 0
theorem SF.eRow_zero (f:SF) (x e:Int) (y:Nat):f.eRow x e y 0=[]:=rfl
theorem SF.eRow_succ {f:SF} {x e:Int} {y k:Nat} (h:k<(f.shape.hom x y).length):f.eRow x e y (k+1)=f.eRow x e y k++[(f.acts.getD ((f.shape.hom x y).getD k 0).toNat []).getD e.toNat 0]:=by
 unfold SF.eRow
 have e:(f.shape.hom x y).getD k 0=(f.shape.hom x y)[k]:=by simp [List.getD_eq_getElem?_getD,h]
 rw [List.take_succ_eq_append_getElem h,List.map_append,e];rfl
theorem SF.eRow_len (f:SF) (x e:Int) (y k:Nat):(f.eRow x e y k).length=min k (f.shape.hom x y).length:=by simp [SF.eRow]
theorem SF.eParts_zero (f:SF) (x e:Int):f.eParts x e 0=[]:=rfl
theorem SF.eParts_succ (f:SF) (x e:Int) (y k:Nat) (h:(f.shape.hom x y).length≤k):f.eParts x e (y+1)=f.eParts x e y++[f.eRow x e y k]:=by
 unfold SF.eParts SF.eRow
 rw [List.range_succ,List.map_append,List.take_of_length_le h];rfl
theorem SF.eParts_len (f:SF) (x e:Int) (y:Nat):(f.eParts x e y).length=y:=by simp [SF.eParts]
theorem SF.eParts_row (f:SF) (x e:Int) (n y:Nat) (h:y<n):((f.eParts x e n).getD y []).length=(f.shape.hom x y).length:=by
 simp [SF.eParts,List.getD_eq_getElem?_getD,h]
def SF.Elem (f:SF) (x e:Int):Prop:=(0≤x∧x<f.shape.ob)∧0≤e∧e<f.sizes.getD x.toNat 0
def SF.eMap (f:SF) (x e:Int):SM:=⟨f.shape.rep x,f,f.eParts x e f.shape.ob.toNat⟩
theorem SF.eMap_smb {f:SF} (hs:Shape f.shape) (hb:SFB f) (x e:Int):SMB (f.eMap x e):=by
 have h1:=hs.ob8
 have h2:=hs.m40
 refine⟨Cat.rep_sfb hs hb.shape x,hb,?_,fun y hy=>?_⟩
 ·have:=f.eParts_len x e f.shape.ob.toNat
  show(f.eParts x e f.shape.ob.toNat).length≤_
  omega
 ·have h3:=f.eParts_len x e f.shape.ob.toNat
  have hy':y<(f.eParts x e f.shape.ob.toNat).length:=hy
  have h4:=f.eParts_row x e f.shape.ob.toNat y (by omega)
  have h5:=f.shape.hom_len x y
  show((f.eParts x e f.shape.ob.toNat).getD y []).length≤_
  omega
theorem SF.elem_act {f:SF} {y:Int} (s:IsSF f) {x e:Int} (h:f.Elem x e) {a:Int} (ha:a∈f.shape.hom x y):0≤a∧a.toNat<f.acts.length∧e.toNat<(f.acts.getD a.toNat []).length:=by
 rw [Cat.mem_hom]at ha
 obtain⟨h1,h2,h3,h4⟩:=ha
 have h5:=s.acl
 have h6:=(s.act a.toNat (by omega)).1
 obtain⟨⟨k1,k2⟩,k3,k4⟩:=h
 have e1:f.shape.fr.getD a.toNat 0=x:=h3
 rw [e1]at h6
 refine⟨h1,by omega,by omega⟩
end Go.Cats
end
section
namespace Go.Cats
theorem Shape.comp_nn {c:Cat} (s:Shape c) {f g:Nat} (hf:f<c.fr.length) (hg:g<c.fr.length) (h:c.to.getD f 0=c.fr.getD g 0):0≤(c.co.getD f []).getD g 0:=by
 rcases(s.coe f hf).2 g hg with⟨_,h2,_⟩|⟨h2,_⟩
 ·have e:c.C f g=(c.co.getD f []).getD g 0:=by simp [Cat.C]
  rw [e]at h2;exact h2.1
 ·exact absurd h h2
theorem Shape.comp_row {c:Cat} (s:Shape c) {f:Int} (h0:0≤f) (h1:f<c.fr.length):(c.co.getD f.toNat []).length=c.fr.length:=(s.coe f.toNat (by omega)).1
end Go.Cats
end
section
namespace Go.Cats
def cH (f g:Fun) (a b:Nat):List Int:=f.tgt.hom (f.obs.getD a 0) (g.obs.getD b 0)
def cO (f g:Fun) (a b k:Nat):List (List Int):=
 (dR a fun a=>dR g.obs.length fun b=>(cH f g a b).map fun h=>[(a:Int),(b:Int),h])++(dR b fun b=>(cH f g a b).map fun h=>[(a:Int),(b:Int),h])++((cH f g a b).take k).map fun h=>[(a:Int),(b:Int),h]
def rP (f g:Fun):List (List Int):=cO f g f.obs.length 0 0
theorem aFY (f g:Fun):cO f g 0 0 0=[]:=by simp [cO,dR]
def gK (l:List (List Int)) (k n:Nat):List Int:=(l.take n).map fun r=>r.getD k 0
theorem pB (l:List (List Int)) (k:Nat):gK l k 0=[]:=rfl
theorem aG3 {l:List (List Int)} {k n:Nat} (h:n<l.length):gK l k (n+1)=gK l k n++[(l.getD n []).getD k 0]:=by
 unfold gK
 have e:l.getD n []=l[n]:=by simp [List.getD_eq_getElem?_getD,h]
 rw [List.take_succ_eq_append_getElem h,List.map_append,e];rfl
theorem cJ (l:List (List Int)) (k n:Nat):(gK l k n).length=min n l.length:=by simp [gK]
end Go.Cats
end
section
namespace Go.Cats
abbrev rw' (O:List (List Int)) (p k:Nat):Int:=(O.getD p []).getD k 0
def cU (f:Fun) (k:Nat) (O:List (List Int)) (s t:Nat):List Int:=f.src.hom (rw' O s k) (rw' O t k)
def cC (f e:Fun) (O:List (List Int)) (s t:Nat) (u v:Int):Prop:=f.tgt.C (f.A u) (rw' O t 2)=f.tgt.C (rw' O s 2) (e.A v)
open Classical in
noncomputable def cE (f e:Fun) (O:List (List Int)) (s t i j:Nat):List (List Int):=
 if cC f e O s t ((cU f 0 O s t).getD i 0) ((cU e 1 O s t).getD j 0)then [[(s:Int),(t:Int),(cU f 0 O s t).getD i 0,(cU e 1 O s t).getD j 0]]else []
noncomputable def aQT (f e:Fun) (O:List (List Int)) (s t i:Nat):List (List Int):=dR (cU e 1 O s t).length fun j=>cE f e O s t i j
noncomputable def aNr (f e:Fun) (O:List (List Int)) (s t:Nat):List (List Int):=dR (cU f 0 O s t).length fun i=>aQT f e O s t i
noncomputable def cA (f e:Fun) (O:List (List Int)) (s t i j:Nat):List (List Int):=
 (dR s fun s=>dR O.length fun t=>aNr f e O s t)++(dR t fun t=>aNr f e O s t)++(dR i fun i=>aQT f e O s t i)++(dR j fun j=>cE f e O s t i j)
noncomputable def aVS (f e:Fun) (O:List (List Int)):List (List Int):=cA f e O O.length 0 0 0
variable {f e:Fun} {O:List (List Int)} {s t i j:Nat}
theorem aB2:cA f e O 0 0 0 0=[]:=by simp [cA,dR]
structure ObjR (f e:Fun) (r:List Int):Prop where
 len:r.length=3
 lo:0≤r.getD 0 0
 lh:r.getD 0 0<f.src.ob
 ro:0≤r.getD 1 0
 rh:r.getD 1 0<e.src.ob
 ao:0≤r.getD 2 0
 ah:r.getD 2 0<f.tgt.fr.length
 frm:f.tgt.F (r.getD 2 0)=f.O (r.getD 0 0)
 to:f.tgt.T (r.getD 2 0)=e.O (r.getD 1 0)
def aL4 (l:List (List Int)) (r:List Int) (i:Nat):Option Int:=if l.getD i []=r then some (i:Int)else none
def fnd (l:List (List Int)) (r:List Int):Int:=(aW l.length (aL4 l r)).getD (-1)
end Go.Cats
end
section
namespace Go.Cats
def tb {α:Type} (n:Nat) (F:Nat→α):List α:=(List.range n).map F
theorem aGR {α:Type} (F:Nat→α):tb 0 F=[]:=rfl
theorem aAE {α:Type} (n:Nat) (F:Nat→α):(tb n F).length=n:=by simp [tb]
theorem tb_at {α:Type} (n:Nat) (F:Nat→α) (d:α) {i:Nat} (h:i<n):(tb n F).getD i d=F i:=by simp [tb,h]
def bId (A:List (List Int)) (a b:Cat) (L R:List Int) (x:Nat):Int:=fnd A [(x:Int),(x:Int),a.id.getD (L.getD x 0).toNat 0,b.id.getD (R.getD x 0).toNat 0]
def aVO (A:List (List Int)) (a b:Cat) (i j:Nat):List Int:=[rw' A i 0,rw' A j 1,a.C (rw' A i 2) (rw' A j 2),b.C (rw' A i 3) (rw' A j 3)]
def aVN (A:List (List Int)) (a b:Cat) (i j:Nat):Int:=if rw' A i 1=rw' A j 0 then fnd A (aVO A a b i j)else-1
def aBZ (N:Nat) (A:List (List Int)) (a b:Cat) (L R:List Int) (k:Nat):Cat:=
 ⟨N,gK A 0 A.length,gK A 1 A.length,tb N (bId A a b L R),tb k fun i=>tb A.length (aVN A a b i)⟩
structure ArrR (a b:Cat) (r:List Int):Prop where
 len:r.length=4
 ul:0≤r.getD 2 0
 uh:r.getD 2 0<a.fr.length
 vl:0≤r.getD 3 0
 vh:r.getD 3 0<b.fr.length
theorem aBu {l:List (List Int)} {i:Nat} (h:i<l.length):l.getD i []∈l:=by
 rw [List.getD_eq_getElem?_getD,List.getElem?_eq_getElem h,Option.getD_some];exact List.getElem_mem h
theorem aJR {l:List Int} {i:Nat} (h:i<l.length):l.getD i 0∈l:=by
 rw [List.getD_eq_getElem?_getD,List.getElem?_eq_getElem h,Option.getD_some];exact List.getElem_mem h
theorem wP {l:List (List Int)} {k n i:Nat} (h:i<n) (hn:n≤l.length):(gK l k n).getD i 0=(l.getD i []).getD k 0:=by
 have hi:i<l.length:=by omega
 unfold gK
 simp only [List.getD_eq_getElem?_getD,List.getElem?_map,List.getElem?_take_of_lt h,List.getElem?_eq_getElem hi,Option.map_some,Option.getD_some]
noncomputable def cmA (f e:Fun):List (List Int):=aVS f e (rP f e)
noncomputable def cmC (f e:Fun) (k:Nat):Cat:=aBZ (rP f e).length (cmA f e) f.src e.src (gK (rP f e) 0 (rP f e).length) (gK (rP f e) 1 (rP f e).length) k
end Go.Cats
end
section
namespace Go.Cats
variable {f e:Fun} {O:List (List Int)} {s t i j:Nat}
end Go.Cats
end
section
namespace Go.Cats
theorem qP {α:Type} {n:Nat} {f:Nat→List α} (h1:∀i,i<n→(f i).Nodup) (h2:∀i j x,i<n→j<n→x∈f i→x∈f j→i=j):(dR n f).Nodup:=by
 unfold dR List.Nodup
 rw [List.pairwise_flatMap]
 refine⟨fun a ha=>h1 a (List.mem_range.1 ha),?_⟩
 refine List.Pairwise.imp_of_mem ?_ (List.pairwise_lt_range (n:=n))
 intro a b ha hb hab x hx y hy e
 subst e
 have:=h2 a b x (List.mem_range.1 ha) (List.mem_range.1 hb) hx hy
 omega
theorem Cat.hom_nodup (c:Cat) (x y:Int):(c.hom x y).Nodup:=by
 unfold Cat.hom Cat.homI
 refine qP (fun i _=>by split<;>simp) fun i j z _ _ hi hj=>?_
 split at hi
 ·split at hj
  ·simp at hi hj;omega
  ·simp at hj
 ·simp at hi
variable {f e:Fun} {O:List (List Int)} {s t i j:Nat}
theorem wU {l:List (List Int)} {r:List Int} (h:r∈l):∃i:Nat,i<l.length∧l.getD i []=r∧fnd l r=i:=by
 cases hs:aW l.length (aL4 l r)with
 |none=>
  exfalso
  obtain⟨i,hi,rfl⟩:=List.getElem_of_mem h
  have:=scan_none.1 hs i hi
  unfold aL4 at this
  rw [if_pos (by rw [List.getD_eq_getElem?_getD,List.getElem?_eq_getElem hi];rfl)]at this
  cases this
 |some x=>
  obtain⟨i,hi,k⟩:=bN hs
  unfold aL4 at k
  split at k
  ·rename_i e
   cases k
   exact⟨i,hi,e,by unfold fnd;rw [hs];rfl⟩
  ·cases k
/-! ### Identities and composites -/
theorem IsCat.unlI {c:Cat} (h:IsCat c) {f:Int} (h0:0≤f) (h1:f<c.fr.length):c.C (c.I (c.F f)) f=f:=by
 have:=h.unl f.toNat (by omega)
 rwa [Int.toNat_of_nonneg h0]at this
theorem IsCat.unrI {c:Cat} (h:IsCat c) {f:Int} (h0:0≤f) (h1:f<c.fr.length):c.C f (c.I (c.T f))=f:=by
 have:=h.unr f.toNat (by omega)
 rwa [Int.toNat_of_nonneg h0]at this
theorem IsCat.assI {c:Cat} (k:IsCat c) {f g h:Int} (f0:0≤f) (f1:f<c.fr.length) (g0:0≤g) (g1:g<c.fr.length) (h0:0≤h) (h1:h<c.fr.length) (e1:c.T f=c.F g) (e2:c.T g=c.F h):c.C (c.C f g) h=c.C f (c.C g h):=by
 have:=k.ass f.toNat g.toNat h.toNat (by omega) (by omega) (by omega)
 rw [Int.toNat_of_nonneg f0,Int.toNat_of_nonneg g0,Int.toNat_of_nonneg h0]at this
 exact this e1 e2
theorem IsCat.compI {c:Cat} (k:IsCat c) {f g:Int} (f0:0≤f) (f1:f<c.fr.length) (g0:0≤g) (g1:g<c.fr.length) (e1:c.T f=c.F g):0≤c.C f g∧c.C f g<c.fr.length∧c.F (c.C f g)=c.F f∧c.T (c.C f g)=c.T g:=by
 have h:=(k.coe f.toNat (by omega)).2 g.toNat (by omega)
 unfold Cat.Entry at h
 rw [Int.toNat_of_nonneg f0,Int.toNat_of_nonneg g0]at h
 rcases h with⟨_,h2,h3,h4⟩|⟨h2,_⟩
 ·exact⟨h2.1,h2.2,h3,h4⟩
 ·exact absurd e1 h2
theorem IsCat.idI {c:Cat} (k:IsCat c) {x:Int} (h0:0≤x) (h1:x<c.ob):0≤c.I x∧c.I x<c.fr.length∧c.F (c.I x)=x∧c.T (c.I x)=x:=by
 have hl:=k.idl
 have h2:=k.idw x.toNat (by omega)
 have h3:=k.ide x.toNat (by omega)
 rw [Int.toNat_of_nonneg h0]at h3
 exact⟨h2.1,h2.2,h3.1,h3.2⟩
end Go.Cats
end
section
namespace Go.Cats
structure XOK (c d:Cat) (b:Bool) (X:List Int):Prop where
 len:(X.length:Int)=c.ob
 wi:Within X d.ob
 nd:b=true→NdI X
structure NX (c d:Cat) (b:Bool) (X A:List Int):Prop where
 va:VA c d X A
 clo:∀a,a<c.fr.length→∀b,b<c.fr.length→Clo c d A a b
 nd:b=true→NdI A
 un:∀x:Nat,x<c.id.length→A.getD (c.id.getD x 0).toNat 0=d.id.getD (X.getD x 0).toNat 0
abbrev sA (c d:Cat):List Nat:=List.replicate c.fr.length d.fr.length
section
variable {c d:Cat} {b:Bool} {X A Q L:List Int} {i k:Nat} {v:Int} {W:List Int→Bool} {S:List Nat}
theorem NX.leaf (hX:XOK c d b X) (h:NX c d b X A) (hf:∀j,j<A.length→0≤A.getD j 0):mU (WA c d b X) (sA c d) A=[A]:=by
 have hr:=h.va.rng
 rw [aBn hr.1 fun j hj=>⟨hf j hj,(hr.2 j hj).2⟩,if_pos]
 have hl:=h.va.len
 refine WA_iff.2 ⟨⟨hX.len,hl,hX.wi,fun i hi=>⟨hf i hi,(h.va.hi i hi (hf i hi)).1⟩,fun a ha=>?_,fun x hx=>?_,fun a b ha hb h0=>?_⟩,fun e=>⟨hX.nd e,h.nd e⟩⟩
 ·have:=h.va.hi a ha (hf a ha)
  simp only [Cat.F,Cat.T,Fun.O,Int.toNat_natCast]
  exact this.2
 ·have:=h.un x hx
  simp only [Cat.I,Fun.A,Fun.O,Int.toNat_natCast]
  exact this
 ·have h0:0≤c.cp a b:=by simpa only [Cat.C,Int.toNat_natCast]using h0
  have:=h.clo a ha b hb h0 (hf a (by rw [hl];exact ha)) (hf b (by rw [hl];exact hb))
  simp only [Cat.C,Fun.A,Int.toNat_natCast]
  exact this
theorem aMl (h:VA c d X A) (hi:i<A.length) (hv:v∈d.hom (X.getD (c.fr.getD i 0).toNat 0) (X.getD (c.to.getD i 0).toNat 0)):VA c d X (A.set i v):=by
 obtain⟨h1,h2,h3,h4⟩:=Cat.mem_hom.1 hv
 exact h.set hi h1 h2 h3 h4
theorem aNi (hc:Shape c) (hd:Shape d) (hX:XOK c d b X) {x:Nat} (hx:x<c.id.length):0≤X.getD x 0∧(X.getD x 0).toNat<d.id.length∧0≤d.id.getD (X.getD x 0).toNat 0∧d.id.getD (X.getD x 0).toNat 0<d.fr.length∧d.fr.getD (d.id.getD (X.getD x 0).toNat 0).toNat 0=X.getD x 0∧d.to.getD (d.id.getD (X.getD x 0).toNat 0).toNat 0=X.getD x 0:=by
 have h1:=hX.len
 have h2:=hc.idl
 have h3:=hX.wi x (by omega)
 have h4:=hd.idl
 have hx':(X.getD x 0).toNat<d.id.length:=by omega
 have h5:=hd.idw _ hx'
 have h6:=hd.ide _ hx'
 refine⟨h3.1,hx',h5.1,h5.2,?_,?_⟩
 ·have:=h6.1;simp only [Cat.F]at this;rw [this];omega
 ·have:=h6.2;simp only [Cat.T]at this;rw [this];omega
structure TryN (c d:Cat) (b:Bool) (X A:List Int) (E:List (List Int)) (t:Bool×List Int):Prop where
 va:VA c d X t.2
 ext:XtL A t.2
 yes:t.1=true→NX c d b X t.2∧E=mU (WA c d b X) (sA c d) t.2
 no:t.1=false→E=[]
theorem tZ:∀{L M:List Int},L.Nodup→(∀x∈L,x∈M)→L.length≤M.length
 |[],M,_,_=>Nat.zero_le _
 |a::L,M,hn,hs=>by
  have ha:=hs a (List.mem_cons_self ..)
  have hn':=List.nodup_cons.1 hn
  have:=tZ (L:=L) (M:=M.erase a) hn'.2 fun x hx=>by
   have hne:x≠a:=fun e=>hn'.1 (e▸hx)
   exact(List.mem_erase_of_ne hne).2 (hs x (List.mem_cons_of_mem _ hx))
  rw [List.length_erase_of_mem ha]at this
  have hp:0<M.length:=List.length_pos_of_mem ha
  simp only [List.length_cons]
  omega
end
end Go.Cats
end
section
namespace Go.Cats
section
variable {c d:Cat} {b:Bool} {X A Q L:List Int} {i k:Nat} {v:Int}
end
end Go.Cats
end
section
namespace Go.Cats
def sE:List Int→List Int→Bool
 |[],[]=>false
 |[],_::_=>true
 |_::_,[]=>false
 |a::A,b::B=>if a=b then sE A B else decide (a<b)
section
variable {S R L:List (List Int)} {x:List Int} {k:Nat}
end
end Go.Cats
end
section
namespace Go.Cats
structure IsoQ (c d:Cat) (O Q:List Int):Prop where
 hc:IsCat c
 hd:IsCat d
 fit:Fits ⟨c,d,O,Q⟩
 no:NdI O
 nq:NdI Q
 ob:c.ob=d.ob
 ar:c.fr.length=d.fr.length
section
variable {c d:Cat} {O Q A B cc dd:List Int} {f g:Nat}
theorem NdI.inj (h:NdI A) (h0:∀i,i<A.length→0≤A.getD i 0) {i j:Nat} (hi:i<A.length) (hj:j<A.length) (e:A.getD i 0=A.getD j 0):i=j:=by
 rcases Nat.lt_trichotomy i j with q|q|q
 ·exact absurd e (h i j q hj (h0 i hi))
 ·exact q
 ·exact absurd e.symm (h j i q hi (h0 j hj))
theorem IsoQ.len (h:IsoQ c d O Q):Q.length=c.fr.length:=h.fit.arl
theorem IsoQ.rng (h:IsoQ c d O Q) (hf:f<c.fr.length):0≤Q.getD f 0∧Q.getD f 0<d.fr.length:=h.fit.arw f (by show f<Q.length;rw [h.len];exact hf)
theorem IsoQ.nat (h:IsoQ c d O Q) (hf:f<c.fr.length):(Q.getD f 0).toNat<d.fr.length:=by have:=h.rng hf;omega
theorem IsoQ.inj (h:IsoQ c d O Q) (hf:f<c.fr.length) (hg:g<c.fr.length) (e:Q.getD f 0=Q.getD g 0):f=g:=
 h.nq.inj (fun i hi=>(h.rng (by rw [←h.len];exact hi)).1) (by rw [h.len];exact hf) (by rw [h.len];exact hg) e
theorem IsoQ.perm (h:IsoQ c d O Q):((List.range c.fr.length).map fun f=>(Q.getD f 0).toNat).Perm (List.range d.fr.length):=by
 have hn:((List.range c.fr.length).map fun f=>(Q.getD f 0).toNat).Nodup:=by
  unfold List.Nodup
  rw [List.pairwise_map]
  refine List.Pairwise.imp_of_mem ?_ (List.pairwise_lt_range (n:=c.fr.length))
  intro a b ha hb hab e
  have ha:=List.mem_range.1 ha
  have hb:=List.mem_range.1 hb
  have h1:=h.rng ha
  have h2:=h.rng hb
  have:=h.inj ha hb (by omega)
  omega
 have hs:∀x∈(List.range c.fr.length).map fun f=>(Q.getD f 0).toNat,x∈List.range d.fr.length:=fun x hx=>by
  obtain⟨f,hf,rfl⟩:=List.mem_map.1 hx
  exact List.mem_range.2 (h.nat (List.mem_range.1 hf))
 rw [List.perm_ext_iff_of_nodup hn List.nodup_range]
 intro x
 refine⟨hs x,fun hx=>Classical.byContradiction fun hno=>?_⟩
 have hsub:∀y∈(List.range c.fr.length).map fun f=>(Q.getD f 0).toNat,y∈(List.range d.fr.length).erase x:=fun y hy=>by
  have hne:y≠x:=fun e=>hno (e▸hy)
  exact(List.mem_erase_of_ne hne).2 (hs y hy)
 have h1:=List.Nodup.length_le_of_subset hn hsub
 rw [List.length_map,List.length_range,List.length_erase_of_mem hx,List.length_range]at h1
 have h2:=List.mem_range.1 hx
 have h3:=h.ar
 omega
theorem IsoQ.surj (h:IsoQ c d O Q) {g:Nat} (hg:g<d.fr.length):∃f,f<c.fr.length∧Q.getD f 0=g:=by
 have:=(h.perm.mem_iff (a:=g)).2 (List.mem_range.2 hg)
 obtain⟨f,hf,e⟩:=List.mem_map.1 this
 have hf:=List.mem_range.1 hf
 exact⟨f,hf,by have:=h.rng hf;omega⟩
theorem IsoQ.fr (h:IsoQ c d O Q) (hf:f<c.fr.length):d.fr.getD (Q.getD f 0).toNat 0=O.getD (c.fr.getD f 0).toNat 0∧d.to.getD (Q.getD f 0).toNat 0=O.getD (c.to.getD f 0).toNat 0:=by
 have:=h.fit.endf f (by show f<Q.length;rw [h.len];exact hf)
 simpa only [Cat.F,Cat.T,Fun.O,Int.toNat_natCast]using this
theorem IsoQ.oinj (h:IsoQ c d O Q) {p q:Int} (hp:0≤p∧p<c.ob) (hq:0≤q∧q<c.ob) (e:O.getD p.toNat 0=O.getD q.toNat 0):p=q:=by
 have hl:(O.length:Int)=c.ob:=h.fit.obl
 have:=h.no.inj (fun i hi=>(h.fit.obw i hi).1) (by omega:p.toNat<O.length) (by omega:q.toNat<O.length) e
 omega
theorem IsoQ.cp (h:IsoQ c d O Q) (hf:f<c.fr.length) (hg:g<c.fr.length):(0≤c.cp f g↔0≤d.cp (Q.getD f 0).toNat (Q.getD g 0).toNat)∧(0≤c.cp f g→(c.cp f g).toNat<c.fr.length∧d.cp (Q.getD f 0).toNat (Q.getD g 0).toNat=Q.getD (c.cp f g).toNat 0):=by
 have key:0≤c.cp f g→(c.cp f g).toNat<c.fr.length∧d.cp (Q.getD f 0).toNat (Q.getD g 0).toNat=Q.getD (c.cp f g).toNat 0:=fun h0=>by
  have:=h.fit.cmp f g hf hg h0
  exact⟨(rW h.hc.toShape hf hg h0).2.1,this.symm⟩
 refine⟨⟨fun h0=>?_,fun h0=>?_⟩,key⟩
 ·obtain⟨k1,k2⟩:=key h0
  rw [k2];exact(h.rng k1).1
 ·have e:=(rW h.hd.toShape (h.nat hf) (h.nat hg) h0).1
  rw [(h.fr hf).2,(h.fr hg).1]at e
  have:=h.oinj (by have:=h.hc.tow f (by rw [h.hc.tol];exact hf);exact this) (h.hc.frw g hg) e
  exact h.hc.toShape.comp_nn hf hg this
theorem IsoQ.hom (h:IsoQ c d O Q) {p q:Int} (hp:0≤p∧p<c.ob) (hq:0≤q∧q<c.ob):(c.hom p q).length=(d.hom (O.getD p.toNat 0) (O.getD q.toNat 0)).length:=by
 have hmap:∀f∈c.hom p q,Q.getD f.toNat 0∈d.hom (O.getD p.toNat 0) (O.getD q.toNat 0):=fun f hf=>by
  obtain⟨h1,h2,h3,h4⟩:=Cat.mem_hom.1 hf
  have hf':f.toNat<c.fr.length:=by omega
  have e:=h.fr hf'
  have r:=h.rng hf'
  have h3:c.fr.getD f.toNat 0=p:=h3
  have h4:c.to.getD f.toNat 0=q:=h4
  rw [h3,h4]at e
  exact Cat.mem_hom.2 ⟨r.1,r.2,e.1,e.2⟩
 refine Nat.le_antisymm ?_ ?_
 ·have e:((c.hom p q).map fun g=>Q.getD g.toNat 0).length=(c.hom p q).length:=List.length_map ..
  rw [←e]
  refine tZ ?_ fun x hx=>?_
  ·unfold List.Nodup
   rw [List.pairwise_map]
   refine List.Pairwise.imp_of_mem ?_ (Cat.hom_nodup c p q)
   intro g g' hg hg' hne e
   obtain⟨g1,g2,g3,g4⟩:=Cat.mem_hom.1 hg
   obtain⟨k1,k2,k3,k4⟩:=Cat.mem_hom.1 hg'
   have:=h.inj (by omega) (by omega) e
   exact hne (by omega)
  ·obtain⟨g,hg,rfl⟩:=List.mem_map.1 hx
   exact hmap g hg
 ·have e:((c.hom p q).map fun g=>Q.getD g.toNat 0).length=(c.hom p q).length:=List.length_map ..
  rw [←e]
  refine tZ (Cat.hom_nodup _ _ _) fun x hx=>?_
  obtain⟨h1,h2,h3,h4⟩:=Cat.mem_hom.1 hx
  obtain⟨f,hf,e⟩:=h.surj (g:=x.toNat) (by omega)
  have k:=h.fr hf
  rw [e,Int.toNat_natCast]at k
  have h3:d.fr.getD x.toNat 0=O.getD p.toNat 0:=h3
  have h4:d.to.getD x.toNat 0=O.getD q.toNat 0:=h4
  rw [h3,h4]at k
  have e1:=h.oinj hp (h.hc.frw f hf) k.1
  have e2:=h.oinj hq (by have:=h.hc.tow f (by rw [h.hc.tol];exact hf);exact this) k.2
  refine List.mem_map.2 ⟨(f:Int),Cat.mem_hom.2 ⟨by omega,by omega,?_,?_⟩,?_⟩
  ·show c.fr.getD (f:Int).toNat 0=p;rw [Int.toNat_natCast];exact e1.symm
  ·show c.to.getD (f:Int).toNat 0=q;rw [Int.toNat_natCast];exact e2.symm
  ·rw [Int.toNat_natCast,e];omega
theorem yL {L:List (List Int)} (h:L.Nodup) {i:Nat} (hi:i<L.length):fnd L (L.getD i [])=i:=by
 obtain⟨j,h1,h2,h3⟩:=wU (aT (d:=[]) hi)
 rw [h3]
 have:j=i:=by
  rw [List.getD_eq_getElem?_getD,List.getD_eq_getElem?_getD,List.getElem?_eq_getElem h1,List.getElem?_eq_getElem hi,Option.getD_some,Option.getD_some]at h2
  unfold List.Nodup at h
  rw [List.pairwise_iff_getElem]at h
  rcases Nat.lt_trichotomy j i with q|q|q
  ·exact absurd h2 (h j i h1 hi q)
  ·exact q
  ·exact absurd h2.symm (h i j hi h1 q)
 omega
end
end Go.Cats
end
section
namespace Go.Cats
abbrev Ps:=List Int×List Int
open Classical in
section
variable {f:Ps→Ps} {c d:Cat} {b:Bool} {x y r:Nat} {s:Ps} {P A:List Int}
end
end Go.Cats
end
section
namespace Go.Cats
def aVI (c d:Cat) (A:List Int) (f:Nat):Prop:=
 (∀g,g<c.fr.length→0≤A.getD g 0→(0≤c.cp f g→0≤A.getD (c.cp f g).toNat 0→d.C (A.getD f 0) (A.getD g 0)=A.getD (c.cp f g).toNat 0)∧(0≤c.cp g f→0≤A.getD (c.cp g f).toNat 0→d.C (A.getD g 0) (A.getD f 0)=A.getD (c.cp g f).toNat 0))∧
 ∀g,g<c.fr.length→∀h,h<c.fr.length→0≤A.getD g 0→0≤A.getD h 0→c.cp g h=f→d.C (A.getD g 0) (A.getD h 0)=A.getD f 0
structure NY (c d:Cat) (X A:List Int):Prop where
 va:VA c d X A
 clw:∀a,a<c.fr.length→∀b,b<c.fr.length→0≤c.cp a b→0≤A.getD a 0→0≤A.getD b 0→0≤A.getD (c.cp a b).toNat 0→A.getD (c.cp a b).toNat 0=d.C (A.getD a 0) (A.getD b 0)
 nd:NdI A
 un:∀x:Nat,x<c.id.length→A.getD (c.id.getD x 0).toNat 0=d.id.getD (X.getD x 0).toNat 0
section
variable {c d:Cat} {X P A Q O:List Int} {i:Nat} {v:Int}
theorem NY.nx (hc:Shape c) (h:NY c d X A) (hf:∀j,j<A.length→0≤A.getD j 0):NX c d true X A:=
 ⟨h.va,fun a ha b hb h0 a0 b0=>h.clw a ha b hb h0 a0 b0 (hf _ (by rw [h.va.len];exact(rW hc ha hb h0).2.1)),fun _=>h.nd,h.un⟩
theorem NY.leaf (hc:Shape c) (hX:XOK c d true X) (h:NY c d X A) (hf:∀j,j<A.length→0≤A.getD j 0):mU (WA c d true X) (sA c d) A=[A]:=(h.nx hc hf).leaf hX hf
theorem NY.set (hc:Shape c) (hd:Shape d) (hX:XOK c d true X) (h:NY c d X A) (hi:i<A.length) (h1:A.getD i 0= -1) (hv:v∈d.hom (X.getD (c.fr.getD i 0).toNat 0) (X.getD (c.to.getD i 0).toNat 0)) (hn:v∉A) (hf:aVI c d (A.set i v) i):
  NY c d X (A.set i v)∧uns (A.set i v)<uns A:=by
 have hl:=h.va.len
 have v0:=(Cat.mem_hom.1 hv).1
 have hg:∀j,(A.set i v).getD j 0=if j=i then v else A.getD j 0:=fun j=>kK hi
 refine⟨⟨aMl h.va hi hv,fun a ha b hb c0 a0 b0 k0=>?_,fun p q hpq hq p0=>?_,fun x hx=>?_⟩,?_⟩
 ·by_cases ea:a=i
  ·subst ea;exact((hf.1 b hb b0).1 c0 k0).symm
  ·by_cases eb:b=i
   ·subst eb;exact((hf.1 a ha a0).2 c0 k0).symm
   ·by_cases ec:(c.cp a b).toNat=i
    ·rw [ec];exact(hf.2 a ha b hb a0 b0 (by omega)).symm
    ·have ga:(A.set i v).getD a 0=A.getD a 0:=by rw [hg,if_neg ea]
     have gb:(A.set i v).getD b 0=A.getD b 0:=by rw [hg,if_neg eb]
     have gc:(A.set i v).getD (c.cp a b).toNat 0=A.getD (c.cp a b).toNat 0:=by rw [hg,if_neg ec]
     rw [ga]at a0⊢
     rw [gb]at b0⊢
     rw [gc]at k0⊢
     exact h.clw a ha b hb c0 a0 b0 k0
 ·rw [List.length_set]at hq
  rw [hg]at p0
  rw [hg,hg]
  by_cases ep:p=i
  ·rw [if_pos ep,if_neg (by omega)]
   exact fun e=>hn (by rw [e];exact aT hq)
  ·rw [if_neg ep]at p0⊢
   by_cases eq:q=i
   ·rw [if_pos eq];exact fun e=>hn (by rw [←e];exact aT (by omega))
   ·rw [if_neg eq];exact h.nd p q hpq hq p0
 ·have k1:=h.un x hx
  have k2:=aNi hc hd hX hx
  rw [hg,if_neg,k1]
  intro e
  rw [e,h1]at k1
  omega
 ·exact(XtL.set (e:=v) hi (by omega)).uns_lt hi (by omega) (by rw [hg,if_pos rfl];exact v0)
end
end Go.Cats
end
section
namespace Go.Cats
structure UF (J:List Int):Prop where
 lo:∀x,x<J.length→0≤J.getD x 0
 hi:∀x,x<J.length→J.getD x 0≤x
section
variable {J:List Int} {x y k:Nat}
theorem rZ {l:List Int} {i j:Nat} {v:Int} (hi:i<l.length):(l.set i v).getD j 0=if j=i then v else l.getD j 0:=by
 rw [List.getD_eq_getElem?_getD,List.getD_eq_getElem?_getD]
 by_cases e:j=i
 ·subst e;rw [if_pos rfl,List.getElem?_set_self hi];rfl
 ·rw [if_neg e,List.getElem?_set_ne (fun q=>e q.symm)]
theorem UF.set (h:UF J) (hx:x<J.length) {v:Int} (h0:0≤v) (h1:v≤x):UF (J.set x v):=by
 refine⟨fun y hy=>?_,fun y hy=>?_⟩<;>rw [List.length_set]at hy<;>rw [rZ hx]<;>split
 ·exact h0
 ·exact h.lo y hy
 ·rename_i e;rw [e];exact h1
 ·exact h.hi y hy
def hvF:Nat→List Int→Nat→List Int
 |0,J,_=>J
 |k+1,J,x=>if(J.getD x 0).toNat=x then J else hvF k (J.set x (J.getD (J.getD x 0).toNat 0)) (J.getD (J.getD x 0).toNat 0).toNat
def hv (J:List Int) (x:Nat):List Int:=hvF x J x
end
end Go.Cats
end
section
namespace Go.Cats
def nums (n:Nat):List Int:=(List.range n).map fun i:Nat=>(i:Int)
theorem mK:nums 0=[]:=rfl
theorem dS (n:Nat):(nums n).length=n:=by simp [nums]
theorem uA (n:Nat):nums (n+1)=nums n++[(n:Int)]:=by simp [nums,List.range_succ]
theorem sF {n i:Nat} (h:i<n):(nums n).getD i 0=i:=by simp [nums,h]
def oneC:Cat:=⟨1,[0],[0],[0],[[0]]⟩
def sO (c:Cat):Fun:=⟨c,c,nums c.ob.toNat,nums c.fr.length⟩
def qZ (c:Cat) (x:Int):Fun:=⟨oneC,c,[x],[c.I x]⟩
end Go.Cats
end
section
namespace Go.Cats
structure Link where
 i:Int
 j:Int
 left:List Int
 right:List Int
instance:Inhabited Link:=⟨⟨0,0,[],[]⟩⟩
structure LinksW (S:List Nat) (ls:List Link):Prop where
 i:∀l∈ls,0≤l.i∧l.i<S.length
 j:∀l∈ls,0≤l.j∧l.j<S.length
 left:∀l∈ls,l.left.length=S.getD l.i.toNat 0
 right:∀l∈ls,l.right.length=S.getD l.j.toNat 0
def aOT (ls:List Link) (Q:List Int):Bool:=ls.all fun l=>decide (l.left.getD (Q.getD l.i.toNat 0).toNat 0=l.right.getD (Q.getD l.j.toNat 0).toNat 0)
def wY (A:List Int) (n:Nat) (e:Int) (l:Link):Bool:=
 if l.i=n∧l.j=n then decide (l.left.getD e.toNat 0=l.right.getD e.toNat 0)
 else if l.i=n∧0≤A.getD l.j.toNat 0 then decide (l.left.getD e.toNat 0=l.right.getD (A.getD l.j.toNat 0).toNat 0)
 else if l.j=n∧0≤A.getD l.i.toNat 0 then decide (l.left.getD (A.getD l.i.toNat 0).toNat 0=l.right.getD e.toNat 0)
 else true
def atL (ls:List Link) (n:Nat) (m:Nat):List Nat:=(List.range m).filter fun k=>decide ((ls.getD k default).i=n)||decide ((ls.getD k default).j=n)
def aNE (ls:List Link) (A:List Int) (n:Nat) (e:Int):Bool:=(atL ls n ls.length).all fun k=>wY A n e (ls.getD k default)
section
variable {ls:List Link} {S:List Nat} {A B Q:List Int} {n i m:Nat} {e:Int} {l:Link}
theorem aI0 (h:aNE ls A n e=true) (hl:l∈ls):wY A n e l=true:=by
 by_cases hn:l.i=n∨l.j=n
 ·obtain⟨k,hk,e1⟩:=List.getElem_of_mem hl
  have hg:ls.getD k default=l:=by rw [List.getD_eq_getElem?_getD,List.getElem?_eq_getElem hk,Option.getD_some,e1]
  have:=List.all_eq_true.1 h k (List.mem_filter.2 ⟨List.mem_range.2 hk,by rw [hg];simpa using hn⟩)
  rwa [hg]at this
 ·unfold wY
  rw [if_neg (fun q=>hn (.inl q.1)),if_neg (fun q=>hn (.inl q.1)),if_neg (fun q=>hn (.inr q.1))]
theorem XtL.setL (hi:i<A.length) (h:A.getD i 0= -1):XtL A (A.set i e):= .set hi (by omega)
def CoL (ls:List Link) (A:List Int):Prop:=∀l∈ls,0≤A.getD l.i.toNat 0→0≤A.getD l.j.toNat 0→l.left.getD (A.getD l.i.toNat 0).toNat 0=l.right.getD (A.getD l.j.toNat 0).toNat 0
theorem CoL.set (hw:LinksW S ls) (hA:A.length=S.length) (hi:i<A.length) (h:CoL ls A) {u:Nat} (hu:aNE ls A i u=true):CoL ls (A.set i (u:Int)):=fun l hl h1 h2=>by
 have hf:=aI0 hu hl
 have w1:=hw.i l hl
 have w2:=hw.j l hl
 rw [kK hi]at h1 h2⊢
 rw [kK hi]
 unfold wY at hf
 by_cases c1:l.i.toNat=i
 ·have e1:l.i=i:=by omega
  rw [if_pos c1]
  by_cases c2:l.j.toNat=i
  ·have e2:l.j=i:=by omega
   rw [if_pos c2]
   rw [if_pos ⟨e1,e2⟩]at hf
   simpa using hf
  ·rw [if_neg c2]at h2⊢
   rw [if_neg (fun q=>c2 (by omega)),if_pos ⟨e1,h2⟩]at hf
   simpa using hf
 ·rw [if_neg c1]at h1⊢
  by_cases c2:l.j.toNat=i
  ·have e2:l.j=i:=by omega
   rw [if_pos c2]
   rw [if_neg (fun q=>c1 (by omega)),if_neg (fun q=>c1 (by omega)),if_pos ⟨e2,h1⟩]at hf
   simpa using hf
  ·rw [if_neg c2]at h2⊢
   exact h l hl h1 h2
end
end Go.Cats
end
section
namespace Go.Cats
abbrev Tr:=Nat×Nat×Nat
def aGF (acts:List (List Int)) (t:Tr):Rule:=⟨t.1,t.2.2,acts.getD t.2.1 []⟩
def aGl (acts:List (List Int)) (S:List Nat) (t:Tr):Link:=⟨t.1,t.2.2,acts.getD t.2.1 [],nums (S.getD t.2.2 0)⟩
structure TrW (S:List Nat) (acts:List (List Int)) (T:List Tr):Prop where
 fr:∀t∈T,t.1<S.length
 to:∀t∈T,t.2.2<S.length
 len:∀t∈T,(acts.getD t.2.1 []).length=S.getD t.1 0
 val:∀t∈T,∀e:Nat,e<S.getD t.1 0→0≤(acts.getD t.2.1 []).getD e 0∧(acts.getD t.2.1 []).getD e 0<S.getD t.2.2 0
 arr:∀t∈T,t.2.1<acts.length
variable {S:List Nat} {acts:List (List Int)} {T:List Tr}
theorem TrW.same (h:TrW S acts T) {Q:List Int} (hQ:Q∈aCo S):aOT (T.map (aGl acts S)) Q=okW (T.map (aGF acts)) Q:=by
 obtain⟨q1,q2⟩:=mem_lexP.1 hQ
 unfold aOT okW
 rw [List.all_map,List.all_map]
 refine Bool.eq_iff_iff.2 ?_
 simp only [List.all_eq_true,Function.comp]
 refine⟨fun k t ht=>?_,fun k t ht=>?_⟩
 all_goals
  have k1:=k t ht
  have f1:=h.fr t ht
  have f2:=h.to t ht
  have b1:=q2 t.1 (by omega)
  have b2:=q2 t.2.2 (by omega)
  have e1:(nums (S.getD t.2.2 0)).getD (Q.getD t.2.2 0).toNat 0=Q.getD t.2.2 0:=by rw [sF (by omega)];omega
  have k2:=of_decide_eq_true k1
  refine decide_eq_true ?_
  simp only [aGl,aGF,Int.toNat_natCast]at k2⊢
  rw [e1]at *
  exact k2.symm
theorem TrW.ext (h:TrW S acts T) (A:List Int):mU (aOT (T.map (aGl acts S))) S A=mU (okW (T.map (aGF acts))) S A:=by
 unfold mU
 refine List.filter_congr fun Q hQ=>?_
 rw [h.same hQ]
end Go.Cats
end
section
namespace Go.Cats
def Rises (l:List Int):Prop:=∀i,i+1<l.length→l.getD i 0<l.getD (i+1) 0
structure IsSieve (c:Cat) (x:Int) (s:List Int):Prop where
 up:Rises s
 wi:Within s c.fr.length
 at_:∀i,i<s.length→c.F (s.getD i 0)=x
 cl:∀i,i<s.length→∀b:Nat,b<c.fr.length→c.fr.getD b 0=c.T (s.getD i 0)→c.C (s.getD i 0) b∈s
theorem Rises.ge {l:List Int} (h:Rises l) (h0:∀i,i<l.length→0≤l.getD i 0):∀i:Nat,i<l.length→(i:Int)≤l.getD i 0
 |0,hi=>h0 0 hi
 |i+1,hi=>by
  have h1:=h.ge h0 i (by omega)
  have h2:=h i hi
  omega
theorem IsSieve.len {c:Cat} {x:Int} {s:List Int} (h:IsSieve c x s):s.length≤c.fr.length:=by
 by_cases h0:s.length=0
 ·omega
 ·have h1:=h.up.ge (fun i hi=>(h.wi i hi).1) (s.length-1) (by omega)
  have h2:=h.wi (s.length-1) (by omega)
  omega
section
variable {c:Cat} {s:List Int} {k n i b:Nat} {x:Int} {f:SF}
theorem IsSieve.arr (hs:Shape c) (h:IsSieve c x s) (hi:i<s.length):(0≤s.getD i 0∧s.getD i 0<c.fr.length)∧(0≤c.T (s.getD i 0)∧c.T (s.getD i 0)<c.ob):=by
 have h1:=h.wi i hi
 exact⟨h1,hs.tow _ (by have:=hs.tol;omega)⟩
theorem IsSieve.next (hs:IsCat c) (h:IsSieve c x s) (hi:i<s.length) (hb:b<c.fr.length) (e:c.fr.getD b 0=(c.T (s.getD i 0)).toNat):
  ∃j:Nat,idxOf s (c.C (s.getD i 0) b)=j∧j<s.length∧s.getD j 0=c.C (s.getD i 0) b∧c.T (s.getD j 0)=c.to.getD b 0:=by
 obtain⟨⟨a1,a2⟩,a3,a4⟩:=h.arr hs.toShape hi
 have e':c.fr.getD b 0=c.T (s.getD i 0):=by omega
 have m:=h.cl i hi b hb e'
 obtain⟨m1,m2,m3⟩:=pH m
 have k:=hs.compI (f:=s.getD i 0) (g:=(b:Int)) a1 a2 (by omega) (by omega) (by simpa using e'.symm)
 refine⟨(idxOf s (c.C (s.getD i 0) b)).toNat,by omega,by omega,m3,?_⟩
 rw [m3,k.2.2.2]
 simp
end
end Go.Cats
end
section
namespace Go.Cats
def trG (J:Nat→Nat→Nat) (i b:Nat):Tr:=(i,b,J i b)
def aV7 (c:Cat) (o:Nat→Nat) (J:Nat→Nat→Nat) (i n:Nat):List Tr:=(aJ3 c (o i) n).map (trG J i)
def aV8 (c:Cat) (o:Nat→Nat) (J:Nat→Nat→Nat) (k:Nat):List Tr:=(List.range k).flatMap fun i=>aV7 c o J i c.fr.length
section
variable {c:Cat} {o:Nat→Nat} {J:Nat→Nat→Nat} {k i n b:Nat} {f:SF}
theorem aHi:aV8 c o J 0=[]:=rfl
def szO (f:SF) (O:List Int):List Int:=O.map fun x=>f.sizes.getD x.toNat 0
theorem aLb:szO f []=[]:=rfl
structure GenW (c:Cat) (O:List Int) (J:Nat→Nat→Nat):Prop where
 ob:∀i,i<O.length→0≤O.getD i 0∧O.getD i 0<c.ob
 nx:∀i b,i<O.length→b<c.fr.length→c.fr.getD b 0=O.getD i 0→J i b<O.length∧O.getD (J i b) 0=c.to.getD b 0
end
/-! ### Seats -/
def rSe (k:Fun) (y:Int) (x:Nat):List (List Int):=(k.tgt.hom y (k.obs.getD x 0)).map fun h=>[(x:Int),h]
def aO9 (k:Fun) (y:Int) (n:Nat):List (List Int):=dR n (rSe k y)
section
variable {k:Fun} {y:Int} {n x:Nat}
theorem aDW:aO9 k y 0=[]:=rfl
structure SeatOK (k:Fun) (y:Int) (r:List Int):Prop where
 len:r.length=2
 x0:0≤r.getD 0 0
 x1:r.getD 0 0<k.src.ob
 h0:0≤r.getD 1 0
 h1:r.getD 1 0<k.tgt.fr.length
 hf:k.tgt.F (r.getD 1 0)=y
 ht:k.tgt.T (r.getD 1 0)=k.obs.getD (r.getD 0 0).toNat 0
end
end Go.Cats
end
section
namespace Go.Eng
open Go Go.Cats
end Go.Eng
namespace Go.Cats
open Go.Eng
structure Bij (n:Nat) (l:List Int):Prop where
 len:l.length=n
 win:Within l n
 inj:NdI l
section
variable {n:Nat} {l:List Int}
theorem Bij.eq (h:Bij n l) {i j:Nat} (hi:i<n) (hj:j<n) (e:l.getD i 0=l.getD j 0):i=j:=
 h.inj.inj (fun k hk=>(h.win k hk).1) (by rw [h.len];exact hi) (by rw [h.len];exact hj) e
theorem Bij.at (h:Bij n l) {i:Nat} (hi:i<n):0≤l.getD i 0∧l.getD i 0<n:=h.win i (by rw [h.len];exact hi)
theorem Bij.surj (h:Bij n l) {y:Nat} (hy:y<n):∃x,x<n∧l.getD x 0=y:=by
 have hn:((List.range n).map fun i=>(l.getD i 0).toNat).Nodup:=by
  unfold List.Nodup
  rw [List.pairwise_map]
  refine List.Pairwise.imp_of_mem ?_ (List.pairwise_lt_range (n:=n))
  intro a b ha hb hab e
  have ha:=List.mem_range.1 ha
  have hb:=List.mem_range.1 hb
  have h1:=h.at ha
  have h2:=h.at hb
  have:=h.eq ha hb (by omega)
  omega
 refine Classical.byContradiction fun hno=>?_
 have hsub:∀z∈(List.range n).map fun i=>(l.getD i 0).toNat,z∈(List.range n).erase y:=fun z hz=>by
  obtain⟨i,hi,rfl⟩:=List.mem_map.1 hz
  have hi:=List.mem_range.1 hi
  have h1:=h.at hi
  refine(List.mem_erase_of_ne fun e=>hno ⟨i,hi,by omega⟩).2 (List.mem_range.2 (by omega))
 have h1:=List.Nodup.length_le_of_subset hn hsub
 rw [List.length_map,List.length_range,List.length_erase_of_mem (List.mem_range.2 hy),List.length_range]at h1
 omega
def bwL (l:List Int):Nat→List Int
 |0=>List.replicate l.length 0
 |i+1=>(bwL l i).set (l.getD i 0).toNat i
theorem aC0:bwL l 0=List.replicate l.length 0:=rfl
theorem xV {i:Nat}:bwL l (i+1)=(bwL l i).set (l.getD i 0).toNat i:=rfl
theorem iR:∀i,(bwL l i).length=l.length
 |0=>by rw [aC0,List.length_replicate]
 |i+1=>by rw [xV,List.length_set,iR i]
theorem aIF (h:Bij n l):∀{i:Nat},i≤n→∀j,j<i→(bwL l i).getD (l.getD j 0).toNat 0=j
 |0,_,j,hj=>absurd hj (Nat.not_lt_zero j)
 |i+1,hi,j,hj=>by
  have h1:=h.at (show i<n by omega)
  have h2:=h.at (show j<n by omega)
  have hl:=h.len
  rw [xV,rZ (by rw [iR];omega)]
  by_cases e:(l.getD j 0).toNat=(l.getD i 0).toNat
  ·rw [if_pos e]
   have:=h.eq (show j<n by omega) (show i<n by omega) (by omega)
   rw [this]
  ·rw [if_neg e]
   refine aIF h (by omega) j ?_
   rcases Nat.lt_or_ge j i with q|q
   ·exact q
   ·exact absurd (by rw [show j=i by omega]) e
theorem rO (h:Bij n l) {x:Nat} (hx:x<n):(bwL l n).getD (l.getD x 0).toNat 0=x:=aIF h (Nat.le_refl n) x hx
theorem jT (h:Bij n l) {y:Nat} (hy:y<n):0≤(bwL l n).getD y 0∧(bwL l n).getD y 0<n∧l.getD ((bwL l n).getD y 0).toNat 0=y:=by
 obtain⟨x,hx,e⟩:=h.surj hy
 have:=rO h hx
 rw [e,Int.toNat_natCast]at this
 rw [this]
 exact⟨by omega,by omega,by rw [Int.toNat_natCast];exact e⟩
theorem aIH (h:Bij n l):Bij n (bwL l n):=by
 have hl:=h.len
 have hb:=iR (l:=l) n
 refine⟨by omega,fun i hi=>?_,fun i j hij hj h0 e=>?_⟩
 ·have:=jT h (show i<n by omega);exact⟨this.1,this.2.1⟩
 ·have h1:=jT h (show i<n by omega)
  have h2:=jT h (show j<n by omega)
  rw [e,h2.2.2]at h1
  have:=h1.2.2
  omega
end
section
variable {c d:Cat} {O Q:List Int} {f:Fun}
theorem IsoQ.bo (h:IsoQ c d O Q):Bij c.ob.toNat O:=by
 have h1:(O.length:Int)=c.ob:=h.fit.obl
 have h2:Within O d.ob:=h.fit.obw
 have h3:=h.hc.toShape.ob0
 have h4:=h.ob
 refine⟨by omega,fun i hi=>?_,h.no⟩
 have:=h2 i hi
 omega
theorem IsoQ.bq (h:IsoQ c d O Q):Bij c.fr.length Q:=⟨h.len,fun i hi=>by have:=h.rng (f:=i) (by rw [←h.len];exact hi);have:=h.ar;omega,h.nq⟩
theorem IsoQ.back (h:IsoQ c d O Q):IsoQ d c (bwL O O.length) (bwL Q Q.length):=by
 have bo:=h.bo
 have bq:=h.bq
 have b1:=aIH bo
 have b2:=aIH bq
 have ho:=h.ob
 have ha:=h.ar
 have o0:=h.hc.toShape.ob0
 have lo:=bo.len
 have lq:=bq.len
 have sc:=h.hc.toShape
 have sd:=h.hd.toShape
 rw [bo.len,bq.len]
 refine⟨h.hd,h.hc,⟨?_,?_,?_,?_,fun a hx=>?_,fun x hx=>?_,fun a b hx hy h0=>?_⟩,b1.inj,b2.inj,ho.symm,ha.symm⟩
 ·show((bwL O c.ob.toNat).length:Int)=d.ob
  rw [iR];omega
 ·show(bwL Q c.fr.length).length=d.fr.length
  rw [iR];omega
 ·intro i hi
  have:=b1.at (show i<c.ob.toNat by have:i<(bwL O c.ob.toNat).length:=hi;rw [iR]at this;omega)
  show 0≤(bwL O c.ob.toNat).getD i 0∧(bwL O c.ob.toNat).getD i 0<c.ob
  omega
 ·intro i hi
  exact b2.at (show i<c.fr.length by have:i<(bwL Q c.fr.length).length:=hi;rw [iR]at this;omega)
 ·have hx:a<c.fr.length:=by have:a<(bwL Q c.fr.length).length:=hx;rw [iR]at this;omega
  obtain⟨r1,r2,r3⟩:=jT bq hx
  show c.F ((bwL Q c.fr.length).getD a 0)=(bwL O c.ob.toNat).getD (d.F (a:Int)).toNat 0∧c.T ((bwL Q c.fr.length).getD a 0)=(bwL O c.ob.toNat).getD (d.T (a:Int)).toNat 0
  obtain⟨b,hb⟩:∃b:Nat,(bwL Q c.fr.length).getD a 0=b:=⟨_,(Int.toNat_of_nonneg r1).symm⟩
  rw [hb]at r2 r3⊢
  rw [Int.toNat_natCast]at r3
  have hb2:b<c.fr.length:=by omega
  obtain⟨g1,g2⟩:=h.fr hb2
  rw [r3,Int.toNat_natCast]at g1 g2
  have f1:=sc.frw b hb2
  have f2:=sc.tow b (by rw [sc.tol];exact hb2)
  have k1:=rO bo (x:=(c.fr.getD b 0).toNat) (by omega)
  have k2:=rO bo (x:=(c.to.getD b 0).toNat) (by omega)
  unfold Cat.F Cat.T
  rw [Int.toNat_natCast,Int.toNat_natCast,g1,g2,k1,k2]
  omega
 ·have hx:x<d.id.length:=hx
  have il:=sd.idl
  have cl:=sc.idl
  have hx2:x<c.ob.toNat:=by omega
  obtain⟨r1,r2,r3⟩:=jT bo hx2
  obtain⟨y,hy⟩:∃y:Nat,(bwL O c.ob.toNat).getD x 0=y:=⟨_,(Int.toNat_of_nonneg r1).symm⟩
  rw [hy]at r2 r3
  rw [Int.toNat_natCast]at r3
  have hu:=h.fit.unit y (by show y<c.id.length;omega)
  have hu:Q.getD (c.id.getD y 0).toNat 0=d.id.getD (O.getD y 0).toNat 0:=by
   have e:(⟨c,d,O,Q⟩:Fun).O (y:Int)=O.getD y 0:=by unfold Fun.O;rw [Int.toNat_natCast]
   rw [e]at hu;exact hu
  rw [r3,Int.toNat_natCast]at hu
  have iw:=sc.idw y (by omega)
  show(bwL Q c.fr.length).getD (d.id.getD x 0).toNat 0=c.id.getD ((bwL O c.ob.toNat).getD (x:Int).toNat 0).toNat 0
  rw [Int.toNat_natCast,hy,Int.toNat_natCast,←hu,rO bq (by omega)]
  omega
 ·have hx:a<c.fr.length:=by have:a<d.fr.length:=hx;omega
  have hy:b<c.fr.length:=by have:b<d.fr.length:=hy;omega
  obtain⟨r1,r2,r3⟩:=jT bq hx
  obtain⟨s1,s2,s3⟩:=jT bq hy
  obtain⟨p,hp⟩:∃p:Nat,(bwL Q c.fr.length).getD a 0=p:=⟨_,(Int.toNat_of_nonneg r1).symm⟩
  obtain⟨q,hq⟩:∃q:Nat,(bwL Q c.fr.length).getD b 0=q:=⟨_,(Int.toNat_of_nonneg s1).symm⟩
  rw [hp]at r2 r3
  rw [hq]at s2 s3
  rw [Int.toNat_natCast]at r3 s3
  have hcp:=h.cp (f:=p) (g:=q) (by omega) (by omega)
  rw [r3,s3,Int.toNat_natCast,Int.toNat_natCast]at hcp
  have h0:0≤d.C (a:Int) (b:Int):=h0
  have e1:d.C (a:Int) (b:Int)=d.cp a b:=by unfold Cat.C Cat.cp;rw [Int.toNat_natCast,Int.toNat_natCast]
  rw [e1]at h0
  have h1:=hcp.1.2 h0
  obtain⟨k1,k2⟩:=hcp.2 h1
  show(bwL Q c.fr.length).getD (d.C (a:Int) (b:Int)).toNat 0=c.C ((bwL Q c.fr.length).getD (a:Int).toNat 0) ((bwL Q c.fr.length).getD (b:Int).toNat 0)
  have e2:c.C (p:Int) (q:Int)=c.cp p q:=by unfold Cat.C Cat.cp;rw [Int.toNat_natCast,Int.toNat_natCast]
  rw [e1,Int.toNat_natCast,Int.toNat_natCast,hp,hq,e2,k2,rO bq k1]
  omega
end
end Go.Cats
end
section
namespace Go.Cats
/-! ### The first of a list with a property, -1 if there is none -/
open Classical in
noncomputable def fpO (p:Int→Prop) (l:List Int) (i:Nat):Option Int:=if p (l.getD i 0)then some (l.getD i 0)else none
noncomputable def aCf (p:Int→Prop) (l:List Int):Int:=(aW l.length (fpO p l)).getD (-1)
section
variable {p:Int→Prop} {l:List Int} {i:Nat}
theorem aNF (h:p (l.getD i 0)):fpO p l i=some (l.getD i 0):=if_pos h
theorem aQ6 (h:¬p (l.getD i 0)):fpO p l i=none:=if_neg h
theorem aHd (h:aW l.length (fpO p l)=none):aCf p l= -1:=by unfold aCf;rw [h];rfl
theorem aEV (p:Int→Prop) (l:List Int):(aCf p l= -1∧∀v∈l,¬p v)∨(aCf p l∈l∧p (aCf p l)):=by
 cases h:aW l.length (fpO p l)with
 |none=>
  refine .inl ⟨aHd h,fun v hv k=>?_⟩
  obtain⟨i,hi,e⟩:=fB (d:=0) hv
  have:=scan_none.1 h i hi
  rw [aNF (by rw [e];exact k)]at this
  cases this
 |some r=>
  obtain⟨i,hi,k⟩:=bN h
  have e:aCf p l=r:=by unfold aCf;rw [h];rfl
  rw [e]
  by_cases q:p (l.getD i 0)
  ·rw [aNF q]at k
   have:l.getD i 0=r:=by simpa using k
   rw [←this]
   exact .inr ⟨aT hi,q⟩
  ·rw [aQ6 q]at k;cases k
theorem aL5 (h0:∀v∈l,0≤v):0≤aCf p l↔∃v∈l,p v:=by
 rcases aEV p l with⟨h1,h2⟩|⟨h1,h2⟩
 ·rw [h1]
  exact⟨fun h=>by omega,fun⟨v,hv,k⟩=>absurd k (h2 v hv)⟩
 ·exact⟨fun _=>⟨_,h1,h2⟩,fun _=>h0 _ h1⟩
end
/-! ### The numbers below n with a property, in order -/
open Classical in
noncomputable def aCz (P:Nat→Prop) (n:Nat):List Int:=dR n fun x=>if P x then [(x:Int)]else []
section
variable {P Q:Nat→Prop} {n x:Nat}
theorem aHP:aCz P 0=[]:=rfl
theorem aD7 (h:P n):aCz P (n+1)=aCz P n++[(n:Int)]:=by unfold aCz;rw [fJ,if_pos h]
theorem aGH (h:¬P n):aCz P (n+1)=aCz P n:=by unfold aCz;rw [fJ,if_neg h,List.append_nil]
theorem aD6 (P:Nat→Prop):∀n,(aCz P n).length≤n
 |0=>Nat.le_refl _
 |n+1=>by
  have:=aD6 P n
  by_cases k:P n
  ·rw [aD7 k,List.length_append];simp;omega
  ·rw [aGH k];omega
end
/-! ### Places in lists without repetitions -/
theorem aJu {l:List Int} (h:l.Nodup) {i:Nat} (hi:i<l.length):idxOf l (l.getD i 0)=i:=by
 obtain⟨h0,h1,h2⟩:=pH (aT (d:=0) hi)
 have e:∀j,(hj:j<l.length)→l.getD j 0=l[j]:=fun j hj=>by rw [List.getD_eq_getElem?_getD,List.getElem?_eq_getElem hj];rfl
 have hj:(idxOf l (l.getD i 0)).toNat<l.length:=by omega
 have h3:l[(idxOf l (l.getD i 0)).toNat]=l[i]:=by rw [←e _ hj,←e _ hi,h2]
 rcases Nat.lt_trichotomy (idxOf l (l.getD i 0)).toNat i with q|q|q
 ·exact absurd h3 (List.pairwise_iff_getElem.1 h _ _ hj hi q)
 ·omega
 ·exact absurd h3.symm (List.pairwise_iff_getElem.1 h _ _ hi hj q)
/-! ### Categories by whole numbers -/
section
variable {c:Cat} {f g h x y z:Int}
theorem Shape.unitI (s:Shape c) (h0:0≤x) (h1:x<c.ob):0≤c.I x∧c.I x<c.fr.length∧c.F (c.I x)=x∧c.T (c.I x)=x:=by
 have hl:=s.idl
 have hx:x.toNat<c.id.length:=by omega
 have a:=s.idw x.toNat hx
 have b:=s.ide x.toNat hx
 have e:((x.toNat:Nat):Int)=x:=by omega
 rw [e]at b
 exact⟨a.1,a.2,b⟩
theorem Shape.compI (s:Shape c) (f0:0≤f) (f1:f<c.fr.length) (g0:0≤g) (g1:g<c.fr.length) (e:c.T f=c.F g):0≤c.C f g∧c.C f g<c.fr.length∧c.F (c.C f g)=c.F f∧c.T (c.C f g)=c.T g:=by
 have:=(s.coe f.toNat (by omega)).2 g.toNat (by omega)
 unfold Cat.Entry at this
 simp only [Cat.C,Int.toNat_natCast]at this⊢
 rcases this with⟨_,h2,h3,h4⟩|⟨h1,_⟩
 ·exact⟨h2.1,h2.2,h3,h4⟩
 ·exact absurd e h1
/-! ### Inverses -/
def Cat.InvP (c:Cat) (f g:Int):Prop:=c.C f g=c.I (c.F f)∧c.C g f=c.I (c.T f)
noncomputable def Cat.inv (c:Cat) (f:Int):Int:=aCf (c.InvP f) (c.hom (c.T f) (c.F f))
theorem Cat.inv_ge:0≤c.inv f↔∃g∈c.hom (c.T f) (c.F f),c.InvP f g:=aL5 fun v hv=>(Cat.mem_hom.1 hv).1
def Cat.IsoO (c:Cat) (x y:Int):Prop:=∃f∈c.hom x y,0≤c.inv f
theorem Cat.IsoO.symm (h:c.IsoO x y):c.IsoO y x:=by
 obtain⟨f,hf,hi⟩:=h
 obtain⟨g,hg,h1,h2⟩:=Cat.inv_ge.1 hi
 obtain⟨f0,f1,f2,f3⟩:=Cat.mem_hom.1 hf
 rw [f2,f3]at hg
 obtain⟨g0,g1,g2,g3⟩:=Cat.mem_hom.1 hg
 refine⟨g,hg,Cat.inv_ge.2 ⟨f,by rw [g2,g3];exact hf,?_,?_⟩⟩
 ·rw [h2,f3,g2]
 ·rw [h1,f2,g3]
end
structure SubA (c:Cat) (A:List Int):Prop where
 nd:A.Nodup
 len:A.length≤c.fr.length
 rng:∀f∈A,0≤f∧f<c.fr.length
 idf:∀f∈A,c.I (c.F f)∈A
 idt:∀f∈A,c.I (c.T f)∈A
 cmp:∀f∈A,∀g∈A,c.T f=c.F g→c.C f g∈A
theorem qY {α β:Type} {l:List α} {h:α→β} {i:Nat} {d:β} {e:α} (hi:i<l.length):(l.map h).getD i d=h (l.getD i e):=by
 rw [List.getD_eq_getElem?_getD,List.getElem?_map,List.getD_eq_getElem?_getD,List.getElem?_eq_getElem hi];rfl
section
variable {c:Cat} {A:List Int}
open Classical in
def mkA (A:List Int) (m:Nat):Nat→List Bool
 |0=>List.replicate m false
 |i+1=>(mkA A m i).set (A.getD i 0).toNat true
theorem wZ (A:List Int) (m:Nat):∀i,(mkA A m i).length=m
 |0=>List.length_replicate
 |i+1=>by rw [mkA,List.length_set,wZ A m i]
theorem aE8 {m:Nat} (hr:∀f∈A,0≤f∧f<m):∀{i:Nat},i≤A.length→∀v:Int,0≤v→v<m→((mkA A m i).getD v.toNat false=true↔v∈A.take i)
 |0,_,v,h0,h1=>by
  rw [mkA,List.getD_eq_getElem?_getD,List.getElem?_replicate]
  split<;>simp
 |i+1,hi,v,h0,h1=>by
  have hl:=wZ A m i
  have ri:=hr _ (aT (d:=0) (show i<A.length by omega))
  have ih:=aE8 hr (show i≤A.length by omega) v h0 h1
  rw [mkA,List.getD_eq_getElem?_getD]
  have et:A.take (i+1)=A.take i++[A.getD i 0]:=by
   rw [List.take_succ_eq_append_getElem (show i<A.length by omega),List.getD_eq_getElem?_getD,List.getElem?_eq_getElem (by omega)];rfl
  rw [et,List.mem_append,List.mem_singleton,←ih]
  by_cases e:v=A.getD i 0
  ·rw [e,List.getElem?_set_self (by omega)];simp
  ·rw [List.getElem?_set_ne (fun q=>e (by omega)),←List.getD_eq_getElem?_getD]
   exact⟨fun h=> .inl h,fun h=>h.elim id fun q=>absurd q e⟩
end
end Go.Cats
end
section
namespace Go.Cats
structure TabOK (n:Nat) (A:List (List Int)) (U:Nat→List Int) (cp:List Int→List Int→List Int):Prop where
 n8:n≤8
 a40:A.length≤40
 nd:A.Nodup
 e0:∀r∈A,0≤r.getD 0 0∧r.getD 0 0<n
 e1:∀r∈A,0≤r.getD 1 0∧r.getD 1 0<n
 um:∀i,i<n→U i∈A∧(U i).getD 0 0=i∧(U i).getD 1 0=i
 cm:∀r∈A,∀s∈A,r.getD 1 0=s.getD 0 0→cp r s∈A∧(cp r s).getD 0 0=r.getD 0 0∧(cp r s).getD 1 0=s.getD 1 0
 ul:∀r∈A,cp (U (r.getD 0 0).toNat) r=r
 ur:∀r∈A,cp r (U (r.getD 1 0).toNat)=r
 as:∀r∈A,∀s∈A,∀q∈A,r.getD 1 0=s.getD 0 0→s.getD 1 0=q.getD 0 0→cp (cp r s) q=cp r (cp s q)
def pW (A:List (List Int)) (cp:List Int→List Int→List Int) (a n:Nat):List Int:=(List.range n).map fun b=>if(A.getD a []).getD 1 0=(A.getD b []).getD 0 0 then fnd A (cp (A.getD a []) (A.getD b []))else-1
def fN (n:Nat) (A:List (List Int)) (U:Nat→List Int) (cp:List Int→List Int→List Int):Cat:=
 ⟨n,A.map fun r=>r.getD 0 0,A.map fun r=>r.getD 1 0,(List.range n).map fun i=>fnd A (U i),(List.range A.length).map fun a=>pW A cp a A.length⟩
section
variable {n:Nat} {A:List (List Int)} {U:Nat→List Int} {cp:List Int→List Int→List Int} {a b i:Nat}
theorem nE {f:List Int→Int} (h:a<A.length):(A.map f).getD a 0=f (A.getD a []):=by
 rw [List.getD_eq_getElem?_getD,List.getElem?_map,List.getElem?_eq_getElem h,List.getD_eq_getElem?_getD (l:=A),List.getElem?_eq_getElem h];rfl
theorem aCQ (h:a<A.length):(fN n A U cp).fr.getD a 0=(A.getD a []).getD 0 0:=nE (f:=fun r=>r.getD 0 0) h
theorem aCR (h:a<A.length):(fN n A U cp).to.getD a 0=(A.getD a []).getD 1 0:=nE (f:=fun r=>r.getD 1 0) h
theorem aGP:(fN n A U cp).fr.length=A.length:=by show(A.map _).length=_;rw [List.length_map]
theorem aPu (h:i<n):(fN n A U cp).id.getD i 0=fnd A (U i):=by
 show((List.range n).map _).getD i 0=_
 rw [List.getD_eq_getElem?_getD,List.getElem?_map,List.getElem?_range h];rfl
theorem aGQ (h:a<A.length):(fN n A U cp).co.getD a []=pW A cp a A.length:=by
 show((List.range A.length).map _).getD a []=_
 rw [List.getD_eq_getElem?_getD,List.getElem?_map,List.getElem?_range h];rfl
theorem aLd (ha:a<A.length) (hb:b<A.length):(fN n A U cp).C a b=if(A.getD a []).getD 1 0=(A.getD b []).getD 0 0 then fnd A (cp (A.getD a []) (A.getD b []))else-1:=by
 show((fN n A U cp).co.getD (a:Int).toNat []).getD (b:Int).toNat 0=_
 rw [Int.toNat_natCast,Int.toNat_natCast,aGQ ha]
 unfold pW
 rw [List.getD_eq_getElem?_getD,List.getElem?_map,List.getElem?_range hb];rfl
theorem TabOK.mem (ha:a<A.length):A.getD a []∈A:=aT ha
theorem TabOK.C (h:TabOK n A U cp) (ha:a<A.length) (hb:b<A.length) (e:(A.getD a []).getD 1 0=(A.getD b []).getD 0 0):∃k:Nat,k<A.length∧A.getD k []=cp (A.getD a []) (A.getD b [])∧(fN n A U cp).C a b=k:=by
 have hm:=(h.cm _ (TabOK.mem ha) _ (TabOK.mem hb) e).1
 obtain⟨k,h1,h2,h3⟩:=wU hm
 exact⟨k,h1,h2,by rw [aLd ha hb,if_pos e,h3]⟩
theorem TabOK.I (h:TabOK n A U cp) (hi:i<n):∃k:Nat,k<A.length∧A.getD k []=U i∧(fN n A U cp).id.getD i 0=k:=by
 obtain⟨k,h1,h2,h3⟩:=wU (h.um i hi).1
 exact⟨k,h1,h2,by rw [aPu hi,h3]⟩
theorem TabOK.inj (h:TabOK n A U cp) (ha:a<A.length) (hb:b<A.length) (e:A.getD a []=A.getD b []):a=b:=by
 have h1:=yL h.nd ha
 have h2:=yL h.nd hb
 rw [e,h2]at h1
 omega
theorem qB (ha:a<A.length):(fN n A U cp).F (a:Int)=(A.getD a []).getD 0 0:=by
 show(fN n A U cp).fr.getD (a:Int).toNat 0=_
 rw [Int.toNat_natCast,aCQ ha]
theorem qC (ha:a<A.length):(fN n A U cp).T (a:Int)=(A.getD a []).getD 1 0:=by
 show(fN n A U cp).to.getD (a:Int).toNat 0=_
 rw [Int.toNat_natCast,aCR ha]
theorem TabOK.shape (h:TabOK n A U cp):Shape (fN n A U cp):=by
 have hm:=aGP (n:=n) (A:=A) (U:=U) (cp:=cp)
 refine⟨Int.natCast_nonneg n,?_,by rw [hm];exact h.a40,?_,fun a ha=>?_,fun a ha=>?_,?_,fun i hi=>?_,?_,fun i hi=>?_,fun a ha=>⟨?_,fun b hb=>?_⟩⟩
 ·show(n:Int)≤8;have:=h.n8;omega
 ·show(A.map _).length=(A.map _).length;rw [List.length_map,List.length_map]
 ·rw [hm]at ha;rw [aCQ ha];exact h.e0 _ (TabOK.mem ha)
 ·have ha:a<A.length:=by
   have e:(fN n A U cp).to.length=A.length:=by show(A.map _).length=_;rw [List.length_map]
   exact e▸ha
  rw [aCR ha];exact h.e1 _ (TabOK.mem ha)
 ·show(((List.range n).map _).length:Int)=n;rw [List.length_map,List.length_range]
 ·have hi:i<n:=by
   have e:(fN n A U cp).id.length=n:=by show((List.range n).map _).length=_;rw [List.length_map,List.length_range]
   exact e▸hi
  obtain⟨k,k1,k2,k3⟩:=h.I hi
  rw [k3,hm];omega
 ·show((List.range A.length).map _).length=(A.map _).length;rw [List.length_map,List.length_range,List.length_map]
 ·have hi:i<n:=by
   have e:(fN n A U cp).id.length=n:=by show((List.range n).map _).length=_;rw [List.length_map,List.length_range]
   exact e▸hi
  obtain⟨k,k1,k2,k3⟩:=h.I hi
  rw [k3,qB k1,qC k1,k2]
  exact(h.um i hi).2
 ·rw [hm]at ha⊢
  rw [aGQ ha];unfold pW;rw [List.length_map,List.length_range]
 ·rw [hm]at ha hb
  unfold Cat.Entry
  rw [aCR ha,aCQ hb,aCQ ha,aCR hb,hm]
  by_cases e:(A.getD a []).getD 1 0=(A.getD b []).getD 0 0
  ·obtain⟨k,k1,k2,k3⟩:=h.C ha hb e
   have hc:=(h.cm _ (TabOK.mem ha) _ (TabOK.mem hb) e).2
   refine .inl ⟨e,by rw [k3];omega,?_,?_⟩
   ·rw [k3,qB k1,k2];exact hc.1
   ·rw [k3,qC k1,k2];exact hc.2
  ·exact .inr ⟨e,by rw [aLd ha hb,if_neg e]⟩
theorem TabOK.cat (h:TabOK n A U cp):IsCat (fN n A U cp):=by
 have hm:=aGP (n:=n) (A:=A) (U:=U) (cp:=cp)
 refine⟨h.shape,fun f hf=>?_,fun f hf=>?_,fun f g q hf hg hq e1 e2=>?_⟩
 ·rw [hm]at hf
  have he:=h.e0 _ (TabOK.mem hf)
  rw [qB hf]
  obtain⟨k,k1,k2,k3⟩:=h.I (i:=((A.getD f []).getD 0 0).toNat) (by omega)
  have hI:(fN n A U cp).I ((A.getD f []).getD 0 0)=k:=k3
  have hu:=(h.um ((A.getD f []).getD 0 0).toNat (by omega)).2.2
  rw [hI]
  obtain⟨j,j1,j2,j3⟩:=h.C k1 hf (by rw [k2,hu];omega)
  rw [j3]
  rw [k2,h.ul _ (TabOK.mem hf)]at j2
  rw [h.inj j1 hf j2]
 ·rw [hm]at hf
  have he:=h.e1 _ (TabOK.mem hf)
  rw [qC hf]
  obtain⟨k,k1,k2,k3⟩:=h.I (i:=((A.getD f []).getD 1 0).toNat) (by omega)
  have hI:(fN n A U cp).I ((A.getD f []).getD 1 0)=k:=k3
  have hu:=(h.um ((A.getD f []).getD 1 0).toNat (by omega)).2.1
  rw [hI]
  obtain⟨j,j1,j2,j3⟩:=h.C hf k1 (by rw [k2,hu];omega)
  rw [j3]
  rw [k2,h.ur _ (TabOK.mem hf)]at j2
  rw [h.inj j1 hf j2]
 ·rw [hm]at hf hg hq
  rw [qC hf,qB hg]at e1
  rw [qC hg,qB hq]at e2
  obtain⟨j,j1,j2,j3⟩:=h.C hf hg e1
  obtain⟨k,k1,k2,k3⟩:=h.C hg hq e2
  have c1:=(h.cm _ (TabOK.mem hf) _ (TabOK.mem hg) e1).2
  have c2:=(h.cm _ (TabOK.mem hg) _ (TabOK.mem hq) e2).2
  rw [j3,k3]
  obtain⟨x,x1,x2,x3⟩:=h.C j1 hq (by rw [j2,c1.2];exact e2)
  obtain⟨y,y1,y2,y3⟩:=h.C hf k1 (by rw [k2,c2.1];exact e1)
  rw [x3,y3,h.inj x1 y1 (by rw [x2,y2,j2,k2];exact h.as _ (TabOK.mem hf) _ (TabOK.mem hg) _ (TabOK.mem hq) e1 e2)]
end
end Go.Cats
end
section
namespace Go.Cats
section
variable {n:Nat} {A:List (List Int)} {U:Nat→List Int} {cp:List Int→List Int→List Int} {d:Cat} {P:Nat→Int} {k:Nat}
theorem TabOK.func (h:TabOK n A U cp) (hd:IsCat d) (p1:∀i,i<n→0≤P i∧P i<d.ob) (q1:∀r∈A,0≤r.getD k 0∧r.getD k 0<d.fr.length) (q2:∀r∈A,d.F (r.getD k 0)=P (r.getD 0 0).toNat∧d.T (r.getD k 0)=P (r.getD 1 0).toNat)
  (q3:∀i,i<n→(U i).getD k 0=d.I (P i)) (q4:∀r∈A,∀s∈A,r.getD 1 0=s.getD 0 0→(cp r s).getD k 0=d.C (r.getD k 0) (s.getD k 0)):
  IsFun ⟨fN n A U cp,d,(List.range n).map P,A.map fun r=>r.getD k 0⟩:=by
 have hP:∀i,i<n→((List.range n).map P).getD i 0=P i:=fun i hi=>by
  rw [List.getD_eq_getElem?_getD,List.getElem?_map,List.getElem?_range hi];rfl
 have hA:∀a,a<A.length→(A.map fun r=>r.getD k 0).getD a 0=(A.getD a []).getD k 0:=fun a ha=>nE (f:=fun r=>r.getD k 0) ha
 have hm:=aGP (n:=n) (A:=A) (U:=U) (cp:=cp)
 have e0:∀a,a<A.length→(((A.getD a []).getD 0 0).toNat:Int)=(A.getD a []).getD 0 0∧((A.getD a []).getD 0 0).toNat<n:=fun a ha=>by have:=h.e0 _ (TabOK.mem ha);omega
 have e1:∀a,a<A.length→(((A.getD a []).getD 1 0).toNat:Int)=(A.getD a []).getD 1 0∧((A.getD a []).getD 1 0).toNat<n:=fun a ha=>by have:=h.e1 _ (TabOK.mem ha);omega
 refine⟨h.cat,hd,?_,?_,fun i hi=>?_,fun a ha=>?_,fun a ha=>?_,fun x hx=>?_,fun a b ha hb hc=>?_⟩
 ·show(((List.range n).map P).length:Int)=n;rw [List.length_map,List.length_range]
 ·show(A.map _).length=(fN n A U cp).fr.length;rw [List.length_map,hm]
 ·have hi:i<n:=by
   have e:((List.range n).map P).length=n:=by rw [List.length_map,List.length_range]
   exact e▸hi
  show 0≤((List.range n).map P).getD i 0∧((List.range n).map P).getD i 0<d.ob
  rw [hP i hi];exact p1 i hi
 ·have ha:a<A.length:=by
   have e:(A.map fun r=>r.getD k 0).length=A.length:=List.length_map _
   exact e▸ha
  show 0≤(A.map _).getD a 0∧(A.map _).getD a 0<(d.fr.length:Int)
  rw [hA a ha];exact q1 _ (TabOK.mem ha)
 ·have ha:a<A.length:=by
   have e:(A.map fun r=>r.getD k 0).length=A.length:=List.length_map _
   exact e▸ha
  show d.F ((A.map _).getD a 0)=((List.range n).map P).getD ((fN n A U cp).F (a:Int)).toNat 0∧d.T ((A.map _).getD a 0)=((List.range n).map P).getD ((fN n A U cp).T (a:Int)).toNat 0
  rw [hA a ha,qB ha,qC ha,hP _ (e0 a ha).2,hP _ (e1 a ha).2]
  exact q2 _ (TabOK.mem ha)
 ·have hx:x<n:=by
   have e:(fN n A U cp).id.length=n:=by show((List.range n).map _).length=_;rw [List.length_map,List.length_range]
   exact e▸hx
  obtain⟨j,j1,j2,j3⟩:=h.I hx
  show(A.map _).getD ((fN n A U cp).id.getD x 0).toNat 0=d.I (((List.range n).map P).getD (x:Int).toNat 0)
  rw [j3,Int.toNat_natCast,Int.toNat_natCast,hA j j1,j2,hP x hx];exact q3 x hx
 ·have ha:a<A.length:=by rw [←hm];exact ha
  have hb:b<A.length:=by rw [←hm];exact hb
  by_cases e:(A.getD a []).getD 1 0=(A.getD b []).getD 0 0
  ·obtain⟨j,j1,j2,j3⟩:=h.C ha hb e
   show(A.map _).getD ((fN n A U cp).C a b).toNat 0=d.C ((A.map _).getD (a:Int).toNat 0) ((A.map _).getD (b:Int).toNat 0)
   rw [j3,Int.toNat_natCast,Int.toNat_natCast,Int.toNat_natCast,hA j j1,j2,hA a ha,hA b hb]
   exact q4 _ (TabOK.mem ha) _ (TabOK.mem hb) e
  ·exfalso
   have hc:0≤(fN n A U cp).C a b:=hc
   rw [aLd ha hb,if_neg e]at hc
   omega
end
section
variable {f e:Fun}
theorem aDe (l:List (List Int)) (k:Nat):gK l k l.length=l.map fun r=>r.getD k 0:=by unfold gK;rw [List.take_length]
end
/-! ### Terminal objects -/
def aBX (c:Cat) (x:Nat):Prop:=∀y,y<c.ob.toNat→(c.hom y x).length=1
open Classical in
noncomputable def oW (c:Cat) (n:Nat):List Int:=dR n fun x=>if aBX c x then [(x:Int)]else []
noncomputable def aA4 (c:Cat):List Int:=oW c c.ob.toNat
theorem mem_trm {c:Cat} {n:Nat} {z:Int}:z∈oW c n↔∃x:Nat,x<n∧aBX c x∧z=x:=by
 unfold oW
 rw [aDH]
 constructor
 ·rintro⟨x,hx,h⟩
  split at h
  ·exact⟨x,hx,by assumption,by simpa using h⟩
  ·simp at h
 ·rintro⟨x,hx,hp,rfl⟩
  exact⟨x,hx,by rw [if_pos hp];simp⟩
theorem aMC {l:List Int} {a:Int} (hn:l.Nodup) (ha:a∈l) (h:∀b∈l,b=a):l.length=1:=by
 match l,hn,ha,h with
 |[],_,ha,_=>cases ha
 |[_],_,_,_=>rfl
 |x::y::r,hn,_,h=>
  have h1:=h x (by simp)
  have h2:=h y (by simp)
  rw [h1,h2]at hn
  simp at hn
end Go.Cats
end
section
namespace Go.Cats
section
variable {f g:SF} {once:Bool} {P Q:List (List Int)}
end
end Go.Cats
end
section
namespace Go.Cats
section
variable {c:Cat} {x y z:Int} {a e:Nat} {h k:Int}
theorem Cat.place (hk:k∈c.hom x y):∃e:Nat,e<(c.hom x y).length∧(c.hom x y).getD e 0=k∧idxOf (c.hom x y) k=e:=by
 obtain⟨h1,h2,h3⟩:=pH hk
 exact⟨(idxOf (c.hom x y) k).toNat,by omega,h3,by omega⟩
theorem Cat.at_place (he:e<(c.hom x y).length):idxOf (c.hom x y) ((c.hom x y).getD e 0)=e:=aJu (Cat.hom_nodup c x y) he
theorem Cat.at_mem (he:e<(c.hom x y).length):(c.hom x y).getD e 0∈c.hom x y:=by
 rw [List.getD_eq_getElem?_getD,List.getElem?_eq_getElem he];exact List.getElem_mem he
theorem IsCat.comp_hom (s:IsCat c) (hh:h∈c.hom x y) (hk:k∈c.hom y z):c.C h k∈c.hom x z:=by
 obtain⟨a0,a1,a2,a3⟩:=Cat.mem_hom.1 hh
 obtain⟨b0,b1,b2,b3⟩:=Cat.mem_hom.1 hk
 obtain⟨c0,c1,c2,c3⟩:=s.toShape.compI a0 a1 b0 b1 (by rw [a3,b2])
 exact Cat.mem_hom.2 ⟨c0,c1,by rw [c2,a2],by rw [c3,b3]⟩
theorem IsCat.assH (s:IsCat c) {f g q:Int} {w:Int} (hf:f∈c.hom x y) (hg:g∈c.hom y z) (hq:q∈c.hom z w):c.C (c.C f g) q=c.C f (c.C g q):=by
 obtain⟨a0,a1,a2,a3⟩:=Cat.mem_hom.1 hf
 obtain⟨b0,b1,b2,b3⟩:=Cat.mem_hom.1 hg
 obtain⟨d0,d1,d2,d3⟩:=Cat.mem_hom.1 hq
 have:=s.ass f.toNat g.toNat q.toNat (by omega) (by omega) (by omega) (by rw [Int.toNat_of_nonneg a0,Int.toNat_of_nonneg b0,a3,b2]) (by rw [Int.toNat_of_nonneg b0,Int.toNat_of_nonneg d0,b3,d2])
 rw [Int.toNat_of_nonneg a0,Int.toNat_of_nonneg b0,Int.toNat_of_nonneg d0]at this
 exact this
theorem IsCat.arr_hom (s:IsCat c) (ha:a<c.fr.length):(a:Int)∈c.hom (c.fr.getD a 0) (c.to.getD a 0):=
 Cat.mem_hom.2 ⟨by omega,by omega,by simp [Cat.F],by simp [Cat.T]⟩
theorem IsCat.id_hom' (s:IsCat c) (h0:0≤x) (h1:x<c.ob):c.I x∈c.hom x x:=by
 obtain⟨a,b,d,e⟩:=s.toShape.unitI h0 h1
 exact Cat.mem_hom.2 ⟨a,b,d,e⟩
theorem sL:((c.rep x).sizes.length)=c.ob.toNat:=by simp [Cat.rep]
theorem zJ {y:Nat} (hy:y<c.ob.toNat):(c.rep x).sizes.getD y 0=((c.hom x y).length:Int):=by
 simp only [Cat.rep,List.getD_eq_getElem?_getD,List.getElem?_map,List.getElem?_range hy,Option.map_some,Option.getD_some]
theorem aGC:(c.rep x).acts.length=c.fr.length:=by simp [Cat.rep]
theorem pL (ha:a<c.fr.length):(c.rep x).acts.getD a []=c.repAct x a:=by simp [Cat.rep,List.getD_eq_getElem?_getD,ha]
theorem kI:(c.repAct x a).length=(c.hom x (c.fr.getD a 0)).length:=by unfold Cat.repAct;rw [List.length_map]
theorem jR (he:e<(c.hom x (c.fr.getD a 0)).length):(c.repAct x a).getD e 0=idxOf (c.hom x (c.to.getD a 0)) (c.C ((c.hom x (c.fr.getD a 0)).getD e 0) a):=by
 unfold Cat.repAct
 rw [List.getD_eq_getElem?_getD,List.getElem?_map,List.getElem?_eq_getElem he]
 show idxOf _ ((c.co.getD _ []).getD a 0)=_
 rw [List.getD_eq_getElem?_getD (l:=c.hom x (c.fr.getD a 0)),List.getElem?_eq_getElem he]
 show _=idxOf _ ((c.co.getD _ []).getD (a:Int).toNat 0)
 rw [Int.toNat_natCast];rfl
theorem aBE (s:IsCat c) (hx:0≤x) (hx1:x<c.ob) (hs:c.small x):SFShape (c.rep x):=by
 have o0:=s.toShape.ob0
 refine⟨s,?_,fun y hy=>?_,aGC,fun a ha=>?_⟩
 ·show((c.rep x).sizes.length:Int)=c.ob;rw [sL];omega
 ·rw [sL]at hy
  rw [zJ hy]
  have:=hs y (by omega)
  omega
 ·rw [aGC]at ha
  have f1:=s.toShape.frw a ha
  have f2:=s.toShape.tow a (by rw [s.toShape.tol];exact ha)
  rw [pL ha]
  have e1:(c.rep x).sizes.getD ((c.rep x).shape.fr.getD a 0).toNat 0=((c.hom x (c.fr.getD a 0)).length:Int):=by
   show(c.rep x).sizes.getD (c.fr.getD a 0).toNat 0=_
   rw [zJ (by omega),Int.toNat_of_nonneg f1.1]
  have e2:(c.rep x).sizes.getD ((c.rep x).shape.to.getD a 0).toNat 0=((c.hom x (c.to.getD a 0)).length:Int):=by
   show(c.rep x).sizes.getD (c.to.getD a 0).toNat 0=_
   rw [zJ (by omega),Int.toNat_of_nonneg f2.1]
  rw [e1,e2,kI]
  refine⟨rfl,fun e he=>?_⟩
  rw [kI]at he
  rw [jR he]
  obtain⟨k,k1,k2,k3⟩:=Cat.place (s.comp_hom (Cat.at_mem he) (s.arr_hom ha))
  rw [k3];omega
theorem aGD (s:IsCat c) (hx:0≤x) (hx1:x<c.ob) (hs:c.small x):IsSF (c.rep x):=by
 refine {toSFShape:=aBE s hx hx1 hs,unit:=fun y hy e he=>?_,comp:=fun a b ha hb h0 e he=>?_}
 ·have hy:y<c.id.length:=hy
  have il:=s.toShape.idl
  have iw:=s.toShape.idw y hy
  have ie:=s.toShape.ide y hy
  have ha:(c.id.getD y 0).toNat<c.fr.length:=by omega
  have ef:c.fr.getD (c.id.getD y 0).toNat 0=y:=ie.1
  have et:c.to.getD (c.id.getD y 0).toNat 0=y:=ie.2
  have he:e<((c.rep x).acts.getD (c.id.getD y 0).toNat []).length:=he
  show((c.rep x).acts.getD (c.id.getD y 0).toNat []).getD e 0=e
  rw [pL ha]at he⊢
  rw [kI]at he
  rw [jR he]
  rw [ef]at he⊢
  rw [et,Int.toNat_of_nonneg iw.1]
  have hm:=Cat.mem_hom.1 (Cat.at_mem he)
  have:=s.unr ((c.hom x y).getD e 0).toNat (by omega)
  rw [Int.toNat_of_nonneg hm.1,hm.2.2.2]at this
  have eI:c.I (y:Int)=c.id.getD y 0:=by show c.id.getD (y:Int).toNat 0=_;rw [Int.toNat_natCast]
  rw [eI]at this
  rw [this,Cat.at_place he]
 ·have ha:a<c.fr.length:=ha
  have hb:b<c.fr.length:=hb
  have h0:0≤(c.co.getD a []).getD b 0:=h0
  have eC:c.C (a:Int) (b:Int)=(c.co.getD a []).getD b 0:=by show(c.co.getD (a:Int).toNat []).getD (b:Int).toNat 0=_;rw [Int.toNat_natCast,Int.toNat_natCast]
  rw [←eC]at h0
  have hT:c.T (a:Int)=c.F (b:Int):=by
   have:=s.toShape.neg ha hb
   exact Classical.byContradiction fun q=>by have:=this.2 q;omega
  have tb:c.to.getD a 0=c.fr.getD b 0:=by
   have:=hT
   unfold Cat.T Cat.F at this
   rwa [Int.toNat_natCast,Int.toNat_natCast]at this
  have hA:=s.arr_hom ha
  have hB:=s.arr_hom hb
  rw [←tb]at hB
  have hC:=s.comp_hom hA hB
  obtain⟨c0,c1,c2,c3⟩:=Cat.mem_hom.1 hC
  have hcn:(c.C (a:Int) (b:Int)).toNat<c.fr.length:=by omega
  have ef:c.fr.getD (c.C (a:Int) (b:Int)).toNat 0=c.fr.getD a 0:=c2
  have et:c.to.getD (c.C (a:Int) (b:Int)).toNat 0=c.to.getD b 0:=c3
  have he:e<((c.rep x).acts.getD a []).length:=he
  show((c.rep x).acts.getD ((c.co.getD a []).getD b 0).toNat []).getD e 0=((c.rep x).acts.getD b []).getD (((c.rep x).acts.getD a []).getD e 0).toNat 0
  rw [←eC]
  rw [pL ha]at he⊢
  rw [pL hb,pL hcn]
  rw [kI]at he
  have hE:=Cat.at_mem he
  obtain⟨k,k1,k2,k3⟩:=Cat.place (s.comp_hom hE hA)
  rw [jR he,k3,Int.toNat_natCast,jR (a:=b) (by rw [←tb];exact k1),jR (by rw [ef];exact he),ef,et,Int.toNat_of_nonneg c0]
  rw [tb]at k2
  rw [k2,s.assH hE hA hB]
/-! ### The map of an arrow -/
def aQI (c:Cat) (h:Int) (z:Nat):List Int:=(c.hom (c.T h) z).map fun k=>idxOf (c.hom (c.F h) z) (c.C h k)
def arP (c:Cat) (h:Int) (n:Nat):List (List Int):=(List.range n).map (aQI c h)
end
end Go.Cats
end
section
namespace Go.Cats
section
variable {c:Cat} {h k:Int}
end
end Go.Cats
end
section
namespace Go.Cats
section
variable {f:SF} {x e:Int} {Q:List (List Int)}
theorem SF.eParts_at {n y:Nat} (hy:y<n):(f.eParts x e n).getD y []=(f.shape.hom x y).map fun h=>(f.acts.getD h.toNat []).getD e.toNat 0:=by
 unfold SF.eParts
 rw [List.getD_eq_getElem?_getD,List.getElem?_map,List.getElem?_range hy];rfl
theorem SF.eP_at {n y k:Nat} (hy:y<n) (hk:k<(f.shape.hom x y).length):((f.eParts x e n).getD y []).getD k 0=(f.acts.getD ((f.shape.hom x y).getD k 0).toNat []).getD e.toNat 0:=by
 rw [SF.eParts_at hy,List.getD_eq_getElem?_getD,List.getElem?_map,List.getElem?_eq_getElem hk,List.getD_eq_getElem?_getD (l:=f.shape.hom x y),List.getElem?_eq_getElem hk];rfl
theorem SF.act_in (s:IsSF f) (h:f.Elem x e) {y a:Int} (ha:a∈f.shape.hom x y):0≤(f.acts.getD a.toNat []).getD e.toNat 0∧(f.acts.getD a.toNat []).getD e.toNat 0<f.sizes.getD y.toNat 0:=by
 obtain⟨a0,a1,a2⟩:=SF.elem_act s h ha
 have k:=(s.act a.toNat a1).2 e.toNat a2
 have e1:f.shape.to.getD a.toNat 0=y:=(Cat.mem_hom.1 ha).2.2.2
 rw [e1]at k
 exact k
theorem SF.unitE (s:IsSF f) (h:f.Elem x e):(f.acts.getD (f.shape.I x).toNat []).getD e.toNat 0=e:=by
 have hx:=h.1
 have il:=s.cat.toShape.idl
 have hm:=s.cat.id_hom' hx.1 hx.2
 obtain⟨a0,a1,a2⟩:=SF.elem_act s h hm
 have:=s.unit x.toNat (by omega) e.toNat a2
 have h0:=h.2.1
 have eI:f.shape.I x=f.shape.id.getD x.toNat 0:=rfl
 rw [eI,this]
 omega
theorem SF.compE (s:IsSF f) (h:f.Elem x e) {y z a b:Int} (ha:a∈f.shape.hom x y) (hb:b∈f.shape.hom y z):(f.acts.getD (f.shape.C a b).toNat []).getD e.toNat 0=(f.acts.getD b.toNat []).getD ((f.acts.getD a.toNat []).getD e.toNat 0).toNat 0:=by
 obtain⟨a0,a1,a2⟩:=SF.elem_act s h ha
 obtain⟨b0,b1,b2,b3⟩:=Cat.mem_hom.1 hb
 obtain⟨c0,c1,c2,c3⟩:=Cat.mem_hom.1 (s.cat.comp_hom ha hb)
 have al:=s.acl
 exact s.comp a.toNat b.toNat (by omega) (by omega) c0 e.toNat a2
theorem SF.eMap_nat (s:IsSF f) (h:f.Elem x e) (hs:f.shape.small x):IsSM (f.eMap x e):=by
 have hx:=h.1
 have hr:=aGD s.cat hx.1 hx.2 hs
 have o0:=s.cat.toShape.ob0
 refine {src:=hr,tgt:=s,same:=rfl,fits:=⟨?_,fun y hy=>?_⟩,nat:=fun a ha k hk=>?_}
 ·show(f.eParts x e f.shape.ob.toNat).length=(f.shape.rep x).sizes.length;rw [SF.eParts_len,sL]
 ·have hy:y<f.shape.ob.toNat:=by
   have:y<(f.eParts x e f.shape.ob.toNat).length:=hy
   rwa [SF.eParts_len]at this
  show(((f.eParts x e f.shape.ob.toNat).getD y []).length:Int)=(f.shape.rep x).sizes.getD y 0∧Within ((f.eParts x e f.shape.ob.toNat).getD y []) (f.sizes.getD y 0)
  rw [zJ hy,SF.eParts_row _ _ _ _ _ hy]
  refine⟨rfl,fun k hk=>?_⟩
  rw [SF.eParts_row _ _ _ _ _ hy]at hk
  rw [SF.eP_at hy hk]
  have:=SF.act_in s h (Cat.at_mem hk)
  rwa [Int.toNat_natCast]at this
 ·have ha:a<f.shape.fr.length:=ha
  have g1:=s.cat.toShape.frw a ha
  have g2:=s.cat.toShape.tow a (by rw [s.cat.toShape.tol];exact ha)
  have hk:k<((f.shape.rep x).acts.getD a []).length:=hk
  show((f.eParts x e f.shape.ob.toNat).getD (f.shape.to.getD a 0).toNat []).getD (((f.shape.rep x).acts.getD a []).getD k 0).toNat 0=(f.acts.getD a []).getD (((f.eParts x e f.shape.ob.toNat).getD (f.shape.fr.getD a 0).toNat []).getD k 0).toNat 0
  rw [pL ha]at hk⊢
  rw [kI]at hk
  have hK:=Cat.at_mem hk
  have hA:=s.cat.arr_hom ha
  obtain⟨j,j1,j2,j3⟩:=Cat.place (s.cat.comp_hom hK hA)
  have ef:(((f.shape.fr.getD a 0).toNat:Nat):Int)=f.shape.fr.getD a 0:=Int.toNat_of_nonneg g1.1
  have et:(((f.shape.to.getD a 0).toNat:Nat):Int)=f.shape.to.getD a 0:=Int.toNat_of_nonneg g2.1
  rw [jR hk,j3,Int.toNat_natCast,SF.eP_at (by omega) (by rw [et];exact j1),et,j2,SF.eP_at (by omega) (by rw [ef];exact hk),ef]
  have:=SF.compE s h hK hA
  rw [Int.toNat_natCast]at this
  exact this
end
end Go.Cats
end
section
namespace Go.Cats
open Go.Eng
def SF.acE (f:SF) (h e:Int):Int:=(f.acts.getD h.toNat []).getD e.toNat 0
def elR (x n:Nat):List (List Int):=(List.range n).map fun e:Nat=>[(x:Int),(e:Int)]
def elP (f:SF) (n:Nat):List (List Int):=dR n fun x=>elR x (f.sizes.getD x 0).toNat
def elO (f:SF):List (List Int):=elP f f.sizes.length
theorem yF (x:Nat):elR x 0=[]:=rfl
theorem yE (x n:Nat):elR x (n+1)=elR x n++[[(x:Int),(n:Int)]]:=by unfold elR;rw [List.range_succ,List.map_append];rfl
theorem wR (x n:Nat):(elR x n).length=n:=by unfold elR;rw [List.length_map,List.length_range]
theorem yD (f:SF) (x:Nat):elP f (x+1)=elP f x++elR x (f.sizes.getD x 0).toNat:=fJ _ _
theorem mem_elR {x n:Nat} {r:List Int}:r∈elR x n↔∃e:Nat,e<n∧r=[(x:Int),(e:Int)]:=by
 unfold elR
 rw [List.mem_map]
 constructor
 ·rintro⟨e,he,rfl⟩;exact⟨e,List.mem_range.1 he,rfl⟩
 ·rintro⟨e,he,rfl⟩;exact⟨e,List.mem_range.2 he,rfl⟩
theorem mem_elP {f:SF} {n:Nat} {r:List Int}:r∈elP f n↔∃x e:Nat,x<n∧e<(f.sizes.getD x 0).toNat∧r=[(x:Int),(e:Int)]:=by
 unfold elP dR
 rw [List.mem_flatMap]
 constructor
 ·rintro⟨x,hx,hr⟩
  obtain⟨e,he,rfl⟩:=mem_elR.1 hr
  exact⟨x,e,List.mem_range.1 hx,he,rfl⟩
 ·rintro⟨x,e,hx,he,rfl⟩
  exact⟨x,List.mem_range.2 hx,mem_elR.2 ⟨e,he,rfl⟩⟩
theorem IsSF.elem_of {f:SF} (s:IsSF f) {r:List Int} (h:r∈elO f):f.Elem (r.getD 0 0) (r.getD 1 0)∧r=[r.getD 0 0,r.getD 1 0]:=by
 obtain⟨x,e,hx,he,rfl⟩:=mem_elP.1 h
 have h1:=s.szl
 refine⟨⟨⟨Int.natCast_nonneg x,by show(x:Int)<_;omega⟩,Int.natCast_nonneg e,?_⟩,rfl⟩
 show(e:Int)<f.sizes.getD (x:Int).toNat 0
 rw [Int.toNat_natCast]
 omega
theorem IsSF.elem_mem {f:SF} (s:IsSF f) {x e:Int} (h:f.Elem x e):[x,e]∈elO f:=by
 obtain⟨⟨x0,x1⟩,e0,e1⟩:=h
 have h1:=s.szl
 refine mem_elP.2 ⟨x.toNat,e.toNat,by omega,by omega,?_⟩
 rw [Int.toNat_of_nonneg x0,Int.toNat_of_nonneg e0]
def elH (f:SF) (O:List (List Int)) (i j:Nat):List Int:=(f.shape.hom (rw' O i 0) (rw' O j 0)).filter fun a=>decide (f.acE a (rw' O i 1)=rw' O j 1)
def elE (f:SF) (O:List (List Int)) (i j:Nat):List (List Int):=(elH f O i j).map fun a=>[(i:Int),(j:Int),a]
def elQ (f:SF) (O:List (List Int)) (i j:Nat):List (List Int):=dR i (fun i=>dR O.length fun j=>elE f O i j)++dR j fun j=>elE f O i j
def elA (f:SF):List (List Int):=elQ f (elO f) (elO f).length 0
theorem aLV {f:SF} {O:List (List Int)} {i:Nat}:elQ f O i O.length=elQ f O (i+1) 0:=by unfold elQ;rw [fJ,pC,List.append_nil]
theorem aIU {f:SF} {O:List (List Int)} {i j:Nat}:elQ f O i (j+1)=elQ f O i j++elE f O i j:=by unfold elQ;rw [fJ,List.append_assoc]
theorem aIV {f:SF} {O:List (List Int)}:elQ f O 0 0=[]:=rfl
theorem mem_elA {f:SF} {r:List Int}:r∈elA f↔∃(i j:Nat) (a:Int),i<(elO f).length∧j<(elO f).length∧a∈elH f (elO f) i j∧r=[(i:Int),(j:Int),a]:=by
 unfold elA elQ
 rw [pC,List.append_nil]
 unfold dR
 rw [List.mem_flatMap]
 constructor
 ·rintro⟨i,hi,hr⟩
  obtain⟨j,hj,hr⟩:=List.mem_flatMap.1 hr
  obtain⟨a,ha,rfl⟩:=List.mem_map.1 hr
  exact⟨i,j,a,List.mem_range.1 hi,List.mem_range.1 hj,ha,rfl⟩
 ·rintro⟨i,j,a,hi,hj,ha,rfl⟩
  exact⟨i,List.mem_range.2 hi,List.mem_flatMap.2 ⟨j,List.mem_range.2 hj,List.mem_map.2 ⟨a,ha,rfl⟩⟩⟩
theorem mem_elH {f:SF} {O:List (List Int)} {i j:Nat} {a:Int}:a∈elH f O i j↔a∈f.shape.hom (rw' O i 0) (rw' O j 0)∧f.acE a (rw' O i 1)=rw' O j 1:=by
 unfold elH
 rw [List.mem_filter,decide_eq_true_iff]
theorem tN (f:SF):(elA f).Nodup:=by
 unfold elA elQ
 rw [pC,List.append_nil]
 refine qP (fun i _=>qP (fun j _=>?_) fun j k r _ _ h1 h2=>?_) fun i k r _ _ h1 h2=>?_
 ·unfold elE List.Nodup
  rw [List.pairwise_map]
  exact List.Pairwise.imp (fun {a b} (q:a≠b) (e:[(i:Int),(j:Int),a]=[(i:Int),(j:Int),b])=>q (by simpa using e)) ((Cat.hom_nodup _ _ _).filter _)
 ·obtain⟨a,_,rfl⟩:=List.mem_map.1 h1
  obtain⟨b,_,h⟩:=List.mem_map.1 h2
  have:(k:Int)=j:=by simpa using congrArg (fun l=>l.getD 1 0) h
  omega
 ·unfold dR at h1 h2
  obtain⟨_,_,h1⟩:=List.mem_flatMap.1 h1
  obtain⟨_,_,h2⟩:=List.mem_flatMap.1 h2
  obtain⟨a,_,rfl⟩:=List.mem_map.1 h1
  obtain⟨b,_,h⟩:=List.mem_map.1 h2
  have:(k:Int)=i:=by simpa using congrArg (fun l=>l.getD 0 0) h
  omega
noncomputable def elU (f:SF) (i:Nat):List Int:=[(i:Int),(i:Int),f.shape.I (rw' (elO f) i 0)]
def elC (f:SF) (r s:List Int):List Int:=[r.getD 0 0,s.getD 1 0,f.shape.C (r.getD 2 0) (s.getD 2 0)]
noncomputable def elK (f:SF):Cat:=fN (elO f).length (elA f) (elU f) (elC f)
section
variable {f:SF}
theorem tO (s:IsSF f) {i:Nat} (hi:i<(elO f).length):f.Elem (rw' (elO f) i 0) (rw' (elO f) i 1):=(s.elem_of (aT hi)).1
theorem aQ2 (s:IsSF f) {i:Nat} (hi:i<(elO f).length):f.shape.I (rw' (elO f) i 0)∈elH f (elO f) i i:=by
 have he:=tO s hi
 exact mem_elH.2 ⟨s.cat.id_hom' he.1.1 he.1.2,SF.unitE s he⟩
theorem aIW (s:IsSF f) (h8:(elO f).length≤8) (h40:(elA f).length≤40):TabOK (elO f).length (elA f) (elU f) (elC f):=by
 refine⟨h8,h40,tN f,fun r hr=>?_,fun r hr=>?_,fun i hi=>⟨mem_elA.2 ⟨i,i,_,hi,hi,aQ2 s hi,rfl⟩,rfl,rfl⟩,fun r hr q hq hE=>?_,fun r hr=>?_,fun r hr=>?_,fun r hr q hq z hz h1 h2=>?_⟩
 ·obtain⟨i,j,a,hi,hj,_,rfl⟩:=mem_elA.1 hr
  exact⟨Int.natCast_nonneg i,by show(i:Int)<_;omega⟩
 ·obtain⟨i,j,a,hi,hj,_,rfl⟩:=mem_elA.1 hr
  exact⟨Int.natCast_nonneg j,by show(j:Int)<_;omega⟩
 ·obtain⟨i,j,a,hi,hj,ha,rfl⟩:=mem_elA.1 hr
  obtain⟨j',k,b,hj',hk,hb,rfl⟩:=mem_elA.1 hq
  obtain rfl:j=j':=by
   have hE:(j:Int)=j':=hE
   omega
  obtain⟨a1,a2⟩:=mem_elH.1 ha
  obtain⟨b1,b2⟩:=mem_elH.1 hb
  refine⟨mem_elA.2 ⟨i,k,_,hi,hk,mem_elH.2 ⟨s.cat.comp_hom a1 b1,?_⟩,rfl⟩,rfl,rfl⟩
  have:=SF.compE s (tO s hi) a1 b1
  unfold SF.acE at a2 b2⊢
  show(f.acts.getD (f.shape.C a b).toNat []).getD _ 0=_
  rw [this,a2,b2]
 ·obtain⟨i,j,a,hi,hj,ha,rfl⟩:=mem_elA.1 hr
  obtain⟨a1,a2⟩:=mem_elH.1 ha
  obtain⟨u1,u2,u3,u4⟩:=Cat.mem_hom.1 a1
  show [((i:Int).toNat:Int),(j:Int),f.shape.C (f.shape.I (rw' (elO f) (i:Int).toNat 0)) a]=[(i:Int),(j:Int),a]
  rw [Int.toNat_natCast,←u3,s.cat.unlI u1 u2]
 ·obtain⟨i,j,a,hi,hj,ha,rfl⟩:=mem_elA.1 hr
  obtain⟨a1,a2⟩:=mem_elH.1 ha
  obtain⟨u1,u2,u3,u4⟩:=Cat.mem_hom.1 a1
  show [(i:Int),((j:Int).toNat:Int),f.shape.C a (f.shape.I (rw' (elO f) (j:Int).toNat 0))]=[(i:Int),(j:Int),a]
  rw [Int.toNat_natCast,←u4,s.cat.unrI u1 u2]
 ·obtain⟨i,j,a,hi,hj,ha,rfl⟩:=mem_elA.1 hr
  obtain⟨j',k,b,hj',hk,hb,rfl⟩:=mem_elA.1 hq
  obtain⟨k',l,d,hk',hl,hd,rfl⟩:=mem_elA.1 hz
  obtain rfl:j=j':=by
   have h1:(j:Int)=j':=h1
   omega
  obtain rfl:k=k':=by
   have h2:(k:Int)=k':=h2
   omega
  show [(i:Int),(l:Int),f.shape.C (f.shape.C a b) d]=[(i:Int),(l:Int),f.shape.C a (f.shape.C b d)]
  rw [s.cat.assH (mem_elH.1 ha).1 (mem_elH.1 hb).1 (mem_elH.1 hd).1]
theorem aF8 (s:IsSF f) (h8:(elO f).length≤8) (h40:(elA f).length≤40):IsCat (elK f):=(aIW s h8 h40).cat
def kW (f:SF) (x e:Int):Prop:=∀y,y<f.shape.ob.toNat→Bij (f.sizes.getD y 0).toNat ((f.eParts x e f.shape.ob.toNat).getD y [])
theorem aF5 {x e:Int} (s:IsSF f) (h:f.Elem x e) {y:Nat} (hy:y<f.shape.ob.toNat):Within ((f.eParts x e f.shape.ob.toNat).getD y []) (f.sizes.getD y 0).toNat:=by
 intro i hi
 rw [SF.eParts_row _ _ _ _ _ hy]at hi
 rw [SF.eP_at hy hi]
 have:=SF.act_in s h (Cat.at_mem hi)
 rw [Int.toNat_natCast]at this
 omega
theorem aA9 {n:Nat} {l:List Int} (hw:Within l n):Bij n l↔∀d:Nat,d<n→(l.filter fun a=>decide (a=(d:Int))).length=1:=by
 have hnd:NdI l↔l.Nodup:=by
  unfold List.Nodup
  rw [List.pairwise_iff_getElem]
  constructor
  ·intro h i j hi hj hij
   have:=h i j hij hj (hw i hi).1
   rwa [List.getD_eq_getElem?_getD,List.getD_eq_getElem?_getD,List.getElem?_eq_getElem hi,List.getElem?_eq_getElem hj]at this
  ·intro h i j hij hj _
   have:=h i j (by omega) hj hij
   rwa [List.getD_eq_getElem?_getD,List.getD_eq_getElem?_getD,List.getElem?_eq_getElem (by omega),List.getElem?_eq_getElem hj]
 constructor
 ·intro h d hd
  obtain⟨k,hk,e⟩:=h.surj hd
  have hm:(d:Int)∈l:=by rw [←e];exact aT (by rw [h.len];exact hk)
  refine aMC (a:=(d:Int)) ((hnd.1 h.inj).filter _) (List.mem_filter.2 ⟨hm,by simp⟩) fun b hb=>?_
  have:=(List.mem_filter.1 hb).2
  simpa using this
 ·intro h
  have hN:l.Nodup:=by
   rw [List.nodup_iff_count]
   intro a
   by_cases ha:a∈l
   ·obtain⟨i,hi,rfl⟩:=fB (d:=0) ha
    obtain⟨h0,h1⟩:=hw i hi
    have:=h (l.getD i 0).toNat (by omega)
    rw [Int.toNat_of_nonneg h0]at this
    rw [List.count_eq_length_filter]
    refine Nat.le_of_eq (Eq.trans ?_ this)
    refine congrArg List.length (List.filter_congr fun b _=>?_)
    rw [Bool.eq_iff_iff];simp
   ·rw [List.count_eq_zero.2 ha];omega
  refine⟨?_,hw,hnd.2 hN⟩
  have h1:l.length≤n:=by
   have:=List.Nodup.length_le_of_subset hN (l₂:=(List.range n).map fun k:Nat=>(k:Int)) fun a ha=>by
    obtain⟨i,hi,rfl⟩:=fB (d:=0) ha
    obtain⟨h0,h1⟩:=hw i hi
    exact List.mem_map.2 ⟨(l.getD i 0).toNat,List.mem_range.2 (by omega),Int.toNat_of_nonneg h0⟩
   simpa using this
  have h2:n≤l.length:=by
   have hR:((List.range n).map fun k:Nat=>(k:Int)).Nodup:=by
    unfold List.Nodup
    rw [List.pairwise_map]
    refine List.Pairwise.imp (fun {a b} (q:a<b)=>?_) List.pairwise_lt_range
    omega
   have:=List.Nodup.length_le_of_subset hR (l₂:=l) fun a ha=>by
    obtain⟨d,hd,rfl⟩:=List.mem_map.1 ha
    have h3:=h d (List.mem_range.1 hd)
    obtain⟨b,hb⟩:∃b,b∈l.filter fun a=>decide (a=(d:Int)):=by
     cases hq:l.filter fun a=>decide (a=(d:Int))with
     |nil=>rw [hq]at h3;cases h3
     |cons b r=>exact⟨b,by simp⟩
    obtain⟨b1,b2⟩:=List.mem_filter.1 hb
    have:b=d:=by simpa using b2
    rw [←this];exact b1
   simpa using this
  omega
theorem aF7 {x e:Int} {y:Nat} {d:Int} (hy:y<f.shape.ob.toNat):((f.shape.hom x y).filter fun a=>decide (f.acE a e=d)).length=(((f.eParts x e f.shape.ob.toNat).getD y []).filter fun a=>decide (a=d)).length:=by
 rw [SF.eParts_at hy,List.filter_map,List.length_map]
 rfl
theorem aLs (s:IsSF f) {i:Nat} (hi:i<(elO f).length):kW f (rw' (elO f) i 0) (rw' (elO f) i 1)↔∀j,j<(elO f).length→(elH f (elO f) i j).length=1:=by
 have he:=tO s hi
 have hz:=s.szl
 constructor
 ·intro h j hj
  obtain⟨⟨y0,y1⟩,d0,d1⟩:=tO s hj
  have hy:(rw' (elO f) j 0).toNat<f.shape.ob.toNat:=by omega
  have:=(aA9 (aF5 s he hy)).1 (h _ hy) (rw' (elO f) j 1).toNat (by omega)
  unfold elH
  have e0:rw' (elO f) j 0=((rw' (elO f) j 0).toNat:Int):=(Int.toNat_of_nonneg y0).symm
  rw [Int.toNat_of_nonneg d0,←aF7 hy]at this
  rw [e0]
  exact this
 ·intro h y hy
  rw [aA9 (aF5 s he hy)]
  intro d hd
  have hm:[(y:Int),(d:Int)]∈elO f:=s.elem_mem ⟨⟨Int.natCast_nonneg y,by omega⟩,Int.natCast_nonneg d,by rw [Int.toNat_natCast];omega⟩
  obtain⟨j,hj,ej⟩:=List.mem_iff_getElem.1 hm
  have:=h j hj
  unfold elH rw' at this
  rw [List.getD_eq_getElem?_getD (l:=elO f) (i:=j),List.getElem?_eq_getElem hj,Option.getD_some,ej]at this
  rw [←aF7 hy]
  exact this
end
end Go.Cats
end
section
namespace Go.Cats
open Go.Eng
def jJ (c:Cat):Cat:=⟨c.ob,c.to,c.fr,c.id,(List.range c.to.length).map fun f=>(List.range c.to.length).map fun g=>if c.fr.getD f 0=c.to.getD g 0 then(c.co.getD g []).getD f 0 else-1⟩
section
variable {c:Cat}
theorem aWj (s:Shape c) {f g:Nat} (hf:f<c.fr.length) (hg:g<c.fr.length):(jJ c).C f g=if c.fr.getD f 0=c.to.getD g 0 then c.C g f else-1:=by
 have h1:=s.tol
 show((jJ c).co.getD (f:Int).toNat []).getD (g:Int).toNat 0=_
 rw [Int.toNat_natCast,Int.toNat_natCast]
 unfold jJ
 rw [List.getD_eq_getElem?_getD (l:=List.map _ _),List.getElem?_map,List.getElem?_range (by omega)]
 rw [Option.map_some,Option.getD_some,List.getD_eq_getElem?_getD,List.getElem?_map,List.getElem?_range (by omega)]
 rfl
theorem aJ1 (s:Shape c):Shape (jJ c):=by
 have h1:=s.tol
 refine⟨s.ob0,s.ob8,by show c.to.length≤40;have:=s.m40;omega,by show c.fr.length=c.to.length;omega,s.tow,s.frw,s.idl,?_,?_,fun x hx=>?_,fun f hf=>⟨?_,fun g hg=>?_⟩⟩
 ·show Within c.id c.to.length
  rw [h1];exact s.idw
 ·show((List.range c.to.length).map _).length=c.to.length
  rw [List.length_map,List.length_range]
 ·have:=s.ide x hx
  exact⟨this.2,this.1⟩
 ·have hf:f<c.to.length:=hf
  show(((List.range c.to.length).map _).getD f []).length=c.to.length
  rw [List.getD_eq_getElem?_getD,List.getElem?_map,List.getElem?_range hf]
  simp
 ·have hf:f<c.to.length:=hf
  have hg:g<c.to.length:=hg
  have hE:=(s.coe g (by omega)).2 f (by omega)
  unfold Cat.Entry at hE⊢
  rw [aWj s (by omega) (by omega)]
  have e1:(jJ c).to=c.fr:=rfl
  have e2:(jJ c).fr=c.to:=rfl
  rw [e1,e2]
  show _∨_
  rcases hE with⟨q,q1,q2,q3⟩|⟨q,q1⟩
  ·refine .inl ⟨q.symm,?_⟩
   rw [if_pos q.symm]
   exact⟨⟨q1.1,by omega⟩,q3,q2⟩
  ·exact .inr ⟨fun h=>q h.symm,if_neg fun h=>q h.symm⟩
theorem aOV (x y:Int):c.to.length=c.fr.length→(jJ c).hom y x=c.hom x y:=by
 intro h1
 unfold Cat.hom Cat.homI
 show dR c.to.length _=_
 rw [h1]
 refine aER fun i _=>?_
 show(if c.to.getD i 0=y∧c.fr.getD i 0=x then _ else _)=_
 by_cases h:c.fr.getD i 0=x∧c.to.getD i 0=y
 ·rw [if_pos h,if_pos ⟨h.2,h.1⟩]
 ·rw [if_neg h,if_neg fun q=>h ⟨q.2,q.1⟩]
end
section
variable {f:SF}
theorem aLU {i j:Nat} (hi:i<(elO f).length) (hj:j<(elO f).length):((elK f).hom i j).length=(elH f (elO f) i j).length:=by
 have hm:(elK f).fr.length=(elA f).length:=aGP
 have hn:=tN f
 have hinj:∀a b,a∈(elK f).hom i j→b∈(elK f).hom i j→rw' (elA f) a.toNat 2=rw' (elA f) b.toNat 2→a=b:=by
  intro a b ha hb e
  obtain⟨a0,a1,a2,a3⟩:=Cat.mem_hom.1 ha
  obtain⟨b0,b1,b2,b3⟩:=Cat.mem_hom.1 hb
  obtain⟨a,rfl⟩:=Int.eq_ofNat_of_zero_le a0
  obtain⟨b,rfl⟩:=Int.eq_ofNat_of_zero_le b0
  have ha':a<(elA f).length:=by omega
  have hb':b<(elA f).length:=by omega
  rw [show(elK f).F (a:Int)=_ from qB ha']at a2
  rw [show(elK f).T (a:Int)=_ from qC ha']at a3
  rw [show(elK f).F (b:Int)=_ from qB hb']at b2
  rw [show(elK f).T (b:Int)=_ from qC hb']at b3
  rw [Int.toNat_natCast,Int.toNat_natCast]at e
  obtain⟨i1,j1,u,_,_,_,e1⟩:=mem_elA.1 (aT (d:=[]) ha')
  obtain⟨i2,j2,v,_,_,_,e2⟩:=mem_elA.1 (aT (d:=[]) hb')
  unfold rw' at e
  rw [e1]at a2 a3 e
  rw [e2]at b2 b3 e
  have q1:(i1:Int)=i:=a2
  have q2:(j1:Int)=j:=a3
  have q3:(i2:Int)=i:=b2
  have q4:(j2:Int)=j:=b3
  have q5:u=v:=e
  have:(elA f).getD a []=(elA f).getD b []:=by rw [e1,e2,q1,q2,q3,q4,q5]
  have h1:=yL hn ha'
  have h2:=yL hn hb'
  rw [this,h2]at h1
  exact h1.symm
 have hnd:(((elK f).hom i j).map fun a=>rw' (elA f) a.toNat 2).Nodup:=by
  unfold List.Nodup
  rw [List.pairwise_map]
  exact List.Pairwise.imp_of_mem (fun {a b} ha hb (q:a≠b) e=>q (hinj a b ha hb e)) (Cat.hom_nodup _ _ _)
 have hmem:∀z,z∈((elK f).hom i j).map (fun a=>rw' (elA f) a.toNat 2)↔z∈elH f (elO f) i j:=by
  intro z
  rw [List.mem_map]
  constructor
  ·rintro⟨a,ha,rfl⟩
   obtain⟨a0,a1,a2,a3⟩:=Cat.mem_hom.1 ha
   obtain⟨a,rfl⟩:=Int.eq_ofNat_of_zero_le a0
   have ha':a<(elA f).length:=by omega
   rw [show(elK f).F (a:Int)=_ from qB ha']at a2
   rw [show(elK f).T (a:Int)=_ from qC ha']at a3
   obtain⟨i1,j1,u,_,_,hu,e1⟩:=mem_elA.1 (aT (d:=[]) ha')
   rw [Int.toNat_natCast]
   unfold rw'
   rw [e1]at a2 a3⊢
   have q1:(i1:Int)=i:=a2
   have q2:(j1:Int)=j:=a3
   obtain rfl:i1=i:=by omega
   obtain rfl:j1=j:=by omega
   exact hu
  ·intro hz
   obtain⟨k,hk,e⟩:=fB (d:=[]) (mem_elA.2 ⟨i,j,z,hi,hj,hz,rfl⟩)
   refine⟨(k:Int),Cat.mem_hom.2 ⟨Int.natCast_nonneg k,by omega,?_,?_⟩,?_⟩
   ·rw [show(elK f).F (k:Int)=_ from qB hk,e];rfl
   ·rw [show(elK f).T (k:Int)=_ from qC hk,e];rfl
   ·rw [Int.toNat_natCast];unfold rw';rw [e];rfl
 have hH:(elH f (elO f) i j).Nodup:=(Cat.hom_nodup _ _ _).filter _
 have h1:=List.Nodup.length_le_of_subset hnd fun z hz=>(hmem z).1 hz
 have h2:=List.Nodup.length_le_of_subset hH fun z hz=>(hmem z).2 hz
 rw [List.length_map]at h1 h2
 omega
open Classical in
noncomputable def aAG (f:SF) (p:List Int):Bool:=decide (kW f (p.getD 0 0) (p.getD 1 0))
noncomputable def rK (f:SF):List (List Int):=(elO f).filter (aAG f)
theorem aNg (s:IsSF f) (h8:(elO f).length≤8) (h40:(elA f).length≤40):
  (aA4 (jJ (elK f))).length=(rK f).length∧∀i,i<(rK f).length→∃k:Nat,(aA4 (jJ (elK f))).getD i 0=k∧k<(elO f).length∧(elO f).getD k []=(rK f).getD i []:=by
 have hc:=aF8 s h8 h40
 have key:∀n,n≤(elO f).length→(oW (jJ (elK f)) n).map (fun k=>(elO f).getD k.toNat [])=((elO f).take n).filter (aAG f):=by
  intro n
  induction n with
  |zero=>intro _;rfl
  |succ n ih=>
   intro hn
   have ih:=ih (by omega)
   unfold oW at ih⊢
   rw [fJ,List.map_append,ih,List.take_succ_eq_append_getElem (by omega),List.filter_append]
   congr 1
   have hg:(elO f)[n]'(by omega)=(elO f).getD n []:=by rw [List.getD_eq_getElem?_getD,List.getElem?_eq_getElem (by omega)];rfl
   rw [hg]
   have hiff:aBX (jJ (elK f)) n↔kW f (((elO f).getD n []).getD 0 0) (((elO f).getD n []).getD 1 0):=by
    rw [show kW f (((elO f).getD n []).getD 0 0) (((elO f).getD n []).getD 1 0)↔_ from aLs s (show n<(elO f).length by omega)]
    unfold aBX
    have ho:(jJ (elK f)).ob.toNat=(elO f).length:=Int.toNat_natCast _
    rw [ho]
    refine forall_congr' fun y=>forall_congr' fun hy=>?_
    rw [aOV _ _ hc.toShape.tol,aLU (by omega) hy]
   by_cases q:aBX (jJ (elK f)) n
   ·rw [if_pos q]
    rw [List.filter_cons_of_pos (show aAG f ((elO f).getD n [])=true from @decide_eq_true _ (Classical.propDecidable _) (hiff.1 q)),List.filter_nil]
    rfl
   ·rw [if_neg q]
    rw [List.filter_cons_of_neg (fun h:aAG f ((elO f).getD n [])=true=>q (hiff.2 (@of_decide_eq_true _ (Classical.propDecidable _) h))),List.filter_nil]
    rfl
 have hk:=key _ (Nat.le_refl _)
 rw [List.take_length]at hk
 have hT:oW (jJ (elK f)) (elO f).length=aA4 (jJ (elK f)):=by
  unfold aA4
  rw [show(jJ (elK f)).ob.toNat=(elO f).length from Int.toNat_natCast _]
 rw [hT]at hk
 have hU:(aA4 (jJ (elK f))).map (fun k=>(elO f).getD k.toNat [])=rK f:=hk
 have hl:(aA4 (jJ (elK f))).length=(rK f).length:=by rw [←hU,List.length_map]
 refine⟨hl,fun i hi=>?_⟩
 have hm:(aA4 (jJ (elK f))).getD i 0∈aA4 (jJ (elK f)):=aT (by omega)
 rw [←hT]at hm
 obtain⟨k,hk1,_,hk2⟩:=mem_trm.1 hm
 rw [hT]at hk2
 refine⟨k,hk2,hk1,?_⟩
 rw [←hU,List.getD_eq_getElem?_getD (l:=List.map _ _),List.getElem?_map,List.getElem?_eq_getElem (by omega)]
 rw [List.getD_eq_getElem?_getD,List.getElem?_eq_getElem (by omega)]at hk2
 simp only [Option.getD_some,Option.map_some]at hk2⊢
 rw [hk2,Int.toNat_natCast]
end
end Go.Cats
end
section
namespace Go.Cats
section
variable {c:Cat} {O:List Int} {x:Int} {k h:Nat}
def frA (c:Cat) (O:List Int) (x:Int):Nat→List (List Int)
 |0=>[]
 |k+1=>frA c O x k++(c.hom (O.getD k 0) x).map fun f=>[(k:Int),f]
def frB (c:Cat) (O:List Int) (x:Int) (k h:Nat):List (List Int):=frA c O x k++(c.homI (O.getD k 0) x h).map fun f=>[(k:Int),f]
theorem yO:frB c O x k 0=frA c O x k:=by unfold frB;rw [Cat.homI_zero,List.map_nil,List.append_nil]
theorem aL7:frB c O x k c.fr.length=frA c O x (k+1):=rfl
theorem aL8 (h1:c.fr.getD h 0=O.getD k 0) (h2:c.to.getD h 0=x):frB c O x k (h+1)=frB c O x k h++[[(k:Int),(h:Int)]]:=by
 unfold frB
 rw [Cat.homI_succ,if_pos ⟨h1,h2⟩,List.map_append,List.append_assoc];rfl
theorem aDp (h1:¬(c.fr.getD h 0=O.getD k 0∧c.to.getD h 0=x)):frB c O x k (h+1)=frB c O x k h:=by
 unfold frB
 rw [Cat.homI_succ,if_neg h1,List.append_nil]
theorem aCg:(frA c O x k).length≤k*c.fr.length:=by
 induction k with
 |zero=>simp [frA]
 |succ k ih=>
  have:=c.hom_len (O.getD k 0) x
  rw [frA,List.length_append,List.length_map,Nat.succ_mul]
  omega
theorem aL9:(frB c O x k h).length≤k*c.fr.length+h:=by
 unfold frB
 rw [List.length_append,List.length_map]
 have:=aCg (c:=c) (O:=O) (x:=x) (k:=k)
 have:=c.homI_len (O.getD k 0) x h
 omega
theorem mem_frA {p:List Int}:p∈frA c O x k↔∃(j:Nat) (f:Int),j<k∧p=[(j:Int),f]∧f∈c.hom (O.getD j 0) x:=by
 induction k with
 |zero=>simp [frA]
 |succ k ih=>
  rw [frA,List.mem_append,ih,List.mem_map]
  constructor
  ·rintro(⟨j,f,h1,h2,h3⟩|⟨f,h1,rfl⟩)
   ·exact⟨j,f,by omega,h2,h3⟩
   ·exact⟨k,f,by omega,rfl,h1⟩
  ·rintro⟨j,f,h1,h2,h3⟩
   by_cases e:j=k
   ·subst e;exact .inr ⟨f,h3,h2.symm⟩
   ·exact .inl ⟨j,f,by omega,h2,h3⟩
def frT (c:Cat) (O:List Int) (k h:Nat):List (List (List Int)):=(List.range c.ob.toNat).map fun y:Nat=>frB c O y k h
theorem iS:(frT c O k h).length=c.ob.toNat:=by unfold frT;rw [List.length_map,List.length_range]
theorem wV {y:Nat} (hy:y<c.ob.toNat):(frT c O k h).getD y []=frB c O y k h:=by
 unfold frT;rw [List.getD_eq_getElem?_getD,List.getElem?_map,List.getElem?_range hy];rfl
theorem qV {i:Nat} (hi:i<(frT c O k h).length):(frT c O k h)[i]=frB c O i k h:=by
 have h1:i<c.ob.toNat:=by have:=hi;rwa [iS]at this
 have h2:=wV (c:=c) (O:=O) (k:=k) (h:=h) h1
 rw [List.getD_eq_getElem?_getD,List.getElem?_eq_getElem hi]at h2
 exact h2
theorem aI9:frT c O 0 0=List.replicate c.ob.toNat []:=by
 refine List.ext_getElem (by rw [iS,List.length_replicate]) fun i h1 h2=>?_
 rw [List.getElem_replicate,qV,yO];rfl
theorem aI8:frT c O k c.fr.length=frT c O (k+1) 0:=by
 refine List.ext_getElem (by rw [iS,iS]) fun i h1 h2=>?_
 rw [qV,qV,yO,aL7]
theorem aI7 (n:¬c.fr.getD h 0=O.getD k 0):frT c O k (h+1)=frT c O k h:=by
 refine List.ext_getElem (by rw [iS,iS]) fun i h1 h2=>?_
 rw [qV,qV,aDp fun q=>n q.1]
theorem aMc (e:c.fr.getD h 0=O.getD k 0) (h0:0≤c.to.getD h 0) (h1:c.to.getD h 0<c.ob):
  frT c O k (h+1)=(frT c O k h).set (c.to.getD h 0).toNat ((frT c O k h).getD (c.to.getD h 0).toNat []++[[(k:Int),(h:Int)]]):=by
 rw [wV (by omega)]
 refine List.ext_getElem (by rw [iS,List.length_set,iS]) fun i i1 i2=>?_
 rw [List.getElem_set,qV]
 split
 ·rename_i q
  rw [←q,aL8 e (by omega)]
 ·rename_i q
  rw [qV]
  exact aDp fun r=>q (by omega)
structure Loose (f:SF):Prop where
 shape:Shape f.shape
 szl:f.sizes.length=f.shape.ob.toNat
 szw:∀x,x<f.sizes.length→0≤f.sizes.getD x 0∧f.sizes.getD x 0≤1000
 acl:f.acts.length=f.shape.fr.length
 act:∀a,a<f.acts.length→((f.acts.getD a []).length:Int)=f.sizes.getD (f.shape.fr.getD a 0).toNat 0∧Within (f.acts.getD a []) (f.sizes.getD (f.shape.to.getD a 0).toNat 0)
theorem Loose.b {f:SF} (h:Loose f) (hb:CatB f.shape):SFB f:=by
 have s8:=h.shape.ob8
 have s40:=h.shape.m40
 refine⟨hb,by rw [h.szl];omega,by rw [h.acl];omega,fun a ha=>?_⟩
 have h1:=(h.act a ha).1
 have ha':a<f.shape.fr.length:=by rw [←h.acl];exact ha
 have f1:=h.shape.frw a ha'
 have:=h.szw (f.shape.fr.getD a 0).toNat (by rw [h.szl];omega)
 omega
end
end Go.Cats
end
section
namespace Go.Cats
def aDg (L:List Int) (n:Nat):Nat→Nat
 |0=>0
 |i+1=>aDg L n i+(List.range n).countP fun j=>decide (L.getD i 0≠L.getD j 0)
def dif (L:List Int):Nat:=aDg L L.length L.length
section
variable {L M:List Int} {n:Nat}
theorem aF3 (h:∀i j,i<n→j<n→L.getD i 0=L.getD j 0→M.getD i 0=M.getD j 0):∀i,i≤n→aDg M n i≤aDg L n i
 |0,_=>Nat.le_refl _
 |i+1,hi=>by
  have ih:=aF3 h i (by omega)
  have:(List.range n).countP (fun j=>decide (M.getD i 0≠M.getD j 0))≤(List.range n).countP fun j=>decide (L.getD i 0≠L.getD j 0):=
   List.countP_mono_left fun j hj e=>by
    rw [decide_eq_true_eq]at e⊢
    exact fun q=>e (h i j (by omega) (List.mem_range.1 hj) q)
  simp only [aDg]
  omega
theorem aF4 (h:∀i j,i<n→j<n→L.getD i 0=L.getD j 0→M.getD i 0=M.getD j 0) {u v:Nat} (hu:u<n) (hv:v<n) (h1:L.getD u 0≠L.getD v 0) (h2:M.getD u 0=M.getD v 0):∀i,i≤n→u<i→aDg M n i<aDg L n i
 |0,_,q=>by omega
 |i+1,hi,q=>by
  have key:∀l:List Nat,(∀j∈l,j<n)→l.countP (fun j=>decide (M.getD i 0≠M.getD j 0))≤l.countP fun j=>decide (L.getD i 0≠L.getD j 0):=fun l hl=>
   List.countP_mono_left fun j hj e=>by
    rw [decide_eq_true_eq]at e⊢
    exact fun q=>e (h i j (by omega) (hl j hj) q)
  simp only [aDg]
  by_cases e:u=i
  ·subst e
   have ih:=aF3 h u (by omega)
   have lt:∀l:List Nat,(∀j∈l,j<n)→v∈l→l.countP (fun j=>decide (M.getD u 0≠M.getD j 0))<l.countP fun j=>decide (L.getD u 0≠L.getD j 0):=by
    intro l
    induction l with
    |nil=>intro _ hm;cases hm
    |cons a l ihl=>
     intro hl hm
     rw [List.countP_cons,List.countP_cons]
     have k:=key l fun j hj=>hl j (List.mem_cons_of_mem _ hj)
     rcases List.mem_cons.1 hm with rfl|hm
     ·rw [if_neg (by simpa using h2),if_pos (by simpa using h1)];omega
     ·have:=ihl (fun j hj=>hl j (List.mem_cons_of_mem _ hj)) hm
      have ha:=hl a List.mem_cons_self
      by_cases e:L.getD u 0=L.getD a 0
      ·have:=h u a (by omega) ha e
       rw [if_neg (by simpa using this),if_neg (by simpa using e)];omega
      ·rw [if_pos (c:=decide (L.getD u 0≠L.getD a 0)=true) (by simpa using e)]
       split<;>omega
   have:=lt (List.range n) (fun j hj=>List.mem_range.1 hj) (List.mem_range.2 hv)
   omega
  ·have ih:=aF4 h hu hv h1 h2 i (by omega) (by omega)
   have:=key (List.range n) fun j hj=>List.mem_range.1 hj
   omega
theorem aOm (hl:M.length=L.length) (h:∀i j,i<L.length→j<L.length→L.getD i 0=L.getD j 0→M.getD i 0=M.getD j 0) {u v:Nat} (hu:u<L.length) (hv:v<L.length) (h1:L.getD u 0≠L.getD v 0) (h2:M.getD u 0=M.getD v 0):dif M<dif L:=by
 unfold dif
 rw [hl]
 exact aF4 h hu hv h1 h2 _ (Nat.le_refl _) hu
end
def mes:List (List Int)→Nat
 |[]=>0
 |L::r=>dif L+mes r
theorem aGn {M:List Int}:∀{Cs:List (List Int)} {y:Nat},y<Cs.length→dif M<dif (Cs.getD y [])→mes (Cs.set y M)<mes Cs
 |[],y,hy,_=>absurd hy (Nat.not_lt_zero _)
 |L::r,0,_,h=>by
  have h:dif M<dif L:=h
  show dif M+mes r<dif L+mes r
  omega
 |L::r,y+1,hy,h=>by
  have:=aGn (Cs:=r) (y:=y) (Nat.lt_of_succ_lt_succ hy) h
  show dif L+mes (r.set y M)<dif L+mes r
  omega
end Go.Cats
end
section
namespace Go.Cats
def mE (R:List (List Int)) (i j:Nat):Int:=(R.getD i []).getD j 0
def bY (R:List (List Int)) (i:Nat):Nat→List (List Int)
 |0=>[]
 |k+1=>if mE R i k=1 then bY R i k++[[(i:Int),(k:Int)]]else bY R i k
def poA (R:List (List Int)) (n:Nat):Nat→List (List Int)
 |0=>[]
 |i+1=>poA R n i++bY R i n
structure PoOK (R:List (List Int)) (n:Nat):Prop where
 n6:n≤6
 rf:∀i,i<n→mE R i i=1
 tr:∀i j k,i<n→j<n→k<n→mE R i j=1→mE R j k=1→mE R i k=1
def poU (i:Nat):List Int:=[(i:Int),(i:Int)]
def poP (r s:List Int):List Int:=[r.getD 0 0,s.getD 1 0]
def poC (R:List (List Int)) (n:Nat):Cat:=fN n (poA R n n) poU poP
def poN (R:List (List Int)) (n i k:Nat):Int:=(((poA R n i).length+(bY R i k).length:Nat):Int)
section
variable {R:List (List Int)} {n m i j k:Nat} {x:List Int}
theorem jQ (h:mE R i k=1):bY R i (k+1)=bY R i k++[[(i:Int),(k:Int)]]:=by rw [bY,if_pos h]
theorem sK (h:¬mE R i k=1):bY R i (k+1)=bY R i k:=by rw [bY,if_neg h]
theorem zG:∀k,(bY R i k).length≤k
 |0=>Nat.le_refl 0
 |k+1=>by
  have:=zG k
  unfold bY
  split
  ·rw [List.length_append];simp;omega
  ·omega
theorem zE:∀m,(poA R n m).length≤m*n
 |0=>by simp [poA]
 |m+1=>by
  have h1:=zE m
  have h2:=zG (R:=R) (i:=m) n
  unfold poA
  rw [List.length_append,Nat.succ_mul]
  omega
theorem pI:∀k,x∈bY R i k↔∃j,j<k∧mE R i j=1∧x=[(i:Int),(j:Int)]
 |0=>by simp [bY]
 |k+1=>by
  have ih:=pI k
  by_cases h:mE R i k=1
  ·rw [jQ h,List.mem_append,ih,List.mem_singleton]
   constructor
   ·rintro(⟨j,h1,h2,h3⟩|h1)
    ·exact⟨j,by omega,h2,h3⟩
    ·exact⟨k,by omega,h,h1⟩
   ·rintro⟨j,h1,h2,h3⟩
    rcases Nat.lt_or_ge j k with hj|hj
    ·exact .inl ⟨j,hj,h2,h3⟩
    ·exact .inr (by rw [h3,show j=k by omega])
  ·rw [sK h,ih]
   constructor
   ·rintro⟨j,h1,h2,h3⟩;exact⟨j,by omega,h2,h3⟩
   ·rintro⟨j,h1,h2,h3⟩
    rcases Nat.lt_or_ge j k with hj|hj
    ·exact⟨j,hj,h2,h3⟩
    ·exact absurd h2 (by rw [show j=k by omega];exact h)
theorem gM:∀m,x∈poA R n m↔∃i j,i<m∧j<n∧mE R i j=1∧x=[(i:Int),(j:Int)]
 |0=>by simp [poA]
 |m+1=>by
  have ih:=gM m
  rw [poA,List.mem_append,ih,pI]
  constructor
  ·rintro(⟨i,j,h1,h2⟩|⟨j,h1,h2⟩)
   ·exact⟨i,j,by omega,h2⟩
   ·exact⟨m,j,by omega,h1,h2⟩
  ·rintro⟨i,j,h1,h2,h3⟩
   rcases Nat.lt_or_ge i m with hi|hi
   ·exact .inl ⟨i,j,hi,h2,h3⟩
   ·exact .inr ⟨j,h2,by rw [←show i=m by omega];exact h3⟩
theorem aDT:∀k,(bY R i k).Nodup
 |0=>List.nodup_nil
 |k+1=>by
  have ih:=aDT k
  by_cases h:mE R i k=1
  ·rw [jQ h,List.nodup_append]
   refine⟨ih,by simp,fun a ha b hb e=>?_⟩
   rw [List.mem_singleton]at hb
   subst e hb
   obtain⟨j,h1,_,h3⟩:=(pI k).1 ha
   simp at h3;omega
  ·rw [sK h];exact ih
theorem aFk:∀m,(poA R n m).Nodup
 |0=>List.nodup_nil
 |m+1=>by
  rw [poA,List.nodup_append]
  refine⟨aFk m,aDT n,fun a ha b hb e=>?_⟩
  subst e
  obtain⟨i,j,h1,_,_,h3⟩:=(gM m).1 ha
  obtain⟨j',_,_,h4⟩:=(pI n).1 hb
  rw [h3]at h4
  simp at h4;omega
theorem aBx:∀k,j<k→mE R i j=1→∃r,bY R i k=bY R i j++[[(i:Int),(j:Int)]]++r
 |0,h,_=>absurd h (Nat.not_lt_zero j)
 |k+1,h,hj=>by
  rcases Nat.lt_or_ge j k with h1|h1
  ·obtain⟨r,e⟩:=aBx k h1 hj
   by_cases hk:mE R i k=1
   ·exact⟨r++[[(i:Int),(k:Int)]],by rw [jQ hk,e,List.append_assoc]⟩
   ·exact⟨r,by rw [sK hk,e]⟩
  ·obtain rfl:j=k:=by omega
   exact⟨[],by rw [jQ hj,List.append_nil]⟩
theorem aGs:∀m,i<m→∃r,poA R n m=poA R n i++bY R i n++r
 |0,h=>absurd h (Nat.not_lt_zero i)
 |m+1,h=>by
  rcases Nat.lt_or_ge i m with h1|h1
  ·obtain⟨r,e⟩:=aGs m h1
   exact⟨r++bY R m n,by rw [poA,e,List.append_assoc]⟩
  ·obtain rfl:i=m:=by omega
   exact⟨[],by rw [poA,List.append_nil]⟩
theorem aGt (hi:i<n) (hj:j<n) (h:mE R i j=1):fnd (poA R n n) [(i:Int),(j:Int)]=poN R n i j:=by
 obtain⟨r,e1⟩:=aGs n hi
 obtain⟨q,e2⟩:=aBx n hj h
 have e:poA R n n=(poA R n i++bY R i j)++[(i:Int),(j:Int)]::(q++r):=by rw [e1,e2];simp
 have hl:(poA R n i++bY R i j).length<(poA R n n).length:=by rw [e,List.length_append];simp
 have h1:=yL (aFk (R:=R) (n:=n) n) hl
 have h2:(poA R n n).getD (poA R n i++bY R i j).length []=[(i:Int),(j:Int)]:=by
  rw [List.getD_eq_getElem?_getD,e,List.getElem?_append_right (Nat.le_refl _),Nat.sub_self];rfl
 rw [h2]at h1
 rw [h1,List.length_append];rfl
theorem PoOK.tab (h:PoOK R n):TabOK n (poA R n n) poU poP:=by
 have h6:=h.n6
 have hl:=zE (R:=R) (n:=n) n
 have hnn:n*n≤6*6:=Nat.mul_le_mul h6 h6
 refine⟨by omega,by omega,aFk n,fun r hr=>?_,fun r hr=>?_,fun i hi=>⟨?_,rfl,rfl⟩,fun r hr s hs e=>?_,fun r hr=>?_,fun r hr=>?_,fun r hr s hs q hq e1 e2=>rfl⟩
 ·obtain⟨i,j,h1,h2,h3,rfl⟩:=(gM n).1 hr
  show(0:Int)≤i∧(i:Int)<n;omega
 ·obtain⟨i,j,h1,h2,h3,rfl⟩:=(gM n).1 hr
  show(0:Int)≤j∧(j:Int)<n;omega
 ·exact(gM n).2 ⟨i,i,hi,hi,h.rf i hi,rfl⟩
 ·obtain⟨i,j,h1,h2,h3,rfl⟩:=(gM n).1 hr
  obtain⟨i',k,h4,h5,h7,rfl⟩:=(gM n).1 hs
  have e':(j:Int)=i':=e
  obtain rfl:j=i':=by omega
  exact⟨(gM n).2 ⟨i,k,h1,h5,h.tr i j k h1 h2 h5 h3 h7,rfl⟩,rfl,rfl⟩
 ·obtain⟨i,j,h1,h2,h3,rfl⟩:=(gM n).1 hr
  show [(((i:Int).toNat:Nat):Int),(j:Int)]=_
  rw [Int.toNat_natCast]
 ·obtain⟨i,j,h1,h2,h3,rfl⟩:=(gM n).1 hr
  show [(i:Int),(((j:Int).toNat:Nat):Int)]=_
  rw [Int.toNat_natCast]
theorem PoOK.cat (h:PoOK R n):IsCat (poC R n):=h.tab.cat
theorem PoOK.len (h:PoOK R n):(poA R n n).length≤36:=by
 have hl:=zE (R:=R) (n:=n) n
 have hnn:n*n≤6*6:=Nat.mul_le_mul h.n6 h.n6
 omega
end
end Go.Cats
end
section
namespace Go.Cats
def shI (m:Nat) (h:Int):Int:=if 0≤h then h+m else h
def smC (c d:Cat):Cat:=⟨c.ob+d.ob,c.fr++d.fr.map (· +c.ob),c.to++d.to.map (· +c.ob),c.id++d.id.map (· +(c.fr.length:Int)),
 c.co.map (fun r=>r++List.replicate d.fr.length (-1))++d.co.map (fun r=>List.replicate c.fr.length (-1)++r.map (shI c.fr.length))⟩
section
variable {c d:Cat} {x y:Int}
theorem aFU {l k:List Int} (h0:0≤x) (h1:x<l.length):(l++k).getD x.toNat 0=l.getD x.toNat 0:=by
 rw [List.getD_eq_getElem?_getD,List.getElem?_append_left (by omega),←List.getD_eq_getElem?_getD]
theorem aFV {l k:List Int} {g:Int→Int} (h0:0≤y) (h1:y<k.length):(l++k.map g).getD ((l.length:Int)+y).toNat 0=g (k.getD y.toNat 0):=by
 have e:((l.length:Int)+y).toNat=l.length+y.toNat:=by omega
 rw [e,List.getD_eq_getElem?_getD,List.getElem?_append_right (by omega),Nat.add_sub_cancel_left,List.getElem?_map,List.getElem?_eq_getElem (by omega),List.getD_eq_getElem?_getD,List.getElem?_eq_getElem (by omega)]
 rfl
theorem aKA {n k:Nat} (h:k<n):(List.replicate n (-1:Int)).getD k 0= -1:=by
 rw [List.getD_eq_getElem?_getD,List.getElem?_replicate,if_pos h];rfl
theorem zP:(smC c d).fr.length=c.fr.length+d.fr.length:=by unfold smC;rw [List.length_append,List.length_map]
theorem oM (h0:0≤x) (h1:x<c.fr.length):(smC c d).F x=c.F x:=aFU h0 h1
theorem oN (h0:0≤y) (h1:y<d.fr.length):(smC c d).F ((c.fr.length:Int)+y)=d.F y+c.ob:=aFV (g:=(· +c.ob)) h0 h1
theorem oO (sc:Shape c) (h0:0≤x) (h1:x<c.fr.length):(smC c d).T x=c.T x:=aFU h0 (by rw [sc.tol];exact h1)
theorem oP (sc:Shape c) (sd:Shape d) (h0:0≤y) (h1:y<d.fr.length):(smC c d).T ((c.fr.length:Int)+y)=d.T y+c.ob:=by
 have:=aFV (l:=c.to) (k:=d.to) (g:=(· +c.ob)) h0 (by rw [sd.tol];exact h1)
 rw [sc.tol]at this
 exact this
theorem aGJ (sc:Shape c) (h0:0≤x) (h1:x<c.ob):(smC c d).I x=c.I x:=aFU h0 (by rw [sc.idl];exact h1)
theorem aGK (sc:Shape c) (sd:Shape d) (h0:0≤y) (h1:y<d.ob):(smC c d).I (c.ob+y)=d.I y+c.fr.length:=by
 have:=aFV (l:=c.id) (k:=d.id) (g:=(· +(c.fr.length:Int))) h0 (by rw [sd.idl];exact h1)
 rw [sc.idl]at this
 exact this
theorem aKU (sc:Shape c) (h0:0≤x) (h1:x<c.fr.length):(smC c d).co.getD x.toNat []=c.co.getD x.toNat []++List.replicate d.fr.length (-1):=by
 have hl:x.toNat<c.co.length:=by rw [sc.col];omega
 unfold smC
 rw [List.getD_eq_getElem?_getD,List.getElem?_append_left (by rw [List.length_map];exact hl),List.getElem?_map,List.getElem?_eq_getElem hl,List.getD_eq_getElem?_getD,List.getElem?_eq_getElem hl];rfl
theorem aKV (sc:Shape c) (sd:Shape d) (h0:0≤y) (h1:y<d.fr.length):(smC c d).co.getD ((c.fr.length:Int)+y).toNat []=List.replicate c.fr.length (-1)++(d.co.getD y.toNat []).map (shI c.fr.length):=by
 have hl:y.toNat<d.co.length:=by rw [sd.col];omega
 have e:((c.fr.length:Int)+y).toNat=c.fr.length+y.toNat:=by omega
 unfold smC
 rw [e,List.getD_eq_getElem?_getD,List.getElem?_append_right (by rw [List.length_map,sc.col];omega),List.length_map,sc.col,Nat.add_sub_cancel_left,List.getElem?_map,List.getElem?_eq_getElem hl,List.getD_eq_getElem?_getD,List.getElem?_eq_getElem hl];rfl
theorem rF (sc:Shape c) (h0:0≤x) (h1:x<c.fr.length) (k0:0≤y) (k1:y<c.fr.length):(smC c d).C x y=c.C x y:=by
 have h:=(sc.coe x.toNat (by omega)).1
 show(((smC c d).co.getD x.toNat []).getD y.toNat 0)=_
 rw [aKU sc h0 h1]
 exact aFU k0 (by rw [h];exact k1)
theorem aPo (sc:Shape c) (h0:0≤x) (h1:x<c.fr.length) (k0:0≤y) (k1:y<d.fr.length):(smC c d).C x ((c.fr.length:Int)+y)= -1:=by
 have h:=(sc.coe x.toNat (by omega)).1
 show(((smC c d).co.getD x.toNat []).getD _ 0)=_
 have e:((c.fr.length:Int)+y).toNat=c.fr.length+y.toNat:=by omega
 rw [aKU sc h0 h1,e,List.getD_eq_getElem?_getD,List.getElem?_append_right (by omega),h,Nat.add_sub_cancel_left,←List.getD_eq_getElem?_getD,aKA (by omega)]
theorem aPp (sc:Shape c) (sd:Shape d) (h0:0≤x) (h1:x<d.fr.length) (k0:0≤y) (k1:y<c.fr.length):(smC c d).C ((c.fr.length:Int)+x) y= -1:=by
 show(((smC c d).co.getD _ []).getD y.toNat 0)=_
 rw [aKV sc sd h0 h1,List.getD_eq_getElem?_getD,List.getElem?_append_left (by rw [List.length_replicate];omega),←List.getD_eq_getElem?_getD,aKA (by omega)]
theorem aKT (sc:Shape c) (sd:Shape d) (h0:0≤x) (h1:x<d.fr.length) (k0:0≤y) (k1:y<d.fr.length):(smC c d).C ((c.fr.length:Int)+x) ((c.fr.length:Int)+y)=shI c.fr.length (d.C x y):=by
 have h:=(sd.coe x.toNat (by omega)).1
 show(((smC c d).co.getD _ []).getD _ 0)=_
 rw [aKV sc sd h0 h1]
 have:=aFV (y:=y) (l:=List.replicate c.fr.length (-1)) (k:=d.co.getD x.toNat []) (g:=shI c.fr.length) k0 (by rw [h];exact k1)
 rw [List.length_replicate]at this
 exact this
theorem dM {f:Nat} (h:f<c.fr.length+d.fr.length):(0≤(f:Int)∧(f:Int)<c.fr.length)∨∃y:Int,0≤y∧y<d.fr.length∧(f:Int)=(c.fr.length:Int)+y:=by
 rcases Nat.lt_or_ge f c.fr.length with h1|h1
 ·exact .inl ⟨by omega,by omega⟩
 ·exact .inr ⟨(f:Int)-c.fr.length,by omega,by omega,by omega⟩
theorem aCB (hc:IsCat c) (hd:IsCat d) (h8:c.ob+d.ob≤8) (h40:c.fr.length+d.fr.length≤40):IsCat (smC c d):=by
 have sc:=hc.toShape
 have sd:=hd.toShape
 have e1:=sc.idl
 have e2:=sd.idl
 have o1:=sc.ob0
 have o2:=sd.ob0
 have cF:∀z:Int,0≤z→z<c.fr.length→0≤c.F z∧c.F z<c.ob:=fun z h0 h1=>sc.frw z.toNat (by omega)
 have cT:∀z:Int,0≤z→z<c.fr.length→0≤c.T z∧c.T z<c.ob:=fun z h0 h1=>sc.tow z.toNat (by rw [sc.tol];omega)
 have dF:∀z:Int,0≤z→z<d.fr.length→0≤d.F z∧d.F z<d.ob:=fun z h0 h1=>sd.frw z.toNat (by omega)
 have dT:∀z:Int,0≤z→z<d.fr.length→0≤d.T z∧d.T z<d.ob:=fun z h0 h1=>sd.tow z.toNat (by rw [sd.tol];omega)
 have hid:(smC c d).id.length=c.id.length+d.id.length:=by unfold smC;rw [List.length_append,List.length_map]
 have hto:(smC c d).to.length=c.fr.length+d.fr.length:=by unfold smC;rw [List.length_append,List.length_map,sc.tol,sd.tol]
 have sI:∀i:Nat,i<(smC c d).id.length→(0≤(i:Int)∧(i:Int)<c.ob)∨∃y:Int,0≤y∧y<d.ob∧(i:Int)=c.ob+y:=fun i hi=>by
  rw [hid]at hi
  rcases Nat.lt_or_ge i c.id.length with h1|h1
  ·exact .inl ⟨by omega,by omega⟩
  ·exact .inr ⟨(i:Int)-c.ob,by omega,by omega,by omega⟩
 have shp:Shape (smC c d):=by
  refine⟨by show 0≤c.ob+d.ob;omega,h8,by rw [zP];exact h40,by rw [zP,hto],fun f hf=>?_,fun f hf=>?_,?_,fun i hi=>?_,?_,fun i hi=>?_,fun f hf=>⟨?_,fun g hg=>?_⟩⟩
  ·rw [zP]at hf
   show 0≤(smC c d).F (f:Int)∧(smC c d).F (f:Int)<c.ob+d.ob
   rcases dM hf with⟨h0,h1⟩|⟨y,h0,h1,e⟩
   ·rw [oM h0 h1];have:=cF _ h0 h1;omega
   ·rw [e,oN h0 h1];have:=dF _ h0 h1;omega
  ·rw [hto]at hf
   show 0≤(smC c d).T (f:Int)∧(smC c d).T (f:Int)<c.ob+d.ob
   rcases dM hf with⟨h0,h1⟩|⟨y,h0,h1,e⟩
   ·rw [oO sc h0 h1];have:=cT _ h0 h1;omega
   ·rw [e,oP sc sd h0 h1];have:=dT _ h0 h1;omega
  ·rw [hid];show _=c.ob+d.ob;omega
  ·show 0≤(smC c d).I (i:Int)∧(smC c d).I (i:Int)<_
   rw [zP]
   rcases sI i hi with⟨h0,h1⟩|⟨y,h0,h1,e⟩
   ·rw [aGJ sc h0 h1];have:=hc.idI h0 h1;omega
   ·rw [e,aGK sc sd h0 h1];have:=hd.idI h0 h1;omega
  ·rw [zP]
   unfold smC
   rw [List.length_append,List.length_map,List.length_map,sc.col,sd.col]
  ·show(smC c d).F ((smC c d).I (i:Int))=i∧(smC c d).T ((smC c d).I (i:Int))=i
   rcases sI i hi with⟨h0,h1⟩|⟨y,h0,h1,e⟩
   ·obtain⟨a1,a2,a3,a4⟩:=hc.idI h0 h1
    rw [aGJ sc h0 h1,oM a1 a2,oO sc a1 a2];exact⟨a3,a4⟩
   ·obtain⟨a1,a2,a3,a4⟩:=hd.idI h0 h1
    rw [e,aGK sc sd h0 h1,Int.add_comm (d.I y),oN a1 a2,oP sc sd a1 a2,a3,a4];omega
  ·rw [zP]at hf⊢
   show((smC c d).co.getD (f:Int).toNat []).length=_
   rcases dM hf with⟨h0,h1⟩|⟨y,h0,h1,e⟩
   ·have h:=(sc.coe f (by omega)).1
    rw [aKU sc h0 h1,List.length_append,List.length_replicate,Int.toNat_natCast,h]
   ·have h:=(sd.coe y.toNat (by omega)).1
    rw [e,aKV sc sd h0 h1,List.length_append,List.length_replicate,List.length_map,h]
  ·rw [zP]at hf hg
   show((smC c d).T (f:Int)=(smC c d).F (g:Int)∧(0≤(smC c d).C f g∧(smC c d).C f g<_)∧(smC c d).F ((smC c d).C f g)=(smC c d).F (f:Int)∧(smC c d).T ((smC c d).C f g)=(smC c d).T (g:Int))∨((smC c d).T (f:Int)≠(smC c d).F (g:Int)∧(smC c d).C f g= -1)
   rw [zP]
   rcases dM hf with⟨h0,h1⟩|⟨y,h0,h1,e⟩
   ·rcases dM hg with⟨k0,k1⟩|⟨z,k0,k1,e'⟩
    ·rw [oO sc h0 h1,oM k0 k1,rF sc h0 h1 k0 k1]
     by_cases h:c.T f=c.F g
     ·obtain⟨p1,p2,p3,p4⟩:=hc.compI h0 h1 k0 k1 h
      exact .inl ⟨h,⟨p1,by omega⟩,by rw [oM p1 p2,oM h0 h1,p3],by rw [oO sc p1 p2,oO sc k0 k1,p4]⟩
     ·rcases(sc.coe f (by omega)).2 g (by omega)with q|q
      ·exact absurd q.1 h
      ·exact .inr ⟨h,q.2⟩
    ·rw [e',oO sc h0 h1,oN k0 k1,aPo sc h0 h1 k0 k1]
     have:=cT _ h0 h1
     have:=dF _ k0 k1
     exact .inr ⟨by omega,rfl⟩
   ·rcases dM hg with⟨k0,k1⟩|⟨z,k0,k1,e'⟩
    ·rw [e,oP sc sd h0 h1,oM k0 k1,aPp sc sd h0 h1 k0 k1]
     have:=dT _ h0 h1
     have:=cF _ k0 k1
     exact .inr ⟨by omega,rfl⟩
    ·rw [e,e',oP sc sd h0 h1,oN k0 k1,aKT sc sd h0 h1 k0 k1]
     by_cases h:d.T y=d.F z
     ·obtain⟨p1,p2,p3,p4⟩:=hd.compI h0 h1 k0 k1 h
      have es:shI c.fr.length (d.C y z)=(c.fr.length:Int)+d.C y z:=by unfold shI;rw [if_pos p1];omega
      exact .inl ⟨by omega,by rw [es];omega,by rw [es,oN p1 p2,oN h0 h1,p3],by rw [es,oP sc sd p1 p2,oP sc sd k0 k1,p4]⟩
     ·have hn:d.C y z= -1:=by
       rcases(sd.coe y.toNat (by omega)).2 z.toNat (by omega)with q|q
       ·exact absurd q.1 h
       ·have:=q.2
        rwa [Int.toNat_of_nonneg h0,Int.toNat_of_nonneg k0]at this
      exact .inr ⟨by omega,by rw [hn];rfl⟩
 have comp1:∀{y z:Int},0≤y→y<d.fr.length→0≤z→z<d.fr.length→d.T y=d.F z→(smC c d).C ((c.fr.length:Int)+y) ((c.fr.length:Int)+z)=(c.fr.length:Int)+d.C y z:=fun h0 h1 k0 k1 h=>by
  have p1:=(hd.compI h0 h1 k0 k1 h).1
  rw [aKT sc sd h0 h1 k0 k1];unfold shI;rw [if_pos p1];omega
 refine⟨shp,fun f hf=>?_,fun f hf=>?_,fun f g q hf hg hq m1 m2=>?_⟩
 ·rw [zP]at hf
  rcases dM hf with⟨h0,h1⟩|⟨y,h0,h1,e⟩
  ·obtain⟨a1,a2,a3,a4⟩:=hc.idI (cF _ h0 h1).1 (cF _ h0 h1).2
   rw [oM h0 h1,aGJ sc (cF _ h0 h1).1 (cF _ h0 h1).2,rF sc a1 a2 h0 h1,hc.unlI h0 h1]
  ·obtain⟨a1,a2,a3,a4⟩:=hd.idI (dF _ h0 h1).1 (dF _ h0 h1).2
   rw [e,oN h0 h1,Int.add_comm (d.F y),aGK sc sd (dF _ h0 h1).1 (dF _ h0 h1).2,Int.add_comm (d.I _),comp1 a1 a2 h0 h1 a4,hd.unlI h0 h1]
 ·rw [zP]at hf
  rcases dM hf with⟨h0,h1⟩|⟨y,h0,h1,e⟩
  ·obtain⟨a1,a2,a3,a4⟩:=hc.idI (cT _ h0 h1).1 (cT _ h0 h1).2
   rw [oO sc h0 h1,aGJ sc (cT _ h0 h1).1 (cT _ h0 h1).2,rF sc h0 h1 a1 a2,hc.unrI h0 h1]
  ·obtain⟨a1,a2,a3,a4⟩:=hd.idI (dT _ h0 h1).1 (dT _ h0 h1).2
   rw [e,oP sc sd h0 h1,Int.add_comm (d.T y),aGK sc sd (dT _ h0 h1).1 (dT _ h0 h1).2,Int.add_comm (d.I _),comp1 h0 h1 a1 a2 a3.symm,hd.unrI h0 h1]
 ·rw [zP]at hf hg hq
  rcases dM hf with⟨h0,h1⟩|⟨y,h0,h1,e⟩
  ·rcases dM hg with⟨k0,k1⟩|⟨z,k0,k1,e'⟩
   ·rcases dM hq with⟨l0,l1⟩|⟨u,l0,l1,e2⟩
    ·rw [oO sc h0 h1,oM k0 k1]at m1
     rw [oO sc k0 k1,oM l0 l1]at m2
     obtain⟨p1,p2,p3,p4⟩:=hc.compI h0 h1 k0 k1 m1
     obtain⟨r1,r2,r3,r4⟩:=hc.compI k0 k1 l0 l1 m2
     rw [rF sc h0 h1 k0 k1,rF sc k0 k1 l0 l1,rF sc p1 p2 l0 l1,rF sc h0 h1 r1 r2,hc.assI h0 h1 k0 k1 l0 l1 m1 m2]
    ·rw [e2,oO sc k0 k1,oN l0 l1]at m2
     have:=cT _ k0 k1
     have:=dF _ l0 l1
     omega
   ·rw [e',oO sc h0 h1,oN k0 k1]at m1
    have:=cT _ h0 h1
    have:=dF _ k0 k1
    omega
  ·rcases dM hg with⟨k0,k1⟩|⟨z,k0,k1,e'⟩
   ·rw [e,oP sc sd h0 h1,oM k0 k1]at m1
    have:=dT _ h0 h1
    have:=cF _ k0 k1
    omega
   ·rcases dM hq with⟨l0,l1⟩|⟨u,l0,l1,e2⟩
    ·rw [e',oP sc sd k0 k1,oM l0 l1]at m2
     have:=dT _ k0 k1
     have:=cF _ l0 l1
     omega
    ·rw [e,e',oP sc sd h0 h1,oN k0 k1]at m1
     rw [e',e2,oP sc sd k0 k1,oN l0 l1]at m2
     have n1:d.T y=d.F z:=by omega
     have n2:d.T z=d.F u:=by omega
     obtain⟨p1,p2,p3,p4⟩:=hd.compI h0 h1 k0 k1 n1
     obtain⟨r1,r2,r3,r4⟩:=hd.compI k0 k1 l0 l1 n2
     rw [e,e',e2,comp1 h0 h1 k0 k1 n1,comp1 k0 k1 l0 l1 n2,comp1 p1 p2 l0 l1 (p4.trans n2),comp1 h0 h1 r1 r2 (n1.trans r3.symm),hd.assI h0 h1 k0 k1 l0 l1 n1 n2]
end
end Go.Cats
end
section
namespace Go.Cats
instance (c:Cat) (f g:Nat):Decidable (c.Entry f g):=by unfold Cat.Entry;infer_instance
def aGV (l:List Int) (n:Int):Bool:=l.all fun x=>decide (0≤x)&&decide (x<n)
def catB (c:Cat):Bool:=
 decide (0≤c.ob)&&decide (c.ob≤8)&&decide (c.fr.length≤40)&&decide (c.to.length=c.fr.length)&&decide ((c.id.length:Int)=c.ob)&&decide (c.co.length=c.fr.length)&&
 aGV c.fr c.ob&&aGV c.to c.ob&&aGV c.id c.fr.length&&
 ((List.range c.id.length).all fun x=>decide (c.F (c.id.getD x 0)=x)&&decide (c.T (c.id.getD x 0)=x))&&
 ((List.range c.fr.length).all fun f=>decide ((c.co.getD f []).length=c.fr.length)&&(List.range c.fr.length).all fun g=>decide (c.Entry f g))&&
 ((List.range c.fr.length).all fun f=>decide (c.C (c.I (c.F f)) f=f)&&decide (c.C f (c.I (c.T f))=f))&&
 ((List.range c.fr.length).all fun f=>(List.range c.fr.length).all fun g=> !decide (c.T f=c.F g)||(List.range c.fr.length).all fun h=> !decide (c.T g=c.F h)||decide (c.C (c.C f g) h=c.C f (c.C g h)))
theorem aAK {l:List Int} {n:Int} (h:aGV l n=true):Within l n:=fun i hi=>by
 have h1:=List.all_eq_true.1 h (l.getD i 0) (aT hi)
 simp only [Bool.and_eq_true,decide_eq_true_eq]at h1
 exact h1
theorem rV {c:Cat} (h:catB c=true):IsCat c:=by
 unfold catB at h
 simp only [Bool.and_eq_true,decide_eq_true_eq,List.all_eq_true,List.mem_range,Bool.or_eq_true,Bool.not_eq_true',decide_eq_false_iff_not]at h
 obtain⟨⟨⟨⟨⟨⟨⟨⟨⟨⟨⟨⟨h1,h2⟩,h3⟩,h4⟩,h5⟩,h6⟩,h7⟩,h8⟩,h9⟩,h10⟩,h11⟩,h12⟩,h13⟩:=h
 refine⟨⟨h1,h2,h3,h4,aAK h7,aAK h8,h5,aAK h9,h6,h10,h11⟩,fun f hf=>(h12 f hf).1,fun f hf=>(h12 f hf).2,fun f g q hf hg hq e1 e2=>?_⟩
 rcases h13 f hf g hg with k|k
 ·exact absurd e1 k
 ·rcases k q hq with k|k
  ·exact absurd e2 k
  ·exact k
def moC (t:List (List Int)):Cat:=⟨1,List.replicate t.length 0,List.replicate t.length 0,[0],t⟩
def moT:Nat→List (List Int)
 |0=>[[0]]
 |1=>[[0,1],[1,0]]
 |2=>[[0,1],[1,1]]
 |3=>[[0,1,2],[1,2,0],[2,0,1]]
 |4=>[[0,1,2],[1,1,2],[2,2,2]]
 |5=>[[0,1,2],[1,1,2],[2,1,2]]
 |6=>[[0,1,2,3],[1,0,2,3],[2,3,2,3],[3,2,2,3]]
 |_=>[[0,1,2],[1,2,2],[2,2,2]]
def opR (c:Cat) (f k:Nat):List Int:=(List.range k).map fun g:Nat=>c.C (g:Int) (f:Int)
def opC (c:Cat):Cat:=⟨c.ob,c.to,c.fr,c.id,(List.range c.fr.length).map fun f=>opR c f c.fr.length⟩
def jnF (n k:Nat):List Int:=(List.range k).map fun k=>((k/n:Nat):Int)
def jnT (o:Int) (n k:Nat):List Int:=(List.range k).map fun k=>o+((k%n:Nat):Int)
def jnE (s:Cat) (o p:Int) (fr to:List Int) (f g:Nat):Int:=
 if to.getD f 0≠fr.getD g 0 then-1 else if f<s.fr.length∧g<s.fr.length then s.C f g else(s.fr.length:Int)+fr.getD f 0*p+to.getD g 0-o
def jnW (s:Cat) (o p:Int) (fr to:List Int) (f k:Nat):List Int:=(List.range k).map (jnE s o p fr to f)
def jnC (c d:Cat):Cat:=
 let fr:=(smC c d).fr++jnF d.ob.toNat (c.ob.toNat*d.ob.toNat)
 let to:=(smC c d).to++jnT c.ob d.ob.toNat (c.ob.toNat*d.ob.toNat)
 ⟨(smC c d).ob,fr,to,(smC c d).id,(List.range fr.length).map fun f=>jnW (smC c d) c.ob d.ob fr to f fr.length⟩
def one1:Cat:=poC [[1]] 1
def splC:Cat:=⟨2,[0,1,0,0,1],[0,1,0,1,0],[0,1],[[0, -1,2,3, -1],[-1,1, -1, -1,4],[2, -1,2,3, -1],[-1,3, -1, -1,2],[4, -1,4,1, -1]]⟩
theorem jP (P:List (List Int)→Prop) (h:∀i,i<8→P (moT i)) (k:Nat):P (moT k):=by
 rcases Nat.lt_or_ge k 8 with h1|h1
 ·exact h k h1
 ·have e:moT k=moT 7:=by
   match k,h1 with
   |k+8,_=>rfl
  rw [e];exact h 7 (by decide)
theorem aE9 (k:Nat):IsCat (moC (moT k)):=jP (fun t=>IsCat (moC t)) (fun i hi=>rV (by
 have:((List.range 8).all fun i=>catB (moC (moT i)))=true:=by decide+kernel
 exact List.all_eq_true.1 this i (List.mem_range.2 hi))) k
theorem aJD (k:Nat):IsCat (jnC (moC (moT k)) one1):=jP (fun t=>IsCat (jnC (moC t) one1)) (fun i hi=>rV (by
 have:((List.range 8).all fun i=>catB (jnC (moC (moT i)) one1))=true:=by decide+kernel
 exact List.all_eq_true.1 this i (List.mem_range.2 hi))) k
theorem aJ2 (k:Nat):IsCat (opC (jnC (moC (moT k)) one1)):=jP (fun t=>IsCat (opC (jnC (moC t) one1))) (fun i hi=>rV (by
 have:((List.range 8).all fun i=>catB (opC (jnC (moC (moT i)) one1)))=true:=by decide+kernel
 exact List.all_eq_true.1 this i (List.mem_range.2 hi))) k
theorem aM8:IsCat splC:=rV (by decide+kernel)
end Go.Cats
end
section
namespace Go.Cats
def wS (R:List (List Int)) (k i j:Nat):List (List Int):=if mE R i k=1∧mE R k j=1 then R.set i ((R.getD i []).set j 1)else R
def wJ (R:List (List Int)) (k i:Nat):Nat→List (List Int)
 |0=>R
 |j+1=>wS (wJ R k i j) k i j
def wI (R:List (List Int)) (n k:Nat):Nat→List (List Int)
 |0=>R
 |i+1=>wJ (wI R n k i) k i n
def wK (R:List (List Int)) (n:Nat):Nat→List (List Int)
 |0=>R
 |k+1=>wI (wK R n k) n k n
def poB (R:List (List Int)) (n:Nat):Bool:=
 decide (n≤6)&&((List.range n).all fun i=>decide (mE R i i=1))&&((List.range n).all fun i=>(List.range n).all fun j=>(List.range n).all fun k=> !(decide (mE R i j=1)&&decide (mE R j k=1))||decide (mE R i k=1))
theorem uB {R:List (List Int)} {n:Nat} (h:poB R n=true):PoOK R n:=by
 unfold poB at h
 simp only [Bool.and_eq_true,decide_eq_true_eq,List.all_eq_true,List.mem_range,Bool.or_eq_true,Bool.not_eq_true',Bool.and_eq_false_iff,decide_eq_false_iff_not]at h
 obtain⟨⟨h1,h2⟩,h3⟩:=h
 refine⟨h1,h2,fun i j k hi hj hk a b=>?_⟩
 rcases h3 i hi j hj k hk with(q|q)|q
 ·exact absurd a q
 ·exact absurd b q
 ·exact q
def aIn (n i:Nat) (r:List Int):Prop:=r.length=n∧∀j,j<n→(j<i→r.getD j 0=0)∧(j=i→r.getD j 0=1)∧(i<j→r.getD j 0=0∨r.getD j 0=1)
structure RelOk (n:Nat) (R:List (List Int)):Prop where
 len:R.length=n
 row:∀i,i<n→aIn n i (R.getD i [])
def aD3 (n i:Nat):Nat→List (List Int)
 |0=>[[]]
 |k+1=>(aD3 n i k).flatMap fun r=>if k<i then [r++[0]]else if k=i then [r++[1]]else [r++[0],r++[1]]
def aD0 (n:Nat):Nat→List (List (List Int))
 |0=>[[]]
 |i+1=>(aD0 n i).flatMap fun R=>(aD3 n i n).map fun r=>R++[r]
def aCv (n:Nat) (R:List (List Int)):Option Nat→List (List Int)
 |none=>R
 |some x=>R.set (n-1) ((R.getD (n-1) []).set x 1)
theorem aGL {α:Type} {l:List α} {k:Nat} {d:α} (h:l.length=k+1):l=l.take k++[l.getD k d]:=by
 have e:=List.take_succ_eq_append_getElem (l:=l) (i:=k) (by omega)
 rw [List.take_of_length_le (by omega)]at e
 rw [List.getD_eq_getElem?_getD,List.getElem?_eq_getElem (by omega)]
 exact e
theorem aBF {n i:Nat}:∀(k:Nat) (r:List Int),r.length=k→(∀j,j<k→(j<i→r.getD j 0=0)∧(j=i→r.getD j 0=1)∧(i<j→r.getD j 0=0∨r.getD j 0=1))→r∈aD3 n i k
 |0,r,h,_=>by rw [List.length_eq_zero_iff.1 h];simp [aD3]
 |k+1,r,h,hr=>by
  have e:=aGL (d:=0) h
  have hl:(r.take k).length=k:=by rw [List.length_take];omega
  have ih:=aBF (n:=n) (i:=i) k (r.take k) hl fun j hj=>by
   have:=hr j (by omega)
   have e2:(r.take k).getD j 0=r.getD j 0:=by rw [List.getD_eq_getElem?_getD,List.getElem?_take,if_pos hj,←List.getD_eq_getElem?_getD]
   rw [e2];exact this
  have hk:=hr k (by omega)
  rw [aD3,List.mem_flatMap]
  refine⟨_,ih,?_⟩
  split
  ·rename_i h1
   rw [List.mem_singleton,←hk.1 h1];exact e
  ·split
   ·rename_i h1
    rw [List.mem_singleton]
    have:=hk.2.1 h1
    rw [this]at e;exact e
   ·have:=hk.2.2 (by omega)
    rcases this with h0|h0
    ·rw [h0]at e;exact List.mem_cons.2 (.inl e)
    ·rw [h0]at e;exact List.mem_cons.2 (.inr (List.mem_singleton.2 e))
theorem aBC {n:Nat}:∀(k:Nat) (R:List (List Int)),k≤n→R.length=k→(∀i,i<k→aIn n i (R.getD i []))→R∈aD0 n k
 |0,R,_,h,_=>by rw [List.length_eq_zero_iff.1 h];simp [aD0]
 |k+1,R,hn,h,hr=>by
  have e:=aGL (d:=[]) h
  have hl:(R.take k).length=k:=by rw [List.length_take];omega
  have ih:=aBC (n:=n) k (R.take k) (by omega) hl fun i hi=>by
   have:=hr i (by omega)
   have e2:(R.take k).getD i []=R.getD i []:=by rw [List.getD_eq_getElem?_getD,List.getElem?_take,if_pos hi,←List.getD_eq_getElem?_getD]
   rw [e2];exact this
  have hk:=hr k (by omega)
  rw [aD0,List.mem_flatMap]
  exact⟨_,ih,List.mem_map.2 ⟨_,aBF n _ hk.1 hk.2,e.symm⟩⟩
theorem aKy:((List.range 5).all fun n=>(aD0 n n).all fun R=>poB (wK R n n) n&&(List.range n).all fun x=>poB (wK (aCv n R (some x)) n n) n)=true:=by decide+kernel
theorem aPg {n:Nat} {R:List (List Int)} {x:Option Nat} (hn:n<5) (h:RelOk n R) (hx:∀y,x=some y→y<n):PoOK (wK (aCv n R x) n n) n:=by
 have h1:=List.all_eq_true.1 (List.all_eq_true.1 aKy n (List.mem_range.2 hn)) R (aBC n R (Nat.le_refl n) h.len h.row)
 simp only [Bool.and_eq_true,List.all_eq_true,List.mem_range]at h1
 cases x with
 |none=>exact uB h1.1
 |some y=>exact uB (h1.2 y (hx y rfl))
def nW (n:Nat):List (List Int):=List.replicate n (List.replicate n 1)
theorem aA7 {n:Nat} (hn:n<5):PoOK (nW n) n:=uB (by
 have:((List.range 5).all fun n=>poB (nW n) n)=true:=by decide+kernel
 exact List.all_eq_true.1 this n (List.mem_range.2 hn))
theorem po1:PoOK [[1]] 1:=uB (by decide)
theorem po2:PoOK [[1,1],[0,1]] 2:=uB (by decide)
theorem po3:PoOK [[1,1,1],[0,1,0],[0,0,1]] 3:=uB (by decide)
end Go.Cats
end
section
namespace Go.Cats
abbrev Pth:=Int×Int×List Int
def aZ:Pth:=(0,0,[])
def bfE (fr to:List Int) (p:Pth):Nat→List Pth
 |0=>[]
 |e+1=>if fr.getD e 0=p.2.1 then bfE fr to p e++[(p.1,to.getD e 0,p.2.2++[(e:Int)])]else bfE fr to p e
def bf0 (n:Nat):List Pth:=(List.range n).map fun x:Nat=>((x:Int),(x:Int),[])
def bfK (fr to:List Int):Nat→List Pth→Nat→List Pth
 |0,L,_=>L
 |q+1,L,k=>if k<L.length∧L.length≤40 then bfK fr to q (L++bfE fr to (L.getD k aZ) fr.length) (k+1)else L
def aDQ (a b:Pth):Bool:=if a.1≠b.1 then decide (a.1<b.1)else if a.2.1≠b.2.1 then decide (a.2.1<b.2.1)else sE a.2.2 b.2.2
def swP (L:List Pth) (k:Nat):List Pth:=(L.set (k+1) (L.getD k aZ)).set k (L.getD (k+1) aZ)
def dnP (L:List Pth):Nat→List Pth
 |0=>L
 |k+1=>if aDQ (L.getD (k+1) aZ) (L.getD k aZ)then dnP (swP L k) k else L
def stP (L:List Pth):Nat→List Pth
 |0=>L
 |i+1=>dnP (stP L i) i
def gJ (n:Nat) (fr to:List Int):List Pth:=let L:=bfK fr to 64 (bf0 n) 0;stP L L.length
def idP (n:Nat) (A:List Pth):Nat→List Int
 |0=>List.replicate n 0
 |i+1=>if(A.getD i aZ).2.2=[]then(idP n A i).set (A.getD i aZ).1.toNat (i:Int)else idP n A i
def sD (A:List Pth) (f:Int) (b:List Int):Nat→Int
 |0=> -1
 |k+1=>if(A.getD k aZ).1=f∧(A.getD k aZ).2.2=b then(k:Int)else sD A f b k
def coP (A:List Pth) (i j:Nat):Int:=if(A.getD i aZ).2.1=(A.getD j aZ).1 then sD A (A.getD i aZ).1 ((A.getD i aZ).2.2++(A.getD j aZ).2.2) A.length else-1
def cwP (A:List Pth) (i k:Nat):List Int:=(List.range k).map (coP A i)
def ptC (n:Nat) (A:List Pth):Cat:=⟨n,A.map (·.1),A.map (·.2.1),idP n A A.length,(List.range A.length).map fun i=>cwP A i A.length⟩
structure GrOk (n:Nat) (fr to:List Int):Prop where
 n2:n=2∨n=3
 len:fr.length≤3
 tol:to.length=fr.length
 edge:∀e,e<fr.length→0≤fr.getD e 0∧fr.getD e 0<to.getD e 0∧to.getD e 0<n
def egs (n:Nat):List (Int×Int):=if n=2 then [(0,1)]else [(0,1),(0,2),(1,2)]
def grs (n:Nat):Nat→List (List Int×List Int)
 |0=>[([],[])]
 |k+1=>(grs n k).flatMap fun g=>(egs n).map fun e=>(g.1++[e.1],g.2++[e.2])
theorem aDG {l:List Int} {k:Nat} (h:l.length=k+1):l=l.take k++[l.getD k 0]:=by
 have e:=List.take_succ_eq_append_getElem (l:=l) (i:=k) (by omega)
 rw [List.take_of_length_le (by omega)]at e
 rw [List.getD_eq_getElem?_getD,List.getElem?_eq_getElem (by omega)]
 exact e
theorem take_at {l:List Int} {k e:Nat} (h:e<k):(l.take k).getD e 0=l.getD e 0:=by
 rw [List.getD_eq_getElem?_getD,List.getElem?_take,if_pos h,←List.getD_eq_getElem?_getD]
theorem wX {n:Nat} (hn:n=2∨n=3):∀(k:Nat) (fr to:List Int),fr.length=k→to.length=k→(∀e,e<k→0≤fr.getD e 0∧fr.getD e 0<to.getD e 0∧to.getD e 0<n)→(fr,to)∈grs n k
 |0,fr,to,h1,h2,_=>by rw [List.length_eq_zero_iff.1 h1,List.length_eq_zero_iff.1 h2];simp [grs]
 |k+1,fr,to,h1,h2,h=>by
  have e1:=aDG h1
  have e2:=aDG h2
  have ih:=wX hn k (fr.take k) (to.take k) (by rw [List.length_take];omega) (by rw [List.length_take];omega) fun e he=>by
   rw [take_at he,take_at he];exact h e (by omega)
  have hk:=h k (by omega)
  rw [grs,List.mem_flatMap]
  refine⟨_,ih,List.mem_map.2 ⟨(fr.getD k 0,to.getD k 0),?_,by rw [←e1,←e2]⟩⟩
  generalize fr.getD k 0=a at hk
  generalize to.getD k 0=b at hk
  unfold egs
  rcases hn with rfl|rfl
  ·obtain rfl:a=0:=by omega
   obtain rfl:b=1:=by omega
   simp
  ·rw [if_neg (by decide)]
   have ha:a=0∨a=1:=by omega
   rcases ha with rfl|rfl
   ·have hb:b=1∨b=2:=by omega
    rcases hb with rfl|rfl<;>simp
   ·obtain rfl:b=2:=by omega
    simp
def ptB (n:Nat) (fr to:List Int):Bool:=
 let L:=bfK fr to 64 (bf0 n) 0
 decide (L.length≤40)&&catB (ptC n (gJ n fr to))
theorem aMi:((List.range 4).all fun k=>(grs 2 k).all fun g=>ptB 2 g.1 g.2)=true:=by decide+kernel
theorem aJi:((List.range 4).all fun k=>(grs 3 k).all fun g=>ptB 3 g.1 g.2)=true:=by decide+kernel
theorem GrOk.b {n:Nat} {fr to:List Int} (h:GrOk n fr to):ptB n fr to=true:=by
 have hm:=wX h.n2 fr.length fr to rfl h.tol h.edge
 have hl:=h.len
 rcases h.n2 with rfl|rfl
 ·exact List.all_eq_true.1 (List.all_eq_true.1 aMi fr.length (List.mem_range.2 (by omega))) _ hm
 ·exact List.all_eq_true.1 (List.all_eq_true.1 aJi fr.length (List.mem_range.2 (by omega))) _ hm
theorem GrOk.cat {n:Nat} {fr to:List Int} (h:GrOk n fr to):IsCat (ptC n (gJ n fr to)):=by
 have:=h.b
 unfold ptB at this
 simp only [Bool.and_eq_true]at this
 exact rV this.2
theorem GrOk.few {n:Nat} {fr to:List Int} (h:GrOk n fr to):(bfK fr to 64 (bf0 n) 0).length≤40:=by
 have:=h.b
 unfold ptB at this
 simp only [Bool.and_eq_true,decide_eq_true_eq]at this
 exact this.1
end Go.Cats
end
section
namespace Go.Cats
end Go.Cats
end
section
namespace Go.Cats
structure ChW (W:List Int→Bool) (S:List Nat) (ch:List Int→Nat→List Int) (Co:List Int→Prop):Prop where
 out:∀A (i:Nat),A.length=S.length→i<A.length→∃p:Nat→Bool,ch A i=((List.range (S.getD i 0)).filter p).map fun e:Nat=>(e:Int)
 mono:∀A B (i:Nat) u,A.length=S.length→XtL A B→i<A.length→u∈ch B i→u∈ch A i
 comp:∀Q A (i:Nat),Q∈aCo S→W Q=true→A.length=S.length→(∀j,j<A.length→j≠i→0≤A.getD j 0→Q.getD j 0=A.getD j 0)→i<A.length→Q.getD i 0∈ch A i
 leaf:∀A:List Int,A.length=S.length→(∀j,j<A.length→0≤A.getD j 0∧A.getD j 0<S.getD j 0)→Co A→W A=true
 step:∀A (i:Nat) u,A.length=S.length→i<A.length→A.getD i 0= -1→Co A→u∈ch A i→Co (A.set i u)
section
variable {W:List Int→Bool} {S:List Nat} {ch:List Int→Nat→List Int} {Co:List Int→Prop} {A B Q C:List Int} {n i k x:Nat} {u:Int}
theorem ChW.rng (h:ChW W S ch Co) (hA:A.length=S.length) (hi:i<A.length) (hu:u∈ch A i):0≤u∧u<S.getD i 0:=by
 obtain⟨p,hp⟩:=h.out A i hA hi
 rw [hp]at hu
 obtain⟨e,he,rfl⟩:=List.mem_map.1 hu
 have:=List.mem_range.1 (List.mem_filter.1 he).1
 omega
end
/-! ### Transformations -/
def SqP (f g:Fun) (A:List Int) (a:Nat):Prop:=f.tgt.C (f.ars.getD a 0) (A.getD (f.src.to.getD a 0).toNat 0)=f.tgt.C (A.getD (f.src.fr.getD a 0).toNat 0) (g.ars.getD a 0)
structure NatP (f g:Fun) (A:List Int):Prop where
 end_:∀x,x<A.length→A.getD x 0∈f.tgt.hom (f.obs.getD x 0) (g.obs.getD x 0)
 sq:∀a,a<f.src.fr.length→SqP f g A a
structure Par (f g:Fun):Prop where
 src:IsCat f.src
 tgt:IsCat f.tgt
 fit:Fits f
 fit2:Fits g
 es:g.src=f.src
 et:g.tgt=f.tgt
section
variable {f g:Fun} {A B P Q X C:List Int} {a x r k n:Nat} {b u:Int}
structure NatK (f g:Fun) (X:List Int):Prop where
 end_:∀x,x<X.length→X.getD x 0∈f.tgt.hom (f.obs.getD x 0) (g.obs.getD x 0)
 sq:∀a,a<f.src.fr.length→(f.src.fr.getD a 0).toNat<X.length→(f.src.to.getD a 0).toNat<X.length→SqP f g X a
theorem NatK.nil:NatK f g []:=⟨fun x hx=>by simp at hx,fun a _ h=>by simp at h⟩
/-! ### The program's search -/
def SqX (f g:Fun) (P:List Int) (x:Nat):Prop:=∀a,a<f.src.fr.length→max (f.src.fr.getD a 0) (f.src.to.getD a 0)=x→SqP f g P a
abbrev NSt:=Bool×List (List Int)×List Int
open Classical in
noncomputable def aR9 (f g:Fun) (run:List Int→List (List Int)→NSt) (x:Nat) (s:NSt) (b:Int):NSt:=
 if s.1=true then(if SqX f g (s.2.2.set x b) x then run (s.2.2.set x b) s.2.1 else(true,s.2.1,s.2.2.set x b))else s
noncomputable def aFb (f g:Fun) (M:Nat):Nat→List Int→List (List Int)→NSt
 |0,P,F=>((stL M F P).1,(stL M F P).2,P)
 |r+1,P,F=>(f.tgt.hom (f.obs.getD (f.src.ob.toNat-(r+1)) 0) (g.obs.getD (f.src.ob.toNat-(r+1)) 0)).foldl (aR9 f g (aFb f g M r) (f.src.ob.toNat-(r+1))) (true,F,P)
variable {run:List Int→List (List Int)→NSt} {s:NSt} {F:List (List Int)} {M:Nat}
structure RunW (f g:Fun) (M r:Nat) (X P:List Int) (F:List (List Int)) (s:NSt) (L:List (List Int)):Prop where
 ok:s.1=(eat (stL M) F L).1
 out:s.2.1=(eat (stL M) F L).2
 len:s.2.2.length=P.length
 pre:s.2.2.take X.length=X
structure StW (f g:Fun) (M r x:Nat) (P:List Int) (F:List (List Int)) (C:List Int) (st:Nat→NSt):Prop where
 zero:st 0=(true,F,P)
 all:aFb f g M (r+1) P F=st C.length
 yes:∀k,k<C.length→(st k).1=true→SqX f g ((st k).2.2.set x (C.getD k 0)) x→st (k+1)=aFb f g M r ((st k).2.2.set x (C.getD k 0)) (st k).2.1
 no:∀k,k<C.length→(st k).1=true→¬SqX f g ((st k).2.2.set x (C.getD k 0)) x→st (k+1)=(true,(st k).2.1,(st k).2.2.set x (C.getD k 0))
 stop:∀k,k<C.length→(st (k+1)).1=false→st C.length=st (k+1)
 len:∀k,k≤C.length→(st k).2.2.length=f.src.ob.toNat
 few:∀k,k≤C.length→(st k).1=true→(st k).2.1.length≤M
 rng:∀k,k<C.length→∀i,i≤x→0≤((st k).2.2.set x (C.getD k 0)).getD i 0∧((st k).2.2.set x (C.getD k 0)).getD i 0<f.tgt.fr.length
 good:∀k,k<C.length→SqX f g ((st k).2.2.set x (C.getD k 0)) x→NatK f g (((st k).2.2.set x (C.getD k 0)).take (x+1))
end
end Go.Cats
end
section
namespace Go.Cats
def pq (n:Nat) (x y:List Int) (w:Int) (k:Nat):List Int:=(List.range k).map fun k=>x.getD (k/n) 0*w+y.getD (k%n) 0
section
variable {n k i j:Nat} {x y:List Int} {w:Int}
theorem aMN (n x y w):pq n x y w 0=[]:=rfl
theorem rA:(pq n x y w k).length=k:=by unfold pq;rw [List.length_map,List.length_range]
theorem sG (hj:j<n):(i*n+j)/n=i:=by
 have h0:0<n:=by omega
 rw [Nat.add_comm,Nat.add_mul_div_right _ _ h0,Nat.div_eq_of_lt hj,Nat.zero_add]
theorem sH (hj:j<n):(i*n+j)%n=j:=by
 rw [Nat.add_comm,Nat.add_mul_mod_self_right,Nat.mod_eq_of_lt hj]
theorem xC {m:Nat} (hi:i<m) (hj:j<n):i*n+j<m*n:=by
 have:(i+1)*n≤m*n:=Nat.mul_le_mul_right n hi
 rw [Nat.succ_mul]at this
 omega
theorem aCu (hj:j<n):pq n x y w (i*n+(j+1))=pq n x y w (i*n+j)++[x.getD i 0*w+y.getD j 0]:=by
 rw [←Nat.add_assoc]
 unfold pq
 rw [List.range_succ,List.map_append,List.map_singleton,sG hj,sH hj]
theorem aRL {m:Nat} (h:k<m):(pq n x y w m).getD k 0=x.getD (k/n) 0*w+y.getD (k%n) 0:=by
 unfold pq;rw [List.getD_eq_getElem?_getD,List.getElem?_map,List.getElem?_range h];rfl
theorem aCt {m:Nat} (hi:i<m) (hj:j<n):(pq n x y w (m*n)).getD (i*n+j) 0=x.getD i 0*w+y.getD j 0:=by
 rw [aRL (xC hi hj),sG hj,sH hj]
theorem yC {m:Nat} (h:k<m*n):k/n<m∧k%n<n:=by
 have h0:0<n:=by
  rcases Nat.eq_zero_or_pos n with e|e
  ·subst e;omega
  ·exact e
 exact⟨Nat.div_lt_of_lt_mul (by rw [Nat.mul_comm];exact h),Nat.mod_lt _ h0⟩
end
def prE (c d:Cat) (k l:Nat):Int:=
 if 0≤c.C (k/d.fr.length:Nat) (l/d.fr.length:Nat)∧0≤d.C (k%d.fr.length:Nat) (l%d.fr.length:Nat)then
  c.C (k/d.fr.length:Nat) (l/d.fr.length:Nat)*d.fr.length+d.C (k%d.fr.length:Nat) (l%d.fr.length:Nat)else-1
def prW (c d:Cat) (k l:Nat):List Int:=(List.range l).map (prE c d k)
def prT (c d:Cat) (k:Nat):List (List Int):=(List.range k).map fun k=>prW c d k (c.fr.length*d.fr.length)
def prC (c d:Cat):Cat:=⟨c.ob*d.ob,pq d.fr.length c.fr d.fr d.ob (c.fr.length*d.fr.length),pq d.fr.length c.to d.to d.ob (c.fr.length*d.fr.length),pq d.id.length c.id d.id d.fr.length (c.id.length*d.id.length),prT c d (c.fr.length*d.fr.length)⟩
section
variable {c d:Cat} {i j k l a b:Nat}
theorem aKk (c d k):prW c d k 0=[]:=rfl
theorem aKi (c d):prT c d 0=[]:=rfl
theorem aGx:(prW c d k l).length=l:=by unfold prW;rw [List.length_map,List.length_range]
theorem aGw:(prT c d k).length=k:=by unfold prT;rw [List.length_map,List.length_range]
theorem aDV (hj:j<d.fr.length) (hb:b<d.fr.length):prE c d (i*d.fr.length+j) (a*d.fr.length+b)=if 0≤c.C i a∧0≤d.C j b then c.C i a*d.fr.length+d.C j b else-1:=by
 unfold prE;rw [sG hj,sH hj,sG hb,sH hb]
theorem aKj (hj:j<d.fr.length) (hb:b<d.fr.length):prW c d (i*d.fr.length+j) (a*d.fr.length+(b+1))=prW c d (i*d.fr.length+j) (a*d.fr.length+b)++[if 0≤c.C i a∧0≤d.C j b then c.C i a*d.fr.length+d.C j b else-1]:=by
 rw [←Nat.add_assoc,←aDV hj hb]
 unfold prW
 rw [List.range_succ,List.map_append,List.map_singleton]
theorem aKg:prT c d (i*d.fr.length+(j+1))=prT c d (i*d.fr.length+j)++[prW c d (i*d.fr.length+j) (c.fr.length*d.fr.length)]:=by
 rw [←Nat.add_assoc];unfold prT;rw [List.range_succ,List.map_append,List.map_singleton]
theorem aPw {x x' n y y':Int} (h0:0≤y) (h1:y<n) (h2:0≤y') (h3:y'<n):x*n+y=x'*n+y'↔x=x'∧y=y':=by
 constructor
 ·intro h
  have hx:x=x':=by
   have e1:(x*n+y)/n=x:=by rw [Int.add_comm,Int.add_mul_ediv_right _ _ (by omega),Int.ediv_eq_zero_of_lt h0 h1];omega
   have e2:(x'*n+y')/n=x':=by rw [Int.add_comm,Int.add_mul_ediv_right _ _ (by omega),Int.ediv_eq_zero_of_lt h2 h3];omega
   rw [←e1,←e2,h]
  subst hx
  exact⟨rfl,by omega⟩
 ·rintro⟨rfl,rfl⟩;rfl
end
section
variable {c d:Cat} {f:Fun} {i:Int} {k j a:Nat}
end
abbrev go2 (d:Cat) (f:Fun) (x y:Int):Int:=f.obs.getD (x*d.ob+y).toNat 0
abbrev ga2 (d:Cat) (f:Fun) (x y:Int):Int:=f.ars.getD (x*d.fr.length+y).toNat 0
structure TwoF (c d:Cat) (f:Fun):Prop where
 sc:IsCat c
 sd:IsCat d
 tg:IsCat f.tgt
 obl:f.obs.length=c.ob.toNat*d.ob.toNat
 arl:f.ars.length=c.fr.length*d.fr.length
 obw:Within f.obs f.tgt.ob
 arw:Within f.ars f.tgt.fr.length
 ends:∀i j:Nat,i<c.fr.length→j<d.fr.length→f.tgt.F (ga2 d f i j)=go2 d f (c.fr.getD i 0) (d.fr.getD j 0)∧f.tgt.T (ga2 d f i j)=go2 d f (c.to.getD i 0) (d.to.getD j 0)
 unit:∀p q:Nat,p<c.id.length→q<d.id.length→ga2 d f (c.id.getD p 0) (d.id.getD q 0)=f.tgt.I (go2 d f p q)
 comp:∀i j a b:Nat,i<c.fr.length→j<d.fr.length→a<c.fr.length→b<d.fr.length→c.to.getD i 0=c.fr.getD a 0→d.to.getD j 0=d.fr.getD b 0→ga2 d f (c.C i a) (d.C j b)=f.tgt.C (ga2 d f i j) (ga2 d f a b)
theorem aJv {i j n:Nat}:((i:Int)*n+j).toNat=i*n+j:=by
 have:(i:Int)*n+j=((i*n+j:Nat):Int):=by push_cast;rfl
 rw [this,Int.toNat_natCast]
section
variable {c d:Cat} {f:Fun} {i a:Nat}
theorem TwoF.aw (h:TwoF c d f) {x y:Nat} (h1:x<c.fr.length) (h3:y<d.fr.length):0≤ga2 d f x y∧ga2 d f x y<f.tgt.fr.length:=by
 refine h.arw _ ?_
 rw [h.arl,aJv]
 exact xC h1 h3
end
end Go.Cats
end
section
namespace Go.Cats
theorem aCV {a b A B:Int} (h0:0≤a) (h1:a<A) (h2:0≤b) (h3:b<B):0≤a*B+b∧a*B+b<A*B:=by
 have k1:(a+1)*B≤A*B:=Int.mul_le_mul_of_nonneg_right (by omega) (by omega)
 have k2:0≤a*B:=Int.mul_nonneg h0 (by omega)
 rw [Int.add_mul,Int.one_mul]at k1
 exact⟨by omega,by omega⟩
theorem kP {x y:Int} {m:Nat} (h0:0≤x) (h2:0≤y):(x*m+y).toNat=x.toNat*m+y.toNat:=by
 obtain⟨a,rfl⟩:=Int.eq_ofNat_of_zero_le h0
 obtain⟨b,rfl⟩:=Int.eq_ofNat_of_zero_le h2
 rw [←Int.natCast_mul,←Int.natCast_add,Int.toNat_natCast,Int.toNat_natCast,Int.toNat_natCast]
section
variable {c d:Cat} {x y x' y':Int} {f g:Nat}
theorem zI:(prC c d).fr.length=c.fr.length*d.fr.length:=rA
theorem aNR:(prC c d).to.length=c.fr.length*d.fr.length:=rA
theorem aKl:(prC c d).id.length=c.id.length*d.id.length:=rA
theorem aHI (h0:0≤x) (h1:x<c.fr.length) (h2:0≤y) (h3:y<d.fr.length):(prC c d).F (x*d.fr.length+y)=c.F x*d.ob+d.F y:=by
 unfold Cat.F
 rw [kP h0 h2]
 exact aCt (by omega) (by omega)
theorem aHJ (h0:0≤x) (h1:x<c.fr.length) (h2:0≤y) (h3:y<d.fr.length):(prC c d).T (x*d.fr.length+y)=c.T x*d.ob+d.T y:=by
 unfold Cat.T
 rw [kP h0 h2]
 exact aCt (by omega) (by omega)
theorem aMP (sc:Shape c) (sd:Shape d) (h0:0≤x) (h1:x<c.ob) (h2:0≤y) (h3:y<d.ob):(prC c d).I (x*d.ob+y)=c.I x*d.fr.length+d.I y:=by
 have e1:=sc.idl
 have e2:=sd.idl
 unfold Cat.I
 rw [←e2,kP h0 h2]
 exact aCt (by omega) (by omega)
theorem aFm (sc:Shape c) (sd:Shape d) (h0:0≤x) (h1:x<c.fr.length) (h2:0≤y) (h3:y<d.fr.length) (k0:0≤x') (k1:x'<c.fr.length) (k2:0≤y') (k3:y'<d.fr.length):
  (prC c d).C (x*d.fr.length+y) (x'*d.fr.length+y')=if c.T x=c.F x'∧d.T y=d.F y' then c.C x x'*d.fr.length+d.C y y' else-1:=by
 have b1:x.toNat<c.fr.length:=by omega
 have b2:y.toNat<d.fr.length:=by omega
 have b3:x'.toNat<c.fr.length:=by omega
 have b4:y'.toNat<d.fr.length:=by omega
 have hk:=xC b1 b2
 have hl:=xC b3 b4
 have n1:=sc.neg b1 b3
 have n2:=sd.neg b2 b4
 rw [Int.toNat_of_nonneg h0,Int.toNat_of_nonneg k0]at n1
 rw [Int.toNat_of_nonneg h2,Int.toNat_of_nonneg k2]at n2
 have e:(prC c d).C (x*d.fr.length+y) (x'*d.fr.length+y')=prE c d (x.toNat*d.fr.length+y.toNat) (x'.toNat*d.fr.length+y'.toNat):=by
  show((prT c d (c.fr.length*d.fr.length)).getD (x*d.fr.length+y).toNat []).getD (x'*d.fr.length+y').toNat 0=_
  rw [kP h0 h2,kP k0 k2]
  unfold prT
  rw [List.getD_eq_getElem?_getD (l:=List.map _ _) (i:=x.toNat*d.fr.length+y.toNat),List.getElem?_map,List.getElem?_range hk]
  show(prW c d _ _).getD _ 0=_
  unfold prW
  rw [List.getD_eq_getElem?_getD,List.getElem?_map,List.getElem?_range hl];rfl
 rw [e,aDV b2 b4,Int.toNat_of_nonneg h0,Int.toNat_of_nonneg h2,Int.toNat_of_nonneg k0,Int.toNat_of_nonneg k2]
 by_cases h:c.T x=c.F x'∧d.T y=d.F y'
 ·rw [if_pos h,if_pos]
  exact⟨Int.not_lt.1 fun q=>(n1.1 q) h.1,Int.not_lt.1 fun q=>(n2.1 q) h.2⟩
 ·rw [if_neg h,if_neg]
  rintro⟨q1,q2⟩
  refine h ⟨Classical.byContradiction fun q=>?_,Classical.byContradiction fun q=>?_⟩
  ·have:=n1.2 q;omega
  ·have:=n2.2 q;omega
theorem gN (h:f<c.fr.length*d.fr.length):∃x y:Int,0≤x∧x<c.fr.length∧0≤y∧y<d.fr.length∧(f:Int)=x*d.fr.length+y:=by
 obtain⟨h1,h2⟩:=yC h
 refine⟨((f/d.fr.length:Nat):Int),((f%d.fr.length:Nat):Int),Int.natCast_nonneg _,by omega,Int.natCast_nonneg _,by omega,?_⟩
 rw [←Int.natCast_mul,←Int.natCast_add,Nat.mul_comm,Nat.div_add_mod]
theorem aMO (hc:IsCat c) (hd:IsCat d) (h8:c.ob*d.ob≤8) (h40:c.fr.length*d.fr.length≤40):IsCat (prC c d):=by
 have sc:=hc.toShape
 have sd:=hd.toShape
 have e1:=sc.idl
 have e2:=sd.idl
 have cF:∀z:Int,0≤z→z<c.fr.length→0≤c.F z∧c.F z<c.ob:=fun z h0 h1=>sc.frw z.toNat (by omega)
 have cT:∀z:Int,0≤z→z<c.fr.length→0≤c.T z∧c.T z<c.ob:=fun z h0 h1=>sc.tow z.toNat (by rw [sc.tol];omega)
 have dF:∀z:Int,0≤z→z<d.fr.length→0≤d.F z∧d.F z<d.ob:=fun z h0 h1=>sd.frw z.toNat (by omega)
 have dT:∀z:Int,0≤z→z<d.fr.length→0≤d.T z∧d.T z<d.ob:=fun z h0 h1=>sd.tow z.toNat (by rw [sd.tol];omega)
 have bigI:∀f:Nat,f<(prC c d).id.length→∃x y:Int,0≤x∧x<c.ob∧0≤y∧y<d.ob∧(f:Int)=x*d.ob+y:=fun f hf=>by
  rw [aKl]at hf
  obtain⟨h1,h2⟩:=yC hf
  refine⟨((f/d.id.length:Nat):Int),((f%d.id.length:Nat):Int),Int.natCast_nonneg _,by omega,Int.natCast_nonneg _,by omega,?_⟩
  rw [←e2,←Int.natCast_mul,←Int.natCast_add,Nat.mul_comm,Nat.div_add_mod]
 have meet:∀{x y x' y':Int},0≤x→x<c.fr.length→0≤y→y<d.fr.length→0≤x'→x'<c.fr.length→0≤y'→y'<d.fr.length→((prC c d).T (x*d.fr.length+y)=(prC c d).F (x'*d.fr.length+y')↔c.T x=c.F x'∧d.T y=d.F y'):=fun h0 h1 h2 h3 k0 k1 k2 k3=>by
  rw [aHJ h0 h1 h2 h3,aHI k0 k1 k2 k3]
  exact aPw (dT _ h2 h3).1 (dT _ h2 h3).2 (dF _ k2 k3).1 (dF _ k2 k3).2
 have shp:Shape (prC c d):=by
  refine⟨Int.mul_nonneg sc.ob0 sd.ob0,h8,by rw [zI];exact h40,by rw [zI,aNR],fun f hf=>?_,fun f hf=>?_,?_,fun i hi=>?_,?_,fun i hi=>?_,fun f hf=>⟨?_,fun g hg=>?_⟩⟩
  ·rw [zI]at hf
   obtain⟨x,y,h0,h1,h2,h3,e⟩:=gN hf
   have:=aHI h0 h1 h2 h3
   rw [←e]at this
   show 0≤(prC c d).F (f:Int)∧(prC c d).F (f:Int)<c.ob*d.ob
   rw [this]
   exact aCV (cF x h0 h1).1 (cF x h0 h1).2 (dF y h2 h3).1 (dF y h2 h3).2
  ·rw [aNR]at hf
   obtain⟨x,y,h0,h1,h2,h3,e⟩:=gN hf
   have:=aHJ h0 h1 h2 h3
   rw [←e]at this
   show 0≤(prC c d).T (f:Int)∧(prC c d).T (f:Int)<c.ob*d.ob
   rw [this]
   exact aCV (cT x h0 h1).1 (cT x h0 h1).2 (dT y h2 h3).1 (dT y h2 h3).2
  ·rw [aKl,Int.natCast_mul,e1,e2];rfl
  ·obtain⟨x,y,h0,h1,h2,h3,e⟩:=bigI i hi
   have:=aMP sc sd h0 h1 h2 h3
   rw [←e]at this
   show 0≤(prC c d).I (i:Int)∧(prC c d).I (i:Int)<_
   rw [this,zI,Int.natCast_mul]
   obtain⟨a1,a2,_⟩:=hc.idI h0 h1
   obtain⟨b1,b2,_⟩:=hd.idI h2 h3
   exact aCV a1 a2 b1 b2
  ·show(prT c d _).length=_
   rw [aGw,zI]
  ·obtain⟨x,y,h0,h1,h2,h3,e⟩:=bigI i hi
   have:=aMP sc sd h0 h1 h2 h3
   rw [←e]at this
   obtain⟨a1,a2,a3,a4⟩:=hc.idI h0 h1
   obtain⟨b1,b2,b3,b4⟩:=hd.idI h2 h3
   show(prC c d).F ((prC c d).I (i:Int))=i∧(prC c d).T ((prC c d).I (i:Int))=i
   rw [this,aHI a1 a2 b1 b2,aHJ a1 a2 b1 b2,a3,a4,b3,b4,e]
   exact⟨rfl,rfl⟩
  ·rw [zI]at hf⊢
   show((prT c d _).getD f []).length=_
   unfold prT
   rw [List.getD_eq_getElem?_getD,List.getElem?_map,List.getElem?_range hf]
   exact aGx
  ·rw [zI]at hf hg
   obtain⟨x,y,h0,h1,h2,h3,ef⟩:=gN hf
   obtain⟨x',y',k0,k1,k2,k3,eg⟩:=gN hg
   have hC:=aFm sc sd h0 h1 h2 h3 k0 k1 k2 k3
   have hM:=meet h0 h1 h2 h3 k0 k1 k2 k3
   rw [←ef,←eg]at hC hM
   show((prC c d).T (f:Int)=(prC c d).F (g:Int)∧_∧(prC c d).F _=(prC c d).F (f:Int)∧(prC c d).T _=(prC c d).T (g:Int))∨((prC c d).T (f:Int)≠(prC c d).F (g:Int)∧_)
   by_cases h:c.T x=c.F x'∧d.T y=d.F y'
   ·rw [if_pos h]at hC
    obtain⟨p1,p2,p3,p4⟩:=hc.compI h0 h1 k0 k1 h.1
    obtain⟨q1,q2,q3,q4⟩:=hd.compI h2 h3 k2 k3 h.2
    refine .inl ⟨hM.2 h,?_,?_,?_⟩
    ·rw [hC,zI,Int.natCast_mul];exact aCV p1 p2 q1 q2
    ·rw [hC,aHI p1 p2 q1 q2,p3,q3,ef,aHI h0 h1 h2 h3]
    ·rw [hC,aHJ p1 p2 q1 q2,p4,q4,eg,aHJ k0 k1 k2 k3]
   ·rw [if_neg h]at hC
    exact .inr ⟨fun q=>h (hM.1 q),hC⟩
 refine⟨shp,fun f hf=>?_,fun f hf=>?_,fun f g q hf hg hq m1 m2=>?_⟩
 ·rw [zI]at hf
  obtain⟨x,y,h0,h1,h2,h3,e⟩:=gN hf
  obtain⟨a1,a2,a3,a4⟩:=hc.idI (cF x h0 h1).1 (cF x h0 h1).2
  obtain⟨b1,b2,b3,b4⟩:=hd.idI (dF y h2 h3).1 (dF y h2 h3).2
  rw [e,aHI h0 h1 h2 h3,aMP sc sd (cF x h0 h1).1 (cF x h0 h1).2 (dF y h2 h3).1 (dF y h2 h3).2,aFm sc sd a1 a2 b1 b2 h0 h1 h2 h3,if_pos ⟨a4,b4⟩,hc.unlI h0 h1,hd.unlI h2 h3]
 ·rw [zI]at hf
  obtain⟨x,y,h0,h1,h2,h3,e⟩:=gN hf
  obtain⟨a1,a2,a3,a4⟩:=hc.idI (cT x h0 h1).1 (cT x h0 h1).2
  obtain⟨b1,b2,b3,b4⟩:=hd.idI (dT y h2 h3).1 (dT y h2 h3).2
  rw [e,aHJ h0 h1 h2 h3,aMP sc sd (cT x h0 h1).1 (cT x h0 h1).2 (dT y h2 h3).1 (dT y h2 h3).2,aFm sc sd h0 h1 h2 h3 a1 a2 b1 b2,if_pos ⟨a3.symm,b3.symm⟩,hc.unrI h0 h1,hd.unrI h2 h3]
 ·rw [zI]at hf hg hq
  obtain⟨x,y,h0,h1,h2,h3,ef⟩:=gN hf
  obtain⟨x',y',k0,k1,k2,k3,eg⟩:=gN hg
  obtain⟨x2,y2,l0,l1,l2,l3,eq⟩:=gN hq
  rw [ef,eg]at m1
  rw [eg,eq]at m2
  have M1:=(meet h0 h1 h2 h3 k0 k1 k2 k3).1 m1
  have M2:=(meet k0 k1 k2 k3 l0 l1 l2 l3).1 m2
  obtain⟨p1,p2,p3,p4⟩:=hc.compI h0 h1 k0 k1 M1.1
  obtain⟨q1,q2,q3,q4⟩:=hd.compI h2 h3 k2 k3 M1.2
  obtain⟨r1,r2,r3,r4⟩:=hc.compI k0 k1 l0 l1 M2.1
  obtain⟨s1,s2,s3,s4⟩:=hd.compI k2 k3 l2 l3 M2.2
  rw [ef,eg,eq,aFm sc sd h0 h1 h2 h3 k0 k1 k2 k3,if_pos M1,aFm sc sd k0 k1 k2 k3 l0 l1 l2 l3,if_pos M2,aFm sc sd p1 p2 q1 q2 l0 l1 l2 l3,if_pos ⟨p4.trans M2.1,q4.trans M2.2⟩,
   aFm sc sd h0 h1 h2 h3 r1 r2 s1 s2,if_pos ⟨M1.1.trans r3.symm,M1.2.trans s3.symm⟩,hc.assI h0 h1 k0 k1 l0 l1 M1.1 M2.1,hd.assI h2 h3 k2 k3 l2 l3 M1.2 M2.2]
end
end Go.Cats
end
section
namespace Go.Cats
def aDL:SF:=⟨⟨0,[],[],[],[]⟩,[],[]⟩
def aJT:SM:=⟨aDL,aDL,[]⟩
end Go.Cats
end
