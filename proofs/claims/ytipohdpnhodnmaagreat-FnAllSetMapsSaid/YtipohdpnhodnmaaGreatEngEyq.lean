/- The engine, part EY: regions that draw their order, with one call whose result is told up to a property. -/
import Derived.Test.YtipohdpnhodnmaaGreatEngExq
set_option linter.unusedVariables false
set_option linter.unusedSimpArgs false
namespace Go.Eng
open Go
theorem aFp {α:Type}:∀(l m:List (List (Nat×α))) (k:Nat) (f:Nat→α) (D:Nat→Bool),l.length=m.length→(∀j,D (k+j)=true→l[j]? =m[j]?)→apD f l k D=apD f m k D
 |[],[],_,_,_,_,_=>rfl
 |[],_::_,_,_,_,h,_=>by simp at h
 |_::_,[],_,_,_,h,_=>by simp at h
 |u::l,v::m,k,f,D,h,he=>by
  simp only [apD]
  have hd:(if D k then upG f u else f)=if D k then upG f v else f:=by
   by_cases q:D k=true
   ·have:=he 0 (by simpa using q)
    simp at this
    rw [this]
   ·simp [q]
  rw [hd]
  exact aFp l m (k+1) _ D (by simpa using h) fun j hj=>by
   have:=he (j+1) (by rw [←hj];congr 1;omega)
   simpa using this
section
variable {X:Cx} {E:Env} {l:List Oper}
theorem aLb {σ:Ss} {en:List En} (hlen:en.length=l.length) (hc:gX l (FU en)=true) {listed:Array Bool} (hsz:listed.size=l.length) (hcl:Closed l fun j=>listed.getD j false) {i:Nat} {o:Oper} {e:En} (hio:l[i]? =some o) (hie:en[i]? =some e) (hDi:listed.getD i false=false) (h3:∀ed∈o.after,Region.binds .any ed=true→listed.getD ed.on false=true):
  (∀s∈slotsOf l o,apD (lk σ.tm) (TU l en) 0 (fun j=>listed.getD j false) s=upA (lk σ.tm) ((TU l en).take i) s)∧
  (∀r,r∈e.ft∨r∈e.ru.map (·.1)→apD (rsL σ.rs) (RU en) 0 (fun j=>listed.getD j false) r=upA (rsL σ.rs) ((RU en).take i) r)∧
  sT (apD (lk σ.tm) (TU l en) 0 fun j=>listed.getD j false) o.dst e.sv=apD (lk σ.tm) (TU l en) 0 (fun j=>(listed.setIfInBounds i true).getD j false)∧
  dP (apD (rsL σ.rs) (RU en) 0 fun j=>listed.getD j false) e.ru=apD (rsL σ.rs) (RU en) 0 (fun j=>(listed.setIfInBounds i true).getD j false):=by
 have hil:i<l.length:=(List.getElem?_eq_some_iff.1 hio).1
 have his:i<listed.size:=by omega
 have hFi:(FU en)[i]? =some (e.ft,e.ru.map (·.1)):=by simp [FU,hie]
 have hside:∀k ok ek,l[k]? =some ok→en[k]? =some ek→listed.getD k false=decide (k<i)∨cJ l o ok (e.ft,e.ru.map (·.1)) (ek.ft,ek.ru.map (·.1))=true∨cJ l ok o (ek.ft,ek.ru.map (·.1)) (e.ft,e.ru.map (·.1))=true:=fun k ok ek hk hek=>by
  have hFk:(FU en)[k]? =some (ek.ft,ek.ru.map (·.1)):=by simp [FU,hek]
  by_cases e1:k=i
  ·subst e1;exact .inl (by rw [hDi];simp)
  ·rcases Nat.lt_or_ge k i with hlt|hge
   ·cases hb:listed.getD k false with
    |true=>exact .inl (by simp [hlt])
    |false=>exact .inr (mP hc hcl (Ne.symm e1) hio hk hFi hFk (.inr (.inr ⟨hlt,hb,fun ed he hbd=>h3 ed he hbd⟩)))
   ·have hlt:i<k:=by omega
    cases hb:listed.getD k false with
    |false=>exact .inl (by simp;omega)
    |true=>exact .inr (mP hc hcl (Ne.symm e1) hio hk hFi hFk (.inl ⟨hlt,hDi,hb⟩))
 have htm:∀s∈slotsOf l o,apD (lk σ.tm) (TU l en) 0 (fun j=>listed.getD j false) s=upA (lk σ.tm) ((TU l en).take i) s:=fun s hs=>by
  have h4:=cS (TU l en) 0 (lk σ.tm) (lk σ.tm) (fun j=>listed.getD j false) (fun j=>decide (j<0+i)) s rfl (fun k u hk hu=>by
   obtain⟨ok,ek,hk1,hk2,rfl⟩:=aCr hk
   have hd:=mem_dl.1 hu
   simp only [Nat.zero_add]
   rcases hside k ok ek hk1 hk2 with h5|h5|h5
   ·exact h5
   ·simp only [cJ,Bool.and_eq_true]at h5
    exact absurd hs (bK h5.1.1.2 hd)
   ·simp only [cJ,Bool.and_eq_true]at h5
    exact absurd hs (bK h5.1.1.1 hd))
  rw [h4,nD]
 have hrs:∀r,r∈e.ft∨r∈e.ru.map (·.1)→apD (rsL σ.rs) (RU en) 0 (fun j=>listed.getD j false) r=upA (rsL σ.rs) ((RU en).take i) r:=fun r hr=>by
  have hr':r∈e.ft++e.ru.map (·.1):=List.mem_append.2 hr
  have h4:=cS (RU en) 0 (rsL σ.rs) (rsL σ.rs) (fun j=>listed.getD j false) (fun j=>decide (j<0+i)) r rfl (fun k u hk hu=>by
   obtain⟨ek,hk2,rfl⟩:=aCq hk
   have hkl:k<l.length:=by have:=(List.getElem?_eq_some_iff.1 hk2).1;omega
   simp only [Nat.zero_add]
   rcases hside k l[k] ek (by simp [hkl]) hk2 with h5|h5|h5
   ·exact h5
   ·simp only [cJ,Bool.and_eq_true]at h5
    exact absurd hr' (bK h5.2 hu)
   ·simp only [cJ,Bool.and_eq_true]at h5
    exact absurd hr' (bK h5.1.2 hu))
  rw [h4,nD]
 have hD2:∀j,(listed.setIfInBounds i true).getD j false=if j=i then true else listed.getD j false:=fun j=>by
  by_cases e1:j=i
  ·subst e1;simp [Array.getD,his]
  ·rw [if_neg e1]
   simp only [Array.getD_eq_getD_getElem?]
   rw [Array.getElem?_setIfInBounds_ne (Ne.symm e1)]
 have hlater:∀k ok ek,i<k→l[k]? =some ok→en[k]? =some ek→listed.getD k false=true→cJ l o ok (e.ft,e.ru.map (·.1)) (ek.ft,ek.ru.map (·.1))=true∨cJ l ok o (ek.ft,ek.ru.map (·.1)) (e.ft,e.ru.map (·.1))=true:=fun k ok ek hlt hk hek hb=>
  mP hc hcl (by omega) hio hk hFi (by simp [FU,hek]) (.inl ⟨hlt,hDi,hb⟩)
 refine⟨htm,hrs,?_,?_⟩
 ·funext s
  have hTi:(TU l en)[i]? =some (dl o.dst e.sv):=by simp only [TU,List.getElem?_zipWith,hio,hie]
  rw [qA]
  by_cases hs:s∈(dl o.dst e.sv).map (·.1)
  ·refine(oU (TU l en) 0 (lk σ.tm) _ _ s i _ hTi hs (by simp only [Nat.zero_add,hD2];simp) (fun k u hlt hk hu=>?_)).symm
   obtain⟨ok,ek,hk1,hk2,rfl⟩:=aCr hk
   simp only [Nat.zero_add,hD2]
   rw [if_neg (by omega)]
   cases hb:listed.getD k false with
   |false=>rfl
   |true=>
    have hd:=mem_dl.1 hu
    have hs':s∈slotsOf l o:=aCf (mem_dl.1 hs)
    rcases hlater k ok ek hlt hk1 hk2 hb with h5|h5
    ·simp only [cJ,Bool.and_eq_true]at h5
     exact absurd hs' (bK h5.1.1.2 hd)
    ·simp only [cJ,Bool.and_eq_true]at h5
     exact absurd hs' (bK h5.1.1.1 hd)
  ·rw [uX hs]
   refine cS _ _ _ _ _ _ _ rfl fun k u hk hu=>?_
   simp only [Nat.zero_add,hD2]
   by_cases e1:k=i
   ·subst e1;rw [hTi]at hk;cases hk;exact absurd hu hs
   ·rw [if_neg e1]
 ·funext s
  have hTi:(RU en)[i]? =some e.ru:=by simp [RU,hie]
  rw [nC]
  by_cases hs:s∈e.ru.map (·.1)
  ·refine(oU (RU en) 0 (rsL σ.rs) _ _ s i _ hTi hs (by simp only [Nat.zero_add,hD2];simp) (fun k u hlt hk hu=>?_)).symm
   obtain⟨ek,hk2,rfl⟩:=aCq hk
   have hkl:k<l.length:=by have:=(List.getElem?_eq_some_iff.1 hk2).1;omega
   simp only [Nat.zero_add,hD2]
   rw [if_neg (by omega)]
   cases hb:listed.getD k false with
   |false=>rfl
   |true=>
    have hs':s∈e.ft++e.ru.map (·.1):=List.mem_append_right _ hs
    rcases hlater k l[k] ek hlt (by simp [hkl]) hk2 hb with h5|h5
    ·simp only [cJ,Bool.and_eq_true]at h5
     exact absurd hs' (bK h5.2 hu)
    ·simp only [cJ,Bool.and_eq_true]at h5
     exact absurd hs' (bK h5.1.2 hu)
  ·rw [uX hs]
   refine cS _ _ _ _ _ _ _ rfl fun k u hk hu=>?_
   simp only [Nat.zero_add,hD2]
   by_cases e1:k=i
   ·subst e1;rw [hTi]at hk;cases hk;exact absurd hu hs
   ·rw [if_neg e1]
theorem aLY {Inv:Array Bool→Act→World→Prop} {Q:Exit→Act→World→Prop} (hdown:aDZ l=true)
  (hdone:∀listed a w,(∀j,j<l.length→listed.getD j false=true)→Inv listed a w→Q .normal a w)
  (hstep:∀(listed:Array Bool) a w i o,listed.size=l.length→Closed l (fun j=>listed.getD j false)→l[i]? =some o→listed.getD i false=false→(∀ed∈o.after,Region.binds .any ed=true→listed.getD ed.on false=true)→Inv listed a w→
   (Region.wanted o (yielded l.toArray a.tmps)=true∧∀K:Act→World→Prop,(∀a' w',Inv (listed.setIfInBounds i true) a' w'→K a' w')→o.wpIn X.F 0 E.P a w K Q)∨(Region.wanted o (yielded l.toArray a.tmps)=false∧Inv (listed.setIfInBounds i true) (a.put o.dst undef) w)):
  ∀(fuel:Nat) (listed:Array Bool) (a:Act) (w:World),listed.size=l.length→cnt l.length (fun j=>listed.getD j false)≤fuel→Closed l (fun j=>listed.getD j false)→Inv listed a w→wpAnyIn X.F 0 E.P .any l.toArray Q fuel listed a w:=by
 have hdown:∀i o,l[i]? =some o→∀e∈o.after,Region.binds .any e=true→e.on<i:=fun i o hi e he hb=>by
  simp only [aDZ,List.all_eq_true]at hdown
  have:=hdown (o,i) (by
   have hil:i<l.length:=(List.getElem?_eq_some_iff.1 hi).1
   rw [List.mem_iff_getElem?]
   exact⟨i,by simp [hi]⟩) e (by simpa using he)
  simpa [hb]using this
 have hready:∀listed:Array Bool,listed.size=l.length→Region.ready .any l.toArray listed=[]→∀j,j<l.length→listed.getD j false=true:=by
  intro listed hsz hr j
  induction j using Nat.strongRecOn with
  |_ j ih=>
   intro hj
   cases hb:listed.getD j false with
   |true=>rfl
   |false=>
    exfalso
    have:j∈Region.ready .any l.toArray listed:=by
     refine mem_ready.2 ⟨?_,l[j],by simp [hj],fun e he hbd=>?_⟩
     ·have:j<listed.size:=by omega
      simp only [Array.getD,this,dite_true]at hb⊢;exact hb
     ·have h1:=hdown j l[j] (by simp [hj]) e he hbd
      exact ih e.on h1 (by omega)
    rw [hr]at this
    cases this
 intro fuel
 induction fuel with
 |zero=>
  intro listed a w hsz hcnt hcl hg
  have hall:=zG _ _ (by omega:cnt l.length (fun j=>listed.getD j false)=0)
  refine⟨?_,hdone listed a w hall hg⟩
  refine List.eq_nil_iff_forall_not_mem.2 fun j hj=>?_
  obtain⟨h1,o,h2,_⟩:=mem_ready.1 hj
  have hjl:j<l.length:=by have:=(Array.getElem?_eq_some_iff.1 h2).1;simpa using this
  have:=hall j hjl
  have hjs:j<listed.size:=by omega
  simp only [Array.getD,hjs,dite_true]at h1 this
  rw [h1]at this;cases this
 |succ fuel ih=>
  intro listed a w hsz hcnt hcl hg
  refine⟨fun hr=>hdone listed a w (hready listed hsz hr) hg,fun i hi=>?_⟩
  obtain⟨h1,o,h2,h3⟩:=mem_ready.1 hi
  have hil:i<l.length:=by have:=(Array.getElem?_eq_some_iff.1 h2).1;simpa using this
  have hio:l[i]? =some o:=by simpa using h2
  have his:i<listed.size:=by omega
  have hDi:listed.getD i false=false:=by simp only [Array.getD,his,dite_true]at h1⊢;exact h1
  have hD2:∀j,(listed.setIfInBounds i true).getD j false=if j=i then true else listed.getD j false:=fun j=>by
   by_cases e1:j=i
   ·subst e1;simp [Array.getD,his]
   ·rw [if_neg e1]
    simp only [Array.getD_eq_getD_getElem?]
    rw [Array.getElem?_setIfInBounds_ne (Ne.symm e1)]
  have hnext:∀a' w',Inv (listed.setIfInBounds i true) a' w'→wpAnyIn X.F 0 E.P .any l.toArray Q fuel (listed.setIfInBounds i true) a' w':=fun a' w' hg'=>by
   refine ih _ a' w' (by simpa using hsz) ?_ (fun j oj hj hd ed he hbd=>?_) hg'
   ·have h4:=aCK l.length (fun j=>listed.getD j false) i hil hDi
    have h5:(fun j=>(listed.setIfInBounds i true).getD j false)=fun j=>if j=i then true else listed.getD j false:=funext hD2
    rw [h5];omega
   ·simp only [hD2]at hd⊢
    by_cases e1:ed.on=i
    ·simp [e1]
    ·rw [if_neg e1]
     by_cases e2:j=i
     ·subst e2;rw [hio]at hj;cases hj;exact h3 ed he hbd
     ·rw [if_neg e2]at hd;exact hcl j oj hj hd ed he hbd
  unfold wpOpIn
  rw [h2]
  rcases hstep listed a w i o hsz hcl hio hDi (fun ed he hb=>h3 ed he hb) hg with⟨g1,g2⟩|⟨g1,g2⟩
  ·simp only [g1,if_true]
   exact g2 _ hnext
  ·simp only [g1,Bool.false_eq_true,if_false]
   exact⟨fun f _=>X.F_fn f,hnext _ w g2⟩
theorem aBP {σ:Ss} {en:List En} (hn:∀o∈l,∀j,o.dst=some j→j<X.n) (hlen:en.length=l.length) (hc:gX l (FU en)=true) {listed:Array Bool} (hsz:listed.size=l.length) (hcl:Closed l fun j=>listed.getD j false) {i:Nat} {o:Oper} {e:En} (hio:l[i]? =some o) (hie:en[i]? =some e) (hDi:listed.getD i false=false) (h3:∀ed∈o.after,Region.binds .any ed=true→listed.getD ed.on false=true)
  (hfact:aHI X E l o e (upA (lk σ.tm) ((TU l en).take i)) (upA (rsL σ.rs) ((RU en).take i))) {a:Act} {w:World} {Q:Exit→Act→World→Prop} (hg:Gam X (apD (lk σ.tm) (TU l en) 0 fun j=>listed.getD j false) (apD (rsL σ.rs) (RU en) 0 fun j=>listed.getD j false) a w):
  (Region.wanted o (yielded l.toArray a.tmps)=true∧∀K:Act→World→Prop,(∀a' w',Gam X (apD (lk σ.tm) (TU l en) 0 fun j=>(listed.setIfInBounds i true).getD j false) (apD (rsL σ.rs) (RU en) 0 fun j=>(listed.setIfInBounds i true).getD j false) a' w'→K a' w')→o.wpIn X.F 0 E.P a w K Q)∨
  (Region.wanted o (yielded l.toArray a.tmps)=false∧Gam X (apD (lk σ.tm) (TU l en) 0 fun j=>(listed.setIfInBounds i true).getD j false) (apD (rsL σ.rs) (RU en) 0 fun j=>(listed.setIfInBounds i true).getD j false) (a.put o.dst undef) w):=by
 obtain⟨htm,hrs,etm,ers⟩:=aLb (σ:=σ) hlen hc hsz hcl hio hie hDi h3
 have hno:∀k,o.dst=some k→k<X.n:=hn o (List.mem_of_getElem? hio)
 rcases hfact with⟨foot,g1,g2,g3⟩|⟨g1,g2,j,want,d,v,g3,g4,g5,g6,g7⟩
 ·have hwant:Region.wanted o (yielded l.toArray a.tmps)=true:=by
   rcases g3 with g3|⟨j,want,d,g3,g4,g5,g6⟩
   ·simp [Region.wanted,g3]
   ·have h4:=htm d (lS g3 g4)
    simp [Region.wanted,g3,fP hg g4 (h4.trans g6) g5]
  refine .inl ⟨hwant,fun K hK=>g1 _ _ (fun x hx=>?_) (fun r hr=>hrs r (g2 r hr)) a w _ Q hg fun a' w' hg'=>hK a' w' ?_⟩
  ·cases x with
   |tmp t=>exact htm t (vU hx)
   |const v=>rfl
   |func f=>rfl
   |global g=>rfl
  ·rw [etm,ers]at hg';exact hg'
 ·have h4:=htm d (lS g3 g4)
  have hwant:Region.wanted o (yielded l.toArray a.tmps)=false:=by
   simp only [Region.wanted,g3,fP hg g4 (h4.trans g6) g5]
   cases v<;>simp_all
  refine .inr ⟨hwant,?_⟩
  rw [←etm,←ers]
  obtain⟨q1,q2,c,hp,ht,hpin⟩:=hg
  rw [g2]
  exact bZ q1 q2 ht hpin (Ext.refl _ _ _ _) hp hno (by rw [g1];simp [Sv.ok])
def TxS (X:Cx) (E:Env) (opsA:List Oper) (k:Nat):Nat→List Oper→Ss→List En→Ss→Prop
 |_,[],σ,en,τ=>en=[]∧σ=τ
 |n,o::r,σ,en,τ=>∃e en' nx,en=e::en'∧(n=k∨aHI X E opsA o e (lk σ.tm) (rsL σ.rs))∧TxS X E opsA k (n+1) r (σ.ap o.dst e.sv e.ru nx) en' τ
theorem yY {opsA:List Oper} {k:Nat}:∀(r:List Oper) (n:Nat) (σ τ:Ss) (en:List En),TxS X E opsA k n r σ en τ→en.length=r.length∧
  (∀i o,r[i]? =some o→∃e,en[i]? =some e∧(n+i=k∨aHI X E opsA o e (upA (lk σ.tm) ((TU r en).take i)) (upA (rsL σ.rs) ((RU en).take i))))∧
  lk τ.tm=upA (lk σ.tm) (TU r en)∧rsL τ.rs=upA (rsL σ.rs) (RU en)
 |[],n,σ,τ,en,h=>by
  obtain⟨rfl,rfl⟩:=h
  exact⟨rfl,by simp,rfl,rfl⟩
 |o::r,n,σ,τ,en,h=>by
  obtain⟨e,en',nx,rfl,hf,ht⟩:=h
  obtain⟨h1,h2,h3,h4⟩:=yY r (n+1) _ τ en' ht
  rw [tS,qA]at h2 h3
  rw [nZ,nC]at h2 h4
  refine⟨by simp [h1],fun i o' hi=>?_,h3,h4⟩
  cases i with
  |zero=>simp at hi;subst hi;exact⟨e,rfl,hf⟩
  |succ i=>
   simp only [List.getElem?_cons_succ]at hi
   obtain⟨e',h5,h6⟩:=h2 i o' hi
   exact⟨e',h5,by rcases h6 with h6|h6;exact .inl (by omega);exact .inr h6⟩
theorem zF {D:Nat→Bool} (hD:Closed l D) {i k:Nat} (h:((aEC l []).getD i 0).testBit k=true) (hi:D i=true):D k=true:=
 lP hD l [] (by simp) (by simp) i k h hi
theorem aFo {σ:Ss} {Q:Exit→Act→World→Prop} (hn:∀o∈l,∀j,o.dst=some j→j<X.n) {k:Nat} {ok:Oper} (hko:l[k]? =some ok) (hgd:ok.guard=none) {Z:Type} {Φ:Z→Prop} {sv:Z→Sv} {ru:Z→List (Nat×Rs)} {ft foot:List Nat} {pre:List En} (hpre:pre.length=k)
  (hdep:∀i,k<i→i<l.length→((aEC l []).getD i 0).testBit k=true)
  (hfoot:∀z,Φ z→∀i∈foot,i∈ft∨i∈(ru z).map (·.1))
  (hstep:∀tm rs,(∀x∈ok.op.operands.toList,opd tm x=opd (upA (lk σ.tm) (TU l pre)) x)→(∀i∈foot,rs i=upA (rsL σ.rs) (RU pre) i)→∀a w (K:Act→World→Prop),Gam X tm rs a w→(∀z,Φ z→∀a' w',Gam X (sT tm ok.dst (sv z)) (dP rs (ru z)) a' w'→K a' w')→ok.wpIn X.F 0 E.P a w K Q)
  (hT:∀z,Φ z→∃en' τ,TxS X E l k 0 l σ (pre++⟨sv z,ru z,ft⟩::en') τ∧gX l (FU (pre++⟨sv z,ru z,ft⟩::en'))=true∧∀a w,Gam X (lk τ.tm) (rsL τ.rs) a w→Q .normal a w)
  {z0:Z} (h0:Φ z0) (fuel:Nat) (listed:Array Bool) (a:Act) (w:World) (hsz:listed.size=l.length) (hcnt:cnt l.length (fun j=>listed.getD j false)≤fuel) (hno:∀j,listed.getD j false=false) (hg:Gam X (lk σ.tm) (rsL σ.rs) a w):wpAnyIn X.F 0 E.P .any l.toArray Q fuel listed a w:=by
 have hkl:k<l.length:=(List.getElem?_eq_some_iff.1 hko).1
 obtain⟨en0',τ0,hT0,hc0,_⟩:=hT z0 h0
 obtain⟨en0,he0⟩:∃en0,en0=pre++⟨sv z0,ru z0,ft⟩::en0':=⟨_,rfl⟩
 rw [←he0]at hT0 hc0
 obtain⟨hl0,hat0,_,_⟩:=yY l 0 σ τ0 en0 hT0
 have take_T:∀(e:En) (en':List En),(TU l (pre++e::en')).take k=TU l pre:=fun e en'=>by
  unfold TU
  have h1:(List.zipWith (fun o e=>dl o.dst e.sv) l pre)=(List.zipWith (fun o e=>dl o.dst e.sv) l pre).take k:=(List.take_of_length_le (by simp [hpre];omega)).symm
  rw [h1,List.take_zipWith,List.take_zipWith,List.take_append_of_le_length (by omega)]
 have take_R:∀(e:En) (en':List En),(RU (pre++e::en')).take k=RU pre:=fun e en'=>by
  unfold RU
  rw [←List.map_take,List.take_append_of_le_length (by omega),List.take_of_length_le (by omega)]
 have at_k:∀(e:En) (en':List En),(pre++e::en')[k]? =some e:=fun e en'=>by
  rw [List.getElem?_append_right (by omega),hpre];simp
 have at_lt:∀(e e1:En) (en' en1:List En) (j:Nat),j<k→(pre++e::en')[j]? =(pre++e1::en1)[j]? :=fun e e1 en' en1 j hj=>by
  rw [List.getElem?_append_left (by omega),List.getElem?_append_left (by omega)]
 have hdown:aDZ l=true:=by
  have:=hc0
  simp only [gX,Bool.and_eq_true]at this
  exact this.1
 refine aLY (E:=E) (Inv:=fun listed a w=>(listed.getD k false=false∧Gam X (apD (lk σ.tm) (TU l en0) 0 fun j=>listed.getD j false) (apD (rsL σ.rs) (RU en0) 0 fun j=>listed.getD j false) a w)∨
  (listed.getD k false=true∧∃en τ,TxS X E l k 0 l σ en τ∧gX l (FU en)=true∧(∀a w,Gam X (lk τ.tm) (rsL τ.rs) a w→Q .normal a w)∧Gam X (apD (lk σ.tm) (TU l en) 0 fun j=>listed.getD j false) (apD (rsL σ.rs) (RU en) 0 fun j=>listed.getD j false) a w)) hdown
  (fun listed a w hall hInv=>?_) (fun listed a w i o hsz hcl hio hDi h3 hInv=>?_) fuel listed a w hsz hcnt (fun j o _ hd=>by simp only [hno]at hd;cases hd) (.inl ⟨hno k,?_⟩)
 ·rcases hInv with⟨h1,_⟩|⟨_,en,τ,hT1,hc1,hQ,hg⟩
  ·rw [hall k hkl]at h1;cases h1
  ·obtain⟨hlen,hat,hτ1,hτ2⟩:=yY l 0 σ τ en hT1
   refine hQ a w ?_
   have e1:apD (lk σ.tm) (TU l en) 0 (fun j=>listed.getD j false)=lk τ.tm:=by
    rw [hτ1]
    funext s
    have h1:=cS (TU l en) 0 (lk σ.tm) (lk σ.tm) (fun j=>listed.getD j false) (fun j=>decide (j<0+l.length)) s rfl (fun j u hj _=>by
     have hjl:j<(TU l en).length:=(List.getElem?_eq_some_iff.1 hj).1
     have:j<l.length:=by simp [TU]at hjl;omega
     simp only [Nat.zero_add,hall j this];simp [this])
    rw [h1,nD,List.take_of_length_le (by simp [TU];omega)]
   have e2:apD (rsL σ.rs) (RU en) 0 (fun j=>listed.getD j false)=rsL τ.rs:=by
    rw [hτ2]
    funext s
    have h1:=cS (RU en) 0 (rsL σ.rs) (rsL σ.rs) (fun j=>listed.getD j false) (fun j=>decide (j<0+l.length)) s rfl (fun j u hj _=>by
     have hjl:j<(RU en).length:=(List.getElem?_eq_some_iff.1 hj).1
     have:j<l.length:=by simp [RU]at hjl;omega
     simp only [Nat.zero_add,hall j this];simp [this])
    rw [h1,nD,List.take_of_length_le (by simp [RU];omega)]
   rwa [e1,e2]at hg
 ·have his:i<listed.size:=by rw [hsz];exact(List.getElem?_eq_some_iff.1 hio).1
  have hD2:∀j,(listed.setIfInBounds i true).getD j false=if j=i then true else listed.getD j false:=fun j=>by
   by_cases e1:j=i
   ·subst e1;simp [Array.getD,his]
   ·rw [if_neg e1]
    simp only [Array.getD_eq_getD_getElem?]
    rw [Array.getElem?_setIfInBounds_ne (Ne.symm e1)]
  rcases hInv with⟨hk0,hg⟩|⟨hk1,en,τ,hT1,hc1,hQ,hg⟩
  ·have hlt:∀j,j<l.length→listed.getD j false=true→j<k:=fun j hj hd=>by
    rcases Nat.lt_trichotomy j k with q|q|q
    ·exact q
    ·subst q;rw [hk0]at hd;cases hd
    ·have:=zF hcl (hdep j q hj) hd
     rw [hk0]at this;cases this
   have hik:i≤k:=by
    refine Classical.byContradiction fun q=>?_
    have hD':Closed l (fun j=>if j=i then true else listed.getD j false):=fun j o' ho hj e he hb=>by
     by_cases e1:j=i
     ·subst e1;rw [hio]at ho;cases ho
      have:=h3 e he hb
      simp [this]
     ·simp only [e1,if_false]at hj
      have:=hcl j o' ho hj e he hb
      simp only at this
      simp [this]
    have:=zF hD' (hdep i (by omega) (by omega)) (by simp)
    have e1:k≠i:=by omega
    simp only [e1,if_false]at this
    rw [hk0]at this;cases this
   by_cases e1:i=k
   ·subst e1
    rw [hko]at hio
    cases hio
    have hie0:en0[i]? =some ⟨sv z0,ru z0,ft⟩:=by rw [he0];exact at_k _ _
    obtain⟨htm,hrs,_,_⟩:=aLb (σ:=σ) hl0 hc0 hsz hcl hko hie0 hDi h3
    refine .inl ⟨by simp [Region.wanted,hgd],fun K hK=>hstep _ _ (fun x hx=>?_) (fun r hr=>?_) a w K hg fun z hz a' w' hg'=>hK a' w' (.inr ⟨by rw [hD2];simp,?_⟩)⟩
    ·cases x with
     |tmp t=>
      have:=htm t (vU hx)
      rw [he0,take_T]at this
      rw [he0]
      exact this
     |const v=>rfl
     |func f=>rfl
     |global g=>rfl
    ·have:=hrs r (hfoot z0 h0 r hr)
     rw [he0,take_R]at this
     rw [he0]
     exact this
    ·obtain⟨en',τ,q1,q2,q3⟩:=hT z hz
     refine⟨_,τ,q1,q2,q3,?_⟩
     obtain⟨ql,_,_,_⟩:=yY l 0 σ τ _ q1
     obtain⟨_,_,s3,s4⟩:=aLb (σ:=σ) ql q2 hsz hcl hko (at_k ⟨sv z,ru z,ft⟩ en') hDi h3
     have a1:apD (lk σ.tm) (TU l en0) 0 (fun j=>listed.getD j false)=apD (lk σ.tm) (TU l (pre++⟨sv z,ru z,ft⟩::en')) 0 (fun j=>listed.getD j false):=by
      refine aFp _ _ _ _ _ (by simp only [TU,List.length_zipWith,hl0,ql]) fun j hj=>?_
      rw [Nat.zero_add]at hj
      have hjl:j<l.length:=by
       rw [←hsz]
       refine Classical.byContradiction fun q=>?_
       simp only [Array.getD,q,dite_false]at hj
       cases hj
      simp only [TU,List.getElem?_zipWith]
      rw [he0,at_lt _ _ _ _ j (hlt j hjl hj)]
     have a2:apD (rsL σ.rs) (RU en0) 0 (fun j=>listed.getD j false)=apD (rsL σ.rs) (RU (pre++⟨sv z,ru z,ft⟩::en')) 0 (fun j=>listed.getD j false):=by
      refine aFp _ _ _ _ _ (by simp only [RU,List.length_map,hl0,ql]) fun j hj=>?_
      rw [Nat.zero_add]at hj
      have hjl:j<l.length:=by
       rw [←hsz]
       refine Classical.byContradiction fun q=>?_
       simp only [Array.getD,q,dite_false]at hj
       cases hj
      simp only [RU,List.getElem?_map]
      rw [he0,at_lt _ _ _ _ j (hlt j hjl hj)]
     rw [←s3,←s4,←a1,←a2]
     exact hg'
   ·obtain⟨e,hie,hf⟩:=hat0 i o hio
    rcases hf with hf|hf
    ·omega
    have hk2:(listed.setIfInBounds i true).getD k false=false:=by rw [hD2,if_neg (Ne.symm e1)];exact hk0
    rcases aBP (Q:=Q) hn hl0 hc0 hsz hcl hio hie hDi h3 hf hg with⟨g1,g2⟩|⟨g1,g2⟩
    ·exact .inl ⟨g1,fun K hK=>g2 K fun a' w' hg'=>hK a' w' (.inl ⟨hk2,hg'⟩)⟩
    ·exact .inr ⟨g1, .inl ⟨hk2,g2⟩⟩
  ·have e1:i≠k:=fun q=>by subst q;rw [hk1]at hDi;cases hDi
   obtain⟨hlen,hat,_,_⟩:=yY l 0 σ τ en hT1
   obtain⟨e,hie,hf⟩:=hat i o hio
   rcases hf with hf|hf
   ·omega
   have hk2:(listed.setIfInBounds i true).getD k false=true:=by rw [hD2,if_neg (Ne.symm e1)];exact hk1
   rcases aBP (Q:=Q) hn hlen hc1 hsz hcl hio hie hDi h3 hf hg with⟨g1,g2⟩|⟨g1,g2⟩
   ·exact .inl ⟨g1,fun K hK=>g2 K fun a' w' hg'=>hK a' w' (.inr ⟨hk2,en,τ,hT1,hc1,hQ,hg'⟩)⟩
   ·exact .inr ⟨g1, .inr ⟨hk2,en,τ,hT1,hc1,hQ,g2⟩⟩
 ·have e1:apD (lk σ.tm) (TU l en0) 0 (fun j=>listed.getD j false)=lk σ.tm:=funext fun s=>jA _ _ _ _ _ fun j _ _ _=>hno _
  have e2:apD (rsL σ.rs) (RU en0) 0 (fun j=>listed.getD j false)=rsL σ.rs:=funext fun s=>jA _ _ _ _ _ fun j _ _ _=>hno _
  rw [e1,e2]
  exact hg
end
def aL9 (opsA:List Oper) (k:Nat):Bool:=(List.range opsA.length).all fun i=>decide (i≤k)||((aEC opsA []).getD i 0).testBit k
theorem aMa {opsA:List Oper} {k:Nat} (h:aL9 opsA k=true) {i:Nat} (hi:k<i) (hl:i<opsA.length):((aEC opsA []).getD i 0).testBit k=true:=by
 have:=List.all_eq_true.1 h i (List.mem_range.2 hl)
 simp only [Bool.or_eq_true,decide_eq_true_eq]at this
 rcases this with q|q
 ·omega
 ·exact q
def nP (X:Cx) (E:Env) (opsA:List Oper):List Oper→Ss→List (List Nat×List Nat)→(Ss→Prop)→Prop
 |[],σ,acc,K=>False
 |o::r,σ,acc,K=>aMk X E opsA o σ (fun σ'=>nP X E opsA r σ' ((eB σ o,(σ'.rs.take (σ'.rs.length-σ.rs.length)).map (·.1))::acc) K)∨
  (o.guard=none∧aL9 opsA acc.length=true∧∃(x:Operand) (xs:List Operand) (tys:Array TypeId) (f:FuncId) (caps es:List Sv) (L0:List (Nat×Rs)) (Z:Type) (Φ:Z→Prop) (q:Z→Sv) (L1:Z→List (Nat×Rs)) (ML:List (Nat×Nat)) (V:List Nat) (z0:Z),
   o.op= .call {callee:= .value x,args:=xs.toArray,argTypes:=tys}∧σ.opd x= .fn f caps∧aF E.P f∧SpecE E.P f es L0 Φ q L1∧CallOk (rsL σ.rs) L0 ML V∧Sv.mtL ML V (rsL σ.rs) (rsL L0) (xs.map σ.opd++caps) es∧Φ z0∧
   (∀i∈V,i∈bP (rsL σ.rs) 3 ((Sv.fn f caps).ids++(xs.map σ.opd).flatMap Sv.ids))∧
   ∀z,Φ z→fD X E opsA r (σ.ap o.dst ((q z).ren (aR (rsL σ.rs) (rsL (L1 z)) ML V)) (bV (aR (rsL σ.rs) (rsL (L1 z)) ML V) (rsL (L1 z))) (vP σ.nx (bV (aR (rsL σ.rs) (rsL (L1 z)) ML V) (rsL (L1 z))))) ((eB σ o,ML.map (·.2))::acc) K)
section
variable {X:Cx} {E:Env} {w1:World} {U1:Nat→Prop} {ds:List Deferred}
theorem aQu {X:Cx} {opsA:List Oper} {k:Nat}:∀(r:List Oper) (n:Nat) (σ τ:Ss) (en:List En),Tx X E opsA r σ en τ→TxS X E opsA k n r σ en τ
 |[],_,_,_,_,h=>h
 |o::r,n,σ,τ,en,h=>by
  obtain⟨e,en',nx,h1,h2,h3⟩:=h
  exact⟨e,en',nx,h1, .inr h2,aQu r (n+1) _ τ en' h3⟩
def DEf (X:Cx) (E:Env) (opsA r:List Oper) (n:Nat) (σ:Ss) (acc:List (List Nat×List Nat)) (K:Ss→Prop):Prop:=
 ∃(pre:List En) (ok:Oper) (Z:Type) (Φ:Z→Prop) (sv:Z→Sv) (ru:Z→List (Nat×Rs)) (ft foot:List Nat) (z0:Z),r[pre.length]? =some ok∧ok.guard=none∧aL9 opsA (n+pre.length)=true∧
  (∀z,Φ z→∀i∈foot,i∈ft∨i∈(ru z).map (·.1))∧
  (∀(Q:Exit→Act→World→Prop) tm rs,(∀x∈ok.op.operands.toList,opd tm x=opd (upA (lk σ.tm) (TU r pre)) x)→(∀i∈foot,rs i=upA (rsL σ.rs) (RU pre) i)→∀a w (K:Act→World→Prop),Gam X tm rs a w→(∀z,Φ z→∀a' w',Gam X (sT tm ok.dst (sv z)) (dP rs (ru z)) a' w'→K a' w')→ok.wpIn X.F 0 E.P a w K Q)∧
  Φ z0∧∀z,Φ z→∃en' τ,TxS X E opsA (n+pre.length) n r σ (pre++⟨sv z,ru z,ft⟩::en') τ∧gX opsA (acc.reverse++FU (pre++⟨sv z,ru z,ft⟩::en'))=true∧K τ
theorem DEf.cons {opsA r:List Oper} {o:Oper} {n:Nat} {σ:Ss} {acc:List (List Nat×List Nat)} {K:Ss→Prop} {e:En} {nx:Nat} (hf:aHI X E opsA o e (lk σ.tm) (rsL σ.rs)) (h:DEf X E opsA r (n+1) (σ.ap o.dst e.sv e.ru nx) ((e.ft,e.ru.map (·.1))::acc) K):DEf X E opsA (o::r) n σ acc K:=by
 obtain⟨pre,ok,Z,Φ,sv,ru,ft,foot,z0,h1,h2,h3,h4,h5,h6,h7⟩:=h
 refine⟨e::pre,ok,Z,Φ,sv,ru,ft,foot,z0,by simpa using h1,h2,by rw [List.length_cons,show n+(pre.length+1)=n+1+pre.length by omega];exact h3,h4,fun Q tm rs a1 a2=>h5 Q tm rs (fun x hx=>?_) (fun i hi=>?_),h6,fun z hz=>?_⟩
 ·rw [a1 x hx]
  rw [tS,qA]
  rfl
 ·rw [a2 i hi]
  rw [nZ,nC]
  rfl
 ·obtain⟨en',τ,q1,q2,q3⟩:=h7 z hz
  refine⟨en',τ,⟨e,_,nx,rfl, .inr hf,?_⟩,?_,q3⟩
  ·rw [List.length_cons,show n+(pre.length+1)=n+1+pre.length by omega];exact q1
  ·simpa [FU]using q2
theorem rV (hr:Reb X w1 U1 ds) {opsA:List Oper} {K:Ss→Prop} (hk:E.hk X.c0 X.rs0) (hn:∀o'∈opsA,∀k,o'.dst=some k→k<X.n):∀(l:List Oper) (σ:Ss) (acc:List (List Nat×List Nat)),(∀o∈l,∀k,o.dst=some k→k<X.n)→
  nP X E opsA l σ acc K→DEf (X.at w1 U1 ds) E opsA l acc.length σ acc K
 |[],_,_,_,h=>h.elim
 |o::l,σ,acc,hl,h=>by
  simp only [nP]at h
  have key:∀(sv:Sv) (ru:List (Nat×Rs)) (nx:Nat),((σ.ap o.dst sv ru nx).rs.take ((σ.ap o.dst sv ru nx).rs.length-σ.rs.length)).map (·.1)=ru.map (·.1):=fun sv ru nx=>by
   simp [Ss.ap]
  rcases h with h|⟨hgd,hdp,x,xs,tys,f,caps,es,L0,Z,Φ,q,L1,ML,V,z0,ho,hx,hf,hs,hco,hm,hz0,hV,hK⟩
  ·rcases rW hr hk hn (hl o (by simp)) h with⟨foot,sv,ru,nx,h1,h2,h3,h4⟩|⟨h2,h4⟩
   ·have h:=rV hr hk hn l _ _ (fun o ho=>hl o (by simp [ho])) h2
    rw [key]at h
    exact DEf.cons (e:=⟨sv,ru,eB σ o⟩) (.inl ⟨foot,h1,h3,h4⟩) h
   ·have h:=rV hr hk hn l _ _ (fun o ho=>hl o (by simp [ho])) h2
    rw [key]at h
    exact DEf.cons (e:=⟨.v undef,[],eB σ o⟩) (.inr ⟨rfl,rfl,h4⟩) h
  ·have hft:eB σ o=bP (rsL σ.rs) 3 ((σ.opd x).ids++(xs.map σ.opd).flatMap Sv.ids):=by
    simp [eB,aBi,rT,ho,Op.operands,Call.operands,List.flatMap_map]
   refine⟨[],o,Z,Φ,fun z=>(q z).ren (aR (rsL σ.rs) (rsL (L1 z)) ML V),fun z=>bV (aR (rsL σ.rs) (rsL (L1 z)) ML V) (rsL (L1 z)),eB σ o,V++ML.map (·.2),z0,rfl,hgd,hdp,fun z hz i hi=>?_,fun Q tm rs g1 g2 a w K' hg hK'=>?_,hz0,fun z hz=>?_⟩
   rotate_left 2
   ·obtain⟨en',τ,q1,q2,q3⟩:=nQ hr hk hn l _ _ (fun o ho=>hl o (by simp [ho])) (hK z hz)
    refine⟨en',τ,⟨_,en',_,rfl, .inl rfl,aQu l _ _ τ en' q1⟩,?_,q3⟩
    have:(bV (aR (rsL σ.rs) (rsL (L1 z)) ML V) (rsL (L1 z))).map (·.1)=ML.map (·.2):=by simp [bV,aR,Function.comp_def]
    simpa [FU,this]using q2
   ·rcases List.mem_append.1 hi with hi|hi
    ·exact .inl (by rw [hft,hx];exact hV i hi)
    ·exact .inr (by simpa [bV,aR,Function.comp_def]using hi)
   ·have he:∀i∈V,rs i=rsL σ.rs i:=fun i hi=>g2 i (by simp [hi])
    have hM:∀i∈ML.map (·.2),rs i=rsL σ.rs i:=fun i hi=>g2 i (List.mem_append_right _ hi)
    have hx':opd tm x=σ.opd x:=g1 x (by simp [ho,Op.operands,Call.operands])
    have hargs:xs.map (opd tm)=xs.map σ.opd:=List.map_congr_left fun y hy=>g1 y (by
     simp only [ho,Op.operands,Call.operands]
     simp at hy⊢
     exact .inr hy)
    refine aAV (X:=X.at w1 U1 ds) (E:=E) (tm:=tm) (rs:=rs) (hl o (by simp)) x xs tys ho f caps (hx'.trans hx) hf es L0 hs ML V (nM hco he hM) (by rw [hargs];exact fS he _ _ hm) hg fun z hz a' w' hg'=>hK' z hz a' w' ?_
    rw [nN _ he hM]at hg'
    exact hg'
theorem aI0 {σ:Ss} {Q:Exit→Ss→Prop} {l:List Oper} (id:Nat) (hm:E.P.follows .mixedOrders=true) (hn:l.all (fun o=>o.dst.all (fun k=>decide (k<X.n)))=true) (h:∀K:Ss→Prop,(∀s,Q .normal s→K s)→nP X E l l σ [] K):V X E (.region id l.toArray true) σ Q:=fun hk a w hg=>by
 obtain⟨w1,U1,ds,hr,hg⟩:=hg
 have hn':∀o'∈l,∀k,o'.dst=some k→k<X.n:=fun o ho k hk=>by
  have:=List.all_eq_true.1 hn o ho
  rw [hk]at this
  simpa using this
 obtain⟨pre,ok,Z,Φ,sv,ru,ft,foot,z0,h1,h2,h3,h4,h5,h6,h7⟩:=rV hr hk hn' l σ [] hn' (h _ fun _ h=>h)
 refine wpIn_region_any hm ?_
 have hgd:∀j,(Array.replicate l.toArray.size false).getD j false=false:=fun j=>by
  simp only [Array.getD];split<;>simp
 simp only [List.length_nil,Nat.zero_add,List.reverse_nil,List.nil_append]at h3 h7
 refine aFo (X:=X.at w1 U1 ds) (E:=E) hn' h1 h2 (pre:=pre) (foot:=foot) (ft:=ft) (Φ:=Φ) (sv:=sv) (ru:=ru) rfl (fun i hi hl=>aMa h3 hi hl) h4 (fun tm rs a1 a2=>h5 _ tm rs a1 a2) (fun z hz=>?_) h6 _ _ a _ (by simp) ?_ hgd (zS hg)
 ·obtain⟨en',τ,q1,q2,q3⟩:=h7 z hz
  exact⟨en',τ,q1,q2,fun a' w' hg'=>⟨τ,⟨w1,U1,ds,hr,hg'⟩,q3⟩⟩
 ·have:∀n D,cnt n D≤n:=by
   intro n D
   induction n with
   |zero=>exact Nat.le_refl _
   |succ n ih=>simp only [cnt];split<;>omega
  simpa using this _ _
section
variable {A r:List Oper} {σ:Ss} {K:Ss→Prop} {d:Option Nat} {op:Op} {t:TypeId} {p:String} {af:Array Edge} {acc:List (List Nat×List Nat)}
theorem aHV (h:∀K':Ss→Prop,(∀s,nP X E A r s ((eB σ ⟨d,op,t,p,af,none⟩,(s.rs.take (s.rs.length-σ.rs.length)).map (·.1))::acc) K→K' s)→jJ E d op σ K'):nP X E A (⟨d,op,t,p,af,none⟩::r) σ acc K:= .inl (.inl (h _ fun _ h=>h))
theorem aHU {f:FuncId} {xs:List Operand} {tys:Array TypeId} {as es:List Sv} {L0:List (Nat×Rs)} {Z:Type} {Φ:Z→Prop} {q:Z→Sv} {L1:Z→List (Nat×Rs)} (hs:SpecE E.P f es L0 Φ q L1) (hc:aF E.P f) (ML:List (Nat×Nat)) (V:List Nat) (z0:Z) (hz0:Φ z0)
  (ha:xs.map σ.opd=as) (h1:qY (rsL σ.rs) (bP (rsL σ.rs) 3 ((Sv.fn f []).ids++as.flatMap Sv.ids)) L0 ML V) (h2:Sv.mtL ML V (rsL σ.rs) (rsL L0) (as++[]) es) (hd:aL9 A acc.length=true)
  (h3:∀z,Φ z→fD X E A r (σ.ap d ((q z).ren (aR (rsL σ.rs) (rsL (L1 z)) ML V)) (bV (aR (rsL σ.rs) (rsL (L1 z)) ML V) (rsL (L1 z))) (vP σ.nx (bV (aR (rsL σ.rs) (rsL (L1 z)) ML V) (rsL (L1 z))))) ((eB σ ⟨d, .call {callee:= .value (.func f),args:=xs.toArray,argTypes:=tys},t,p,af,none⟩,ML.map (·.2))::acc) K):
  nP X E A (⟨d, .call {callee:= .value (.func f),args:=xs.toArray,argTypes:=tys},t,p,af,none⟩::r) σ acc K:=by
 subst ha
 obtain⟨a1,a2,a3,a4,a5⟩:=h1
 exact .inr ⟨rfl,hd, .func f,xs,tys,f,[],es,L0,Z,Φ,q,L1,ML,V,z0,rfl,rfl,hc,hs,⟨a1,a2,fun i hi=>(gA a4 i hi).1,fun i hi=>(gA a4 i hi).2.1,fun k=>(jR a3 k).1,fun k=>(jR a3 k).2,tF a5⟩,h2,hz0,fun i hi=>(gA a4 i hi).2.2,h3⟩
end
end
end Go.Eng
