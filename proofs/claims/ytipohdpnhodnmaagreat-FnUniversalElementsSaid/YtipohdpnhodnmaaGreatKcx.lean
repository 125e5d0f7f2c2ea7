/- Several texts in one: EngP, EngQ, EngR, EngS, EngT, EngU, EngV. -/
import Derived.Test.YtipohdpnhodnmaaGreatKbx
import Derived.RangeFuncLeaves
import Derived.RangeFuncRecord
section
namespace Go.Eng
open Go
/-! ### Writings, one behind the other, of which some are left out -/
def upG {α:Type} (f:Nat→α):List (Nat×α)→Nat→α
 |[]=>f
 |(i,r)::l=>upd (upG f l) i r
theorem aCW {α:Type} {f:Nat→α} {u:List (Nat×α)} {s:Nat} (h:s∉u.map (·.1)):upG f u s=f s:=by
 induction u with
 |nil=>rfl
 |cons p u ih=>
  obtain⟨i,r⟩:=p
  simp only [List.map_cons,List.mem_cons,not_or]at h
  simp only [upG,upd,if_neg h.1]
  exact ih h.2
theorem aLt {α:Type} {f g:Nat→α} {u:List (Nat×α)} {s:Nat} (h:s∈u.map (·.1)):upG f u s=upG g u s:=by
 induction u with
 |nil=>simp at h
 |cons p u ih=>
  obtain⟨i,r⟩:=p
  simp only [upG,upd]
  split
  ·rfl
  ·rename_i e
   simp only [List.map_cons,List.mem_cons]at h
   exact ih (h.resolve_left e)
theorem aAH (rs:Nat→Rs):∀l,dC rs l=upG rs l
 |[]=>rfl
 |(i,r)::l=>by simp only [dC,upG,aAH rs l]
def dl (d:Option Nat) (s:Sv):List (Nat×Sv):=match d with|some d=>[(d,s)]|none=>[]
theorem aEy (tm:Nat→Sv) (d:Option Nat) (s:Sv):wM tm d s=upG tm (dl d s):=by cases d<;>rfl
def apD {α:Type} (f:Nat→α):List (List (Nat×α))→Nat→(Nat→Bool)→Nat→α
 |[],_,_=>f
 |u::r,k,D=>apD (if D k then upG f u else f) r (k+1) D
theorem fV {α:Type}:∀(l:List (List (Nat×α))) (k:Nat) (f g:Nat→α) (D D':Nat→Bool) (s:Nat),f s=g s→
  (∀j u,l[j]? =some u→s∈u.map (·.1)→D (k+j)=D' (k+j))→apD f l k D s=apD g l k D' s
 |[],_,_,_,_,_,_,h,_=>h
 |u::l,k,f,g,D,D',s,h,hd=>by
  simp only [apD]
  refine fV l (k+1) _ _ D D' s ?_ (fun j v hj hs=>by have:=hd (j+1) v (by simpa using hj) hs;simpa [Nat.add_assoc,Nat.add_comm 1 j]using this)
  by_cases hs:s∈u.map (·.1)
  ·have:=hd 0 u (by simp) hs
   simp only [Nat.add_zero]at this
   rw [this]
   split
   ·exact aLt hs
   ·exact h
  ·have h1:∀(b:Bool) (F:Nat→α),(if b=true then upG F u else F) s=F s:=fun b F=>by cases b<;>simp [aCW hs]
   rw [h1,h1];exact h
theorem lX {α:Type} (l:List (List (Nat×α))) (k:Nat) (f:Nat→α) (D:Nat→Bool) (s:Nat) (hd:∀j u,l[j]? =some u→s∈u.map (·.1)→D (k+j)=false):apD f l k D s=f s:=by
 have h1:=fV l k f f D (fun _=>false) s rfl hd
 rw [h1]
 clear h1 hd
 induction l generalizing k with
 |nil=>rfl
 |cons u l ih=>simp only [apD];exact ih (k+1)
theorem xQ {α:Type}:∀(l:List (List (Nat×α))) (k:Nat) (f g:Nat→α) (D:Nat→Bool) (s j:Nat) (u:List (Nat×α)),l[j]? =some u→s∈u.map (·.1)→D (k+j)=true→
  (∀j' u',j<j'→l[j']? =some u'→s∈u'.map (·.1)→D (k+j')=false)→apD f l k D s=upG g u s
 |[],_,_,_,_,_,_,_,h,_,_,_=>by simp at h
 |v::l,k,f,g,D,s,0,u,h,hs,hd,hl=>by
  simp at h
  subst h
  simp only [apD]
  rw [lX l (k+1) _ D s (fun j u' hj hs'=>by have:=hl (j+1) u' (by omega) (by simpa using hj) hs';simpa [Nat.add_assoc,Nat.add_comm 1 j]using this)]
  simp only [Nat.add_zero]at hd
  rw [if_pos hd]
  exact aLt hs
 |v::l,k,f,g,D,s,j+1,u,h,hs,hd,hl=>by
  simp only [apD]
  exact xQ l (k+1) _ g D s j u (by simpa using h) hs (by simpa [Nat.add_assoc,Nat.add_comm 1 j]using hd) (fun j' u' hj hu hs'=>by
   have:=hl (j'+1) u' (by omega) (by simpa using hu) hs';simpa [Nat.add_assoc,Nat.add_comm 1 j']using this)
/-! ### What may not meddle -/
def slotsOf (opsA:List Oper) (o:Oper):List Nat:=
 (o.op.operands.toList.filterMap fun| .tmp t=>some t|_=>none)++(match o.guard with|some (j,_)=>(cX opsA j).toList|none=>[])++o.dst.toList
def aMQ:List Oper→List Nat→List Nat
 |[],acc=>acc
 |o::r,acc=>aMQ r (acc++[o.after.toList.foldl (fun s e=>if Region.binds .any e then s|||2^e.on|||acc.getD e.on 0 else s) 0])
def xS (a b:List Nat):Bool:=a.all fun x=> !b.contains x
def fU (opsA:List Oper) (oi oj:Oper) (fi fj:List Nat×List Nat):Bool:=
 xS oi.dst.toList (slotsOf opsA oj)&&xS oj.dst.toList (slotsOf opsA oi)&&xS fi.2 (fj.1++fj.2)&&xS fj.2 (fi.1++fi.2)
def aNt (l:List Oper):Bool:=l.zipIdx.all fun(o,i)=>o.after.toList.all fun e=> !Region.binds .any e||decide (e.on<i)
def mD (l:List Oper) (F:List (List Nat×List Nat)):Bool:=
 aNt l&&(List.range l.length).all fun j=>(List.range j).all fun i=>
  ((aMQ l []).getD j 0).testBit i||(match l[i]?,l[j]?,F[i]?,F[j]? with|some oi,some oj,some fi,some fj=>fU l oi oj fi fj|_,_,_,_=>false)
def Closed (l:List Oper) (D:Nat→Bool):Prop:=∀j o,l[j]? =some o→D j=true→∀e∈o.after,Region.binds .any e=true→D e.on=true
theorem yM (acc:List Nat):∀(es:List Edge) (s i:Nat),(es.foldl (fun s e=>if Region.binds .any e then s|||2^e.on|||acc.getD e.on 0 else s) s).testBit i=true→
  s.testBit i=true∨∃e∈es,Region.binds .any e=true∧(e.on=i∨(acc.getD e.on 0).testBit i=true)
 |[],s,i,h=> .inl h
 |e::es,s,i,h=>by
  simp only [List.foldl_cons]at h
  rcases yM acc es _ i h with h|⟨e',he,h⟩
  ·split at h
   ·rename_i hb
    simp only [Nat.testBit_or,Bool.or_eq_true]at h
    rcases h with(h|h)|h
    ·exact .inl h
    ·refine .inr ⟨e,by simp,hb, .inl ?_⟩
     by_cases e1:e.on=i
     ·exact e1
     ·rw [Nat.testBit_two_pow_of_ne e1]at h;cases h
    ·exact .inr ⟨e,by simp,hb, .inr h⟩
   ·exact .inl h
  ·exact .inr ⟨e',by simp [he],h⟩
theorem oK {l0:List Oper} {D:Nat→Bool} (hD:Closed l0 D):∀(r:List Oper) (acc:List Nat),(∀j,r[j]? =l0[acc.length+j]?)→
  (∀j i,(acc.getD j 0).testBit i=true→D j=true→D i=true)→∀j i,((aMQ r acc).getD j 0).testBit i=true→D j=true→D i=true
 |[],_,_,h=>h
 |o::r,acc,hr,h=>by
  simp only [aMQ]
  refine oK hD r _ (fun j=>?_) (fun j i hb hj=>?_)
  ·have:=hr (j+1)
   simp only [List.getElem?_cons_succ]at this
   rw [this,List.length_append,List.length_singleton]
   congr 1
   omega
  ·by_cases e:j<acc.length
   ·rw [List.getD_eq_getElem?_getD,List.getElem?_append_left e]at hb
    exact h j i (by rwa [List.getD_eq_getElem?_getD]) hj
   ·by_cases e2:j=acc.length
    ·subst e2
     simp only [List.getD_eq_getElem?_getD,List.getElem?_append_right (Nat.le_refl _),Nat.sub_self,List.getElem?_cons_zero,Option.getD_some]at hb
     rcases yM acc o.after.toList 0 i (by simpa [List.getD_eq_getElem?_getD]using hb)with h1|⟨ed,he,hbd,h1⟩
     ·simp at h1
     ·have h0:=hr 0
      simp only [List.getElem?_cons_zero,Nat.add_zero]at h0
      have hon:=hD _ o h0.symm hj ed (by simpa using he) hbd
      rcases h1 with rfl|h1
      ·exact hon
      ·exact h _ i h1 hon
    ·have:(acc++[o.after.toList.foldl (fun s e=>if Region.binds .any e then s|||2^e.on|||acc.getD e.on 0 else s) 0])[j]? =none:=by
      rw [List.getElem?_eq_none];simp;omega
     rw [List.getD_eq_getElem?_getD,this]at hb
     simp at hb
theorem dN {a b:List Nat} (h:xS a b=true) {x:Nat} (hx:x∈a):x∉b:=by
 have:=List.all_eq_true.1 h x hx
 simpa using this
theorem yB {l:List Oper} {F:List (List Nat×List Nat)} (h:mD l F=true) {D:Nat→Bool} (hD:Closed l D) {i k:Nat} (hik:i≠k) {oi ok:Oper} {fi fk:List Nat×List Nat} (hi:l[i]? =some oi) (hk:l[k]? =some ok)
  (gi:F[i]? =some fi) (gk:F[k]? =some fk) (hord:(i<k∧D i=false∧D k=true)∨(k<i∧D k=false∧D i=true)∨(k<i∧D k=false∧∀e∈oi.after,Region.binds .any e=true→D e.on=true)):
  fU l oi ok fi fk=true∨fU l ok oi fk fi=true:=by
 simp only [mD,Bool.and_eq_true,List.all_eq_true,List.mem_range]at h
 obtain⟨_,h⟩:=h
 have hcl:=oK hD l [] (by simp) (by simp)
 rcases hord with⟨hlt,d1,d2⟩|⟨hlt,d1,d2⟩|⟨hlt,d1,d2⟩
 ·have hkl:k<l.length:=(List.getElem?_eq_some_iff.1 hk).1
  have h1:=h k hkl i hlt
  simp only [Bool.or_eq_true]at h1
  rcases h1 with h1|h1
  ·have:=hcl k i h1 d2;rw [d1]at this;cases this
  ·rw [hi,hk,gi,gk]at h1;exact .inl h1
 ·have hil:i<l.length:=(List.getElem?_eq_some_iff.1 hi).1
  have h1:=h i hil k hlt
  simp only [Bool.or_eq_true]at h1
  rcases h1 with h1|h1
  ·have:=hcl i k h1 d2;rw [d1]at this;cases this
  ·rw [hi,hk,gi,gk]at h1;exact .inr h1
 ·have hil:i<l.length:=(List.getElem?_eq_some_iff.1 hi).1
  have h1:=h i hil k hlt
  simp only [Bool.or_eq_true]at h1
  rcases h1 with h1|h1
  ·have hD':Closed l (fun j=>if j=i then true else D j):=fun j o ho hj e he hb=>by
    by_cases e1:j=i
    ·subst e1;rw [hi]at ho;cases ho
     have:=d2 e he hb
     simp [this]
    ·simp only [e1,if_false]at hj
     have:=hD j o ho hj e he hb
     simp [this]
   have:=oK hD' l [] (by simp) (by simp) i k h1 (by simp)
   have e1:k≠i:=Ne.symm hik
   simp only [e1,if_false]at this
   rw [d1]at this;cases this
  ·rw [hi,hk,gi,gk]at h1;exact .inr h1
end Go.Eng
end
section
namespace Go.Eng
open Go
structure En where
 sv:Sv
 ru:List (Nat×Rs)
 ft:List Nat
def TU (l:List Oper) (en:List En):List (List (Nat×Sv)):=List.zipWith (fun o e=>dl o.dst e.sv) l en
def RU (en:List En):List (List (Nat×Rs)):=en.map (·.ru)
def FU (en:List En):List (List Nat×List Nat):=en.map fun e=>(e.ft,e.ru.map (·.1))
def upA {α:Type} (f:Nat→α):List (List (Nat×α))→Nat→α
 |[]=>f
 |u::r=>upA (upG f u) r
theorem xR {α:Type}:∀(l:List (List (Nat×α))) (k i:Nat) (f:Nat→α),apD f l k (fun j=>decide (j<k+i))=upA f (l.take i)
 |[],_,i,f=>by simp [apD,upA]
 |u::l,k,0,f=>by
  funext s
  simp only [List.take_zero,upA]
  exact lX _ _ _ _ _ fun j _ _ _=>by simp
 |u::l,k,i+1,f=>by
  simp only [apD,List.take_succ_cons,upA]
  have h1:decide (k<k+(i+1))=true:=by simp
  rw [if_pos h1]
  have:=xR l (k+1) i (upG f u)
  rw [←this]
  congr 1
  funext j
  congr 1
  exact propext ⟨fun h=>by omega,fun h=>by omega⟩
section
variable {X:Cx} {E:Env} {l:List Oper}
def GOn (X:Cx) (opsA:List Oper) (o:Oper) (tm:Nat→Sv):Prop:=o.guard=none∨∃j want d,o.guard=some (j,want)∧cX opsA j=some d∧d<X.n∧tm d= .v (.bool want)
def aVJ (X:Cx) (opsA:List Oper) (o:Oper) (tm:Nat→Sv):Prop:=∃j want d v,o.guard=some (j,want)∧cX opsA j=some d∧d<X.n∧tm d= .v v∧v≠ .bool want
def aQx (X:Cx) (E:Env) (opsA:List Oper) (o:Oper) (e:En) (tm:Nat→Sv) (rs:Nat→Rs):Prop:=
 (∃foot,xO X E.P o tm rs foot e.sv e.ru∧(∀i∈foot,i∈e.ft∨i∈e.ru.map (·.1))∧GOn X opsA o tm)∨(e.sv= .v undef∧e.ru=[]∧aVJ X opsA o tm)
def Tx (X:Cx) (E:Env) (opsA:List Oper):List Oper→Ss→List En→Ss→Prop
 |[],σ,en,τ=>en=[]∧σ=τ
 |o::r,σ,en,τ=>∃e en' nx,en=e::en'∧aQx X E opsA o e (lk σ.tm) (rsL σ.rs)∧Tx X E opsA r (σ.ap o.dst e.sv e.ru nx) en' τ
theorem aNn {opsA:List Oper}:∀(r:List Oper) (σ τ:Ss) (en:List En),Tx X E opsA r σ en τ→en.length=r.length∧
  (∀i o,r[i]? =some o→∃e,en[i]? =some e∧aQx X E opsA o e (upA (lk σ.tm) ((TU r en).take i)) (upA (rsL σ.rs) ((RU en).take i)))∧
  lk τ.tm=upA (lk σ.tm) (TU r en)∧rsL τ.rs=upA (rsL σ.rs) (RU en)
 |[],σ,τ,en,h=>by
  obtain⟨rfl,rfl⟩:=h
  exact⟨rfl,by simp,rfl,rfl⟩
 |o::r,σ,τ,en,h=>by
  obtain⟨e,en',nx,rfl,hf,ht⟩:=h
  obtain⟨h1,h2,h3,h4⟩:=aNn r _ τ en' ht
  rw [yZ,aEy]at h2 h3
  rw [rC,aAH]at h2 h4
  refine⟨by simp [h1],fun i o' hi=>?_,h3,h4⟩
  cases i with
  |zero=>simp at hi;subst hi;exact⟨e,rfl,hf⟩
  |succ i=>
   simp only [List.getElem?_cons_succ]at hi
   exact h2 i o' hi
def cnt:Nat→(Nat→Bool)→Nat
 |0,_=>0
 |n+1,D=>cnt n D+if D n then 0 else 1
theorem aF1:∀(n:Nat) (D:Nat→Bool) (i:Nat),i<n→D i=false→cnt n (fun j=>if j=i then true else D j)+1=cnt n D
 |0,_,_,h,_=>by omega
 |n+1,D,i,h,hd=>by
  simp only [cnt]
  by_cases e:i=n
  ·subst e
   have:∀m,m≤i→cnt m (fun j=>if j=i then true else D j)=cnt m D:=by
    intro m
    induction m with
    |zero=>intro _;rfl
    |succ m ih=>
     intro hm
     simp only [cnt]
     rw [ih (by omega)]
     have:m≠i:=by omega
     simp [this]
   rw [this i (Nat.le_refl _)]
   simp [hd]
  ·have h1:=aF1 n D i (by omega) hd
   have h2:n≠i:=fun e'=>e e'.symm
   simp only [if_neg h2]
   omega
theorem aDd:∀(n:Nat) (D:Nat→Bool),cnt n D=0→∀j,j<n→D j=true
 |0,_,_,j,h=>by omega
 |n+1,D,h,j,hj=>by
  simp only [cnt]at h
  by_cases e:j=n
  ·subst e
   cases hd:D j with
   |true=>rfl
   |false=>rw [hd]at h;simp at h
  ·exact aDd n D (by omega) j (by omega)
theorem aIm {en:List En} {k:Nat} {u:List (Nat×Rs)} (h:(RU en)[k]? =some u):∃e,en[k]? =some e∧u=e.ru:=by
 simp only [RU,List.getElem?_map,Option.map_eq_some_iff]at h
 obtain⟨e,h1,rfl⟩:=h
 exact⟨e,h1,rfl⟩
theorem aIo {en:List En} {k:Nat} {u:List (Nat×Sv)} (h:(TU l en)[k]? =some u):∃o e,l[k]? =some o∧en[k]? =some e∧u=dl o.dst e.sv:=by
 simp only [TU,List.getElem?_zipWith]at h
 split at h
 ·rename_i o e h1 h2
  simp at h
  exact⟨o,e,h1,h2,h.symm⟩
 ·cases h
theorem mem_dl {d:Option Nat} {sv:Sv} {s:Nat}:s∈(dl d sv).map (·.1)↔s∈d.toList:=by cases d<;>simp [dl]
theorem aHT {o:Oper} {s:Nat} (h:s∈o.dst.toList):s∈slotsOf l o:=List.mem_append_right _ h
theorem vI {o:Oper} {j d:Nat} {want:Bool} (h:o.guard=some (j,want)) (hd:cX l j=some d):d∈slotsOf l o:=by
 simp [slotsOf,h,hd]
theorem aHU {o:Oper} {t:Nat} (h:Operand.tmp t∈o.op.operands.toList):t∈slotsOf l o:=by
 refine List.mem_append_left _ (List.mem_append_left _ ?_)
 exact List.mem_filterMap.2 ⟨.tmp t,h,rfl⟩
theorem aA8 {σ τ : Ss} {en : List En} (hn : ∀ o ∈ l, ∀ k, o.dst = some k → k < X.n) (hT : Tx X E l l σ en τ) (hc : mD l (FU en) = true) {Q : Exit → Act → World → Prop} (hQ : ∀ a w, Gam X (lk τ.tm) (rsL τ.rs) a w → Q .normal a w) :
    ∀ (fuel : Nat) (listed : Array Bool) (a : Act) (w : World), listed.size = l.length → cnt l.length (fun j => listed.getD j false) ≤ fuel → Closed l (fun j => listed.getD j false) →
      Gam X (apD (lk σ.tm) (TU l en) 0 fun j => listed.getD j false) (apD (rsL σ.rs) (RU en) 0 fun j => listed.getD j false) a w → wpAnyIn X.F 0 E.P .any l.toArray Q fuel listed a w := by
  obtain ⟨hlen, hat, hτ1, hτ2⟩ := aNn l σ τ en hT
  have hdown : ∀ i o, l[i]? = some o → ∀ e ∈ o.after, Region.binds .any e = true → e.on < i := fun i o hi e he hb => by
    simp only [mD, aNt, Bool.and_eq_true, List.all_eq_true] at hc
    have := hc.1 (o, i) (by
      have hil : i < l.length := (List.getElem?_eq_some_iff.1 hi).1
      rw [List.mem_iff_getElem?]
      exact ⟨i, by simp [hi]⟩) e (by simpa using he)
    simpa [hb] using this
  -- all are done
  have hdone : ∀ (listed : Array Bool) (a : Act) (w : World), (∀ j, j < l.length → listed.getD j false = true) →
      Gam X (apD (lk σ.tm) (TU l en) 0 fun j => listed.getD j false) (apD (rsL σ.rs) (RU en) 0 fun j => listed.getD j false) a w → Q .normal a w := fun listed a w hall hg => by
    refine hQ a w ?_
    have e1 : apD (lk σ.tm) (TU l en) 0 (fun j => listed.getD j false) = lk τ.tm := by
      rw [hτ1]
      funext s
      have h1 := fV (TU l en) 0 (lk σ.tm) (lk σ.tm) (fun j => listed.getD j false) (fun j => decide (j < 0 + l.length)) s rfl (fun j u hj _ => by
        have hjl : j < (TU l en).length := (List.getElem?_eq_some_iff.1 hj).1
        have : j < l.length := by simp [TU] at hjl; omega
        simp only [Nat.zero_add, hall j this]; simp [this])
      rw [h1, xR, List.take_of_length_le (by simp [TU]; omega)]
    have e2 : apD (rsL σ.rs) (RU en) 0 (fun j => listed.getD j false) = rsL τ.rs := by
      rw [hτ2]
      funext s
      have h1 := fV (RU en) 0 (rsL σ.rs) (rsL σ.rs) (fun j => listed.getD j false) (fun j => decide (j < 0 + l.length)) s rfl (fun j u hj _ => by
        have hjl : j < (RU en).length := (List.getElem?_eq_some_iff.1 hj).1
        have : j < l.length := by simp [RU] at hjl; omega
        simp only [Nat.zero_add, hall j this]; simp [this])
      rw [h1, xR, List.take_of_length_le (by simp [RU]; omega)]
    rwa [e1, e2] at hg
  have hready : ∀ listed : Array Bool, listed.size = l.length → Region.ready .any l.toArray listed = [] → ∀ j, j < l.length → listed.getD j false = true := by
    intro listed hsz hr j
    induction j using Nat.strongRecOn with
    | _ j ih =>
      intro hj
      cases hb : listed.getD j false with
      | true => rfl
      | false =>
        exfalso
        have : j ∈ Region.ready .any l.toArray listed := by
          refine mem_ready.2 ⟨?_, l[j], by simp [hj], fun e he hbd => ?_⟩
          · have : j < listed.size := by omega
            simp only [Array.getD, this, dite_true] at hb ⊢; exact hb
          · have h1 := hdown j l[j] (by simp [hj]) e he hbd
            exact ih e.on h1 (by omega)
        rw [hr] at this
        cases this
  intro fuel
  induction fuel with
  | zero =>
    intro listed a w hsz hcnt hcl hg
    have hall := aDd _ _ (by omega : cnt l.length (fun j => listed.getD j false) = 0)
    refine ⟨?_, hdone listed a w hall hg⟩
    refine List.eq_nil_iff_forall_not_mem.2 fun j hj => ?_
    obtain ⟨h1, o, h2, _⟩ := mem_ready.1 hj
    have hjl : j < l.length := by have := (Array.getElem?_eq_some_iff.1 h2).1; simpa using this
    have := hall j hjl
    have hjs : j < listed.size := by omega
    simp only [Array.getD, hjs, dite_true] at h1 this
    rw [h1] at this; cases this
  | succ fuel ih =>
    intro listed a w hsz hcnt hcl hg
    refine ⟨fun hr => hdone listed a w (hready listed hsz hr) hg, fun i hi => ?_⟩
    obtain ⟨h1, o, h2, h3⟩ := mem_ready.1 hi
    have hil : i < l.length := by have := (Array.getElem?_eq_some_iff.1 h2).1; simpa using this
    have hio : l[i]? = some o := by simpa using h2
    have his : i < listed.size := by omega
    have hDi : listed.getD i false = false := by simp only [Array.getD, his, dite_true] at h1 ⊢; exact h1
    obtain ⟨e, hie, hfact⟩ := hat i o hio
    have hFi : (FU en)[i]? = some (e.ft, e.ru.map (·.1)) := by simp [FU, hie]
    -- who writes what this operation looks at is done just if it stands before it
    have hside : ∀ k ok ek, l[k]? = some ok → en[k]? = some ek → listed.getD k false = decide (k < i) ∨ fU l o ok (e.ft, e.ru.map (·.1)) (ek.ft, ek.ru.map (·.1)) = true ∨ fU l ok o (ek.ft, ek.ru.map (·.1)) (e.ft, e.ru.map (·.1)) = true := fun k ok ek hk hek => by
      have hFk : (FU en)[k]? = some (ek.ft, ek.ru.map (·.1)) := by simp [FU, hek]
      by_cases e1 : k = i
      · subst e1; exact .inl (by rw [hDi]; simp)
      · rcases Nat.lt_or_ge k i with hlt | hge
        · cases hb : listed.getD k false with
          | true => exact .inl (by simp [hlt])
          | false => exact .inr (yB hc hcl (Ne.symm e1) hio hk hFi hFk (.inr (.inr ⟨hlt, hb, fun ed he hbd => h3 ed he hbd⟩)))
        · have hlt : i < k := by omega
          cases hb : listed.getD k false with
          | false => exact .inl (by simp; omega)
          | true => exact .inr (yB hc hcl (Ne.symm e1) hio hk hFi hFk (.inl ⟨hlt, hDi, hb⟩))
    have htm : ∀ s ∈ slotsOf l o, apD (lk σ.tm) (TU l en) 0 (fun j => listed.getD j false) s = upA (lk σ.tm) ((TU l en).take i) s := fun s hs => by
      have h4 := fV (TU l en) 0 (lk σ.tm) (lk σ.tm) (fun j => listed.getD j false) (fun j => decide (j < 0 + i)) s rfl (fun k u hk hu => by
        obtain ⟨ok, ek, hk1, hk2, rfl⟩ := aIo hk
        have hd := mem_dl.1 hu
        simp only [Nat.zero_add]
        rcases hside k ok ek hk1 hk2 with h5 | h5 | h5
        · exact h5
        · simp only [fU, Bool.and_eq_true] at h5
          exact absurd hs (dN h5.1.1.2 hd)
        · simp only [fU, Bool.and_eq_true] at h5
          exact absurd hs (dN h5.1.1.1 hd))
      rw [h4, xR]
    have hrs : ∀ r, r ∈ e.ft ∨ r ∈ e.ru.map (·.1) → apD (rsL σ.rs) (RU en) 0 (fun j => listed.getD j false) r = upA (rsL σ.rs) ((RU en).take i) r := fun r hr => by
      have hr' : r ∈ e.ft ++ e.ru.map (·.1) := List.mem_append.2 hr
      have h4 := fV (RU en) 0 (rsL σ.rs) (rsL σ.rs) (fun j => listed.getD j false) (fun j => decide (j < 0 + i)) r rfl (fun k u hk hu => by
        obtain ⟨ek, hk2, rfl⟩ := aIm hk
        have hkl : k < l.length := by have := (List.getElem?_eq_some_iff.1 hk2).1; omega
        simp only [Nat.zero_add]
        rcases hside k l[k] ek (by simp [hkl]) hk2 with h5 | h5 | h5
        · exact h5
        · simp only [fU, Bool.and_eq_true] at h5
          exact absurd hr' (dN h5.2 hu)
        · simp only [fU, Bool.and_eq_true] at h5
          exact absurd hr' (dN h5.1.2 hu))
      rw [h4, xR]
    -- behind it
    have hD2 : ∀ j, (listed.setIfInBounds i true).getD j false = if j = i then true else listed.getD j false := fun j => by
      by_cases e1 : j = i
      · subst e1; simp [Array.getD, his]
      · rw [if_neg e1]
        simp only [Array.getD_eq_getD_getElem?]
        rw [Array.getElem?_setIfInBounds_ne (Ne.symm e1)]
    have hlater : ∀ k ok ek, i < k → l[k]? = some ok → en[k]? = some ek → listed.getD k false = true → fU l o ok (e.ft, e.ru.map (·.1)) (ek.ft, ek.ru.map (·.1)) = true ∨ fU l ok o (ek.ft, ek.ru.map (·.1)) (e.ft, e.ru.map (·.1)) = true := fun k ok ek hlt hk hek hb =>
      yB hc hcl (by omega) hio hk hFi (by simp [FU, hek]) (.inl ⟨hlt, hDi, hb⟩)
    have etm : wM (apD (lk σ.tm) (TU l en) 0 fun j => listed.getD j false) o.dst e.sv = apD (lk σ.tm) (TU l en) 0 fun j => (listed.setIfInBounds i true).getD j false := by
      funext s
      have hTi : (TU l en)[i]? = some (dl o.dst e.sv) := by simp only [TU, List.getElem?_zipWith, hio, hie]
      rw [aEy]
      by_cases hs : s ∈ (dl o.dst e.sv).map (·.1)
      · refine (xQ (TU l en) 0 (lk σ.tm) _ _ s i _ hTi hs (by simp only [Nat.zero_add, hD2]; simp) (fun k u hlt hk hu => ?_)).symm
        obtain ⟨ok, ek, hk1, hk2, rfl⟩ := aIo hk
        simp only [Nat.zero_add, hD2]
        rw [if_neg (by omega)]
        cases hb : listed.getD k false with
        | false => rfl
        | true =>
          have hd := mem_dl.1 hu
          have hs' : s ∈ slotsOf l o := aHT (mem_dl.1 hs)
          rcases hlater k ok ek hlt hk1 hk2 hb with h5 | h5
          · simp only [fU, Bool.and_eq_true] at h5
            exact absurd hs' (dN h5.1.1.2 hd)
          · simp only [fU, Bool.and_eq_true] at h5
            exact absurd hs' (dN h5.1.1.1 hd)
      · rw [aCW hs]
        refine fV _ _ _ _ _ _ _ rfl fun k u hk hu => ?_
        simp only [Nat.zero_add, hD2]
        by_cases e1 : k = i
        · subst e1; rw [hTi] at hk; cases hk; exact absurd hu hs
        · rw [if_neg e1]
    have ers : dC (apD (rsL σ.rs) (RU en) 0 fun j => listed.getD j false) e.ru = apD (rsL σ.rs) (RU en) 0 fun j => (listed.setIfInBounds i true).getD j false := by
      funext s
      have hTi : (RU en)[i]? = some e.ru := by simp [RU, hie]
      rw [aAH]
      by_cases hs : s ∈ e.ru.map (·.1)
      · refine (xQ (RU en) 0 (rsL σ.rs) _ _ s i _ hTi hs (by simp only [Nat.zero_add, hD2]; simp) (fun k u hlt hk hu => ?_)).symm
        obtain ⟨ek, hk2, rfl⟩ := aIm hk
        have hkl : k < l.length := by have := (List.getElem?_eq_some_iff.1 hk2).1; omega
        simp only [Nat.zero_add, hD2]
        rw [if_neg (by omega)]
        cases hb : listed.getD k false with
        | false => rfl
        | true =>
          have hs' : s ∈ e.ft ++ e.ru.map (·.1) := List.mem_append_right _ hs
          rcases hlater k l[k] ek hlt (by simp [hkl]) hk2 hb with h5 | h5
          · simp only [fU, Bool.and_eq_true] at h5
            exact absurd hs' (dN h5.2 hu)
          · simp only [fU, Bool.and_eq_true] at h5
            exact absurd hs' (dN h5.1.2 hu)
      · rw [aCW hs]
        refine fV _ _ _ _ _ _ _ rfl fun k u hk hu => ?_
        simp only [Nat.zero_add, hD2]
        by_cases e1 : k = i
        · subst e1; rw [hTi] at hk; cases hk; exact absurd hu hs
        · rw [if_neg e1]
    have hnext : ∀ a' w', Gam X (wM (apD (lk σ.tm) (TU l en) 0 fun j => listed.getD j false) o.dst e.sv) (dC (apD (rsL σ.rs) (RU en) 0 fun j => listed.getD j false) e.ru) a' w' →
        wpAnyIn X.F 0 E.P .any l.toArray Q fuel (listed.setIfInBounds i true) a' w' := fun a' w' hg' => by
      rw [etm, ers] at hg'
      refine ih _ a' w' (by simpa using hsz) ?_ (fun j oj hj hd ed he hbd => ?_) hg'
      · have h4 := aF1 l.length (fun j => listed.getD j false) i hil hDi
        have h5 : (fun j => (listed.setIfInBounds i true).getD j false) = fun j => if j = i then true else listed.getD j false := funext hD2
        rw [h5]; omega
      · simp only [hD2] at hd ⊢
        by_cases e1 : ed.on = i
        · simp [e1]
        · rw [if_neg e1]
          by_cases e2 : j = i
          · subst e2; rw [hio] at hj; cases hj; exact h3 ed he hbd
          · rw [if_neg e2] at hd; exact hcl j oj hj hd ed he hbd
    unfold wpOpIn
    rw [h2]
    have hno : ∀ k, o.dst = some k → k < X.n := hn o (List.mem_of_getElem? hio)
    rcases hfact with ⟨foot, g1, g2, g3⟩ | ⟨g1, g2, j, want, d, v, g3, g4, g5, g6, g7⟩
    · have hwant : Region.wanted o (yielded l.toArray a.tmps) = true := by
        rcases g3 with g3 | ⟨j, want, d, g3, g4, g5, g6⟩
        · simp [Region.wanted, g3]
        · have h4 := htm d (vI g3 g4)
          simp [Region.wanted, g3, iQ hg g4 (h4.trans g6) g5]
      simp only [hwant, if_true]
      refine g1 _ _ (fun x hx => ?_) (fun r hr => hrs r (g2 r hr)) a w _ Q hg hnext
      cases x with
      | tmp t => exact htm t (aHU hx)
      | const v => rfl
      | func f => rfl
      | global g => rfl
    · have h4 := htm d (vI g3 g4)
      have hwant : Region.wanted o (yielded l.toArray a.tmps) = false := by
        simp only [Region.wanted, g3, iQ hg g4 (h4.trans g6) g5]
        cases v <;> simp_all
      simp only [hwant, Bool.false_eq_true, if_false]
      refine ⟨fun f _ => X.F_fn f, hnext _ w ?_⟩
      obtain ⟨q1, q2, c, hp, ht, hpin⟩ := hg
      rw [g2]
      exact bO q1 q2 ht hpin (Ext.refl _ _ _ _) hp hno (by rw [g1]; simp [Sv.ok])
end
/-! ### The evaluator of a region that draws -/
def cI (E:Env) (opsA:List Oper):List Oper→Ss→List (List Nat×List Nat)→(Ss→Prop)→Prop
 |[],σ,acc,K=>mD opsA acc.reverse=true∧K σ
 |o::r,σ,acc,K=>evO E opsA o σ fun σ'=>cI E opsA r σ' ((gH σ o,(σ'.rs.take (σ'.rs.length-σ.rs.length)).map (·.1))::acc) K
theorem tT {X:Cx} {E:Env} {opsA:List Oper} {K:Ss→Prop} (hk:E.hk X.c0 X.rs0) (hn:∀o'∈opsA,∀k,o'.dst=some k→k<X.n):∀(l:List Oper) (σ:Ss) (acc:List (List Nat×List Nat)),(∀o∈l,∀k,o.dst=some k→k<X.n)→
  cI E opsA l σ acc K→∃en τ,Tx X E opsA l σ en τ∧mD opsA (acc.reverse++FU en)=true∧K τ
 |[],σ,acc,_,h=>⟨[],σ,⟨rfl,rfl⟩,by simpa [FU]using h.1,h.2⟩
 |o::l,σ,acc,hl,h=>by
  simp only [cI]at h
  have key:∀(sv:Sv) (ru:List (Nat×Rs)) (nx:Nat),((σ.ap o.dst sv ru nx).rs.take ((σ.ap o.dst sv ru nx).rs.length-σ.rs.length)).map (·.1)=ru.map (·.1):=fun sv ru nx=>by
   simp [Ss.ap]
  rcases tS hk hn (hl o (by simp)) h with⟨foot,sv,ru,nx,h1,h2,h3,h4⟩|⟨h2,h4⟩
  ·obtain⟨en,τ,g1,g2,g3⟩:=tT hk hn l _ _ (fun o ho=>hl o (by simp [ho])) h2
   refine⟨⟨sv,ru,gH σ o⟩::en,τ,⟨_,en,nx,rfl, .inl ⟨foot,h1,h3,h4⟩,g1⟩,?_,g3⟩
   rw [key]at g2
   simpa [FU]using g2
  ·obtain⟨en,τ,g1,g2,g3⟩:=tT hk hn l _ _ (fun o ho=>hl o (by simp [ho])) h2
   refine⟨⟨.v undef,[],gH σ o⟩::en,τ,⟨_,en,σ.nx,rfl, .inr ⟨rfl,rfl,h4⟩,g1⟩,?_,g3⟩
   rw [key]at g2
   simpa [FU]using g2
theorem aLw {X:Cx} {E:Env} {l:List Oper} {id:Nat} {σ:Ss} {K:Ss→Prop} {Q:Exit→Act→World→Prop} (hk:E.hk X.c0 X.rs0) (hm:E.P.follows .mixedOrders=true) (hn:∀o∈l,∀k,o.dst=some k→k<X.n) (h:cI E l l σ [] K)
  {a:Act} {w:World} (hg:Gam X (lk σ.tm) (rsL σ.rs) a w) (hQ:∀s a' w',Gam X (lk s.tm) (rsL s.rs) a' w'→K s→Q .normal a' w'):(Code.region id l.toArray true).wpIn X.F 0 E.P Q a w:=by
 obtain⟨en,τ,h1,h2,h3⟩:=tT hk hn l σ [] hn h
 refine wpIn_region_any hm ?_
 have hgd:∀j,(Array.replicate l.toArray.size false).getD j false=false:=fun j=>by
  simp only [Array.getD];split<;>simp
 refine aA8 hn h1 (by simpa using h2) (fun a' w' hg'=>hQ τ a' w' hg' h3) _ _ a _ (by simp) ?_ (fun j o _ hd=>by simp only [hgd]at hd;cases hd) ?_
 ·have:∀n D,cnt n D≤n:=by
   intro n D
   induction n with
   |zero=>exact Nat.le_refl _
   |succ n ih=>simp only [cnt];split<;>omega
  simpa using this _ _
 ·have e1:apD (lk σ.tm) (TU l en) 0 (fun j=>(Array.replicate l.toArray.size false).getD j false)=lk σ.tm:=funext fun s=>lX _ _ _ _ _ fun j _ _ _=>hgd _
  have e2:apD (rsL σ.rs) (RU en) 0 (fun j=>(Array.replicate l.toArray.size false).getD j false)=rsL σ.rs:=funext fun s=>lX _ _ _ _ _ fun j _ _ _=>hgd _
  rw [e1,e2]
  exact aDq hg
end Go.Eng
end
section
namespace Go.Eng
open Go
def mkD (r:Nat):Deferred:={target:= .collected r,args:= #[]}
structure Reb (X:Cx) (w1:World) (U1:Nat→Prop) (ds:List Deferred):Prop where
 os:w1.os=X.w0.os
 tape:w1.tape=X.w0.tape
 output:w1.output=X.w0.output
 size:X.w0.heap.size≤w1.heap.size
 agree:Agree X.U X.w0 w1
 sub:∀b,X.U b→U1 b
 ssub:∀b,X.S b→X.U b
 ult:∀b,X.U b→b<X.w0.heap.size
 marks:∃l:List Nat,ds=l.map mkD++X.ds∧l.Nodup∧∀r∈l,U1 r∧¬X.U r∧w1.heap[r]? =some (.deferred (some []))
abbrev Cx.at (X:Cx) (w1:World) (U1:Nat→Prop) (ds:List Deferred):Cx:=⟨w1,U1,X.S,X.c0,X.rs0,X.n,X.rd,ds⟩
theorem Reb.refl {X:Cx} (h1:∀b,X.S b→X.U b) (h2:∀b,X.U b→b<X.w0.heap.size):Reb X X.w0 X.U X.ds:=
 ⟨rfl,rfl,rfl,Nat.le_refl _,Agree.refl _ _,fun _ h=>h,h1,h2,[],rfl,List.nodup_nil,by simp⟩
def aLD (X:Cx) (tm:Nat→Sv) (rs:Nat→Rs) (a:Act) (w:World):Prop:=∃w1 U1 ds,Reb X w1 U1 ds∧Gam (X.at w1 U1 ds) tm rs a w
theorem Gam.size {X:Cx} {tm:Nat→Sv} {rs:Nat→Rs} {a:Act} {w:World} (h:Gam X tm rs a w):a.tmps.size=X.n:=h.2.1
theorem wpIn_loop_ghost {F:Fence} {n:Nat} {P:Program} {c:Code} {Q:Exit→Act→World→Prop} (I:Nat→Act→World→Prop) (n0:Nat) {a:Act} {w:World} (h0:I n0 a w)
  (round:∀m a w,I m a w→c.wpIn F n P (Exit.then (fun a' w'=>∃m',m'<m∧I m' a' w') Q) a w):(Code.loop c).wpIn F n P Q a w:=by
 intro b k cs hro hb hr
 have key:∀j a w,I j a w→∃e a' w',Q e a' w'∧ArrivesIn (Machine.fenced P F) P (lone (b.atR a (.code c:: .inLoop c::k)) cs w) b k cs e a' w':=by
  intro j
  induction j using Nat.strongRecOn with
  |_ j ih=>
   intro a w hI
   obtain⟨e,a₁,w₁,hq,harr⟩:=round j a w hI b (.inLoop c::k) cs hro hb hr
   cases e with
   |normal=>
    obtain⟨m',hlt,hI₁⟩:=hq
    obtain⟨e₂,a₂,w₂,hq₂,harr₂⟩:=ih m' hlt a₁ w₁ hI₁
    exact⟨e₂,a₂,w₂,hq₂, .of_steps (StepsIn.trans harr (.one (fenced_calm hb hr rfl) stepR_inLoop)) harr₂⟩
   |exit id=>exact⟨_,a₁,w₁,hq, .pass (x:= .inLoop c) rfl (fun _ _=> .inl (by simp)) harr⟩
   |goto l=>exact⟨_,a₁,w₁,hq, .pass (x:= .inLoop c) rfl (fun _ _=> .inl (by simp)) harr⟩
   |ret=>exact⟨_,a₁,w₁,hq, .pass (x:= .inLoop c) rfl (fun _ _=> .inl (by simp)) harr⟩
   |panic ch=>exact⟨_,a₁,w₁,hq, .pass (x:= .inLoop c) rfl (fun _ _=> .inl (by simp)) harr⟩
   |outgrown=>exact⟨_,a₁,w₁,hq, .pass (x:= .inLoop c) rfl (fun _ _=> .inl (by simp)) harr⟩
 obtain⟨e,a',w',hq,harr⟩:=key _ a w h0
 exact⟨e,a',w',hq, .of_steps (.one (fenced_calm hb hr rfl) stepR_loop) harr⟩
def V (X:Cx) (E:Env) (c:Code) (σ:Ss) (Q:Exit→Ss→Prop):Prop:=
 E.hk X.c0 X.rs0→∀a w,aLD X (lk σ.tm) (rsL σ.rs) a w→c.wpIn X.F 0 E.P (fun e a' w'=>∃τ,aLD X (lk τ.tm) (rsL τ.rs) a' w'∧Q e τ) a w
def nxt (K:Ss→Prop) (Q:Exit→Ss→Prop):Exit→Ss→Prop
 | .normal,σ=>K σ
 |e,σ=>Q e σ
def blk (id:Nat) (Q:Exit→Ss→Prop):Exit→Ss→Prop
 | .exit i,σ=>if i=id then Q .normal σ else Q (.exit i) σ
 |e,σ=>Q e σ
def noG (Q:Exit→Ss→Prop):Exit→Ss→Prop
 | .goto _,_=>False
 |e,σ=>Q e σ
section
variable {X:Cx} {E:Env} {σ:Ss} {Q:Exit→Ss→Prop}
theorem aN3 (h:Q .normal σ):V X E .skip σ Q:=fun _ _ _ hg=>wpIn_skip ⟨σ,hg,h⟩
theorem aQC (h:Q .ret σ):V X E .ret σ Q:=fun _ _ _ hg=>wpIn_ret ⟨σ,hg,h⟩
theorem aN1 {id:Nat} (h:Q (.exit id) σ):V X E (.exit id) σ Q:=fun _ _ _ hg=>wpIn_exit ⟨σ,hg,h⟩
theorem aQE {x y:Code} (h:V X E x σ (nxt (fun t=>V X E y t Q) Q)):V X E (x.seq y) σ Q:=fun hk a w hg=>
 wpIn_seq (wpIn_mono (h hk a w hg) fun e a' w' ⟨t,h1,h2⟩=>by
  cases e with
  |normal=>exact h2 hk a' w' h1
  |exit i=>exact⟨t,h1,h2⟩
  |goto l=>exact⟨t,h1,h2⟩
  |ret=>exact⟨t,h1,h2⟩
  |panic ch=>exact⟨t,h1,h2⟩
  |outgrown=>exact⟨t,h1,h2⟩)
theorem aLE {id:Nat} {c:Code} (h:V X E c σ (blk id Q)):V X E (.block id c) σ Q:=fun hk a w hg=>
 wpIn_block (wpIn_mono (h hk a w hg) fun e a' w' ⟨t,h1,h2⟩=>by
  cases e with
  |exit i=>
   simp only [Exit.inBlock]
   simp only [blk]at h2
   split
   ·rename_i e;rw [if_pos e]at h2;exact⟨t,h1,h2⟩
   ·rename_i e;rw [if_neg e]at h2;exact⟨t,h1,h2⟩
  |normal=>exact⟨t,h1,h2⟩
  |goto l=>exact⟨t,h1,h2⟩
  |ret=>exact⟨t,h1,h2⟩
  |panic ch=>exact⟨t,h1,h2⟩
  |outgrown=>exact⟨t,h1,h2⟩)
def evC (s:Sv) (A B:Prop):Prop:=
 match s with
 | .v (.bool b)=>(b=true→A)∧(b=false→B)
 |_=>False
theorem aN0 {c:Operand} {x y:Code} (h:evC (σ.opd c) (V X E x σ Q) (V X E y σ Q)):V X E (.cond c x y) σ Q:=fun hk a w hg=>by
 have hg2:=hg
 obtain⟨w1,U1,ds,_,_,_,cc,hp,ht,_⟩:=hg2
 have h1:=bX (X:=X.at w1 U1 ds) (rs:=rsL σ.rs) (tm:=lk σ.tm) (a:=a) (w:=w) (c:=cc) ht c
 unfold evC Ss.opd at h
 split at h
 ·rename_i b hb
  rw [hb]at h1
  simp only [Sv.ok]at h1
  refine wpIn_cond_split (t:=b) h1 (fun e=>h.1 e hk a w hg) (fun e=>h.2 e hk a w hg)
 ·exact h.elim
theorem aA6 {l:List Oper} {id:Nat} (hn:l.all (fun o=>o.dst.all (fun k=>decide (k<X.n)))=true) (h:dP E l l σ (Q .normal)):V X E (.region id l.toArray false) σ Q:=fun hk a w hg=>by
 obtain⟨w1,U1,ds,hr,hg⟩:=hg
 have hn':∀o'∈l,∀k,o'.dst=some k→k<X.n:=fun o ho k hk=>by
  have:=List.all_eq_true.1 hn o ho
  rw [hk]at this
  simpa using this
 exact wpIn_region_list (yI (X:=X.at w1 U1 ds) hk hn' l σ hn' h a w _ hg fun s a' w' hg' hK=>⟨s,⟨w1,U1,ds,hr,hg'⟩,hK⟩)
theorem aIq {l:List Oper} {id:Nat} (hn:l.all (fun o=>o.dst.all (fun k=>decide (k<X.n)))=true) (h:∀K:Ss→Prop,(∀s,Q .normal s→K s)→dP E l l σ K):V X E (.region id l.toArray false) σ Q:=aA6 hn (h _ fun _ h=>h)
theorem aCX {l:List Oper} {id:Nat} (hm:E.P.follows .mixedOrders=true) (hn:l.all (fun o=>o.dst.all (fun k=>decide (k<X.n)))=true) (h:cI E l l σ [] (Q .normal)):V X E (.region id l.toArray true) σ Q:=fun hk a w hg=>by
 obtain⟨w1,U1,ds,hr,hg⟩:=hg
 have hn':∀o'∈l,∀k,o'.dst=some k→k<X.n:=fun o ho k hk=>by
  have:=List.all_eq_true.1 hn o ho
  rw [hk]at this
  simpa using this
 exact aLw (X:=X.at w1 U1 ds) hk hm hn' h hg fun s a' w' hg' hK=>⟨s,⟨w1,U1,ds,hr,hg'⟩,hK⟩
theorem aLF {l:List Oper} {id:Nat} (hm:E.P.follows .mixedOrders=true) (hn:l.all (fun o=>o.dst.all (fun k=>decide (k<X.n)))=true) (h:∀K:Ss→Prop,(∀s,Q .normal s→K s)→cI E l l σ [] K):V X E (.region id l.toArray true) σ Q:=aCX hm hn (h _ fun _ h=>h)
end
/-! ### A weaker description, in other numbers -/
def Imp (X:Cx) (σ τ:Ss):Prop:=∀w1 U1 ds a w,Gam (X.at w1 U1 ds) (lk σ.tm) (rsL σ.rs) a w→Gam (X.at w1 U1 ds) (lk τ.tm) (rsL τ.rs) a w
theorem Imp.refl (X:Cx) (σ:Ss):Imp X σ σ:=fun _ _ _ _ _ h=>h
theorem Imp.trans {X:Cx} {a b c:Ss} (h:Imp X a b) (k:Imp X b c):Imp X a c:=fun w1 U1 ds x w q=>k w1 U1 ds x w (h w1 U1 ds x w q)
theorem cZ {X:Cx} {E:Env} {σ τ:Ss} {c:Code} {Q:Exit→Ss→Prop} (h:Imp X σ τ) (k:V X E c τ Q):V X E c σ Q:=fun hk a w ⟨w1,U1,ds,hr,hg⟩=>k hk a w ⟨w1,U1,ds,hr,h w1 U1 ds a w hg⟩
def tD (ML:List (Nat×Nat)) (σ τ:Ss):Rn:=⟨ML,fun k=>(σ.get k).cv,fun i=>(τ.get i).cv,[]⟩
def aIa (R:Rn) (σ τ:Ss):List (Nat×Nat)→Prop
 |[]=>True
 |(k,i)::l=>1≤(τ.get i).cv∧(σ.get k).k.ren R=(τ.get i).k∧aIa R σ τ l
def aH9 (ML:List (Nat×Nat)):List (Nat×Rs)→Prop
 |[]=>True
 |(i,r)::l=>(i∈ML.map (·.2)∨r.k= .gone)∧aH9 ML l
def aLa (R:Rn) (σ:Ss):List (Nat×Sv)→Prop
 |[]=>True
 |(k,t)::l=>(lk σ.tm k).ren R=t∧aLa R σ l
def aK9 (ML:List (Nat×Nat)):List (Nat×Rs)→Prop
 |[]=>True
 |(i,r)::l=>(r.cv=0∨(i,i)∈ML)∧aK9 ML l
theorem tC {ML:List (Nat×Nat)}:∀{l:List (Nat×Rs)},aK9 ML l→∀i,1≤(rsL l i).cv→(i,i)∈ML
 |[],_,i,h=>by simp [sN]at h
 |(j,r)::l,hs,i,h=>by
  rw [kJ]at h
  simp only [aK9]at hs
  split at h
  ·rename_i e;subst e
   rcases hs.1 with h1|h1
   ·omega
   ·exact h1
  ·exact tC hs.2 i h
theorem aEo {ML:List (Nat×Nat)}:∀{l:List (Nat×Rs)},aH9 ML l→∀i,i∉ML.map (·.2)→(rsL l i).k= .gone
 |[],_,i,_=>rfl
 |(j,r)::l,hs,i,h=>by
  rw [kJ]
  simp only [aH9]at hs
  split
  ·rename_i e;subst e
   rcases hs.1 with h1|h1
   ·exact absurd h1 h
   ·exact h1
  ·exact aEo hs.2 i h
theorem kO {R:Rn} {σ τ:Ss}:∀{l:List (Nat×Nat)},aIa R σ τ l→∀p∈l,1≤(τ.get p.2).cv∧(σ.get p.1).k.ren R=(τ.get p.2).k
 |[],_,p,hp=>by simp at hp
 |(k,i)::l,h,p,hp=>by
  simp only [aIa]at h
  rcases List.mem_cons.1 hp with rfl|hp
  ·exact⟨h.1,h.2.1⟩
  ·exact kO h.2.2 p hp
theorem aEp {R:Rn} {σ:Ss}:∀{l:List (Nat×Sv)},aLa R σ l→∀k,lk l k= .dead∨(lk σ.tm k).ren R=lk l k
 |[],_,k=> .inl rfl
 |(j,t)::l,h,k=>by
  simp only [aLa]at h
  simp only [lk]
  split
  ·rename_i e;subst e;exact .inr h.1
  ·exact aEp h.2 k
theorem aAz {w0 w:World} {U S:Nat→Prop} {c:Nat→Cn} {σ τ:Ss} {ML:List (Nat×Nat)} (hp:Hp w0 U S c (rsL σ.rs) w) (h1:(ML.map (·.1)).Nodup) (h2:(ML.map (·.2)).Nodup)
  (hM:aIa (tD ML σ τ) σ τ ML) (hI:aH9 ML τ.rs):∃c',Hp w0 U S c' (rsL τ.rs) w∧RenOk S S c c' (rsL σ.rs) (rsL τ.rs) (tD ML σ τ)∧∀p∈ML,c' p.2=c p.1:=by
 let c':Nat→Cn:=fun i=>match inv ML i with|some k=>c k|none=>⟨0, .slice none 0 0,fun _=>False⟩
 have hc:∀p∈ML,c' p.2=c p.1:=fun p hpm=>by
  have:inv ML p.2=some p.1:=fT h2 hpm
  simp only [c',this]
 have hcn:∀i,inv ML i=none→c' i=⟨0, .slice none 0 0,fun _=>False⟩:=fun i hi=>by simp only [c',hi]
 have hal:∀p∈ML,(rsL τ.rs p.2).alive→(rsL σ.rs p.1).alive:=fun p hpm ha=>by
  have hh:=(kO hM p hpm).2
  unfold Ss.get at hh
  have:=(Rk.ren_alive (R:=tD ML σ τ) (rsL σ.rs p.1).k (rsL τ.rs p.2).cv (rsL σ.rs p.1).cv).1
  refine this ?_
  rw [hh];exact ha
 have hren:RenOk S S c c' (rsL σ.rs) (rsL τ.rs) (tD ML σ τ):=
  ⟨fun p hpm=>⟨rfl,(kO hM p hpm).1,rfl⟩,hal,fun p hpm=>by rw [hc p hpm];exact⟨rfl,rfl,fun _ h=>h⟩,aAC _,fun b hb=> .inl hb⟩
 have hcase:∀i,(∃k,(k,i)∈ML∧c' i=c k)∨(c' i=⟨0, .slice none 0 0,fun _=>False⟩∧i∉ML.map (·.2)):=fun i=>by
  by_cases hi:i∈ML.map (·.2)
  ·obtain⟨p,hpm,rfl⟩:=List.mem_map.1 hi
   exact .inl ⟨p.1,hpm,hc p hpm⟩
  ·exact .inr ⟨hcn i (aDC hi),hi⟩
 refine⟨c',⟨hp.os,hp.tape,hp.output,hp.size,hp.unch,hp.sub,hp.ult,fun i=>?_,fun i b hb=>?_,fun i b hb=>?_,fun i j b hij hi hj=>?_,fun i=>?_⟩,hren,hc⟩
 ·rcases hcase i with⟨k,hk,e⟩|⟨e,hi⟩
  ·rw [e]
   have hh:=(kO hM _ hk).2
   unfold Ss.get at hh
   rw [←hh]
   exact Rk.ren_ok hren _ _ (hp.res k)
  ·rw [e,aEo hI i hi]
   intro b hb;exact hb
 ·rcases hcase i with⟨k,hk,e⟩|⟨e,hi⟩
  ·rw [e]at hb;exact hp.flt k b hb
  ·rw [e]at hb;exact hb.elim
 ·rcases hcase i with⟨k,hk,e⟩|⟨e,hi⟩
  ·rw [e]at hb;exact hp.fu k b hb
  ·rw [e]at hb;exact hb.elim
 ·rcases hcase i with⟨k,hk,e⟩|⟨e,_⟩
  ·rcases hcase j with⟨k',hk',e'⟩|⟨e',_⟩
   ·rw [e]at hi;rw [e']at hj
    refine hp.dis k k' b (fun ee=>?_) hi hj
    subst ee
    have q1:=iG h1 hk
    have q2:=iG h1 hk'
    rw [q1]at q2
    exact hij (by simpa using q2)
   ·rw [e']at hj;exact hj.elim
  ·rw [e]at hi;exact hi.elim
 ·rcases hcase i with⟨k,hk,e⟩|⟨e,hi⟩
  ·rw [e];exact hp.one k
  ·rw [e];rfl
def lG (L0:List (Nat×Rs)) (ML:List (Nat×Nat)) (σ τ:Ss):Prop:=
 (ML.map (·.1)).Nodup∧(ML.map (·.2)).Nodup∧aK9 ML L0∧aH9 ML τ.rs∧aIa (tD ML σ τ) σ τ ML∧aLa (tD ML σ τ) σ τ.tm
theorem Imp.sub {X:Cx} {L0:List (Nat×Rs)} (hX:X.rs0=rsL L0) {σ τ:Ss} (ML:List (Nat×Nat)) (h:lG L0 ML σ τ):Imp X σ τ:=by
 obtain⟨h1,h2,h3,h4,h5,h6⟩:=h
 rintro w1 U1 ds a w ⟨hd,hn,c,hp,ht,hpin⟩
 obtain⟨c',hp',hren,hc⟩:=aAz hp h1 h2 h5 h4
 refine⟨hd,hn,c',hp',fun s=>?_,fun i hi=>?_⟩
 ·rcases aEp h6 s with e|e
  ·rw [e];simp [Sv.ok]
  ·rw [←e];exact Sv.ren_ok hren _ _ (ht s)
 ·have hm:=tC h3 i (by rw [←hX];exact hi)
  obtain⟨_,g2,g3⟩:=hpin i hi
  have q:=hc _ hm
  simp only at q
  refine⟨(kO h5 _ hm).1,?_,?_⟩
  ·rw [q];exact g2
  ·rw [q];exact g3
theorem Imp.adopt {X:Cx} {σ:Ss} (k sz:Nat) (df:Dt) (hs:0<sz) (hk:lk σ.tm k= .v (.slice none 0 0)) (hf:σ.get σ.nx=⟨0, .gone⟩) (hx:(X.rs0 σ.nx).cv=0):
  Imp X σ ⟨(k, .sl σ.nx)::σ.tm,(σ.nx,⟨1, .arr (.sl sz df [])⟩)::σ.rs,σ.nx+1⟩:=by
 rintro w1 U1 ds a w ⟨hd,hn,c,hp,ht,hpin⟩
 have hg:(rsL σ.rs σ.nx)=⟨0, .gone⟩:=hf
 have hnone:∀b,¬(c σ.nx).fp b:=fun b hb=>by
  have:=hp.res σ.nx
  rw [hg]at this
  exact this b hb
 have hrs:rsL ((σ.nx,(⟨1, .arr (.sl sz df [])⟩:Rs))::σ.rs)=upd (rsL σ.rs) σ.nx ⟨1, .arr (.sl sz df [])⟩:=rfl
 let c':=upd c σ.nx ⟨0, .slice none 0 0,fun _=>False⟩
 have hext:Ext X.S w w c c' (rsL σ.rs) (upd (rsL σ.rs) σ.nx ⟨1, .arr (.sl sz df [])⟩):=by
  refine⟨fun i=>?_,Agree.refl _ _,fun i hi=>?_,fun i hi hcv ha=>?_⟩
  ·simp only [upd];split
   ·rename_i e;subst e;rw [hg];exact Nat.zero_le _
   ·exact Nat.le_refl _
  ·have hne:i≠σ.nx:=fun e=>by subst e;rw [hg]at hi;simp at hi
   simp only [c',upd,if_neg hne];exact⟨trivial,trivial⟩
  ·have hne:i≠σ.nx:=fun e=>by subst e;rw [hg]at hi;simp at hi
   simp only [c',upd,if_neg hne]at *
   exact⟨ha,fun _ h=>h,Agree.refl _ _⟩
 refine⟨hd,hn,c',?_,fun s=>?_,fun i hi=>?_⟩
 ·rw [hrs]
  refine⟨hp.os,hp.tape,hp.output,hp.size,hp.unch,hp.sub,hp.ult,fun i=>?_,fun i b hb=>?_,fun i b hb=>?_,fun i j b hij hi hj=>?_,fun i=>?_⟩
  ·by_cases e:i=σ.nx
   ·subst e
    simp only [c',upd_same,Rk.ok,OwV]
    exact⟨⟨hs, .inl ⟨trivial,trivial⟩⟩,fun a m k e=>by cases e⟩
   ·have:=Rk.ok_ext hext (n:=c i) (Agree.refl _ _) _ (hp.res i)
    simp only [c',aO _ _ e]
    exact this
  ·by_cases e:i=σ.nx
   ·subst e;simp only [c',upd_same]at hb
   ·simp only [c',aO _ _ e]at hb;exact hp.flt i b hb
  ·by_cases e:i=σ.nx
   ·subst e;simp only [c',upd_same]at hb
   ·simp only [c',aO _ _ e]at hb;exact hp.fu i b hb
  ·by_cases e:i=σ.nx
   ·subst e;simp only [c',upd_same]at hi
   ·by_cases e':j=σ.nx
    ·subst e';simp only [c',upd_same]at hj
    ·simp only [c',aO _ _ e]at hi
     simp only [c',aO _ _ e']at hj
     exact hp.dis i j b hij hi hj
  ·by_cases e:i=σ.nx
   ·subst e;simp only [c',upd_same];rfl
   ·simp only [c',aO _ _ e];exact hp.one i
 ·rw [hrs]
  simp only [lk]
  split
  ·rename_i e;subst e
   have h1:=ht s
   rw [hk]at h1
   simp only [Sv.ok]at h1⊢
   simp only [upd_same,c',h1]
   exact⟨Nat.le_refl _,trivial⟩
  ·exact Sv.ok_ext hext _ _ (ht s)
 ·have hne:i≠σ.nx:=fun e=>by subst e;have hi':1≤(X.rs0 σ.nx).cv:=hi;omega
  obtain⟨g1,g2,g3⟩:=hpin i hi
  rw [hrs]
  simp only [c',aO _ _ hne]
  exact⟨g1,g2,g3⟩
theorem aN2 {X:Cx} {E:Env} {σ:Ss} {Q:Exit→Ss→Prop} {c:Code} {G:Type} (I:G→Ss) (m:G→Nat) (g0:G) (h0:Imp X σ (I g0))
  (hr:∀g,V X E c (I g) (nxt (fun t=>∃g',m g'<m g∧Imp X t (I g')) Q)):V X E (.loop c) σ Q:=fun hk a w ⟨w1,U1,ds,hb,hg⟩=>
 wpIn_loop_ghost (fun n a w=>∃g,m g=n∧aLD X (lk (I g).tm) (rsL (I g).rs) a w) (m g0) ⟨g0,rfl,w1,U1,ds,hb,h0 w1 U1 ds a w hg⟩ fun n a w ⟨g,e,hg⟩=>
  wpIn_mono (hr g hk a w hg) fun e a' w' ⟨t,h1,h2⟩=>by
   cases e with
   |normal=>
    obtain⟨g',h3,h4⟩:=h2
    obtain⟨w2,U2,ds2,hb2,hg2⟩:=h1
    exact⟨m g',by omega,g',rfl,w2,U2,ds2,hb2,h4 w2 U2 ds2 a' w' hg2⟩
   |exit i=>exact⟨t,h1,h2⟩
   |goto l=>exact⟨t,h1,h2⟩
   |ret=>exact⟨t,h1,h2⟩
   |panic ch=>exact⟨t,h1,h2⟩
   |outgrown=>exact⟨t,h1,h2⟩
/-! ### A function -/
def rM:Nat→List Sv→List (Nat×Sv)
 |_,[]=>[]
 |k,s::l=>(k,s)::rM (k+1) l
def pQ (E:Env) (σ:Ss):List ResultVar→(List Sv→Prop)→Prop
 |[],K=>K []
 | .tmp t::l,K=>pQ E σ l fun r=>K (lk σ.tm t::r)
 | .cell a t::l,K=>match lk σ.tm a with
  | .ptr i p=>match (σ.get i).k with
   | .box cells=>(E.ti t).known=true∧match (E.ti t).agg with
    |true=>p+(E.ti t).size≤cells.length∧pQ E σ l fun r=>K (.agg ((cells.drop p).take (E.ti t).size)::r)
    |false=>match cells[p]? with
     |some s=>pQ E σ l fun r=>K (s::r)
     |none=>False
   |_=>False
  |_=>False
def aPv (K:Sv→Prop):List Sv→Prop
 |[s]=>K s
 |r=>K (.tup r)
def oG (E:Env) (σ:Ss) (l:List ResultVar) (K:Sv→Prop):Prop:=pQ E σ l (aPv K)
def aCw (E:Env) (rv:List ResultVar) (L0:List (Nat×Rs)) (r:Sv) (L1:List (Nat×Rs)):Exit→Ss→Prop
 | .normal,σ=>∃ML,oG E σ rv fun s=>lG L0 ML ⟨[(0,s)],σ.rs,0⟩ ⟨[(0,r)],L1,0⟩
 | .ret,σ=>∃ML,oG E σ rv fun s=>lG L0 ML ⟨[(0,s)],σ.rs,0⟩ ⟨[(0,r)],L1,0⟩
 |_,_=>False
theorem xT {w:World} {S:Nat→Prop} {c:Nat→Cn} {rs:Nat→Rs}:∀(l:List Sv) (vs:List Value) (j:Nat) (pre post:List Value),pre.length=j→Sv.okL w S c rs l vs→∀s,(lk (rM j l) s).ok w S c rs ((pre++vs++post).toArray.getD s undef)
 |[],vs,j,pre,post,_,_,s=>by simp [rM,lk,Sv.ok]
 |x::l,vs,j,pre,post,hj,h,s=>by
  obtain⟨v,r,rfl,h1,h2⟩:=h
  simp only [rM,lk]
  split
  ·rename_i e;subst e
   have:(pre++v::r++post).toArray.getD s undef=v:=by
    subst hj;simp [Array.getD]
   rw [this];exact h1
  ·have:=xT l r (j+1) (pre++[v]) post (by simp [hj]) h2 s
   simpa using this
theorem vH {E:Env} {w0 w:World} {U S:Nat→Prop} {c:Nat→Cn} {fn:Func} {a:Act} {σ:Ss} {K:Sv→Prop} (hp:Hp w0 U S c (rsL σ.rs) w) (ht:∀s,(lk σ.tm s).ok w S c (rsL σ.rs) (a.tmps.getD s undef)) (h:oG E σ fn.results.toList K):
  ∃v s,(results fn a.tmps).run E.P w= .ok v w∧s.ok w S c (rsL σ.rs) v∧K s:=by
 have key:∀(g:ResultVar→Sem Value) (_:∀t,g (.tmp t)=pure (a.tmps.getD t undef)) (_:∀x t,g (.cell x t)=(do loadVar t (←asAddr (a.tmps.getD x undef)))) (l:List ResultVar) (K:List Sv→Prop),pQ E σ l K→
   ∃(vs:List Value) (ss:List Sv),(l.mapM g).run E.P w= .ok vs w∧Sv.okL w S c (rsL σ.rs) ss vs∧K ss:=by
  intro g hg hg2 l
  induction l with
  |nil=>intro K h;exact⟨[],[],by simp [Sem.run_pure],by simp [Sv.okL],h⟩
  |cons x l ih=>
   intro K h
   cases x with
   |tmp t=>
    obtain⟨vs,ss,h1,h2,h3⟩:=ih _ h
    refine⟨a.tmps.getD t undef::vs,lk σ.tm t::ss,?_,?_,h3⟩
    ·simp only [List.mapM_cons,hg,Sem.run_bind,Sem.run_pure,Result.andThen_ok,h1]
    ·simp only [Sv.okL];exact⟨_,_,rfl,ht t,h2⟩
   |cell x t=>
    simp only [pQ]at h
    have hx:=ht x
    split at h
    ·rename_i i p hxp
     rw [hxp]at hx
     simp only [Sv.ok]at hx
     split at h
     ·rename_i cells hb
      have hr:=hp.res i
      unfold Ss.get at hb
      rw [hb]at hr
      obtain⟨_,cur,e,h3,h4⟩:=hr
      obtain⟨hk,h⟩:=h
      split at h
      ·rename_i ha
       obtain⟨hl,h⟩:=h
       obtain⟨vs,ss,g1,g2,g3⟩:=ih _ h
       have h5:=Sv.okL.slice cells cur.toList p (E.ti t).size h4
       have hcl:=Sv.okL.length h4
       have hlen:((cur.toList.drop p).take (E.ti t).size).length=(E.ti t).size:=by simp at hcl⊢;omega
       have hld:=mZ (E:=E) (t:=t) hk ha (b:=(c i).blk) (p:=p) (w:=w) (vs:=(cur.toList.drop p).take (E.ti t).size) hlen (fun k v hkv=>by
        rw [List.getElem?_take]at hkv
        split at hkv
        ·rw [List.getElem?_drop]at hkv;simp [World.cell?,h3];simpa using hkv
        ·cases hkv)
       refine⟨.agg ((cur.toList.drop p).take (E.ti t).size).toArray::vs, .agg ((cells.drop p).take (E.ti t).size)::ss,?_,?_,g3⟩
       ·simp only [Instr.loadAt,Instr.sureAddr,Sem.run_bind,Sem.run_pure,Result.andThen_ok]at hld
        simp only [List.mapM_cons,hg2,hx.2,asAddr,Sem.run_bind,Sem.run_pure,Result.andThen_ok,g1,hld]
       ·simp only [Sv.okL,Sv.ok];exact⟨_,_,rfl,⟨_,rfl,h5⟩,g2⟩
      ·rename_i ha
       split at h
       ·rename_i s hs
        obtain⟨vs,ss,g1,g2,g3⟩:=ih _ h
        obtain⟨v,h5,h6⟩:=Sv.okL.get h4 hs
        have hc:w.cell? ⟨(c i).blk,p,none⟩=some v:=by simp [World.cell?,h3];simpa using h5
        have hld:=iH (E:=E) hk ha hc
        refine⟨v::vs,s::ss,?_,?_,g3⟩
        ·simp only [Instr.loadAt,Instr.sureAddr,Sem.run_bind,Sem.run_pure,Result.andThen_ok]at hld
         simp only [List.mapM_cons,hg2,hx.2,asAddr,Sem.run_bind,Sem.run_pure,Result.andThen_ok,g1,hld]
        ·simp only [Sv.okL];exact⟨_,_,rfl,h6,g2⟩
       ·exact h.elim
     ·exact h.elim
    ·exact h.elim
 obtain⟨vs,ss,h1,h2,h3⟩:=key (fun| .tmp t=>pure (a.tmps.getD t undef)| .cell x t=>do loadVar t (←asAddr (a.tmps.getD x undef))) (fun _=>rfl) (fun _ _=>rfl) fn.results.toList _ h
 have hrun:(results fn a.tmps).run E.P w= .ok (if h:vs.toArray.size=1 then vs.toArray[0]else .tuple vs.toArray) w:=by
  unfold results
  rw [Array.mapM_eq_mapM_toList]
  simp only [Sem.run_bind,Sem.run_map,Sem.run_pure]
  exact congrArg (fun r:Result (List Value)=>((r.andThen fun a w'=>Result.ok a.toArray w').andThen fun a w'=>Result.ok (if h:a.size=1 then a[0]else Value.tuple a) w')) h1
 have hl:=h2.length
 rcases ss with _|⟨s,_|⟨s',r⟩⟩
 ·refine⟨_, .tup [],hrun,?_,h3⟩
  rw [dif_neg (by simp at hl;simp [hl])]
  simp only [Sv.ok]
  exact⟨vs,rfl,h2⟩
 ·obtain⟨x,r,rfl,q1,q2⟩:=h2
  simp only [Sv.okL]at q2
  subst q2
  exact⟨_,s,hrun,q1,h3⟩
 ·refine⟨_, .tup (s::s'::r),hrun,?_,h3⟩
  rw [dif_neg (by simp at hl⊢;omega)]
  simp only [Sv.ok]
  exact⟨vs,rfl,h2⟩
theorem Hp.shut {X:Cx} {w1:World} {U1:Nat→Prop} {ds:List Deferred} (hr:Reb X w1 U1 ds) {c:Nat→Cn} {rs:Nat→Rs} {w w':World} (hp:Hp w1 U1 X.S c rs w) {l:List Nat}
  (hl:∀r∈l,U1 r∧¬X.U r) (e1:w'.os=w.os) (e2:w'.tape=w.tape) (e3:w'.output=w.output) (e4:w'.heap.size=w.heap.size) (e5:∀b,b∉l→w'.heap[b]? =w.heap[b]?):
  Hp X.w0 X.U X.S c rs w'∧Ext X.S w w' c c rs rs:=by
 have hU:∀b,X.U b→b∉l:=fun b hb hm=>(hl b hm).2 hb
 have hfp:∀i b,(c i).fp b→b∉l:=fun i b hb hm=>hp.fu i b hb (hl b hm).1
 have hx:Ext X.S w w' c c rs rs:=⟨fun _=>Nat.le_refl _,fun b hb=>e5 b (hU b (hr.ssub b hb)),fun _ _=>⟨rfl,rfl⟩,fun i _ _ h=>⟨h,fun _ h=>h,fun b hb=>e5 b (hfp i b hb)⟩⟩
 refine⟨⟨e1.trans (hp.os.trans hr.os),e2.trans (hp.tape.trans hr.tape),e3.trans (hp.output.trans hr.output),by rw [e4];exact Nat.le_trans hr.size hp.size,fun b hb=>?_,hr.ssub,hr.ult,
  fun i=>Rk.ok_ext hx (fun b hb=>e5 b (hfp i b hb)) _ (hp.res i),fun i b hb=>by rw [e4];exact hp.flt i b hb,fun i b hb hu=>hp.fu i b hb (hr.sub b hu),hp.dis,hp.one⟩,hx⟩
 rw [e5 b (hU b hb),hp.unch b (hr.sub b hb)]
 exact hr.agree b hb
theorem mY {P:Program} {fn:Func} {tmps:Array Value} {R:Ending→World→Prop} {n:Nat}:∀(l:List Nat) (w:World),l.Nodup→(∀r∈l,w.heap[r]? =some (.deferred (some [])))→
  (∀w':World,w'.os=w.os→w'.tape=w.tape→w'.output=w.output→w'.heap.size=w.heap.size→(∀b,b∉l→w'.heap[b]? =w.heap[b]?)→∃v,(results fn tmps).run P w'= .ok v w'∧R (.returned v) w')→
  LeavesInM Fence.wide n P fn tmps R (l.map mkD) .returning w
 |[],w,_,_,h=>h w rfl rfl rfl rfl fun _ _=>rfl
 |r::l,w,hn,hm,h=>by
  have hr:=hm r (by simp)
  have hn':=List.nodup_cons.1 hn
  refine⟨by simp, .inl ⟨r,w.putObj r (.deferred none),rfl,run_takeDeferred hr,mY l _ hn'.2 (fun r' hr'=>?_) fun w' e1 e2 e3 e4 e5=>?_⟩⟩
  ·rw [World.putObj_heap_other]
   ·exact hm r' (by simp [hr'])
   ·intro e;subst e;exact hn'.1 hr'
  ·refine h w' (e1.trans rfl) (e2.trans rfl) (e3.trans rfl) (e4.trans World.putObj_size) fun b hb=>?_
   rw [e5 b (fun q=>hb (by simp [q])),World.putObj_heap_other]
   intro e;subst e;exact hb (by simp)
def aNl (P:Program) (f:FuncId) (args:List Sv) (L0:List (Nat×Rs)) (r:Sv) (L1:List (Nat×Rs)) (H:(Nat→Cn)→Prop):Prop:=
 ∀(w0:World) (U S:Nat→Prop) (c0:Nat→Cn) (vs:List Value),H c0→Hp w0 U S c0 (rsL L0) w0→Sv.okL w0 S c0 (rsL L0) args vs→
  Calls P f vs.toArray w0 fun e w'=>∃v c1,e= .returned v∧Hp w0 U S c1 (rsL L1) w'∧Sv.ok w' S c1 (rsL L1) r v∧
   (∀i,1≤(rsL L0 i).cv→1≤(rsL L1 i).cv∧(c1 i).blk=(c0 i).blk∧(c1 i).hdr=(c0 i).hdr)
theorem aEi {E:Env} {f:FuncId} {fn:Func} {c:Code} {args:List Sv} {L0 L1:List (Nat×Rs)} {r:Sv} (nx:Nat) (hf:E.P.funcs[f]? =some fn) (hb:fn.body=some c) (hn:args.length≤fn.ntmps)
  (h:∀X:Cx,X.n=fn.ntmps→X.rs0=rsL L0→X.rd=none→V X E c ⟨rM 0 args,L0,nx⟩ (aCw E fn.results.toList L0 r L1)):aNl E.P f args L0 r L1 (fun c=>E.hk c (rsL L0)):=by
 intro w0 U S c0 vs hk hp ha
 have hlen:=ha.length
 refine callsIn_wide.1 (callsIn_of_wp_marks (F:=Fence.wide) (n:=0) hf hb trivial (wpIn_mono (h ⟨w0,U,S,c0,rsL L0,fn.ntmps,none,[]⟩ rfl rfl rfl hk _ _ ⟨w0,U,[], .refl hp.sub hp.ult,rfl,?_,c0,hp,fun s=>?_,fun i hi=>⟨hi,rfl,rfl⟩⟩) fun e a' w' ⟨t,h1,h2⟩=>?_))
 ·simp;omega
 ·have h1:=xT args vs 0 [] (List.replicate (fn.ntmps-vs.length) undef) rfl ha s
  have h2:vs.toArray++Array.replicate (fn.ntmps-vs.toArray.size) undef=([]++vs++List.replicate (fn.ntmps-vs.length) undef).toArray:=by
   apply Array.ext';simp
  rw [h2];exact h1
 ·have key:(∃ML,oG E t fn.results.toList fun s=>lG L0 ML ⟨[(0,s)],t.rs,0⟩ ⟨[(0,r)],L1,0⟩)→LeavesInM Fence.wide 0 E.P fn a'.tmps (fun e w'=>∃v' c1,e= .returned v'∧Hp w0 U S c1 (rsL L1) w'∧Sv.ok w' S c1 (rsL L1) r v'∧
    (∀i,1≤(rsL L0 i).cv→1≤(rsL L1 i).cv∧(c1 i).blk=(c0 i).blk∧(c1 i).hdr=(c0 i).hdr)) a'.defers .returning w':=by
   rintro⟨ML,hres⟩
   obtain⟨w1,U1,ds,hrb,hd,hn',c,hp',ht,hpin⟩:=h1
   obtain⟨l,hds,hnd,hmk⟩:=hrb.marks
   have hd':a'.defers=l.map mkD:=by rw [hd];show ds=_;rw [hds];exact List.append_nil _
   rw [hd']
   refine mY l w' hnd (fun r' hr'=>?_) fun w2 e1 e2 e3 e4 e5=>?_
   ·obtain⟨m1,m2,m3⟩:=hmk r' hr'
    rw [hp'.unch r' m1];exact m3
   obtain⟨hp2,hx2⟩:=Hp.shut hrb hp' (fun r' hr'=>⟨(hmk r' hr').1,(hmk r' hr').2.1⟩) e1 e2 e3 e4 e5
   obtain⟨v,s,hv1,hv2,g1,g2,g3,g4,g5,g6⟩:=vH hp2 (fun s=>Sv.ok_ext hx2 _ _ (ht s)) hres
   obtain⟨c1,hp1,hren,hc⟩:=aAz (σ:=⟨[(0,s)],t.rs,0⟩) (τ:=⟨[(0,r)],L1,0⟩) hp2 g1 g2 g5 g4
   refine⟨v,hv1,v,c1,rfl,hp1,?_,fun i hi=>?_⟩
   ·have:=Sv.ren_ok hren _ _ hv2
    have e:s.ren (tD ML ⟨[(0,s)],t.rs,0⟩ ⟨[(0,r)],L1,0⟩)=r:=g6.1
    rw [e]at this
    exact this
   ·have hm:=tC g3 i hi
    obtain⟨_,q2,q3⟩:=hpin i hi
    have q:=hc _ hm
    simp only at q
    refine⟨(kO g5 _ hm).1,?_,?_⟩
    ·rw [q];exact q2
    ·rw [q];exact q3
  cases e with
  |normal=>exact key h2
  |ret=>exact key h2
  |exit i=>exact h2.elim
  |goto l=>exact h2.elim
  |panic ch=>exact h2.elim
  |outgrown=>exact h2.elim
theorem aFD {E:Env} {f:FuncId} {fn:Func} {c:Code} {args:List Sv} {L0 L1:List (Nat×Rs)} {r:Sv} (nx:Nat) (hf:E.P.funcs[f]? =some fn) (hb:fn.body=some c) (hn:args.length≤fn.ntmps)
  (h:∀X:Cx,X.n=fn.ntmps→X.rs0=rsL L0→V X E c ⟨rM 0 args,L0,nx⟩ (aCw E fn.results.toList L0 r L1)):aNl E.P f args L0 r L1 (fun c=>E.hk c (rsL L0)):=
 aEi nx hf hb hn fun X h1 h2 _=>h X h1 h2
theorem aD {E:Env} {f:FuncId} {fn:Func} {c:Code} {args:List Sv} {L0 L1:List (Nat×Rs)} {r:Sv} (nx:Nat) (hf:E.P.funcs[f]? =some fn) (hb:fn.body=some c) (hn:args.length≤fn.ntmps)
  (h:∀X:Cx,X.n=fn.ntmps→X.rs0=rsL L0→V X E c ⟨rM 0 args,L0,nx⟩ (aCw E fn.results.toList L0 r L1)) (hE:∀c rs,E.hk c rs:=by exact fun _ _=>trivial):Spec E.P f args L0 r L1:=
 fun w0 U S c0 vs hp ha=>aFD nx hf hb hn h w0 U S c0 vs (hE c0 _) hp ha
end Go.Eng
end
section
namespace Go.Eng
open Go
def coL (ML:List (Nat×Nat)):List (Nat×Rs)→Prop
 |[]=>True
 |(k,r)::l=>1≤r.cv∧k∈ML.map (·.1)∧coL ML l
def coV (rs:Nat→Rs) (ML:List (Nat×Nat)) (R:List Nat):List Nat→Prop
 |[]=>True
 |i::l=>i∉ML.map (·.2)∧1≤(rs i).cv∧i∈R∧coV rs ML R l
def coM (rs:Nat→Rs) (L0:List (Nat×Rs)) (V:List Nat) (ML:List (Nat×Nat)):List (Nat×Nat)→Prop
 |[]=>True
 |(k,i)::l=>((1≤(rsL L0 k).cv∧1≤(rs i).cv∧Rk.mt ML V rs (rsL L0) (rs i).k (rsL L0 k).k)∨(rsL L0 k=⟨0, .gone⟩∧rs i=⟨0, .gone⟩))∧coM rs L0 V ML l
theorem mT {ML:List (Nat×Nat)}:∀{l:List (Nat×Rs)},coL ML l→∀k,((rsL l k).cv=0→rsL l k=⟨0, .gone⟩)∧(1≤(rsL l k).cv→k∈ML.map (·.1))
 |[],_,k=>by simp [sN]
 |(j,r)::l,h,k=>by
  simp only [coL]at h
  rw [kJ]
  split
  ·rename_i e;subst e
   exact⟨fun h0=>by omega,fun _=>h.2.1⟩
  ·exact mT h.2.2 k
theorem jH {rs:Nat→Rs} {ML:List (Nat×Nat)} {R:List Nat}:∀{l:List Nat},coV rs ML R l→∀i∈l,i∉ML.map (·.2)∧1≤(rs i).cv∧i∈R
 |[],_,i,hi=>by simp at hi
 |j::l,h,i,hi=>by
  simp only [coV]at h
  rcases List.mem_cons.1 hi with rfl|hi
  ·exact⟨h.1,h.2.1,h.2.2.1⟩
  ·exact jH h.2.2.2 i hi
theorem wO {rs:Nat→Rs} {L0:List (Nat×Rs)} {V:List Nat} {ML:List (Nat×Nat)}:∀{l:List (Nat×Nat)},coM rs L0 V ML l→∀p∈l,
  (1≤(rsL L0 p.1).cv∧1≤(rs p.2).cv∧Rk.mt ML V rs (rsL L0) (rs p.2).k (rsL L0 p.1).k)∨(rsL L0 p.1=⟨0, .gone⟩∧rs p.2=⟨0, .gone⟩)
 |[],_,p,hp=>by simp at hp
 |(k,i)::l,h,p,hp=>by
  simp only [coM]at h
  rcases List.mem_cons.1 hp with rfl|hp
  ·exact h.1
  ·exact wO h.2 p hp
def qR (rs:Nat→Rs) (R:List Nat) (L0:List (Nat×Rs)) (ML:List (Nat×Nat)) (V:List Nat):Prop:=
 (ML.map (·.1)).Nodup∧(ML.map (·.2)).Nodup∧coL ML L0∧coV rs ML R V∧coM rs L0 V ML ML
theorem EvCall.mk {E:Env} {f:FuncId} {caps args es:List Sv} {σ:Ss} {K:Sv→List (Nat×Rs)→Prop} {L0 L1:List (Nat×Rs)} {r:Sv} (hs:Spec E.P f es L0 r L1) (hc:aF E.P f) (ML:List (Nat×Nat)) (V:List Nat)
  (h1:qR (rsL σ.rs) (bL (rsL σ.rs) 3 ((Sv.fn f caps).ids++args.flatMap Sv.ids)) L0 ML V) (h2:Sv.mtL ML V (rsL σ.rs) (rsL L0) (args++caps) es)
  (h3:K (r.ren (aU (rsL σ.rs) (rsL L1) ML V)) (cR (aU (rsL σ.rs) (rsL L1) ML V) (rsL L1))):EvCall E (.fn f caps) args σ K:=by
 obtain⟨a1,a2,a3,a4,a5⟩:=h1
 exact⟨f,caps,es,L0,r,L1,ML,V,rfl,fun i hi=>(jH a4 i hi).2.2,hc,hs,
  ⟨a1,a2,fun i hi=>(jH a4 i hi).1,fun i hi=>(jH a4 i hi).2.1,fun k=>(mT a3 k).1,fun k=>(mT a3 k).2,wO a5⟩,h2,h3⟩
theorem aIE {id:Nat} {Q:Exit→Ss→Prop} {σ:Ss} (h:Q .normal σ):blk id Q (.exit id) σ:=by simp only [blk,if_true];exact h
theorem aGZ {id i:Nat} {Q:Exit→Ss→Prop} {σ:Ss} (e:i≠id) (h:Q (.exit i) σ):blk id Q (.exit i) σ:=by simp only [blk,if_neg e];exact h
/-! ### What simp opens -/
attribute [go_sem] dP evO jI pF aBl aBi tQ aBj aBf aHb aBg aBk pG yH aBm mG pD tR aHg cX Ss.ap Ss.get sN nO dH bP nxt blk noG
@[go_sem] theorem aWd (ts:List (Nat×Nat)) (x:Value):Sv.ofDt ts (.v x)= .v x:=rfl
@[go_sem] theorem aT0 (ts:List (Nat×Nat)) (sz:Nat) (df:Dt) (cs:List Dt):Sv.ofDt ts (.sl sz df cs)= .bor ts (.sl sz df cs):=rfl
@[go_sem] theorem aTZ (ts:List (Nat×Nat)) (cs:List Dt):Sv.ofDt ts (.pt cs)= .bptr ts cs:=rfl
@[go_sem] theorem aTY (ts:List (Nat×Nat)) (p:Ab):Sv.ofDt ts (.ab p)= .bor ts (.ab p):=rfl
attribute [go_sem] lG tD aIa aH9 aLa aK9 qR coL coV coM Sv.ren Sv.renL Rk.ren vU fwd inv aU cR Sv.mt Sv.mtL Rk.mt Sv.view Sv.view0 dD Sv.viewP bL Sv.ids Sv.idsL Rk.ids oG pQ aPv aCw rM aBe iC putAt aBq hlk
attribute [go_sem] Ti.known Ti.agg Sv.cells Sv.one
attribute [go_sem] List.map_nil List.map_cons List.flatMap_nil List.flatMap_cons List.drop_succ_cons List.drop_zero List.take_succ_cons List.take_zero List.getElem?_cons_zero List.getElem?_cons_succ
 List.length_cons List.length_nil List.all_cons List.all_nil List.nil_append List.cons_append List.append_nil List.drop_nil List.take_nil
attribute [go_sem] Nat.mul_one Nat.one_mul Nat.div_one Int.toNat_natCast List.nodup_nil List.nodup_cons List.mem_cons List.not_mem_nil not_false_eq_true or_false false_or or_true true_or Bool.not_true Bool.not_false Bool.true_eq_false Bool.false_eq_true false_implies true_implies implies_true forall_const and_self Option.bind_some Option.map_some true_and and_true ge_iff_le gt_iff_lt
section
variable {A B:Prop}
@[go_sem ↓ high] theorem aTN:iD (.v (.bool true)) true A B=A:=by simp [iD]
@[go_sem ↓ high] theorem aTM:iD (.v (.bool true)) false A B=B:=by simp [iD]
@[go_sem ↓ high] theorem aTL:iD (.v (.bool false)) true A B=B:=by simp [iD]
@[go_sem ↓ high] theorem aTK:iD (.v (.bool false)) false A B=A:=by simp [iD]
@[go_sem ↓ low] theorem aV0 (b:Bool):iD (.v (.bool b)) true A B=((b=true→A)∧(b=false→B)):=by simp [iD]
@[go_sem ↓ low] theorem aVZ (b:Bool):iD (.v (.bool b)) false A B=((b=false→A)∧(b=true→B)):=by simp [iD]
@[go_sem ↓] theorem aV1 (w:Bool):iD (.v undef) w A B=B:=by simp [iD,undef]
@[go_sem ↓] theorem aTO (w:Bool) (x:Array Value):iD (.v (.tuple x)) w A B=B:=by simp [iD]
@[go_sem ↓ high] theorem aQ5:kE (.v (.bool true)) A B=A:=by simp [kE]
@[go_sem ↓ high] theorem aQ4:kE (.v (.bool false)) A B=B:=by simp [kE]
@[go_sem ↓ low] theorem aQ3 (b:Bool):kE (.v (.bool b)) A B=((b=true→A)∧(b=false→B)):=by simp [kE]
@[go_sem ↓ high] theorem aXC:evC (.v (.bool true)) A B=A:=by simp [evC]
@[go_sem ↓ high] theorem aXB:evC (.v (.bool false)) A B=B:=by simp [evC]
@[go_sem ↓ low] theorem aXA (b:Bool):evC (.v (.bool b)) A B=((b=true→A)∧(b=false→B)):=by simp [evC]
end
@[go_sem] theorem aRz (nx:Nat):zB nx []=nx:=rfl
@[go_sem] theorem aP9 (nx i:Nat) (r:Rs) (l:List (Nat×Rs)):zB nx ((i,r)::l)=zB (if nx≤i then i+1 else nx) l:=by
 simp only [zB]
 congr 1
 split<;>omega
@[go_sem] theorem aQy (σ:Ss) (t:Nat):σ.opd (.tmp t)=lk σ.tm t:=rfl
@[go_sem] theorem aNY (σ:Ss) (v:Value):σ.opd (.const v)= .v v:=rfl
@[go_sem] theorem aPF (σ:Ss) (f:FuncId):σ.opd (.func f)= .fn f []:=rfl
@[go_sem] theorem aWa (i:Nat):lk [] i= .dead:=rfl
@[go_sem ↓] theorem aV9 (k:Nat) (s:Sv) (l:List (Nat×Sv)):lk ((k,s)::l) k=s:=by simp [lk]
@[go_sem ↓] theorem aTX (k i:Nat) (s:Sv) (l:List (Nat×Sv)) (h:i≠k):lk ((k,s)::l) i=lk l i:=by simp [lk,h]
@[go_sem ↓] theorem aUe (j:Nat) (r:Rs) (l:List (Nat×Rs)):rsL ((j,r)::l) j=r:=by simp [kJ]
@[go_sem ↓] theorem aRW (j i:Nat) (r:Rs) (l:List (Nat×Rs)) (h:i≠j):rsL ((j,r)::l) i=rsL l i:=by simp [kJ,h]
attribute [go_sem] ne_eq
/-! ### What simp leaves alone: what comes behind -/
section
variable {E:Env} {A l:List Oper} {o:Oper} {op:Op} {d:Option Nat} {σ σ':Ss} {K:Ss→Prop} {L:Sv→Prop} {s s' t t':Sv}
@[congr] theorem aNC (h:Unit→σ=σ'):dP E A l σ K=dP E A l σ' K:=by rw [h ()]
@[congr] theorem aPQ (h:Unit→σ=σ'):evO E A o σ K=evO E A o σ' K:=by rw [h ()]
@[congr] theorem aOq (h:Unit→σ=σ'):jI E d op σ K=jI E d op σ' K:=by rw [h ()]
@[congr] theorem aOp {w:Bool} {P Q:Prop} (h:Unit→s=s'):iD s w P Q=iD s' w P Q:=by rw [h ()]
@[congr] theorem aPP {P Q:Prop} (h:Unit→s=s'):evC s P Q=evC s' P Q:=by rw [h ()]
@[congr] theorem aL2 {P Q:Prop} (h:Unit→s=s'):kE s P Q=kE s' P Q:=by rw [h ()]
@[congr] theorem aNB (h:Unit→s=s'):aBl s σ L=aBl s' σ L:=by rw [h ()]
@[congr] theorem aNy {k k':Tk} {f:Nat} (g:Unit→k=k') (h:Unit→s=s'):aBi k f s σ L=aBi k' f s' σ L:=by rw [g (),h ()]
@[congr] theorem aLZ {k k':Ti} (g:Unit→k=k') (h:Unit→s=s'):tQ k s σ L=tQ k' s' σ L:=by rw [g (),h ()]
@[congr] theorem aNz {k k':Tk} (g:Unit→k=k') (h:Unit→s=s') (i:Unit→t=t'):aBj k s t σ L=aBj k' s' t' σ L:=by rw [g (),h (),i ()]
@[congr] theorem aNw {b:BinOp} (h:Unit→s=s') (i:Unit→t=t'):aBf b s t L=aBf b s' t' L:=by rw [h (),i ()]
@[congr] theorem aOs {b:UnOp} (h:Unit→s=s'):aHb b s L=aHb b s' L:=by rw [h ()]
@[congr] theorem aNx {b:Nat} (h:Unit→s=s'):aBg s b L=aBg s' b L:=by rw [h ()]
@[congr] theorem aNA {k k':Tk} (g:Unit→k=k') (h:Unit→s=s'):aBk k s σ L=aBk k' s' σ L:=by rw [g (),h ()]
@[congr] theorem aLB {k k':Ti} (g:Unit→k=k') (h:Unit→s=s') (i:Unit→t=t'):pG k s t σ K=pG k' s' t' σ K:=by rw [g (),h (),i ()]
@[congr] theorem aLX {n:Nat} {df:Dt} {M:Dt→List Nat→Prop} (h:Unit→s=s'):yH s σ n df M=yH s' σ n df M:=by rw [h ()]
@[congr] theorem aND {n:Nat} {df:Dt} {J:List Nat} {M:Dt→List Nat→Prop} (h:Unit→s=s'):aBm s σ n df J M=aBm s' σ n df J M:=by rw [h ()]
@[congr] theorem aIX {k k':Ti} {M:Nat→List (Nat×Rs)→Prop} (g:Unit→k=k') (h:Unit→s=s') (i:Unit→t=t'):mG k s t σ M=mG k' s' t' σ M:=by rw [g (),h (),i ()]
@[congr] theorem aLz {k k':Ti} {n:Nat} {ps:Array (Nat×Operand)} {M:Sv→List (Nat×Rs)→Prop} (g:Unit→k=k'):pD k n ps σ M=pD k' n ps σ M:=by rw [g ()]
@[congr] theorem aL0 {k k':Ti} {M:Sv→List (Nat×Rs)→Prop} (g:Unit→k=k') (h:Unit→s=s') (i:Unit→t=t'):tR k s t σ M=tR k' s' t' σ M:=by rw [g (),h (),i ()]
@[congr] theorem aNv {k k':Ti} {p p':List (Nat×Sv)} (g:Unit→k=k') (h:Unit→p=p'):aBe k p L=aBe k' p' L:=by rw [g (),h ()]
@[congr] theorem aLA {a a':List Sv} {M:Sv→List (Nat×Rs)→Prop} (h:Unit→s=s') (i:Unit→a=a'):pF E s a σ M=pF E s' a' σ M:=by rw [h (),i ()]
@[congr] theorem aLy {l:Nat} {a a':List Sv} {M:Sv→List (Nat×Rs)→Prop} (i:Unit→a=a'):EvYield E l a σ M=EvYield E l a' σ M:=by rw [i ()]
@[congr] theorem aLC {a a':List Sv} {M:Sv→List (Nat×Rs)→Prop} (h:Unit→s=s') (i:Unit→a=a'):EvCall E s a σ M=EvCall E s' a' σ M:=by rw [h (),i ()]
end
end Go.Eng
end
section
namespace Go.Eng
open Go
@[congr] theorem aTA {X:Cx} {E:Env} {c:Code} {σ τ:Ss} {Q:Exit→Ss→Prop} (h:Unit→σ=τ):V X E c σ Q=V X E c τ Q:=by rw [h ()]
@[congr] theorem aQa {K:Ss→Prop} {Q:Exit→Ss→Prop} {e:Exit} {σ τ:Ss} (h:Unit→σ=τ):nxt K Q e σ=nxt K Q e τ:=by rw [h ()]
@[congr] theorem aPK {i:Nat} {Q:Exit→Ss→Prop} {e:Exit} {σ τ:Ss} (h:Unit→σ=τ):blk i Q e σ=blk i Q e τ:=by rw [h ()]
@[congr] theorem aP8 {Q:Exit→Ss→Prop} {e:Exit} {σ τ:Ss} (h:Unit→σ=τ):noG Q e σ=noG Q e τ:=by rw [h ()]
@[congr] theorem aPi {E:Env} {rv:List ResultVar} {L0 L1:List (Nat×Rs)} {r:Sv} {e:Exit} {σ τ:Ss} (h:Unit→σ=τ):aCw E rv L0 r L1 e σ=aCw E rv L0 r L1 e τ:=by rw [h ()]
@[congr] theorem aL1 {E:Env} {A l:List Oper} {σ τ:Ss} {acc:List (List Nat×List Nat)} {K:Ss→Prop} (h:Unit→σ=τ):cI E A l σ acc K=cI E A l τ acc K:=by rw [h ()]
def Sv.pure:Sv→Bool
 | .v _=>true
 | .bor [] _=>true
 | .bptr [] _=>true
 |_=>false
def dY:List Sv→Bool
 |[]=>true
 |s::l=>s.pure&&dY l
theorem rN {w:World} {R:Nat→Prop} {d:Dt} {u:Value} (h:d.isSl=true) (k:RdV w R d u):u.oneCell'=true:=by
 cases d with
 |sl sz df cs=>exact RdV.one k
 |v x=>cases h
 |pt cs=>cases h
 |ab p=>cases h
theorem aMw {ML:List (Nat×Nat)} {V:List Nat} {rs rs0:Nat→Rs}:∀{s:Sv},s.pure=true→Sv.mt ML V rs rs0 s s
 | .v x,_=>by simp [Sv.mt]
 | .bor [] d,_=>by simp [Sv.mt,Sv.view,Sv.view0,Sv.one,oV]
 | .bptr [] ds,_=>by simp [Sv.mt,Sv.viewP,oV]
theorem oJ {ML:List (Nat×Nat)} {V:List Nat} {rs rs0:Nat→Rs}:∀{l:List Sv},dY l=true→Sv.mtL ML V rs rs0 l l
 |[],_=>by simp [Sv.mtL]
 |s::l,h=>by
  simp only [dY,Bool.and_eq_true]at h
  simp only [Sv.mtL]
  exact⟨aMw h.1,oJ h.2⟩
theorem EvCall.pure {E:Env} {f:FuncId} {args:List Sv} {σ:Ss} {K:Sv→List (Nat×Rs)→Prop} {x:Value} (hs:Spec E.P f args [] (.v x) []) (hc:aF E.P f) (hp:dY args=true) (hK:K (.v x) []):EvCall E (.fn f []) args σ K:=by
 refine EvCall.mk hs hc [] [] ?_ (by rw [List.append_nil];exact oJ hp) ?_
 ·simp only [qR,coL,coV,coM,List.map_nil,List.nodup_nil,and_self]
 ·simpa [Sv.ren,aU,cR]using hK
theorem EvCall.fresh {E:Env} {f:FuncId} {args:List Sv} {σ:Ss} {K:Sv→List (Nat×Rs)→Prop} {d:Dt} (hs:Spec E.P f args [] (.sl 0) [(0,⟨1, .arr d⟩)]) (hc:aF E.P f) (hp:dY args=true) (hf:σ.get σ.nx=⟨0, .gone⟩)
  (hK:K (.sl σ.nx) [(σ.nx,⟨1, .arr d⟩)]):EvCall E (.fn f []) args σ K:=by
 have hg:rsL σ.rs σ.nx=⟨0, .gone⟩:=hf
 refine EvCall.mk hs hc [(0,σ.nx)] [] ?_ (by rw [List.append_nil];exact oJ hp) ?_
 ·simp [qR,coL,coV,coM,sN,hg]
 ·simpa [Sv.ren,aU,cR,fwd,kJ,Rk.ren,hg]using hK
/-! ### Lists of numbers -/
abbrev iv (n:Int):Sv:= .v (.int .i64 n)
abbrev bv (b:Bool):Sv:= .v (.bool b)
def ints (l:List Int):Dt:= .sl 1 (.v (.int .i64 0)) (l.map fun x=> .v (.int .i64 x))
@[go_sem] theorem aPW (l):(ints l).isSl=true:=rfl
@[go_sem] theorem aTW (l):(ints l).sz=1:=rfl
@[go_sem] theorem aTV (l:List Int):(ints l).nc=l.length:=by simp [ints,Dt.nc,Dt.cells]
@[go_sem] theorem aRj (l:List Int):(ints l).len=l.length:=by simp [ints,Dt.len,Dt.sz,Dt.nc,Dt.cells]
@[go_sem] theorem ints_at (l:List Int) (k:Nat):(ints l).at k= .v (.int .i64 (l.getD k 0)):=by
 simp [ints,Dt.at,Dt.cells,Dt.df,List.getD_eq_getElem?_getD]
@[go_sem] theorem aQd (ts) (l:List Int):Sv.ofDt ts (ints l)= .bor ts (ints l):=rfl
@[go_sem] theorem aPX (l:List Int):(ints l).ones=true:=by simp [ints,Dt.ones,Dt.cells,Dt.one,Value.oneCell']
@[go_sem] theorem aPV (l:List Int):(ints l).flat=true:=by simp [ints,Dt.flat,Dt.cells,Dt.isV]
@[go_sem] theorem aRi (l m:List Int):Dt.app 1 (.v (.int .i64 0)) (ints l) (ints m)=ints (l++m):=by simp [ints,Dt.app,Dt.cells]
@[go_sem] theorem aRk (l:List Int) (k:Nat) (x:Int):(ints l).put k (.v (.int .i64 x))=ints (l.set k x):=by simp [ints,Dt.put,Dt.cells,Dt.sz,Dt.df,List.map_set]
def aC (l:List (List Int)):Dt:= .sl 1 (.sl 1 (.v (.int .i64 0)) []) (l.map ints)
@[go_sem] theorem aOB (l):(aC l).isSl=true:=rfl
@[go_sem] theorem aRr (l):(aC l).sz=1:=rfl
@[go_sem] theorem aRq (l:List (List Int)):(aC l).nc=l.length:=by simp [aC,Dt.nc,Dt.cells]
@[go_sem] theorem aPZ (l:List (List Int)):(aC l).len=l.length:=by simp [aC,Dt.len,Dt.sz,Dt.nc,Dt.cells]
@[go_sem] theorem aRm (l:List (List Int)) (k:Nat):(aC l).at k=ints (l.getD k []):=by
 simp [aC,Dt.at,Dt.cells,Dt.df,List.getD_eq_getElem?_getD]
 cases l[k]? <;>simp [ints]
@[go_sem] theorem aOO (ts) (l:List (List Int)):Sv.ofDt ts (aC l)= .bor ts (aC l):=rfl
theorem gL {α:Type} {l:List α} {i:Nat} (h:i<l.length) (d:α):l.getD i d=l[i]:=by simp [List.getD_eq_getElem?_getD,h]
@[go_sem] theorem aT1 (k:IntKind) (n:Int):(Value.int k n).oneCell'=true:=rfl
@[go_sem] theorem aRG (b:Bool):(Value.bool b).oneCell'=true:=rfl
attribute [go_sem] List.length_append List.length_take List.length_drop List.length_replicate List.length_set List.length_map List.length_range
def marks (k:Int) (n:Nat):List Int:=(List.range n).map fun i:Nat=>k+i
@[go_sem] theorem aMv (k:Int) (n:Nat):(marks k n).length=n:=by simp [marks]
@[go_sem] theorem aRl (n:Nat):Dt.sl 1 (.v (.int .i64 0)) (List.replicate n (.v (.int .i64 0)))=ints (List.replicate n 0):=by simp [ints]
end Go.Eng
end
section
namespace Go.Eng
open Go
section
variable {X:Cx} {rs:Nat→Rs}
theorem uH {w:World} {c:Nat→Cn} (hp:Hp X.w0 X.U X.S c rs w) (i j:Nat) (hij:i≠j) (hj:rs j=⟨0, .gone⟩) (cv':Nat) (hcv:(rs i).cv<cv') (k kj:Rk) (n:Cn)
  (hF:∀b,n.fp b→(c i).fp b) (hn:n.hdr.oneCell'=true)
  (hk:Ext X.S w w c (upd (upd c j n) i ⟨(c i).blk,(c i).hdr,fun b=>(c i).fp b∧¬n.fp b⟩) rs (upd (upd rs j ⟨1,kj⟩) i ⟨cv',k⟩)→
   k.ok w X.S (upd (upd c j n) i ⟨(c i).blk,(c i).hdr,fun b=>(c i).fp b∧¬n.fp b⟩) (upd (upd rs j ⟨1,kj⟩) i ⟨cv',k⟩) ⟨(c i).blk,(c i).hdr,fun b=>(c i).fp b∧¬n.fp b⟩∧
   kj.ok w X.S (upd (upd c j n) i ⟨(c i).blk,(c i).hdr,fun b=>(c i).fp b∧¬n.fp b⟩) (upd (upd rs j ⟨1,kj⟩) i ⟨cv',k⟩) n):
  ∃c',(c' i).blk=(c i).blk∧(c' i).hdr=(c i).hdr∧Hp X.w0 X.U X.S c' (upd (upd rs j ⟨1,kj⟩) i ⟨cv',k⟩) w∧Ext X.S w w c c' rs (upd (upd rs j ⟨1,kj⟩) i ⟨cv',k⟩):=by
 have hx:Ext X.S w w c (upd (upd c j n) i ⟨(c i).blk,(c i).hdr,fun b=>(c i).fp b∧¬n.fp b⟩) rs (upd (upd rs j ⟨1,kj⟩) i ⟨cv',k⟩):=by
  refine⟨fun l=>?_,Agree.refl _ _,fun l hl=>?_,fun l hl he ha=>?_⟩
  ·by_cases e:l=i
   ·subst e;rw [upd_same];exact Nat.le_of_lt hcv
   ·rw [aO _ _ e]
    by_cases e':l=j
    ·subst e';rw [hj];exact Nat.zero_le _
    ·rw [aO _ _ e'];exact Nat.le_refl _
  ·by_cases e:l=i
   ·subst e;rw [upd_same];exact⟨rfl,rfl⟩
   ·rw [aO _ _ e]
    by_cases e':l=j
    ·subst e';rw [hj]at hl;simp at hl
    ·rw [aO _ _ e'];exact⟨rfl,rfl⟩
  ·by_cases e:l=i
   ·subst e;rw [upd_same]at he;simp at he;omega
   ·rw [aO _ _ e]at he ha⊢
    by_cases e':l=j
    ·subst e';rw [hj]at hl;simp at hl
    ·rw [aO _ _ e']at ha⊢
     exact⟨ha,fun _ h=>h,Agree.refl _ _⟩
 obtain⟨hk1,hk2⟩:=hk hx
 have hgone:∀b,¬(c j).fp b:=fun b hb=>by
  have:=hp.res j
  rw [hj]at this
  exact this b hb
 refine⟨_,by rw [upd_same],by rw [upd_same],⟨hp.os,hp.tape,hp.output,hp.size,hp.unch,hp.sub,hp.ult,fun l=>?_,fun l b hb=>?_,fun l b hb=>?_,fun l m b hlm hl hm=>?_,fun l=>?_⟩,hx⟩
 ·by_cases e:l=i
  ·subst e;rw [upd_same,upd_same];exact hk1
  ·by_cases e':l=j
   ·subst e'
    rw [aO _ _ e,upd_same,aO _ _ e,upd_same];exact hk2
   ·have:=Rk.ok_ext hx (Agree.refl (c l).fp w) _ (hp.res l)
    rw [aO _ _ e,aO _ _ e',aO _ _ e,aO _ _ e']
    exact this
 ·by_cases e:l=i
  ·subst e;rw [upd_same]at hb;exact hp.flt l b hb.1
  ·rw [aO _ _ e]at hb
   by_cases e':l=j
   ·subst e';rw [upd_same]at hb;exact hp.flt i b (hF b hb)
   ·rw [aO _ _ e']at hb;exact hp.flt l b hb
 ·by_cases e:l=i
  ·subst e;rw [upd_same]at hb;exact hp.fu l b hb.1
  ·rw [aO _ _ e]at hb
   by_cases e':l=j
   ·subst e';rw [upd_same]at hb;exact hp.fu i b (hF b hb)
   ·rw [aO _ _ e']at hb;exact hp.fu l b hb
 ·have key:∀l,(upd (upd c j n) i ⟨(c i).blk,(c i).hdr,fun b=>(c i).fp b∧¬n.fp b⟩ l).fp b→(l=i∧(c i).fp b∧¬n.fp b)∨(l=j∧n.fp b)∨(l≠i∧l≠j∧(c l).fp b):=fun l h=>by
   by_cases e:l=i
   ·subst e;rw [upd_same]at h;exact .inl ⟨rfl,h⟩
   ·rw [aO _ _ e]at h
    by_cases e':l=j
    ·subst e';rw [upd_same]at h;exact .inr (.inl ⟨rfl,h⟩)
    ·rw [aO _ _ e']at h;exact .inr (.inr ⟨e,e',h⟩)
  rcases key l hl with⟨rfl,h1,h2⟩|⟨rfl,h1⟩|⟨e1,e2,h1⟩<;>rcases key m hm with⟨rfl,g1,g2⟩|⟨rfl,g1⟩|⟨f1,f2,g1⟩
  ·exact hlm rfl
  ·exact h2 g1
  ·exact hp.dis _ _ b (Ne.symm f1) h1 g1
  ·exact g2 h1
  ·exact hlm rfl
  ·exact hp.dis _ _ b (Ne.symm f1) (hF b h1) g1
  ·exact hp.dis _ _ b e1 h1 g1
  ·exact hp.dis _ _ b e1 h1 (hF b g1)
  ·exact hp.dis _ _ b hlm h1 g1
 ·by_cases e:l=i
  ·subst e;rw [upd_same];exact hp.one l
  ·rw [aO _ _ e]
   by_cases e':l=j
   ·subst e';rw [upd_same];exact hn
   ·rw [aO _ _ e'];exact hp.one l
variable {w:World} {S:Nat→Prop} {c:Nat→Cn}
theorem iX {k p:Nat} (s:Sv) (hs:List (Nat×Sv)) (h:p≠k):hlk ((k,s)::hs) p=hlk hs p:=by simp [hlk,h]
theorem pZ (k:Nat) (s:Sv) (hs:List (Nat×Sv)):hlk ((k,s)::hs) k=some s:=by simp [hlk]
theorem OwH.off {hs hs':List (Nat×Sv)}:∀(ds:List Dt) (p:Nat) (F:Nat→Prop) (vs:List Value),(∀q,p≤q→hlk hs' q=hlk hs q)→OwH w S c rs hs F p ds vs→OwH w S c rs hs' F p ds vs
 |[],_,_,_,_,h=>h
 |d::ds,p,F,vs,hq,h=>by
  simp only [OwH,hq p (Nat.le_refl p)]at h⊢
  split at h
  ·obtain⟨x,r,h1,h2,h3⟩:=h
   exact⟨x,r,h1,h2,OwH.off ds _ _ _ (fun q hq'=>hq q (by omega)) h3⟩
  ·obtain⟨x,r,F1,F2,h1,f1,f2,f3,h2,h3⟩:=h
   exact⟨x,r,F1,F2,h1,f1,f2,f3,h2,OwH.off ds _ _ _ (fun q hq'=>hq q (by omega)) h3⟩
theorem OwH.mono {hs:List (Nat×Sv)}:∀(ds:List Dt) (p:Nat) (F G:Nat→Prop) (vs:List Value),(∀b,F b→G b)→OwH w S c rs hs F p ds vs→OwH w S c rs hs G p ds vs
 |[],_,_,_,_,_,h=>h
 |d::ds,p,F,G,vs,hm,h=>by
  simp only [OwH]at h⊢
  split at h
  ·obtain⟨x,r,h1,h2,h3⟩:=h
   exact⟨x,r,h1,h2,OwH.mono ds _ _ _ _ hm h3⟩
  ·obtain⟨x,r,F1,F2,h1,f1,f2,f3,h2,h3⟩:=h
   exact⟨x,r,F1,F2,h1,fun b hb=>hm b (f1 b hb),fun b hb=>hm b (f2 b hb),f3,h2,h3⟩
theorem OwH.take {hs:List (Nat×Sv)}:∀(ds:List Dt) (p k:Nat) (F:Nat→Prop) (vs:List Value) (d:Dt),ds[k]? =some d→hlk hs (p+k)=none→OwH w S c rs hs F p ds vs→
  ∃x F1 F2,(∀b,F1 b→F b)∧(∀b,F2 b→F b)∧(∀b,F1 b→F2 b→False)∧OwV w F1 d x∧∀(c':Nat→Cn) (rs':Nat→Rs),Ext S w w c c' rs rs'→∀s:Sv,s.ok w S c' rs' x→OwH w S c' rs' ((p+k,s)::hs) F2 p ds vs
 |[],_,_,_,_,_,h,_,_=>by simp at h
 |d::ds,p,0,F,vs,d',h,hk,ho=>by
  simp at h;subst h
  simp only [OwH,Nat.add_zero]at ho hk⊢
  rw [hk]at ho
  obtain⟨x,r,F1,F2,h1,f1,f2,f3,h2,h3⟩:=ho
  refine⟨x,F1,F2,f1,f2,f3,h2,fun c' rs' hx s hs'=>?_⟩
  rw [pZ]
  exact⟨x,r,h1,hs',OwH.off ds _ _ _ (fun q hq=>iX s hs (by omega)) (rL hx _ _ _ _ (Agree.refl _ _) h3)⟩
 |d::ds,p,k+1,F,vs,d',h,hk,ho=>by
  simp only [List.getElem?_cons_succ]at h
  have e:p+(k+1)=p+1+k:=by omega
  rw [e]at hk⊢
  simp only [OwH]at ho
  split at ho
  ·rename_i s0 hs0
   obtain⟨x,r,h1,h2,h3⟩:=ho
   obtain⟨y,F1,F2,f1,f2,f3,g1,g2⟩:=OwH.take ds (p+1) k F r d' h hk h3
   refine⟨y,F1,F2,f1,f2,f3,g1,fun c' rs' hx s hs'=>?_⟩
   simp only [OwH]
   rw [iX s hs (by omega),hs0]
   exact⟨x,r,h1,Sv.ok_ext hx _ _ h2,g2 c' rs' hx s hs'⟩
  ·rename_i hs0
   obtain⟨x,r,G1,G2,h1,q1,q2,q3,h2,h3⟩:=ho
   obtain⟨y,F1,F2,f1,f2,f3,g1,g2⟩:=OwH.take ds (p+1) k G2 r d' h hk h3
   refine⟨y,F1,fun b=>G1 b∨F2 b,fun b hb=>q2 b (f1 b hb),fun b hb=>hb.elim (q1 b) fun hb=>q2 b (f2 b hb),fun b hb hb'=>hb'.elim (fun h=>q3 b h (f1 b hb)) (f3 b hb),g1,fun c' rs' hx s hs'=>?_⟩
   simp only [OwH]
   rw [iX s hs (by omega),hs0]
   exact⟨x,r,G1,F2,h1,fun b hb=> .inl hb,fun b hb=> .inr hb,fun b hb hb'=>q3 b hb (f2 b hb'),h2,g2 c' rs' hx s hs'⟩
theorem OwH.put {hs:List (Nat×Sv)} {G:Nat→Prop} {t:Dt} {u:Value}:∀(ds:List Dt) (p k:Nat) (F:Nat→Prop) (vs:List Value) (s:Sv),k<ds.length→hlk hs (p+k)=none→(∀x,s.ok w S c rs x→x=u)→
  (∀b,F b→G b→False)→OwV w G t u→OwH w S c rs ((p+k,s)::hs) F p ds vs→OwH w S c rs hs (fun b=>F b∨G b) p (ds.set k t) vs
 |[],_,_,_,_,_,h,_,_,_,_,_=>by simp at h
 |d::ds,p,0,F,vs,s,_,hk,hu,hd,ht,ho=>by
  simp only [OwH,Nat.add_zero,pZ]at ho hk
  obtain⟨x,r,h1,h2,h3⟩:=ho
  simp only [List.set_cons_zero,OwH,hk]
  have:=hu x h2
  subst this
  exact⟨x,r,G,F,h1,fun b hb=> .inr hb,fun b hb=> .inl hb,fun b hb hb'=>hd b hb' hb,ht,OwH.off ds _ _ _ (fun q hq=>(iX s hs (by omega)).symm) h3⟩
 |d::ds,p,k+1,F,vs,s,hl,hk,hu,hd,ht,ho=>by
  simp only [List.length_cons]at hl
  have e:p+(k+1)=p+1+k:=by omega
  rw [e]at hk ho
  simp only [OwH]at ho
  rw [iX s hs (by omega)]at ho
  simp only [List.set_cons_succ,OwH]
  split at ho
  ·rename_i s0 _
   obtain⟨x,r,h1,h2,h3⟩:=ho
   exact⟨x,r,h1,h2,OwH.put ds (p+1) k F r s (by omega) hk hu hd ht h3⟩
  ·obtain⟨x,r,G1,G2,h1,q1,q2,q3,h2,h3⟩:=ho
   refine⟨x,r,G1,fun b=>G2 b∨G b,h1,fun b hb=> .inl (q1 b hb),fun b hb=>hb.elim (fun h=> .inl (q2 b h)) .inr,fun b hb hb'=>hb'.elim (q3 b hb) (hd b (q1 b hb)),h2,?_⟩
   exact OwH.put ds (p+1) k G2 r s (by omega) hk hu (fun b hb=>hd b (q2 b hb)) ht h3
theorem OwH.nil_iff:∀(ds:List Dt) (p:Nat) (F:Nat→Prop) (vs:List Value),OwH w S c rs [] F p ds vs↔OwL w F ds vs
 |[],_,_,_=>by simp [OwH,OwL]
 |d::ds,p,F,vs=>by
  simp only [OwH,OwL,hlk]
  constructor
  ·rintro⟨x,r,F1,F2,h1,f1,f2,f3,h2,h3⟩
   exact⟨x,r,F1,F2,h1,f1,f2,f3,h2,(OwH.nil_iff ds _ _ _).1 h3⟩
  ·rintro⟨x,r,F1,F2,h1,f1,f2,f3,h2,h3⟩
   exact⟨x,r,F1,F2,h1,f1,f2,f3,h2,(OwH.nil_iff ds _ _ _).2 h3⟩
theorem aE1 {n:Cn} {d:Dt} (hd:d.nc≠0) (h:Rk.ok w S c rs n (.arr d)):Rk.ok w S c rs n (.hol d []):=by
 obtain⟨h1,h2⟩:=h
 cases d with
 |v x=>simp [Dt.nc,Dt.cells]at hd
 |pt cs=>simp [Dt.nc,Dt.cells]at hd
 |ab p=>simp [Dt.nc,Dt.cells]at hd
 |sl sz df cs=>
  simp only [OwV]at h1
  obtain⟨h0,⟨_,rfl⟩|⟨g,m,cap,cur,e,e1,e2,e3,e4,e5,e6,e7,e8⟩⟩:=h1
  ·simp [Dt.nc,Dt.cells]at hd
  ·have:=h2 _ _ _ e1
   simp at this
   subst this
   exact⟨sz,df,cs,m,cap,cur,e,rfl,h0,e1,e2,e3,e4,e5,e6,e7,(OwH.nil_iff _ _ _ _).2 e8⟩
theorem aEE {n:Cn} {d:Dt} (h:Rk.ok w S c rs n (.hol d [])):Rk.ok w S c rs n (.arr d):=by
 obtain⟨sz,df,cs,m,cap,cur,e,rfl,h0,e1,e2,e3,e4,e5,e6,e7,e8⟩:=h
 refine⟨?_,fun a m' k hh=>?_⟩
 ·simp only [OwV]
  exact⟨h0, .inr ⟨n.blk,m,cap,cur,e,e1,e2,e3,e4,e5,e6,e7,(OwH.nil_iff _ _ _ _).1 e8⟩⟩
 ·rw [e1]at hh
  simp at hh
  exact hh.1.symm
end
section
variable {X:Cx} {σ:Ss}
theorem Imp.open_ (i k : Nat) (d : Dt) (hs : List (Nat × Sv)) (hi : (σ.get i).k = .hol d hs ∨ ((σ.get i).k = .arr d ∧ hs = [])) (hcv : 1 ≤ (σ.get i).cv) (hkk : k < d.nc) (hh : hlk hs k = none) (hsl : (d.at k).isSl = true) (hf : σ.get σ.nx = ⟨0, .gone⟩) :
    Imp X σ ⟨σ.tm, (i, ⟨(σ.get i).cv + 1, .hol d ((k, .sl σ.nx) :: hs)⟩) :: (σ.nx, ⟨1, .arr (d.at k)⟩) :: σ.rs, σ.nx + 1⟩ := by
  rintro w1 U1 ds a w ⟨hd, hn, c, hp, ht, hpin⟩
  have hij : i ≠ σ.nx := fun e => by rw [e, hf] at hcv; simp at hcv
  have h1 : Rk.ok w X.S c (rsL σ.rs) (c i) (.hol d hs) := by
    have := hp.res i
    rcases hi with hi | ⟨hi, rfl⟩
    · unfold Ss.get at hi; rw [hi] at this; exact this
    · unfold Ss.get at hi; rw [hi] at this; exact aE1 (by omega) this
  obtain ⟨sz, df, cs, m, cap, cur, e, rfl, h0, e1, e2, e3, e4, e5, e6, e7, e8⟩ := h1
  have hkc : k < cs.length := hkk
  have hat : (Dt.sl sz df cs).at k = cs[k] := by simp [Dt.at, Dt.cells, List.getD_eq_getElem?_getD, hkc]
  rw [hat] at hsl ⊢
  obtain ⟨x, F1, F2, f1, f2, f3, g1, g2⟩ := OwH.take cs 0 k _ _ cs[k] (by simp [hkc]) (by rw [Nat.zero_add]; exact hh) e8
  rw [Nat.zero_add] at g2
  -- the new resource
  have hone : x.oneCell' = true := rN hsl (OwV.rd _ _ g1)
  have hblk : ∃ g : Nat, ∀ a m k, x = .slice (some a) m k → a = ⟨g, 0, none⟩ := by
    cases hc : cs[k] with
    | v y => rw [hc] at hsl; cases hsl
    | pt l => rw [hc] at hsl; cases hsl
    | ab p => rw [hc] at hsl; cases hsl
    | sl sz' df' l =>
      rw [hc] at g1
      simp only [OwV] at g1
      rcases g1.2 with ⟨rfl, _⟩ | ⟨g, m', cap', cur', e', q1, _⟩
      · exact ⟨0, fun _ _ _ h => by cases h⟩
      · exact ⟨g, fun a m k h => by rw [q1] at h; simp at h; exact h.1.symm⟩
  obtain ⟨g, hg⟩ := hblk
  obtain ⟨c', q1, q2, hp', hext⟩ := uH hp i σ.nx hij hf ((σ.get i).cv + 1) (Nat.lt_succ_self _) (.hol (.sl sz df cs) ((k, .sl σ.nx) :: hs)) (.arr cs[k]) ⟨g, x, F1⟩ (fun b hb => (f1 b hb).1) hone (fun hx' => by
    refine ⟨?_, g1, hg⟩
    refine ⟨sz, df, cs, m, cap, cur, e, rfl, h0, e1, e2, e3, e4, ⟨e5, fun h => (f1 _ h).2 rfl⟩, e6, e7, ?_⟩
    refine OwH.mono cs 0 F2 _ _ (fun b hb => ⟨⟨(f2 b hb).1, fun h => f3 b h hb⟩, (f2 b hb).2⟩) (g2 _ _ hx' (.sl σ.nx) ?_)
    simp only [Sv.ok, aO _ _ (Ne.symm hij), upd_same]
    exact ⟨Nat.le_refl _, trivial⟩)
  refine ⟨hd, hn, c', hp', fun s => Sv.ok_ext hext _ _ (ht s), fun l hl => ?_⟩
  obtain ⟨r1, r2, r3⟩ := hpin l hl
  obtain ⟨r4, r5⟩ := hext.cn l r1
  exact ⟨Nat.le_trans r1 (hext.ver l), r4.trans r2, r5.trans r3⟩
theorem aEQ {w:World} {c:Nat→Cn} (hp:Hp X.w0 X.U X.S c (rsL σ.rs) w) (i j k:Nat) (d e:Dt) (hs:List (Nat×Sv)) (hi:(σ.get i).k= .hol d ((k, .sl j)::hs)) (hj:(σ.get j).k= .arr e) (hij:i≠j) (hkk:k<d.nc) (hh:hlk hs k=none) (kk:Rk)
  (hkk2:∀(S:Nat→Prop) (c:Nat→Cn) (rs:Nat→Rs) (n:Cn),Rk.ok w S c rs n (.hol (d.put k e) hs)→Rk.ok w S c rs n kk):
  ∃c',Hp X.w0 X.U X.S c' (rsL ((i,⟨(σ.get i).cv+1,kk⟩)::(j,⟨(σ.get j).cv, .gone⟩)::σ.rs)) w∧Ext X.S w w c c' (rsL σ.rs) (rsL ((i,⟨(σ.get i).cv+1,kk⟩)::(j,⟨(σ.get j).cv, .gone⟩)::σ.rs)):=by
 have h1:=hp.res i
 have h2:=hp.res j
 unfold Ss.get at hi hj
 rw [hi]at h1
 rw [hj]at h2
 obtain⟨sz,df,cs,m,cap,cur,e',rfl,h0,e1,e2,e3,e4,e5,e6,e7,e8⟩:=h1
 have hr:=vG hp i ⟨(c i).blk,(c i).hdr,fun b=>(c i).fp b∨(c j).fp b⟩ ((σ.get i).cv+1) kk [j] (by simpa using hij) (Nat.lt_succ_self _) (.inr ⟨rfl,rfl⟩) rfl rfl rfl (Nat.le_refl _) (Agree.refl _ _)
  (fun b hb=>hb.elim .inl fun h=> .inr (.inl ⟨j,by simp,h⟩)) (hp.one i) (fun hx=>by
   refine hkk2 _ _ _ _ ⟨sz,df,cs.set k e,m,cap,cur,e',rfl,h0,e1,by simpa using e2,e3,e4, .inl e5,e6,e7,?_⟩
   have h3:=OwH.put (u:=(c j).hdr) (G:=(c j).fp) cs 0 k (fun b=>(c i).fp b∧b≠(c i).blk) _ (.sl j) hkk (by rw [Nat.zero_add];exact hh) (fun x hx=>by simp only [Sv.ok]at hx;exact hx.2) (fun b hb hb'=>hp.dis i j b hij hb.1 hb') h2.1 (by rw [Nat.zero_add];exact e8)
   have h4:=rL hx _ _ _ _ (Agree.refl _ _) h3
   rw [List.length_set]
   refine OwH.mono _ _ _ _ _ (fun b hb=>?_) h4
   rcases hb with hb|hb
   ·exact⟨.inl hb.1,hb.2⟩
   ·exact⟨.inr hb,fun h=>hp.dis i j b hij (by rw [h];exact e5) hb⟩)
 exact⟨_,hr.1,hr.2⟩
theorem Imp.closeA (i j k:Nat) (d e:Dt) (hi:(σ.get i).k= .hol d [(k, .sl j)]) (hj:(σ.get j).k= .arr e) (hij:i≠j) (hkk:k<d.nc):
  Imp X σ ⟨σ.tm,(i,⟨(σ.get i).cv+1, .arr (d.put k e)⟩)::(j,⟨(σ.get j).cv, .gone⟩)::σ.rs,σ.nx⟩:=by
 rintro w1 U1 ds a w ⟨hd,hn,c,hp,ht,hpin⟩
 obtain⟨c',hp',hext⟩:=aEQ hp i j k d e [] hi hj hij hkk rfl (.arr (d.put k e)) (fun _ _ _ _ h=>aEE h)
 refine⟨hd,hn,c',hp',fun s=>Sv.ok_ext hext _ _ (ht s),fun l hl=>?_⟩
 obtain⟨r1,r2,r3⟩:=hpin l hl
 obtain⟨r4,r5⟩:=hext.cn l r1
 exact⟨Nat.le_trans r1 (hext.ver l),r4.trans r2,r5.trans r3⟩
end
theorem dG {X:Cx} {E:Env} {Q:Exit→Ss→Prop} {σ τ:Ss} (id:Nat) {l:Array Oper} {b:Bool} (h:Imp X σ τ) (k:V X E (.region id l b) τ Q):V X E (.region id l b) σ Q:=cZ h k
@[go_sem] theorem aP0 (l:List (List Int)) (k:Nat) (x:List Int):(aC l).put k (ints x)=aC (l.set k x):=by simp [aC,Dt.put,Dt.cells,Dt.sz,Dt.df,List.map_set]
def nJ (l:List (List Int)):Nat:=(l.map List.length).sum
theorem aEq (l:List (List Int)) (i:Nat) (h:i<l.length):nJ (l.take (i+1))=nJ (l.take i)+(l.getD i []).length:=by
 unfold nJ
 rw [List.take_succ_eq_append_getElem h,List.map_append,List.sum_append,gL h]
 simp
theorem aIb (l:List (List Int)) (i:Nat):nJ (l.take i)≤nJ l:=by
 unfold nJ
 conv=>rhs;rw [←List.take_append_drop i l]
 rw [List.map_append,List.sum_append]
 omega
def cV (l:List (List Int)) (n:Nat):Dt:= .sl 1 (.sl 1 (.v (.int .i64 0)) []) (l.map ints++List.replicate n (.v (.slice none 0 0)))
@[go_sem] theorem aOy (l n):(cV l n).isSl=true:=rfl
@[go_sem] theorem aRg (l n):(cV l n).sz=1:=rfl
@[go_sem] theorem aRf (l:List (List Int)) (n:Nat):(cV l n).nc=l.length+n:=by simp [cV,Dt.nc,Dt.cells]
@[go_sem] theorem aPT (l:List (List Int)) (n:Nat):(cV l n).len=l.length+n:=by simp [cV,Dt.len,Dt.sz,Dt.nc,Dt.cells]
theorem aE3 (l:List (List Int)):cV l 0=aC l:=by simp [cV,aC]
@[go_sem] theorem aPU (n:Nat):Dt.sl 1 (.sl 1 (.v (.int .i64 0)) []) (List.replicate n (.v (.slice none 0 0)))=cV [] n:=by simp [cV]
theorem aHs (l:List (List Int)) (n:Nat) (x:List Int):(cV l (n+1)).put l.length (ints x)=cV (l++[x]) n:=by
 simp [cV,Dt.put,Dt.cells,Dt.sz,Dt.df,List.replicate_succ]
end Go.Eng
end
section
namespace Go.Eng
open Go
/-! ### What a value reads as -/
def aQY (rs:Nat→Rs):Sv→Dt
 | .v x=> .v x
 | .bor _ d=>d
 | .bptr _ ds=> .pt ds
 | .sl i=>match (rs i).k with| .arr d=>d|_=> .v (.slice none 0 0)
 |_=> .v (.slice none 0 0)
def aBd (rs:Nat→Rs):List Sv→List Dt
 |[]=>[]
 |s::l=>aQY rs s::aBd rs l
def aLR:List Dt→Dt
 | .sl sz df _::_=> .sl sz df []
 | .pt ds::_=> .pt ds
 |_=> .v (.pointer none)
mutual
def rvS (rs:Nat→Rs):Sv→Sv
 | .v x=> .v x
 | .bor _ d=> .bor [] d
 | .bptr _ ds=> .bptr [] ds
 | .sl i=>match (rs i).k with| .arr d=> .bor [] d|_=> .dead
 | .ptr i o=>match (rs i).k with| .box cells=> .bptr [] (aBd rs (cells.drop o))| .arr d=> .bptr [] (d.cells.drop o)|_=> .dead
 | .agg l=> .agg (rvL rs l)
 | .tup l=> .tup (rvL rs l)
 | .bsl i _=>match (rs i).k with| .box cells=> .bor [] (.sl 1 (aLR (aBd rs cells)) (aBd rs cells))|_=> .dead
 | .dead=> .dead
 | .fn f l=> .fn f (rvL rs l)
def rvL (rs:Nat→Rs):List Sv→List Sv
 |[]=>[]
 |s::l=>rvS rs s::rvL rs l
end
def dd:List Nat→List Nat
 |[]=>[]
 |i::l=>if i∈l then dd l else i::dd l
def kF (nx:Nat):List (Nat×Rs)→List (Nat×Nat)
 |[]=>[]
 |(k,_)::l=>(k,nx)::kF (nx+1) l
theorem EvCall.rd {E:Env} {f:FuncId} {args es:List Sv} {σ:Ss} {K:Sv→List (Nat×Rs)→Prop} {r:Sv} {L1:List (Nat×Rs)} (h0:rvL (rsL σ.rs) args=es) (hs:Spec E.P f es [] r L1) (hc:aF E.P f)
  (h1:qR (rsL σ.rs) (bL (rsL σ.rs) 3 ((Sv.fn f []).ids++args.flatMap Sv.ids)) [] (kF σ.nx L1) (dd (bL (rsL σ.rs) 3 (args.flatMap Sv.ids))))
  (h2:Sv.mtL (kF σ.nx L1) (dd (bL (rsL σ.rs) 3 (args.flatMap Sv.ids))) (rsL σ.rs) (rsL []) args (rvL (rsL σ.rs) args))
  (h3:K (r.ren (aU (rsL σ.rs) (rsL L1) (kF σ.nx L1) (dd (bL (rsL σ.rs) 3 (args.flatMap Sv.ids))))) (cR (aU (rsL σ.rs) (rsL L1) (kF σ.nx L1) (dd (bL (rsL σ.rs) 3 (args.flatMap Sv.ids)))) (rsL L1))):
  EvCall E (.fn f []) args σ K:=
 EvCall.mk hs hc (kF σ.nx L1) (dd (bL (rsL σ.rs) 3 (args.flatMap Sv.ids))) h1 (by rw [List.append_nil,←h0];exact h2) h3
/-! ### Which resource of the one is which of the other -/
mutual
def pSv:Sv→Sv→List (Nat×Nat)
 | .sl j, .sl i=>[(j,i)]
 | .ptr j _, .ptr i _=>[(j,i)]
 | .bsl j _, .bsl i _=>[(j,i)]
 | .bor ts _, .bor us _=>(ts.map (·.1)).zip (us.map (·.1))
 | .bptr ts _, .bptr us _=>(ts.map (·.1)).zip (us.map (·.1))
 | .agg l, .agg m=>vS l m
 | .tup l, .tup m=>vS l m
 | .fn _ l, .fn _ m=>vS l m
 |_,_=>[]
def vS:List Sv→List Sv→List (Nat×Nat)
 |s::l,t::m=>pSv s t++vS l m
 |_,_=>[]
end
def pTm (σ:Ss):List (Nat×Sv)→List (Nat×Nat)
 |[]=>[]
 |(k,t)::l=>pSv (lk σ.tm k) t++pTm σ l
def pRk:Rk→Rk→List (Nat×Nat)
 | .box l, .box m=>vS l m
 | .bx l _ _, .bx m _ _=>vS l m
 | .hol _ l, .hol _ m=>vS (l.map (·.2)) (m.map (·.2))
 |_,_=>[]
def ddp:List (Nat×Nat)→List (Nat×Nat)
 |[]=>[]
 |p::l=>if p∈l then ddp l else p::ddp l
def aGr (σ τ:Ss):List (Nat×Nat)→List (Nat×Nat)
 |[]=>[]
 |(j,i)::l=>(j,i)::(pRk (σ.get j).k (τ.get i).k++aGr σ τ l)
def idL:List (Nat×Rs)→List (Nat×Nat)
 |[]=>[]
 |(i,_)::l=>(i,i)::idL l
def qE (L0:List (Nat×Rs)) (σ τ:Ss):List (Nat×Nat):=ddp (aGr σ τ (ddp (aGr σ τ (ddp (idL L0++pTm σ τ.tm)))))
theorem Imp.auto {X:Cx} {L0:List (Nat×Rs)} (hX:X.rs0=rsL L0) {σ τ:Ss} (h:lG L0 (qE L0 σ τ) σ τ):Imp X σ τ:=Imp.sub hX _ h
/-! ### Loops -/
def clean (ks:List Nat):List (Nat×Sv)→List (Nat×Sv)
 |[]=>[]
 |(k,s)::l=>if k∈ks then clean ks l else(k,s)::clean (k::ks) l
def qO (ks:List Nat):List (Nat×Rs)→List (Nat×Rs)
 |[]=>[]
 |(k,s)::l=>if k∈ks then qO ks l else(k,s)::qO (k::ks) l
def rmN (k:Nat):List Nat→List Nat
 |[]=>[]
 |j::l=>if k=j then rmN k l else j::rmN k l
def zC (ks:List Nat):List (Nat×Sv)→List (Nat×Sv)
 |[]=>[]
 |(k,s)::l=>if k∈ks then(k,s)::zC (rmN k ks) l else zC ks l
theorem aG {X:Cx} {E:Env} {σ:Ss} {Q:Exit→Ss→Prop} {c:Code} {G:Type} (ov:G→List (Nat×Sv)) (ks:List Nat) (ru:G→List (Nat×Rs)) (kr:List Nat) (m:G→Nat) (g0:G)
  (h0:Imp X σ ⟨ov g0++zC ks σ.tm,ru g0++qO kr σ.rs,σ.nx⟩)
  (hr:∀g,V X E c ⟨ov g++zC ks σ.tm,ru g++qO kr σ.rs,σ.nx⟩ (nxt (fun t=>∃g',m g'<m g∧Imp X t ⟨ov g'++zC ks σ.tm,ru g'++qO kr σ.rs,σ.nx⟩) Q)):V X E (.loop c) σ Q:=
 aN2 (fun g=>⟨ov g++zC ks σ.tm,ru g++qO kr σ.rs,σ.nx⟩) m g0 h0 hr
/-! ### A function's end -/
theorem xF {E:Env} {σ:Ss} {α:Type} {P:α→List Sv→Prop}:∀{l:List ResultVar},pQ E σ l (fun r=>∃m,P m r)→∃m,pQ E σ l (P m)
 |[],h=>h
 | .tmp t::l,h=>by
  simp only [pQ]at h⊢
  exact xF (P:=fun m r=>P m (lk σ.tm t::r)) h
 | .cell a t::l,h=>by
  simp only [pQ]at h⊢
  split at h
  ·split at h
   ·obtain⟨h1,h2⟩:=h
    split at h2
    ·obtain⟨h3,h4⟩:=h2
     obtain⟨m,h5⟩:=xF (P:=fun m r=>P m (_::r)) h4
     exact⟨m,h1,h3,h5⟩
    ·split at h2
     ·obtain⟨m,h5⟩:=xF (P:=fun m r=>P m (_::r)) h2
      exact⟨m,h1,h5⟩
     ·exact h2.elim
   ·exact h.elim
  ·exact h.elim
theorem pM {E:Env} {σ:Ss} {P Q:List Sv→Prop} (hPQ:∀r,P r→Q r):∀{l:List ResultVar},pQ E σ l P→pQ E σ l Q
 |[],h=>hPQ _ h
 | .tmp t::l,h=>by
  simp only [pQ]at h⊢
  exact pM (fun r=>hPQ _) h
 | .cell a t::l,h=>by
  simp only [pQ]at h⊢
  split at h
  ·split at h
   ·obtain⟨h1,h2⟩:=h
    refine⟨h1,?_⟩
    split at h2
    ·exact⟨h2.1,pM (fun r=>hPQ _) h2.2⟩
    ·split at h2
     ·exact pM (fun r=>hPQ _) h2
     ·exact h2.elim
   ·exact h.elim
  ·exact h.elim
theorem aD2 {E:Env} {σ:Ss} {rv:List ResultVar} {L0:List (Nat×Rs)} {r:Sv} {L1:List (Nat×Rs)}
  (h:oG E σ rv fun s=>lG L0 (qE L0 ⟨[(0,s)],σ.rs,0⟩ ⟨[(0,r)],L1,0⟩) ⟨[(0,s)],σ.rs,0⟩ ⟨[(0,r)],L1,0⟩):
  ∃ML,oG E σ rv fun s=>lG L0 ML ⟨[(0,s)],σ.rs,0⟩ ⟨[(0,r)],L1,0⟩:=by
 unfold oG at h⊢
 have h2:pQ E σ rv (fun l=>∃ML,aPv (fun s=>lG L0 ML ⟨[(0,s)],σ.rs,0⟩ ⟨[(0,r)],L1,0⟩) l):=by
  refine pM (fun l hl=>?_) h
  rcases l with _|⟨a,_|⟨b,l⟩⟩<;>exact⟨_,hl⟩
 exact xF h2
theorem aB {E:Env} {σ:Ss} {rv:List ResultVar} {L0:List (Nat×Rs)} {r:Sv} {L1:List (Nat×Rs)}
  (h:oG E σ rv fun s=>lG L0 (qE L0 ⟨[(0,s)],σ.rs,0⟩ ⟨[(0,r)],L1,0⟩) ⟨[(0,s)],σ.rs,0⟩ ⟨[(0,r)],L1,0⟩):aCw E rv L0 r L1 .ret σ:=aD2 h
theorem aA {E:Env} {σ:Ss} {rv:List ResultVar} {L0:List (Nat×Rs)} {r:Sv} {L1:List (Nat×Rs)}
  (h:oG E σ rv fun s=>lG L0 (qE L0 ⟨[(0,s)],σ.rs,0⟩ ⟨[(0,r)],L1,0⟩) ⟨[(0,s)],σ.rs,0⟩ ⟨[(0,r)],L1,0⟩):aCw E rv L0 r L1 .normal σ:=aD2 h
/-! ### A region, one operation behind the other -/
section
variable {E:Env} {A r:List Oper} {σ:Ss} {K:Ss→Prop} {d:Option Nat} {op:Op} {t:TypeId} {p:String} {af:Array Edge} {j:Nat} {want:Bool} {acc:List (List Nat×List Nat)}
theorem aHa (h:K σ):dP E A [] σ K:=h
theorem aGd (h:∀K':Ss→Prop,(∀s,dP E A r s K→K' s)→jI E d op σ K'):dP E A (⟨d,op,t,p,af,none⟩::r) σ K:=h _ fun _ h=>h
theorem aGc {g:Nat} (hs:cX A j=some g) (h:∀K':Ss→Prop,(∀s,dP E A r s K→K' s)→iD (lk σ.tm g) want (jI E d op σ K') (K' (σ.ap d (.v undef) [] σ.nx))):dP E A (⟨d,op,t,p,af,some (j,want)⟩::r) σ K:=by
 have h1:=h _ fun _ h=>h
 simp only [dP,evO,aHg,hs]
 exact h1
theorem aEU (h1:mD A acc.reverse=true) (h:K σ):cI E A [] σ acc K:=⟨h1,h⟩
theorem aDk (h:∀K':Ss→Prop,(∀s,cI E A r s ((gH σ ⟨d,op,t,p,af,none⟩,(s.rs.take (s.rs.length-σ.rs.length)).map (·.1))::acc) K→K' s)→jI E d op σ K'):cI E A (⟨d,op,t,p,af,none⟩::r) σ acc K:=h _ fun _ h=>h
theorem aDj {g:Nat} (hs:cX A j=some g) (h:∀K':Ss→Prop,(∀s,cI E A r s ((gH σ ⟨d,op,t,p,af,some (j,want)⟩,(s.rs.take (s.rs.length-σ.rs.length)).map (·.1))::acc) K→K' s)→iD (lk σ.tm g) want (jI E d op σ K') (K' (σ.ap d (.v undef) [] σ.nx))):
  cI E A (⟨d,op,t,p,af,some (j,want)⟩::r) σ acc K:=by
 have h1:=h _ fun _ h=>h
 simp only [cI,evO,aHg,hs]
 exact h1
end
theorem aE {E:Env} (f:FuncId) {caps args:List Sv} {σ:Ss} {K:Sv→List (Nat×Rs)→Prop} (h:EvCall E (.fn f caps) args σ K):EvCall E (.fn f caps) args σ K:=h
theorem aI {z:Int} (h1: -9223372036854775808≤z) (h2:z≤9223372036854775807):inR z:=⟨h1,h2⟩
section
variable {K:Ss→Prop} {Q:Exit→Ss→Prop} {σ:Ss} {id i:Nat}
theorem aRB (h:K σ):nxt K Q .normal σ:=h
theorem aRC (h:Q .ret σ):nxt K Q .ret σ:=h
theorem aRA (h:Q (.exit i) σ):nxt K Q (.exit i) σ:=h
theorem aQJ (h:Q .normal σ):blk id Q .normal σ:=h
theorem aQK (h:Q .ret σ):blk id Q .ret σ:=h
theorem aRx (h:Q .normal σ):noG Q .normal σ:=h
theorem aRy (h:Q .ret σ):noG Q .ret σ:=h
theorem aRw (h:Q (.exit i) σ):noG Q (.exit i) σ:=h
end
@[go_sem] theorem aQz (rs:Nat→Rs):gI rs []↔True:=⟨fun _=>trivial,fun _=>oV rs⟩
@[go_sem] theorem aPG (rs:Nat→Rs) (i c:Nat) (l:List (Nat×Nat)):gI rs ((i,c)::l)↔((rs i).cv=c∧(rs i).alive)∧gI rs l:=by simp [gI]
@[go_sem] theorem aPI (n:Nat) (l:List Sv):Rs.alive ⟨n, .box l⟩↔True:=Iff.rfl
@[go_sem] theorem aPH (n:Nat) (d:Dt):Rs.alive ⟨n, .arr d⟩↔True:=Iff.rfl
@[go_sem] theorem aPJ (n:Nat) (d:Dt) (h:List (Nat×Sv)):Rs.alive ⟨n, .hol d h⟩↔True:=Iff.rfl
@[go_sem] theorem aQG (n:Nat) (l:List Sv) (k:Nat) (d:Dt):Rs.alive ⟨n, .bx l k d⟩↔True:=Iff.rfl
@[go_sem] theorem aQF (n:Nat) (p:Ab):Rs.alive ⟨n, .ab p⟩↔True:=Iff.rfl
attribute [go_sem] aQY aBd aLR rvS rvL dd kF pSv vS pTm pRk ddp aGr idL qE clean qO rmN zC Int.natCast_add Int.cast_ofNat_Int
attribute [go_sem] Prod.mk.injEq and_false false_and and_true true_and List.zip_nil_left List.zip_cons_cons
end Go.Eng
end
