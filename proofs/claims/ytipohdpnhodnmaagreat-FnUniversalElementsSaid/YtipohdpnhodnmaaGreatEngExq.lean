/- The engine, part EX: contracts that tell a result up to something of which only a property is known; calls of such functions in regions in text order. -/
import Derived.Test.YtipohdpnhodnmaaGreatKex
set_option linter.unusedVariables false
set_option linter.unusedSimpArgs false
namespace Go.Eng
open Go
def SpecE (P:Program) (f:FuncId) (args:List Sv) (L0:List (Nat×Rs)) {Z:Type} (Φ:Z→Prop) (r:Z→Sv) (L1:Z→List (Nat×Rs)):Prop:=
 ∀(w0:World) (U S:Nat→Prop) (c0:Nat→Cn) (vs:List Value),Hp w0 U S c0 (rsL L0) w0→Sv.okL w0 S c0 (rsL L0) args vs→
  Calls P f vs.toArray w0 fun e w'=>∃z,Φ z∧∃v c1,e= .returned v∧Hp w0 U S c1 (rsL (L1 z)) w'∧Sv.ok w' S c1 (rsL (L1 z)) (r z) v∧
   (∀i,1≤(rsL L0 i).cv→1≤(rsL (L1 z) i).cv∧(c1 i).blk=(c0 i).blk∧(c1 i).hdr=(c0 i).hdr)
theorem SpecE.of {P:Program} {f:FuncId} {args:List Sv} {L0:List (Nat×Rs)} {Z:Type} {Φ:Z→Prop} {r:Z→Sv} {L1:Z→List (Nat×Rs)} (z:Z) (hz:Φ z) (h:Spec P f args L0 (r z) (L1 z)):SpecE P f args L0 Φ r L1:=
 fun w0 U S c0 vs hp ha=>(h w0 U S c0 vs hp ha).mono fun e w' hh=>⟨z,hz,hh⟩
theorem SpecE.mono {P:Program} {f:FuncId} {args:List Sv} {L0:List (Nat×Rs)} {Z Y:Type} {Φ:Z→Prop} {Ψ:Y→Prop} {r:Z→Sv} {L1:Z→List (Nat×Rs)} {q:Y→Sv} {M1:Y→List (Nat×Rs)} (h:SpecE P f args L0 Φ r L1)
  (k:∀z,Φ z→∃y,Ψ y∧q y=r z∧M1 y=L1 z):SpecE P f args L0 Ψ q M1:=
 fun w0 U S c0 vs hp ha=>(h w0 U S c0 vs hp ha).mono fun e w' ⟨z,hz,hh⟩=>by
  obtain⟨y,h1,h2,h3⟩:=k z hz
  exact⟨y,h1,by rw [h2,h3];exact hh⟩
def aWk (E:Env) (rv:List ResultVar) (L0:List (Nat×Rs)) {Z:Type} (Φ:Z→Prop) (r:Z→Sv) (L1:Z→List (Nat×Rs)) (e:Exit) (t:Ss):Prop:=∃z,Φ z∧aCw E rv L0 (r z) (L1 z) e t
theorem iO {E:Env} {f:FuncId} {fn:Func} {c:Code} {args:List Sv} {L0:List (Nat×Rs)} {Z:Type} {Φ:Z→Prop} {r:Z→Sv} {L1:Z→List (Nat×Rs)} (nx:Nat) (hf:E.P.funcs[f]? =some fn) (hb:fn.body=some c) (hn:args.length≤fn.ntmps)
  (h:∀X:Cx,X.n=fn.ntmps→X.rs0=rsL L0→V X E c ⟨rM 0 args,L0,nx⟩ (aWk E fn.results.toList L0 Φ r L1)) (hE:∀c rs,E.hk c rs:=by exact fun _ _=>trivial):SpecE E.P f args L0 Φ r L1:=by
 intro w0 U S c0 vs hp ha
 have hlen:=ha.length
 refine callsIn_wide.1 (callsIn_of_wp_marks (F:=Fence.wide) (n:=0) hf hb trivial (wpIn_mono (h ⟨w0,U,S,c0,rsL L0,fn.ntmps,none,[]⟩ rfl rfl (hE _ _) _ _ ⟨w0,U,[], .refl hp.sub hp.ult,rfl,?_,c0,hp,fun s=>?_,fun i hi=>⟨hi,rfl,rfl⟩⟩) fun e a' w' ⟨t,h1,z,hz,h2⟩=>?_))
 ·simp;omega
 ·have h1:=xT args vs 0 [] (List.replicate (fn.ntmps-vs.length) undef) rfl ha s
  have h2:vs.toArray++Array.replicate (fn.ntmps-vs.toArray.size) undef=([]++vs++List.replicate (fn.ntmps-vs.length) undef).toArray:=by
   apply Array.ext';simp
  rw [h2];exact h1
 ·have key:(∃ML,oG E t fn.results.toList fun s=>lG L0 ML ⟨[(0,s)],t.rs,0⟩ ⟨[(0,r z)],L1 z,0⟩)→LeavesInM Fence.wide 0 E.P fn a'.tmps (fun e w'=>∃z,Φ z∧∃v' c1,e= .returned v'∧Hp w0 U S c1 (rsL (L1 z)) w'∧Sv.ok w' S c1 (rsL (L1 z)) (r z) v'∧
    (∀i,1≤(rsL L0 i).cv→1≤(rsL (L1 z) i).cv∧(c1 i).blk=(c0 i).blk∧(c1 i).hdr=(c0 i).hdr)) a'.defers .returning w':=by
   rintro⟨ML,hres⟩
   obtain⟨w1,U1,ds,hrb,hd,hn',c,hp',ht,hpin⟩:=h1
   obtain⟨l,hds,hnd,hmk⟩:=hrb.marks
   have hd':a'.defers=l.map mkD:=by rw [hd];show ds=_;rw [hds];exact List.append_nil _
   rw [hd']
   refine mY l w' hnd (fun r' hr'=>?_) fun w2 e1 e2 e3 e4 e5=>?_
   ·obtain⟨m1,m2,m3⟩:=hmk r' hr'
    rw [hp'.unch r' m1];exact m3
   obtain⟨hp2,hx2⟩:=Hp.shut hrb hp' (fun r' hr'=>⟨(hmk r' hr').1,(hmk r' hr').2.1⟩) e1 e2 e3 e4 e5
   obtain⟨v,s,hv1,hv2,g1,g2,g3,g4,g5,g6⟩:=vH hp2 (fun s=>Sv.ok_ext hx2 _ _ (ht s)) hres
   obtain⟨c1,hp1,hren,hc⟩:=aAz (σ:=⟨[(0,s)],t.rs,0⟩) (τ:=⟨[(0,r z)],L1 z,0⟩) hp2 g1 g2 g5 g4
   refine⟨v,hv1,z,hz,v,c1,rfl,hp1,?_,fun i hi=>?_⟩
   ·have:=Sv.ren_ok hren _ _ hv2
    have e:s.ren (tD ML ⟨[(0,s)],t.rs,0⟩ ⟨[(0,r z)],L1 z,0⟩)=r z:=g6.1
    rw [e]at this
    exact this
   ·have hm:=tC g3 i hi
    obtain⟨_,q2,q3⟩:=hpin i hi
    have q:=hc _ hm
    simp only at q
    refine⟨(kO g5 _ hm).1,?_,?_⟩
    ·rw [q];exact q2
    ·rw [q];exact q3
  cases e with
  |normal=>exact key h2
  |ret=>exact key h2
  |exit i=>exact h2.elim
  |goto l=>exact h2.elim
  |panic ch=>exact h2.elim
  |outgrown=>exact h2.elim
/-! ### The call -/
theorem aPE {X:Cx} {P:Program} {o:Oper} {a:Act} {w:World} {G K:Act→World→Prop} {Q:Exit→Act→World→Prop} (hd:a.defers=X.ds) (hG:∀a' w',G a' w'→a'.defers=X.ds) (h1:o.wp P a w G (fun _ _ _=>False)) (hK:∀a' w',G a' w'→K a' w'):o.wpIn X.F 0 P a w K Q:=by
 refine⟨fun f _=>X.F_fn f,?_⟩
 unfold Oper.wp at h1
 have hsem:(o.semAt X.F.round a.eval).run P w=(execOp a.eval o).run P w∨∃c,o.op= .defer c:=by
  by_cases hd:∃c,o.op= .defer c
  ·exact .inr hd
  ·exact .inl (by rw [Oper.semAt_eq _ _ _ fun c e=>hd ⟨c,e⟩])
 rcases hsem with hsem|⟨c,hc⟩
 ·rw [hsem]
  generalize (execOp a.eval o).run P w=r at h1⊢
  cases r with
  |ok x w'=>
   cases x with
   |value v=>exact hK _ _ h1
   |skip=>exact hK _ _ h1
   |defer d=>
    have h2:({a with defers:=d::a.defers}.put o.dst undef).defers=X.ds:=hG _ _ h1
    have h3:({a with defers:=d::a.defers}.put o.dst undef).defers=d::a.defers:=by cases o.dst<;>rfl
    rw [h3,hd]at h2
    exact absurd (congrArg List.length h2) (by simp)
   |enter f args=>
    refine⟨fun e=>(by rw [X.F_depth]at e;cases e),Cx.callsIn (X:=X) (Calls.mono h1 fun e w'' he=>?_)⟩
    cases e with
    |returned v=>exact hK _ _ he
    |panicked ch=>exact he.elim
    |outgrown=>obtain⟨_,_,hf⟩:=he;exact hf.elim
   |row row args=>exact⟨fun e=>(by rw [X.F_depth]at e;cases e),Cx.rowsIn (X:=X) (Rows.mono h1 fun v w'' he=>hK _ _ he)⟩
   |_=>exact h1.elim
  |halt x w'=>cases x<;>exact h1.elim
 ·exfalso
  have he:execOp a.eval o=(do pure (.defer (←resolve a.eval c o.type))):=by
   unfold execOp;rw [hc]
  rw [he]at h1
  simp only [Sem.run_bind]at h1
  cases hr:(resolve a.eval c o.type).run P w with
  |ok d w'=>
   rw [hr]at h1
   simp only [Result.andThen_ok,Sem.run_pure]at h1
   have h2:({a with defers:=d::a.defers}.put o.dst undef).defers=X.ds:=hG _ _ h1
   have h3:({a with defers:=d::a.defers}.put o.dst undef).defers=d::a.defers:=by cases o.dst<;>rfl
   rw [h3,hd]at h2
   exact absurd (congrArg List.length h2) (by simp)
  |halt x w'=>
   rw [hr]at h1
   cases x<;>exact h1.elim
theorem aFF {X:Cx} {E:Env} {o:Oper} {tm:Nat→Sv} {rs:Nat→Rs} (hdn:∀k,o.dst=some k→k<X.n) (x:Operand) (xs:List Operand) (tys:Array TypeId) (ho:o.op= .call {callee:= .value x,args:=xs.toArray,argTypes:=tys}) (f:FuncId) (caps:List Sv) (hx:opd tm x= .fn f caps)
  (hf:aF E.P f) (args:List Sv) (L0:List (Nat×Rs)) {Z:Type} {Φ:Z→Prop} {r:Z→Sv} {L1:Z→List (Nat×Rs)} (hs:SpecE E.P f args L0 Φ r L1) (ML:List (Nat×Nat)) (V:List Nat) (hco:CallOk rs L0 ML V)
  (hm:Sv.mtL ML V rs (rsL L0) (xs.map (opd tm)++caps) args) {a:Act} {w:World} {K:Act→World→Prop} {Q:Exit→Act→World→Prop} (hg:Gam X tm rs a w)
  (hK:∀z,Φ z→∀a' w',Gam X (wM tm o.dst ((r z).ren (aU rs (rsL (L1 z)) ML V))) (dC rs (cR (aU rs (rsL (L1 z)) ML V) (rsL (L1 z)))) a' w'→K a' w'):o.wpIn X.F 0 E.P a w K Q:=by
 obtain⟨hd,hn,c,hp,ht,hpin⟩:=hg
 have hopd:=fun z=>bX (X:=X) (rs:=rs) (tm:=tm) (a:=a) (w:=w) (c:=c) ht z
 have hx1:=hopd x
 rw [hx]at hx1
 simp only [Sv.ok]at hx1
 obtain⟨cvs,hx1,hx2⟩:=hx1
 have hargs:=Sv.mtL_ok (rs0:=rsL L0) (ML:=ML) (V:=V) hp _ _ _ hm ((pJ hopd xs).append hx2)
 have hcall:=hs w _ _ _ _ (oF hp hco) hargs
 refine aPE (G:=fun a' w'=>∃z,Φ z∧Gam X (wM tm o.dst ((r z).ren (aU rs (rsL (L1 z)) ML V))) (dC rs (cR (aU rs (rsL (L1 z)) ML V) (rsL (L1 z)))) a' w') hd (fun a' w' ⟨z,_,h⟩=>h.1) ?_ fun a' w' ⟨z,hz,h⟩=>hK z hz a' w' h
 unfold Oper.wp
 have hrun:(execOp a.eval o).run E.P w= .ok (.enter f (xs.map a.eval++cvs).toArray) w:=by
  simp [execOp,ho,resolve,Deferred.ofValue,hx1,invoke,jG hf]
 rw [hrun]
 refine hcall.mono fun e w' hh=>?_
 obtain⟨z,hz,v,c1,rfl,hp1,hv,hpin1⟩:=hh
 obtain⟨c2,hp2,hx2,hren⟩:=mB hp hco c1 hp1 hpin1
 exact⟨z,hz,bO hd hn ht hpin hx2 hp2 hdn (Sv.ren_ok hren _ _ hv)⟩
def HkE (E:Env) (d:Option Nat) (op:Op) (σ:Ss) (K:Ss→Prop):Prop:=
 ∃(x:Operand) (xs:List Operand) (tys:Array TypeId) (f:FuncId) (caps es:List Sv) (L0:List (Nat×Rs)) (Z:Type) (Φ:Z→Prop) (r:Z→Sv) (L1:Z→List (Nat×Rs)) (ML:List (Nat×Nat)) (V:List Nat),
  op= .call {callee:= .value x,args:=xs.toArray,argTypes:=tys}∧σ.opd x= .fn f caps∧aF E.P f∧SpecE E.P f es L0 Φ r L1∧CallOk (rsL σ.rs) L0 ML V∧Sv.mtL ML V (rsL σ.rs) (rsL L0) (xs.map σ.opd++caps) es∧
  ∀z,Φ z→K (σ.ap d ((r z).ren (aU (rsL σ.rs) (rsL (L1 z)) ML V)) (cR (aU (rsL σ.rs) (rsL (L1 z)) ML V) (rsL (L1 z))) (zB σ.nx (cR (aU (rsL σ.rs) (rsL (L1 z)) ML V) (rsL (L1 z)))))
def kB (X:Cx) (E:Env) (opsA:List Oper):List Oper→Ss→(Ss→Prop)→Prop
 |[],σ,K=>K σ
 |o::r,σ,K=>aOr X E opsA o σ (fun σ'=>kB X E opsA r σ' K)∨(o.guard=none∧HkE E o.dst o.op σ fun σ'=>kB X E opsA r σ' K)
section
variable {X:Cx} {E:Env} {w1:World} {U1:Nat→Prop} {ds:List Deferred}
theorem vB (hr:Reb X w1 U1 ds) (hk:E.hk X.c0 X.rs0) {opsA:List Oper} {K:Ss→Prop} (hn:∀o'∈opsA,∀k,o'.dst=some k→k<X.n):∀(l:List Oper) (σ:Ss),(∀o∈l,∀k,o.dst=some k→k<X.n)→kB X E opsA l σ K→
  ∀a w (Q:Exit→Act→World→Prop),Gam (X.at w1 U1 ds) (lk σ.tm) (rsL σ.rs) a w→(∀s a' w',Gam (X.at w1 U1 ds) (lk s.tm) (rsL s.rs) a' w'→K s→Q .normal a' w')→wpListIn X.F 0 E.P opsA.toArray Q l a w
 |[],σ,_,h,a,w,Q,hg,hQ=>wpListIn_nil (hQ σ a w hg h)
 |o::l,σ,hl,h,a,w,Q,hg,hQ=>by
  simp only [kB]at h
  have ih:=fun(s:Ss) (hs:kB X E opsA l s K)=>vB hr hk hn l s (fun o ho=>hl o (by simp [ho])) hs
  rcases h with h|⟨hgd,x,xs,tys,f,caps,es,L0,Z,Φ,r,L1,ML,V,ho,hx,hf,hs,hco,hm,hK⟩
  ·rcases yJ hr hk hn (hl o (by simp)) h with⟨foot,sv,ru,nx,h1,h2,_,h3⟩|⟨h2,j,want,d,v,g1,g2,g3,g4,g5⟩
   ·have hwant:Region.wanted o (yielded opsA.toArray a.tmps)=true:=by
     rcases h3 with h3|⟨j,want,d,g1,g2,g3,g4⟩
     ·simp [Region.wanted,h3]
     ·simp [Region.wanted,g1,iQ (X:=X.at w1 U1 ds) hg g2 g4 g3]
    unfold wpListIn
    rw [if_pos hwant]
    refine h1 _ _ (fun _ _=>rfl) (fun _ _=>rfl) a w _ Q hg fun a' w' hg'=>?_
    refine ih _ h2 a' w' Q ?_ hQ
    rw [yZ,rC];exact hg'
   ·have hwant:Region.wanted o (yielded opsA.toArray a.tmps)=false:=by
     simp only [Region.wanted,g1,iQ (X:=X.at w1 U1 ds) hg g2 g4 g3]
     cases v<;>simp_all
    unfold wpListIn
    rw [if_neg (by rw [hwant];exact Bool.false_ne_true)]
    refine⟨fun f _=>X.F_fn f,ih _ h2 _ w Q ?_ hQ⟩
    obtain⟨q1,q2,c,hp,ht,hpin⟩:=hg
    rw [yZ,rC]
    exact bO (X:=X.at w1 U1 ds) q1 q2 ht hpin (Ext.refl _ _ _ _) hp (hl o (by simp)) (by simp [Sv.ok])
  ·have hwant:Region.wanted o (yielded opsA.toArray a.tmps)=true:=by simp [Region.wanted,hgd]
   unfold wpListIn
   rw [if_pos hwant]
   refine aFF (X:=X.at w1 U1 ds) (E:=E) (tm:=lk σ.tm) (rs:=rsL σ.rs) (hl o (by simp)) x xs tys ho f caps hx hf es L0 hs ML V hco hm hg fun z hz a' w' hg'=>?_
   refine ih _ (hK z hz) a' w' Q ?_ hQ
   rw [yZ,rC];exact hg'
theorem gY {σ:Ss} {Q:Exit→Ss→Prop} {l:List Oper} (id:Nat) (hn:l.all (fun o=>o.dst.all (fun k=>decide (k<X.n)))=true) (h:∀K:Ss→Prop,(∀s,Q .normal s→K s)→kB X E l l σ K):V X E (.region id l.toArray false) σ Q:=fun hk a w hg=>by
 obtain⟨w1,U1,ds,hr,hg⟩:=hg
 have hn':∀o'∈l,∀k,o'.dst=some k→k<X.n:=fun o ho k hk=>by
  have:=List.all_eq_true.1 hn o ho
  rw [hk]at this
  simpa using this
 exact wpIn_region_list (vB hr hk hn' l σ hn' (h _ fun _ h=>h) a w _ hg fun s a' w' hg' hK=>⟨s,⟨w1,U1,ds,hr,hg'⟩,hK⟩)
variable {A r:List Oper} {σ:Ss} {K:Ss→Prop} {d:Option Nat} {op:Op} {t:TypeId} {p:String} {af:Array Edge} {j:Nat} {want:Bool}
theorem eZ (h:K σ):kB X E A [] σ K:=h
theorem iW (h:∀K':Ss→Prop,(∀s,kB X E A r s K→K' s)→jI E d op σ K'):kB X E A (⟨d,op,t,p,af,none⟩::r) σ K:= .inl (.inl (h _ fun _ h=>h))
theorem kC {f:FuncId} {xs:List Operand} {tys:Array TypeId} {as es:List Sv} {L0:List (Nat×Rs)} {Z:Type} {Φ:Z→Prop} {q:Z→Sv} {L1:Z→List (Nat×Rs)} (hs:SpecE E.P f es L0 Φ q L1) (hc:aF E.P f) (ML:List (Nat×Nat)) (V:List Nat)
  (ha:xs.map σ.opd=as) (h1:qR (rsL σ.rs) (bL (rsL σ.rs) 3 ((Sv.fn f []).ids++as.flatMap Sv.ids)) L0 ML V) (h2:Sv.mtL ML V (rsL σ.rs) (rsL L0) (as++[]) es)
  (h3:∀z,Φ z→kB X E A r (σ.ap d ((q z).ren (aU (rsL σ.rs) (rsL (L1 z)) ML V)) (cR (aU (rsL σ.rs) (rsL (L1 z)) ML V) (rsL (L1 z))) (zB σ.nx (cR (aU (rsL σ.rs) (rsL (L1 z)) ML V) (rsL (L1 z))))) K):
  kB X E A (⟨d, .call {callee:= .value (.func f),args:=xs.toArray,argTypes:=tys},t,p,af,none⟩::r) σ K:=by
 subst ha
 obtain⟨a1,a2,a3,a4,a5⟩:=h1
 exact .inr ⟨rfl, .func f,xs,tys,f,[],es,L0,Z,Φ,q,L1,ML,V,rfl,rfl,hc,hs,⟨a1,a2,fun i hi=>(jH a4 i hi).1,fun i hi=>(jH a4 i hi).2.1,fun k=>(mT a3 k).1,fun k=>(mT a3 k).2,wO a5⟩,h2,h3⟩
end
end Go.Eng
