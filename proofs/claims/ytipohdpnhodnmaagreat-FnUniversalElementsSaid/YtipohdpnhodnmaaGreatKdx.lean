/- Several texts in one: EngHc, EngW, EngX, EngY, EngZ, EngAA, EngDoor, EngLaw. -/
import Derived.Test.YtipohdpnhodnmaaGreatKmx
import Derived.Test.YtipohdpnhodnmaaGreatKcx
import Derived.Laws.StructEq
import Derived.ChangeSlices
import Derived.ChangeSame
import Derived.Below
import Derived.Carry
import Derived.WideShapes
set_option linter.unusedSimpArgs false
set_option linter.unusedVariables false
section
namespace Go.Eng
open Go Go.Cats
theorem hcS:(∀(p:Prop) [Decidable p],(decide p=true)=p)∧(∀(p:Prop) [Decidable p],(decide p=false)=¬p)∧(∀b:Bool,((!b)=true)=(b=false))∧(∀b:Bool,((!b)=false)=(b=true))∧
  (∀a b:Int,(¬a<b)=(b≤a))∧(∀a b:Int,(¬a≤b)=(b<a))∧(∀P:Prop,(dec P=true)=P)∧(∀P:Prop,(dec P=false)=¬P)∧(∀a b:Bool,((a&&b)=true)=(a=true∧b=true))∧(∀a b:Bool,((a||b)=true)=(a=true∨b=true))∧
  (∀a b:Bool,((a&&b)=false)=(a=false∨b=false))∧(∀a b:Bool,((a||b)=false)=(a=false∧b=false))∧(∀b:Bool,(¬b=true)=(b=false))∧(∀b:Bool,(¬b=false)=(b=true))∧(∀(p:Prop) [Decidable p],(¬¬p)=p)∧((¬True)=False)∧((¬False)=True):=
 ⟨fun p _=>decide_eq_true_eq,fun p _=>propext decide_eq_false_iff_not,fun b=>by simp,fun b=>by simp,fun a b=>propext Int.not_lt,fun a b=>propext Int.not_le,fun P=>propext aF2,fun P=>propext aLQ,fun a b=>by cases a<;>cases b<;>simp,fun a b=>by cases a<;>cases b<;>simp,fun a b=>by cases a<;>cases b<;>simp,fun a b=>by cases a<;>cases b<;>simp,fun b=>by simp,fun b=>by simp,fun p _=>propext Decidable.not_not,by simp,by simp⟩
theorem EvCall.rq {E:Env} {f:FuncId} {args es:List Sv} {σ:Ss} {K:Sv→List (Nat×Rs)→Prop} {r:Sv} {L1:List (Nat×Rs)}
  (h0:rvL (rsL σ.rs) args=es:=by first|(simp only [go_sem,simprocAttr];rfl)|rfl) (a:Spec E.P f es [] r L1) (b:aF E.P f)
  (h1:qR (rsL σ.rs) (bL (rsL σ.rs) 3 ((Sv.fn f []).ids++args.flatMap Sv.ids)) [] (kF σ.nx L1) (dd (bL (rsL σ.rs) 3 (args.flatMap Sv.ids))):=by simp [go_sem])
  (h2:Sv.mtL (kF σ.nx L1) (dd (bL (rsL σ.rs) 3 (args.flatMap Sv.ids))) (rsL σ.rs) (rsL []) args (rvL (rsL σ.rs) args):=by simp [go_sem])
  (c:K (r.ren (aU (rsL σ.rs) (rsL L1) (kF σ.nx L1) (dd (bL (rsL σ.rs) 3 (args.flatMap Sv.ids))))) (cR (aU (rsL σ.rs) (rsL L1) (kF σ.nx L1) (dd (bL (rsL σ.rs) 3 (args.flatMap Sv.ids)))) (rsL L1))):
  EvCall E (.fn f []) args σ K:=EvCall.rd h0 a b h1 h2 c
class St (P:Prop) (Q:outParam Prop):Prop where
 f:Q→P
class So (P:Prop) (Q:outParam Prop):Prop where
 f:Q→P
section
variable {X:Cx} {E:Env} {σ:Ss} {K:Ss→Prop} {Q:Exit→Ss→Prop} {A r:List Oper} {id i:Nat} {x y c:Code} {d:Option Nat} {op:Op} {t p af acc}
instance:St (V X E (x.seq y) σ Q) (V X E x σ (nxt (fun t=>V X E y t Q) Q)):=⟨aQE⟩
instance:St (V X E (.block id c) σ Q) (V X E c σ (blk id Q)):=⟨aLE⟩
instance:St (V X E .skip σ Q) (Q .normal σ):=⟨aN3⟩
instance:St (V X E .ret σ Q) (Q .ret σ):=⟨aQC⟩
instance:St (V X E (.exit i) σ Q) (Q (.exit i) σ):=⟨aN1⟩
instance:St (dP E A [] σ K) (K σ):=⟨aHa⟩
instance:St (nxt K Q .normal σ) (K σ):=⟨aRB⟩
instance:St (nxt K Q .ret σ) (Q .ret σ):=⟨aRC⟩
instance:St (nxt K Q (.exit i) σ) (Q (.exit i) σ):=⟨aRA⟩
instance:St (blk id Q .normal σ) (Q .normal σ):=⟨aQJ⟩
instance:St (blk id Q .ret σ) (Q .ret σ):=⟨aQK⟩
instance:St (blk id Q (.exit id) σ) (Q .normal σ):=⟨aIE⟩
instance:St (noG Q .normal σ) (Q .normal σ):=⟨aRx⟩
instance:St (noG Q .ret σ) (Q .ret σ):=⟨aRy⟩
instance:St (noG Q (.exit i) σ) (Q (.exit i) σ):=⟨aRw⟩
instance:So (dP E A (⟨d,op,t,p,af,none⟩::r) σ K) (∀K':Ss→Prop,(∀s,dP E A r s K→K' s)→jI E d op σ K'):=⟨aGd⟩
instance:So (cI E A (⟨d,op,t,p,af,none⟩::r) σ acc K) (∀K':Ss→Prop,(∀s,cI E A r s ((gH σ ⟨d,op,t,p,af,none⟩,(s.rs.take (s.rs.length-σ.rs.length)).map (·.1))::acc) K→K' s)→jI E d op σ K'):=⟨aDk⟩
end
class Gs (A:List Oper) (j:Nat) (g:outParam Nat):Prop where
 e:cX A j=some g
section
variable {X:Cx} {E:Env} {σ:Ss} {K:Ss→Prop} {Q:Exit→Ss→Prop} {A r:List Oper} {id i j g:Nat} {x y:Code} {c:Operand} {d:Option Nat} {op:Op} {t p af gd acc} {want b:Bool} {o:Oper}
instance:Gs (⟨some g,op,t,p,af,gd⟩::A) 0 g:=⟨rfl⟩
instance [h:Gs A j g]:Gs (o::A) (j+1) g:=⟨h.e⟩
instance [h:Gs A j g]:So (dP E A (⟨d,op,t,p,af,some (j,want)⟩::r) σ K) (∀K':Ss→Prop,(∀s,dP E A r s K→K' s)→iD (lk σ.tm g) want (jI E d op σ K') (K' (σ.ap d (.v undef) [] σ.nx))):=⟨aGc h.e⟩
instance [h:Gs A j g]:So (cI E A (⟨d,op,t,p,af,some (j,want)⟩::r) σ acc K) (∀K':Ss→Prop,(∀s,cI E A r s ((gH σ ⟨d,op,t,p,af,some (j,want)⟩,(s.rs.take (s.rs.length-σ.rs.length)).map (·.1))::acc) K→K' s)→iD (lk σ.tm g) want (jI E d op σ K') (K' (σ.ap d (.v undef) [] σ.nx))):=⟨aDj h.e⟩
def Rg (E:Env) (l:List Oper) (σ:Ss) (K:Ss→Prop):Bool→Prop
 |true=>cI E l l σ [] K
 |false=>dP E l l σ K
instance:St (Rg E A σ K true) (cI E A A σ [] K):=⟨fun h=>h⟩
instance:St (Rg E A σ K false) (dP E A A σ K):=⟨fun h=>h⟩
theorem aQ {l:List Oper} (h:∀K:Ss→Prop,(∀s,Q .normal s→K s)→Rg E l σ K b) (hn':l.all (fun o=>o.dst.all (fun k=>decide (k<X.n)))=true:=by rw [hn];rfl) (hm:E.P.follows .mixedOrders=true:=by exact aCk):V X E (.region id l.toArray b) σ Q:=by
 cases b with
 |true=>exact aLF hm hn' h
 |false=>exact aIq hn' h
theorem V_c {R:Prop} (h:R) (e:evC (σ.opd c) (V X E x σ Q) (V X E y σ Q)=R:=by first|(simp only [go_sem,simprocAttr];rfl)|rfl):V X E (.cond c x y) σ Q:=aN0 (e▸h)
theorem eDn (h:K σ) (h1:mD A acc.reverse=true:=by kernel_rfl):cI E A [] σ acc K:=aEU h1 h
theorem aN {k:Nat} (h:Q (.exit k) σ) (e:k≠id:=by decide):blk id Q (.exit k) σ:=aGZ e h
end
theorem EvCall.mq {E:Env} {f:FuncId} {caps args es:List Sv} {σ:Ss} {K:Sv→List (Nat×Rs)→Prop} {L0 L1:List (Nat×Rs)} {r:Sv} (hs:Spec E.P f es L0 r L1) (hc:aF E.P f) (ML:List (Nat×Nat)) (V:List Nat)
  (h3:K (r.ren (aU (rsL σ.rs) (rsL L1) ML V)) (cR (aU (rsL σ.rs) (rsL L1) ML V) (rsL L1)))
  (h1:qR (rsL σ.rs) (bL (rsL σ.rs) 3 ((Sv.fn f caps).ids++args.flatMap Sv.ids)) L0 ML V:=by simp [go_sem]<;>(repeat'(first|rfl|constructor)))
  (h2:Sv.mtL ML V (rsL σ.rs) (rsL L0) (args++caps) es:=by simp [go_sem]<;>(repeat'(first|rfl|constructor))):EvCall E (.fn f caps) args σ K:=EvCall.mk hs hc ML V h1 h2 h3
theorem EvCall.mr {E:Env} {f:FuncId} {caps args es:List Sv} {σ:Ss} {K:Sv→List (Nat×Rs)→Prop} {L0 L1:List (Nat×Rs)} {r:Sv} {R:Prop} (hs:Spec E.P f es L0 r L1) (hc:aF E.P f) (ML:List (Nat×Nat)) (V:List Nat) (h3:R)
  (h1:qR (rsL σ.rs) (bL (rsL σ.rs) 3 ((Sv.fn f caps).ids++args.flatMap Sv.ids)) L0 ML V:=by simp [go_sem]<;>(repeat'(first|rfl|constructor)))
  (h2:Sv.mtL ML V (rsL σ.rs) (rsL L0) (args++caps) es:=by simp [go_sem]<;>(repeat'(first|rfl|constructor)))
  (e:K (r.ren (aU (rsL σ.rs) (rsL L1) ML V)) (cR (aU (rsL σ.rs) (rsL L1) ML V) (rsL L1))=R:=by first|(simp only [go_sem,simprocAttr];rfl)|rfl):EvCall E (.fn f caps) args σ K:=EvCall.mk hs hc ML V h1 h2 (e▸h3)
theorem EvCall.rr {E:Env} {f:FuncId} {args es:List Sv} {σ:Ss} {K:Sv→List (Nat×Rs)→Prop} {r:Sv} {L1:List (Nat×Rs)} {R:Prop} (a:Spec E.P f es [] r L1) (b:aF E.P f) (c:R)
  (h0:rvL (rsL σ.rs) args=es:=by first|(simp only [go_sem,simprocAttr];rfl)|rfl)
  (h1:qR (rsL σ.rs) (bL (rsL σ.rs) 3 ((Sv.fn f []).ids++args.flatMap Sv.ids)) [] (kF σ.nx L1) (dd (bL (rsL σ.rs) 3 (args.flatMap Sv.ids))):=by simp [go_sem])
  (h2:Sv.mtL (kF σ.nx L1) (dd (bL (rsL σ.rs) 3 (args.flatMap Sv.ids))) (rsL σ.rs) (rsL []) args (rvL (rsL σ.rs) args):=by simp [go_sem])
  (e:K (r.ren (aU (rsL σ.rs) (rsL L1) (kF σ.nx L1) (dd (bL (rsL σ.rs) 3 (args.flatMap Sv.ids))))) (cR (aU (rsL σ.rs) (rsL L1) (kF σ.nx L1) (dd (bL (rsL σ.rs) 3 (args.flatMap Sv.ids)))) (rsL L1))=R:=by first|(simp only [go_sem,simprocAttr];rfl)|rfl):
  EvCall E (.fn f []) args σ K:=EvCall.rd h0 a b h1 h2 (e▸c)
/-! ### The walk in one word (ST=3): the steps that leave one goal are done inside a theorem's default tactic; what is left is told as `q` -/
class Tw (P:Prop) (Q R:outParam Prop):Prop where
 f:Q→R→P
instance {a b:Prop}:Tw (a∧b) a b:=⟨And.intro⟩
instance {z:Int}:Tw (inR z) (-9223372036854775808≤z) (z≤9223372036854775807):=⟨aI⟩
section
variable {H:Ss→Prop} {A:Prop} {B C:(Ss→Prop)→Prop}
instance (priority:=low):Tw (∀K:Ss→Prop,(∀s,H s→K s)→B K∧C K) (∀K:Ss→Prop,(∀s,H s→K s)→B K) (∀K:Ss→Prop,(∀s,H s→K s)→C K):=⟨fun a b K h=>⟨a K h,b K h⟩⟩
instance:Tw (∀K:Ss→Prop,(∀s,H s→K s)→A∧B K) A (∀K:Ss→Prop,(∀s,H s→K s)→B K):=⟨fun a b K h=>⟨a,b K h⟩⟩
instance:St (∀K:Ss→Prop,(∀s,H s→K s)→A→B K) (A→∀K:Ss→Prop,(∀s,H s→K s)→B K):=⟨fun a K h c=>a c K h⟩
instance {s:Ss}:St (∀K:Ss→Prop,(∀s,H s→K s)→K s) (H s):=⟨fun a _ h=>h s a⟩
end
class Sg (P:Prop) (H:outParam (Ss→Prop)) (T:outParam ((Ss→Prop)→Prop)):Prop where
 f:(∀K:Ss→Prop,(∀s,H s→K s)→T K)→P
section
variable {X:Cx} {E:Env} {σ:Ss} {K:Ss→Prop} {Q:Exit→Ss→Prop} {A r:List Oper} {id j g:Nat} {d:Option Nat} {op:Op} {t p af acc} {want b:Bool}
instance:Sg (dP E A (⟨d,op,t,p,af,none⟩::r) σ K) (fun s=>dP E A r s K) (fun K=>jI E d op σ K):=⟨aGd⟩
instance:Sg (cI E A (⟨d,op,t,p,af,none⟩::r) σ acc K) (fun s=>cI E A r s ((gH σ ⟨d,op,t,p,af,none⟩,(s.rs.take (s.rs.length-σ.rs.length)).map (·.1))::acc) K) (fun K=>jI E d op σ K):=⟨aDk⟩
instance [h:Gs A j g]:Sg (dP E A (⟨d,op,t,p,af,some (j,want)⟩::r) σ K) (fun s=>dP E A r s K) (fun K'=>iD (lk σ.tm g) want (jI E d op σ K') (K' (σ.ap d (.v undef) [] σ.nx))):=⟨aGc h.e⟩
instance [h:Gs A j g]:Sg (cI E A (⟨d,op,t,p,af,some (j,want)⟩::r) σ acc K) (fun s=>cI E A r s ((gH σ ⟨d,op,t,p,af,some (j,want)⟩,(s.rs.take (s.rs.length-σ.rs.length)).map (·.1))::acc) K) (fun K'=>iD (lk σ.tm g) want (jI E d op σ K') (K' (σ.ap d (.v undef) [] σ.nx))):=⟨aDj h.e⟩
theorem Sg.m {P:Prop} {H:Ss→Prop} {T C:(Ss→Prop)→Prop} [i:Sg P H T] (h:∀K:Ss→Prop,(∀s,H s→K s)→C K) (e:∀K,T K=C K:=by refine fun K=>?_;first|(simp(contextual:=true)only [go_sem,simprocAttr];rfl)|rfl):P:=i.f fun K hK=>e K▸h K hK
theorem aQD {l:List Oper} (h:Rg E l σ (Q .normal) b) (hn':l.all (fun o=>o.dst.all (fun k=>decide (k<X.n)))=true:=by rw [hn];rfl) (hm:E.P.follows .mixedOrders=true:=by exact aCk):V X E (.region id l.toArray b) σ Q:=by
 cases b with
 |true=>exact aCX hm hn' h
 |false=>exact aA6 hn' h
end
theorem wkQ {p q:Prop} (hq:q) (h:q→p:=by
  refine fun hq=>?_
  (first|with_reducible refine St.f ?_|with_reducible refine V_c ?_|with_reducible refine eDn ?_|refine aQD ?_|with_reducible refine Sg.m ?_|with_reducible refine aN ?_)
  repeat(first|with_reducible refine St.f ?_|with_reducible refine V_c ?_|with_reducible refine eDn ?_|refine aQD ?_|with_reducible refine Sg.m ?_|with_reducible refine aN ?_)
  exact hq):p:=h hq
section
variable {E:Env} {f:FuncId} {caps args es:List Sv} {σ s':Ss} {H:Ss→Prop} {C:(Ss→Prop)→Sv→List (Nat×Rs)→Prop} {r:Sv} {L0 L1:List (Nat×Rs)}
theorem kaQ (args:List Sv) (h:∀K:Ss→Prop,(∀s,H s→K s)→EvCall E (.fn f caps) args σ (C K)):∀K:Ss→Prop,(∀s,H s→K s)→EvCall E (.fn f caps) args σ (C K):=h
theorem knQ (n:Nat) {tm:List (Nat×Sv)} {rs:List (Nat×Rs)} (h:∀K:Ss→Prop,(∀s,H s→K s)→EvCall E (.fn f caps) args ⟨tm,rs,n⟩ (C K)):∀K:Ss→Prop,(∀s,H s→K s)→EvCall E (.fn f caps) args ⟨tm,rs,n⟩ (C K):=h
theorem kcQ (b:aF E.P f) (h:aF E.P f→∀K:Ss→Prop,(∀s,H s→K s)→EvCall E (.fn f caps) args σ (C K)):∀K:Ss→Prop,(∀s,H s→K s)→EvCall E (.fn f caps) args σ (C K):=h b
theorem krQ (a:Spec E.P f es [] r L1) (c:H s')
  (h0:rvL (rsL σ.rs) args=es:=by first|(simp only [go_sem,simprocAttr];rfl)|rfl)
  (h1:qR (rsL σ.rs) (bL (rsL σ.rs) 3 ((Sv.fn f []).ids++args.flatMap Sv.ids)) [] (kF σ.nx L1) (dd (bL (rsL σ.rs) 3 (args.flatMap Sv.ids))):=by simp [go_sem])
  (h2:Sv.mtL (kF σ.nx L1) (dd (bL (rsL σ.rs) 3 (args.flatMap Sv.ids))) (rsL σ.rs) (rsL []) args (rvL (rsL σ.rs) args):=by simp [go_sem])
  (e:∀K:Ss→Prop,C K (r.ren (aU (rsL σ.rs) (rsL L1) (kF σ.nx L1) (dd (bL (rsL σ.rs) 3 (args.flatMap Sv.ids))))) (cR (aU (rsL σ.rs) (rsL L1) (kF σ.nx L1) (dd (bL (rsL σ.rs) 3 (args.flatMap Sv.ids)))) (rsL L1))=K s':=by refine fun K=>?_;first|(simp only [go_sem,simprocAttr];rfl)|rfl):
  aF E.P f→∀K:Ss→Prop,(∀s,H s→K s)→EvCall E (.fn f []) args σ (C K):=fun b K hK=>EvCall.rd h0 a b h1 h2 (e K▸hK _ c)
theorem ksQ (h0:rvL (rsL σ.rs) args=es:=by first|(simp only [go_sem,simprocAttr];rfl)|rfl) (a:Spec E.P f es [] r L1) (c:H s')
  (h1:qR (rsL σ.rs) (bL (rsL σ.rs) 3 ((Sv.fn f []).ids++args.flatMap Sv.ids)) [] (kF σ.nx L1) (dd (bL (rsL σ.rs) 3 (args.flatMap Sv.ids))):=by simp [go_sem])
  (h2:Sv.mtL (kF σ.nx L1) (dd (bL (rsL σ.rs) 3 (args.flatMap Sv.ids))) (rsL σ.rs) (rsL []) args (rvL (rsL σ.rs) args):=by simp [go_sem])
  (e:∀K:Ss→Prop,C K (r.ren (aU (rsL σ.rs) (rsL L1) (kF σ.nx L1) (dd (bL (rsL σ.rs) 3 (args.flatMap Sv.ids))))) (cR (aU (rsL σ.rs) (rsL L1) (kF σ.nx L1) (dd (bL (rsL σ.rs) 3 (args.flatMap Sv.ids)))) (rsL L1))=K s':=by refine fun K=>?_;first|(simp only [go_sem,simprocAttr];rfl)|rfl):
  aF E.P f→∀K:Ss→Prop,(∀s,H s→K s)→EvCall E (.fn f []) args σ (C K):=fun b K hK=>EvCall.rd h0 a b h1 h2 (e K▸hK _ c)
theorem kwQ (hs:Spec E.P f es L0 r L1) (ML:List (Nat×Nat)) (V:List Nat) (c:H s')
  (h1:qR (rsL σ.rs) (bL (rsL σ.rs) 3 ((Sv.fn f caps).ids++args.flatMap Sv.ids)) L0 ML V:=by simp [go_sem]<;>(repeat'(first|rfl|constructor)))
  (h2:Sv.mtL ML V (rsL σ.rs) (rsL L0) (args++caps) es:=by simp [go_sem]<;>(repeat'(first|rfl|constructor)))
  (e:∀K:Ss→Prop,C K (r.ren (aU (rsL σ.rs) (rsL L1) ML V)) (cR (aU (rsL σ.rs) (rsL L1) ML V) (rsL L1))=K s':=by refine fun K=>?_;first|(simp only [go_sem,simprocAttr];rfl)|rfl):
  aF E.P f→∀K:Ss→Prop,(∀s,H s→K s)→EvCall E (.fn f caps) args σ (C K):=fun hc K hK=>EvCall.mk hs hc ML V h1 h2 (e K▸hK _ c)
end
theorem om_ {p:Prop} (h:p:=by first|(with_reducible assumption)|((try simp only [Cat.F,Cat.T,Cat.I,Cat.C,Fun.O,Fun.A,Cat.Entry,Int.toNat_natCast]at *);omega)|exact Nat.le_of_ble_eq_true rfl):p:=h
theorem Imp.au {X:Cx} {L0:List (Nat×Rs)} (hX:X.rs0=rsL L0) {σ τ:Ss} (h:lG L0 (qE L0 σ τ) σ τ:=by simp [go_sem,simprocAttr]):Imp X σ τ:=Imp.auto hX h
theorem Imp.ao {X:Cx} {L0:List (Nat×Rs)} (hX:X.rs0=rsL L0) {σ τ:Ss} (h:lG L0 (qE L0 σ τ) σ τ:=by simp only [go_sem,simprocAttr]):Imp X σ τ:=Imp.auto hX h
end Go.Eng
end
section
namespace Go.Eng
open Go Go.Cats
def dJ (c:Cat):List Dt:=[.v (.int .i64 c.ob),ints c.fr,ints c.to,ints c.id,aC c.co]
def aOi (ts:List (Nat×Nat)) (c:Cat):List Sv:=[iv c.ob, .bor ts (ints c.fr), .bor ts (ints c.to), .bor ts (ints c.id), .bor ts (aC c.co)]
abbrev jX (c:Cat):Sv:= .agg (aOi [] c)
section
variable (c:Cat) (ts:List (Nat×Nat))
@[go_sem] theorem aTI:(dJ c).take 1=[.v (.int .i64 c.ob)]:=rfl
@[go_sem] theorem aVT:((dJ c).drop 1).take 1=[ints c.fr]:=rfl
@[go_sem] theorem aVU:((dJ c).drop 2).take 1=[ints c.to]:=rfl
@[go_sem] theorem aVV:((dJ c).drop 3).take 1=[ints c.id]:=rfl
@[go_sem] theorem aVW:((dJ c).drop 4).take 1=[aC c.co]:=rfl
@[go_sem] theorem aTJ:(dJ c).take 5=dJ c:=rfl
@[go_sem] theorem aVX:(dJ c).length=5:=rfl
@[go_sem] theorem aQU:(dJ c).map (Sv.ofDt ts)=aOi ts c:=rfl
attribute [go_sem] aOi
end
def aAN (f:Fun):List Dt:=dJ f.src++dJ f.tgt++[ints f.obs,ints f.ars]
def aQ9 (ts:List (Nat×Nat)) (f:Fun):List Sv:=[iv f.src.ob, .bor ts (ints f.src.fr), .bor ts (ints f.src.to), .bor ts (ints f.src.id), .bor ts (aC f.src.co),
 iv f.tgt.ob, .bor ts (ints f.tgt.fr), .bor ts (ints f.tgt.to), .bor ts (ints f.tgt.id), .bor ts (aC f.tgt.co), .bor ts (ints f.obs), .bor ts (ints f.ars)]
section
variable (f:Fun) (ts:List (Nat×Nat))
@[go_sem] theorem aV5:(aAN f).take 5=dJ f.src:=rfl
@[go_sem] theorem aV6:((aAN f).drop 5).take 5=dJ f.tgt:=rfl
@[go_sem] theorem aV4:((aAN f).drop 10).take 1=[ints f.obs]:=rfl
@[go_sem] theorem aV2:((aAN f).drop 11).take 1=[ints f.ars]:=rfl
@[go_sem] theorem aQ7:(aAN f).take 12=aAN f:=rfl
@[go_sem] theorem aV3:(aAN f).length=12:=rfl
@[go_sem] theorem aQ8:(aAN f).map (Sv.ofDt ts)=aQ9 ts f:=rfl
attribute [go_sem] aQ9
end
def sfD (f:SF):List Dt:=dJ f.shape++[ints f.sizes,aC f.acts]
def sfS (ts:List (Nat×Nat)) (f:SF):List Sv:=[iv f.shape.ob, .bor ts (ints f.shape.fr), .bor ts (ints f.shape.to), .bor ts (ints f.shape.id), .bor ts (aC f.shape.co), .bor ts (ints f.sizes), .bor ts (aC f.acts)]
abbrev sfV (f:SF):Sv:= .agg (sfS [] f)
section
variable (f:SF) (ts:List (Nat×Nat))
@[go_sem] theorem aXJ:(sfD f).take 5=dJ f.shape:=rfl
@[go_sem] theorem aXK:((sfD f).drop 5).take 1=[ints f.sizes]:=rfl
@[go_sem] theorem aXH:((sfD f).drop 6).take 1=[aC f.acts]:=rfl
@[go_sem] theorem aUf:(sfD f).take 7=sfD f:=rfl
@[go_sem] theorem aXI:(sfD f).length=7:=rfl
@[go_sem] theorem aUg:(sfD f).map (Sv.ofDt ts)=sfS ts f:=rfl
attribute [go_sem] sfS
end
attribute [go_sem] List.map_nil List.map_cons
@[congr] theorem aLY {fs:List (Nat×Nat)} {cs cs':List Sv} {L:List Sv→Prop} {p p':List (Nat×Sv)} (h:Unit→cs=cs') (i:Unit→p=p'):iC fs cs L p=iC fs cs' L p':=by rw [h (),i ()]
@[congr] theorem aNs {a:List Oper} {b:List (List Nat×List Nat)}:mD a b=mD a b:=rfl
attribute [go_sem] Bool.and_self Bool.true_and Bool.and_true Bool.and_false Bool.false_and beq_self_eq_true
@[go_sem] theorem aXX:List.range 0=[]:=rfl
@[go_sem] theorem aXY:List.range 1=[0]:=rfl
@[go_sem] theorem aXZ:List.range 2=[0,1]:=rfl
@[go_sem] theorem aX0:List.range 3=[0,1,2]:=rfl
@[go_sem] theorem aX1:List.range 4=[0,1,2,3]:=rfl
@[go_sem] theorem aX2:List.range 5=[0,1,2,3,4]:=rfl
@[go_sem] theorem aX3:List.range 6=[0,1,2,3,4,5]:=rfl
@[go_sem] theorem aTQ:Dt.sl 1 (.v (.int .i64 0)) []=ints []:=rfl
@[go_sem] theorem aTR (a:Int):Dt.sl 1 (.v (.int .i64 0)) [.v (.int .i64 a)]=ints [a]:=rfl
@[go_sem] theorem aTS (a b:Int):Dt.sl 1 (.v (.int .i64 0)) [.v (.int .i64 a), .v (.int .i64 b)]=ints [a,b]:=rfl
@[go_sem] theorem aTT (a b c:Int):Dt.sl 1 (.v (.int .i64 0)) [.v (.int .i64 a), .v (.int .i64 b), .v (.int .i64 c)]=ints [a,b,c]:=rfl
@[go_sem] theorem aTU (a b c d:Int):Dt.sl 1 (.v (.int .i64 0)) [.v (.int .i64 a), .v (.int .i64 b), .v (.int .i64 c), .v (.int .i64 d)]=ints [a,b,c,d]:=rfl
@[go_sem] theorem aRn:Dt.sl 1 (ints []) []=aC []:=rfl
@[go_sem] theorem aRo (a:List Int):Dt.sl 1 (ints []) [ints a]=aC [a]:=rfl
@[go_sem] theorem aRp (a b:List Int):Dt.sl 1 (ints []) [ints a,ints b]=aC [a,b]:=rfl
@[go_sem] theorem aPY (l m:List (List Int)):Dt.app 1 (ints []) (aC l) (aC m)=aC (l++m):=by simp [aC,Dt.app,Dt.cells,ints]
@[go_sem] theorem aOz (n:Nat):Dt.sl 1 (ints []) (List.replicate n (.v (.slice none 0 0)))=cV [] n:=by simp [cV,ints]
attribute [go_sem] pC Cat.homI_zero
theorem cW {P:Prop} (h:¬P):Sv.v (.bool false)=bv (dec P):=by rw [mF h]
theorem qF {P:Prop} (h:P):Sv.v (.bool true)=bv (dec P):=by rw [lE h]
end Go.Eng
end
section
namespace Go.Eng
open Go Go.Cats
@[go_sem] theorem aOC (l:List (List Int)):(aC l).ones=true:=by simp [aC,Dt.ones,Dt.cells,ints,Dt.one]
@[go_sem] theorem aOA (a:List Int) (l:List (List Int)):(aC (a::l)).flat=false:=by simp [aC,Dt.flat,Dt.cells,ints,Dt.isV]
@[go_sem] theorem aNH:(aC []).flat=true:=rfl
attribute [go_sem] aE3
@[go_sem] theorem aPO (a:List Int) (l:List Dt):aLR (ints a::l)=ints []:=rfl
@[go_sem] theorem aOl (a:List (List Int)) (l:List Dt):aLR (aC a::l)=aC []:=rfl
structure EqP2 (P:Program) (t:TypeId):Prop where
 gd:P.eqGuardType P.depth t=false
 eq:∀(a b a' b':Int) (w:World),(Op.equalIn 10000 t (.agg #[.int .i64 a, .int .i64 b]) (.agg #[.int .i64 a', .int .i64 b'])).run P w= .ok (decide (a=a')&&decide (b=b')) w
theorem aLW {P:Program} {t e:TypeId} {n1 n2:String} {x1 x2:Bool} {y1 y2 z1 z2:String} {b1 b2:Nat} (hu:P.underlying t=some (.struct #[{name:=n1,type:=e,offset:=0,embedded:=x1,tag:=y1,pkgPath:=z1,byteOffset:=b1},{name:=n2,type:=e,offset:=1,embedded:=x2,tag:=y2,pkgPath:=z2,byteOffset:=b2}]))
  (h1:n1≠ "_") (h2:n2≠ "_") (he:P.underlying e=some (.int .i64)) (hs:P.stoodInHeld t=false) (hc:P.eqGuardType P.depth t=false) (hp:∀(xs:Array Value) (off:Nat) (w:World) (v:Value),xs[off]? =some v→(part e xs off).run P w= .ok v w):EqP2 P t:=by
 refine⟨hc,fun a b a' b' w=>?_⟩
 have hf:P.fieldsOf t= #[{name:=n1,type:=e,offset:=0,embedded:=x1,tag:=y1,pkgPath:=z1,byteOffset:=b1},{name:=n2,type:=e,offset:=1,embedded:=x2,tag:=y2,pkgPath:=z2,byteOffset:=b2}]:=by
  simp [Program.fieldsOf,hu]
 rw [run_equalIn_agg w 9999 t _ _ (by rw [hf];exact hu) hs,hf]
 simp only [Op.eqFields,h1,h2,ne_eq,not_false_eq_true,if_true,Sem.run_bind,Sem.run_pure]
 rw [hp _ 0 w (.int .i64 a) (by simp),Result.andThen_ok,hp _ 0 w (.int .i64 a') (by simp),Result.andThen_ok,run_equalIn_int w 9998 e .i64 .i64 a a' he,Result.andThen_ok]
 by_cases h:a=a'
 ·subst h
  simp only [beq_self_eq_true,Bool.not_true,Bool.false_eq_true,if_false,decide_true,Bool.true_and]
  simp only [Sem.run_bind,Sem.run_pure]
  rw [hp _ 1 w (.int .i64 b) (by simp),Result.andThen_ok,hp _ 1 w (.int .i64 b') (by simp),Result.andThen_ok,run_equalIn_int w 9998 e .i64 .i64 b b' he,Result.andThen_ok]
  by_cases g:b=b'<;>simp [g,Sem.run_pure]
 ·have:(a==a')=false:=by simpa using h
  simp [this,h,Sem.run_pure]
theorem aJm {E:Env} {d:Option Nat} {t u:TypeId} {x y:Operand} {σ:Ss} {K:Ss→Prop} (hq:EqP2 E.P t) (ne:Bool) {a b a' b':Int} (hx:σ.opd x= .agg [iv a,iv b]) (hy:σ.opd y= .agg [iv a',iv b'])
  (hK:K (σ.ap d (.v (.bool (if ne then !(decide (a=a')&&decide (b=b'))else decide (a=a')&&decide (b=b')))) [] σ.nx)):cG E d (.binOp (if ne then .neq else .eql) t x y u) σ K:=by
 refine⟨[],_,[],_,fun X o _ hd ho hdn tm rs h1 h2=>?_,hK,fun i hi=>by simp at hi⟩
 refine bM (E:=E) (by rw [hd];exact hdn) _ fun ac w c hp h=>?_
 have hx1:=h x
 have hy1:=h y
 have ex:opd tm x=σ.opd x:=h1 x (by rw [ho];simp [Op.operands])
 have ey:opd tm y=σ.opd y:=h1 y (by rw [ho];simp [Op.operands])
 rw [ex,hx]at hx1
 rw [ey,hy]at hy1
 simp only [Sv.ok,Sv.okL]at hx1 hy1
 obtain⟨vs,e1,v1,r1,rfl,rfl,v2,r2,rfl,rfl,rfl⟩:=hx1
 obtain⟨us,e2,u1,s1,rfl,rfl,u2,s2,rfl,rfl,rfl⟩:=hy1
 cases ne
 ·simp only [Bool.false_eq_true,if_false]at ho⊢
  simp [execOp,ho,e1,e2,Sem.run_bind,run_eqGuard_agg w .eql t x y _ _ hq.gd,run_eql_struct w,hq.eq,Result.andThen_ok,Sem.run_pure]
 ·simp only [if_true]at ho⊢
  simp [execOp,ho,e1,e2,Sem.run_bind,run_eqGuard_agg w .neq t x y _ _ hq.gd,run_neq_struct w,hq.eq,Result.andThen_ok,Sem.run_pure]
theorem aDy {E:Env} {d:Option Nat} {t u:TypeId} {x y:Operand} {σ:Ss} {K:Ss→Prop} {a b a' b':Int} (hq:EqP2 E.P t) (hx:σ.opd x= .agg [iv a,iv b]) (hy:σ.opd y= .agg [iv a',iv b'])
  (hK:K (σ.ap d (.v (.bool (!(decide (a=a')&&decide (b=b'))))) [] σ.nx)):cG E d (.binOp .neq t x y u) σ K:=aJm hq true hx hy hK
end Go.Eng
end
section
namespace Go.Eng
open Go Go.Cats
mutual
def aRK:Sv→List Nat
 | .sl i=>[i]
 | .agg l=>aMG l
 | .tup l=>aMG l
 |_=>[]
def aMG:List Sv→List Nat
 |[]=>[]
 |s::l=>aRK s++aMG l
end
def aO1 (i:Nat):List Nat→Nat
 |[]=>0
 |j::l=>if i=j then 0 else aO1 i l+1
mutual
def muS (rs:Nat→Rs) (ids:List Nat):Sv→Sv
 | .v x=> .v x
 | .bor _ d=> .bor [] d
 | .bptr _ ds=> .bptr [] ds
 | .sl i=> .sl (aO1 i ids)
 | .ptr i o=>match (rs i).k with| .box cells=> .bptr [] (aBd rs (cells.drop o))| .arr d=> .bptr [] (d.cells.drop o)|_=> .dead
 | .agg l=> .agg (muL rs ids l)
 | .tup l=> .tup (muL rs ids l)
 | .bsl i n=> .bsl i n
 | .dead=> .dead
 | .fn f l=> .fn f (muL rs ids l)
def muL (rs:Nat→Rs) (ids:List Nat):List Sv→List Sv
 |[]=>[]
 |s::l=>muS rs ids s::muL rs ids l
end
def aRu (rs:Nat→Rs):Nat→List Nat→List (Nat×Rs)
 |_,[]=>[]
 |k,i::l=>(k,⟨1,(rs i).k⟩)::aRu rs (k+1) l
def aRv:Nat→List Nat→List (Nat×Nat)
 |_,[]=>[]
 |k,i::l=>(k,i)::aRv (k+1) l
def aOM (n:Nat) (nx:Nat):List (Nat×Rs)→List (Nat×Nat)
 |[]=>[]
 |(k,_)::l=>if k<n then aOM n nx l else(k,nx)::aOM n (nx+1) l
def aJU (ids:List Nat):List Nat→List Nat
 |[]=>[]
 |i::l=>if i∈ids then aJU ids l else i::aJU ids l
attribute [go_sem] aRK aMG aO1 muS muL aRu aRv aOM aJU
end Go.Eng
end
section
namespace Go.Eng
open Go Go.Cats
variable {V:List Nat} {rs:Nat→Rs}
@[go_sem ↓ high] theorem aTy (i n sz:Nat) (df:Dt) (cs:List Dt):Sv.view V rs (.bsl i n) (.sl sz df cs)↔i∈V∧0<sz∧n*sz=cs.length∧n≤maxLen∧∃cells,(rs i).k= .box cells∧dD V rs cells cs:=by
 simp only [Sv.view]
 constructor
 ·rintro⟨h1,cells,cs',sz',df',h2,h3,h4,h5,h6,h7⟩
  cases h3
  exact⟨h1,h4,h5,h6,cells,h2,h7⟩
 ·rintro⟨h1,h4,h5,h6,cells,h2,h7⟩
  exact⟨h1,cells,cs,sz,df,h2,rfl,h4,h5,h6,h7⟩
@[go_sem ↓ high] theorem aFN:dD V rs [] []↔True:=by simp [dD]
@[go_sem ↓ high] theorem aEz (s:Sv) (l:List Sv) (d:Dt) (r:List Dt):dD V rs (s::l) (d::r)↔s.view0 V rs d∧dD V rs l r:=by
 simp only [dD]
 constructor
 ·rintro⟨d',r',h1,h2,h3⟩;cases h1;exact⟨h2,h3⟩
 ·rintro⟨h2,h3⟩;exact⟨d,r,rfl,h2,h3⟩
@[go_sem ↓ high] theorem aPB (ts:List (Nat×Nat)) (ds ds':List Dt):Sv.view0 V rs (.bptr ts ds') (.pt ds)↔ds'.take ds.length=ds∧gI rs ts∧∀p∈ts,p.1∈V:=by
 simp only [Sv.view0]
 constructor
 ·rintro⟨ds2,h1,h2⟩;cases h1;exact h2
 ·rintro h;exact⟨ds,rfl,h⟩
@[go_sem] theorem aP7 (n:Nat) (h:n≤1000):n≤maxLen:=by unfold maxLen;omega
end Go.Eng
end
section
namespace Go.Eng
open Go
section
variable {X:Cx} {rs:Nat→Rs}
theorem tY {w:World} {c:Nat→Cn} (hp:Hp X.w0 X.U X.S c rs w) (i:Nat) (k':Rk) (ha:(⟨(rs i).cv,k'⟩:Rs).alive→(rs i).alive) (h:Rk.ok w X.S c rs (c i) k'):
  Hp X.w0 X.U X.S c (upd rs i ⟨(rs i).cv,k'⟩) w∧Ext X.S w w c c rs (upd rs i ⟨(rs i).cv,k'⟩):=by
 have hext:Ext X.S w w c c rs (upd rs i ⟨(rs i).cv,k'⟩):=by
  refine⟨fun j=>?_,Agree.refl _ _,fun _ _=>⟨rfl,rfl⟩,fun j _ _ hal=>?_⟩
  ·by_cases e:j=i
   ·subst e;rw [upd_same];exact Nat.le_refl _
   ·rw [aO _ _ e];exact Nat.le_refl _
  ·by_cases e:j=i
   ·subst e;rw [upd_same]at hal;exact⟨ha hal,fun _ h=>h,Agree.refl _ _⟩
   ·rw [aO _ _ e]at hal;exact⟨hal,fun _ h=>h,Agree.refl _ _⟩
 refine⟨⟨hp.os,hp.tape,hp.output,hp.size,hp.unch,hp.sub,hp.ult,fun j=>?_,hp.flt,hp.fu,hp.dis,hp.one⟩,hext⟩
 by_cases e:j=i
 ·subst e;rw [upd_same];exact Rk.ok_ext hext (Agree.refl _ _) _ h
 ·rw [aO _ _ e];exact Rk.ok_ext hext (Agree.refl _ _) _ (hp.res j)
theorem Imp.kind {σ:Ss} (i:Nat) (k':Rk) (ha:(⟨(σ.get i).cv,k'⟩:Rs).alive→(σ.get i).alive) (h:∀w c,Rk.ok w X.S c (rsL σ.rs) (c i) (σ.get i).k→Rk.ok w X.S c (rsL σ.rs) (c i) k'):
  Imp X σ ⟨σ.tm,(i,⟨(σ.get i).cv,k'⟩)::σ.rs,σ.nx⟩:=by
 rintro w1 U1 ds a w ⟨hd,hn,c,hp,ht,hpin⟩
 obtain⟨hp',hext⟩:=tY hp i k' ha (h w c (hp.res i))
 refine⟨hd,hn,c,hp',fun s=>Sv.ok_ext hext _ _ (ht s),fun l hl=>?_⟩
 obtain⟨r1,r2,r3⟩:=hpin l hl
 exact⟨Nat.le_trans r1 (hext.ver l),r2,r3⟩
theorem OwL.nils {w:World} {sz:Nat} {df:Dt} (h:0<sz):∀(n:Nat) (F:Nat→Prop) (vs:List Value),OwL w F (List.replicate n (.v (.slice none 0 0))) vs→OwL w F (List.replicate n (.sl sz df [])) vs
 |0,_,_,k=>k
 |n+1,F,vs,k=>by
  simp only [List.replicate_succ,OwL]at k⊢
  obtain⟨x,r,F1,F2,e1,f1,f2,f3,e2,e3⟩:=k
  refine⟨x,r,F1,F2,e1,f1,f2,f3,?_,OwL.nils h n F2 r e3⟩
  simp only [OwV]at e2⊢
  exact⟨h, .inl ⟨e2,trivial⟩⟩
theorem Imp.nils {σ:Ss} (i n sz0 sz:Nat) (df0 df:Dt) (h:0<sz) (hi:(σ.get i).k= .arr (.sl sz0 df0 (List.replicate n (.v (.slice none 0 0))))):
  Imp X σ ⟨σ.tm,(i,⟨(σ.get i).cv, .arr (.sl sz0 df0 (List.replicate n (.sl sz df [])))⟩)::σ.rs,σ.nx⟩:=
 Imp.kind i _ (fun _=>by unfold Rs.alive;rw [hi];trivial) fun w c k=>by
  rw [hi]at k
  obtain⟨k1,k2⟩:=k
  refine⟨?_,k2⟩
  simp only [OwV]at k1⊢
  obtain⟨h0,⟨e1,e2⟩|⟨g,m,cap,cur,e,e1,e2,e3,e4,e5,e6,e7,e8⟩⟩:=k1
  ·refine⟨h0, .inl ⟨e1,?_⟩⟩
   cases n with
   |zero=>rfl
   |succ n=>simp [List.replicate_succ]at e2
  ·refine⟨h0, .inr ⟨g,m,cap,cur,e,e1,by simpa using e2,e3,e4,e5,e6,e7,?_⟩⟩
   rw [List.length_replicate]at e8⊢
   exact OwL.nils h _ _ _ e8
theorem aEY {w:World} {c:Nat→Cn} (hp:Hp X.w0 X.U X.S c rs w) (i sz:Nat) (df:Dt) (hs:0<sz) (hf:rs i=⟨0, .gone⟩):
  Hp X.w0 X.U X.S (upd c i ⟨0, .slice none 0 0,fun _=>False⟩) (upd rs i ⟨1, .arr (.sl sz df [])⟩) w∧Ext X.S w w c (upd c i ⟨0, .slice none 0 0,fun _=>False⟩) rs (upd rs i ⟨1, .arr (.sl sz df [])⟩):=
 xA hp i hf ⟨0, .slice none 0 0,fun _=>False⟩ (.arr (.sl sz df [])) rfl rfl rfl (Nat.le_refl _) (Agree.refl _ _) (fun _ h=>(h:False).elim) rfl
  (fun _=>⟨by simp only [OwV];exact⟨hs, .inl ⟨trivial,trivial⟩⟩,fun a m k e=>by cases e⟩)
theorem Imp.adoptB {σ:Ss} (i k sz:Nat) (df:Dt) (cells:List Sv) (hs:0<sz) (hi:(σ.get i).k= .box cells) (hk:cells[k]? =some (.v (.slice none 0 0))) (hf:σ.get σ.nx=⟨0, .gone⟩) (hx:(X.rs0 σ.nx).cv=0):
  Imp X σ ⟨σ.tm,(i,⟨(σ.get i).cv, .box (cells.set k (.sl σ.nx))⟩)::(σ.nx,⟨1, .arr (.sl sz df [])⟩)::σ.rs,σ.nx+1⟩:=by
 rintro w1 U1 ds a w ⟨hd,hn,c,hp,ht,hpin⟩
 have hg:(rsL σ.rs σ.nx)=⟨0, .gone⟩:=hf
 have hij:i≠σ.nx:=fun e=>by subst e;rw [hf]at hi;cases hi
 obtain⟨hp1,hx1⟩:=aEY hp σ.nx sz df hs hg
 have h2:=hp1.res i
 have hr:upd (rsL σ.rs) σ.nx ⟨1, .arr (.sl sz df [])⟩ i=rsL σ.rs i:=aO _ _ hij
 have hi':(rsL σ.rs i).k= .box cells:=hi
 have h3:Rk.ok w X.S (upd c σ.nx ⟨0, .slice none 0 0,fun _=>False⟩) (upd (rsL σ.rs) σ.nx ⟨1, .arr (.sl sz df [])⟩) (upd c σ.nx ⟨0, .slice none 0 0,fun _=>False⟩ i) (.box (cells.set k (.sl σ.nx))):=by
  rw [hr,hi']at h2
  obtain⟨b1,cur,e,b2,b3⟩:=h2
  refine⟨b1,cur,e,b2,?_⟩
  obtain⟨x,q1,q2⟩:=Sv.okL.get b3 hk
  simp only [Sv.ok]at q2
  have b4:=Sv.okL.set (k:=k) (s:= .sl σ.nx) (x:=x) b3 (by simp only [Sv.ok,upd_same];exact⟨Nat.le_refl _,q2⟩)
  have b5:cur.toList.set k x=cur.toList:=by
   obtain⟨hlt,hx⟩:=List.getElem?_eq_some_iff.1 q1
   rw [←hx];exact List.set_getElem_self hlt
  rwa [b5]at b4
 obtain⟨hp2,hx2⟩:=tY hp1 i (.box (cells.set k (.sl σ.nx))) (fun _=>by unfold Rs.alive;rw [hr,hi'];trivial) h3
 rw [hr]at hp2 hx2
 refine⟨hd,hn,_,hp2,fun s=>Sv.ok_ext hx2 _ _ (Sv.ok_ext hx1 _ _ (ht s)),fun l hl=>?_⟩
 obtain⟨r1,r2,r3⟩:=hpin l hl
 have hl':l≠σ.nx:=fun e=>by subst e;rw [hx]at hl;cases hl
 rw [aO _ _ hl']
 exact⟨Nat.le_trans r1 (Nat.le_trans (hx1.ver l) (hx2.ver l)),r2,r3⟩
end
/-! ### Lists of lists of lists -/
def bH (l:List (List (List Int))):Dt:= .sl 1 (.sl 1 (.sl 1 (.v (.int .i64 0)) []) []) (l.map aC)
@[go_sem] theorem aNI (l):(bH l).isSl=true:=rfl
@[go_sem] theorem aP3 (l):(bH l).sz=1:=rfl
@[go_sem] theorem aP2 (l:List (List (List Int))):(bH l).nc=l.length:=by simp [bH,Dt.nc,Dt.cells]
@[go_sem] theorem aOE (l:List (List (List Int))):(bH l).len=l.length:=by simp [bH,Dt.len,Dt.sz,Dt.nc,Dt.cells]
@[go_sem] theorem aP1 (l:List (List (List Int))) (k:Nat):(bH l).at k=aC (l.getD k []):=by
 simp only [bH,Dt.at,Dt.cells,Dt.df,List.getD_eq_getElem?_getD,List.getElem?_map]
 cases l[k]? <;>rfl
@[go_sem] theorem aNO (ts) (l:List (List (List Int))):Sv.ofDt ts (bH l)= .bor ts (bH l):=rfl
@[go_sem] theorem aOF (l:List (List (List Int))) (k:Nat) (x:List (List Int)):(bH l).put k (aC x)=bH (l.set k x):=by simp [bH,Dt.put,Dt.cells,Dt.sz,Dt.df,List.map_set]
theorem aE4 (n:Nat):bH (List.replicate n [])= .sl 1 (.sl 1 (.sl 1 (.v (.int .i64 0)) []) []) (List.replicate n (.sl 1 (.sl 1 (.v (.int .i64 0)) []) [])):=by simp [bH,aC]
theorem Imp.nilsss {X:Cx} {σ:Ss} (i n:Nat) (hi:(σ.get i).k= .arr (.sl 1 (.sl 1 (.sl 1 (.v (.int .i64 0)) []) []) (List.replicate n (.v (.slice none 0 0))))):
  Imp X σ ⟨σ.tm,(i,⟨(σ.get i).cv, .arr (bH (List.replicate n []))⟩)::σ.rs,σ.nx⟩:=by
 rw [aE4];exact Imp.nils i n 1 1 _ _ (by decide) hi
theorem Imp.adoptBs {X:Cx} {tm:List (Nat×Sv)} {rs:List (Nat×Rs)} {nx:Nat} (i k cv:Nat) (cells:List Sv) (hi:rsL rs i=⟨cv, .box cells⟩) (hk:cells[k]? =some (.v (.slice none 0 0))) (hf:rsL rs nx=⟨0, .gone⟩) (hx:(X.rs0 nx).cv=0):
  Imp X ⟨tm,rs,nx⟩ ⟨tm,(i,⟨cv, .box (cells.set k (.sl nx))⟩)::(nx,⟨1, .arr (aC [])⟩)::rs,nx+1⟩:=by
 have h:=Imp.adoptB (X:=X) (σ:=⟨tm,rs,nx⟩) i k 1 (.sl 1 (.v (.int .i64 0)) []) cells (by decide) (by unfold Ss.get;rw [hi]) hk hf hx
 have e:((⟨tm,rs,nx⟩:Ss).get i).cv=cv:=by unfold Ss.get;rw [hi]
 rw [e]at h
 exact h
theorem Hp.poke {w0 w:World} {U S:Nat→Prop} {c:Nat→Cn} {rs:Nat→Rs} (hp:Hp w0 U S c rs w) (i p cv:Nat) (cells:List Sv) (hr:rs i=⟨cv, .box cells⟩) (hcv:1≤cv) (hfit:p<cells.length) (v:Value):
  Hp w0 U S c (upd rs i ⟨cv+1, .box (cells.set p (.v v))⟩) (w.setCell ⟨(c i).blk,p,none⟩ v):=by
 have h2:=hp.res i
 rw [hr]at h2
 obtain⟨hb,cur,e,h3,h4⟩:=h2
 have hl:=Sv.okL.length h4
 have q:=setCell_eq_setRow w (c i).blk p cur e (0,0) v h3
 rw [q]
 refine(iB (X:=⟨w0,U,S,c,rs,0,none,[]⟩) (w':=w.setRow (c i).blk (cur.setIfInBounds p v)) hp i (by rw [hr];exact hcv) (cv+1) (by rw [hr];exact Nat.lt_succ_self _) (.box (cells.set p (.v v))) rfl rfl rfl (by simp) (dQ _ (by simpa using hb)) (fun hx'=>⟨hb,_,e,setRow_heap w _ cur _ e (0,0) h3,?_⟩)).1
 have h5:=Sv.okL.set (k:=p) (s:= .v v) (x:=v) (Sv.okL_ext hx' _ _ h4) (by simp [Sv.ok])
 simpa using h5
theorem Hp.drew {w0 w:World} {U S:Nat→Prop} {c:Nat→Cn} {rs:Nat→Rs} (hp:Hp w0 U S c rs w):Hp w0 U S c rs w.drew:=
 have hx:Ext S w w.drew c c rs rs:=⟨fun _=>Nat.le_refl _,fun _ _=>rfl,fun _ _=>⟨rfl,rfl⟩,fun _ _ _ h=>⟨h,fun _ h=>h,fun _ _=>rfl⟩⟩
 ⟨hp.os,hp.tape,hp.output,hp.size,hp.unch,hp.sub,hp.ult,fun i=>Rk.ok_ext hx (fun _ _=>rfl) _ (hp.res i),hp.flt,hp.fu,hp.dis,hp.one⟩
theorem Hp.peek {w0 w:World} {U S:Nat→Prop} {c:Nat→Cn} {rs:Nat→Rs} (hp:Hp w0 U S c rs w) (i p cv:Nat) (cells:List Sv) (hr:rs i=⟨cv, .box cells⟩) (s:Sv) (hs:cells[p]? =some s):
  ∃x,w.cell? ⟨(c i).blk,p,none⟩=some x∧w.frozen? ⟨(c i).blk,p,none⟩=false∧s.ok w S c rs x:=by
 have h2:=hp.res i
 rw [hr]at h2
 obtain⟨hb,cur,e,h3,h4⟩:=h2
 obtain⟨x,q1,q2⟩:=Sv.okL.get h4 hs
 refine⟨x,by simp [World.cell?,h3];simpa using q1,?_,q2⟩
 simp [World.frozen?,h3]
end Go.Eng
end
section
namespace Go.Eng
open Go Go.Cats Go.ChangeShapes
def Old (w:World):Nat→Prop:=fun b=>b<w.heap.size
def In64 (n:Int):Prop:= -9223372036854775808≤n∧n≤9223372036854775807
section
variable {H:Type} {enc:TypeId×Value→H} {P:Program} {w:World} {held:Bool}
theorem aII {a:Addr} {v:Value} (h:w.cell? a=some v):Old w a.block:=by
 unfold World.cell? at h
 unfold Old
 split at h
 ·rename_i heq
  exact(Array.getElem?_eq_some_iff.1 heq).1
 ·cases h
theorem aEP {a:Addr} {k:Nat} {v:Value} (h0:a.spot=none) (h:w.cell? (a.add k)=some v):w.cell? ⟨a.block,a.off+k,none⟩=some v:=by
 obtain⟨b,o,s⟩:=a
 simp only at h0
 subst h0
 rwa [Addr.add_plain]at h
theorem RdL.of_get {R:Nat→Prop}:∀(ds:List Dt) (vs:List Value),vs.length=ds.length→(∀(i:Nat) (d:Dt) (v:Value),ds[i]? =some d→vs[i]? =some v→RdV w R d v)→RdL w R ds vs
 |[],[],_,_=>by simp [RdL]
 |[],_::_,h,_=>by simp at h
 |_::_,[],h,_=>by simp at h
 |d::ds,v::vs,h,k=>by
  simp only [RdL]
  exact⟨v,vs,rfl,k 0 d v rfl rfl,RdL.of_get ds vs (by simpa using h) fun i d' v' h1 h2=>k (i+1) d' v' (by simpa using h1) (by simpa using h2)⟩
end
end Go.Eng
end
section
namespace Go.Eng
open Go Go.Cats Go.ChangeShapes Go.RowKit
section
variable {H:Type} {enc:TypeId×Value→H} {P:Program}
theorem aCY {w0 w:World} {c:Nat→Cn} {rs:Nat→Rs} (hp:Hp w0 (Old w0) (Old w0) c rs w):Below w0.heap.size w0 w:=
 ⟨hp.os,hp.tape,hp.output,hp.size,fun k hk=>hp.unch k hk⟩
theorem aJq (w:World):Hp w (Old w) (Old w) (fun _=>⟨0, .slice none 0 0,fun _=>False⟩) (rsL []) w:=
 ⟨rfl,rfl,rfl,Nat.le_refl _,Agree.refl _ _,fun _ h=>h,fun _ h=>h,fun _ _ h=>h,fun _ _ h=>h.elim,fun _ _ h=>h.elim,fun _ _ _ _ h=>h.elim,fun _=>rfl⟩
theorem aKf {f:Func} {s:ChangeSpec} {apart fresh handsOn:Bool} {W W':World} {args:Array Value} {ds:List (DataW H)} {before:List MemPlace} {tb:TypeId}
  (hW:DataW.Whole enc P f.params.toList s.vars apart W args.toList ds [] before) (hv:s.vars=[]) (hr:f.resultTypes= #[tb]) (htb:P.underlying tb=some .bool)
  (hs:s.fn H ds={results:=[.lit (.bool true)],args:=ds}) (hb:Below W.heap.size W W')
  (hargs:DataW.TrodAll enc P W' 0 (fun b=>decide (b<W.heap.size)) true f.params.toList args.toList ds before):
  s.post enc P f apart fresh handsOn false W args (.bool true) W':=by
 refine⟨ds,[],before,[],before,[],hW,?_,?_,?_,World.keptBut_mono (fun p hp=>⟨hp, .inr (.inl hp)⟩) (hb.frame (·∈before)),fun h=>by cases h⟩
 ·rw [List.append_nil,hs,hr]
  exact trodAll_mk1 ⟨1,by simp [Value.cells,DataW.trod,htb]⟩
 ·rw [List.append_nil,hs];exact hargs
 ·rw [hv,List.append_nil,hs];exact rfl
end
end Go.Eng
end
