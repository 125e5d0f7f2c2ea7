/- Several texts in one: EngRF, EngBX, EngMp, EngCl, EngDr, EngHk, EngUn, EngNm. -/
import Derived.Test.YtipohdpnhodnmaaGreatKdx
import Derived.RangeFuncIn
import Derived.Maps.Views
import Derived.Laws.BytesArg
import Derived.Carry
set_option linter.unusedVariables false
set_option linter.unusedSimpArgs false
section
namespace Go.Eng
open Go
def aQ7 (ids:List Nat):List (Nat×Nat):=ids.map fun i=>(i,i)
end Go.Eng
end
section
namespace Go.Eng
open Go
section
variable {X:Cx} {σ:Ss}
theorem Imp.openB (i k:Nat) (cells:List Sv) (d:Dt) (hi:(σ.get i).k= .bx cells k d) (hcv:1≤(σ.get i).cv) (hsl:d.isSl=true) (hf:σ.get σ.nx=⟨0, .gone⟩):
  Imp X σ ⟨σ.tm,(i,⟨(σ.get i).cv+1, .box (cells.set k (.sl σ.nx))⟩)::(σ.nx,⟨1, .arr d⟩)::σ.rs,σ.nx+1⟩:=by
 rintro w1 U1 ds a w ⟨hd,hn,c,hp,ht,hpin⟩
 have hij:i≠σ.nx:=fun e=>by rw [e,hf]at hcv;simp at hcv
 have h1:Rk.ok w X.S c (rsL σ.rs) (c i) (.bx cells k d):=by
  have:=hp.res i
  unfold Ss.get at hi;rw [hi]at this;exact this
 obtain⟨q1,cur,e,F,x,q2,q3,q4,q5,q6⟩:=h1
 have hone:x.oneCell'=true:=qC hsl (OwV.rd _ _ q6)
 have hblk:∃g:Nat,∀a m k,x= .slice (some a) m k→a=⟨g,0,none⟩:=by
  cases d with
  |v y=>cases hsl
  |pt l=>cases hsl
  |ab p=>cases hsl
  |sl sz' df' l=>
   simp only [OwV]at q6
   rcases q6.2 with⟨rfl,_⟩|⟨g,m',cap',cur',e',r1,_⟩
   ·exact⟨0,fun _ _ _ h=>by cases h⟩
   ·exact⟨g,fun a m k h=>by rw [r1]at h;simp at h;exact h.1.symm⟩
 obtain⟨g,hg⟩:=hblk
 obtain⟨c',p1,p2,hp',hext⟩:=qT hp i σ.nx hij hf ((σ.get i).cv+1) (Nat.lt_succ_self _) (.box (cells.set k (.sl σ.nx))) (.arr d) ⟨g,x,F⟩ (fun b hb=>(q4 b hb).1) hone (fun hx'=>by
  refine⟨⟨⟨q1,fun h=>(q4 _ h).2 rfl⟩,cur,e,q2,?_⟩,q6,hg⟩
  have h2:=Sv.okL_ext hx' _ _ q3
  have h3:=Sv.okL.set (k:=k) (s:= .sl σ.nx) (x:=x) h2 (by
   simp only [Sv.ok,aO _ _ (Ne.symm hij),upd_same]
   exact⟨Nat.le_refl _,trivial⟩)
  have h4:cur.toList.set k x=cur.toList:=by
   apply List.ext_getElem?
   intro n
   rw [List.getElem?_set]
   split
   ·rename_i hn'
    subst hn'
    split
    ·exact q5.symm
    ·rename_i hlt
     rw [List.getElem?_eq_none (by omega)]
   ·rfl
  rwa [h4]at h3)
 refine⟨hd,hn,c',hp',fun s=>Sv.ok_ext hext _ _ (ht s),fun l hl=>?_⟩
 obtain⟨r1,r2,r3⟩:=hpin l hl
 obtain⟨r4,r5⟩:=hext.cn l r1
 exact⟨Nat.le_trans r1 (hext.ver l),r4.trans r2,r5.trans r3⟩
theorem Imp.closeB (i j k:Nat) (cells:List Sv) (d:Dt) (hi:(σ.get i).k= .box cells) (hc:cells[k]? =some (.sl j)) (hj:(σ.get j).k= .arr d) (hij:i≠j):
  Imp X σ ⟨σ.tm,(i,⟨(σ.get i).cv+1, .bx (cells.set k .dead) k d⟩)::(j,⟨(σ.get j).cv, .gone⟩)::σ.rs,σ.nx⟩:=by
 rintro w1 U1 ds a w ⟨hd,hn,c,hp,ht,hpin⟩
 have h1:=hp.res i
 have h2:=hp.res j
 unfold Ss.get at hi hj
 rw [hi]at h1
 rw [hj]at h2
 obtain⟨q1,cur,e,q2,q3⟩:=h1
 obtain⟨x,hx1,hx2⟩:=Sv.okL.get q3 hc
 simp only [Sv.ok]at hx2
 have hr:=tY (X:=X.at w1 U1 ds) hp i ⟨(c i).blk,(c i).hdr,fun b=>(c i).fp b∨(c j).fp b⟩ ((σ.get i).cv+1) (.bx (cells.set k .dead) k d) [j] (by simpa using hij) (Nat.lt_succ_self _) (.inr ⟨rfl,rfl⟩) rfl rfl rfl (Nat.le_refl _) (Agree.refl _ _)
  (fun b hb=>hb.elim .inl fun h=> .inr (.inl ⟨j,by simp,h⟩)) (hp.one i) (fun hx=>by
   refine⟨.inl q1,cur,e,(c j).fp,x,q2,?_,fun b hb=>⟨.inr hb,fun h=>hp.dis i j b hij (by rw [h];exact q1) hb⟩,hx1,by rw [hx2.2];exact h2.1⟩
   have h3:=Sv.okL.set (k:=k) (s:= .dead) (x:=x) (Sv.okL_ext hx _ _ q3) (by simp [Sv.ok])
   have h4:cur.toList.set k x=cur.toList:=by
    apply List.ext_getElem?
    intro n
    rw [List.getElem?_set]
    split
    ·rename_i hn'
     subst hn'
     split
     ·exact hx1.symm
     ·rename_i hlt
      rw [List.getElem?_eq_none (by omega)]
    ·rfl
   rwa [h4]at h3)
 obtain⟨hp',hext⟩:=hr
 refine⟨hd,hn,_,hp',fun s=>Sv.ok_ext hext _ _ (ht s),fun l hl=>?_⟩
 obtain⟨r1,r2,r3⟩:=hpin l hl
 obtain⟨r4,r5⟩:=hext.cn l r1
 exact⟨Nat.le_trans r1 (hext.ver l),r4.trans r2,r5.trans r3⟩
end
/-! ### Calls of a loop's body -/
theorem EvYield.mk {E:Env} {l:Nat} {args es:List Sv} {σ:Ss} {K:Sv→List (Nat×Rs)→Prop} {L0 L1:List (Nat×Rs)} {r:Sv} {H:(Nat→Cn)→Prop} (hs:aIX E.P l es L0 r L1 H) (ML:List (Nat×Nat)) (V:List Nat)
  (h1:qY (rsL σ.rs) (bP (rsL σ.rs) 3 (args.flatMap Sv.ids)) L0 ML V) (h2:Sv.mtL ML V (rsL σ.rs) (rsL L0) args es)
  (hH:∀(X:Cx) (c:Nat→Cn),E.hk X.c0 X.rs0→(∀i,1≤(X.rs0 i).cv→(c i).blk=(X.c0 i).blk∧(c i).hdr=(X.c0 i).hdr)→H (cnM c ML (rsL L0)))
  (h3:K (r.ren (aR (rsL σ.rs) (rsL L1) ML V)) (bV (aR (rsL σ.rs) (rsL L1) ML V) (rsL L1))):EvYield E l args σ K:=by
 obtain⟨a1,a2,a3,a4,a5⟩:=h1
 exact⟨es,L0,r,L1,ML,V,H,fun i hi=>(gA a4 i hi).2.2,hs,
  ⟨a1,a2,fun i hi=>(gA a4 i hi).1,fun i hi=>(gA a4 i hi).2.1,fun k=>(jR a3 k).1,fun k=>(jR a3 k).2,tF a5⟩,h2,hH,h3⟩
end Go.Eng
end
section
namespace Go.Eng
open Go Go.Maps Go.RowKit Go.WideMaps
structure MapT (P:Program) (t k e:TypeId):Prop where
 und:P.underlying t=some (.map k e)
 key:P.underlying k=some .string
 el:P.underlying e=some (.int .i64)
 z:∀w,(zeroValue e).run P w= .ok (.int .i64 0) w
section
variable {E:Env} {d:Option Nat} {σ:Ss} {K:Ss→Prop}
theorem pJ {src dst:TypeId} {k:IntKind} {q:IntKind} {x:Operand} {n:Int} (hs:(E.P.underlying src).isSome=true) (ht:E.P.underlying dst=some (.int k)) (hx:σ.opd x= .v (.int q n)) (hK:K (σ.ap d (.v (.int k (k.wrap n))) [] σ.nx)):eM E d (.convert src dst x) σ K:=by
 refine⟨[],_,[],_,fun X o _ hd ho hdn tm rs h1 h2=>?_,hK,fun i hi=>by simp at hi⟩
 refine cG (E:=E) (by rw [hd];exact hdn) _ fun ac w c hp h=>?_
 have hx1:=h x
 have ex:opd tm x=σ.opd x:=h1 x (by rw [ho];simp [Op.operands])
 rw [ex,hx]at hx1
 simp only [Sv.ok]at hx1
 obtain⟨u,hu⟩:=Option.isSome_iff_exists.mp hs
 simp [execOp,ho,hx1,convert,run_underlying hu,run_underlying ht,Conv.intToInt]
def bys (l:List Int):Dt:= .sl 1 (.v (.int .u8 0)) (l.map fun n=> .v (.int .u8 n))
end
end Go.Eng
end
section
namespace Go.Eng
open Go
structure LC where
 l:List Sv
 ok:eO l=true
theorem nX {s:Sv} (h:s.pure=true):(∃x,s= .v x)∨(∃d,s= .bor [] d)∨∃ds,s= .bptr [] ds:=by
 cases s with
 |v x=>exact .inl ⟨x,rfl⟩
 |bor ts d=>
  cases ts with
  |nil=>exact .inr (.inl ⟨d,rfl⟩)
  |cons _ _=>cases h
 |bptr ts d=>
  cases ts with
  |nil=>exact .inr (.inr ⟨d,rfl⟩)
  |cons _ _=>cases h
 |_=>cases h
theorem aBT:∀{l:List Sv},eO l=true→Sv.idsL l=[]
 |[],_=>by simp [Sv.idsL]
 |s::l,h=>by
  simp only [eO,Bool.and_eq_true]at h
  rcases nX h.1 with⟨x,rfl⟩|⟨d,rfl⟩|⟨d,rfl⟩<;>simp [Sv.idsL,Sv.ids,aBT h.2]
theorem aB7 {R:Rn} (hR:R.vt=[]):∀{l:List Sv},eO l=true→Sv.renL R l=l
 |[],_=>by simp [Sv.renL]
 |s::l,h=>by
  simp only [eO,Bool.and_eq_true]at h
  rcases nX h.1 with⟨x,rfl⟩|⟨d,rfl⟩|⟨d,rfl⟩<;>simp [Sv.renL,Sv.ren,xQ,hR,aB7 hR h.2]
theorem aEK {rs:Nat→Rs}:∀{l:List Sv},eO l=true→rvL rs l=l
 |[],_=>by simp [rvL]
 |s::l,h=>by
  simp only [eO,Bool.and_eq_true]at h
  rcases nX h.1 with⟨x,rfl⟩|⟨d,rfl⟩|⟨d,rfl⟩<;>simp [rvL,rvS,aEK h.2]
theorem aBY:∀{l:List Sv},eO l=true→xO l l=[]
 |[],_=>by simp [xO]
 |s::l,h=>by
  simp only [eO,Bool.and_eq_true]at h
  rcases nX h.1 with⟨x,rfl⟩|⟨d,rfl⟩|⟨d,rfl⟩<;>simp [xO,pSv,aBY h.2]
@[go_sem] theorem aTA (c:LC):Sv.idsL c.l=[]:=aBT c.ok
@[go_sem] theorem aTV (c:LC) (ML:List (Nat×Nat)) (f g:Nat→Nat):Sv.renL ⟨ML,f,g,[]⟩ c.l=c.l:=aB7 rfl c.ok
@[go_sem] theorem aVX (c:LC) (rs:Nat→Rs):rvL rs c.l=c.l:=aEK c.ok
@[go_sem] theorem aTP (c:LC):xO c.l c.l=[]:=aBY c.ok
@[go_sem] theorem aVU (c:LC) (ML:List (Nat×Nat)) (V:List Nat) (rs rs0:Nat→Rs):Sv.mtL ML V rs rs0 c.l c.l↔True:=⟨fun _=>trivial,fun _=>pL c.ok⟩
theorem EvCall.lc {E:Env} {f:FuncId} {c:LC} {args:List Sv} {σ:Ss} {K:Sv→List (Nat×Rs)→Prop} {x:Value} (hp:eO args=true) (hs:Spec E.P f (args++c.l) [] (.v x) []) (hc:aF E.P f) (hK:K (.v x) []):EvCall E (.fn f c.l) args σ K:=by
 refine EvCall.mk hs hc [] [] ?_ ?_ ?_
 ·simp [qY,coL,coV,coM]
 ·have:eO (args++c.l)=true:=by
   have h2:=c.ok
   clear hs
   revert h2 hp
   generalize c.l=m
   induction args with
   |nil=>intro _ h;exact h
   |cons s l ih=>
    intro h k
    simp only [eO,Bool.and_eq_true]at h
    simp only [List.cons_append,eO,Bool.and_eq_true]
    exact⟨h.1,ih h.2 k⟩
  exact pL this
 ·simpa [Sv.ren,bV,aR]using hK
theorem aQx {X:Cx} {E:Env} {c:Code} {σ:Ss} {Q:Exit→Ss→Prop} (h:V X E c σ (fun e τ=>∃υ,Imp X τ υ∧Q e υ)):V X E c σ Q:=fun hk a w hg=>
 wpIn_mono (h hk a w hg) fun e a' w' ⟨τ,⟨w1,U1,ds,hr,hg'⟩,υ,hi,hq⟩=>⟨υ,⟨w1,U1,ds,hr,hi w1 U1 ds a' w' hg'⟩,hq⟩
/-! ### Nil slices in a result, told as empty lists of one's own -/
def uZ (L:List (Nat×Rs)):Prop:=∀p∈L,∃sz df,0<sz∧p.2=⟨1, .arr (.sl sz df [])⟩
theorem zL:∀{L:List (Nat×Rs)},uZ L→∀i,rsL L i=⟨0, .gone⟩∨∃sz df,0<sz∧rsL L i=⟨1, .arr (.sl sz df [])⟩
 |[],_,i=> .inl rfl
 |(j,r)::l,h,i=>by
  rw [kU]
  split
  ·exact .inr (h (j,r) (by simp))
  ·exact zL (fun p hp=>h p (by simp [hp])) i
theorem Spec.adopt {P:Program} {f:FuncId} {args:List Sv} {r r':Sv} {L1:List (Nat×Rs)} (h:Spec P f args [] r []) (hL:uZ L1)
  (hr:∀(w:World) (S:Nat→Prop) (v:Value) (c:Nat→Cn),r.ok w S c (rsL []) v→r'.ok w S (fun _=>⟨0, .slice none 0 0,fun _=>False⟩) (rsL L1) v):Spec P f args [] r' L1:=by
 intro w0 U S c0 vs hp ha
 refine(h w0 U S c0 vs hp ha).mono fun e w' ⟨v,c1,he,hp1,hv,_⟩=>⟨v,fun _=>⟨0, .slice none 0 0,fun _=>False⟩,he,?_,hr _ _ _ _ hv,fun i hi=>by simp [uC]at hi⟩
 refine⟨hp1.os,hp1.tape,hp1.output,hp1.size,hp1.unch,hp1.sub,hp1.ult,fun i=>?_,fun i b hb=>hb.elim,fun i b hb=>hb.elim,fun i j b _ hb=>hb.elim,fun i=>rfl⟩
 rcases zL hL i with e|⟨sz,df,h0,e⟩
 ·rw [e];exact fun b hb=>hb
 ·rw [e]
  refine⟨?_,fun _ _ _ hh=>by cases hh⟩
  simp [OwV,h0]
theorem aBf {i:Nat} {L:List (Nat×Rs)} (h:uZ L):uZ ((i,⟨1, .arr (aD [])⟩)::L):=fun p hp=>by
 rcases List.mem_cons.1 hp with rfl|hp
 ·exact⟨_,_,Nat.one_pos,rfl⟩
 ·exact h p hp
theorem aFC:uZ []:=fun p hp=>by simp at hp
/-! ### A table that is being filled -/
theorem aJ1 {p:List (List Int)} {m k:Nat} (h:k<p.length):(jL p m).at k=ints (p.getD k []):=by
 simp [jL,Dt.at,Dt.cells,Dt.df,List.getD_eq_getElem?_getD,List.getElem?_append,h]
@[go_sem ↓ high] theorem aTi {V:List Nat} {rs:Nat→Rs} (x y:Value):Sv.view0 V rs (.v x) (.v y)↔y=x:=by
 simp [Sv.view0]
@[go_sem high] theorem aN9 {V:List Nat} {rs:Nat→Rs}:dU V rs [] []↔True:=aGr
@[go_sem high] theorem aNw {V:List Nat} {rs:Nat→Rs} (s:Sv) (l:List Sv) (d:Dt) (r:List Dt):dU V rs (s::l) (d::r)↔s.view0 V rs d∧dU V rs l r:=aFj s l d r
end Go.Eng
end
section
namespace Go.Eng
open Go
theorem Imp.drop {X:Cx} {σ:Ss} (i:Nat) (hcv:1≤(σ.get i).cv):Imp X σ ⟨σ.tm,(i,⟨(σ.get i).cv+1, .gone⟩)::σ.rs,σ.nx⟩:=by
 rintro w1 U1 ds a w ⟨hd,hn,c,hp,ht,hpin⟩
 have hr:=tY (X:=X.at w1 U1 ds) hp i ⟨(c i).blk,(c i).hdr,fun _=>False⟩ ((σ.get i).cv+1) .gone [] (by simp) (Nat.lt_succ_self _) (.inr ⟨rfl,rfl⟩) rfl rfl rfl (Nat.le_refl _) (Agree.refl _ _)
  (fun b hb=>hb.elim) (hp.one i) (fun hx=>fun b hb=>hb)
 obtain⟨hp',hext⟩:=hr
 refine⟨hd,hn,_,hp',fun s=>Sv.ok_ext hext _ _ (ht s),fun l hl=>?_⟩
 obtain⟨r1,r2,r3⟩:=hpin l hl
 obtain⟨r4,r5⟩:=hext.cn l r1
 exact⟨Nat.le_trans r1 (hext.ver l),r4.trans r2,r5.trans r3⟩
def aQV (X:Cx) (Q:Exit→Ss→Prop) (e:Exit) (τ:Ss):Prop:=∃υ,Imp X τ υ∧Q e υ
theorem aI1 {X:Cx} {E:Env} {c:Code} {σ:Ss} {Q:Exit→Ss→Prop} (h:V X E c σ (aQV X Q)):V X E c σ Q:=aQx h
theorem tI {X:Cx} {Q:Exit→Ss→Prop} {e:Exit} {τ υ:Ss} (h:Imp X τ υ) (q:Q e υ):aQV X Q e τ:=⟨υ,h,q⟩
theorem Imp.adoptBsss {X:Cx} {tm:List (Nat×Sv)} {rs:List (Nat×Rs)} {nx:Nat} (i k cv:Nat) (cells:List Sv) (hi:rsL rs i=⟨cv, .box cells⟩) (hk:cells[k]? =some (.v (.slice none 0 0))) (hf:rsL rs nx=⟨0, .gone⟩) (hx:(X.rs0 nx).cv=0):
  Imp X ⟨tm,rs,nx⟩ ⟨tm,(i,⟨cv, .box (cells.set k (.sl nx))⟩)::(nx,⟨1, .arr (aU [])⟩)::rs,nx+1⟩:=by
 have h:=Imp.adoptB (X:=X) (σ:=⟨tm,rs,nx⟩) i k 1 (.sl 1 (.sl 1 (.v (.int .i64 0)) []) []) cells (by decide) (by unfold Ss.get;rw [hi]) hk hf hx
 have e:((⟨tm,rs,nx⟩:Ss).get i).cv=cv:=by unfold Ss.get;rw [hi]
 rw [e]at h
 exact h
/-! ### Lists of lists of lists of numbers -/
@[go_sem] theorem aNV:Dt.sl 1 (aD []) []=aU []:=rfl
@[go_sem] theorem aNW (q:List (List Int)):Dt.sl 1 (aD []) [aD q]=aU [q]:=rfl
@[go_sem] theorem aMH (q:List (List Int)):(aU [q]).flat=false:=rfl
@[go_sem] theorem aNX (l:List (List (List Int))):(aU l).ones=true:=by
 simp only [aU,Dt.ones,Dt.cells,List.all_map]
 exact List.all_eq_true.2 fun _ _=>rfl
@[go_sem] theorem aOM (l m:List (List (List Int))):Dt.app 1 (aD []) (aU l) (aU m)=aU (l++m):=by simp [aU,aD,Dt.app,Dt.cells,List.map_append]
end Go.Eng
end
section
namespace Go.Eng
open Go
/-! ### An operation answered by what is known of the frame -/
def HkX (X:Cx) (E:Env) (d:Option Nat) (op:Op) (σ:Ss) (K:Ss→Prop):Prop:=
 ∃foot sv ru nx,(∀w1 U1 ds,Reb X w1 U1 ds→∀o:Oper,o.dst=d→o.op=op→(∀k,d=some k→k<X.n)→yW (X.at w1 U1 ds) E.P o (lk σ.tm) (rsL σ.rs) foot sv ru)∧K (σ.ap d sv ru nx)∧
  ∀i∈foot,i∈bP (rsL σ.rs) (rT op) (op.operands.toList.flatMap fun x=>(σ.opd x).ids)∨i∈ru.map (·.1)
def aMk (X:Cx) (E:Env) (opsA:List Oper) (o:Oper) (σ:Ss) (K:Ss→Prop):Prop:=evO E opsA o σ K∨((o.guard=none∨∃j want g,o.guard=some (j,want)∧dH opsA j=some g∧lk σ.tm g= .v (.bool want))∧aBi o.op=false∧HkX X E o.dst o.op σ K)
def fD (X:Cx) (E:Env) (opsA:List Oper):List Oper→Ss→List (List Nat×List Nat)→(Ss→Prop)→Prop
 |[],σ,acc,K=>gX opsA acc.reverse=true∧K σ
 |o::r,σ,acc,K=>aMk X E opsA o σ fun σ'=>fD X E opsA r σ' ((eB σ o,(σ'.rs.take (σ'.rs.length-σ.rs.length)).map (·.1))::acc) K
section
variable {X:Cx} {E:Env} {w1:World} {U1:Nat→Prop} {ds:List Deferred}
theorem rW (hr:Reb X w1 U1 ds) (hk:E.hk X.c0 X.rs0) {opsA:List Oper} {o:Oper} {σ:Ss} {K:Ss→Prop} (hn:∀o'∈opsA,∀k,o'.dst=some k→k<X.n) (ho:∀k,o.dst=some k→k<X.n) (h:aMk X E opsA o σ K):
  (∃foot sv ru nx,yW (X.at w1 U1 ds) E.P o (lk σ.tm) (rsL σ.rs) foot sv ru∧K (σ.ap o.dst sv ru nx)∧(∀i∈foot,i∈eB σ o∨i∈ru.map (·.1))∧(o.guard=none∨∃j want d,o.guard=some (j,want)∧dH opsA j=some d∧d<X.n∧lk σ.tm d= .v (.bool want)))∨
  (K (σ.ap o.dst (.v undef) [] σ.nx)∧∃j want d v,o.guard=some (j,want)∧dH opsA j=some d∧d<X.n∧lk σ.tm d= .v v∧v≠ .bool want):=by
 rcases h with h|⟨hg,hm,foot,sv,ru,nx,h1,h2,h3⟩
 ·exact vJ (X:=X.at w1 U1 ds) hk hn ho h
 ·have h3:∀i∈foot,i∈eB σ o∨i∈ru.map (·.1):=by unfold eB;rw [hm,if_neg (by decide)];exact h3
  refine .inl ⟨foot,sv,ru,nx,h1 w1 U1 ds hr o rfl rfl ho,h2,h3,?_⟩
  rcases hg with hg|⟨j,want,g,g1,g2,g3⟩
  ·exact .inl hg
  ·refine .inr ⟨j,want,g,g1,g2,?_,g3⟩
   have hd:=g2
   unfold dH at hd
   cases ho':opsA[j]? with
   |none=>rw [ho']at hd;cases hd
   |some o'=>rw [ho']at hd;exact hn o' (List.mem_of_getElem? ho') g hd
theorem nQ (hr:Reb X w1 U1 ds) {opsA:List Oper} {K:Ss→Prop} (hk:E.hk X.c0 X.rs0) (hn:∀o'∈opsA,∀k,o'.dst=some k→k<X.n):∀(l:List Oper) (σ:Ss) (acc:List (List Nat×List Nat)),(∀o∈l,∀k,o.dst=some k→k<X.n)→
  fD X E opsA l σ acc K→∃en τ,Tx (X.at w1 U1 ds) E opsA l σ en τ∧gX opsA (acc.reverse++FU en)=true∧K τ
 |[],σ,acc,_,h=>⟨[],σ,⟨rfl,rfl⟩,by simpa [FU]using h.1,h.2⟩
 |o::l,σ,acc,hl,h=>by
  simp only [fD]at h
  have key:∀(sv:Sv) (ru:List (Nat×Rs)) (nx:Nat),((σ.ap o.dst sv ru nx).rs.take ((σ.ap o.dst sv ru nx).rs.length-σ.rs.length)).map (·.1)=ru.map (·.1):=fun sv ru nx=>by
   simp [Ss.ap]
  rcases rW hr hk hn (hl o (by simp)) h with⟨foot,sv,ru,nx,h1,h2,h3,h4⟩|⟨h2,h4⟩
  ·obtain⟨en,τ,g1,g2,g3⟩:=nQ hr hk hn l _ _ (fun o ho=>hl o (by simp [ho])) h2
   refine⟨⟨sv,ru,eB σ o⟩::en,τ,⟨_,en,nx,rfl, .inl ⟨foot,h1,h3,h4⟩,g1⟩,?_,g3⟩
   rw [key]at g2
   simpa [FU]using g2
  ·obtain⟨en,τ,g1,g2,g3⟩:=nQ hr hk hn l _ _ (fun o ho=>hl o (by simp [ho])) h2
   refine⟨⟨.v undef,[],eB σ o⟩::en,τ,⟨_,en,σ.nx,rfl, .inr ⟨rfl,rfl,h4⟩,g1⟩,?_,g3⟩
   rw [key]at g2
   simpa [FU]using g2
theorem aIW (hr:Reb X w1 U1 ds) {l:List Oper} {id:Nat} {σ:Ss} {K:Ss→Prop} {Q:Exit→Act→World→Prop} (hk:E.hk X.c0 X.rs0) (hm:E.P.follows .mixedOrders=true) (hn:∀o∈l,∀k,o.dst=some k→k<X.n) (h:fD X E l l σ [] K)
  {a:Act} {w:World} (hg:Gam (X.at w1 U1 ds) (lk σ.tm) (rsL σ.rs) a w) (hQ:∀s a' w',Gam (X.at w1 U1 ds) (lk s.tm) (rsL s.rs) a' w'→K s→Q .normal a' w'):(Code.region id l.toArray true).wpIn X.F 0 E.P Q a w:=by
 obtain⟨en,τ,h1,h2,h3⟩:=nQ hr hk hn l σ [] hn h
 refine wpIn_region_any hm ?_
 have hgd:∀j,(Array.replicate l.toArray.size false).getD j false=false:=fun j=>by
  simp only [Array.getD];split<;>simp
 refine aBz (X:=X.at w1 U1 ds) hn h1 (by simpa using h2) (fun a' w' hg'=>hQ τ a' w' hg' h3) _ _ a _ (by simp) ?_ (fun j o _ hd=>by simp only [hgd]at hd;cases hd) ?_
 ·have:∀n D,cnt n D≤n:=by
   intro n D
   induction n with
   |zero=>exact Nat.le_refl _
   |succ n ih=>simp only [cnt];split<;>omega
  simpa using this _ _
 ·have e1:apD (lk σ.tm) (TU l en) 0 (fun j=>(Array.replicate l.toArray.size false).getD j false)=lk σ.tm:=funext fun s=>jA _ _ _ _ _ fun j _ _ _=>hgd _
  have e2:apD (rsL σ.rs) (RU en) 0 (fun j=>(Array.replicate l.toArray.size false).getD j false)=rsL σ.rs:=funext fun s=>jA _ _ _ _ _ fun j _ _ _=>hgd _
  rw [e1,e2]
  exact zS hg
theorem mI {σ:Ss} {Q:Exit→Ss→Prop} {l:List Oper} {id:Nat} (hm:E.P.follows .mixedOrders=true) (hn:l.all (fun o=>o.dst.all (fun k=>decide (k<X.n)))=true) (h:∀K:Ss→Prop,(∀s,Q .normal s→K s)→fD X E l l σ [] K):V X E (.region id l.toArray true) σ Q:=fun hk a w hg=>by
 obtain⟨w1,U1,ds,hr,hg⟩:=hg
 have hn':∀o'∈l,∀k,o'.dst=some k→k<X.n:=fun o ho k hk=>by
  have:=List.all_eq_true.1 hn o ho
  rw [hk]at this
  simpa using this
 exact aIW hr hk hm hn' (h _ fun _ h=>h) hg fun s a' w' hg' hK=>⟨s,⟨w1,U1,ds,hr,hg'⟩,hK⟩
variable {A r:List Oper} {σ:Ss} {K:Ss→Prop} {d:Option Nat} {op:Op} {t:TypeId} {p:String} {af:Array Edge} {j:Nat} {want:Bool} {acc:List (List Nat×List Nat)}
theorem fJ (h1:gX A acc.reverse=true) (h:K σ):fD X E A [] σ acc K:=⟨h1,h⟩
theorem iK (h:∀K':Ss→Prop,(∀s,fD X E A r s ((eB σ ⟨d,op,t,p,af,none⟩,(s.rs.take (s.rs.length-σ.rs.length)).map (·.1))::acc) K→K' s)→jJ E d op σ K'):fD X E A (⟨d,op,t,p,af,none⟩::r) σ acc K:= .inl (h _ fun _ h=>h)
theorem jY {g:Nat} (hs:dH A j=some g) (h:∀K':Ss→Prop,(∀s,fD X E A r s ((eB σ ⟨d,op,t,p,af,some (j,want)⟩,(s.rs.take (s.rs.length-σ.rs.length)).map (·.1))::acc) K→K' s)→iI (lk σ.tm g) want (jJ E d op σ K') (K' (σ.ap d (.v undef) [] σ.nx))):
  fD X E A (⟨d,op,t,p,af,some (j,want)⟩::r) σ acc K:=by
 have h1:=h _ fun _ h=>h
 refine .inl ?_
 simp only [evO,aH3,hs]
 exact h1
end
def RdOk (X:Cx) (R:World→(Nat→Prop)→Prop):Prop:=∀(w:World) (S:Nat→Prop),Agree X.S X.w0 w→(∀b,X.S b→S b)→R w S
end Go.Eng
end
section
namespace Go.Eng
open Go
def VR (X:Cx) (E:Env) (c:Code) (Q:Exit→Ss→Prop):Nat→Ss→Prop
 |0,_=>False
 |n+1,σ=>V X E c σ (nxt (fun t=>VR X E c Q n t) Q)
theorem aI3 {X:Cx} {E:Env} {σ:Ss} {Q:Exit→Ss→Prop} {c:Code} (n:Nat) (h:VR X E c Q n σ):V X E (.loop c) σ Q:=fun hk a w hg=>
 wpIn_loop_ghost (fun m a w=>∃τ:Ss,aLV X (lk τ.tm) (rsL τ.rs) a w∧VR X E c Q m τ) n ⟨σ,hg,h⟩ fun m a w ⟨τ,hg,hv⟩=>by
  cases m with
  |zero=>exact hv.elim
  |succ m=>
   refine wpIn_mono (hv hk a w hg) fun e a' w' ⟨t,h1,h2⟩=>?_
   cases e with
   |normal=>exact⟨m,Nat.lt_succ_self _,t,h1,h2⟩
   |exit i=>exact⟨t,h1,h2⟩
   |goto l=>exact⟨t,h1,h2⟩
   |ret=>exact⟨t,h1,h2⟩
   |panic ch=>exact⟨t,h1,h2⟩
   |outgrown=>exact⟨t,h1,h2⟩
theorem aVw {X:Cx} {E:Env} {c:Code} {σ:Ss} {Q:Exit→Ss→Prop} (h:V X E c σ (nxt (fun t=>VR X E c Q 1 t) Q)):VR X E c Q 2 σ:=h
theorem aVv {X:Cx} {E:Env} {c:Code} {σ:Ss} {Q:Exit→Ss→Prop} (h:V X E c σ (nxt (fun t=>VR X E c Q 0 t) Q)):VR X E c Q 1 σ:=h
@[congr] theorem aQv {X:Cx} {E:Env} {c:Code} {σ τ:Ss} {Q:Exit→Ss→Prop} {n:Nat} (h:Unit→σ=τ):VR X E c Q n σ=VR X E c Q n τ:=by rw [h ()]
/-! ### A region in which some operations are answered by hand -/
def kO (E:Env):List Oper→Ss→(Ss→Prop)→Prop
 |[],σ,K=>K σ
 |o::l,σ,K=>o.guard=none∧(jJ E o.dst o.op σ (fun s=>kO E l s K)∨eM E o.dst o.op σ (fun s=>kO E l s K))
theorem xC {X:Cx} {E:Env} {K:Ss→Prop} (hk:E.hk X.c0 X.rs0) {opsA:List Oper}:∀(l:List Oper) (σ:Ss),(∀o∈l,∀k,o.dst=some k→k<X.n)→kO E l σ K→
  ∀a w (Q:Exit→Act→World→Prop),Gam X (lk σ.tm) (rsL σ.rs) a w→(∀s a' w',Gam X (lk s.tm) (rsL s.rs) a' w'→K s→Q .normal a' w')→wpListIn X.F 0 E.P opsA.toArray Q l a w
 |[],σ,_,h,a,w,Q,hg,hQ=>wpListIn_nil (hQ σ a w hg h)
 |o::l,σ,hl,h,a,w,Q,hg,hQ=>by
  obtain⟨hgd,h⟩:=h
  have ih:=fun(s:Ss) (hs:kO E l s K)=>xC hk (opsA:=opsA) l s (fun o ho=>hl o (by simp [ho])) hs
  have hf:∃foot sv ru nx,yW X E.P o (lk σ.tm) (rsL σ.rs) foot sv ru∧kO E l (σ.ap o.dst sv ru nx) K:=by
   rcases h with h|h
   ·obtain⟨foot,sv,ru,nx,h1,h2,_⟩:=rU (X:=X) hk (hl o (by simp)) h
    exact⟨foot,sv,ru,nx,h1,h2⟩
   ·obtain⟨foot,sv,ru,nx,h1,h2,_⟩:=h
    exact⟨foot,sv,ru,nx,h1 X o hk rfl rfl (hl o (by simp)),h2⟩
  obtain⟨foot,sv,ru,nx,h1,h2⟩:=hf
  have hwant:Region.wanted o (yielded opsA.toArray a.tmps)=true:=by simp [Region.wanted,hgd]
  unfold wpListIn
  rw [if_pos hwant]
  refine h1 _ _ (fun _ _=>rfl) (fun _ _=>rfl) a w _ Q hg fun a' w' hg'=>?_
  refine ih _ h2 a' w' Q ?_ hQ
  rw [tS,nZ];exact hg'
theorem jW {X:Cx} {E:Env} {σ:Ss} {Q:Exit→Ss→Prop} (id:Nat) {l:List Oper} (hn:l.all (fun o=>o.dst.all (fun k=>decide (k<X.n)))=true) (h:∀K:Ss→Prop,(∀s,Q .normal s→K s)→kO E l σ K):V X E (.region id l.toArray false) σ Q:=fun hk a w hg=>by
 obtain⟨w1,U1,ds,hr,hg⟩:=hg
 have hn':∀o'∈l,∀k,o'.dst=some k→k<X.n:=fun o ho k hk=>by
  have:=List.all_eq_true.1 hn o ho
  rw [hk]at this
  simpa using this
 exact wpIn_region_list (xC (X:=X.at w1 U1 ds) hk l σ hn' (h _ fun _ h=>h) a w _ hg fun s a' w' hg' hK=>⟨s,⟨w1,U1,ds,hr,hg'⟩,hK⟩)
section
variable {E:Env} {l:List Oper} {σ:Ss} {K:Ss→Prop} {d:Option Nat} {op:Op} {t:TypeId} {p:String} {af:Array Edge}
theorem tJ (h:K σ):kO E [] σ K:=h
theorem tK (h:jJ E d op σ (fun s=>kO E l s K)):kO E (⟨d,op,t,p,af,none⟩::l) σ K:=⟨rfl, .inl h⟩
theorem fX (h:eM E d op σ (fun s=>kO E l s K)):kO E (⟨d,op,t,p,af,none⟩::l) σ K:=⟨rfl, .inr h⟩
end
end Go.Eng
end
section
namespace Go.Eng
open Go Go.Cats
def Lent (X:Cx) (x:Value) (d:Dt):Prop:=RdV X.w0 X.S d x
theorem Lent.at {X:Cx} {x:Value} {d:Dt} (h:Lent X x d) {w:World} {S:Nat→Prop} (ag:Agree X.S X.w0 w) (hS:∀b,X.S b→S b):RdV w S d x:=RdV.mono hS _ _ (RdV.frame ag _ _ h)
theorem RdOk.at {X:Cx} {w1:World} {U1:Nat→Prop} {ds:List Deferred} (hr:Reb X w1 U1 ds) {R:World→(Nat→Prop)→Prop} (h:RdOk X R):RdOk (X.at w1 U1 ds) R:=fun w S ag hS=>h w S ((hr.agree.mono hr.ssub).trans ag) hS
end Go.Eng
end
