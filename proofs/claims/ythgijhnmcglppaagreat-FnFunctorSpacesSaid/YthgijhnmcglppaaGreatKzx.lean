/- Several texts in one: EngLd, EngCp, EngMr. -/
import Derived.Test.YthgijhnmcglppaaGreatKalx
import Derived.Maps.Range
import Derived.Maps.Views
import Derived.StringKeys
import Derived.Laws.Small
import Derived.Laws.Strings
import Derived.WideShapes
set_option linter.unusedVariables false
set_option linter.unusedSimpArgs false
section
namespace Go.Eng
open Go
def bAr:Ab:=⟨fun _ _ _=>True,fun _ h=>h⟩
def unD:Dt:= .ab bAr
theorem aRV {w:World} {R:Nat→Prop} {u:Value} (h:u.oneCell'=true):RdV w R unD u:=by
 unfold unD
 simp only [RdV]
 exact⟨h,fun _=>False,fun _ h=>h.elim,trivial⟩
def lU (V:List Nat) (rs:Nat→Rs):List Sv→List Dt→Prop
 |[],ds=>ds=[]
 |s::l,ds=>∃d r,ds=d::r∧((d=unD∧s.one=true)∨s.view0 V rs d)∧lU V rs l r
theorem aDO {V:List Nat} {rs:Nat→Rs}:lU V rs [] []:=rfl
theorem kU {V:List Nat} {rs:Nat→Rs} {s:Sv} {l:List Sv} {r:List Dt} (h:s.one=true) (k:lU V rs l r):lU V rs (s::l) (unD::r):=⟨_,_,rfl, .inl ⟨rfl,h⟩,k⟩
theorem aNN {V:List Nat} {rs:Nat→Rs} {s:Sv} {d:Dt} {l:List Sv} {r:List Dt} (h:s.view0 V rs d) (k:lU V rs l r):lU V rs (s::l) (d::r):=⟨_,_,rfl, .inr h,k⟩
theorem aGC {V:List Nat} {rs:Nat→Rs} {i:Nat} {d:Dt} {l:List Sv} {r:List Dt} (h:i∈V) (h2:(rs i).k= .arr d) (k:lU V rs l r):lU V rs (.sl i::l) (d::r):=⟨_,_,rfl, .inr ⟨h,h2⟩,k⟩
theorem aCj {w w0:World} {U S:Nat→Prop} {c:Nat→Cn} {rs:Nat→Rs} {V:List Nat} (hp:Hp w0 U S c rs w):∀{l:List Sv} {ds:List Dt} {us:List Value},lU V rs l ds→Sv.okL w S c rs l us→RdL w (SV S c V) ds us
 |[],ds,us,h,k=>by simp [lU]at h;simp [Sv.okL]at k;subst h;subst k;simp [RdL]
 |s::l,ds,us,h,k=>by
  simp only [lU]at h
  simp only [Sv.okL]at k
  obtain⟨d,r,rfl,h1,h2⟩:=h
  obtain⟨x,q,rfl,k1,k2⟩:=k
  simp only [RdL]
  refine⟨x,q,rfl,?_,aCj hp h2 k2⟩
  rcases h1 with⟨rfl,h1⟩|h1
  ·exact aRV (Sv.one_ok hp.one h1 k1)
  ·exact aCi hp h1 k1
end Go.Eng
end
section
namespace Go.Eng
open Go
theorem rZ {V:List Nat} {rs rs0:Nat→Rs} (hv:∀i∈V,rs i=rs0 i):∀{l:List Sv} {ds:List Dt},lU V rs0 l ds→lU V rs l ds
 |[],ds,h=>h
 |s::l,ds,h=>by
  obtain⟨d,r,e,h1,h2⟩:=h
  refine⟨d,r,e,?_,rZ hv h2⟩
  rcases h1 with h1|h1
  ·exact .inl h1
  ·refine .inr ?_
   have tv:∀ts:List (Nat×Nat),gV rs0 ts→(∀p∈ts,p.1∈V)→gV rs ts:=fun ts h k p hp=>by
    rw [hv _ (k p hp)];exact h p hp
   cases s with
   |v x=>exact h1
   |bor ts d'=>exact⟨h1.1,tv _ h1.2.1 h1.2.2,h1.2.2⟩
   |bptr ts ds'=>
    obtain⟨ds,a,b,c,d⟩:=h1
    exact⟨ds,a,b,tv _ c d,d⟩
   |sl i=>exact⟨h1.1,by rw [hv i h1.1];exact h1.2⟩
   |_=>exact h1.elim
theorem aJ8 {V:List Nat} {rs0:Nat→Rs} {i cv:Nat} {cells:List Sv} {ds:List Dt} (hi:rs0 i=⟨cv, .box cells⟩) (hV:i∈V) (hv:lU V rs0 (cells.take ds.length) ds):aCN V rs0 (.ptr i 0) (.bptr [] ds):=fun w0 w U S c c' rs u hh ha h=>by
 simp only [Sv.ok]at h⊢
 obtain⟨_,rfl⟩:=h
 have r1:=hh.res i
 rw [ha i hV,hi]at r1
 obtain⟨b1,cur1,q1,b2,b3⟩:=r1
 refine⟨fun p hp=>(nomatch hp),rfl,fun _=>?_⟩
 have g1:=aCj hh (rZ ha hv) (by have:=Sv.okL.slice cells cur1.toList 0 ds.length b3;simpa using this)
 refine⟨(c i).blk,0,_,rfl,fun _=> .inl (.inr ⟨i,hV,b1⟩),RdL.mono (fun b hb=> .inl hb) _ _ g1,fun l z hz=>?_⟩
 rw [List.getElem?_take]at hz
 split at hz
 ·simp [World.cell?,b2];simpa using hz
 ·cases hz
theorem aJ9 {V:List Nat} {rs0:Nat→Rs} {i m cv cw:Nat} {cells:List Sv} {ds:List Dt} (hi:rs0 i=⟨cv, .box [.ptr m 0]⟩) (hm:rs0 m=⟨cw, .box cells⟩) (hV:i∈V) (hW:m∈V) (hv:lU V rs0 (cells.take ds.length) ds):aCN V rs0 (.ptr i 0) (.bptr [] [.pt ds]):=fun w0 w U S c c' rs u hh ha h=>by
 simp only [Sv.ok]at h⊢
 obtain⟨_,rfl⟩:=h
 have r1:=hh.res i
 rw [ha i hV,hi]at r1
 obtain⟨b1,cur1,q1,b2,b3⟩:=r1
 have r2:=hh.res m
 rw [ha m hW,hm]at r2
 obtain⟨d1,cur2,q2,d2,d3⟩:=r2
 refine⟨fun p hp=>(nomatch hp),rfl,fun _=>?_⟩
 simp only [Sv.okL]at b3
 obtain⟨y,r,b4,b5,rfl⟩:=b3
 simp only [Sv.ok]at b5
 have hreg:∀b,SV S c V b→Reg (SV S c V) c' [] b:=fun b hb=> .inl hb
 refine⟨(c i).blk,0,[y],rfl,fun _=>hreg _ (.inr ⟨i,hV,b1⟩),?_,fun l z hz=>?_⟩
 ·simp only [RdL]
  refine⟨y,[],rfl,?_,rfl⟩
  simp only [RdV]
  have g1:=aCj hh (rZ ha hv) (by have:=Sv.okL.slice cells cur2.toList 0 ds.length d3;simpa using this)
  refine⟨(c m).blk,0,_,b5.2,fun _=>hreg _ (.inr ⟨m,hW,d1⟩),RdL.mono hreg _ _ g1,fun l z hz=>?_⟩
  rw [List.getElem?_take]at hz
  split at hz
  ·simp [World.cell?,d2];simpa using hz
  ·cases hz
 ·have hz':cur1.toList[l]? =some z:=by rw [b4];exact hz
  simp [World.cell?,b2];simpa using hz'
theorem HkX.callC {X:Cx} {E:Env} {d:Option Nat} {x:Operand} {args:Array Operand} {tys:Array TypeId} {σ:Ss} {K:Ss→Prop} {f:FuncId} {caps es:List Sv} {v:Value}
  (hs:Spec E.P f es [] (.v v) []) (hc:aE E.P f) (V:List Nat) (hx:σ.opd x= .fn f caps) (hva:∀i∈V,1≤(rsL σ.rs i).cv) (hfo:∀i∈V,i∈bW (rsL σ.rs) 3 ((Sv.fn f caps).ids++(args.toList.map σ.opd).flatMap Sv.ids)) (hm:ShowsL V (rsL σ.rs) (args.toList.map σ.opd++caps) es)
  (hK:K (σ.ap d (.v v) [] σ.nx)):HkX X E d (.call {callee:= .value x,args:=args,argTypes:=tys}) σ K:=by
 refine⟨V,_,_,_,fun w1 U1 ds hr o hd ho hdn tm rs g1 g2=>?_,hK,fun i hi=> .inl ?_⟩
 rotate_left
 ·have:=hfo i hi
  rw [←hx]at this
  simpa [tY,Op.operands,Call.operands,List.flatMap_map]using this
 have hx':opd tm x=σ.opd x:=g1 x (by simp [ho,Op.operands,Call.operands])
 have hargs:args.toList.map (opd tm)=args.toList.map σ.opd:=List.map_congr_left fun y hy=>g1 y (by
  simp only [ho,Op.operands,Call.operands]
  simp at hy⊢
  exact .inr hy)
 have hco:CallOk rs [] [] V:=⟨List.nodup_nil,List.nodup_nil,fun _ _ h=>(nomatch h),fun i hi=>by rw [g2 i hi];exact hva i hi,fun _ _=>rfl,fun k hk=>absurd (show 1≤0 from hk) (by decide),fun p hp=>(nomatch hp)⟩
 refine SStep0.inn ?_
 rintro a w K' Q ⟨hd',hn,c,hp,ht,hpin⟩ hK'
 have hopd:=fun z=>bQ (X:=X.at w1 U1 ds) (rs:=rs) (tm:=tm) (a:=a) (w:=w) (c:=c) ht z
 have hx1:=hopd x
 rw [hx',hx]at hx1
 simp only [Sv.ok]at hx1
 obtain⟨cvs,hx1,hx2⟩:=hx1
 have hl:=wO hopd args.toList
 rw [hargs]at hl
 have hcall:=hs w _ _ _ _ (vO hp hco) (ShowsL.ok _ hp g2 _ _ _ hm (hl.append hx2))
 unfold Oper.wp
 have hrun:(execOp a.eval o).run E.P w= .ok (.enter f (args.toList.map a.eval++cvs).toArray) w:=by
  simp [execOp,ho,resolve,Deferred.ofValue,hx1,invoke,oN hc]
 rw [hrun]
 refine hcall.mono fun e w' hh=>?_
 obtain⟨v',c1,rfl,hp1,hv,hpin1⟩:=hh
 obtain⟨c2,hp2,hx2',hren⟩:=sC hp hco c1 hp1 hpin1
 rw [hd]at hK'
 refine hK' _ _ (by
  rw [hd]
  exact bP (X:=X.at w1 U1 ds) hd' hn ht hpin hx2' hp2 hdn (sv:= .v v) (by simpa [Sv.ok]using hv))
theorem HkX.bsl {X:Cx} {E:Env} {d:Option Nat} {t e:TypeId} {len esz eby:Nat} {ez:List Value} {parts:Array (Nat×Operand)} {σ:Ss} {K:Ss→Prop} (hk:(E.ti t).k= .sli e esz eby ez) (hlim:len*esz≤16777216) (hpt:parts.toList.map (·.1)=List.range len)
  (hc:(parts.toList.map (·.2)).all (fun x=>(σ.opd x).cells.length==esz&&(σ.opd x).cells.all Sv.one)=true) (hfr:σ.get σ.nx=⟨0, .gone⟩) (hK:K (σ.ap d (.bsl σ.nx len) [(σ.nx,⟨1, .box ((parts.toList.map (·.2)).flatMap fun x=>(σ.opd x).cells)⟩)] (σ.nx+1))):
  HkX X E d (.buildSlice t len parts) σ K:=by
 refine⟨[σ.nx],_,_,_,fun w1 U1 ds hr o hd ho hdn tm rs g1 g2=>?_,hK,fun i hi=> .inr (by simpa using hi)⟩
 have hxs:∀x∈parts.toList.map (·.2),opd tm x=σ.opd x:=fun x hx=>g1 x (by simpa [ho,Op.operands]using hx)
 have hc':(parts.toList.map (·.2)).all (fun x=>(opd tm x).cells.length==esz&&(opd tm x).cells.all Sv.one)=true:=by
  rw [List.all_eq_true]at hc⊢
  intro x hx
  rw [hxs x hx];exact hc x hx
 have hf:((parts.toList.map (·.2)).flatMap fun x=>(opd tm x).cells)=((parts.toList.map (·.2)).flatMap fun x=>(σ.opd x).cells):=by
  rw [List.flatMap_def,List.flatMap_def]
  congr 1
  exact List.map_congr_left fun x hx=>by rw [hxs x hx]
 have:=mN (X:=X.at w1 U1 ds) (E:=E) (tm:=tm) (rs:=rs) (by rw [hd];exact hdn) t len parts ho hpt e esz eby ez hk hlim hc' σ.nx ((g2 _ (by simp)).trans hfr)
 rw [hf]at this
 exact this
end Go.Eng
end
section
namespace Go.Eng
open Go Go.Maps Go.RowKit Go.WideMaps
def aOL (P:Program) (k e:TypeId) (n:Nat) (D:DataW Unit) (mv:Value):Ab:=
 ⟨fun w v F=>v=mv∧∃b,mv= .map (some b)∧F b∧w.ownsMap P k (plainElem P e) b n D,by
  rintro w w' v F ag ⟨h0,b,h1,h2,es,clock,h3,h4⟩
  exact⟨h0,b,h1,h2,es,clock,(ag b h2).trans h3,h4⟩⟩
theorem wU {P:Program} {k:TypeId} {R:Value→Option (DataW Unit×List MemPlace)} {w w':World} {b r n cnt:Nat} {D:DataW Unit} {left:Lit→Bool} (hb:w'.heap[b]? =w.heap[b]?) (hr:w'.heap[r]? =w.heap[r]?) (h:w.ranges P k R b r n D left cnt):w'.ranges P k R b r n D left cnt:=by
 obtain⟨es,clock,since,seen,c0,h1,h2,h3,h4,h5,rest⟩:=h
 exact⟨es,clock,since,seen,c0,hb.trans h1,h2,h3,h4,hr.trans h5,rest⟩
def tE (P:Program) (k e:TypeId) (n:Nat) (mv:Value) (W:Lit) (z:Int) (φ:Nat→Prop):Ab:=
 ⟨fun w v F=>∃(b r:Nat) (D:DataW Unit) (left:Lit→Bool) (cnt:Nat),mv= .map (some b)∧v= .pointer (some ⟨r,0,none⟩)∧F b∧F r∧D.atKey W (.lit (.int .i64 0))= .lit (.int .i64 z)∧φ cnt∧w.ranges P k (plainElem P e) b r n D left cnt,by
  rintro w w' v F ag ⟨b,r,D,left,cnt,h1,h2,h3,h4,h5,h6,h7⟩
  exact⟨b,r,D,left,cnt,h1,h2,h3,h4,h5,h6,wU (ag b h3) (ag r h4) h7⟩⟩
def aJa (P:Program) (k e:TypeId) (n:Nat) (mv:Value) (W:Lit) (z:Int) (m:Nat) (σs:ByteArray→Prop):Ab:=
 ⟨fun w v F=>∃(b r:Nat) (D:DataW Unit) (left:Lit→Bool) (cnt:Nat) (s:ByteArray) (val:Value),mv= .map (some b)∧v= .pointer (some ⟨r,0,none⟩)∧F b∧F r∧D.atKey W (.lit (.int .i64 0))= .lit (.int .i64 z)∧cnt≤m∧w.ranges P k (plainElem P e) b r n D left cnt∧σs s∧s.size≤maxLen∧
   ∀w2:World,w2.heap[b]? =w.heap[b]?→w2.heap[r]? =w.heap[r]?→(Instr.entry (.pointer (some ⟨r,0,none⟩))).run P w2= .ok (.tuple #[.string s,val]) w2,by
  rintro w w' v F ag ⟨b,r,D,left,cnt,s,val,h1,h2,h3,h4,h5,h6,h7,h8,h9,h10⟩
  exact⟨b,r,D,left,cnt,s,val,h1,h2,h3,h4,h5,h6,wU (ag b h3) (ag r h4) h7,h8,h9,fun w2 e1 e2=>h10 w2 (e1.trans (ag b h3)) (e2.trans (ag r h4))⟩⟩
theorem qF {p:Ab} {w:World} {F:Nat→Prop} {u:Value} (h:OwV w F (.ab p) u):∃F',(∀b,F' b→F b)∧p.p w u F':=by
 simp only [OwV]at h
 exact⟨h.2.choose,h.2.choose_spec.1,h.2.choose_spec.2⟩
theorem yZ {p:Ab} {w:World} {F:Nat→Prop} {u:Value} (h1:u.oneCell'=true) (h:p.p w u F):OwV w F (.ab p) u:=by
 simp only [OwV]
 exact⟨h1,F,fun _ h=>h,h⟩
theorem oS {X:Cx} {σ:Ss} {a:Act} {w:World} {c:Nat→Cn} (j:Nat) {k:Rk} (hcv:1≤(rsL σ.rs j).cv) (hd:a.defers=X.ds) (hn:a.tmps.size=X.n) (hp:Hp X.w0 X.U X.S c (rsL σ.rs) w) (ht:∀s,(lk σ.tm s).ok w X.S c (rsL σ.rs) (a.tmps.getD s undef))
  (hpin:∀i,1≤(X.rs0 i).cv→1≤(rsL σ.rs i).cv∧(c i).blk=(X.c0 i).blk∧(c i).hdr=(X.c0 i).hdr) (hk:k.ok w X.S c (upd (rsL σ.rs) j ⟨(rsL σ.rs j).cv+1,k⟩) (c j)):Gam X (lk σ.tm) (rsL ((j,⟨(rsL σ.rs j).cv+1,k⟩)::σ.rs)) a w:=by
 obtain⟨hp',hext⟩:=dW (X:=X) (w':=w) hp j hcv ((rsL σ.rs j).cv+1) (Nat.lt_succ_self _) k rfl rfl rfl rfl (Agree.refl _ _) (fun _=>hk)
 have e:upd (rsL σ.rs) j ⟨(rsL σ.rs j).cv+1,k⟩=rsL ((j,(⟨(rsL σ.rs j).cv+1,k⟩:Rs))::σ.rs):=rfl
 rw [e]at hp' hext
 refine⟨hd,hn,c,hp',fun s=>Sv.ok_ext hext _ _ (ht s),fun l hl=>?_⟩
 obtain⟨r1,r2,r3⟩:=hpin l hl
 exact⟨Nat.le_trans r1 (hext.ver l),r2,r3⟩
section
variable {X:Cx} {E:Env} {c:Code} {σ:Ss} {Q:Exit→Ss→Prop} {k e:TypeId} {n:Nat} {D:DataW Unit} {mv:Value} {W:Lit} {z:Int}
theorem aNX {P:Program} (s i cv:Nat) (hk:lk σ.tm s= .sl i) (hi:rsL σ.rs i=⟨cv, .arr (mapD P k e n D)⟩) (hcv:1≤cv)
  (h:∀mv,V X E c ⟨(s, .v mv)::σ.tm,(i,⟨cv+1, .arr (.ab (aOL P k e n D mv))⟩)::σ.rs,σ.nx⟩ Q):V X E c σ Q:=by
 intro hE a w ⟨w1,U1,ds,hr,hd,hn,cn,hp,ht,hpin⟩
 have hres:=hp.res i
 rw [hi]at hres
 obtain⟨b,hb1,hb2,hown⟩:=aBj hres.1
 have hs:=ht s
 rw [hk]at hs
 simp only [Sv.ok]at hs
 have hg:=oS (X:=X.at w1 U1 ds) (σ:=σ) (k:= .arr (.ab (aOL P k e n D (cn i).hdr))) i (by rw [hi];exact hcv) hd hn hp ht hpin ⟨yZ (hp.one i) ⟨rfl,b,hb1,hb2,hown⟩,fun _ _ _ q=>by rw [hb1]at q;cases q⟩
 rw [hi]at hg
 obtain⟨g1,g2,c2,g3,g4,g5⟩:=hg
 refine h (cn i).hdr hE a w ⟨w1,U1,ds,hr,g1,g2,c2,g3,fun t=>?_,g5⟩
 by_cases q:t=s
 ·subst q
  show Sv.ok _ _ _ _ (lk ((t,_)::σ.tm) t) _
  simp only [lk,if_pos,Sv.ok]
  exact hs.2
 ·show Sv.ok _ _ _ _ (lk ((s,_)::σ.tm) t) _
  simp only [lk,if_neg q]
  exact g4 t
theorem aNZ {P:Program} (j cv m:Nat) (hj:rsL σ.rs j=⟨cv, .arr (.ab (tE P k e n mv W z (·≤m)))⟩) (hcv:1≤cv)
  (hA:V X E c ⟨σ.tm,(j,⟨cv+1, .arr (.ab (tE P k e n mv W z (· =0)))⟩)::σ.rs,σ.nx⟩ Q)
  (hB:∀m',m=m'+1→V X E c ⟨σ.tm,(j,⟨cv+1, .arr (.ab (tE P k e n mv W z (fun c=>1≤c∧c≤m'+1)))⟩)::σ.rs,σ.nx⟩ Q):V X E c σ Q:=by
 intro hE a w ⟨w1,U1,ds,hr,hd,hn,cn,hp,ht,hpin⟩
 have hres:=hp.res j
 rw [hj]at hres
 obtain⟨h1,h2⟩:=hres
 obtain⟨F',hF,b,r,D',left,cnt,q1,q2,q3,q4,q5,q6,q7⟩:=qF h1
 by_cases h0:cnt=0
 ·have hg:=oS (X:=X.at w1 U1 ds) (σ:=σ) (k:= .arr (.ab (tE P k e n mv W z (· =0)))) j (by rw [hj];exact hcv) hd hn hp ht hpin ⟨yZ (hp.one j) ⟨b,r,D',left,cnt,q1,q2,hF b q3,hF r q4,q5,h0,q7⟩,h2⟩
  rw [hj]at hg
  exact hA hE a w ⟨w1,U1,ds,hr,hg⟩
 ·have q6':cnt≤m:=q6
  obtain⟨m',rfl⟩:∃m',m=m'+1:=⟨m-1,by omega⟩
  have hg:=oS (X:=X.at w1 U1 ds) (σ:=σ) (k:= .arr (.ab (tE P k e n mv W z (fun c=>1≤c∧c≤m'+1)))) j (by rw [hj];exact hcv) hd hn hp ht hpin ⟨yZ (hp.one j) ⟨b,r,D',left,cnt,q1,q2,hF b q3,hF r q4,q5,⟨by omega,q6'⟩,q7⟩,h2⟩
  rw [hj]at hg
  exact hB m' rfl hE a w ⟨w1,U1,ds,hr,hg⟩
theorem aNY {P:Program} (j cv m:Nat) (hj:rsL σ.rs j=⟨cv, .arr (.ab (aJa P k e n mv W z m fun _=>True))⟩) (hcv:1≤cv)
  (h:∀s:ByteArray,s.size≤maxLen→V X E c ⟨σ.tm,(j,⟨cv+1, .arr (.ab (aJa P k e n mv W z m (· =s)))⟩)::σ.rs,σ.nx⟩ Q):V X E c σ Q:=by
 intro hE a w ⟨w1,U1,ds,hr,hd,hn,cn,hp,ht,hpin⟩
 have hres:=hp.res j
 rw [hj]at hres
 obtain⟨h1,h2⟩:=hres
 obtain⟨F',hF,b,r,D',left,cnt,s,val,q1,q2,q3,q4,q5,q6,q7,q8,q9,q10⟩:=qF h1
 have hg:=oS (X:=X.at w1 U1 ds) (σ:=σ) (k:= .arr (.ab (aJa P k e n mv W z m (· =s)))) j (by rw [hj];exact hcv) hd hn hp ht hpin ⟨yZ (hp.one j) ⟨b,r,D',left,cnt,s,val,q1,q2,hF b q3,hF r q4,q5,q6,q7,rfl,q9,q10⟩,h2⟩
 rw [hj]at hg
 exact h s q9 hE a w ⟨w1,U1,ds,hr,hg⟩
end
section
variable {E:Env} {d:Option Nat} {σ:Ss} {K:Ss→Prop} {k e:TypeId} {n cv i j m:Nat} {D:DataW Unit} {mv:Value} {W:Lit} {z:Int} {x:Operand} {φ:Nat→Prop}
theorem aHa {t:TypeId} (hT:MapT E.P t k e) (hx:σ.opd x= .v mv) (hi:σ.get i=⟨cv, .arr (.ab (aOL E.P k e n D mv))⟩) (hf:σ.get σ.nx=⟨0, .gone⟩) (hni:σ.nx≠i) (hz:D.atKey W (.lit (.int .i64 0))= .lit (.int .i64 z)) (hs:Maps.size D≤m)
  (hK:K (σ.ap d (.sl σ.nx) [(σ.nx,⟨1, .arr (.ab (tE E.P k e n mv W z (·≤m)))⟩),(i,⟨cv, .gone⟩)] (σ.nx+1))):bY E d (.range t x) σ K:=by
 refine⟨[σ.nx,i],_,[(σ.nx,_),(i,_)],_,fun X o _ hd ho hdn tm rs h1 h2=>?_,hK,fun l hl=> .inr (by simpa using hl)⟩
 have hu:rs σ.nx=⟨0, .gone⟩:=(h2 _ (by simp)).trans hf
 have hr:rs i=⟨cv, .arr (.ab (aOL E.P k e n D mv))⟩:=(h2 _ (by simp)).trans hi
 have ex:opd tm x=σ.opd x:=h1 x (by rw [ho];simp [Op.operands])
 refine SStep0.inn ?_
 rintro a w K Q ⟨hdf,hn,c,hp,ht,hpin⟩ hK
 have hx1:=bQ ht x
 rw [ex,hx]at hx1
 simp only [Sv.ok]at hx1
 have hres:=hp.res i
 rw [hr]at hres
 obtain⟨F',hF,q0,b,q1,q2,hown⟩:=qF hres.1
 obtain⟨w',hrun,hrg,hg,hsz⟩:=hown.range (t:=t) (string_keyed hT.key) hT.und
 obtain⟨hp',hext⟩:=pU (X:=X) hp σ.nx ⟨w.heap.size, .pointer (some ⟨w.heap.size,0,none⟩),fun y=>(c i).fp y∨y=w.heap.size⟩ 1 (.arr (.ab (tE E.P k e n mv W z (·≤m)))) [i] (by simpa using hni) (by rw [hu];exact Nat.one_pos) (.inl hu) hg.os hg.tape hg.output hg.size (fun y hy=>hg.block y hy.1 (by simp))
  (fun y hy=>hy.elim (fun h=> .inr (.inl ⟨i,by simp,h⟩)) (fun h=> .inr (.inr ⟨by omega,by omega⟩))) rfl (fun _=>⟨yZ rfl ⟨b,_,_,_,_,q1,rfl, .inl (hF b q2), .inr rfl,hz,hs,hrg⟩,fun _ _ _ q=>by cases q⟩)
 have eg:bV rs [i]=[(i,(⟨cv, .gone⟩:Rs))]:=by simp [bV,hr]
 rw [eg]at hp' hext
 unfold Oper.wp
 have hrun2:(execOp a.eval o).run E.P w= .ok (.value (.pointer (some ⟨w.heap.size,0,none⟩))) w':=by
  simp [execOp,ho,hx1,q1,hrun]
 rw [hrun2]
 refine hK _ _ (bP hdf hn ht hpin hext hp' (by rw [hd];exact hdn) ?_)
 simp [Sv.ok,cnU,upd_same]
theorem aG8 (hx:σ.opd x= .sl j) (hj:σ.get j=⟨cv, .arr (.ab (tE E.P k e n mv W z φ))⟩) (hk:E.P.underlying k=some .string) (hφ:∀c,φ c→c=0)
  (hK:K (σ.ap d (.tup [.v (.bool false)]) [] σ.nx)):bY E d (.next x false) σ K:=by
 refine⟨[j],_,[],_,fun X o _ hd ho hdn tm rs h1 h2=>?_,hK,fun l hl=> .inl ?_⟩
 ·have hr:=(h2 j (by simp)).trans hj
  have ex:opd tm x=σ.opd x:=h1 x (by rw [ho];simp [Op.operands])
  refine aW (E:=E) (by rw [hd];exact hdn) fun a w c hp h=>?_
  have hx1:=h x
  rw [ex,hx]at hx1
  simp only [Sv.ok]at hx1
  have hres:=hp.res j
  rw [hr]at hres
  obtain⟨F',hF,b,r,D',left,cnt,q1,q2,q3,q4,q5,q6,q7⟩:=qF hres.1
  rcases q7.next (string_keyed hk) o.type with⟨_,_,hrun⟩|⟨_,_,_,_,_,cnt',_,_,_,_,_,_,hlt,_⟩
  ·exact⟨.tuple #[.bool false],by simp [execOp,ho,hx1.2,q2,hrun],by simp [Sv.ok,Sv.okL]⟩
  ·have:=hφ _ q6;omega
 ·simp only [List.mem_singleton]at hl
  subst hl
  exact iB (by simp [Op.operands,hx,Sv.ids])
theorem aG9 (hx:σ.opd x= .sl j) (hj:σ.get j=⟨cv, .arr (.ab (tE E.P k e n mv W z φ))⟩) (hk:E.P.underlying k=some .string) (hφ:∀c,φ c→1≤c∧c≤m+1)
  (hK:K (σ.ap d (.tup [.v (.bool true), .dead, .dead]) [(j,⟨cv+1, .arr (.ab (aJa E.P k e n mv W z m fun _=>True))⟩)] σ.nx)):bY E d (.next x false) σ K:=by
 refine⟨[j],_,_,_,fun X o _ hd ho hdn tm rs h1 h2=>?_,hK,fun l hl=> .inr (by simpa using hl)⟩
 have hr:=(h2 j (by simp)).trans hj
 have ex:opd tm x=σ.opd x:=h1 x (by rw [ho];simp [Op.operands])
 refine SStep0.inn ?_
 rintro a w K Q ⟨hdf,hn,c,hp,ht,hpin⟩ hK
 have hx1:=bQ ht x
 rw [ex,hx]at hx1
 simp only [Sv.ok]at hx1
 have hres:=hp.res j
 rw [hr]at hres
 obtain⟨F',hF,b,r,D',left,cnt,q1,q2,q3,q4,q5,q6,q7⟩:=qF hres.1
 rcases q7.next (string_keyed hk) o.type with⟨h0,_,_⟩|⟨key,v,kl,y,w',cnt',hkey,_,_,_,hrun,hrg,hlt,hg,hsz,hen⟩
 ·have:=hφ _ q6;omega
 ·have hc:=hφ _ q6
  obtain⟨s,rfl⟩:∃s,key= .string s:=by
   cases key<;>simp [keyOf,hk,mapKey]at hkey
   exact⟨_,rfl⟩
  have hsl:s.size≤maxLen:=by
   have hk2:=hkey
   simp [keyOf,hk,mapKey]at hk2
   exact hk2.1
  have hent:∀w2:World,w2.heap[b]? =w'.heap[b]?→w2.heap[r]? =w'.heap[r]?→(Instr.entry (.pointer (some ⟨r,0,none⟩))).run E.P w2= .ok (.tuple #[.string s,v]) w2:=fun w2 e1 e2=>by
   obtain⟨es,clock,since,seen,c0,g1,_,_,_,g5,_⟩:=hrg
   rw [g1]at e1
   rw [g5]at e2
   cases hq:seen.back? with
   |none=>simp [Instr.entry,getObj,Sem.run_bind,Sem.run,Result.andThen,g5,hq,stuck]at hen
   |some st=>
    by_cases hc:clock=c0
    ·subst hc
     cases hf:es.find? (fun x=>x.born==st)with
     |none=>simp [Instr.entry,getObj,Sem.run_bind,Sem.run,Result.andThen,g5,g1,hq,hf,unsupported]at hen
     |some x=>
      simp [Instr.entry,getObj,Sem.run_bind,Sem.run,Result.andThen,g5,g1,hq,hf]at hen
      simp [Instr.entry,getObj,Sem.run_bind,Sem.run,Result.andThen,e1,e2,hq,hf,hen]
    ·simp [Instr.entry,getObj,Sem.run_bind,Sem.run,Result.andThen,g5,g1,hq,hc,unsupported]at hen
  have hag:Agree (fun y=>¬(c j).fp y) w w':=fun y hy=>by
   by_cases hlt2:y<w.heap.size
   ·exact hg.block y hlt2 (fun q=>hy (by injection q with q;rw [q];exact hF r q4))
   ·rw [Array.getElem?_eq_none (by omega),Array.getElem?_eq_none (by omega)]
  obtain⟨hp',hext⟩:=dW (X:=X) (w':=w') hp j hx1.1 (cv+1) (by rw [hr];exact Nat.lt_succ_self _) (.arr (.ab (aJa E.P k e n mv W z m fun _=>True))) hg.os hg.tape hg.output hsz hag
   (fun _=>⟨yZ (hp.one j) ⟨b,r,D',_,cnt',s,v,q1,q2,hF b q3,hF r q4,q5,by omega,hrg,trivial,hsl,hent⟩,hres.2⟩)
  unfold Oper.wp
  have hrun2:(execOp a.eval o).run E.P w= .ok (.value (.tuple #[.bool true, .string s,v])) w':=by
   simp [execOp,ho,hx1.2,q2,hrun]
  rw [hrun2]
  exact hK _ _ (bP hdf hn ht hpin hext hp' (by rw [hd];exact hdn) (by simp only [Sv.ok,Sv.okL];exact⟨_,rfl,_,_,rfl,rfl,_,_,rfl,trivial,_,_,rfl,trivial,rfl⟩))
theorem aG7 {s:ByteArray} (hx:σ.opd x= .sl j) (hj:σ.get j=⟨cv, .arr (.ab (aJa E.P k e n mv W z m (· =s)))⟩)
  (hK:K (σ.ap d (.tup [.v (.string s), .dead]) [(j,⟨cv+1, .arr (.ab (tE E.P k e n mv W z (·≤m)))⟩)] σ.nx)):bY E d (.entry x) σ K:=by
 refine⟨[j],_,_,_,fun X o _ hd ho hdn tm rs h1 h2=>?_,hK,fun l hl=> .inr (by simpa using hl)⟩
 have hr:=(h2 j (by simp)).trans hj
 have ex:opd tm x=σ.opd x:=h1 x (by rw [ho];simp [Op.operands])
 refine SStep0.inn ?_
 rintro a w K Q ⟨hdf,hn,c,hp,ht,hpin⟩ hK
 have hx1:=bQ ht x
 rw [ex,hx]at hx1
 simp only [Sv.ok]at hx1
 have hres:=hp.res j
 rw [hr]at hres
 obtain⟨F',hF,b,r,D',left,cnt,s',val,q1,q2,q3,q4,q5,q6,q7,rfl,q9,q10⟩:=qF hres.1
 obtain⟨hp',hext⟩:=dW (X:=X) (w':=w) hp j hx1.1 (cv+1) (by rw [hr];exact Nat.lt_succ_self _) (.arr (.ab (tE E.P k e n mv W z (·≤m)))) rfl rfl rfl rfl (Agree.refl _ _)
  (fun _=>⟨yZ (hp.one j) ⟨b,r,D',left,cnt,q1,q2,hF b q3,hF r q4,q5,q6,q7⟩,hres.2⟩)
 unfold Oper.wp
 have hrun2:(execOp a.eval o).run E.P w= .ok (.value (.tuple #[.string s',val])) w:=by
  simp [execOp,ho,hx1.2,q2,q10 w rfl rfl]
 rw [hrun2]
 exact hK _ _ (bP hdf hn ht hpin hext hp' (by rw [hd];exact hdn) (by simp only [Sv.ok,Sv.okL];exact⟨_,rfl,_,_,rfl,rfl,_,_,rfl,trivial,rfl⟩))
theorem aFw {t:TypeId} {y:Operand} {s:ByteArray} (hT:MapT E.P t k e) (hx:σ.opd x= .v mv) (hy:σ.opd y= .v (.string s)) (hs:s.size≤maxLen) (hj:σ.get j=⟨cv, .arr (.ab (tE E.P k e n mv W z (·≤m)))⟩) (hcv:1≤cv) (hne:W≠ .string s.data.toList)
  (hK:K (σ.ap d .dead [(j,⟨cv+1, .arr (.ab (tE E.P k e n mv W z (·≤m)))⟩)] σ.nx)):bY E d (.call {callee:= .builtin .delete,args:= #[x,y],argTypes:= #[t,k]}) σ K:=by
 refine⟨[j],_,_,_,fun X o _ hd ho hdn tm rs h1 h2=>?_,hK,fun l hl=> .inr (by simpa using hl)⟩
 have hr:=(h2 j (by simp)).trans hj
 have ex:opd tm x=σ.opd x:=h1 x (by rw [ho];simp [Op.operands,Call.operands])
 have ey:opd tm y=σ.opd y:=h1 y (by rw [ho];simp [Op.operands,Call.operands])
 refine SStep0.inn ?_
 rintro a w K Q ⟨hdf,hn,c,hp,ht,hpin⟩ hK
 have hx1:=bQ ht x
 have hy1:=bQ ht y
 rw [ex,hx]at hx1
 rw [ey,hy]at hy1
 simp only [Sv.ok]at hx1 hy1
 have hres:=hp.res j
 rw [hr]at hres
 obtain⟨F',hF,b,r,D',left,cnt,q1,q2,q3,q4,q5,q6,q7⟩:=qF hres.1
 obtain⟨w',cnt',hrun,hrg,hle,hturn⟩:=q7.drop (string_keyed hT.key) hT.und (keyOf_string_mk hT.key hs) o.type
 have hg:=hturn.grown
 have hsz:w'.heap.size=w.heap.size:=by
  obtain⟨es,clock,es',clock',_,rfl⟩:=hturn
  simp [Go.ChangeMaps.setBlock]
 have hag:Agree (fun y=>¬(c j).fp y) w w':=fun y hy=>by
  by_cases hlt2:y<w.heap.size
  ·exact hg.block y hlt2 (fun q=>hy (by injection q with q;rw [q];exact hF b q3))
  ·rw [Array.getElem?_eq_none (by omega),Array.getElem?_eq_none (by omega)]
 have q6':cnt≤m:=q6
 obtain⟨hp',hext⟩:=dW (X:=X) (w':=w') hp j (by rw [hr];exact hcv) (cv+1) (by rw [hr];exact Nat.lt_succ_self _) (.arr (.ab (tE E.P k e n mv W z (·≤m)))) hg.os hg.tape hg.output hsz hag
  (fun _=>⟨yZ (hp.one j) ⟨b,r,_,_,cnt',q1,q2,hF b q3,hF r q4,(atKey_del_other hne _).trans q5,by show cnt'≤m;omega,hrg⟩,hres.2⟩)
 unfold Oper.wp
 have hrun2:(execOp a.eval o).run E.P w= .ok (.value (.tuple #[])) w':=by
  simp [execOp,ho,resolve,invoke,builtin,hx1,hy1,q1,hrun]
 rw [hrun2]
 exact hK _ _ (bP hdf hn ht hpin hext hp' (by rw [hd];exact hdn) (by simp [Sv.ok]))
theorem aCs {t:TypeId} {y:Operand} {s:ByteArray} (hT:MapT E.P t k e) (hx:σ.opd x= .v mv) (hy:σ.opd y= .v (.string s)) (hs:s.size≤maxLen) (hj:σ.get j=⟨cv, .arr (.ab (tE E.P k e n mv W z φ))⟩) (hW:W= .string s.data.toList)
  (hK:K (σ.ap d (iv z) [(j,⟨cv+1, .gone⟩)] σ.nx)) (hcv:1≤cv):bY E d (.lookup t x y false) σ K:=by
 refine⟨[j],_,_,_,fun X o _ hd ho hdn tm rs h1 h2=>?_,hK,fun l hl=> .inr (by simpa using hl)⟩
 have hr:=(h2 j (by simp)).trans hj
 have ex:opd tm x=σ.opd x:=h1 x (by rw [ho];simp [Op.operands])
 have ey:opd tm y=σ.opd y:=h1 y (by rw [ho];simp [Op.operands])
 refine SStep0.inn ?_
 rintro a w K Q ⟨hdf,hn,c,hp,ht,hpin⟩ hK
 have hx1:=bQ ht x
 have hy1:=bQ ht y
 rw [ex,hx]at hx1
 rw [ey,hy]at hy1
 simp only [Sv.ok]at hx1 hy1
 have hres:=hp.res j
 rw [hr]at hres
 obtain⟨F',hF,b,r,D',left,cnt,q1,q2,q3,q4,q5,q6,q7⟩:=qF hres.1
 obtain⟨c',hrun,hat,_⟩:=q7.owns.lookup_int (t:=t) (string_keyed hT.key) hT.und hT.el (hT.z w) (keyOf_string_mk hT.key hs)
 rw [←hW,q5]at hat
 have hc:z=c':=by injection hat with h;injection h
 subst hc
 obtain⟨hp',hext⟩:=pU (X:=X) (w':=w) hp j ⟨(c j).blk,(c j).hdr,fun _=>False⟩ (cv+1) .gone [] (by simp) (by rw [hr];exact Nat.lt_succ_self _) (.inr ⟨rfl,rfl⟩) rfl rfl rfl (Nat.le_refl _) (Agree.refl _ _) (fun b hb=>hb.elim) (hp.one j) (fun _=>fun b hb=>hb)
 unfold Oper.wp
 have hrun2:(execOp a.eval o).run E.P w= .ok (.value (.int .i64 z)) w:=by
  simp [execOp,ho,hx1,hy1,q1,hrun]
 rw [hrun2]
 exact hK _ _ (bP hdf hn ht hpin hext hp' (by rw [hd];exact hdn) (by simp [Sv.ok]))
end
theorem aI1 (a b:ByteArray):(a.toList==b.toList)=decide (a=b):=by
 rw [ByteArray.toList_eq,ByteArray.toList_eq]
 by_cases h:a=b
 ·subst h;simp
 ·rw [decide_eq_false h]
  exact beq_false_of_ne fun q=>h (Go.WideShapes.bytes_inj q)
theorem HkX.nes {X:Cx} {E:Env} {d:Option Nat} {t u:TypeId} {x y:Operand} {σ:Ss} {K:Ss→Prop} {a b:ByteArray} (ht:E.P.underlying t=some .string) (hx:σ.opd x= .v (.string a)) (hy:σ.opd y= .v (.string b))
  (hK:K (σ.ap d (.v (.bool (!decide (a=b)))) [] σ.nx)):HkX X E d (.binOp .neq t x y u) σ K:=by
 refine⟨[],_,[],_,fun w1 U1 ds _ o hd ho hdn tm rs h1 h2=>?_,hK,fun i hi=>by simp at hi⟩
 refine cD (E:=E) (by rw [hd];exact hdn) _ fun ac w c hp h=>?_
 have hx1:=h x
 have hy1:=h y
 have ex:opd tm x=σ.opd x:=h1 x (by rw [ho];simp [Op.operands])
 have ey:opd tm y=σ.opd y:=h1 y (by rw [ho];simp [Op.operands])
 rw [ex,hx]at hx1
 rw [ey,hy]at hy1
 simp only [Sv.ok]at hx1 hy1
 simp [execOp,ho,hx1,hy1,eqGuard,binOp,Op.stringOp,aI1]
end Go.Eng
end
