/- Several texts in one: EngLd, EngTk, EngCp. -/
import Derived.Test.YtipohdpnhodnmaaGreatKalx
set_option linter.unusedVariables false
set_option linter.unusedSimpArgs false
section
namespace Go.Eng
open Go
def aXx:Ab:=⟨fun _ _ _=>True,fun _ h=>h⟩
def unD:Dt:= .ab aXx
theorem aPx {w:World} {R:Nat→Prop} {u:Value} (h:u.oneCell'=true):RdV w R unD u:=by
 unfold unD
 simp only [RdV]
 exact⟨h,fun _=>False,fun _ h=>h.elim,trivial⟩
def kR (V:List Nat) (rs:Nat→Rs):List Sv→List Dt→Prop
 |[],ds=>ds=[]
 |s::l,ds=>∃d r,ds=d::r∧((d=unD∧s.one=true)∨s.view0 V rs d)∧kR V rs l r
theorem aBV {V:List Nat} {rs:Nat→Rs}:kR V rs [] []:=rfl
theorem iP {V:List Nat} {rs:Nat→Rs} {s:Sv} {l:List Sv} {r:List Dt} (h:s.one=true) (k:kR V rs l r):kR V rs (s::l) (unD::r):=⟨_,_,rfl, .inl ⟨rfl,h⟩,k⟩
theorem aLu {V:List Nat} {rs:Nat→Rs} {s:Sv} {d:Dt} {l:List Sv} {r:List Dt} (h:s.view0 V rs d) (k:kR V rs l r):kR V rs (s::l) (d::r):=⟨_,_,rfl, .inr h,k⟩
theorem aEA {V:List Nat} {rs:Nat→Rs} {i:Nat} {d:Dt} {l:List Sv} {r:List Dt} (h:i∈V) (h2:(rs i).k= .arr d) (k:kR V rs l r):kR V rs (.sl i::l) (d::r):=⟨_,_,rfl, .inr ⟨h,h2⟩,k⟩
theorem aAJ {w w0:World} {U S:Nat→Prop} {c:Nat→Cn} {rs:Nat→Rs} {V:List Nat} (hp:Hp w0 U S c rs w):∀{l:List Sv} {ds:List Dt} {us:List Value},kR V rs l ds→Sv.okL w S c rs l us→RdL w (SV S c V) ds us
 |[],ds,us,h,k=>by simp [kR]at h;simp [Sv.okL]at k;subst h;subst k;simp [RdL]
 |s::l,ds,us,h,k=>by
  simp only [kR]at h
  simp only [Sv.okL]at k
  obtain⟨d,r,rfl,h1,h2⟩:=h
  obtain⟨x,q,rfl,k1,k2⟩:=k
  simp only [RdL]
  refine⟨x,q,rfl,?_,aAJ hp h2 k2⟩
  rcases h1 with⟨rfl,h1⟩|h1
  ·exact aPx (Sv.one_ok hp.one h1 k1)
  ·exact aAI hp h1 k1
end Go.Eng
end
section
namespace Go.Eng
open Go Go.Cats
def wL (n:Nat) (R:List (List Int)):Dt:= .sl 1 (.sl 1 (.v (.int .i64 0)) []) (List.replicate n unD++R.map ints)
@[go_sem] theorem aTw (n R):(wL n R).isSl=true:=rfl
@[go_sem] theorem aXy (n R):(wL n R).sz=1:=rfl
@[go_sem] theorem aPy (n:Nat) (R:List (List Int)):(wL n R).nc=n+R.length:=by simp [wL,Dt.nc,Dt.cells]
@[go_sem] theorem aVH (n:Nat) (R:List (List Int)):(wL n R).len=n+R.length:=by simp [wL,Dt.len,Dt.sz,Dt.nc,Dt.cells]
theorem aLl (L:List (List Int)):wL 0 L=aC L:=rfl
theorem aLk {n:Nat} {r:List Int} {R:List (List Int)}:(wL n (r::R)).at n=ints r:=by
 simp [wL,Dt.at,Dt.cells,List.getD_eq_getElem?_getD]
theorem aNc {n:Nat} {r:List Int} {R:List (List Int)}:(List.replicate n unD++(r::R).map ints).set n unD=List.replicate (n+1) unD++R.map ints:=by
 rw [List.set_append_right _ _ (by simp),List.length_replicate,Nat.sub_self,List.map_cons,List.set_cons_zero,List.replicate_succ',List.append_assoc];rfl
theorem Imp.forget {X:Cx} {tm:List (Nat×Sv)} {rs:List (Nat×Rs)} {nx:Nat} (i k n cv sz:Nat) (df:Dt) (cs:List Dt) (hi:rsL rs i=⟨cv, .hol (.sl sz df cs) [(k, .sl n)]⟩) (hkk:k<cs.length):
  Imp X ⟨tm,rs,nx⟩ ⟨tm,(i,⟨cv, .arr (.sl sz df (cs.set k unD))⟩)::rs,nx⟩:=by
 rintro w1 U1 ds a w ⟨hd,hn,c,hp,ht,hpin⟩
 have h0:=hp.res i
 rw [hi]at h0
 obtain⟨sz',df',cs',m,cap,cur,e,q0,q1,e1,e2,e3,e4,e5,e6,e7,e8⟩:=h0
 cases q0
 have hk0:(cur.toList.take cs.length)[k]? =some (c n).hdr:=by
  have key:∀(ds:List Dt) (p j:Nat) (F:Nat→Prop) (vs:List Value),j<ds.length→OwH w X.S c (rsL rs) [(p+j, .sl n)] F p ds vs→vs[j]? =some (c n).hdr:=by
   intro ds
   induction ds with
   |nil=>intro p j F vs hj;simp at hj
   |cons d ds ih=>
    intro p j F vs hj h
    simp only [OwH]at h
    cases j with
    |zero=>
     simp only [hlk,Nat.add_zero,if_true]at h
     obtain⟨x,r,rfl,h2,_⟩:=h
     simp only [Sv.ok]at h2
     simp [h2.2]
    |succ j=>
     simp only [hlk,show¬p=p+(j+1) by omega,if_false]at h
     obtain⟨x,r,F1,F2,rfl,_,_,_,_,h3⟩:=h
     rw [List.getElem?_cons_succ]
     exact ih (p+1) j F2 r (by simpa using hj) (by rw [show p+1+j=p+(j+1) by omega];exact h3)
  exact key cs 0 k _ _ hkk (by rw [Nat.zero_add];exact e8)
 have hf:=OwH.fill (G:=fun _=>False) (t:=unD) (u:=(c n).hdr) cs 0 k _ _ hkk (fun _ _ h=>h) (by
  unfold unD
  simp only [OwV]
  exact⟨hp.one n,fun _=>False,fun _ h=>h.elim,trivial⟩) (by rw [Nat.zero_add];exact e8)
 have hset:(cur.toList.take cs.length).set k (c n).hdr=cur.toList.take cs.length:=by
  apply List.ext_getElem?
  intro j
  rw [List.getElem?_set]
  split
  ·rename_i hj
   subst hj
   split
   ·exact hk0.symm
   ·rename_i hge
    rw [List.getElem?_eq_none (by omega)]
  ·rfl
 rw [hset]at hf
 obtain⟨hp',hext⟩:=tY (rs:=rsL rs) hp i (.arr (.sl sz df (cs.set k unD))) (fun _=>by rw [hi];trivial) (by
  refine⟨?_,fun a m' k' h=>?_⟩
  ·simp only [OwV]
   refine⟨q1, .inr ⟨(c i).blk,m,cap,cur,e,e1,by rw [List.length_set];exact e2,e3,e4,e5,e6,e7,?_⟩⟩
   rw [List.length_set]
   exact OwL.mono (fun b hb=>hb.elim id fun h=>h.elim) _ _ hf
  ·rw [e1]at h
   simp at h
   exact h.1.symm)
 rw [hi]at hp' hext
 refine⟨hd,hn,c,hp',fun s=>Sv.ok_ext hext _ _ (ht s),fun l hl=>?_⟩
 obtain⟨r1,r2,r3⟩:=hpin l hl
 exact⟨Nat.le_trans r1 (hext.ver l),r2,r3⟩
theorem Imp.forgetU {X:Cx} {tm:List (Nat×Sv)} {rs:List (Nat×Rs)} {nx:Nat} (i n j cv:Nat) (r:List Int) (R:List (List Int)) (hi:rsL rs i=⟨cv, .hol (wL n (r::R)) [(n, .sl j)]⟩):
  Imp X ⟨tm,rs,nx⟩ ⟨tm,(i,⟨cv, .arr (wL (n+1) R)⟩)::rs,nx⟩:=by
 have h:=Imp.forget (X:=X) (tm:=tm) (rs:=rs) (nx:=nx) i n j cv 1 _ _ hi (by simp)
 rw [aNc]at h
 exact h
end Go.Eng
end
section
namespace Go.Eng
open Go
theorem oZ {V:List Nat} {rs rs0:Nat→Rs} (hv:∀i∈V,rs i=rs0 i):∀{l:List Sv} {ds:List Dt},kR V rs0 l ds→kR V rs l ds
 |[],ds,h=>h
 |s::l,ds,h=>by
  obtain⟨d,r,e,h1,h2⟩:=h
  refine⟨d,r,e,?_,oZ hv h2⟩
  rcases h1 with h1|h1
  ·exact .inl h1
  ·refine .inr ?_
   have tv:∀ts:List (Nat×Nat),gI rs0 ts→(∀p∈ts,p.1∈V)→gI rs ts:=fun ts h k p hp=>by
    rw [hv _ (k p hp)];exact h p hp
   cases s with
   |v x=>exact h1
   |bor ts d'=>exact⟨h1.1,tv _ h1.2.1 h1.2.2,h1.2.2⟩
   |bptr ts ds'=>
    obtain⟨ds,a,b,c,d⟩:=h1
    exact⟨ds,a,b,tv _ c d,d⟩
   |sl i=>exact⟨h1.1,by rw [hv i h1.1];exact h1.2⟩
   |_=>exact h1.elim
theorem aHQ {V:List Nat} {rs0:Nat→Rs} {i cv:Nat} {cells:List Sv} {ds:List Dt} (hi:rs0 i=⟨cv, .box cells⟩) (hV:i∈V) (hv:kR V rs0 (cells.take ds.length) ds):aA5 V rs0 (.ptr i 0) (.bptr [] ds):=fun w0 w U S c c' rs u hh ha h=>by
 simp only [Sv.ok]at h⊢
 obtain⟨_,rfl⟩:=h
 have r1:=hh.res i
 rw [ha i hV,hi]at r1
 obtain⟨b1,cur1,q1,b2,b3⟩:=r1
 refine⟨fun p hp=>(nomatch hp),rfl,fun _=>?_⟩
 have g1:=aAJ hh (oZ ha hv) (by have:=Sv.okL.slice cells cur1.toList 0 ds.length b3;simpa using this)
 refine⟨(c i).blk,0,_,rfl,fun _=> .inl (.inr ⟨i,hV,b1⟩),RdL.mono (fun b hb=> .inl hb) _ _ g1,fun l z hz=>?_⟩
 rw [List.getElem?_take]at hz
 split at hz
 ·simp [World.cell?,b2];simpa using hz
 ·cases hz
theorem aHR {V:List Nat} {rs0:Nat→Rs} {i m cv cw:Nat} {cells:List Sv} {ds:List Dt} (hi:rs0 i=⟨cv, .box [.ptr m 0]⟩) (hm:rs0 m=⟨cw, .box cells⟩) (hV:i∈V) (hW:m∈V) (hv:kR V rs0 (cells.take ds.length) ds):aA5 V rs0 (.ptr i 0) (.bptr [] [.pt ds]):=fun w0 w U S c c' rs u hh ha h=>by
 simp only [Sv.ok]at h⊢
 obtain⟨_,rfl⟩:=h
 have r1:=hh.res i
 rw [ha i hV,hi]at r1
 obtain⟨b1,cur1,q1,b2,b3⟩:=r1
 have r2:=hh.res m
 rw [ha m hW,hm]at r2
 obtain⟨d1,cur2,q2,d2,d3⟩:=r2
 refine⟨fun p hp=>(nomatch hp),rfl,fun _=>?_⟩
 simp only [Sv.okL]at b3
 obtain⟨y,r,b4,b5,rfl⟩:=b3
 simp only [Sv.ok]at b5
 have hreg:∀b,SV S c V b→Reg (SV S c V) c' [] b:=fun b hb=> .inl hb
 refine⟨(c i).blk,0,[y],rfl,fun _=>hreg _ (.inr ⟨i,hV,b1⟩),?_,fun l z hz=>?_⟩
 ·simp only [RdL]
  refine⟨y,[],rfl,?_,rfl⟩
  simp only [RdV]
  have g1:=aAJ hh (oZ ha hv) (by have:=Sv.okL.slice cells cur2.toList 0 ds.length d3;simpa using this)
  refine⟨(c m).blk,0,_,b5.2,fun _=>hreg _ (.inr ⟨m,hW,d1⟩),RdL.mono hreg _ _ g1,fun l z hz=>?_⟩
  rw [List.getElem?_take]at hz
  split at hz
  ·simp [World.cell?,d2];simpa using hz
  ·cases hz
 ·have hz':cur1.toList[l]? =some z:=by rw [b4];exact hz
  simp [World.cell?,b2];simpa using hz'
theorem HkX.callC {X:Cx} {E:Env} {d:Option Nat} {x:Operand} {args:Array Operand} {tys:Array TypeId} {σ:Ss} {K:Ss→Prop} {f:FuncId} {caps es:List Sv} {v:Value}
  (hs:Spec E.P f es [] (.v v) []) (hc:aF E.P f) (V:List Nat) (hx:σ.opd x= .fn f caps) (hva:∀i∈V,1≤(rsL σ.rs i).cv) (hfo:∀i∈V,i∈bL (rsL σ.rs) 3 ((Sv.fn f caps).ids++(args.toList.map σ.opd).flatMap Sv.ids)) (hm:ShowsL V (rsL σ.rs) (args.toList.map σ.opd++caps) es)
  (hK:K (σ.ap d (.v v) [] σ.nx)):HkX X E d (.call {callee:= .value x,args:=args,argTypes:=tys}) σ K:=by
 refine⟨V,_,_,_,fun w1 U1 ds hr o hd ho hdn tm rs g1 g2=>?_,hK,fun i hi=> .inl ?_⟩
 rotate_left
 ·have:=hfo i hi
  rw [←hx]at this
  simpa [qQ,Op.operands,Call.operands,List.flatMap_map]using this
 have hx':opd tm x=σ.opd x:=g1 x (by simp [ho,Op.operands,Call.operands])
 have hargs:args.toList.map (opd tm)=args.toList.map σ.opd:=List.map_congr_left fun y hy=>g1 y (by
  simp only [ho,Op.operands,Call.operands]
  simp at hy⊢
  exact .inr hy)
 have hco:CallOk rs [] [] V:=⟨List.nodup_nil,List.nodup_nil,fun _ _ h=>(nomatch h),fun i hi=>by rw [g2 i hi];exact hva i hi,fun _ _=>rfl,fun k hk=>absurd (show 1≤0 from hk) (by decide),fun p hp=>(nomatch hp)⟩
 refine SStep0.inn ?_
 rintro a w K' Q ⟨hd',hn,c,hp,ht,hpin⟩ hK'
 have hopd:=fun z=>bX (X:=X.at w1 U1 ds) (rs:=rs) (tm:=tm) (a:=a) (w:=w) (c:=c) ht z
 have hx1:=hopd x
 rw [hx',hx]at hx1
 simp only [Sv.ok]at hx1
 obtain⟨cvs,hx1,hx2⟩:=hx1
 have hl:=pJ hopd args.toList
 rw [hargs]at hl
 have hcall:=hs w _ _ _ _ (oF hp hco) (ShowsL.ok _ hp g2 _ _ _ hm (hl.append hx2))
 unfold Oper.wp
 have hrun:(execOp a.eval o).run E.P w= .ok (.enter f (args.toList.map a.eval++cvs).toArray) w:=by
  simp [execOp,ho,resolve,Deferred.ofValue,hx1,invoke,jG hc]
 rw [hrun]
 refine hcall.mono fun e w' hh=>?_
 obtain⟨v',c1,rfl,hp1,hv,hpin1⟩:=hh
 obtain⟨c2,hp2,hx2',hren⟩:=mB hp hco c1 hp1 hpin1
 rw [hd]at hK'
 refine hK' _ _ (by
  rw [hd]
  exact bO (X:=X.at w1 U1 ds) hd' hn ht hpin hx2' hp2 hdn (sv:= .v v) (by simpa [Sv.ok]using hv))
theorem HkX.bsl {X:Cx} {E:Env} {d:Option Nat} {t e:TypeId} {len esz eby:Nat} {ez:List Value} {parts:Array (Nat×Operand)} {σ:Ss} {K:Ss→Prop} (hk:(E.ti t).k= .sli e esz eby ez) (hlim:len*esz≤16777216) (hpt:parts.toList.map (·.1)=List.range len)
  (hc:(parts.toList.map (·.2)).all (fun x=>(σ.opd x).cells.length==esz&&(σ.opd x).cells.all Sv.one)=true) (hfr:σ.get σ.nx=⟨0, .gone⟩) (hK:K (σ.ap d (.bsl σ.nx len) [(σ.nx,⟨1, .box ((parts.toList.map (·.2)).flatMap fun x=>(σ.opd x).cells)⟩)] (σ.nx+1))):
  HkX X E d (.buildSlice t len parts) σ K:=by
 refine⟨[σ.nx],_,_,_,fun w1 U1 ds hr o hd ho hdn tm rs g1 g2=>?_,hK,fun i hi=> .inr (by simpa using hi)⟩
 have hxs:∀x∈parts.toList.map (·.2),opd tm x=σ.opd x:=fun x hx=>g1 x (by simpa [ho,Op.operands]using hx)
 have hc':(parts.toList.map (·.2)).all (fun x=>(opd tm x).cells.length==esz&&(opd tm x).cells.all Sv.one)=true:=by
  rw [List.all_eq_true]at hc⊢
  intro x hx
  rw [hxs x hx];exact hc x hx
 have hf:((parts.toList.map (·.2)).flatMap fun x=>(opd tm x).cells)=((parts.toList.map (·.2)).flatMap fun x=>(σ.opd x).cells):=by
  rw [List.flatMap_def,List.flatMap_def]
  congr 1
  exact List.map_congr_left fun x hx=>by rw [hxs x hx]
 have:=lN (X:=X.at w1 U1 ds) (E:=E) (tm:=tm) (rs:=rs) (by rw [hd];exact hdn) t len parts ho hpt e esz eby ez hk hlim hc' σ.nx ((g2 _ (by simp)).trans hfr)
 rw [hf]at this
 exact this
end Go.Eng
end
