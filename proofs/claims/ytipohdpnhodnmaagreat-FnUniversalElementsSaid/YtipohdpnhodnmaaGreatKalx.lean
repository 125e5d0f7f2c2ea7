/- Several texts in one: EngFt, EngBg. -/
import Derived.Test.YtipohdpnhodnmaaGreatKuy
set_option linter.unusedVariables false
set_option linter.unusedSimpArgs false
section
namespace Go.Eng
open Go Go.Cats
section
variable {E:Env} {dst:Option Nat} {σ:Ss} {K:Ss→Prop}
end
end Go.Eng
end
section
namespace Go.Eng
open Go
/-! ### The lists with their headers -/
abbrev Zs:=List (Value×List Int)
def aVP (Z:Zs):Ab:=⟨fun w _ F=>OwL w F (Z.map fun p=>ints p.2) (Z.map (·.1)),by rintro w w' v F ag h;exact OwL.frame ag _ _ h⟩
def mP (Z:Zs):Dt:= .ab (aVP Z)
def cD (ys:List Value):Dt:= .sl 1 (.sl 1 (.v (.int .i64 0)) []) (ys.map Dt.v)
@[go_sem] theorem aPd (l):(cD l).isSl=true:=rfl
@[go_sem] theorem aRT (l):(cD l).sz=1:=rfl
@[go_sem] theorem aRS (l:List Value):(cD l).nc=l.length:=by simp [cD,Dt.nc,Dt.cells]
@[go_sem] theorem aQn (l:List Value):(cD l).len=l.length:=by simp [cD,Dt.len,Dt.sz,Dt.nc,Dt.cells]
@[go_sem] theorem aOR (ts) (l:List Value):Sv.ofDt ts (cD l)= .bor ts (cD l):=rfl
@[go_sem] theorem aQq (l:List Value) (k:Nat) (x:Value):(cD l).put k (.v x)=cD (l.set k x):=by simp [cD,Dt.put,Dt.cells,Dt.sz,Dt.df,List.map_set]
@[go_sem] theorem aPc (l:List Value):(cD l).flat=true:=by simp [cD,Dt.flat,Dt.cells,Dt.isV]
@[go_sem] theorem aBB (l m:List Value):Dt.app 1 (.sl 1 (.v (.int .i64 0)) []) (cD l) (cD m)=cD (l++m):=by simp [cD,Dt.app,Dt.cells]
theorem aKw {l:List Value} {k:Nat} (h:k<l.length) (u:Value):(cD l).at k= .v (l.getD k u):=by
 simp [cD,Dt.at,Dt.cells,Dt.df,List.getD_eq_getElem?_getD,h]
@[go_sem] theorem aPa (l m:List Value):Dt.app 1 (ints []) (cD l) (cD m)=cD (l++m):=aBB l m
@[go_sem] theorem aPb (m:List Value):Dt.app 1 (ints []) (aC []) (cD m)=cD m:=aBB [] m
@[go_sem] theorem aQp (x:Value):Dt.sl 1 (ints []) [.v x]=cD [x]:=rfl
@[go_sem] theorem aQo:cD []=aC []:=rfl
theorem aNp (l:List Value):(l.map Dt.v).all Dt.isV=true:=by simp [Dt.isV]
theorem xB {w:World}:∀{Z:Zs} {F:Nat→Prop},OwL w F (Z.map fun p=>ints p.2) (Z.map (·.1))→∀p∈Z,∃G:Nat→Prop,(∀b,G b→F b)∧OwV w G (ints p.2) p.1
 |[],_,_,p,hp=>by cases hp
 |q::Z,F,h,p,hp=>by
  simp only [List.map_cons,OwL,List.cons.injEq]at h
  obtain⟨x,r,F1,F2,⟨rfl,rfl⟩,f1,f2,f3,h1,h2⟩:=h
  rcases List.mem_cons.1 hp with rfl|hp
  ·exact⟨F1,f1,h1⟩
  ·obtain⟨G,g1,g2⟩:=xB h2 p hp
   exact⟨G,fun b hb=>f2 b (g1 b hb),g2⟩
theorem aEF {w:World} {F:Nat→Prop} {u:Value} {Z:Zs} (h:OwV w F (mP Z) u) {p:Value×List Int} (hp:p∈Z):RdV w F (ints p.2) p.1:=by
 simp only [mP,OwV]at h
 obtain⟨_,F',f1,h⟩:=h
 obtain⟨G,g1,g2⟩:=xB h p hp
 exact RdV.mono (fun b hb=>f1 b (g1 b hb)) _ _ (OwV.rd _ _ g2)
/-! ### To the lists told apart, and back -/
section
variable {X:Cx} {E:Env} {c:Code} {σ:Ss} {Q:Exit→Ss→Prop}
theorem aQB (i cv:Nat) (L:List (List Int)) (hi:rsL σ.rs i=⟨cv, .arr (aC L)⟩) (hcv:1≤cv) (hf:rsL σ.rs σ.nx=⟨0, .gone⟩)
  (h:∀Z:Zs,Z.map (·.2)=L→(∀p∈Z,p.1.oneCell'=true)→V X E c ⟨σ.tm,(i,⟨cv+1, .arr (cD (Z.map (·.1)))⟩)::(σ.nx,⟨1, .arr (mP Z)⟩)::σ.rs,σ.nx+1⟩ Q):V X E c σ Q:=by
 intro hE a w ⟨w1,U1,ds,hr,hd,hn,cn,hp,ht,hpin⟩
 have hij:i≠σ.nx:=fun e=>by rw [e,hf]at hi;cases hi
 have hres:=hp.res i
 rw [hi]at hres
 obtain⟨h1,h2⟩:=hres
 have key:∃(Z:Zs) (G:Nat→Prop),Z.map (·.2)=L∧(∀p∈Z,p.1.oneCell'=true)∧(∀b,G b→(cn i).fp b)∧OwL w G (Z.map fun p=>ints p.2) (Z.map (·.1))∧OwV w (fun b=>(cn i).fp b∧¬G b) (cD (Z.map (·.1))) (cn i).hdr:=by
  unfold aC at h1
  simp only [OwV]at h1
  obtain⟨_,⟨e1,e2⟩|⟨g,n,cap,cur,e,e1,e2,e3,e4,e5,e6,e7,e8⟩⟩:=h1
  ·have hL:L=[]:=by simpa using e2
   subst hL
   exact⟨[],fun _=>False,rfl,(fun p hp=>by cases hp),(fun _ h=>False.elim h),by simp [OwL],by simp [cD,OwV,e1]⟩
  ·have hlen:=OwL.length e8
   have hml:(L.map ints).length=L.length:=List.length_map ..
   have hz1:((cur.toList.take (L.map ints).length).zip L).map (·.2)=L:=by
    rw [List.map_snd_zip];omega
   have hz2:((cur.toList.take (L.map ints).length).zip L).map (·.1)=cur.toList.take (L.map ints).length:=by
    rw [List.map_fst_zip];omega
   have hz3:(((cur.toList.take (L.map ints).length).zip L).map fun p=>ints p.2)=L.map ints:=by
    have:(((cur.toList.take (L.map ints).length).zip L).map fun p=>ints p.2)=(((cur.toList.take (L.map ints).length).zip L).map (·.2)).map ints:=by rw [List.map_map];rfl
    rw [this,hz1]
   refine⟨(cur.toList.take (L.map ints).length).zip L,fun b=>(cn i).fp b∧b≠g,hz1,fun p hp=>?_,fun b hb=>hb.1,by rw [hz2,hz3];exact e8,?_⟩
   ·have h8:OwL w (fun b=>(cn i).fp b∧b≠g) (((cur.toList.take (L.map ints).length).zip L).map fun p=>ints p.2) (((cur.toList.take (L.map ints).length).zip L).map (·.1)):=by rw [hz2,hz3];exact e8
    obtain⟨G,_,g2⟩:=xB h8 p hp
    exact rN rfl (OwV.rd _ _ g2)
   ·rw [hz2]
    simp only [cD,OwV]
    have hl2:((cur.toList.take (L.map ints).length).map Dt.v).length=(L.map ints).length:=(List.length_map ..).trans hlen
    refine⟨Nat.one_pos, .inr ⟨g,n,cap,cur,e,e1,e2.trans hl2.symm,e3,e4,⟨e5,fun q=>q.2 rfl⟩,e6,e7,?_⟩⟩
    refine(OwL.flat (aNp _)).2 ?_
    rw [hl2,List.map_map]
    simp [Function.comp_def,Dt.val]
 obtain⟨Z,G,z1,z2,z3,z4,z5⟩:=key
 obtain⟨c',q1,q2,hp',hext⟩:=uH (X:=X.at w1 U1 ds) hp i σ.nx hij hf (cv+1) (by rw [hi];exact Nat.lt_succ_self _) (.arr (cD (Z.map (·.1)))) (.arr (mP Z)) ⟨0, .int .i64 0,G⟩ z3 rfl (fun hx'=>by
  refine⟨⟨z5,h2⟩,⟨?_,fun _ _ _ h=>by cases h⟩⟩
  simp only [mP,OwV]
  exact⟨rfl,G,fun _ h=>h,z4⟩)
 refine h Z z1 z2 hE a w ⟨w1,U1,ds,hr,hd,hn,c',hp',fun s=>Sv.ok_ext hext _ _ (ht s),fun l hl=>?_⟩
 obtain⟨r1,r2,r3⟩:=hpin l hl
 obtain⟨r4,r5⟩:=hext.cn l r1
 exact⟨Nat.le_trans r1 (hext.ver l),r4.trans r2,r5.trans r3⟩
theorem aJ4 {w:World} {Z Y:Zs} (h:Z.Perm Y):∀{F:Nat→Prop},OwL w F (Z.map fun p=>ints p.2) (Z.map (·.1))→OwL w F (Y.map fun p=>ints p.2) (Y.map (·.1)):=by
 induction h with
 |nil=>exact fun h=>h
 |cons p _ ih=>
  intro F h
  simp only [List.map_cons,OwL,List.cons.injEq]at h⊢
  obtain⟨x,r,F1,F2,⟨rfl,rfl⟩,f1,f2,f3,h1,h2⟩:=h
  exact⟨_,_,F1,F2,⟨rfl,rfl⟩,f1,f2,f3,h1,ih h2⟩
 |swap p q l=>
  intro F h
  simp only [List.map_cons,OwL,List.cons.injEq]at h⊢
  obtain⟨x,r,F1,F2,⟨rfl,rfl⟩,f1,f2,f3,h1,y,r',G1,G2,⟨rfl,rfl⟩,g1,g2,g3,h2,h3⟩:=h
  refine⟨_,_,G1,fun b=>F1 b∨G2 b,⟨rfl,rfl⟩,fun b hb=>f2 b (g1 b hb),fun b hb=>hb.elim (f1 b) (fun hb=>f2 b (g2 b hb)),fun b hb hb2=>hb2.elim (fun h=>f3 b h (g1 b hb)) (g3 b hb),h2,_,_,F1,G2,rfl,fun b hb=> .inl hb,fun b hb=> .inr hb,fun b h4 h5=>f3 b h4 (g2 b h5),h1,h3⟩
 |trans _ _ ih1 ih2=>exact fun h=>ih2 (ih1 h)
end
/-! ### Headers and their lists, shown to a callee -/
def aA5 (V:List Nat) (rs0:Nat→Rs) (s e:Sv):Prop:=∀(w0 w:World) (U S:Nat→Prop) (c c':Nat→Cn) (rs:Nat→Rs) (u:Value),Hp w0 U S c rs w→(∀i∈V,rs i=rs0 i)→s.ok w S c rs u→e.ok w (SV S c V) c' (rsL []) u
def ShowsL (V:List Nat) (rs0:Nat→Rs):List Sv→List Sv→Prop
 |[],[]=>True
 |s::l,e::m=>aA5 V rs0 s e∧ShowsL V rs0 l m
 |_,_=>False
theorem ShowsL.ok {V:List Nat} {rs0:Nat→Rs} {w0 w:World} {U S:Nat→Prop} {c:Nat→Cn} (c':Nat→Cn) {rs:Nat→Rs} (hp:Hp w0 U S c rs w) (hv:∀i∈V,rs i=rs0 i):∀(l m:List Sv) (us:List Value),ShowsL V rs0 l m→Sv.okL w S c rs l us→Sv.okL w (SV S c V) c' (rsL []) m us
 |[],[],us,_,h=>by simpa [Sv.okL]using h
 |s::l,e::m,us,h,k=>by
  simp only [Sv.okL]at k⊢
  obtain⟨x,r,e1,k1,k2⟩:=k
  exact⟨x,r,e1,h.1 _ _ _ _ _ c' _ _ hp hv k1,ShowsL.ok c' hp hv l m r h.2 k2⟩
 |[],_::_,_,h,_=>h.elim
 |_::_,[],_,h,_=>h.elim
theorem xJ {V:List Nat} {rs0:Nat→Rs} (x:Value):aA5 V rs0 (.v x) (.v x):=fun _ _ _ _ _ _ _ _ _ _ h=>by simpa [Sv.ok]using h
theorem aHS {V:List Nat} {rs0:Nat→Rs} {n cv:Nat} {Z:Zs} {p:Value×List Int} {x:Value} {b:List Int} (hn:rs0 n=⟨cv, .arr (mP Z)⟩) (hV:n∈V) (hp:p∈Z) (hx:p.1=x) (hb:p.2=b):aA5 V rs0 (.v x) (.bor [] (ints b)):=fun w0 w U S c c' rs u hh hv h=>by
 subst hx hb
 simp only [Sv.ok]at h⊢
 subst h
 have h1:=hh.res n
 rw [hv n hV,hn]at h1
 have h2:=aEF h1.1 hp
 refine⟨fun q hq=>(nomatch hq),rN rfl h2,fun _=>RdV.mono (fun b hb=> .inl (.inr ⟨n,hV,hb⟩)) _ _ h2⟩
theorem aBU (rs:Nat→Rs):∀l:List (Nat×Rs),(∀p∈l,rs p.1=p.2)→dC rs l=rs
 |[],_=>rfl
 |p::l,h=>by
  have ih:=aBU rs l fun q hq=>h q (List.mem_cons_of_mem _ hq)
  show upd (dC rs l) p.1 p.2=rs
  rw [ih]
  funext i
  unfold upd
  split
  ·rename_i e;rw [e];exact(h p (List.mem_cons_self ..)).symm
  ·rfl
theorem HkX.callS {X:Cx} {E:Env} {d:Option Nat} {x:Operand} {args:Array Operand} {tys:Array TypeId} {σ:Ss} {K:Ss→Prop} {f:FuncId} {es:List Sv} {v:Value}
  (hs:Spec E.P f es [] (.v v) []) (hc:aF E.P f) (V:List Nat) (hx:σ.opd x= .fn f []) (hva:∀i∈V,1≤(rsL σ.rs i).cv) (hm:ShowsL V (rsL σ.rs) (args.toList.map σ.opd) es)
  (hK:K (σ.ap d (.v v) (V.map fun i=>(i,rsL σ.rs i)) σ.nx)):HkX X E d (.call {callee:= .value x,args:=args,argTypes:=tys}) σ K:=by
 refine⟨V,_,_,_,fun w1 U1 ds hr o hd ho hdn tm rs g1 g2=>?_,hK,fun i hi=> .inr (by simpa [Function.comp_def]using hi)⟩
 have hx':opd tm x=σ.opd x:=g1 x (by simp [ho,Op.operands,Call.operands])
 have hargs:args.toList.map (opd tm)=args.toList.map σ.opd:=List.map_congr_left fun y hy=>g1 y (by
  simp only [ho,Op.operands,Call.operands]
  simp at hy⊢
  exact .inr hy)
 have hco:CallOk rs [] [] V:=⟨List.nodup_nil,List.nodup_nil,fun _ _ h=>(nomatch h),fun i hi=>by rw [g2 i hi];exact hva i hi,fun _ _=>rfl,fun k hk=>absurd (show 1≤0 from hk) (by decide),fun p hp=>(nomatch hp)⟩
 refine SStep0.inn ?_
 rintro a w K' Q ⟨hd',hn,c,hp,ht,hpin⟩ hK'
 have hopd:=fun z=>bX (X:=X.at w1 U1 ds) (rs:=rs) (tm:=tm) (a:=a) (w:=w) (c:=c) ht z
 have hx1:=hopd x
 rw [hx',hx]at hx1
 simp only [Sv.ok]at hx1
 obtain⟨cvs,hx1,hx2⟩:=hx1
 have hcv:cvs=[]:=by simpa [Sv.okL]using hx2
 subst hcv
 have hl:=pJ hopd args.toList
 rw [hargs]at hl
 have hcall:=hs w _ _ _ _ (oF hp hco) (ShowsL.ok _ hp g2 _ _ _ hm hl)
 unfold Oper.wp
 have hrun:(execOp a.eval o).run E.P w= .ok (.enter f (args.toList.map a.eval).toArray) w:=by
  have:args.map a.eval=(args.toList.map a.eval).toArray:=by apply Array.ext';simp
  rw [←this]
  simp [execOp,ho,resolve,Deferred.ofValue,hx1,invoke,jG hc]
 rw [hrun]
 refine hcall.mono fun e w' hh=>?_
 obtain⟨v',c1,rfl,hp1,hv,hpin1⟩:=hh
 obtain⟨c2,hp2,hx2',hren⟩:=mB hp hco c1 hp1 hpin1
 have er:dC rs (V.map fun i=>(i,rsL σ.rs i))=rs:=aBU _ _ fun p hp=>by
  obtain⟨i,hi,rfl⟩:=List.mem_map.1 hp
  exact g2 i hi
 rw [er]at hK'
 rw [hd]at hK'
 refine hK' _ _ (by
  rw [hd]
  exact bO (X:=X.at w1 U1 ds) hd' hn ht hpin hx2' hp2 hdn (sv:= .v v) (by simpa [Sv.ok]using hv))
theorem iE {X:Cx} {E:Env} {A r:List Oper} {σ:Ss} {K:Ss→Prop} {d:Option Nat} {op:Op} {t:TypeId} {p:String} {af:Array Edge} {j:Nat} {want b:Bool} {acc:List (List Nat×List Nat)} {g:Nat} (hs:cX A j=some g) (hl:lk σ.tm g= .v (.bool b)) (hb:b=want)
  (h:∀K':Ss→Prop,(∀s,eM X E A r s ((gH σ ⟨d,op,t,p,af,some (j,want)⟩,(s.rs.take (s.rs.length-σ.rs.length)).map (·.1))::acc) K→K' s)→HkX X E d op σ K') (hm:aAP op=false:=by rfl):eM X E A (⟨d,op,t,p,af,some (j,want)⟩::r) σ acc K:= .inr ⟨.inr ⟨_,_,_,rfl,hs,by rw [hl,hb]⟩,hm,h _ fun _ h=>h⟩
end Go.Eng
end
