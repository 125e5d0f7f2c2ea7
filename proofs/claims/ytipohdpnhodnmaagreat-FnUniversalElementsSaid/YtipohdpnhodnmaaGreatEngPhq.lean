/- The engine, part PH: lists of paths (two numbers and a list each); the paths and their lists told apart; a structure is written into a place of a list. -/
import Derived.Test.YtipohdpnhodnmaaGreatKalx
set_option linter.unusedVariables false
set_option linter.unusedSimpArgs false
namespace Go.Eng
open Go Go.Cats
structure OneV where
 x:Value
 one:x.oneCell'=true
instance:Inhabited OneV:=⟨⟨.slice none 0 0,rfl⟩⟩
@[go_sem] theorem aRF (x:OneV):x.x.oneCell'=true:=x.one
abbrev Zq:=List (Pth×OneV)
def vT (p:Pth):List Dt:=[.v (.int .i64 p.1), .v (.int .i64 p.2.1),ints p.2.2]
def gO (p:Pth×OneV):List Dt:=[.v (.int .i64 p.1.1), .v (.int .i64 p.1.2.1), .v p.2.x]
def bQ (l:List Pth):Dt:= .sl 3 (.v (.int .i64 0)) (l.flatMap vT)
def cK (Z:Zq):Dt:= .sl 3 (.v (.int .i64 0)) (Z.flatMap gO)
theorem rB (l:List Pth):(l.flatMap vT).length=l.length*3:=by
 induction l with
 |nil=>rfl
 |cons f l ih=>rw [List.flatMap_cons,List.length_append,ih,List.length_cons];show 3+_=_;omega
theorem fE (l:Zq):(l.flatMap gO).length=l.length*3:=by
 induction l with
 |nil=>rfl
 |cons f l ih=>rw [List.flatMap_cons,List.length_append,ih,List.length_cons];show 3+_=_;omega
@[go_sem] theorem aQl (l):(bQ l).isSl=true:=rfl
@[go_sem] theorem aMV (l):(bQ l).sz=3:=rfl
@[go_sem] theorem aMU (l:List Pth):(bQ l).nc=l.length*3:=rB l
@[go_sem] theorem aRQ (l:List Pth):(bQ l).len=l.length:=by
 unfold Dt.len
 rw [aMU,aMV];omega
@[go_sem] theorem aQf (ts) (l:List Pth):Sv.ofDt ts (bQ l)= .bor ts (bQ l):=rfl
@[go_sem] theorem aQm (l:List Pth):(bQ l).ones=true:=by
 unfold bQ Dt.ones Dt.cells
 rw [List.all_eq_true]
 intro d hd
 obtain⟨f,_,hf⟩:=List.mem_flatMap.1 hd
 simp only [vT,List.mem_cons,List.not_mem_nil,or_false]at hf
 rcases hf with rfl|rfl|rfl<;>rfl
@[go_sem] theorem aRP (l m:List Pth):Dt.app 3 (.v (.int .i64 0)) (bQ l) (bQ m)=bQ (l++m):=by simp [bQ,Dt.app,Dt.cells]
theorem aKv:Dt.sl 3 (.v (.int .i64 0)) []=bQ []:=rfl
@[go_sem] theorem aRR (o t:Int) (a:List Int):Dt.sl 3 (.v (.int .i64 0)) [.v (.int .i64 o), .v (.int .i64 t),ints a]=bQ [(o,t,a)]:=rfl
@[go_sem] theorem aO8 (f:Pth):(bQ [f]).flat=false:=rfl
theorem aHK (l:List Pth) (i:Nat) (h:i<l.length):(bQ l).part (i*3) 3=vT (l.getD i aZ):=by
 unfold bQ Dt.part
 simp only [Dt.cells]
 induction l generalizing i with
 |nil=>simp at h
 |cons p l ih=>
  cases i with
  |zero=>rfl
  |succ i=>
   rw [List.flatMap_cons,show(i+1)*3=3+i*3 by omega,←List.drop_drop,List.getD_cons_succ]
   exact ih i (by simpa using h)
theorem pK (l:List Pth) (i k:Nat) (h:i<l.length) (hk:k<3):(bQ l).at (i*3+k)=(vT (l.getD i aZ)).getD k (.v (.int .i64 0)):=by
 have e:=aHK l i h
 unfold Dt.part at e
 unfold Dt.at
 rw [←e,List.getD_eq_getElem?_getD,List.getD_eq_getElem?_getD,List.getElem?_take,if_pos hk,List.getElem?_drop]
 rfl
@[go_sem] theorem aO6 (l):(cK l).isSl=true:=rfl
@[go_sem] theorem aKu (l):(cK l).sz=3:=rfl
@[go_sem] theorem aKt (l:Zq):(cK l).nc=l.length*3:=fE l
@[go_sem] theorem aQk (l:Zq):(cK l).len=l.length:=by
 unfold Dt.len
 rw [aKt,aKu];omega
@[go_sem] theorem aOQ (ts) (l:Zq):Sv.ofDt ts (cK l)= .bor ts (cK l):=rfl
theorem aBy {l:Zq} {d:Dt} (h:d∈l.flatMap gO):∃x:Value,x.oneCell'=true∧d= .v x:=by
 obtain⟨f,_,hf⟩:=List.mem_flatMap.1 h
 simp only [gO,List.mem_cons,List.not_mem_nil,or_false]at hf
 rcases hf with rfl|rfl|rfl
 ·exact⟨_,rfl,rfl⟩
 ·exact⟨_,rfl,rfl⟩
 ·exact⟨_,f.2.one,rfl⟩
@[go_sem] theorem aO7 (l:Zq):(cK l).ones=true:=by
 unfold cK Dt.ones Dt.cells
 rw [List.all_eq_true]
 intro d hd
 obtain⟨x,hx,rfl⟩:=aBy hd
 exact hx
theorem kH (l:Zq):(l.flatMap gO).all Dt.isV=true:=by
 rw [List.all_eq_true]
 intro d hd
 obtain⟨x,hx,rfl⟩:=aBy hd
 rfl
@[go_sem] theorem aO5 (l:Zq):(cK l).flat=true:=by
 unfold cK Dt.flat Dt.cells
 exact kH l
theorem nA (l:Zq) (i:Nat) (h:i<l.length):(cK l).part (i*3) 3=gO (l.getD i (aZ,default)):=by
 unfold cK Dt.part
 simp only [Dt.cells]
 induction l generalizing i with
 |nil=>simp at h
 |cons p l ih=>
  cases i with
  |zero=>rfl
  |succ i=>
   rw [List.flatMap_cons,show(i+1)*3=3+i*3 by omega,←List.drop_drop,List.getD_cons_succ]
   exact ih i (by simpa using h)
/-! ### Told apart, and one again -/
def zsq (Z:Zq):Zs:=Z.map fun p=>(p.2.x,p.1.2.2)
theorem aEC (Z:Zq):((zsq Z).map fun p=>ints p.2)=Z.map fun p=>ints p.1.2.2:=by unfold zsq;rw [List.map_map];rfl
theorem aNX (Z:Zq):(zsq Z).map (·.1)=Z.map fun p=>p.2.x:=by unfold zsq;rw [List.map_map];rfl
theorem aBv {w:World}:∀{L:List Pth} {F:Nat→Prop} {vs:List Value},OwL w F (L.flatMap vT) vs→∃Z:Zq,Z.map (·.1)=L∧vs=(Z.flatMap gO).map Dt.val∧OwL w F (Z.map fun p=>ints p.1.2.2) (Z.map fun p=>p.2.x)
 |[],F,vs,h=>by
  simp only [List.flatMap_nil,OwL]at h
  exact⟨[],rfl,h,by simp [OwL]⟩
 |p::L,F,vs,h=>by
  simp only [List.flatMap_cons,vT,List.cons_append,List.nil_append,OwL]at h
  obtain⟨x1,r1,A1,B1,rfl,a1,b1,_,h1,x2,r2,A2,B2,rfl,a2,b2,_,h2,x3,r3,A3,B3,rfl,a3,b3,d3,h3,h4⟩:=h
  simp only [OwV]at h1 h2
  subst h1 h2
  obtain⟨Z,z1,z2,z3⟩:=aBv (L:=L) h4
  refine⟨(p,⟨x3,rN rfl (OwV.rd _ _ h3)⟩)::Z,by rw [List.map_cons,z1],?_,?_⟩
  ·rw [z2];rfl
  ·simp only [List.map_cons,OwL]
   exact⟨_,_,A3,B3,rfl,fun b hb=>b1 b (b2 b (a3 b hb)),fun b hb=>b1 b (b2 b (b3 b hb)),d3,h3,z3⟩
theorem aDP {w:World}:∀{Z:Zq} {F:Nat→Prop},OwL w F (Z.map fun p=>ints p.1.2.2) (Z.map fun p=>p.2.x)→OwL w F ((Z.map (·.1)).flatMap vT) ((Z.flatMap gO).map Dt.val)
 |[],F,h=>by simp [OwL]
 |p::Z,F,h=>by
  simp only [List.map_cons,OwL,List.cons.injEq]at h
  obtain⟨x,r,A,B,⟨rfl,rfl⟩,a,b,d,h1,h2⟩:=h
  have ih:=aDP (Z:=Z) h2
  simp only [List.map_cons,List.flatMap_cons,vT,gO,List.cons_append,List.nil_append,OwL]
  exact⟨_,_,fun _=>False,F,rfl,fun _ h=>h.elim,fun _ h=>h,fun _ h _=>h,by simp [OwV,Dt.val],_,_,fun _=>False,F,rfl,fun _ h=>h.elim,fun _ h=>h,fun _ h _=>h,by simp [OwV,Dt.val],_,_,A,B,rfl,a,b,d,h1,ih⟩
section
variable {X:Cx} {E:Env} {c:Code} {σ:Ss} {Q:Exit→Ss→Prop}
theorem aIp (i cv:Nat) (L:List Pth) (hi:rsL σ.rs i=⟨cv, .arr (bQ L)⟩) (hcv:1≤cv) (hf:rsL σ.rs σ.nx=⟨0, .gone⟩)
  (h:∀Z:Zq,Z.map (·.1)=L→V X E c ⟨σ.tm,(i,⟨cv+1, .arr (cK Z)⟩)::(σ.nx,⟨1, .arr (mP (zsq Z))⟩)::σ.rs,σ.nx+1⟩ Q):V X E c σ Q:=by
 intro hE a w ⟨w1,U1,ds,hr,hd,hn,cn,hp,ht,hpin⟩
 have hij:i≠σ.nx:=fun e=>by rw [e,hf]at hi;cases hi
 have hres:=hp.res i
 rw [hi]at hres
 obtain⟨h1,h2⟩:=hres
 have key:∃(Z:Zq) (G:Nat→Prop),Z.map (·.1)=L∧(∀b,G b→(cn i).fp b)∧OwL w G (Z.map fun p=>ints p.1.2.2) (Z.map fun p=>p.2.x)∧OwV w (fun b=>(cn i).fp b∧¬G b) (cK Z) (cn i).hdr:=by
  unfold bQ at h1
  simp only [OwV]at h1
  obtain⟨_,⟨e1,e2⟩|⟨g,n,cap,cur,e,e1,e2,e3,e4,e5,e6,e7,e8⟩⟩:=h1
  ·have hL:L=[]:=by
    cases L with
    |nil=>rfl
    |cons p L=>simp [vT]at e2
   subst hL
   exact⟨[],fun _=>False,rfl,(fun _ h=>False.elim h),by simp [OwL],by simp [cK,OwV,e1]⟩
  ·obtain⟨Z,z1,z2,z3⟩:=aBv e8
   have hl:(L.flatMap vT).length=(Z.flatMap gO).length:=by rw [rB,fE,←z1,List.length_map]
   refine⟨Z,fun b=>(cn i).fp b∧b≠g,z1,fun b hb=>hb.1,z3,?_⟩
   simp only [cK,OwV]
   refine⟨by omega, .inr ⟨g,n,cap,cur,e,e1,by rw [e2,hl],e3,e4,⟨e5,fun q=>q.2 rfl⟩,e6,e7,?_⟩⟩
   refine(OwL.flat (kH Z)).2 ?_
   rw [←hl,z2]
 obtain⟨Z,G,z1,z3,z4,z5⟩:=key
 obtain⟨c',q1,q2,hp',hext⟩:=uH (X:=X.at w1 U1 ds) hp i σ.nx hij hf (cv+1) (by rw [hi];exact Nat.lt_succ_self _) (.arr (cK Z)) (.arr (mP (zsq Z))) ⟨0, .int .i64 0,G⟩ z3 rfl (fun hx'=>by
  refine⟨⟨z5,h2⟩,⟨?_,fun _ _ _ h=>by cases h⟩⟩
  simp only [mP,OwV]
  exact⟨rfl,G,fun _ h=>h,by show OwL w G ((zsq Z).map fun p=>ints p.2) ((zsq Z).map (·.1));rw [aEC,aNX];exact z4⟩)
 refine h Z z1 hE a w ⟨w1,U1,ds,hr,hd,hn,c',hp',fun s=>Sv.ok_ext hext _ _ (ht s),fun l hl=>?_⟩
 obtain⟨r1,r2,r3⟩:=hpin l hl
 obtain⟨r4,r5⟩:=hext.cn l r1
 exact⟨Nat.le_trans r1 (hext.ver l),r4.trans r2,r5.trans r3⟩
theorem Imp.unbagP {tm:List (Nat×Sv)} {rs:List (Nat×Rs)} {nx:Nat} (i n ci cn':Nat) (Z Y:Zq) (hi:rsL rs i=⟨ci, .arr (cK Y)⟩) (hn:rsL rs n=⟨cn', .arr (mP (zsq Z))⟩) (hci:1≤ci) (hin:i≠n) (hp:Z.Perm Y):
  Imp X ⟨tm,rs,nx⟩ ⟨tm,(i,⟨ci+1, .arr (bQ (Y.map (·.1)))⟩)::(n,⟨cn', .gone⟩)::rs,nx⟩:=by
 rintro w1 U1 ds a w ⟨hd,hn',c,hpp,ht,hpin⟩
 have h1:=hpp.res i
 rw [hi]at h1
 obtain⟨h1,h2⟩:=h1
 have h3:=hpp.res n
 rw [hn]at h3
 have h4:=h3.1
 simp only [mP,OwV]at h4
 obtain⟨_,G,g1,g2⟩:=h4
 have g3:OwL w G (Y.map fun p=>ints p.1.2.2) (Y.map fun p=>p.2.x):=by
  have:=aJ4 (hp.map fun p:Pth×OneV=>(p.2.x,p.1.2.2)) (show OwL w G ((zsq Z).map fun p=>ints p.2) ((zsq Z).map (·.1)) from g2)
  have e1:=aEC Y
  have e2:=aNX Y
  unfold zsq at e1 e2
  rw [e1,e2]at this
  exact this
 have hne:∀b,(c i).fp b→(c n).fp b→False:=fun b=>hpp.dis i n b hin
 obtain⟨hp',hext⟩:=vG (X:=X.at w1 U1 ds) (w':=w) hpp i ⟨(c i).blk,(c i).hdr,fun b=>(c i).fp b∨(c n).fp b⟩ (ci+1) (.arr (bQ (Y.map (·.1)))) [n] (by simpa using hin) (by rw [hi];exact Nat.lt_succ_self _)
  (.inr ⟨rfl,rfl⟩) rfl rfl rfl (Nat.le_refl _) (Agree.refl _ _) (fun b hb=>hb.elim .inl (fun h=> .inr (.inl ⟨n,by simp,h⟩))) (hpp.one i) (fun hx'=>by
   refine⟨?_,h2⟩
   unfold cK at h1
   unfold bQ
   simp only [OwV]at h1⊢
   have hl:(((Y.map (·.1)).flatMap vT)).length=(Y.flatMap gO).length:=by rw [rB,fE,List.length_map]
   obtain⟨_,⟨e1,e2⟩|⟨g,m,cap,cur,e,e1,e2,e3,e4,e5,e6,e7,e8⟩⟩:=h1
   ·have hY:Y=[]:=by
     cases Y with
     |nil=>rfl
     |cons p L=>simp [gO]at e2
    subst hY
    exact⟨by omega, .inl ⟨e1,rfl⟩⟩
   ·have hfl:=(OwL.flat (kH Y)).1 e8
    refine⟨by omega, .inr ⟨g,m,cap,cur,e,e1,by rw [e2,hl],e3,e4, .inl e5,e6,e7,?_⟩⟩
    rw [hl,hfl]
    exact OwL.mono (fun b hb=>⟨.inr (g1 b hb),fun q=>hne g e5 (by rw [←q];exact g1 b hb)⟩) _ _ (aDP g3))
 have hRS:rsL ((i,⟨ci+1, .arr (bQ (Y.map (·.1)))⟩)::(n,⟨cn', .gone⟩)::rs)=upd (dC (rsL rs) (bP (rsL rs) [n])) i ⟨ci+1, .arr (bQ (Y.map (·.1)))⟩:=by
  have hg:bP (rsL rs) [n]=[(n,⟨cn', .gone⟩)]:=by simp [bP,hn]
  rw [hg];rfl
 rw [←hRS]at hp' hext
 refine⟨hd,hn',_,hp',fun s=>Sv.ok_ext hext _ _ (ht s),fun l hl=>?_⟩
 obtain⟨r1,r2,r3⟩:=hpin l hl
 obtain⟨r4,r5⟩:=hext.cn l r1
 exact⟨Nat.le_trans r1 (hext.ver l),r4.trans r2,r5.trans r3⟩
end
theorem cY {V:List Nat} {rs0:Nat→Rs} {n cv:Nat} {Z:Zq} {p:Pth×OneV} (hn:rs0 n=⟨cv, .arr (mP (zsq Z))⟩) (hV:n∈V) (hp:p∈Z):aA5 V rs0 (.agg [iv p.1.1,iv p.1.2.1, .v p.2.x]) (.agg [iv p.1.1,iv p.1.2.1, .bor [] (ints p.1.2.2)]):=fun w0 w U S c c' rs u hh hv h=>by
 have hm:(p.2.x,p.1.2.2)∈zsq Z:=List.mem_map.2 ⟨p,hp,rfl⟩
 simp only [Sv.ok]at h⊢
 obtain⟨vs,rfl,h⟩:=h
 exact⟨vs,rfl,ShowsL.ok c' hh hv [iv p.1.1,iv p.1.2.1, .v p.2.x] [iv p.1.1,iv p.1.2.1, .bor [] (ints p.1.2.2)] vs ⟨xJ _,xJ _,aHS hn hV hm rfl rfl,trivial⟩ h⟩
/-! ### A structure is written into a place of a list -/
theorem aFK {α:Type} (l m:List α) (p n:Nat) (h:p+m.length≤n) (hn:n≤l.length):(putAt l p m).take n=putAt (l.take n) p m:=by
 unfold putAt
 apply List.ext_getElem?
 intro k
 have e1:(l.take p).length=p:=by rw [List.length_take];omega
 have e2:((l.take n).take p).length=p:=by rw [List.length_take,List.length_take];omega
 simp only [List.getElem?_take,List.getElem?_append,List.length_append,e1,e2,List.getElem?_drop]
 by_cases h1:k<n
 ·by_cases h2:k<p
  ·simp [h1,h2,show k<p+m.length by omega]
  ·by_cases h3:k<p+m.length
   ·simp [h1,h2,h3]
   ·simp [h1,h2,h3,show p+m.length+(k-(p+m.length))<n by omega]
 ·have h2:¬k<p:=by omega
  have h3:¬k<p+m.length:=by omega
  simp [h1,h2,h3,show¬p+m.length+(k-(p+m.length))<n by omega]
theorem aBz (q:Pth×OneV):∀(Z:Zq) (j:Nat),j<Z.length→putAt ((Z.flatMap gO).map Dt.val) (j*3) ((gO q).map Dt.val)=((Z.set j q).flatMap gO).map Dt.val
 |[],j,h=>by simp at h
 |p::Z,0,h=>by simp [putAt,gO]
 |p::Z,j+1,h=>by
  have ih:=aBz q Z j (by simpa using h)
  rw [List.set_cons_succ,List.flatMap_cons,List.flatMap_cons,List.map_append,List.map_append,←ih]
  unfold putAt
  have e1:((gO p).map Dt.val).length=3:=rfl
  have e2:((gO q).map Dt.val).length=3:=rfl
  rw [e2,show(j+1)*3=3+j*3 by omega,List.take_append,List.drop_append,e1,List.take_of_length_le (by rw [e1];omega),List.drop_of_length_le (by rw [e1];omega),show 3+j*3-3=j*3 by omega,show 3+j*3+3-3=j*3+3 by omega,List.nil_append,List.append_assoc,List.append_assoc,List.append_assoc]
section
variable {E:Env} {d:Option Nat} {σ:Ss} {K:Ss→Prop}
theorem iT {t:TypeId} {x y:Operand} {i cv j:Nat} {Z:Zq} {q:Pth×OneV} (hd0:d=none) (hk:(E.ti t).known=true) (hsz:(E.ti t).size=3) (hx:σ.opd x= .ptr i (j*3)) (hi:σ.get i=⟨cv, .arr (cK Z)⟩) (hj:j<Z.length) (hy:σ.opd y= .agg [iv q.1.1,iv q.1.2.1, .v q.2.x])
  (hK:K (σ.ap d .dead [(i,⟨cv+1, .arr (cK (Z.set j q))⟩)] σ.nx)):cG E d (.store t x y) σ K:=by
 refine⟨[i],_,_,_,fun X o _ hd ho hdn tm rs h1 h2=>?_,hK,fun j hj=> .inr hj⟩
 have hr:rs i=⟨cv, .arr (cK Z)⟩:=(h2 i (by simp)).trans hi
 have ex:opd tm x=σ.opd x:=h1 x (by rw [ho];simp [Op.operands])
 have ey:opd tm y=σ.opd y:=h1 y (by rw [ho];simp [Op.operands])
 refine SStep0.inn ?_
 rintro a w K Q ⟨hdf,hnn,c,hp,ht,hpin⟩ hK
 have hx1:=bX ht x
 have hy1:=bX ht y
 rw [ex,hx]at hx1
 rw [ey,hy]at hy1
 simp only [Sv.ok]at hx1
 have hcs:(a.eval y).cells.toList=(gO q).map Dt.val:=by
  simp only [Sv.ok]at hy1
  obtain⟨vs,e,h3⟩:=hy1
  rw [e]
  simp only [iv,Sv.okL,Sv.ok]at h3
  obtain⟨_,_,rfl,rfl,_,_,rfl,rfl,_,_,rfl,rfl,rfl⟩:=h3
  simp [Value.cells,gO,Dt.val]
 have h2:=hp.res i
 rw [hr]at h2
 obtain⟨h3,h4⟩:=h2
 simp only [cK,OwV]at h3
 obtain⟨hsz0,h3⟩:=h3
 rcases h3 with⟨_,e2⟩|⟨g,m,cap,cur,e',e1,e2,e3,e4,e5,e6,e7,e8⟩
 ·have:=fE Z
  rw [e2]at this
  simp at this
  omega
 ·have h5:=h4 _ _ _ e1
  simp at h5
  subst h5
  have hcl:=fE Z
  have hlen:(Z.flatMap gO).length≤cur.size:=by
   rw [←e2,e7];exact Nat.mul_le_mul_right _ e3
  have hl3:((gO q).map Dt.val).length=3:=rfl
  have hrun:=dU (E:=E) hk e6 (v:=a.eval y) (p:=j*3) (by rw [hcs,hsz,hl3]) (by rw [hcs,hl3];omega) (by
   rw [hcs]
   intro z hz
   simp only [gO,List.map_cons,List.map_nil,Dt.val,List.mem_cons,List.not_mem_nil,or_false]at hz
   rcases hz with rfl|rfl|rfl
   ·rfl
   ·rfl
   ·exact q.2.one)
  rw [hcs]at hrun
  have hc1:1≤(rs i).cv:=hx1.1
  obtain⟨hp',hx'⟩:=iB (X:=X) (w':=w.setRow (c i).blk (putAt cur.toList (j*3) ((gO q).map Dt.val)).toArray) hp i hc1 (cv+1) (by rw [hr];exact Nat.lt_succ_self _) (.arr (cK (Z.set j q))) rfl rfl rfl (by simp) (dQ _ (by simpa using e5)) (fun hx'=>by
   refine⟨?_,h4⟩
   simp only [cK,OwV]
   have hl2:((Z.set j q).flatMap gO).length=(Z.flatMap gO).length:=by rw [fE,fE,List.length_set]
   have hpl:(putAt cur.toList (j*3) ((gO q).map Dt.val)).length=cur.toList.length:=by
    unfold putAt
    rw [List.length_append,List.length_append,List.length_take,List.length_drop,hl3,Array.length_toList];omega
   refine⟨hsz0, .inr ⟨(c i).blk,m,cap,_,e',e1,by rw [hl2];exact e2,e3,e4,e5,setRow_heap w _ cur _ e' (0,0) e6,by rw [List.size_toArray,hpl,Array.length_toList];exact e7,?_⟩⟩
   refine(OwL.flat (kH _)).2 ?_
   have hfl:=(OwL.flat (kH Z)).1 e8
   show(putAt cur.toList (j*3) ((gO q).map Dt.val)).take _=_
   rw [hl2,aFK _ _ _ _ (by rw [hl3];omega) (by rw [Array.length_toList];omega),hfl]
   exact aBz q Z j hj)
  unfold Oper.wp
  have hrun2:(execOp a.eval o).run E.P w= .ok .skip (w.setRow (c i).blk (putAt cur.toList (j*3) ((gO q).map Dt.val)).toArray):=by
   simp [execOp,ho,hx1.2,hrun]
  rw [hrun2]
  exact hK _ _ (bO hdf hnn ht hpin hx' hp' (by rw [hd];exact hdn) (by simp [Sv.ok]))
end
end Go.Eng
