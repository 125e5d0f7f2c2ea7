/- The engine, part PH: lists of paths (two numbers and a list each); the paths and their lists told apart; a structure is written into a place of a list. -/
import Derived.Test.YtipohdpnhodnmaaGreatKuy
set_option linter.unusedVariables false
set_option linter.unusedSimpArgs false
namespace Go.Eng
open Go Go.Cats
structure OneV where
 x:Value
 one:x.oneCell'=true
instance:Inhabited OneV:=⟨⟨.slice none 0 0,rfl⟩⟩
@[go_sem] theorem aRB (x:OneV):x.x.oneCell'=true:=x.one
abbrev Zq:=List (Pth×OneV)
def xP (p:Pth):List Dt:=[.v (.int .i64 p.1), .v (.int .i64 p.2.1),ints p.2.2]
def iB (p:Pth×OneV):List Dt:=[.v (.int .i64 p.1.1), .v (.int .i64 p.1.2.1), .v p.2.x]
def bU (l:List Pth):Dt:= .sl 3 (.v (.int .i64 0)) (l.flatMap xP)
def cZ (Z:Zq):Dt:= .sl 3 (.v (.int .i64 0)) (Z.flatMap iB)
theorem sG (l:List Pth):(l.flatMap xP).length=l.length*3:=by
 induction l with
 |nil=>rfl
 |cons f l ih=>rw [List.flatMap_cons,List.length_append,ih,List.length_cons];show 3+_=_;omega
theorem fM (l:Zq):(l.flatMap iB).length=l.length*3:=by
 induction l with
 |nil=>rfl
 |cons f l ih=>rw [List.flatMap_cons,List.length_append,ih,List.length_cons];show 3+_=_;omega
@[go_sem] theorem aQg (l):(bU l).isSl=true:=rfl
@[go_sem] theorem aNc (l):(bU l).sz=3:=rfl
@[go_sem] theorem aNb (l:List Pth):(bU l).nc=l.length*3:=sG l
@[go_sem] theorem aRJ (l:List Pth):(bU l).len=l.length:=by
 unfold Dt.len
 rw [aNb,aNc];omega
@[go_sem] theorem aQc (ts) (l:List Pth):Sv.ofDt ts (bU l)= .bor ts (bU l):=rfl
@[go_sem] theorem aQi (l:List Pth):(bU l).ones=true:=by
 unfold bU Dt.ones Dt.cells
 rw [List.all_eq_true]
 intro d hd
 obtain⟨f,_,hf⟩:=List.mem_flatMap.1 hd
 simp only [xP,List.mem_cons,List.not_mem_nil,or_false]at hf
 rcases hf with rfl|rfl|rfl<;>rfl
@[go_sem] theorem aRI (l m:List Pth):Dt.app 3 (.v (.int .i64 0)) (bU l) (bU m)=bU (l++m):=by simp [bU,Dt.app,Dt.cells]
theorem aKT:Dt.sl 3 (.v (.int .i64 0)) []=bU []:=rfl
@[go_sem] theorem aRK (o t:Int) (a:List Int):Dt.sl 3 (.v (.int .i64 0)) [.v (.int .i64 o), .v (.int .i64 t),ints a]=bU [(o,t,a)]:=rfl
@[go_sem] theorem aPb (f:Pth):(bU [f]).flat=false:=rfl
theorem aIv (l:List Pth) (i:Nat) (h:i<l.length):(bU l).part (i*3) 3=xP (l.getD i bA):=by
 unfold bU Dt.part
 simp only [Dt.cells]
 induction l generalizing i with
 |nil=>simp at h
 |cons p l ih=>
  cases i with
  |zero=>rfl
  |succ i=>
   rw [List.flatMap_cons,show(i+1)*3=3+i*3 by omega,←List.drop_drop,List.getD_cons_succ]
   exact ih i (by simpa using h)
theorem qN (l:List Pth) (i k:Nat) (h:i<l.length) (hk:k<3):(bU l).at (i*3+k)=(xP (l.getD i bA)).getD k (.v (.int .i64 0)):=by
 have e:=aIv l i h
 unfold Dt.part at e
 unfold Dt.at
 rw [←e,List.getD_eq_getElem?_getD,List.getD_eq_getElem?_getD,List.getElem?_take,if_pos hk,List.getElem?_drop]
 rfl
@[go_sem] theorem aO9 (l):(cZ l).isSl=true:=rfl
@[go_sem] theorem aKS (l):(cZ l).sz=3:=rfl
@[go_sem] theorem aKR (l:Zq):(cZ l).nc=l.length*3:=fM l
@[go_sem] theorem aQf (l:Zq):(cZ l).len=l.length:=by
 unfold Dt.len
 rw [aKR,aKS];omega
@[go_sem] theorem aOV (ts) (l:Zq):Sv.ofDt ts (cZ l)= .bor ts (cZ l):=rfl
theorem aB0 {l:Zq} {d:Dt} (h:d∈l.flatMap iB):∃x:Value,x.oneCell'=true∧d= .v x:=by
 obtain⟨f,_,hf⟩:=List.mem_flatMap.1 h
 simp only [iB,List.mem_cons,List.not_mem_nil,or_false]at hf
 rcases hf with rfl|rfl|rfl
 ·exact⟨_,rfl,rfl⟩
 ·exact⟨_,rfl,rfl⟩
 ·exact⟨_,f.2.one,rfl⟩
@[go_sem] theorem aPa (l:Zq):(cZ l).ones=true:=by
 unfold cZ Dt.ones Dt.cells
 rw [List.all_eq_true]
 intro d hd
 obtain⟨x,hx,rfl⟩:=aB0 hd
 exact hx
theorem kS (l:Zq):(l.flatMap iB).all Dt.isV=true:=by
 rw [List.all_eq_true]
 intro d hd
 obtain⟨x,hx,rfl⟩:=aB0 hd
 rfl
@[go_sem] theorem aO8 (l:Zq):(cZ l).flat=true:=by
 unfold cZ Dt.flat Dt.cells
 exact kS l
theorem nW (l:Zq) (i:Nat) (h:i<l.length):(cZ l).part (i*3) 3=iB (l.getD i (bA,default)):=by
 unfold cZ Dt.part
 simp only [Dt.cells]
 induction l generalizing i with
 |nil=>simp at h
 |cons p l ih=>
  cases i with
  |zero=>rfl
  |succ i=>
   rw [List.flatMap_cons,show(i+1)*3=3+i*3 by omega,←List.drop_drop,List.getD_cons_succ]
   exact ih i (by simpa using h)
/-! ### Told apart, and one again -/
def zsq (Z:Zq):Zs:=Z.map fun p=>(p.2.x,p.1.2.2)
theorem aFn (Z:Zq):((zsq Z).map fun p=>ints p.2)=Z.map fun p=>ints p.1.2.2:=by unfold zsq;rw [List.map_map];rfl
theorem aOa (Z:Zq):(zsq Z).map (·.1)=Z.map fun p=>p.2.x:=by unfold zsq;rw [List.map_map];rfl
theorem aBX {w:World}:∀{L:List Pth} {F:Nat→Prop} {vs:List Value},OwL w F (L.flatMap xP) vs→∃Z:Zq,Z.map (·.1)=L∧vs=(Z.flatMap iB).map Dt.val∧OwL w F (Z.map fun p=>ints p.1.2.2) (Z.map fun p=>p.2.x)
 |[],F,vs,h=>by
  simp only [List.flatMap_nil,OwL]at h
  exact⟨[],rfl,h,by simp [OwL]⟩
 |p::L,F,vs,h=>by
  simp only [List.flatMap_cons,xP,List.cons_append,List.nil_append,OwL]at h
  obtain⟨x1,r1,A1,B1,rfl,a1,b1,_,h1,x2,r2,A2,B2,rfl,a2,b2,_,h2,x3,r3,A3,B3,rfl,a3,b3,d3,h3,h4⟩:=h
  simp only [OwV]at h1 h2
  subst h1 h2
  obtain⟨Z,z1,z2,z3⟩:=aBX (L:=L) h4
  refine⟨(p,⟨x3,qC rfl (OwV.rd _ _ h3)⟩)::Z,by rw [List.map_cons,z1],?_,?_⟩
  ·rw [z2];rfl
  ·simp only [List.map_cons,OwL]
   exact⟨_,_,A3,B3,rfl,fun b hb=>b1 b (b2 b (a3 b hb)),fun b hb=>b1 b (b2 b (b3 b hb)),d3,h3,z3⟩
theorem aEv {w:World}:∀{Z:Zq} {F:Nat→Prop},OwL w F (Z.map fun p=>ints p.1.2.2) (Z.map fun p=>p.2.x)→OwL w F ((Z.map (·.1)).flatMap xP) ((Z.flatMap iB).map Dt.val)
 |[],F,h=>by simp [OwL]
 |p::Z,F,h=>by
  simp only [List.map_cons,OwL,List.cons.injEq]at h
  obtain⟨x,r,A,B,⟨rfl,rfl⟩,a,b,d,h1,h2⟩:=h
  have ih:=aEv (Z:=Z) h2
  simp only [List.map_cons,List.flatMap_cons,xP,iB,List.cons_append,List.nil_append,OwL]
  exact⟨_,_,fun _=>False,F,rfl,fun _ h=>h.elim,fun _ h=>h,fun _ h _=>h,by simp [OwV,Dt.val],_,_,fun _=>False,F,rfl,fun _ h=>h.elim,fun _ h=>h,fun _ h _=>h,by simp [OwV,Dt.val],_,_,A,B,rfl,a,b,d,h1,ih⟩
section
variable {X:Cx} {E:Env} {c:Code} {σ:Ss} {Q:Exit→Ss→Prop}
theorem aIZ (i cv:Nat) (L:List Pth) (hi:rsL σ.rs i=⟨cv, .arr (bU L)⟩) (hcv:1≤cv) (hf:rsL σ.rs σ.nx=⟨0, .gone⟩)
  (h:∀Z:Zq,Z.map (·.1)=L→V X E c ⟨σ.tm,(i,⟨cv+1, .arr (cZ Z)⟩)::(σ.nx,⟨1, .arr (nE (zsq Z))⟩)::σ.rs,σ.nx+1⟩ Q):V X E c σ Q:=by
 intro hE a w ⟨w1,U1,ds,hr,hd,hn,cn,hp,ht,hpin⟩
 have hij:i≠σ.nx:=fun e=>by rw [e,hf]at hi;cases hi
 have hres:=hp.res i
 rw [hi]at hres
 obtain⟨h1,h2⟩:=hres
 have key:∃(Z:Zq) (G:Nat→Prop),Z.map (·.1)=L∧(∀b,G b→(cn i).fp b)∧OwL w G (Z.map fun p=>ints p.1.2.2) (Z.map fun p=>p.2.x)∧OwV w (fun b=>(cn i).fp b∧¬G b) (cZ Z) (cn i).hdr:=by
  unfold bU at h1
  simp only [OwV]at h1
  obtain⟨_,⟨e1,e2⟩|⟨g,n,cap,cur,e,e1,e2,e3,e4,e5,e6,e7,e8⟩⟩:=h1
  ·have hL:L=[]:=by
    cases L with
    |nil=>rfl
    |cons p L=>simp [xP]at e2
   subst hL
   exact⟨[],fun _=>False,rfl,(fun _ h=>False.elim h),by simp [OwL],by simp [cZ,OwV,e1]⟩
  ·obtain⟨Z,z1,z2,z3⟩:=aBX e8
   have hl:(L.flatMap xP).length=(Z.flatMap iB).length:=by rw [sG,fM,←z1,List.length_map]
   refine⟨Z,fun b=>(cn i).fp b∧b≠g,z1,fun b hb=>hb.1,z3,?_⟩
   simp only [cZ,OwV]
   refine⟨by omega, .inr ⟨g,n,cap,cur,e,e1,by rw [e2,hl],e3,e4,⟨e5,fun q=>q.2 rfl⟩,e6,e7,?_⟩⟩
   refine(OwL.flat (kS Z)).2 ?_
   rw [←hl,z2]
 obtain⟨Z,G,z1,z3,z4,z5⟩:=key
 obtain⟨c',q1,q2,hp',hext⟩:=qT (X:=X.at w1 U1 ds) hp i σ.nx hij hf (cv+1) (by rw [hi];exact Nat.lt_succ_self _) (.arr (cZ Z)) (.arr (nE (zsq Z))) ⟨0, .int .i64 0,G⟩ z3 rfl (fun hx'=>by
  refine⟨⟨z5,h2⟩,⟨?_,fun _ _ _ h=>by cases h⟩⟩
  simp only [nE,OwV]
  exact⟨rfl,G,fun _ h=>h,by show OwL w G ((zsq Z).map fun p=>ints p.2) ((zsq Z).map (·.1));rw [aFn,aOa];exact z4⟩)
 refine h Z z1 hE a w ⟨w1,U1,ds,hr,hd,hn,c',hp',fun s=>Sv.ok_ext hext _ _ (ht s),fun l hl=>?_⟩
 obtain⟨r1,r2,r3⟩:=hpin l hl
 obtain⟨r4,r5⟩:=hext.cn l r1
 exact⟨Nat.le_trans r1 (hext.ver l),r4.trans r2,r5.trans r3⟩
theorem Imp.unbagP {tm:List (Nat×Sv)} {rs:List (Nat×Rs)} {nx:Nat} (i n ci cn':Nat) (Z Y:Zq) (hi:rsL rs i=⟨ci, .arr (cZ Y)⟩) (hn:rsL rs n=⟨cn', .arr (nE (zsq Z))⟩) (hci:1≤ci) (hin:i≠n) (hp:Z.Perm Y):
  Imp X ⟨tm,rs,nx⟩ ⟨tm,(i,⟨ci+1, .arr (bU (Y.map (·.1)))⟩)::(n,⟨cn', .gone⟩)::rs,nx⟩:=by
 rintro w1 U1 ds a w ⟨hd,hn',c,hpp,ht,hpin⟩
 have h1:=hpp.res i
 rw [hi]at h1
 obtain⟨h1,h2⟩:=h1
 have h3:=hpp.res n
 rw [hn]at h3
 have h4:=h3.1
 simp only [nE,OwV]at h4
 obtain⟨_,G,g1,g2⟩:=h4
 have g3:OwL w G (Y.map fun p=>ints p.1.2.2) (Y.map fun p=>p.2.x):=by
  have:=aKw (hp.map fun p:Pth×OneV=>(p.2.x,p.1.2.2)) (show OwL w G ((zsq Z).map fun p=>ints p.2) ((zsq Z).map (·.1)) from g2)
  have e1:=aFn Y
  have e2:=aOa Y
  unfold zsq at e1 e2
  rw [e1,e2]at this
  exact this
 have hne:∀b,(c i).fp b→(c n).fp b→False:=fun b=>hpp.dis i n b hin
 obtain⟨hp',hext⟩:=tY (X:=X.at w1 U1 ds) (w':=w) hpp i ⟨(c i).blk,(c i).hdr,fun b=>(c i).fp b∨(c n).fp b⟩ (ci+1) (.arr (bU (Y.map (·.1)))) [n] (by simpa using hin) (by rw [hi];exact Nat.lt_succ_self _)
  (.inr ⟨rfl,rfl⟩) rfl rfl rfl (Nat.le_refl _) (Agree.refl _ _) (fun b hb=>hb.elim .inl (fun h=> .inr (.inl ⟨n,by simp,h⟩))) (hpp.one i) (fun hx'=>by
   refine⟨?_,h2⟩
   unfold cZ at h1
   unfold bU
   simp only [OwV]at h1⊢
   have hl:(((Y.map (·.1)).flatMap xP)).length=(Y.flatMap iB).length:=by rw [sG,fM,List.length_map]
   obtain⟨_,⟨e1,e2⟩|⟨g,m,cap,cur,e,e1,e2,e3,e4,e5,e6,e7,e8⟩⟩:=h1
   ·have hY:Y=[]:=by
     cases Y with
     |nil=>rfl
     |cons p L=>simp [iB]at e2
    subst hY
    exact⟨by omega, .inl ⟨e1,rfl⟩⟩
   ·have hfl:=(OwL.flat (kS Y)).1 e8
    refine⟨by omega, .inr ⟨g,m,cap,cur,e,e1,by rw [e2,hl],e3,e4, .inl e5,e6,e7,?_⟩⟩
    rw [hl,hfl]
    exact OwL.mono (fun b hb=>⟨.inr (g1 b hb),fun q=>hne g e5 (by rw [←q];exact g1 b hb)⟩) _ _ (aEv g3))
 have hRS:rsL ((i,⟨ci+1, .arr (bU (Y.map (·.1)))⟩)::(n,⟨cn', .gone⟩)::rs)=upd (dP (rsL rs) (bS (rsL rs) [n])) i ⟨ci+1, .arr (bU (Y.map (·.1)))⟩:=by
  have hg:bS (rsL rs) [n]=[(n,⟨cn', .gone⟩)]:=by simp [bS,hn]
  rw [hg];rfl
 rw [←hRS]at hp' hext
 refine⟨hd,hn',_,hp',fun s=>Sv.ok_ext hext _ _ (ht s),fun l hl=>?_⟩
 obtain⟨r1,r2,r3⟩:=hpin l hl
 obtain⟨r4,r5⟩:=hext.cn l r1
 exact⟨Nat.le_trans r1 (hext.ver l),r4.trans r2,r5.trans r3⟩
end
theorem dK {V:List Nat} {rs0:Nat→Rs} {n cv:Nat} {Z:Zq} {p:Pth×OneV} (hn:rs0 n=⟨cv, .arr (nE (zsq Z))⟩) (hV:n∈V) (hp:p∈Z):aGw V rs0 (.agg [iv p.1.1,iv p.1.2.1, .v p.2.x]) (.agg [iv p.1.1,iv p.1.2.1, .bor [] (ints p.1.2.2)]):=fun w0 w U S c c' rs u hh hv h=>by
 have hm:(p.2.x,p.1.2.2)∈zsq Z:=List.mem_map.2 ⟨p,hp,rfl⟩
 simp only [Sv.ok]at h⊢
 obtain⟨vs,rfl,h⟩:=h
 exact⟨vs,rfl,ShowsL.ok c' hh hv [iv p.1.1,iv p.1.2.1, .v p.2.x] [iv p.1.1,iv p.1.2.1, .bor [] (ints p.1.2.2)] vs ⟨aHv _,aHv _,aIC hn hV hm rfl rfl,trivial⟩ h⟩
/-! ### A structure is written into a place of a list -/
theorem aGp {α:Type} (l m:List α) (p n:Nat) (h:p+m.length≤n) (hn:n≤l.length):(putAt l p m).take n=putAt (l.take n) p m:=by
 unfold putAt
 apply List.ext_getElem?
 intro k
 have e1:(l.take p).length=p:=by rw [List.length_take];omega
 have e2:((l.take n).take p).length=p:=by rw [List.length_take,List.length_take];omega
 simp only [List.getElem?_take,List.getElem?_append,List.length_append,e1,e2,List.getElem?_drop]
 by_cases h1:k<n
 ·by_cases h2:k<p
  ·simp [h1,h2,show k<p+m.length by omega]
  ·by_cases h3:k<p+m.length
   ·simp [h1,h2,h3]
   ·simp [h1,h2,h3,show p+m.length+(k-(p+m.length))<n by omega]
 ·have h2:¬k<p:=by omega
  have h3:¬k<p+m.length:=by omega
  simp [h1,h2,h3,show¬p+m.length+(k-(p+m.length))<n by omega]
theorem aB1 (q:Pth×OneV):∀(Z:Zq) (j:Nat),j<Z.length→putAt ((Z.flatMap iB).map Dt.val) (j*3) ((iB q).map Dt.val)=((Z.set j q).flatMap iB).map Dt.val
 |[],j,h=>by simp at h
 |p::Z,0,h=>by simp [putAt,iB]
 |p::Z,j+1,h=>by
  have ih:=aB1 q Z j (by simpa using h)
  rw [List.set_cons_succ,List.flatMap_cons,List.flatMap_cons,List.map_append,List.map_append,←ih]
  unfold putAt
  have e1:((iB p).map Dt.val).length=3:=rfl
  have e2:((iB q).map Dt.val).length=3:=rfl
  rw [e2,show(j+1)*3=3+j*3 by omega,List.take_append,List.drop_append,e1,List.take_of_length_le (by rw [e1];omega),List.drop_of_length_le (by rw [e1];omega),show 3+j*3-3=j*3 by omega,show 3+j*3+3-3=j*3+3 by omega,List.nil_append,List.append_assoc,List.append_assoc,List.append_assoc]
section
variable {E:Env} {d:Option Nat} {σ:Ss} {K:Ss→Prop}
theorem iY {t:TypeId} {x y:Operand} {i cv j:Nat} {Z:Zq} {q:Pth×OneV} (hd0:d=none) (hk:(E.ti t).known=true) (hsz:(E.ti t).size=3) (hx:σ.opd x= .ptr i (j*3)) (hi:σ.get i=⟨cv, .arr (cZ Z)⟩) (hj:j<Z.length) (hy:σ.opd y= .agg [iv q.1.1,iv q.1.2.1, .v q.2.x])
  (hK:K (σ.ap d .dead [(i,⟨cv+1, .arr (cZ (Z.set j q))⟩)] σ.nx)):eM E d (.store t x y) σ K:=by
 refine⟨[i],_,_,_,fun X o _ hd ho hdn tm rs h1 h2=>?_,hK,fun j hj=> .inr hj⟩
 have hr:rs i=⟨cv, .arr (cZ Z)⟩:=(h2 i (by simp)).trans hi
 have ex:opd tm x=σ.opd x:=h1 x (by rw [ho];simp [Op.operands])
 have ey:opd tm y=σ.opd y:=h1 y (by rw [ho];simp [Op.operands])
 refine SStep0.inn ?_
 rintro a w K Q ⟨hdf,hnn,c,hp,ht,hpin⟩ hK
 have hx1:=dI ht x
 have hy1:=dI ht y
 rw [ex,hx]at hx1
 rw [ey,hy]at hy1
 simp only [Sv.ok]at hx1
 have hcs:(a.eval y).cells.toList=(iB q).map Dt.val:=by
  simp only [Sv.ok]at hy1
  obtain⟨vs,e,h3⟩:=hy1
  rw [e]
  simp only [iv,Sv.okL,Sv.ok]at h3
  obtain⟨_,_,rfl,rfl,_,_,rfl,rfl,_,_,rfl,rfl,rfl⟩:=h3
  simp [Value.cells,iB,Dt.val]
 have h2:=hp.res i
 rw [hr]at h2
 obtain⟨h3,h4⟩:=h2
 simp only [cZ,OwV]at h3
 obtain⟨hsz0,h3⟩:=h3
 rcases h3 with⟨_,e2⟩|⟨g,m,cap,cur,e',e1,e2,e3,e4,e5,e6,e7,e8⟩
 ·have:=fM Z
  rw [e2]at this
  simp at this
  omega
 ·have h5:=h4 _ _ _ e1
  simp at h5
  subst h5
  have hcl:=fM Z
  have hlen:(Z.flatMap iB).length≤cur.size:=by
   rw [←e2,e7];exact Nat.mul_le_mul_right _ e3
  have hl3:((iB q).map Dt.val).length=3:=rfl
  have hrun:=eC (E:=E) hk e6 (v:=a.eval y) (p:=j*3) (by rw [hcs,hsz,hl3]) (by rw [hcs,hl3];omega) (by
   rw [hcs]
   intro z hz
   simp only [iB,List.map_cons,List.map_nil,Dt.val,List.mem_cons,List.not_mem_nil,or_false]at hz
   rcases hz with rfl|rfl|rfl
   ·rfl
   ·rfl
   ·exact q.2.one)
  rw [hcs]at hrun
  have hc1:1≤(rs i).cv:=hx1.1
  obtain⟨hp',hx'⟩:=nO (X:=X) (w':=w.setRow (c i).blk (putAt cur.toList (j*3) ((iB q).map Dt.val)).toArray) hp i hc1 (cv+1) (by rw [hr];exact Nat.lt_succ_self _) (.arr (cZ (Z.set j q))) rfl rfl rfl (by simp) (fT _ (by simpa using e5)) (fun hx'=>by
   refine⟨?_,h4⟩
   simp only [cZ,OwV]
   have hl2:((Z.set j q).flatMap iB).length=(Z.flatMap iB).length:=by rw [fM,fM,List.length_set]
   have hpl:(putAt cur.toList (j*3) ((iB q).map Dt.val)).length=cur.toList.length:=by
    unfold putAt
    rw [List.length_append,List.length_append,List.length_take,List.length_drop,hl3,Array.length_toList];omega
   refine⟨hsz0, .inr ⟨(c i).blk,m,cap,_,e',e1,by rw [hl2];exact e2,e3,e4,e5,setRow_heap w _ cur _ e' (0,0) e6,by rw [List.size_toArray,hpl,Array.length_toList];exact e7,?_⟩⟩
   refine(OwL.flat (kS _)).2 ?_
   have hfl:=(OwL.flat (kS Z)).1 e8
   show(putAt cur.toList (j*3) ((iB q).map Dt.val)).take _=_
   rw [hl2,aGp _ _ _ _ (by rw [hl3];omega) (by rw [Array.length_toList];omega),hfl]
   exact aB1 q Z j hj)
  unfold Oper.wp
  have hrun2:(execOp a.eval o).run E.P w= .ok .skip (w.setRow (c i).blk (putAt cur.toList (j*3) ((iB q).map Dt.val)).toArray):=by
   simp [execOp,ho,hx1.2,hrun]
  rw [hrun2]
  exact hK _ _ (bZ hdf hnn ht hpin hx' hp' (by rw [hd];exact hdn) (by simp [Sv.ok]))
end
end Go.Eng
