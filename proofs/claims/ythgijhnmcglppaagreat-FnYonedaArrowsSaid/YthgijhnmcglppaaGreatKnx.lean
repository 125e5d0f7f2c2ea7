/- Several texts in one: Q22, Q23, Q24. -/
import Derived.Test.YthgijhnmcglppaaGreatKjy
set_option linter.unusedSimpArgs false
set_option linter.unusedVariables false
set_option maxRecDepth 100000
set_option maxHeartbeats 16000000
section
namespace Go.Cats
open Go.Eng
def jnK (n:Nat) (ps:List (List Int)):Nat→List Int
 |0=>nums n
 |k+1=>jn (jnK n ps k) ((ps.getD k []).getD 0 0).toNat ((ps.getD k []).getD 1 0).toNat
def aFs (n:Nat) (ps:List (List Int)):Prop:=∀k,k<ps.length→(ps.getD k []).length=2∧(0≤(ps.getD k []).getD 0 0∧(ps.getD k []).getD 0 0<n)∧0≤(ps.getD k []).getD 1 0∧(ps.getD k []).getD 1 0<n
theorem aOX (n:Nat):UF (nums n):=⟨fun x hx=>by rw [cW]at hx;rw [gL hx];omega,fun x hx=>by rw [cW]at hx;rw [gL hx];omega⟩
theorem aHG {n:Nat} {ps:List (List Int)} (h:aFs n ps):∀k,k≤ps.length→UF (jnK n ps k)∧(jnK n ps k).length=n∧∀x y,x<n→y<n→(rt (jnK n ps k) x=rt (jnK n ps k) y↔(joK n ps k).getD x 0=(joK n ps k).getD y 0)
 |0,_=>by
  have hu:=aOX n
  refine⟨hu,cW n,fun x y hx hy=>?_⟩
  have r:∀z,z<n→rt (nums n) z=z:=fun z hz=>zD hu (by rw [cW];exact hz) (by rw [gL hz];omega)
  show rt (nums n) x=rt (nums n) y↔(nums n).getD x 0=(nums n).getD y 0
  rw [r x hx,r y hy,gL hx,gL hy];omega
 |k+1,hk=>by
  obtain⟨h1,h2,h3⟩:=aHG h k (by omega)
  obtain⟨_,p1,p2⟩:=h k (by omega)
  have hx:((ps.getD k []).getD 0 0).toNat<n:=by omega
  have hy:((ps.getD k []).getD 1 0).toNat<n:=by omega
  generalize e1:((ps.getD k []).getD 0 0).toNat=x at *
  generalize e2:((ps.getD k []).getD 1 0).toNat=y at *
  obtain⟨g1,g2,g3⟩:=aT3 (J:=jnK n ps k) (x:=x) (y:=y) h1 (by omega) (by omega)
  have hJ:jnK n ps (k+1)=jn (jnK n ps k) x y:=by rw [jnK,e1,e2]
  rw [hJ]
  refine⟨g1,by rw [g2,h2],fun u v hu hv=>?_⟩
  have hlen:=aA1 n ps k
  have hL:joK n ps (k+1)=joI (joK n ps k) ((joK n ps k).getD x 0) ((joK n ps k).getD y 0) n:=by rw [aGa,e1,e2]
  have hat:∀w,w<n→(joK n ps (k+1)).getD w 0=if(joK n ps k).getD w 0=(joK n ps k).getD y 0 then(joK n ps k).getD x 0 else(joK n ps k).getD w 0:=fun w hw=>by
   rw [hL]
   unfold joI
   rw [List.take_of_length_le (by omega),List.drop_eq_nil_of_le (by omega),List.append_nil]
   have e:∀g:Int→Int,((joK n ps k).map g).getD w 0=g ((joK n ps k).getD w 0):=fun g=>by
    rw [List.getD_eq_getElem?_getD,List.getElem?_map,List.getD_eq_getElem?_getD,List.getElem?_eq_getElem (by omega)];rfl
   exact e _
  rw [g3 (by omega),g3 (by omega),hat u hu,hat v hv]
  have a1:=h3 u v hu hv
  have a2:=h3 u y hu hy
  have a3:=h3 v y hv hy
  have a4:=h3 u x hu hx
  have a5:=h3 v x hv hx
  have a6:=h3 x y hx hy
  generalize (joK n ps k).getD u 0=lu at *
  generalize (joK n ps k).getD v 0=lv at *
  generalize (joK n ps k).getD x 0=lx at *
  generalize (joK n ps k).getD y 0=ly at *
  generalize rt (jnK n ps k) u=ru at *
  generalize rt (jnK n ps k) v=rv at *
  generalize rt (jnK n ps k) x=rx at *
  generalize rt (jnK n ps k) y=ry at *
  rcases Nat.le_total rx ry with q|q
  ·rw [Nat.max_eq_right q,Nat.min_eq_left q]
   (repeat' split)<;>omega
  ·rw [Nat.max_eq_left q,Nat.min_eq_right q]
   (repeat' split)<;>omega
theorem aJn {f g:Nat→Option Int}:∀n,(∀i,i<n→f i=g i)→aZ n f=aZ n g
 |0,_=>rfl
 |n+1,h=>by rw [gB,gB,aJn n fun i hi=>h i (by omega),h n (by omega)]
theorem aKd {P:List Nat} {f g:Nat→Int} {x y:Int} (h:∀p∈P,f p=x↔g p=y):idxOf (P.map f) x=idxOf (P.map g) y:=by
 unfold idxOf
 rw [List.length_map,List.length_map]
 rw [aJn P.length fun i hi=>?_]
 have hm:P[i]∈P:=List.getElem_mem hi
 unfold iO
 have e:∀f:Nat→Int,(P.map f).getD i 0=f P[i]:=fun f=>by rw [List.getD_eq_getElem?_getD,List.getElem?_map,List.getElem?_eq_getElem hi];rfl
 rw [e,e]
 by_cases q:f P[i]=x
 ·rw [if_pos q,if_pos ((h _ hm).1 q)]
 ·rw [if_neg q,if_neg fun r=>q ((h _ hm).2 r)]
theorem aBD {l m:List Int} {n:Nat} (h:∀i j,i<n→j<n→(l.getD i 0=l.getD j 0↔m.getD i 0=m.getD j 0)):∀i,i≤n→(clsI l i).1=(clsI m i).1∧∃P:List Nat,(∀p∈P,p<i)∧(clsI l i).2=P.map (fun p=>l.getD p 0)∧(clsI m i).2=P.map fun p=>m.getD p 0
 |0,_=>⟨rfl,[],(fun p hp=>absurd hp List.not_mem_nil),rfl,rfl⟩
 |i+1,hi=>by
  obtain⟨h1,P,h2,h3,h4⟩:=aBD h i (by omega)
  have e:idxOf (clsI l i).2 (l.getD i 0)=idxOf (clsI m i).2 (m.getD i 0):=by
   rw [h3,h4]
   exact aKd fun p hp=>h p i (by have:=h2 p hp;omega) (by omega)
  have el:(clsI l i).2.length=(clsI m i).2.length:=by rw [h3,h4,List.length_map,List.length_map]
  by_cases q:idxOf (clsI l i).2 (l.getD i 0)<0
  ·rw [wB q,wB (by rw [←e];exact q)]
   refine⟨by simp only;rw [h1,el],P++[i],fun p hp=>?_,by simp only;rw [h3,List.map_append];rfl,by simp only;rw [h4,List.map_append];rfl⟩
   rcases List.mem_append.1 hp with hp|hp
   ·have:=h2 p hp;omega
   ·rw [List.mem_singleton]at hp;omega
  ·rw [wC q,wC (by rw [←e];exact q)]
   exact⟨by simp only;rw [h1,e],P,fun p hp=>by have:=h2 p hp;omega,h3,h4⟩
theorem aQJ {n:Nat} {ps:List (List Int)} (h:aFs n ps):(clsI ((List.range n).map fun x=>(rt (jnK n ps ps.length) x:Int)) n).1=(clsI (joK n ps ps.length) n).1:=by
 obtain⟨_,_,h3⟩:=aHG h ps.length (Nat.le_refl _)
 refine(aBD (fun i j hi hj=>?_) n (Nat.le_refl n)).1
 have e:∀i,i<n→((List.range n).map fun x=>(rt (jnK n ps ps.length) x:Int)).getD i 0=rt (jnK n ps ps.length) i:=fun i hi=>by
  rw [List.getD_eq_getElem?_getD,List.getElem?_map,List.getElem?_range hi];rfl
 rw [e i hi,e j hj,←h3 i j hi hj];omega
end Go.Cats
end
section
namespace Go.Eng
open Go Go.Proofs Go.Cats
attribute [local go_sem] List.set_cons_zero List.set_cons_succ
theorem kY:aD Tryz.prog 199:=⟨_,Tryz.func199,rfl,rfl⟩
theorem mW {J:List Int} {x:Nat} (hu:UF J) (hx:x<J.length) (hl:J.length≤1048576):Spec Tryz.prog 199 [.sl 0,iv x] [(0,⟨1, .arr (ints J)⟩)] (iv (rt J x)) [(0,⟨1, .arr (ints (hv J x))⟩)]:=by
 refine aC (E:=TE) 1 Tryz.func199 rfl (by simp [Tryz.f199]) fun X hn hX=>?_
 repeat'(first|refine wkQ ?_|refine Tw.f ?_ ?_|(refine fun(hc:(_:Bool)=_)=>?_;try simp only [hcS]at hc))
 all_goals try exact om_
 refine aG (G:={p:Nat×List Int×Nat//UF p.2.1∧p.2.1.length=J.length∧p.2.2<J.length∧p.2.2≤p.1∧hvF p.1 p.2.1 p.2.2=hv J x∧rt p.2.1 p.2.2=rt J x}) (fun p=>[(1,iv p.1.2.2)]) [0,4] (fun p=>[(0,⟨1, .arr (ints p.1.2.1)⟩)]) [0] (fun p=>p.1.1) ⟨(x,J,x),hu,rfl,hx,Nat.le_refl x,rfl,rfl⟩ ?_ ?_
 ·exact Imp.au hX
 rintro⟨⟨k,A,y⟩,g1,g2,g3,g4,g5,g6⟩
 simp only at g1 g2 g3 g4 g5 g6
 simp only [go_sem,simprocAttr]
 have p0:=g1.lo y (by omega)
 have p1:=g1.hi y (by omega)
 have q0:=g1.lo (A.getD y 0).toNat (by omega)
 have q1:=g1.hi (A.getD y 0).toNat (by omega)
 have hs:(A.set y (A.getD (A.getD y 0).toNat 0)).getD y 0=A.getD (A.getD y 0).toNat 0:=by rw [rE (by omega),if_pos rfl]
 by_cases q:(A.getD y 0).toNat=y
 ·have hr:=zD g1 (by omega:y<A.length) q
  have hh:hvF k A y=A:=by
   cases k with
   |zero=>rfl
   |succ k=>rw [hvF,if_pos q]
  rw [hh]at g5
  rw [←g5,←g6,hr]
  have q2:A.getD y 0=(y:Int):=by omega
  repeat'(first|refine wkQ ?_|refine Tw.f ?_ ?_|(refine fun(hc:(_:Bool)=_)=>?_;try simp only [hcS]at hc))
  all_goals try exact om_
  (first|refine aB ?_|refine aA ?_);simp only [go_sem,simprocAttr,Tryz.f199]
 ·have q2:¬A.getD y 0=(y:Int):=by omega
  obtain⟨k',rfl⟩:∃k',k=k'+1:=⟨k-1,by omega⟩
  rw [hvF,if_neg q]at g5
  obtain⟨u1,u2⟩:=aJj g1 (by omega:y<A.length)
  have r1:rt (A.set y (A.getD (A.getD y 0).toNat 0)) (A.getD (A.getD y 0).toNat 0).toNat=rt J x:=by
   rw [u2 (by omega),aCl g1 (by omega),aCl g1 (by omega),g6]
  have hnn:A.getD (A.getD y 0).toNat 0=(((A.getD (A.getD y 0).toNat 0).toNat:Nat):Int):=by omega
  repeat'(first|(rw [hs])|(with_reducible first|refine St.f ?_|refine V_c ?_|refine And.intro ?_ ?_|refine aJ ?_ ?_|refine aO ?_)|((refine aV ?_);intro K hK)|((with_reducible refine So.f ?_);intro K hK;simp(contextual:=true)only [go_sem,simprocAttr])|((with_reducible refine hK _ ?_);clear hK K)|(refine fun(hc:(_:Bool)=_)=>?_;try simp only [hcS]at hc))
  all_goals try exact om_
  exact⟨⟨(k',A.set y (A.getD (A.getD y 0).toNat 0),(A.getD (A.getD y 0).toNat 0).toNat),u1,by rw [List.length_set];exact g2,by simp only;omega,by simp only;omega,g5,r1⟩,by simp only;omega,Imp.auto hX (by simp only [go_sem,simprocAttr,←hnn])⟩
end Go.Eng
end
section
namespace Go.Eng
open Go Go.Proofs Go.Cats
attribute [local go_sem] List.set_cons_zero List.set_cons_succ
theorem aL6 {E:Env} {d:Option Nat} {σ:Ss} {K:Ss→Prop} {t u:TypeId} {x y:Operand} {k:IntKind} {a b:Int} (hx:σ.opd x= .v (.int k a)) (hy:σ.opd y= .v (.int k b)) (hK:K (σ.ap d (.v (.int k (if b<a then b else a))) [] σ.nx)):
  dV E d (.call {callee:= .builtin .min,args:= #[x,y],argTypes:= #[t,u]}) σ K:=by
 refine⟨[],_,[],_,fun X o _ hd ho hdn tm rs h1 h2=>?_,hK,fun i hi=>by simp at hi⟩
 refine cY (E:=E) (by rw [hd];exact hdn) _ fun ac w c hp h=>?_
 have hx1:=h x
 have hy1:=h y
 rw [h1 x (by rw [ho];simp [Op.operands,Call.operands]),show opd (lk σ.tm) x=σ.opd x from rfl,hx]at hx1
 rw [h1 y (by rw [ho];simp [Op.operands,Call.operands]),show opd (lk σ.tm) y=σ.opd y from rfl,hy]at hy1
 simp only [Sv.ok]at hx1 hy1
 simp [execOp,ho,resolve,invoke,builtin,hx1,hy1,Builtin.min_,Builtin.min2]
theorem aAx:aD Tryz.prog 101:=⟨_,Tryz.func101,rfl,rfl⟩
theorem aCs {J:List Int} {x y:Nat} (hu:UF J) (hx:x<J.length) (hy:y<J.length) (hl:J.length≤1048576):Spec Tryz.prog 101 [.sl 0,iv x,iv y] [(0,⟨1, .arr (ints J)⟩)] (bv (!decide ((rt J x:Int)=rt J y))) [(0,⟨1, .arr (ints (jn J x y))⟩)]:=by
 refine aC (E:=TE) 1 Tryz.func101 rfl (by simp [Tryz.f101]) fun X hn hX=>?_
 obtain⟨h1,l1,r1⟩:=yQ x J x hu hx
 have e1:rt (hv J x) y=rt J y:=r1 hy
 have l1:(hv J x).length=J.length:=l1
 have h1:UF (hv J x):=h1
 obtain⟨h2,l2,r2⟩:=yQ y (hv J x) y h1 (by omega)
 have l2:(hv (hv J x) y).length=(hv J x).length:=l2
 have a1:=aEd hu hx
 have a2:=aEd hu hy
 have m1:(if(rt J y:Int)>rt J x then(rt J y:Int)else rt J x)=((max (rt J x) (rt J y):Nat):Int):=by split<;>omega
 have m2:(if(rt J y:Int)<rt J x then(rt J y:Int)else rt J x)=((min (rt J x) (rt J y):Nat):Int):=by split<;>omega
 have m3:max (rt J x) (rt J y)<J.length:=by omega
 have hr1:=mW hu hx hl
 have hr2:=mW (J:=hv J x) (x:=y) h1 (by omega) (by omega)
 rw [e1]at hr2
 repeat'(first|(refine aL5 (by simp only [go_sem,simprocAttr];rfl) (by simp only [go_sem,simprocAttr];rfl) ?_;simp only [go_sem,simprocAttr];rw [m1])|(refine aL6 (by simp only [go_sem,simprocAttr];rfl) (by simp only [go_sem,simprocAttr];rfl) ?_;simp only [go_sem,simprocAttr];rw [m2])|(with_reducible first|refine St.f ?_|refine V_c ?_|refine And.intro ?_ ?_|refine aJ ?_ ?_)|((refine aV ?_);intro K hK)|((with_reducible refine So.f ?_);intro K hK;simp(contextual:=true)only [go_sem,simprocAttr])|((with_reducible refine hK _ ?_);clear hK K)|((with_reducible refine(id ?_:EvCall _ _ [.sl 0,iv x] _ _));refine EvCall.mr (hr1) kY [(0,0)] [] ?_)|((with_reducible refine(id ?_:EvCall _ _ [.sl 0,iv y] _ _));refine EvCall.mr (hr2) kY [(0,0)] [] ?_)|(refine fun(hc:(_:Bool)=_)=>?_;try simp only [hcS]at hc))
 all_goals try exact om_
 ·(first|refine aB ?_|refine aA ?_);simp only [go_sem,simprocAttr,Tryz.f101]
  rfl
def lbN (J:List Int):Nat→List Int
 |0=>J
 |i+1=>hv (lbN J i) i
theorem aMt {J:List Int} (h:UF J):∀i,i≤J.length→UF (lbN J i)∧(lbN J i).length=J.length∧∀{y:Nat},y<J.length→rt (lbN J i) y=rt J y
 |0,_=>⟨h,rfl,fun _=>rfl⟩
 |i+1,hi=>by
  obtain⟨h1,h2,h3⟩:=aMt h i (by omega)
  obtain⟨g1,g2,g3⟩:=yQ i (lbN J i) i h1 (by omega)
  exact⟨g1,g2.trans h2,fun hy=>(g3 (by omega)).trans (h3 hy)⟩
end Go.Eng
end
