/- Several texts in one: Q22, Q30, EngMn, Q40, E03, Q23, Q24. -/
import Derived.Test.YtipohdpnhodnmaaGreatE02q
import Derived.Maps.OwnSet
set_option linter.unusedSimpArgs false
set_option linter.unusedVariables false
set_option maxRecDepth 100000
set_option maxHeartbeats 16000000
section
namespace Go.Cats
open Go.Eng
def xP (n:Nat) (ps:List (List Int)):Prop:=∀k,k<ps.length→(ps.getD k []).length=2∧(0≤(ps.getD k []).getD 0 0∧(ps.getD k []).getD 0 0<n)∧0≤(ps.getD k []).getD 1 0∧(ps.getD k []).getD 1 0<n
end Go.Cats
end
section
namespace Go.Cats
open Go.Eng
theorem tW {n:Nat} {ps:List (List Int)} {k w:Nat} (hw:w<n):(joK n ps (k+1)).getD w 0=if(joK n ps k).getD w 0=(joK n ps k).getD ((ps.getD k []).getD 1 0).toNat 0 then(joK n ps k).getD ((ps.getD k []).getD 0 0).toNat 0 else(joK n ps k).getD w 0:=by
 have hlen:=mX n ps k
 rw [yX]
 unfold joI
 rw [List.take_of_length_le (by omega),List.drop_eq_nil_of_le (by omega),List.append_nil]
 have e:∀g:Int→Int,((joK n ps k).map g).getD w 0=g ((joK n ps k).getD w 0):=fun g=>by
  rw [List.getD_eq_getElem?_getD,List.getElem?_map,List.getD_eq_getElem?_getD,List.getElem?_eq_getElem (by omega)];rfl
 exact e _
structure Gen (n:Nat) (R:Nat→Nat→Prop) (ps:List (List Int)):Prop where
 ok:xP n ps
 refl:∀x,x<n→R x x
 symm:∀x y,x<n→y<n→R x y→R y x
 trans:∀x y z,x<n→y<n→z<n→R x y→R y z→R x z
 pair:∀k,k<ps.length→R ((ps.getD k []).getD 0 0).toNat ((ps.getD k []).getD 1 0).toNat
 all:∀x y,x<n→y<n→R x y→x=y∨∃k,k<ps.length∧((((ps.getD k []).getD 0 0).toNat=x∧((ps.getD k []).getD 1 0).toNat=y)∨(((ps.getD k []).getD 0 0).toNat=y∧((ps.getD k []).getD 1 0).toNat=x))
theorem Gen.to {n:Nat} {R:Nat→Nat→Prop} {ps:List (List Int)} (h:Gen n R ps):∀k,k≤ps.length→∀x y,x<n→y<n→(joK n ps k).getD x 0=(joK n ps k).getD y 0→R x y
 |0,_,x,y,hx,hy,e=>by
  have e:(nums n).getD x 0=(nums n).getD y 0:=e
  rw [sF hx,sF hy]at e
  have:x=y:=by omega
  rw [this];exact h.refl y hy
 |k+1,hk,x,y,hx,hy,e=>by
  have ih:=h.to k (by omega)
  obtain⟨_,p1,p2⟩:=h.ok k (by omega)
  have hp:=h.pair k (by omega)
  rw [tW hx,tW hy]at e
  have ha:((ps.getD k []).getD 0 0).toNat<n:=by omega
  have hb:((ps.getD k []).getD 1 0).toNat<n:=by omega
  generalize ((ps.getD k []).getD 0 0).toNat=a at *
  generalize ((ps.getD k []).getD 1 0).toNat=b at *
  by_cases q1:(joK n ps k).getD x 0=(joK n ps k).getD b 0
  ·rw [if_pos q1]at e
   have r1:=ih x b hx hb q1
   by_cases q2:(joK n ps k).getD y 0=(joK n ps k).getD b 0
   ·exact h.trans x b y hx hb hy r1 (h.symm y b hy hb (ih y b hy hb q2))
   ·rw [if_neg q2]at e
    exact h.trans x b y hx hb hy r1 (h.trans b a y hb ha hy (h.symm a b ha hb hp) (ih a y ha hy e))
  ·rw [if_neg q1]at e
   by_cases q2:(joK n ps k).getD y 0=(joK n ps k).getD b 0
   ·rw [if_pos q2]at e
    exact h.trans x a y hx ha hy (ih x a hx ha e) (h.trans a b y ha hb hy hp (h.symm y b hy hb (ih y b hy hb q2)))
   ·rw [if_neg q2]at e
    exact ih x y hx hy e
theorem aJJ {n:Nat} {ps:List (List Int)} {k x y:Nat} (hx:x<n) (hy:y<n) (e:(joK n ps k).getD x 0=(joK n ps k).getD y 0):(joK n ps (k+1)).getD x 0=(joK n ps (k+1)).getD y 0:=by
 rw [tW hx,tW hy,e]
theorem aDE {n:Nat} {ps:List (List Int)} (h:xP n ps):∀k,k≤ps.length→∀j,j<k→(joK n ps k).getD ((ps.getD j []).getD 0 0).toNat 0=(joK n ps k).getD ((ps.getD j []).getD 1 0).toNat 0
 |0,_,j,hj=>by omega
 |k+1,hk,j,hj=>by
  obtain⟨_,p1,p2⟩:=h j (by omega)
  by_cases e:j=k
  ·subst e
   rw [tW (by omega),tW (by omega),if_pos (c:=(joK n ps j).getD ((ps.getD j []).getD 1 0).toNat 0=(joK n ps j).getD ((ps.getD j []).getD 1 0).toNat 0) rfl]
   split<;>rfl
  ·exact aJJ (by omega) (by omega) (aDE h k (by omega) j (by omega))
section
variable {c:Cat}
end
end Go.Cats
end
section
namespace Go.Eng
open Go Go.Maps Go.RowKit Go.WideMaps Go.Cats
theorem aJt {S:List Int} {v x:Int} {i:Nat} (h:i<S.length):iY (S++[v]) x i=iY S x i:=by
 unfold iY
 rw [List.getD_eq_getElem?_getD,List.getElem?_append_left h,←List.getD_eq_getElem?_getD]
theorem aD5 {S:List Int} {v x:Int}:∀i,i≤S.length→aW i (iY (S++[v]) x)=aW i (iY S x)
 |0,_=>rfl
 |i+1,h=>by rw [iK,iK,aD5 i (by omega),aJt (by omega)]
theorem tV {S:List Int} {v x:Int}:idxOf (S++[v]) x=if 0≤idxOf S x then idxOf S x else if v=x then(S.length:Int)else-1:=by
 have e:iY (S++[v]) x S.length=if v=x then some (S.length:Int)else none:=by
  unfold iY
  rw [List.getD_eq_getElem?_getD,List.getElem?_append_right (Nat.le_refl _),Nat.sub_self]
  rfl
 have e2:idxOf (S++[v]) x=((aW S.length (iY S x)).or (if v=x then some (S.length:Int)else none)).getD (-1):=by
  unfold idxOf
  rw [List.length_append,List.length_singleton,iK,aD5 _ (Nat.le_refl _),e]
 rw [e2]
 have e3:idxOf S x=(aW S.length (iY S x)).getD (-1):=rfl
 cases hs:aW S.length (iY S x)with
 |none=>
  rw [hs]at e3
  simp only [Option.getD_none]at e3
  rw [e3,if_neg (show¬(0:Int)≤-1 by decide)]
  split<;>rfl
 |some r=>
  rw [hs]at e3
  simp only [Option.getD_some]at e3
  obtain⟨i,hi,k⟩:=bN hs
  have:0≤r:=by
   unfold iY at k
   split at k
   ·injection k with k;omega
   ·cases k
  rw [e3,if_pos this];rfl
structure MapN (P:Program) (t k e:TypeId):Prop where
 und:P.underlying t=some (.map k e)
 key:P.underlying k=some (.int .i64)
 el:P.underlying e=some (.int .i64)
 z:∀w,(zeroValue e).run P w= .ok (.int .i64 0) w
def NumOk (D:DataW Unit) (S:List Int):Prop:=size D=S.length∧∀x,(idxOf S x<0→has D (.int .i64 x)=false)∧(0≤idxOf S x→has D (.int .i64 x)=true∧∀z,D.atKey (.int .i64 x) z= .lit (.int .i64 (idxOf S x)))
theorem NumOk.put {D:DataW Unit} {S:List Int} {v:Int} (h:NumOk D S) (hT:Tidy D) (hv:idxOf S v<0):NumOk (D.put (.int .i64 v) (.lit (.int .i64 S.length))) (S++[v]):=by
 obtain⟨h1,h2⟩:=h
 refine⟨?_,fun x=>?_⟩
 ·rw [size_put hT,(h2 v).1 hv,List.length_append,List.length_singleton,h1];rfl
 ·have hk:WideAt.IsKeyLit (.int .i64 v):=trivial
  rw [tV]
  by_cases hx:v=x
  ·subst hx
   rw [if_neg (by omega),if_pos rfl]
   exact⟨fun q=>by omega,fun _=>⟨has_put_same hT.isMap hk _,fun z=>atKey_put_same hT.isMap hk _ z⟩⟩
  ·have hne:(Lit.int .i64 x)≠ .int .i64 v:=fun e=>hx (by injection e with _ e;exact e.symm)
   rw [has_put_other hne]
   have hat:=fun z=>atKey_put_other (D:=D) hne (.lit (.int .i64 S.length)) z
   by_cases hi:0≤idxOf S x
   ·rw [if_pos hi]
    exact⟨fun q=>absurd q (by omega),fun _=>⟨((h2 x).2 hi).1,fun z=>by rw [hat z];exact((h2 x).2 hi).2 z⟩⟩
   ·rw [if_neg hi,if_neg hx]
    exact⟨fun _=>(h2 x).1 (by omega),fun q=>absurd q (by decide)⟩
section
variable {E:Env} {d:Option Nat} {σ:Ss} {K:Ss→Prop}
end
end Go.Eng
end
section
namespace Go.Eng
open Go Go.Cats
theorem wN (l:List Int):∀i j:Nat,j<i→0≤idxOf (clsI l i).2 (l.getD j 0)∧(clsI l i).1.getD j 0=idxOf (clsI l i).2 (l.getD j 0)
 |0,j,hj=>by omega
 |i+1,j,hj=>by
  have hl:=(jY l i).1
  have ap1:∀v:Int,j<i→((clsI l i).1++[v]).getD j 0=(clsI l i).1.getD j 0:=fun v q=>by
   rw [List.getD_eq_getElem?_getD,List.getElem?_append_left (by omega),←List.getD_eq_getElem?_getD]
  have ap2:∀v:Int,((clsI l i).1++[v]).getD i 0=v:=fun v=>by
   rw [List.getD_eq_getElem?_getD,List.getElem?_append_right (by omega),hl,Nat.sub_self];rfl
  by_cases q:idxOf (clsI l i).2 (l.getD i 0)<0
  ·rw [aDa q]
   simp only
   by_cases e:j=i
   ·rw [e,ap2,tV,if_neg (by omega),if_pos rfl]
    exact⟨by omega,rfl⟩
   ·have ih:=wN l i j (by omega)
    rw [ap1 _ (by omega),tV,if_pos ih.1]
    exact ih
  ·rw [aDb q]
   simp only
   by_cases e:j=i
   ·rw [e,ap2];exact⟨by omega,rfl⟩
   ·rw [ap1 _ (by omega)];exact wN l i j (by omega)
theorem aLM {l:List Int} {n i j:Nat} (hi:i<n) (hj:j<n) (e:l.getD i 0=l.getD j 0):(clsI l n).1.getD i 0=(clsI l n).1.getD j 0:=by
 rw [(wN l n i hi).2,(wN l n j hj).2,e]
end Go.Eng
end
section
namespace Go.Eng
open Go Go.Proofs Go.Cats
attribute [local go_sem] List.set_cons_zero List.set_cons_succ
def bR (L:List Int) (i:Nat):List (List Int):=(List.range i).map fun k=>[idxOf L (L.getD k 0),(k:Int)]
section
variable {L:List Int} {i n:Nat}
theorem aDS:bR L 0=[]:=rfl
theorem aDR:bR L (i+1)=bR L i++[[idxOf L (L.getD i 0),(i:Int)]]:=by unfold bR;rw [List.range_succ,List.map_append];rfl
theorem iJ:(bR L i).length=i:=by unfold bR;rw [List.length_map,List.length_range]
theorem aHD {k:Nat} (h:k<i):(bR L i).getD k []=[idxOf L (L.getD k 0),(k:Int)]:=by
 unfold bR;rw [List.getD_eq_getElem?_getD,List.getElem?_map,List.getElem?_range h];rfl
theorem aOx {k:Nat} (h:k<L.length):0≤idxOf L (L.getD k 0)∧idxOf L (L.getD k 0)<L.length:=by
 have:=pH (aT (d:=0) h)
 exact⟨this.1,this.2.1⟩
def gW (n:Nat) (ps:List (List Int)):List Int:=(clsI (joK n ps ps.length) n).1
theorem tU {ps:List (List Int)}:(gW n ps).length=n:=(jY _ n).1
theorem aDs {ps:List (List Int)}:Within (gW n ps) n:=fun i hi=>(jY _ n).2.2 i (by rwa [tU]at hi)
theorem yS {ps:List (List Int)} (h:xP n ps) {k:Nat} (hk:k<ps.length):(gW n ps).getD ((ps.getD k []).getD 0 0).toNat 0=(gW n ps).getD ((ps.getD k []).getD 1 0).toNat 0:=by
 obtain⟨_,p1,p2⟩:=h k hk
 exact aLM (by omega) (by omega) (aDE h _ (Nat.le_refl _) k hk)
theorem aHj {u v:Int} (u0:0≤u) (u1:u<L.length) (v0:0≤v) (v1:v<L.length):xP L.length (bR L L.length++[[u,v]])∧
  (∀i j,i<L.length→j<L.length→L.getD i 0=L.getD j 0→(gW L.length (bR L L.length++[[u,v]])).getD i 0=(gW L.length (bR L L.length++[[u,v]])).getD j 0)∧
  (gW L.length (bR L L.length++[[u,v]])).getD u.toNat 0=(gW L.length (bR L L.length++[[u,v]])).getD v.toNat 0:=by
 have hl:(bR L L.length++[[u,v]]).length=L.length+1:=by rw [List.length_append,iJ];rfl
 have h1:∀k,k<L.length→(bR L L.length++[[u,v]]).getD k []=[idxOf L (L.getD k 0),(k:Int)]:=fun k hk=>by
  rw [List.getD_eq_getElem?_getD,List.getElem?_append_left (by rw [iJ];exact hk),←List.getD_eq_getElem?_getD,aHD hk]
 have h2:(bR L L.length++[[u,v]]).getD L.length []=[u,v]:=by
  rw [List.getD_eq_getElem?_getD,List.getElem?_append_right (by rw [iJ];exact Nat.le_refl _),iJ,Nat.sub_self];rfl
 have ok:xP L.length (bR L L.length++[[u,v]]):=fun k hk=>by
  rw [hl]at hk
  by_cases e:k=L.length
  ·subst e
   rw [h2]
   exact⟨rfl,⟨u0,u1⟩,v0,v1⟩
  ·have hk:k<L.length:=by omega
   have:=aOx hk
   rw [h1 k hk]
   exact⟨rfl,this,by show 0≤(k:Int);omega,by show(k:Int)<_;omega⟩
 have key:∀k,k<L.length→(gW L.length (bR L L.length++[[u,v]])).getD (idxOf L (L.getD k 0)).toNat 0=(gW L.length (bR L L.length++[[u,v]])).getD k 0:=fun k hk=>by
  have:=yS ok (k:=k) (by omega)
  rw [h1 k hk]at this
  simpa using this
 refine⟨ok,fun i j hi hj e=>?_,?_⟩
 ·rw [←key i hi,←key j hj,e]
 ·have:=yS ok (k:=L.length) (by omega)
  rw [h2]at this
  simpa using this
structure GlOk (f:SF) (C:List (List Int)):Prop where
 len:C.length=f.sizes.length
 row:∀x,x<C.length→((C.getD x []).length:Int)=f.sizes.getD x 0∧Within (C.getD x []) (f.sizes.getD x 0)
theorem GlOk.set {f:SF} {C:List (List Int)} {y:Nat} {M:List Int} (h:GlOk f C) (hy:y<C.length) (hl:(M.length:Int)=f.sizes.getD y 0) (hw:Within M M.length):GlOk f (C.set y M):=by
 refine⟨by rw [List.length_set];exact h.len,fun x hx=>?_⟩
 rw [List.length_set]at hx
 by_cases e:y=x
 ·subst e
  rw [List.getD_eq_getElem?_getD,List.getElem?_set_self hx]
  rw [hl]at hw
  exact⟨hl,hw⟩
 ·rw [List.getD_eq_getElem?_getD,List.getElem?_set_ne e,←List.getD_eq_getElem?_getD]
  exact h.row x hx
end
end Go.Eng
end
section
namespace Go.Eng
open Go Go.Proofs Go.Cats
attribute [local go_sem] List.set_cons_zero List.set_cons_succ
end Go.Eng
end
section
namespace Go.Eng
open Go Go.Proofs Go.Cats
attribute [local go_sem] List.set_cons_zero List.set_cons_succ
theorem aJo {E:Env} {d:Option Nat} {σ:Ss} {K:Ss→Prop} {t u:TypeId} {x y:Operand} {k:IntKind} {a b:Int} (hx:σ.opd x= .v (.int k a)) (hy:σ.opd y= .v (.int k b)) (hK:K (σ.ap d (.v (.int k (if b<a then b else a))) [] σ.nx)):
  cG E d (.call {callee:= .builtin .min,args:= #[x,y],argTypes:= #[t,u]}) σ K:=by
 refine⟨[],_,[],_,fun X o _ hd ho hdn tm rs h1 h2=>?_,hK,fun i hi=>by simp at hi⟩
 refine bM (E:=E) (by rw [hd];exact hdn) _ fun ac w c hp h=>?_
 have hx1:=h x
 have hy1:=h y
 rw [h1 x (by rw [ho];simp [Op.operands,Call.operands]),show opd (lk σ.tm) x=σ.opd x from rfl,hx]at hx1
 rw [h1 y (by rw [ho];simp [Op.operands,Call.operands]),show opd (lk σ.tm) y=σ.opd y from rfl,hy]at hy1
 simp only [Sv.ok]at hx1 hy1
 simp [execOp,ho,resolve,invoke,builtin,hx1,hy1,Builtin.min_,Builtin.min2]
end Go.Eng
end
