/- Several texts in one: EngMn, Q30, Q40, P40b. -/
import Derived.Test.YthgijhnmcglppaaGreatKnx
import Derived.Maps.OwnSet
import Derived.Test.YthgijhnmcglppaaGreatRows
import Derived.JoinedOf
import Derived.ProofKit
set_option linter.unusedVariables false
set_option linter.unusedSimpArgs false
set_option maxRecDepth 100000
set_option maxHeartbeats 16000000
section
namespace Go.Eng
open Go Go.Maps Go.RowKit Go.WideMaps Go.Cats
theorem aL8 {S:List Int} {v x:Int} {i:Nat} (h:i<S.length):iO (S++[v]) x i=iO S x i:=by
 unfold iO
 rw [List.getD_eq_getElem?_getD,List.getElem?_append_left h,←List.getD_eq_getElem?_getD]
theorem aGK {S:List Int} {v x:Int}:∀i,i≤S.length→aZ i (iO (S++[v]) x)=aZ i (iO S x)
 |0,_=>rfl
 |i+1,h=>by rw [gB,gB,aGK i (by omega),aL8 (by omega)]
theorem yR {S:List Int} {v x:Int}:idxOf (S++[v]) x=if 0≤idxOf S x then idxOf S x else if v=x then(S.length:Int)else-1:=by
 have e:iO (S++[v]) x S.length=if v=x then some (S.length:Int)else none:=by
  unfold iO
  rw [List.getD_eq_getElem?_getD,List.getElem?_append_right (Nat.le_refl _),Nat.sub_self]
  rfl
 have e2:idxOf (S++[v]) x=((aZ S.length (iO S x)).or (if v=x then some (S.length:Int)else none)).getD (-1):=by
  unfold idxOf
  rw [List.length_append,List.length_singleton,gB,aGK _ (Nat.le_refl _),e]
 rw [e2]
 have e3:idxOf S x=(aZ S.length (iO S x)).getD (-1):=rfl
 cases hs:aZ S.length (iO S x)with
 |none=>
  rw [hs]at e3
  simp only [Option.getD_none]at e3
  rw [e3,if_neg (show¬(0:Int)≤-1 by decide)]
  split<;>rfl
 |some r=>
  rw [hs]at e3
  simp only [Option.getD_some]at e3
  obtain⟨i,hi,k⟩:=cR hs
  have:0≤r:=by
   unfold iO at k
   split at k
   ·injection k with k;omega
   ·cases k
  rw [e3,if_pos this];rfl
structure MapN (P:Program) (t k e:TypeId):Prop where
 und:P.underlying t=some (.map k e)
 key:P.underlying k=some (.int .i64)
 el:P.underlying e=some (.int .i64)
 z:∀w,(zeroValue e).run P w= .ok (.int .i64 0) w
def NumOk (D:DataW Unit) (S:List Int):Prop:=size D=S.length∧∀x,(idxOf S x<0→has D (.int .i64 x)=false)∧(0≤idxOf S x→has D (.int .i64 x)=true∧∀z,D.atKey (.int .i64 x) z= .lit (.int .i64 (idxOf S x)))
def aUj (P:Program) (k e:TypeId) (S:List Int):Ab:=
 ⟨fun w v F=>∃b D,v= .map (some b)∧F b∧w.ownsMap P k (plainElem P e) b S.length D∧NumOk D S,by
  rintro w w' v F ag ⟨b,D,h1,h2,⟨es,clock,h3,h4⟩,h5⟩
  exact⟨b,D,h1,h2,⟨es,clock,(ag b h2).trans h3,h4⟩,h5⟩⟩
def uR (P:Program) (k e:TypeId) (S:List Int):Dt:= .ab (aUj P k e S)
theorem uS {P:Program} {k e:TypeId} {S:List Int} {w:World} {F:Nat→Prop} {u:Value} (h:OwV w F (uR P k e S) u):∃b D,u= .map (some b)∧F b∧w.ownsMap P k (plainElem P e) b S.length D∧NumOk D S:=by
 simp only [uR,OwV]at h
 obtain⟨_,F',h1,b,D,h2,h3,h4⟩:=h
 exact⟨b,D,h2,h1 b h3,h4⟩
theorem aIW {P:Program} {k e:TypeId} {S:List Int} {w:World} {F:Nat→Prop} {b:Nat} {D:DataW Unit} (hb:F b) (h:w.ownsMap P k (plainElem P e) b S.length D) (h2:NumOk D S):OwV w F (uR P k e S) (.map (some b)):=by
 simp only [uR,OwV]
 exact⟨rfl,F,fun _ h=>h,b,D,rfl,hb,h,h2⟩
theorem aKp:NumOk (.map []) []:=⟨rfl,fun x=>⟨fun _=>rfl,fun h=>absurd h (by rw [show idxOf [] x= -1 from rfl];decide)⟩⟩
theorem NumOk.put {D:DataW Unit} {S:List Int} {v:Int} (h:NumOk D S) (hT:Tidy D) (hv:idxOf S v<0):NumOk (D.put (.int .i64 v) (.lit (.int .i64 S.length))) (S++[v]):=by
 obtain⟨h1,h2⟩:=h
 refine⟨?_,fun x=>?_⟩
 ·rw [size_put hT,(h2 v).1 hv,List.length_append,List.length_singleton,h1];rfl
 ·have hk:WideAt.IsKeyLit (.int .i64 v):=trivial
  rw [yR]
  by_cases hx:v=x
  ·subst hx
   rw [if_neg (by omega),if_pos rfl]
   exact⟨fun q=>by omega,fun _=>⟨has_put_same hT.isMap hk _,fun z=>atKey_put_same hT.isMap hk _ z⟩⟩
  ·have hne:(Lit.int .i64 x)≠ .int .i64 v:=fun e=>hx (by injection e with _ e;exact e.symm)
   rw [has_put_other hne]
   have hat:=fun z=>atKey_put_other (D:=D) hne (.lit (.int .i64 S.length)) z
   by_cases hi:0≤idxOf S x
   ·rw [if_pos hi]
    exact⟨fun q=>absurd q (by omega),fun _=>⟨((h2 x).2 hi).1,fun z=>by rw [hat z];exact((h2 x).2 hi).2 z⟩⟩
   ·rw [if_neg hi,if_neg hx]
    exact⟨fun _=>(h2 x).1 (by omega),fun q=>absurd q (by decide)⟩
section
variable {E:Env} {d:Option Nat} {σ:Ss} {K:Ss→Prop}
theorem aHA {t k e:TypeId} (hf:σ.get σ.nx=⟨0, .gone⟩) (hK:K (σ.ap d (.sl σ.nx) [(σ.nx,⟨1, .arr (uR E.P k e [])⟩)] (σ.nx+1))):dV E d (.makeMap t none) σ K:=by
 refine⟨[σ.nx],_,[(σ.nx,_)],_,fun X o _ hd ho hdn tm rs h1 h2=>?_,hK,fun i hi=> .inr hi⟩
 have hu:rs σ.nx=⟨0, .gone⟩:=(h2 _ (by simp)).trans hf
 refine SStep0.inn ?_
 rintro a w K Q ⟨hdf,hn,c,hp,ht,hpin⟩ hK
 have hag:Agree (fun b=>b<w.heap.size) w (w.alloc (.map #[] 0)):=fun b hb=>Go.RowKit.Below.heap_alloc w _ b hb
 obtain⟨hp',hx⟩:=aA5 (X:=X) (w':=w.alloc (.map #[] 0)) hp σ.nx hu ⟨w.heap.size, .map (some w.heap.size),fun b=>b=w.heap.size⟩ (.arr (uR E.P k e [])) rfl rfl rfl (by simp) hag
  (fun b hb=>by have hb':b=w.heap.size:=hb;subst hb';simp) rfl (fun _=>⟨aIW rfl (World.ownsMap_made w E.P k (plainElem E.P e)) aKp,fun _ _ _ h=>by cases h⟩)
 unfold Oper.wp
 have hrun:(execOp a.eval o).run E.P w= .ok (.value (.map (some w.heap.size))) (w.alloc (.map #[] 0)):=by
  simp [execOp,ho,run_makeMap]
 rw [hrun]
 refine hK _ _ (cN hdf hn ht hpin hx hp' (by rw [hd];exact hdn) ?_)
 simp [Sv.ok,upd_same]
theorem aBY {t k e:TypeId} {m x:Operand} {i cv:Nat} {S:List Int} {v:Int} (hT:MapN E.P t k e) (hm:σ.opd m= .sl i) (hi:σ.get i=⟨cv, .arr (uR E.P k e S)⟩) (hx:σ.opd x=iv v) (hv:inR v)
  (hK:K (σ.ap d (.tup [iv (if 0≤idxOf S v then idxOf S v else 0),bv (decide (0≤idxOf S v))]) [] σ.nx)):dV E d (.lookup t m x true) σ K:=by
 refine⟨[i],_,[],_,fun X o _ hd ho hdn tm rs h1 h2=>?_,hK,fun j hj=> .inl ?_⟩
 ·have hr:rs i=⟨cv, .arr (uR E.P k e S)⟩:=(h2 i (by simp)).trans hi
  have em:opd tm m=σ.opd m:=h1 m (by rw [ho];simp [Op.operands])
  have ex:opd tm x=σ.opd x:=h1 x (by rw [ho];simp [Op.operands])
  refine aY (E:=E) (by rw [hd];exact hdn) fun ac w c hp h=>?_
  have hm1:=h m
  have hx1:=h x
  rw [em,hm]at hm1
  rw [ex,hx]at hx1
  simp only [Sv.ok]at hm1 hx1
  have hres:=hp.res i
  rw [hr]at hres
  obtain⟨b,D,hb1,hb2,hown,hD⟩:=uS hres.1
  obtain⟨u,ps,hrun,hat⟩:=hown.look_ok (t:=t) (int_keyed hT.key) hT.und (hT.z w) (zd:= .lit (.int .i64 0)) (zp:=[]) (plainElem_int hT.el (by decide)) (aQ6 hT.key hv)
  have key:u= .int .i64 (if 0≤idxOf S v then idxOf S v else 0)∧has D (.int .i64 v)=decide (0≤idxOf S v):=by
   obtain⟨n,hu,hz,_⟩:=plainElem_int_inv hT.el hat
   have hz1:D.atKey (.int .i64 v) (.lit (.int .i64 0))= .lit (.int .i64 n):=congrArg Prod.fst hz
   by_cases q:0≤idxOf S v
   ·obtain⟨g1,g2⟩:=(hD.2 v).2 q
    rw [g2]at hz1
    have:idxOf S v=n:=by injection hz1 with h;injection h
    rw [if_pos q,decide_eq_true q,g1,this]
    exact⟨hu,rfl⟩
   ·have g1:=(hD.2 v).1 (by omega)
    rw [atKey_of_not_has g1]at hz1
    have:(0:Int)=n:=by injection hz1 with h;injection h
    rw [if_neg q,decide_eq_false q,g1,this]
    exact⟨hu,rfl⟩
  refine⟨.tuple #[u, .bool (has D (.int .i64 v))],?_,?_⟩
  ·simp [execOp,ho,hm1.2,hb1,hx1,hrun]
  ·rw [key.1,key.2]
   simp [Sv.ok,Sv.okL]
 ·simp only [List.mem_singleton]at hj
  subst hj
  exact mQ (by simp [Op.operands,hm,Sv.ids])
theorem aJ8 {t k e:TypeId} {m x v:Operand} {i cv:Nat} {S:List Int} {y:Int} (hT:MapN E.P t k e) (hd0:d=none) (hm:σ.opd m= .sl i) (hi:σ.get i=⟨cv, .arr (uR E.P k e S)⟩)
  (hx:σ.opd x=iv y) (hy:inR y) (hv:σ.opd v=iv S.length) (hn:S.length<maxLen) (hnew:idxOf S y<0)
  (hK:K (σ.ap d .dead [(i,⟨cv+1, .arr (uR E.P k e (S++[y]))⟩)] σ.nx)):dV E d (.mapUpdate t m x v) σ K:=by
 refine⟨[i],_,_,_,fun X o _ hd ho hdn tm rs h1 h2=>?_,hK,fun j hj=> .inr hj⟩
 have hr:rs i=⟨cv, .arr (uR E.P k e S)⟩:=(h2 i (by simp)).trans hi
 have em:opd tm m=σ.opd m:=h1 m (by rw [ho];simp [Op.operands])
 have ex:opd tm x=σ.opd x:=h1 x (by rw [ho];simp [Op.operands])
 have ev:opd tm v=σ.opd v:=h1 v (by rw [ho];simp [Op.operands])
 refine SStep0.inn ?_
 rintro a w K Q ⟨hdf,hnn,c,hp,ht,hpin⟩ hK
 have hm1:=dG ht m
 have hx1:=dG ht x
 have hv1:=dG ht v
 rw [em,hm]at hm1
 rw [ex,hx]at hx1
 rw [ev,hv]at hv1
 simp only [Sv.ok]at hm1 hx1 hv1
 have hres:=hp.res i
 rw [hr]at hres
 obtain⟨b,D,hb1,hb2,hown,hD⟩:=uS hres.1
 have hwf:(Lit.int .i64 (S.length:Int)).wf=true:=by
  unfold maxLen at hn
  simp [Lit.wf,IntKind.min,IntKind.max,IntKind.signed,IntKind.bits];omega
 obtain⟨w',hrun,hown',hg⟩:=hown.update (t:=t) (int_keyed hT.key) hT.und hn (aQ6 hT.key hy) (plainElem_int hT.el hwf)
 have hD':=hD.put (hown.tidy (int_keyed hT.key)) hnew
 have hc1:1≤(rs i).cv:=hm1.1
 have hsz:w'.heap.size=w.heap.size:=by
  obtain⟨es,clock,g1,g2,g3,_⟩:=hown
  obtain⟨es',clock',hrun3,_⟩:=Maps.fit_store (R':=plainElem (H:=Unit) E.P e) (int_keyed hT.key) hT.und g1 g2 (Nat.lt_of_le_of_lt g3 hn) (fun _ _ _ _ h=>h) (aQ6 hT.key hy) (plainElem_int hT.el hwf)
  rw [hrun3]at hrun
  injection hrun with _ e
  rw [←e]
  simp [Go.ChangeMaps.setBlock]
 have hag:Agree (fun b=>¬(c i).fp b) w w':=fun j hj=>by
  by_cases hlt:j<w.heap.size
  ·exact hg.block j hlt (fun h=>hj (by injection h with h;rw [h];exact hb2))
  ·rw [Array.getElem?_eq_none (by omega),Array.getElem?_eq_none (by omega)]
 obtain⟨hp',hx'⟩:=iM (X:=X) (w':=w') hp i hc1 (cv+1) (by rw [hr];exact Nat.lt_succ_self _) (.arr (uR E.P k e (S++[y]))) hg.os hg.tape hg.output hsz hag (fun _=>⟨by rw [hb1];exact aIW hb2 (by rw [List.length_append,List.length_singleton];exact hown') hD',fun _ _ _ h=>by rw [hb1]at h;cases h⟩)
 unfold Oper.wp
 have hrun2:(execOp a.eval o).run E.P w= .ok .skip w':=by
  simp [execOp,ho,hm1.2,hb1,hx1,hv1,hrun]
 rw [hrun2]
 exact hK _ _ (cN hdf hnn ht hpin hx' hp' (by rw [hd];exact hdn) (by simp [Sv.ok]))
theorem aJ7 {X:Cx} {t k e:TypeId} {m:Operand} {i cv:Nat} {S:List Int} (hT:MapN E.P t k e) (hm:σ.opd m= .sl i) (hi:σ.get i=⟨cv, .arr (uR E.P k e S)⟩)
  (hK:K (σ.ap d (iv S.length) [] σ.nx)):HkX X E d (.call {callee:= .builtin .len,args:= #[m],argTypes:= #[t]}) σ K:=by
 refine⟨[i],_,[],_,fun w1 U1 ds hrb o hd ho hdn tm rs h1 h2=>?_,hK,fun j hj=> .inl ?_⟩
 ·have hr:rs i=⟨cv, .arr (uR E.P k e S)⟩:=(h2 i (by simp)).trans hi
  have em:opd tm m=σ.opd m:=h1 m (by rw [ho];simp [Op.operands,Call.operands])
  refine aY (E:=E) (by rw [hd];exact hdn) fun ac w c hp h=>?_
  have hm1:=h m
  rw [em,hm]at hm1
  simp only [Sv.ok]at hm1
  have hres:=hp.res i
  rw [hr]at hres
  obtain⟨b,D,hb1,hb2,hown,hD⟩:=uS hres.1
  have hl:=hown.len hT.und o.type
  rw [hD.1]at hl
  refine⟨.int .i64 S.length,?_,by simp [Sv.ok]⟩
  simp [execOp,ho,resolve,invoke,builtin,hm1.2,hb1,hl]
 ·simp only [List.mem_singleton]at hj
  subst hj
  exact mQ (by simp [Op.operands,Call.operands,hm,Sv.ids])
end
end Go.Eng
end
section
namespace Go.Cats
open Go.Eng
theorem yU {n:Nat} {ps:List (List Int)} {k w:Nat} (hw:w<n):(joK n ps (k+1)).getD w 0=if(joK n ps k).getD w 0=(joK n ps k).getD ((ps.getD k []).getD 1 0).toNat 0 then(joK n ps k).getD ((ps.getD k []).getD 0 0).toNat 0 else(joK n ps k).getD w 0:=by
 have hlen:=aA1 n ps k
 rw [aGa]
 unfold joI
 rw [List.take_of_length_le (by omega),List.drop_eq_nil_of_le (by omega),List.append_nil]
 have e:∀g:Int→Int,((joK n ps k).map g).getD w 0=g ((joK n ps k).getD w 0):=fun g=>by
  rw [List.getD_eq_getElem?_getD,List.getElem?_map,List.getD_eq_getElem?_getD,List.getElem?_eq_getElem (by omega)];rfl
 exact e _
structure Gen (n:Nat) (R:Nat→Nat→Prop) (ps:List (List Int)):Prop where
 ok:aFs n ps
 refl:∀x,x<n→R x x
 symm:∀x y,x<n→y<n→R x y→R y x
 trans:∀x y z,x<n→y<n→z<n→R x y→R y z→R x z
 pair:∀k,k<ps.length→R ((ps.getD k []).getD 0 0).toNat ((ps.getD k []).getD 1 0).toNat
 all:∀x y,x<n→y<n→R x y→x=y∨∃k,k<ps.length∧((((ps.getD k []).getD 0 0).toNat=x∧((ps.getD k []).getD 1 0).toNat=y)∨(((ps.getD k []).getD 0 0).toNat=y∧((ps.getD k []).getD 1 0).toNat=x))
theorem Gen.to {n:Nat} {R:Nat→Nat→Prop} {ps:List (List Int)} (h:Gen n R ps):∀k,k≤ps.length→∀x y,x<n→y<n→(joK n ps k).getD x 0=(joK n ps k).getD y 0→R x y
 |0,_,x,y,hx,hy,e=>by
  have e:(nums n).getD x 0=(nums n).getD y 0:=e
  rw [gL hx,gL hy]at e
  have:x=y:=by omega
  rw [this];exact h.refl y hy
 |k+1,hk,x,y,hx,hy,e=>by
  have ih:=h.to k (by omega)
  obtain⟨_,p1,p2⟩:=h.ok k (by omega)
  have hp:=h.pair k (by omega)
  rw [yU hx,yU hy]at e
  have ha:((ps.getD k []).getD 0 0).toNat<n:=by omega
  have hb:((ps.getD k []).getD 1 0).toNat<n:=by omega
  generalize ((ps.getD k []).getD 0 0).toNat=a at *
  generalize ((ps.getD k []).getD 1 0).toNat=b at *
  by_cases q1:(joK n ps k).getD x 0=(joK n ps k).getD b 0
  ·rw [if_pos q1]at e
   have r1:=ih x b hx hb q1
   by_cases q2:(joK n ps k).getD y 0=(joK n ps k).getD b 0
   ·exact h.trans x b y hx hb hy r1 (h.symm y b hy hb (ih y b hy hb q2))
   ·rw [if_neg q2]at e
    exact h.trans x b y hx hb hy r1 (h.trans b a y hb ha hy (h.symm a b ha hb hp) (ih a y ha hy e))
  ·rw [if_neg q1]at e
   by_cases q2:(joK n ps k).getD y 0=(joK n ps k).getD b 0
   ·rw [if_pos q2]at e
    exact h.trans x a y hx ha hy (ih x a hx ha e) (h.trans a b y ha hb hy hp (h.symm y b hy hb (ih y b hy hb q2)))
   ·rw [if_neg q2]at e
    exact ih x y hx hy e
theorem aMo {n:Nat} {ps:List (List Int)} {k x y:Nat} (hx:x<n) (hy:y<n) (e:(joK n ps k).getD x 0=(joK n ps k).getD y 0):(joK n ps (k+1)).getD x 0=(joK n ps (k+1)).getD y 0:=by
 rw [yU hx,yU hy,e]
theorem aF9 {n:Nat} {ps:List (List Int)} (h:aFs n ps):∀k,k≤ps.length→∀j,j<k→(joK n ps k).getD ((ps.getD j []).getD 0 0).toNat 0=(joK n ps k).getD ((ps.getD j []).getD 1 0).toNat 0
 |0,_,j,hj=>by omega
 |k+1,hk,j,hj=>by
  obtain⟨_,p1,p2⟩:=h j (by omega)
  by_cases e:j=k
  ·subst e
   rw [yU (by omega),yU (by omega),if_pos (c:=(joK n ps j).getD ((ps.getD j []).getD 1 0).toNat 0=(joK n ps j).getD ((ps.getD j []).getD 1 0).toNat 0) rfl]
   split<;>rfl
  ·exact aMo (by omega) (by omega) (aF9 h k (by omega) j (by omega))
section
variable {c:Cat}
end
end Go.Cats
end
section
namespace Go.Eng
open Go Go.Cats
theorem aAW (l:List Int):∀i j:Nat,j<i→0≤idxOf (clsI l i).2 (l.getD j 0)∧(clsI l i).1.getD j 0=idxOf (clsI l i).2 (l.getD j 0)
 |0,j,hj=>by omega
 |i+1,j,hj=>by
  have hl:=(mI l i).1
  have ap1:∀v:Int,j<i→((clsI l i).1++[v]).getD j 0=(clsI l i).1.getD j 0:=fun v q=>by
   rw [List.getD_eq_getElem?_getD,List.getElem?_append_left (by omega),←List.getD_eq_getElem?_getD]
  have ap2:∀v:Int,((clsI l i).1++[v]).getD i 0=v:=fun v=>by
   rw [List.getD_eq_getElem?_getD,List.getElem?_append_right (by omega),hl,Nat.sub_self];rfl
  by_cases q:idxOf (clsI l i).2 (l.getD i 0)<0
  ·rw [wB q]
   simp only
   by_cases e:j=i
   ·rw [e,ap2,yR,if_neg (by omega),if_pos rfl]
    exact⟨by omega,rfl⟩
   ·have ih:=aAW l i j (by omega)
    rw [ap1 _ (by omega),yR,if_pos ih.1]
    exact ih
  ·rw [wC q]
   simp only
   by_cases e:j=i
   ·rw [e,ap2];exact⟨by omega,rfl⟩
   ·rw [ap1 _ (by omega)];exact aAW l i j (by omega)
theorem aOq {l:List Int} {n i j:Nat} (hi:i<n) (hj:j<n) (e:l.getD i 0=l.getD j 0):(clsI l n).1.getD i 0=(clsI l n).1.getD j 0:=by
 rw [(aAW l n i hi).2,(aAW l n j hj).2,e]
end Go.Eng
end
section
namespace Go.Proofs.YthgijhnmcglppaaGreat
open Go Go.Eng Go.Cats Go.ChangeShapes Go.WideShapes Go.RowKit
theorem aJS:joinedFacts Tryz.pinned.checked.prog 6 Tryz.f6 Rows.fnYonedaArrowsSpec Rows.fnYonedaArrowsRow=true:=by
 unfold joinedFacts
 simp only [Bool.and_eq_true]
 repeat' with_reducible apply And.intro
 all_goals(as_aux_lemma=>kernel_rfl)
end Go.Proofs.YthgijhnmcglppaaGreat
end
