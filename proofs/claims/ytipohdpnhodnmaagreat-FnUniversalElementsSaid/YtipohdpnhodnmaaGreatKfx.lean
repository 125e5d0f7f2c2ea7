/- Several texts in one: EngMs, EngMt, EngLk, EngRw. -/
import Derived.Test.YtipohdpnhodnmaaGreatKex
set_option linter.unusedVariables false
set_option linter.unusedSimpArgs false
section
namespace Go.Eng
open Go Go.Maps Go.RowKit Go.WideMaps
/-! ### One cell's tree taken out of many -/
def aQH:Dt:= .ab ⟨fun _ _ _=>True,fun _ _=>trivial⟩
theorem OwL.take:∀{ds:List Dt} {vs:List Value} {k:Nat} {d:Dt} {w:World} {F:Nat→Prop},OwL w F ds vs→(∀x∈vs,x.oneCell'=true)→ds[k]? =some d→
  ∃x F1 F2,vs[k]? =some x∧(∀b,F1 b→F b)∧(∀b,F2 b→F b)∧(∀b,F1 b→F2 b→False)∧OwV w F1 d x∧OwL w F2 (ds.set k aQH) vs
 |[],_,_,_,_,_,_,_,h=>by simp at h
 |d::ds,vs,k,d',w,F,h,ho,hk=>by
  simp only [OwL]at h
  obtain⟨x,r,F1,F2,rfl,f1,f2,f3,h2,h3⟩:=h
  cases k with
  |zero=>
   simp at hk;subst hk
   refine⟨x,F1,F2,by simp,f1,f2,f3,h2,?_⟩
   simp only [List.set_cons_zero,OwL]
   exact⟨x,r,fun _=>False,F2,rfl,fun _ h=>h.elim,fun _ h=>h,fun _ h _=>h,by simp only [aQH,OwV];exact⟨ho x (by simp),fun _=>False,fun _ h=>h.elim,trivial⟩,h3⟩
  |succ k=>
   simp at hk
   obtain⟨y,G1,G2,g0,g1,g2,g3,g4,g5⟩:=OwL.take h3 (fun x hx=>ho x (by simp [hx])) hk
   refine⟨y,G1,fun b=>F1 b∨G2 b,by simpa using g0,fun b hb=>f2 b (g1 b hb),fun b hb=>hb.elim (f1 b) fun h=>f2 b (g2 b h),fun b h1 h4=>h4.elim (fun h=>f3 b h (g1 b h1)) (g3 b h1),g4,?_⟩
   simp only [List.set_cons_succ,OwL]
   exact⟨x,r,F1,G2,rfl,fun b h=> .inl h,fun b h=> .inr h,fun b h1 h4=>f3 b h1 (g2 b h4),h2,g5⟩
/-! ### The maps -/
structure MapL (P:Program) (t k e:TypeId):Prop where
 und:P.underlying t=some (.map k e)
 key:P.underlying k=some (.int .i64)
 z:∀w,(zeroValue e).run P w= .ok (.slice none 0 0) w
section
variable {E:Env} {d:Option Nat} {σ:Ss} {K:Ss→Prop}
end
end Go.Eng
end
section
namespace Go.Eng
open Go Go.Maps Go.RowKit Go.WideMaps Go.Cats
section
variable {E:Env} {d:Option Nat} {σ:Ss} {K:Ss→Prop}
end
/-! ### Values that are called by name -/
structure RawV where
 x:Value
 one:x.oneCell'=true
instance:Inhabited RawV:=⟨⟨.slice none 0 0,rfl⟩⟩
@[go_sem] theorem aT3 (x:RawV):x.x.oneCell'=true:=x.one
/-! ### Rules with the names of their lists -/
def fL (l:List (Rule×RawV)):Dt:= .sl 3 (.v (.int .i64 0)) (l.flatMap fun p=>[.v (.int .i64 p.1.fr), .v (.int .i64 p.1.to), .v p.2.x])
theorem aKF (l:List (Rule×RawV)):(l.flatMap fun p=>([.v (.int .i64 p.1.fr), .v (.int .i64 p.1.to), .v p.2.x]:List Dt)).length=l.length*3:=by
 induction l with
 |nil=>rfl
 |cons p l ih=>rw [List.flatMap_cons,List.length_append,ih];simp;omega
@[go_sem] theorem aPl (l):(fL l).isSl=true:=rfl
@[go_sem] theorem aKH (l):(fL l).sz=3:=rfl
@[go_sem] theorem aKG (l:List (Rule×RawV)):(fL l).nc=l.length*3:=by simp only [fL,Dt.nc,Dt.cells];exact aKF l
@[go_sem] theorem aQt (l:List (Rule×RawV)):(fL l).len=l.length:=by
 have:=aKG l
 unfold Dt.len
 rw [this,aKH];omega
@[go_sem] theorem aPm (l:List (Rule×RawV)):(fL l).ones=true:=by
 simp only [fL,Dt.ones,Dt.cells,List.all_eq_true,List.mem_flatMap,forall_exists_index,and_imp]
 rintro x p _ hx
 simp only [List.mem_cons,List.not_mem_nil,or_false]at hx
 rcases hx with rfl|rfl|rfl
 ·rfl
 ·rfl
 ·exact p.2.one
@[go_sem] theorem aPk (l:List (Rule×RawV)):(fL l).flat=true:=by
 simp only [fL,Dt.flat,Dt.cells,List.all_eq_true,List.mem_flatMap,forall_exists_index,and_imp]
 rintro x p _ hx
 simp only [List.mem_cons,List.not_mem_nil,or_false]at hx
 rcases hx with rfl|rfl|rfl<;>rfl
@[go_sem] theorem aQs (l m:List (Rule×RawV)):Dt.app 3 (.v (.int .i64 0)) (fL l) (fL m)=fL (l++m):=by simp [fL,Dt.app,Dt.cells,List.flatMap_append]
@[go_sem] theorem aQu:Dt.sl 3 (.v (.int .i64 0)) []=fL []:=rfl
@[go_sem] theorem aOS (ts) (l:List (Rule×RawV)):Sv.ofDt ts (fL l)= .bor ts (fL l):=rfl
def RLent (rvs:List (Rule×RawV)) (w:World) (S:Nat→Prop):Prop:=∀p∈rvs,RdV w S (ints p.1.by_) p.2.x
theorem RLent.ok {X:Cx} {rvs:List (Rule×RawV)} (h:RLent rvs X.w0 X.S):RdOk X (RLent rvs):=fun w S ag hS p hp=>Lent.at (X:=X) (h p hp) ag hS
end Go.Eng
end
section
namespace Go.Eng
open Go Go.Cats
def aJN (p:Link×RawV):List Dt:=[.v (.int .i64 p.1.i), .v (.int .i64 p.1.j), .v p.2.x,ints p.1.right]
def jD (l:List (Link×RawV)):Dt:= .sl 4 (.v (.int .i64 0)) (l.flatMap aJN)
theorem aJO (l:List (Link×RawV)):(l.flatMap aJN).length=l.length*4:=by
 induction l with
 |nil=>rfl
 |cons p l ih=>rw [List.flatMap_cons,List.length_append,ih];simp [aJN];omega
@[go_sem] theorem aOI (l):(jD l).isSl=true:=rfl
@[go_sem] theorem aJQ (l):(jD l).sz=4:=rfl
@[go_sem] theorem aJP (l:List (Link×RawV)):(jD l).nc=l.length*4:=by simp only [jD,Dt.nc,Dt.cells];exact aJO l
@[go_sem] theorem aP5 (l:List (Link×RawV)):(jD l).len=l.length:=by
 have:=aJP l
 unfold Dt.len
 rw [this,aJQ];omega
@[go_sem] theorem aP4 (l m:List (Link×RawV)):Dt.app 4 (.v (.int .i64 0)) (jD l) (jD m)=jD (l++m):=by simp [jD,Dt.app,Dt.cells,List.flatMap_append]
@[go_sem] theorem aP6:Dt.sl 4 (.v (.int .i64 0)) []=jD []:=rfl
@[go_sem] theorem aOP (ts) (l:List (Link×RawV)):Sv.ofDt ts (jD l)= .bor ts (jD l):=rfl
def LLent (lvs:List (Link×RawV)) (w:World) (S:Nat→Prop):Prop:=∀p∈lvs,RdV w S (ints p.1.left) p.2.x
theorem LLent.ok {X:Cx} {lvs:List (Link×RawV)} (h:LLent lvs X.w0 X.S):RdOk X (LLent lvs):=fun w S ag hS p hp=>Lent.at (X:=X) (h p hp) ag hS
end Go.Eng
end
section
namespace Go.Eng
open Go Go.Cats
def oL (xs:List RawV):Dt:= .sl 1 (.v (.slice none 0 0)) (xs.map fun x=> .v x.x)
@[go_sem] theorem aQr (l):(oL l).isSl=true:=rfl
@[go_sem] theorem aUc (l):(oL l).sz=1:=rfl
@[go_sem] theorem aUb (l:List RawV):(oL l).nc=l.length:=by simp [oL,Dt.nc,Dt.cells]
@[go_sem] theorem aRU (l:List RawV):(oL l).len=l.length:=by simp [oL,Dt.len,Dt.sz,Dt.nc,Dt.cells]
@[go_sem] theorem aUa (l:List RawV) (k:Nat):(oL l).at k= .v (l.getD k default).x:=by
 simp [oL,Dt.at,Dt.cells,Dt.df,List.getD_eq_getElem?_getD]
 cases l[k]? <;>rfl
@[go_sem] theorem aQg (ts) (l:List RawV):Sv.ofDt ts (oL l)= .bor ts (oL l):=rfl
def aWn (ts:List (Nat×Nat)) (f:SF) (xs:List RawV):List Sv:=[iv f.shape.ob, .bor ts (ints f.shape.fr), .bor ts (ints f.shape.to), .bor ts (ints f.shape.id), .bor ts (aC f.shape.co), .bor ts (ints f.sizes), .bor ts (oL xs)]
section
variable (f:SF) (xs:List RawV) (ts:List (Nat×Nat))
attribute [go_sem] aWn
end
section
variable {X:Cx} {E:Env} {c:Code} {σ:Ss} {Q:Exit→Ss→Prop}
end
def aRX (acts:List (List Int)) (xs:List RawV) (T:List Tr):List (Rule×RawV):=T.map fun t=>(aGF acts t,xs.getD t.2.1 default)
def aWb (acts:List (List Int)) (S:List Nat) (xs:List RawV) (T:List Tr):List (Link×RawV):=T.map fun t=>(aGl acts S t,xs.getD t.2.1 default)
section
variable {acts:List (List Int)} {xs:List RawV} {T T':List Tr} {S:List Nat} {X:Cx}
theorem RLent.mk (hw:TrW S acts T) (hx:∀i,i<acts.length→Lent X (xs.getD i default).x (ints (acts.getD i []))):RLent (aRX acts xs T) X.w0 X.S:=fun p hp=>by
 obtain⟨t,ht,rfl⟩:=List.mem_map.1 hp
 exact hx _ (hw.arr t ht)
theorem LLent.mk (hw:TrW S acts T) (hx:∀i,i<acts.length→Lent X (xs.getD i default).x (ints (acts.getD i []))):LLent (aWb acts S xs T) X.w0 X.S:=fun p hp=>by
 obtain⟨t,ht,rfl⟩:=List.mem_map.1 hp
 exact hx _ (hw.arr t ht)
end
end Go.Eng
end
