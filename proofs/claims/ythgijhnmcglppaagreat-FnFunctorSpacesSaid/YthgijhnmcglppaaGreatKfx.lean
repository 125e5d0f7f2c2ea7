/- Several texts in one: EngMs, EngMt, EngLk, EngRw, EngPt. -/
import Derived.Test.YthgijhnmcglppaaGreatKex
set_option linter.unusedVariables false
set_option linter.unusedSimpArgs false
section
namespace Go.Eng
open Go Go.Maps Go.RowKit Go.WideMaps
/-! ### One cell's tree taken out of many -/
def aS6:Dt:= .ab ⟨fun _ _ _=>True,fun _ _=>trivial⟩
theorem OwL.take:∀{ds:List Dt} {vs:List Value} {k:Nat} {d:Dt} {w:World} {F:Nat→Prop},OwL w F ds vs→(∀x∈vs,x.oneCell'=true)→ds[k]? =some d→
  ∃x F1 F2,vs[k]? =some x∧(∀b,F1 b→F b)∧(∀b,F2 b→F b)∧(∀b,F1 b→F2 b→False)∧OwV w F1 d x∧OwL w F2 (ds.set k aS6) vs
 |[],_,_,_,_,_,_,_,h=>by simp at h
 |d::ds,vs,k,d',w,F,h,ho,hk=>by
  simp only [OwL]at h
  obtain⟨x,r,F1,F2,rfl,f1,f2,f3,h2,h3⟩:=h
  cases k with
  |zero=>
   simp at hk;subst hk
   refine⟨x,F1,F2,by simp,f1,f2,f3,h2,?_⟩
   simp only [List.set_cons_zero,OwL]
   exact⟨x,r,fun _=>False,F2,rfl,fun _ h=>h.elim,fun _ h=>h,fun _ h _=>h,by simp only [aS6,OwV];exact⟨ho x (by simp),fun _=>False,fun _ h=>h.elim,trivial⟩,h3⟩
  |succ k=>
   simp at hk
   obtain⟨y,G1,G2,g0,g1,g2,g3,g4,g5⟩:=OwL.take h3 (fun x hx=>ho x (by simp [hx])) hk
   refine⟨y,G1,fun b=>F1 b∨G2 b,by simpa using g0,fun b hb=>f2 b (g1 b hb),fun b hb=>hb.elim (f1 b) fun h=>f2 b (g2 b h),fun b h1 h4=>h4.elim (fun h=>f3 b h (g1 b h1)) (g3 b h1),g4,?_⟩
   simp only [List.set_cons_succ,OwL]
   exact⟨x,r,F1,G2,rfl,fun b h=> .inl h,fun b h=> .inr h,fun b h1 h4=>f3 b h1 (g2 b h4),h2,g5⟩
/-! ### The maps -/
structure MapL (P:Program) (t k e:TypeId):Prop where
 und:P.underlying t=some (.map k e)
 key:P.underlying k=some (.int .i64)
 z:∀w,(zeroValue e).run P w= .ok (.slice none 0 0) w
section
variable {E:Env} {d:Option Nat} {σ:Ss} {K:Ss→Prop}
end
end Go.Eng
end
section
namespace Go.Eng
open Go Go.Maps Go.RowKit Go.WideMaps Go.Cats
section
variable {E:Env} {d:Option Nat} {σ:Ss} {K:Ss→Prop}
end
/-! ### Values that are called by name -/
structure RawV where
 x:Value
 one:x.oneCell'=true
instance:Inhabited RawV:=⟨⟨.slice none 0 0,rfl⟩⟩
@[go_sem] theorem aWO (x:RawV):x.x.oneCell'=true:=x.one
/-! ### Rules with the names of their lists -/
def gP (l:List (Rule×RawV)):Dt:= .sl 3 (.v (.int .i64 0)) (l.flatMap fun p=>[.v (.int .i64 p.1.fr), .v (.int .i64 p.1.to), .v p.2.x])
theorem aM1 (l:List (Rule×RawV)):(l.flatMap fun p=>([.v (.int .i64 p.1.fr), .v (.int .i64 p.1.to), .v p.2.x]:List Dt)).length=l.length*3:=by
 induction l with
 |nil=>rfl
 |cons p l ih=>rw [List.flatMap_cons,List.length_append,ih];simp;omega
@[go_sem] theorem aRD (l):(gP l).isSl=true:=rfl
@[go_sem] theorem aM3 (l):(gP l).sz=3:=rfl
@[go_sem] theorem aM2 (l:List (Rule×RawV)):(gP l).nc=l.length*3:=by simp only [gP,Dt.nc,Dt.cells];exact aM1 l
@[go_sem] theorem aST (l:List (Rule×RawV)):(gP l).len=l.length:=by
 have:=aM2 l
 unfold Dt.len
 rw [this,aM3];omega
@[go_sem] theorem aRE (l:List (Rule×RawV)):(gP l).ones=true:=by
 simp only [gP,Dt.ones,Dt.cells,List.all_eq_true,List.mem_flatMap,forall_exists_index,and_imp]
 rintro x p _ hx
 simp only [List.mem_cons,List.not_mem_nil,or_false]at hx
 rcases hx with rfl|rfl|rfl
 ·rfl
 ·rfl
 ·exact p.2.one
@[go_sem] theorem aRC (l:List (Rule×RawV)):(gP l).flat=true:=by
 simp only [gP,Dt.flat,Dt.cells,List.all_eq_true,List.mem_flatMap,forall_exists_index,and_imp]
 rintro x p _ hx
 simp only [List.mem_cons,List.not_mem_nil,or_false]at hx
 rcases hx with rfl|rfl|rfl<;>rfl
@[go_sem] theorem aSS (l m:List (Rule×RawV)):Dt.app 3 (.v (.int .i64 0)) (gP l) (gP m)=gP (l++m):=by simp [gP,Dt.app,Dt.cells,List.flatMap_append]
@[go_sem] theorem aSU:Dt.sl 3 (.v (.int .i64 0)) []=gP []:=rfl
@[go_sem] theorem aRd (ts) (l:List (Rule×RawV)):Sv.ofDt ts (gP l)= .bor ts (gP l):=rfl
def RLent (rvs:List (Rule×RawV)) (w:World) (S:Nat→Prop):Prop:=∀p∈rvs,RdV w S (ints p.1.by_) p.2.x
theorem RLent.ok {X:Cx} {rvs:List (Rule×RawV)} (h:RLent rvs X.w0 X.S):RdOk X (RLent rvs):=fun w S ag hS p hp=>Lent.at (X:=X) (h p hp) ag hS
end Go.Eng
end
section
namespace Go.Eng
open Go Go.Cats
def aL1 (p:Link×RawV):List Dt:=[.v (.int .i64 p.1.i), .v (.int .i64 p.1.j), .v p.2.x,ints p.1.right]
def kD (l:List (Link×RawV)):Dt:= .sl 4 (.v (.int .i64 0)) (l.flatMap aL1)
theorem aL2 (l:List (Link×RawV)):(l.flatMap aL1).length=l.length*4:=by
 induction l with
 |nil=>rfl
 |cons p l ih=>rw [List.flatMap_cons,List.length_append,ih];simp [aL1];omega
@[go_sem] theorem aQ3 (l):(kD l).isSl=true:=rfl
@[go_sem] theorem aL4 (l):(kD l).sz=4:=rfl
@[go_sem] theorem aL3 (l:List (Link×RawV)):(kD l).nc=l.length*4:=by simp only [kD,Dt.nc,Dt.cells];exact aL2 l
@[go_sem] theorem aSs (l:List (Link×RawV)):(kD l).len=l.length:=by
 have:=aL3 l
 unfold Dt.len
 rw [this,aL4];omega
@[go_sem] theorem aSr (l m:List (Link×RawV)):Dt.app 4 (.v (.int .i64 0)) (kD l) (kD m)=kD (l++m):=by simp [kD,Dt.app,Dt.cells,List.flatMap_append]
@[go_sem] theorem aSt:Dt.sl 4 (.v (.int .i64 0)) []=kD []:=rfl
@[go_sem] theorem aRa (ts) (l:List (Link×RawV)):Sv.ofDt ts (kD l)= .bor ts (kD l):=rfl
def LLent (lvs:List (Link×RawV)) (w:World) (S:Nat→Prop):Prop:=∀p∈lvs,RdV w S (ints p.1.left) p.2.x
theorem LLent.ok {X:Cx} {lvs:List (Link×RawV)} (h:LLent lvs X.w0 X.S):RdOk X (LLent lvs):=fun w S ag hS p hp=>Lent.at (X:=X) (h p hp) ag hS
end Go.Eng
end
section
namespace Go.Eng
open Go Go.Cats
def rB (xs:List RawV):Dt:= .sl 1 (.v (.slice none 0 0)) (xs.map fun x=> .v x.x)
@[go_sem] theorem aSR (l):(rB l).isSl=true:=rfl
@[go_sem] theorem aW4 (l):(rB l).sz=1:=rfl
@[go_sem] theorem aW3 (l:List RawV):(rB l).nc=l.length:=by simp [rB,Dt.nc,Dt.cells]
@[go_sem] theorem aUx (l:List RawV):(rB l).len=l.length:=by simp [rB,Dt.len,Dt.sz,Dt.nc,Dt.cells]
@[go_sem] theorem aW2 (l:List RawV) (k:Nat):(rB l).at k= .v (l.getD k default).x:=by
 simp [rB,Dt.at,Dt.cells,Dt.df,List.getD_eq_getElem?_getD]
 cases l[k]? <;>rfl
@[go_sem] theorem aSD (ts) (l:List RawV):Sv.ofDt ts (rB l)= .bor ts (rB l):=rfl
def aZo (ts:List (Nat×Nat)) (f:SF) (xs:List RawV):List Sv:=[iv f.shape.ob, .bor ts (ints f.shape.fr), .bor ts (ints f.shape.to), .bor ts (ints f.shape.id), .bor ts (aF f.shape.co), .bor ts (ints f.sizes), .bor ts (rB xs)]
section
variable (f:SF) (xs:List RawV) (ts:List (Nat×Nat))
attribute [go_sem] aZo
end
section
variable {X:Cx} {E:Env} {c:Code} {σ:Ss} {Q:Exit→Ss→Prop}
end
def aZn (acts:List (List Int)) (xs:List RawV) (T:List Tr):List (Rule×RawV):=T.map fun t=>(aII acts t,xs.getD t.2.1 default)
def aZd (acts:List (List Int)) (S:List Nat) (xs:List RawV) (T:List Tr):List (Link×RawV):=T.map fun t=>(aIp acts S t,xs.getD t.2.1 default)
section
variable {acts:List (List Int)} {xs:List RawV} {T T':List Tr} {S:List Nat} {X:Cx}
theorem RLent.mk (hw:TrW S acts T) (hx:∀i,i<acts.length→Lent X (xs.getD i default).x (ints (acts.getD i []))):RLent (aZn acts xs T) X.w0 X.S:=fun p hp=>by
 obtain⟨t,ht,rfl⟩:=List.mem_map.1 hp
 exact hx _ (hw.arr t ht)
theorem LLent.mk (hw:TrW S acts T) (hx:∀i,i<acts.length→Lent X (xs.getD i default).x (ints (acts.getD i []))):LLent (aZd acts S xs T) X.w0 X.S:=fun p hp=>by
 obtain⟨t,ht,rfl⟩:=List.mem_map.1 hp
 exact hx _ (hw.arr t ht)
end
end Go.Eng
end
section
namespace Go.Eng
open Go
def uP (l:List Dt):Dt:= .sl 1 (.v (.pointer none)) l
section
variable {X:Cx} {E:Env} {c:Code} {σ:Ss} {Q:Exit→Ss→Prop}
end
section
variable (l m:List Dt)
@[go_sem] theorem aUr:(uP l).isSl=true:=rfl
@[go_sem] theorem aZk:(uP l).sz=1:=rfl
@[go_sem] theorem aZj:(uP l).nc=l.length:=by simp [uP,Dt.nc,Dt.cells]
@[go_sem] theorem aWW:(uP l).len=l.length:=by simp [uP,Dt.len,Dt.sz,Dt.nc,Dt.cells]
@[go_sem] theorem aUf (ts):Sv.ofDt ts (uP l)= .bor ts (uP l):=rfl
@[go_sem] theorem aWV:Dt.app 1 (.v (.pointer none)) (uP l) (uP m)=uP (l++m):=by simp [uP,Dt.app,Dt.cells]
@[go_sem] theorem aWX:Dt.sl 1 (.v (.pointer none)) []=uP []:=rfl
@[go_sem] theorem aWY (x:Value):Dt.sl 1 (.v (.pointer none)) [.v x]=uP [.v x]:=rfl
@[go_sem] theorem aSJ (x:Value):(uP [.v x]).flat=true:=rfl
def aPd (l:List (List (List Int))) (x:Value):Dt:= .sl 1 (aF []) (l.map aF++[.v x])
def aEm (x:Value):Dt:= .sl 1 (aF []) [.v x]
@[go_sem] theorem aSK (l) (x:Value):(aPd l x).isSl=true:=rfl
@[go_sem] theorem aWZ (l) (x:Value):(aPd l x).sz=1:=rfl
@[go_sem] theorem aSM (x:Value):(aEm x).isSl=true:=rfl
@[go_sem] theorem aW1 (x:Value):(aEm x).sz=1:=rfl
@[go_sem] theorem aW0 (x:Value):(aEm x).nc=1:=rfl
@[go_sem] theorem aUt (x:Value):(aEm x).len=1:=by simp [aEm,Dt.len,Dt.sz,Dt.nc,Dt.cells]
@[go_sem] theorem aUu (x:Value):Dt.sl 1 (aF []) [.v x]=aEm x:=rfl
@[go_sem] theorem aSL (x:Value):(aEm x).flat=true:=rfl
@[go_sem] theorem aUs (l) (x:Value):Dt.app 1 (aF []) (dH l) (aEm x)=aPd l x:=by simp [dH,aEm,aPd,Dt.app,Dt.cells]
end
end Go.Eng
end
