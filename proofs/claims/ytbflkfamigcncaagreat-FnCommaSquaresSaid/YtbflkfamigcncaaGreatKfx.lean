/- Several texts in one: EngMs, EngMt, EngLk, EngRw, EngPt. -/
import Derived.Test.YtbflkfamigcncaaGreatKex
set_option linter.unusedVariables false
set_option linter.unusedSimpArgs false
section
namespace Go.Eng
open Go Go.Maps Go.RowKit Go.WideMaps
/-! ### One cell's tree taken out of many -/
def aPD:Dt:= .ab ⟨fun _ _ _=>True,fun _ _=>trivial⟩
theorem OwL.take:∀{ds:List Dt} {vs:List Value} {k:Nat} {d:Dt} {w:World} {F:Nat→Prop},OwL w F ds vs→(∀x∈vs,x.oneCell'=true)→ds[k]? =some d→
  ∃x F1 F2,vs[k]? =some x∧(∀b,F1 b→F b)∧(∀b,F2 b→F b)∧(∀b,F1 b→F2 b→False)∧OwV w F1 d x∧OwL w F2 (ds.set k aPD) vs
 |[],_,_,_,_,_,_,_,h=>by simp at h
 |d::ds,vs,k,d',w,F,h,ho,hk=>by
  simp only [OwL]at h
  obtain⟨x,r,F1,F2,rfl,f1,f2,f3,h2,h3⟩:=h
  cases k with
  |zero=>
   simp at hk;subst hk
   refine⟨x,F1,F2,by simp,f1,f2,f3,h2,?_⟩
   simp only [List.set_cons_zero,OwL]
   exact⟨x,r,fun _=>False,F2,rfl,fun _ h=>h.elim,fun _ h=>h,fun _ h _=>h,by simp only [aPD,OwV];exact⟨ho x (by simp),fun _=>False,fun _ h=>h.elim,trivial⟩,h3⟩
  |succ k=>
   simp at hk
   obtain⟨y,G1,G2,g0,g1,g2,g3,g4,g5⟩:=OwL.take h3 (fun x hx=>ho x (by simp [hx])) hk
   refine⟨y,G1,fun b=>F1 b∨G2 b,by simpa using g0,fun b hb=>f2 b (g1 b hb),fun b hb=>hb.elim (f1 b) fun h=>f2 b (g2 b h),fun b h1 h4=>h4.elim (fun h=>f3 b h (g1 b h1)) (g3 b h1),g4,?_⟩
   simp only [List.set_cons_succ,OwL]
   exact⟨x,r,F1,G2,rfl,fun b h=> .inl h,fun b h=> .inr h,fun b h1 h4=>f3 b h1 (g2 b h4),h2,g5⟩
/-! ### The maps -/
structure MapL (P:Program) (t k e:TypeId):Prop where
 und:P.underlying t=some (.map k e)
 key:P.underlying k=some (.int .i64)
 z:∀w,(zeroValue e).run P w= .ok (.slice none 0 0) w
section
variable {E:Env} {d:Option Nat} {σ:Ss} {K:Ss→Prop}
end
end Go.Eng
end
section
namespace Go.Eng
open Go Go.Maps Go.RowKit Go.WideMaps Go.Cats
section
variable {E:Env} {d:Option Nat} {σ:Ss} {K:Ss→Prop}
end
/-! ### Values that are called by name -/
structure RawV where
 x:Value
 one:x.oneCell'=true
instance:Inhabited RawV:=⟨⟨.slice none 0 0,rfl⟩⟩
@[go_sem] theorem aSR (x:RawV):x.x.oneCell'=true:=x.one
/-! ### Rules with the names of their lists -/
def gI (l:List (Rule×RawV)):Dt:= .sl 3 (.v (.int .i64 0)) (l.flatMap fun p=>[.v (.int .i64 p.1.fr), .v (.int .i64 p.1.to), .v p.2.x])
theorem aJR (l:List (Rule×RawV)):(l.flatMap fun p=>([.v (.int .i64 p.1.fr), .v (.int .i64 p.1.to), .v p.2.x]:List Dt)).length=l.length*3:=by
 induction l with
 |nil=>rfl
 |cons p l ih=>rw [List.flatMap_cons,List.length_append,ih];simp;omega
@[go_sem] theorem aN8 (l):(gI l).isSl=true:=rfl
@[go_sem] theorem aJT (l):(gI l).sz=3:=rfl
@[go_sem] theorem aJS (l:List (Rule×RawV)):(gI l).nc=l.length*3:=by simp only [gI,Dt.nc,Dt.cells];exact aJR l
@[go_sem] theorem aPo (l:List (Rule×RawV)):(gI l).len=l.length:=by
 have:=aJS l
 unfold Dt.len
 rw [this,aJT];omega
@[go_sem] theorem aN9 (l:List (Rule×RawV)):(gI l).ones=true:=by
 simp only [gI,Dt.ones,Dt.cells,List.all_eq_true,List.mem_flatMap,forall_exists_index,and_imp]
 rintro x p _ hx
 simp only [List.mem_cons,List.not_mem_nil,or_false]at hx
 rcases hx with rfl|rfl|rfl
 ·rfl
 ·rfl
 ·exact p.2.one
@[go_sem] theorem aN7 (l:List (Rule×RawV)):(gI l).flat=true:=by
 simp only [gI,Dt.flat,Dt.cells,List.all_eq_true,List.mem_flatMap,forall_exists_index,and_imp]
 rintro x p _ hx
 simp only [List.mem_cons,List.not_mem_nil,or_false]at hx
 rcases hx with rfl|rfl|rfl<;>rfl
@[go_sem] theorem aPn (l m:List (Rule×RawV)):Dt.app 3 (.v (.int .i64 0)) (gI l) (gI m)=gI (l++m):=by simp [gI,Dt.app,Dt.cells,List.flatMap_append]
@[go_sem] theorem aPp:Dt.sl 3 (.v (.int .i64 0)) []=gI []:=rfl
@[go_sem] theorem aNI (ts) (l:List (Rule×RawV)):Sv.ofDt ts (gI l)= .bor ts (gI l):=rfl
def RLent (rvs:List (Rule×RawV)) (w:World) (S:Nat→Prop):Prop:=∀p∈rvs,RdV w S (ints p.1.by_) p.2.x
theorem RLent.ok {X:Cx} {rvs:List (Rule×RawV)} (h:RLent rvs X.w0 X.S):RdOk X (RLent rvs):=fun w S ag hS p hp=>Lent.at (X:=X) (h p hp) ag hS
end Go.Eng
end
section
namespace Go.Eng
open Go Go.Cats
def aIZ (p:Link×RawV):List Dt:=[.v (.int .i64 p.1.i), .v (.int .i64 p.1.j), .v p.2.x,ints p.1.right]
def jY (l:List (Link×RawV)):Dt:= .sl 4 (.v (.int .i64 0)) (l.flatMap aIZ)
theorem aI0 (l:List (Link×RawV)):(l.flatMap aIZ).length=l.length*4:=by
 induction l with
 |nil=>rfl
 |cons p l ih=>rw [List.flatMap_cons,List.length_append,ih];simp [aIZ];omega
@[go_sem] theorem aNz (l):(jY l).isSl=true:=rfl
@[go_sem] theorem aI2 (l):(jY l).sz=4:=rfl
@[go_sem] theorem aI1 (l:List (Link×RawV)):(jY l).nc=l.length*4:=by simp only [jY,Dt.nc,Dt.cells];exact aI0 l
@[go_sem] theorem aOW (l:List (Link×RawV)):(jY l).len=l.length:=by
 have:=aI1 l
 unfold Dt.len
 rw [this,aI2];omega
@[go_sem] theorem aOV (l m:List (Link×RawV)):Dt.app 4 (.v (.int .i64 0)) (jY l) (jY m)=jY (l++m):=by simp [jY,Dt.app,Dt.cells,List.flatMap_append]
@[go_sem] theorem aOX:Dt.sl 4 (.v (.int .i64 0)) []=jY []:=rfl
@[go_sem] theorem aNF (ts) (l:List (Link×RawV)):Sv.ofDt ts (jY l)= .bor ts (jY l):=rfl
def LLent (lvs:List (Link×RawV)) (w:World) (S:Nat→Prop):Prop:=∀p∈lvs,RdV w S (ints p.1.left) p.2.x
theorem LLent.ok {X:Cx} {lvs:List (Link×RawV)} (h:LLent lvs X.w0 X.S):RdOk X (LLent lvs):=fun w S ag hS p hp=>Lent.at (X:=X) (h p hp) ag hS
end Go.Eng
end
section
namespace Go.Eng
open Go Go.Cats
def pS (xs:List RawV):Dt:= .sl 1 (.v (.slice none 0 0)) (xs.map fun x=> .v x.x)
@[go_sem] theorem aPm (l):(pS l).isSl=true:=rfl
@[go_sem] theorem aS7 (l):(pS l).sz=1:=rfl
@[go_sem] theorem aS6 (l:List RawV):(pS l).nc=l.length:=by simp [pS,Dt.nc,Dt.cells]
@[go_sem] theorem aQR (l:List RawV):(pS l).len=l.length:=by simp [pS,Dt.len,Dt.sz,Dt.nc,Dt.cells]
@[go_sem] theorem aS5 (l:List RawV) (k:Nat):(pS l).at k= .v (l.getD k default).x:=by
 simp [pS,Dt.at,Dt.cells,Dt.df,List.getD_eq_getElem?_getD]
 cases l[k]? <;>rfl
@[go_sem] theorem aO7 (ts) (l:List RawV):Sv.ofDt ts (pS l)= .bor ts (pS l):=rfl
def aVi (ts:List (Nat×Nat)) (f:SF) (xs:List RawV):List Sv:=[iv f.shape.ob, .bor ts (ints f.shape.fr), .bor ts (ints f.shape.to), .bor ts (ints f.shape.id), .bor ts (aE f.shape.co), .bor ts (ints f.sizes), .bor ts (pS xs)]
section
variable (f:SF) (xs:List RawV) (ts:List (Nat×Nat))
attribute [go_sem] aVi
end
section
variable {X:Cx} {E:Env} {c:Code} {σ:Ss} {Q:Exit→Ss→Prop}
end
def aVg (acts:List (List Int)) (xs:List RawV) (T:List Tr):List (Rule×RawV):=T.map fun t=>(aGz acts t,xs.getD t.2.1 default)
def aU5 (acts:List (List Int)) (S:List Nat) (xs:List RawV) (T:List Tr):List (Link×RawV):=T.map fun t=>(aGi acts S t,xs.getD t.2.1 default)
section
variable {acts:List (List Int)} {xs:List RawV} {T T':List Tr} {S:List Nat} {X:Cx}
theorem RLent.mk (hw:TrW S acts T) (hx:∀i,i<acts.length→Lent X (xs.getD i default).x (ints (acts.getD i []))):RLent (aVg acts xs T) X.w0 X.S:=fun p hp=>by
 obtain⟨t,ht,rfl⟩:=List.mem_map.1 hp
 exact hx _ (hw.arr t ht)
theorem LLent.mk (hw:TrW S acts T) (hx:∀i,i<acts.length→Lent X (xs.getD i default).x (ints (acts.getD i []))):LLent (aU5 acts S xs T) X.w0 X.S:=fun p hp=>by
 obtain⟨t,ht,rfl⟩:=List.mem_map.1 hp
 exact hx _ (hw.arr t ht)
end
end Go.Eng
end
section
namespace Go.Eng
open Go
def sS (l:List Dt):Dt:= .sl 1 (.v (.pointer none)) l
section
variable {X:Cx} {E:Env} {c:Code} {σ:Ss} {Q:Exit→Ss→Prop}
end
section
variable (l m:List Dt)
@[go_sem] theorem aQL:(sS l).isSl=true:=rfl
@[go_sem] theorem aVd:(sS l).sz=1:=rfl
@[go_sem] theorem aVc:(sS l).nc=l.length:=by simp [sS,Dt.nc,Dt.cells]
@[go_sem] theorem aSZ:(sS l).len=l.length:=by simp [sS,Dt.len,Dt.sz,Dt.nc,Dt.cells]
@[go_sem] theorem aQA (ts):Sv.ofDt ts (sS l)= .bor ts (sS l):=rfl
@[go_sem] theorem aSY:Dt.app 1 (.v (.pointer none)) (sS l) (sS m)=sS (l++m):=by simp [sS,Dt.app,Dt.cells]
@[go_sem] theorem aS0:Dt.sl 1 (.v (.pointer none)) []=sS []:=rfl
@[go_sem] theorem aS1 (x:Value):Dt.sl 1 (.v (.pointer none)) [.v x]=sS [.v x]:=rfl
@[go_sem] theorem aPd (x:Value):(sS [.v x]).flat=true:=rfl
def aLB (l:List (List (List Int))) (x:Value):Dt:= .sl 1 (aE []) (l.map aE++[.v x])
def aC0 (x:Value):Dt:= .sl 1 (aE []) [.v x]
@[go_sem] theorem aPe (l) (x:Value):(aLB l x).isSl=true:=rfl
@[go_sem] theorem aS2 (l) (x:Value):(aLB l x).sz=1:=rfl
@[go_sem] theorem aPg (x:Value):(aC0 x).isSl=true:=rfl
@[go_sem] theorem aS4 (x:Value):(aC0 x).sz=1:=rfl
@[go_sem] theorem aS3 (x:Value):(aC0 x).nc=1:=rfl
@[go_sem] theorem aQN (x:Value):(aC0 x).len=1:=by simp [aC0,Dt.len,Dt.sz,Dt.nc,Dt.cells]
@[go_sem] theorem aQO (x:Value):Dt.sl 1 (aE []) [.v x]=aC0 x:=rfl
@[go_sem] theorem aPf (x:Value):(aC0 x).flat=true:=rfl
@[go_sem] theorem aQM (l) (x:Value):Dt.app 1 (aE []) (dK l) (aC0 x)=aLB l x:=by simp [dK,aC0,aLB,Dt.app,Dt.cells]
end
end Go.Eng
end
