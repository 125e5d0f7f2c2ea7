/- Several texts in one: EngMs, EngMt, EngLk, EngRw, EngPt. -/
import Derived.Test.YthgijhnmcglppaaGreatKex
set_option linter.unusedVariables false
set_option linter.unusedSimpArgs false
section
namespace Go.Eng
open Go Go.Maps Go.RowKit Go.WideMaps
/-! ### One cell's tree taken out of many -/
def aTf:Dt:= .ab ⟨fun _ _ _=>True,fun _ _=>trivial⟩
theorem OwL.take:∀{ds:List Dt} {vs:List Value} {k:Nat} {d:Dt} {w:World} {F:Nat→Prop},OwL w F ds vs→(∀x∈vs,x.oneCell'=true)→ds[k]? =some d→
  ∃x F1 F2,vs[k]? =some x∧(∀b,F1 b→F b)∧(∀b,F2 b→F b)∧(∀b,F1 b→F2 b→False)∧OwV w F1 d x∧OwL w F2 (ds.set k aTf) vs
 |[],_,_,_,_,_,_,_,h=>by simp at h
 |d::ds,vs,k,d',w,F,h,ho,hk=>by
  simp only [OwL]at h
  obtain⟨x,r,F1,F2,rfl,f1,f2,f3,h2,h3⟩:=h
  cases k with
  |zero=>
   simp at hk;subst hk
   refine⟨x,F1,F2,by simp,f1,f2,f3,h2,?_⟩
   simp only [List.set_cons_zero,OwL]
   exact⟨x,r,fun _=>False,F2,rfl,fun _ h=>h.elim,fun _ h=>h,fun _ h _=>h,by simp only [aTf,OwV];exact⟨ho x (by simp),fun _=>False,fun _ h=>h.elim,trivial⟩,h3⟩
  |succ k=>
   simp at hk
   obtain⟨y,G1,G2,g0,g1,g2,g3,g4,g5⟩:=OwL.take h3 (fun x hx=>ho x (by simp [hx])) hk
   refine⟨y,G1,fun b=>F1 b∨G2 b,by simpa using g0,fun b hb=>f2 b (g1 b hb),fun b hb=>hb.elim (f1 b) fun h=>f2 b (g2 b h),fun b h1 h4=>h4.elim (fun h=>f3 b h (g1 b h1)) (g3 b h1),g4,?_⟩
   simp only [List.set_cons_succ,OwL]
   exact⟨x,r,F1,G2,rfl,fun b h=> .inl h,fun b h=> .inr h,fun b h1 h4=>f3 b h1 (g2 b h4),h2,g5⟩
/-! ### The maps -/
structure MapL (P:Program) (t k e:TypeId):Prop where
 und:P.underlying t=some (.map k e)
 key:P.underlying k=some (.int .i64)
 z:∀w,(zeroValue e).run P w= .ok (.slice none 0 0) w
theorem aQ6 {P:Program} {k:TypeId} (hk:P.underlying k=some (.int .i64)) {z:Int} (hz:inR z):keyOf P k (.int .i64 z)=some (.int .i64 z):=
 keyOf_int_mk hk (by have:=hz;unfold inR at this;simp [Lit.wf,IntKind.min,IntKind.max,IntKind.signed,IntKind.bits];omega)
section
variable {E:Env} {d:Option Nat} {σ:Ss} {K:Ss→Prop}
end
end Go.Eng
end
section
namespace Go.Eng
open Go Go.Maps Go.RowKit Go.WideMaps Go.Cats
section
variable {E:Env} {d:Option Nat} {σ:Ss} {K:Ss→Prop}
end
/-! ### Values that are called by name -/
structure RawV where
 x:Value
 one:x.oneCell'=true
instance:Inhabited RawV:=⟨⟨.slice none 0 0,rfl⟩⟩
@[go_sem] theorem aW7 (x:RawV):x.x.oneCell'=true:=x.one
/-! ### Rules with the names of their lists -/
def iD (l:List (Rule×RawV)):Dt:= .sl 3 (.v (.int .i64 0)) (l.flatMap fun p=>[.v (.int .i64 p.1.fr), .v (.int .i64 p.1.to), .v p.2.x])
theorem aNl (l:List (Rule×RawV)):(l.flatMap fun p=>([.v (.int .i64 p.1.fr), .v (.int .i64 p.1.to), .v p.2.x]:List Dt)).length=l.length*3:=by
 induction l with
 |nil=>rfl
 |cons p l ih=>rw [List.flatMap_cons,List.length_append,ih];simp;omega
@[go_sem] theorem aRH (l):(iD l).isSl=true:=rfl
@[go_sem] theorem aNn (l):(iD l).sz=3:=rfl
@[go_sem] theorem aNm (l:List (Rule×RawV)):(iD l).nc=l.length*3:=by simp only [iD,Dt.nc,Dt.cells];exact aNl l
@[go_sem] theorem aS1 (l:List (Rule×RawV)):(iD l).len=l.length:=by
 have:=aNm l
 unfold Dt.len
 rw [this,aNn];omega
@[go_sem] theorem aRI (l:List (Rule×RawV)):(iD l).ones=true:=by
 simp only [iD,Dt.ones,Dt.cells,List.all_eq_true,List.mem_flatMap,forall_exists_index,and_imp]
 rintro x p _ hx
 simp only [List.mem_cons,List.not_mem_nil,or_false]at hx
 rcases hx with rfl|rfl|rfl
 ·rfl
 ·rfl
 ·exact p.2.one
@[go_sem] theorem aRG (l:List (Rule×RawV)):(iD l).flat=true:=by
 simp only [iD,Dt.flat,Dt.cells,List.all_eq_true,List.mem_flatMap,forall_exists_index,and_imp]
 rintro x p _ hx
 simp only [List.mem_cons,List.not_mem_nil,or_false]at hx
 rcases hx with rfl|rfl|rfl<;>rfl
@[go_sem] theorem aS0 (l m:List (Rule×RawV)):Dt.app 3 (.v (.int .i64 0)) (iD l) (iD m)=iD (l++m):=by simp [iD,Dt.app,Dt.cells,List.flatMap_append]
@[go_sem] theorem aS2:Dt.sl 3 (.v (.int .i64 0)) []=iD []:=rfl
@[go_sem] theorem aRg (ts) (l:List (Rule×RawV)):Sv.ofDt ts (iD l)= .bor ts (iD l):=rfl
def RLent (rvs:List (Rule×RawV)) (w:World) (S:Nat→Prop):Prop:=∀p∈rvs,RdV w S (ints p.1.by_) p.2.x
theorem RLent.ok {X:Cx} {rvs:List (Rule×RawV)} (h:RLent rvs X.w0 X.S):RdOk X (RLent rvs):=fun w S ag hS p hp=>Lent.at (X:=X) (h p hp) ag hS
end Go.Eng
end
section
namespace Go.Eng
open Go Go.Cats
def aMv (p:Link×RawV):List Dt:=[.v (.int .i64 p.1.i), .v (.int .i64 p.1.j), .v p.2.x,ints p.1.right]
def lB (l:List (Link×RawV)):Dt:= .sl 4 (.v (.int .i64 0)) (l.flatMap aMv)
theorem aMw (l:List (Link×RawV)):(l.flatMap aMv).length=l.length*4:=by
 induction l with
 |nil=>rfl
 |cons p l ih=>rw [List.flatMap_cons,List.length_append,ih];simp [aMv];omega
@[go_sem] theorem aQ7 (l):(lB l).isSl=true:=rfl
@[go_sem] theorem aMy (l):(lB l).sz=4:=rfl
@[go_sem] theorem aMx (l:List (Link×RawV)):(lB l).nc=l.length*4:=by simp only [lB,Dt.nc,Dt.cells];exact aMw l
@[go_sem] theorem aSz (l:List (Link×RawV)):(lB l).len=l.length:=by
 have:=aMx l
 unfold Dt.len
 rw [this,aMy];omega
@[go_sem] theorem aSy (l m:List (Link×RawV)):Dt.app 4 (.v (.int .i64 0)) (lB l) (lB m)=lB (l++m):=by simp [lB,Dt.app,Dt.cells,List.flatMap_append]
@[go_sem] theorem aSA:Dt.sl 4 (.v (.int .i64 0)) []=lB []:=rfl
@[go_sem] theorem aRd (ts) (l:List (Link×RawV)):Sv.ofDt ts (lB l)= .bor ts (lB l):=rfl
def LLent (lvs:List (Link×RawV)) (w:World) (S:Nat→Prop):Prop:=∀p∈lvs,RdV w S (ints p.1.left) p.2.x
theorem LLent.ok {X:Cx} {lvs:List (Link×RawV)} (h:LLent lvs X.w0 X.S):RdOk X (LLent lvs):=fun w S ag hS p hp=>Lent.at (X:=X) (h p hp) ag hS
end Go.Eng
end
section
namespace Go.Eng
open Go Go.Cats
def rM (xs:List RawV):Dt:= .sl 1 (.v (.slice none 0 0)) (xs.map fun x=> .v x.x)
@[go_sem] theorem aSZ (l):(rM l).isSl=true:=rfl
@[go_sem] theorem aXo (l):(rM l).sz=1:=rfl
@[go_sem] theorem aXn (l:List RawV):(rM l).nc=l.length:=by simp [rM,Dt.nc,Dt.cells]
@[go_sem] theorem aUH (l:List RawV):(rM l).len=l.length:=by simp [rM,Dt.len,Dt.sz,Dt.nc,Dt.cells]
@[go_sem] theorem aXm (l:List RawV) (k:Nat):(rM l).at k= .v (l.getD k default).x:=by
 simp [rM,Dt.at,Dt.cells,Dt.df,List.getD_eq_getElem?_getD]
 cases l[k]? <;>rfl
@[go_sem] theorem aSJ (ts) (l:List RawV):Sv.ofDt ts (rM l)= .bor ts (rM l):=rfl
def aZZ (ts:List (Nat×Nat)) (f:SF) (xs:List RawV):List Sv:=[iv f.shape.ob, .bor ts (ints f.shape.fr), .bor ts (ints f.shape.to), .bor ts (ints f.shape.id), .bor ts (aF f.shape.co), .bor ts (ints f.sizes), .bor ts (rM xs)]
section
variable (f:SF) (xs:List RawV) (ts:List (Nat×Nat))
attribute [go_sem] aZZ
end
section
variable {X:Cx} {E:Env} {c:Code} {σ:Ss} {Q:Exit→Ss→Prop}
end
def aZY (acts:List (List Int)) (xs:List RawV) (T:List Tr):List (Rule×RawV):=T.map fun t=>(aJl acts t,xs.getD t.2.1 default)
def aZH (acts:List (List Int)) (S:List Nat) (xs:List RawV) (T:List Tr):List (Link×RawV):=T.map fun t=>(aIR acts S t,xs.getD t.2.1 default)
section
variable {acts:List (List Int)} {xs:List RawV} {T T':List Tr} {S:List Nat} {X:Cx}
theorem RLent.mk (hw:TrW S acts T) (hx:∀i,i<acts.length→Lent X (xs.getD i default).x (ints (acts.getD i []))):RLent (aZY acts xs T) X.w0 X.S:=fun p hp=>by
 obtain⟨t,ht,rfl⟩:=List.mem_map.1 hp
 exact hx _ (hw.arr t ht)
theorem LLent.mk (hw:TrW S acts T) (hx:∀i,i<acts.length→Lent X (xs.getD i default).x (ints (acts.getD i []))):LLent (aZH acts S xs T) X.w0 X.S:=fun p hp=>by
 obtain⟨t,ht,rfl⟩:=List.mem_map.1 hp
 exact hx _ (hw.arr t ht)
end
end Go.Eng
end
section
namespace Go.Eng
open Go
def uW (l:List Dt):Dt:= .sl 1 (.v (.pointer none)) l
section
variable {X:Cx} {E:Env} {c:Code} {σ:Ss} {Q:Exit→Ss→Prop}
end
section
variable (l m:List Dt)
@[go_sem] theorem aUB:(uW l).isSl=true:=rfl
@[go_sem] theorem aZV:(uW l).sz=1:=rfl
@[go_sem] theorem aZU:(uW l).nc=l.length:=by simp [uW,Dt.nc,Dt.cells]
@[go_sem] theorem aXf:(uW l).len=l.length:=by simp [uW,Dt.len,Dt.sz,Dt.nc,Dt.cells]
@[go_sem] theorem aUq (ts):Sv.ofDt ts (uW l)= .bor ts (uW l):=rfl
@[go_sem] theorem aXe:Dt.app 1 (.v (.pointer none)) (uW l) (uW m)=uW (l++m):=by simp [uW,Dt.app,Dt.cells]
@[go_sem] theorem aXg:Dt.sl 1 (.v (.pointer none)) []=uW []:=rfl
@[go_sem] theorem aXi (x:Value):Dt.sl 1 (.v (.pointer none)) [.v x]=uW [.v x]:=rfl
@[go_sem] theorem aSR (x:Value):(uW [.v x]).flat=true:=rfl
def aPi (l:List (List (List Int))) (x:Value):Dt:= .sl 1 (aF []) (l.map aF++[.v x])
def aEO (x:Value):Dt:= .sl 1 (aF []) [.v x]
@[go_sem] theorem aSS (l) (x:Value):(aPi l x).isSl=true:=rfl
@[go_sem] theorem aXj (l) (x:Value):(aPi l x).sz=1:=rfl
@[go_sem] theorem aSU (x:Value):(aEO x).isSl=true:=rfl
@[go_sem] theorem aXl (x:Value):(aEO x).sz=1:=rfl
@[go_sem] theorem aXk (x:Value):(aEO x).nc=1:=rfl
@[go_sem] theorem aUD (x:Value):(aEO x).len=1:=by simp [aEO,Dt.len,Dt.sz,Dt.nc,Dt.cells]
@[go_sem] theorem aUE (x:Value):Dt.sl 1 (aF []) [.v x]=aEO x:=rfl
@[go_sem] theorem aST (x:Value):(aEO x).flat=true:=rfl
@[go_sem] theorem aUC (l) (x:Value):Dt.app 1 (aF []) (bX l) (aEO x)=aPi l x:=by simp [bX,aEO,aPi,Dt.app,Dt.cells]
end
end Go.Eng
end
