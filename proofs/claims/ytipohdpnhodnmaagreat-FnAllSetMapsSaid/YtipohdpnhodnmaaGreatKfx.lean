/- Several texts in one: EngMs, EngMt. -/
import Derived.Test.YtipohdpnhodnmaaGreatKex
set_option linter.unusedVariables false
set_option linter.unusedSimpArgs false
section
namespace Go.Eng
open Go Go.Maps Go.RowKit Go.WideMaps
/-! ### One cell's tree taken out of many -/
def aQD:Dt:= .ab ⟨fun _ _ _=>True,fun _ _=>trivial⟩
theorem OwL.take:∀{ds:List Dt} {vs:List Value} {k:Nat} {d:Dt} {w:World} {F:Nat→Prop},OwL w F ds vs→(∀x∈vs,x.oneCell'=true)→ds[k]? =some d→
  ∃x F1 F2,vs[k]? =some x∧(∀b,F1 b→F b)∧(∀b,F2 b→F b)∧(∀b,F1 b→F2 b→False)∧OwV w F1 d x∧OwL w F2 (ds.set k aQD) vs
 |[],_,_,_,_,_,_,_,h=>by simp at h
 |d::ds,vs,k,d',w,F,h,ho,hk=>by
  simp only [OwL]at h
  obtain⟨x,r,F1,F2,rfl,f1,f2,f3,h2,h3⟩:=h
  cases k with
  |zero=>
   simp at hk;subst hk
   refine⟨x,F1,F2,by simp,f1,f2,f3,h2,?_⟩
   simp only [List.set_cons_zero,OwL]
   exact⟨x,r,fun _=>False,F2,rfl,fun _ h=>h.elim,fun _ h=>h,fun _ h _=>h,by simp only [aQD,OwV];exact⟨ho x (by simp),fun _=>False,fun _ h=>h.elim,trivial⟩,h3⟩
  |succ k=>
   simp at hk
   obtain⟨y,G1,G2,g0,g1,g2,g3,g4,g5⟩:=OwL.take h3 (fun x hx=>ho x (by simp [hx])) hk
   refine⟨y,G1,fun b=>F1 b∨G2 b,by simpa using g0,fun b hb=>f2 b (g1 b hb),fun b hb=>hb.elim (f1 b) fun h=>f2 b (g2 b h),fun b h1 h4=>h4.elim (fun h=>f3 b h (g1 b h1)) (g3 b h1),g4,?_⟩
   simp only [List.set_cons_succ,OwL]
   exact⟨x,r,F1,G2,rfl,fun b h=> .inl h,fun b h=> .inr h,fun b h1 h4=>f3 b h1 (g2 b h4),h2,g5⟩
/-! ### The maps -/
structure MapL (P:Program) (t k e:TypeId):Prop where
 und:P.underlying t=some (.map k e)
 key:P.underlying k=some (.int .i64)
 z:∀w,(zeroValue e).run P w= .ok (.slice none 0 0) w
section
variable {E:Env} {d:Option Nat} {σ:Ss} {K:Ss→Prop}
end
end Go.Eng
end
section
namespace Go.Eng
open Go Go.Maps Go.RowKit Go.WideMaps Go.Cats
section
variable {E:Env} {d:Option Nat} {σ:Ss} {K:Ss→Prop}
end
/-! ### Values that are called by name -/
structure RawV where
 x:Value
 one:x.oneCell'=true
instance:Inhabited RawV:=⟨⟨.slice none 0 0,rfl⟩⟩
@[go_sem] theorem aTO (x:RawV):x.x.oneCell'=true:=x.one
/-! ### Rules with the names of their lists -/
def fV (l:List (Rule×RawV)):Dt:= .sl 3 (.v (.int .i64 0)) (l.flatMap fun p=>[.v (.int .i64 p.1.fr), .v (.int .i64 p.1.to), .v p.2.x])
theorem aK6 (l:List (Rule×RawV)):(l.flatMap fun p=>([.v (.int .i64 p.1.fr), .v (.int .i64 p.1.to), .v p.2.x]:List Dt)).length=l.length*3:=by
 induction l with
 |nil=>rfl
 |cons p l ih=>rw [List.flatMap_cons,List.length_append,ih];simp;omega
@[go_sem] theorem aPn (l):(fV l).isSl=true:=rfl
@[go_sem] theorem aK8 (l):(fV l).sz=3:=rfl
@[go_sem] theorem aK7 (l:List (Rule×RawV)):(fV l).nc=l.length*3:=by simp only [fV,Dt.nc,Dt.cells];exact aK6 l
@[go_sem] theorem aQo (l:List (Rule×RawV)):(fV l).len=l.length:=by
 have:=aK7 l
 unfold Dt.len
 rw [this,aK8];omega
@[go_sem] theorem aPo (l:List (Rule×RawV)):(fV l).ones=true:=by
 simp only [fV,Dt.ones,Dt.cells,List.all_eq_true,List.mem_flatMap,forall_exists_index,and_imp]
 rintro x p _ hx
 simp only [List.mem_cons,List.not_mem_nil,or_false]at hx
 rcases hx with rfl|rfl|rfl
 ·rfl
 ·rfl
 ·exact p.2.one
@[go_sem] theorem aPm (l:List (Rule×RawV)):(fV l).flat=true:=by
 simp only [fV,Dt.flat,Dt.cells,List.all_eq_true,List.mem_flatMap,forall_exists_index,and_imp]
 rintro x p _ hx
 simp only [List.mem_cons,List.not_mem_nil,or_false]at hx
 rcases hx with rfl|rfl|rfl<;>rfl
@[go_sem] theorem aQn (l m:List (Rule×RawV)):Dt.app 3 (.v (.int .i64 0)) (fV l) (fV m)=fV (l++m):=by simp [fV,Dt.app,Dt.cells,List.flatMap_append]
@[go_sem] theorem aQp:Dt.sl 3 (.v (.int .i64 0)) []=fV []:=rfl
@[go_sem] theorem aOX (ts) (l:List (Rule×RawV)):Sv.ofDt ts (fV l)= .bor ts (fV l):=rfl
def RLent (rvs:List (Rule×RawV)) (w:World) (S:Nat→Prop):Prop:=∀p∈rvs,RdV w S (ints p.1.by_) p.2.x
theorem RLent.ok {X:Cx} {rvs:List (Rule×RawV)} (h:RLent rvs X.w0 X.S):RdOk X (RLent rvs):=fun w S ag hS p hp=>Lent.at (X:=X) (h p hp) ag hS
end Go.Eng
end
