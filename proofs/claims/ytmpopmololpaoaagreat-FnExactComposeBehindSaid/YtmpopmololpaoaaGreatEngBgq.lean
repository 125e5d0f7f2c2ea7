/- The engine, part BG: the lists of a list are told apart from the list of their headers: so headers may be written twice, or handed on. -/
import Derived.Test.YtmpopmololpaoaaGreatKex
set_option linter.unusedVariables false
set_option linter.unusedSimpArgs false
namespace Go.Eng
open Go
def rawsV (ys : List Value) : Dt:=.sl 1 (.sl 1 (.v (.int .i64 0)) []) (ys.map Dt.v)
@[go_sem] theorem rawsV_isSl (l) : (rawsV l).isSl = true:=rfl
@[go_sem] theorem rawsV_sz (l) : (rawsV l).sz = 1:=rfl
@[go_sem] theorem rawsV_nc (l : List Value) : (rawsV l).nc = l.length:=by simp [rawsV,Dt.nc,Dt.cells]
@[go_sem] theorem rawsV_len (l : List Value) : (rawsV l).len = l.length:=by simp [rawsV,Dt.len,Dt.sz,Dt.nc,Dt.cells]
@[go_sem] theorem ofDt_rawsV (ts) (l : List Value) : Sv.ofDt ts (rawsV l) = .bor ts (rawsV l):=rfl
@[go_sem] theorem rawsV_put (l : List Value) (k : Nat) (x : Value) : (rawsV l).put k (.v x) = rawsV (l.set k x):=by simp [rawsV,Dt.put,Dt.cells,Dt.sz,Dt.df,List.map_set]
@[go_sem] theorem rawsV_flat (l : List Value) : (rawsV l).flat = true:=by simp [rawsV,Dt.flat,Dt.cells,Dt.isV]
@[go_sem] theorem rawsV_app (l m : List Value) : Dt.app 1 (.sl 1 (.v (.int .i64 0)) []) (rawsV l) (rawsV m) = rawsV (l ++ m):=by simp [rawsV,Dt.app,Dt.cells]
@[go_sem] theorem rawsV_app' (l m : List Value) : Dt.app 1 (ints []) (rawsV l) (rawsV m) = rawsV (l ++ m):=rawsV_app l m
@[go_sem] theorem rawsV_app0 (m : List Value) : Dt.app 1 (ints []) (intss []) (rawsV m) = rawsV m:=rawsV_app [] m
@[go_sem] theorem rawsV_one (x : Value) : Dt.sl 1 (ints []) [.v x] = rawsV [x]:=rfl
@[go_sem] theorem rawsV_nil : rawsV [] = intss []:=rfl
/-! ### To the lists told apart, and back -/
section
variable {X : Cx} {E : Env} {c : Code} {σ : Ss} {Q : Exit → Ss → Prop}
end
/-! ### Headers and their lists, shown to a callee -/
def Shows (V : List Nat) (rs0 : Nat → Rs) (s e : Sv) : Prop:=∀ (w0 w : World) (U S : Nat → Prop) (c c' : Nat → Cn) (rs : Nat → Rs) (u : Value),Hp w0 U S c rs w → (∀ i ∈ V,rs i = rs0 i) → s.ok w S c rs u → e.ok w (SV S c V) c' (rsL []) u
def ShowsL (V : List Nat) (rs0 : Nat → Rs) : List Sv → List Sv → Prop
  | [],[]=>True
  | s :: l,e :: m=>Shows V rs0 s e ∧ ShowsL V rs0 l m
  | _,_=>False
theorem ShowsL.ok {V : List Nat} {rs0 : Nat → Rs} {w0 w : World} {U S : Nat → Prop} {c : Nat → Cn} (c' : Nat → Cn) {rs : Nat → Rs} (hp : Hp w0 U S c rs w) (hv : ∀ i ∈ V,rs i = rs0 i) : ∀ (l m : List Sv) (us : List Value),ShowsL V rs0 l m → Sv.okL w S c rs l us → Sv.okL w (SV S c V) c' (rsL []) m us
  | [],[],us,_,h=>by simpa [Sv.okL] using h
  | s :: l,e :: m,us,h,k=>by
    simp only [Sv.okL] at k ⊢
    obtain ⟨x,r,e1,k1,k2⟩:=k
    exact ⟨x,r,e1,h.1 _ _ _ _ _ c' _ _ hp hv k1,ShowsL.ok c' hp hv l m r h.2 k2⟩
  | [],_ :: _,_,h,_=>h.elim
  | _ :: _,[],_,h,_=>h.elim
theorem shows_v {V : List Nat} {rs0 : Nat → Rs} (x : Value) : Shows V rs0 (.v x) (.v x):=fun _ _ _ _ _ _ _ _ _ _ h=>by simpa [Sv.ok] using h
end Go.Eng
