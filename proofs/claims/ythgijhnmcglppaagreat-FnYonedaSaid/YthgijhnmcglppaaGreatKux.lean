/- The engine, part FS: lists of truth values; lists of functors. -/
import Derived.Test.YthgijhnmcglppaaGreatKex
set_option linter.unusedVariables false
set_option linter.unusedSimpArgs false
namespace Go.Eng
open Go Go.Cats
/-! ### Lists of truth values -/
def mP (l:List Bool):Dt:= .sl 1 (.v (.bool false)) (l.map fun x=> .v (.bool x))
@[go_sem] theorem aOp (l):(mP l).isSl=true:=rfl
@[go_sem] theorem aSk (l):(mP l).sz=1:=rfl
@[go_sem] theorem aSj (l:List Bool):(mP l).nc=l.length:=by simp [mP,Dt.nc,Dt.cells]
@[go_sem] theorem aPi (l:List Bool):(mP l).len=l.length:=by simp [mP,Dt.len,Dt.sz,Dt.nc,Dt.cells]
@[go_sem] theorem aSi (l:List Bool) (k:Nat):(mP l).at k= .v (.bool (l.getD k false)):=by
 simp [mP,Dt.at,Dt.cells,Dt.df,List.getD_eq_getElem?_getD]
@[go_sem] theorem aOL (ts) (l:List Bool):Sv.ofDt ts (mP l)= .bor ts (mP l):=rfl
@[go_sem] theorem aOq (l:List Bool):(mP l).ones=true:=by simp [mP,Dt.ones,Dt.cells,Dt.one,Value.oneCell']
@[go_sem] theorem aOo (l:List Bool):(mP l).flat=true:=by simp [mP,Dt.flat,Dt.cells,Dt.isV]
@[go_sem] theorem aPj (l:List Bool) (k:Nat) (x:Bool):(mP l).put k (.v (.bool x))=mP (l.set k x):=by simp [mP,Dt.put,Dt.cells,Dt.sz,Dt.df,List.map_set]
@[go_sem] theorem aPk (n:Nat):Dt.sl 1 (.v (.bool false)) (List.replicate n (.v (.bool false)))=mP (List.replicate n false):=by simp [mP]
/-! ### Lists of functors -/
def aK6 (f:Fun):List Dt:=[.v (.int .i64 f.src.ob),ints f.src.fr,ints f.src.to,ints f.src.id,aC f.src.co, .v (.int .i64 f.tgt.ob),ints f.tgt.fr,ints f.tgt.to,ints f.tgt.id,aC f.tgt.co,ints f.obs,ints f.ars]
def kI (l:List Fun):Dt:= .sl 12 (.v (.int .i64 0)) (l.flatMap aK6)
instance:Inhabited Fun:=⟨Fun.nil⟩
theorem aIl (f:Fun):(aK6 f).length=12:=rfl
theorem aEC (l:List Fun):(l.flatMap aK6).length=l.length*12:=by
 induction l with
 |nil=>rfl
 |cons f l ih=>rw [List.flatMap_cons,List.length_append,ih,aIl,List.length_cons];omega
@[go_sem] theorem aOu (l):(kI l).isSl=true:=rfl
@[go_sem] theorem aK8 (l):(kI l).sz=12:=rfl
@[go_sem] theorem aK7 (l:List Fun):(kI l).nc=l.length*12:=aEC l
@[go_sem] theorem aPG (l:List Fun):(kI l).len=l.length:=by
 unfold Dt.len
 rw [aK7,aK8];omega
@[go_sem] theorem aOM (ts) (l:List Fun):Sv.ofDt ts (kI l)= .bor ts (kI l):=rfl
@[go_sem] theorem aOv (l:List Fun):(kI l).ones=true:=by
 unfold kI Dt.ones Dt.cells
 rw [List.all_eq_true]
 intro d hd
 obtain⟨f,_,hf⟩:=List.mem_flatMap.1 hd
 simp only [aK6,List.mem_cons,List.not_mem_nil,or_false]at hf
 rcases hf with rfl|rfl|rfl|rfl|rfl|rfl|rfl|rfl|rfl|rfl|rfl|rfl<;>rfl
@[go_sem] theorem aPF (l m:List Fun):Dt.app 12 (.v (.int .i64 0)) (kI l) (kI m)=kI (l++m):=by simp [kI,Dt.app,Dt.cells]
@[go_sem] theorem aPH:Dt.sl 12 (.v (.int .i64 0)) []=kI []:=rfl
@[go_sem] theorem aPI (o p:Int) (a b c e f g q r:List Int) (d h:List (List Int)):Dt.sl 12 (.v (.int .i64 0)) [.v (.int .i64 o),ints a,ints b,ints c,aC d, .v (.int .i64 p),ints e,ints f,ints g,aC h,ints q,ints r]=kI [⟨⟨o,a,b,c,d⟩,⟨p,e,f,g,h⟩,q,r⟩]:=rfl
@[go_sem] theorem aNd (f:Fun):(kI [f]).flat=false:=rfl
end Go.Eng
