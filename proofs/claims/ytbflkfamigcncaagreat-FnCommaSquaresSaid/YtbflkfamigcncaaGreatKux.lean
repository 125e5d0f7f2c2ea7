/- Several texts in one: EngSc, EngFs. -/
import Derived.Test.YtbflkfamigcncaaGreatKex
import Derived.Laws.CopyRow
set_option linter.unusedVariables false
set_option linter.unusedSimpArgs false
section
namespace Go.Eng
open Go
section
variable {E:Env} {d:Option Nat} {σ:Ss} {K:Ss→Prop}
end
end Go.Eng
end
section
namespace Go.Eng
open Go Go.Cats
/-! ### Lists of truth values -/
def nM (l:List Bool):Dt:= .sl 1 (.v (.bool false)) (l.map fun x=> .v (.bool x))
@[go_sem] theorem aOB (l):(nM l).isSl=true:=rfl
@[go_sem] theorem aSs (l):(nM l).sz=1:=rfl
@[go_sem] theorem aSr (l:List Bool):(nM l).nc=l.length:=by simp [nM,Dt.nc,Dt.cells]
@[go_sem] theorem aPG (l:List Bool):(nM l).len=l.length:=by simp [nM,Dt.len,Dt.sz,Dt.nc,Dt.cells]
@[go_sem] theorem aSq (l:List Bool) (k:Nat):(nM l).at k= .v (.bool (l.getD k false)):=by
 simp [nM,Dt.at,Dt.cells,Dt.df,List.getD_eq_getElem?_getD]
@[go_sem] theorem aO2 (ts) (l:List Bool):Sv.ofDt ts (nM l)= .bor ts (nM l):=rfl
@[go_sem] theorem aOC (l:List Bool):(nM l).ones=true:=by simp [nM,Dt.ones,Dt.cells,Dt.one,Value.oneCell']
@[go_sem] theorem aOA (l:List Bool):(nM l).flat=true:=by simp [nM,Dt.flat,Dt.cells,Dt.isV]
@[go_sem] theorem aPH (l:List Bool) (k:Nat) (x:Bool):(nM l).put k (.v (.bool x))=nM (l.set k x):=by simp [nM,Dt.put,Dt.cells,Dt.sz,Dt.df,List.map_set]
@[go_sem] theorem aPI (n:Nat):Dt.sl 1 (.v (.bool false)) (List.replicate n (.v (.bool false)))=nM (List.replicate n false):=by simp [nM]
/-! ### Lists of functors -/
def rH (f:Fun):List Dt:=[.v (.int .i64 f.src.ob),ints f.src.fr,ints f.src.to,ints f.src.id,aE f.src.co, .v (.int .i64 f.tgt.ob),ints f.tgt.fr,ints f.tgt.to,ints f.tgt.id,aE f.tgt.co,ints f.obs,ints f.ars]
def bW (l:List Fun):Dt:= .sl 12 (.v (.int .i64 0)) (l.flatMap rH)
instance:Inhabited Fun:=⟨Fun.nil⟩
theorem aIC (f:Fun):(rH f).length=12:=rfl
theorem nV (l:List Fun):(l.flatMap rH).length=l.length*12:=by
 induction l with
 |nil=>rfl
 |cons f l ih=>rw [List.flatMap_cons,List.length_append,ih,aIC,List.length_cons];omega
@[go_sem] theorem aOI (l):(bW l).isSl=true:=rfl
@[go_sem] theorem aK3 (l):(bW l).sz=12:=rfl
@[go_sem] theorem aF9 (l:List Fun):(bW l).nc=l.length*12:=nV l
@[go_sem] theorem aP6 (l:List Fun):(bW l).len=l.length:=by
 unfold Dt.len
 rw [aF9,aK3];omega
@[go_sem] theorem aO3 (ts) (l:List Fun):Sv.ofDt ts (bW l)= .bor ts (bW l):=rfl
@[go_sem] theorem aOJ (l:List Fun):(bW l).ones=true:=by
 unfold bW Dt.ones Dt.cells
 rw [List.all_eq_true]
 intro d hd
 obtain⟨f,_,hf⟩:=List.mem_flatMap.1 hd
 simp only [rH,List.mem_cons,List.not_mem_nil,or_false]at hf
 rcases hf with rfl|rfl|rfl|rfl|rfl|rfl|rfl|rfl|rfl|rfl|rfl|rfl<;>rfl
@[go_sem] theorem aP5 (l m:List Fun):Dt.app 12 (.v (.int .i64 0)) (bW l) (bW m)=bW (l++m):=by simp [bW,Dt.app,Dt.cells]
@[go_sem] theorem aP7:Dt.sl 12 (.v (.int .i64 0)) []=bW []:=rfl
@[go_sem] theorem aP8 (o p:Int) (a b c e f g q r:List Int) (d h:List (List Int)):Dt.sl 12 (.v (.int .i64 0)) [.v (.int .i64 o),ints a,ints b,ints c,aE d, .v (.int .i64 p),ints e,ints f,ints g,aE h,ints q,ints r]=bW [⟨⟨o,a,b,c,d⟩,⟨p,e,f,g,h⟩,q,r⟩]:=rfl
@[go_sem] theorem aNo (f:Fun):(bW [f]).flat=false:=rfl
theorem aB0 (l:List Fun) (i:Nat) (h:i<l.length):(bW l).part (i*12) 12=rH (l.getD i default):=by
 unfold bW Dt.part
 simp only [Dt.cells]
 induction l generalizing i with
 |nil=>simp at h
 |cons p l ih=>
  cases i with
  |zero=>rfl
  |succ i=>
   rw [List.flatMap_cons,show(i+1)*12=12+i*12 by omega,←List.drop_drop,List.getD_cons_succ]
   exact ih i (by simpa using h)
theorem aK2 (l:List Fun) (i k:Nat) (h:i<l.length) (hk:k<12):(bW l).at (i*12+k)=(rH (l.getD i default)).getD k (.v (.int .i64 0)):=by
 have e:=aB0 l i h
 unfold Dt.part at e
 unfold Dt.at
 rw [←e,List.getD_eq_getElem?_getD,List.getD_eq_getElem?_getD,List.getElem?_take,if_pos hk,List.getElem?_drop]
 rfl
end Go.Eng
end
