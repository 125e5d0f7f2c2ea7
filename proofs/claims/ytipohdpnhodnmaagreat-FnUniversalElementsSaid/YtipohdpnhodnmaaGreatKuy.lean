/- Several texts in one: EngFs, EngSc, EngEz. -/
import Derived.Test.YtipohdpnhodnmaaGreatKex
import Derived.Laws.CopyRow
set_option linter.unusedVariables false
set_option linter.unusedSimpArgs false
section
namespace Go.Eng
open Go Go.Cats
/-! ### Lists of truth values -/
def lO (l:List Bool):Dt:= .sl 1 (.v (.bool false)) (l.map fun x=> .v (.bool x))
@[go_sem] theorem aPM (l):(lO l).isSl=true:=rfl
@[go_sem] theorem aTD (l):(lO l).sz=1:=rfl
@[go_sem] theorem aTC (l:List Bool):(lO l).nc=l.length:=by simp [lO,Dt.nc,Dt.cells]
@[go_sem] theorem aQL (l:List Bool):(lO l).len=l.length:=by simp [lO,Dt.len,Dt.sz,Dt.nc,Dt.cells]
@[go_sem] theorem aTB (l:List Bool) (k:Nat):(lO l).at k= .v (.bool (l.getD k false)):=by
 simp [lO,Dt.at,Dt.cells,Dt.df,List.getD_eq_getElem?_getD]
@[go_sem] theorem aQb (ts) (l:List Bool):Sv.ofDt ts (lO l)= .bor ts (lO l):=rfl
@[go_sem] theorem aPN (l:List Bool):(lO l).ones=true:=by simp [lO,Dt.ones,Dt.cells,Dt.one,Value.oneCell']
@[go_sem] theorem aPL (l:List Bool):(lO l).flat=true:=by simp [lO,Dt.flat,Dt.cells,Dt.isV]
@[go_sem] theorem aQM (l:List Bool) (k:Nat) (x:Bool):(lO l).put k (.v (.bool x))=lO (l.set k x):=by simp [lO,Dt.put,Dt.cells,Dt.sz,Dt.df,List.map_set]
@[go_sem] theorem aQN (n:Nat):Dt.sl 1 (.v (.bool false)) (List.replicate n (.v (.bool false)))=lO (List.replicate n false):=by simp [lO]
/-! ### Lists of functors -/
def aMe (f:Fun):List Dt:=[.v (.int .i64 f.src.ob),ints f.src.fr,ints f.src.to,ints f.src.id,aC f.src.co, .v (.int .i64 f.tgt.ob),ints f.tgt.fr,ints f.tgt.to,ints f.tgt.id,aC f.tgt.co,ints f.obs,ints f.ars]
def kG (l:List Fun):Dt:= .sl 12 (.v (.int .i64 0)) (l.flatMap aMe)
instance:Inhabited Fun:=⟨Fun.nil⟩
theorem aJb (f:Fun):(aMe f).length=12:=rfl
theorem aEZ (l:List Fun):(l.flatMap aMe).length=l.length*12:=by
 induction l with
 |nil=>rfl
 |cons f l ih=>rw [List.flatMap_cons,List.length_append,ih,aJb,List.length_cons];omega
@[go_sem] theorem aPR (l):(kG l).isSl=true:=rfl
@[go_sem] theorem aMg (l):(kG l).sz=12:=rfl
@[go_sem] theorem aMf (l:List Fun):(kG l).nc=l.length*12:=aEZ l
@[go_sem] theorem aRb (l:List Fun):(kG l).len=l.length:=by
 unfold Dt.len
 rw [aMf,aMg];omega
@[go_sem] theorem aQc (ts) (l:List Fun):Sv.ofDt ts (kG l)= .bor ts (kG l):=rfl
@[go_sem] theorem aPS (l:List Fun):(kG l).ones=true:=by
 unfold kG Dt.ones Dt.cells
 rw [List.all_eq_true]
 intro d hd
 obtain⟨f,_,hf⟩:=List.mem_flatMap.1 hd
 simp only [aMe,List.mem_cons,List.not_mem_nil,or_false]at hf
 rcases hf with rfl|rfl|rfl|rfl|rfl|rfl|rfl|rfl|rfl|rfl|rfl|rfl<;>rfl
@[go_sem] theorem aRa (l m:List Fun):Dt.app 12 (.v (.int .i64 0)) (kG l) (kG m)=kG (l++m):=by simp [kG,Dt.app,Dt.cells]
@[go_sem] theorem aRc:Dt.sl 12 (.v (.int .i64 0)) []=kG []:=rfl
@[go_sem] theorem aRd (o p:Int) (a b c e f g q r:List Int) (d h:List (List Int)):Dt.sl 12 (.v (.int .i64 0)) [.v (.int .i64 o),ints a,ints b,ints c,aC d, .v (.int .i64 p),ints e,ints f,ints g,aC h,ints q,ints r]=kG [⟨⟨o,a,b,c,d⟩,⟨p,e,f,g,h⟩,q,r⟩]:=rfl
@[go_sem] theorem aOt (f:Fun):(kG [f]).flat=false:=rfl
end Go.Eng
end
section
namespace Go.Eng
open Go
section
variable {E:Env} {d:Option Nat} {σ:Ss} {K:Ss→Prop}
theorem aLO {t e:TypeId} {esz eby:Nat} {ez:List Value} (hk:(E.ti t).k= .sli e esz eby ez) (w:World) (a:Addr) (n cap:Nat) (k:IntKind) (h:Int) (h0:0≤h) (h1:h≤cap):
  (Instr.sliceAt t (.slice (some a) n cap) none (some (.int k h)) none).run E.P w= .ok (.slice (some a) h.toNat cap) w:=by
 have ho:=E.ok t
 simp only [aR,hk]at ho
 obtain⟨_,ht,i,z,hi,hsz,hby,hz,hzc⟩:=ho
 have e0:a.add 0=a:=by cases a;rfl
 simp [Instr.sliceAt,Instr.slice,Instr.sliceBounds,Instr.sliceBound,asIntOf,run_underlying ht,sizeOf,typeInfo,hi,h0,h1,e0]
theorem aDf {t e:TypeId} {esz eby:Nat} {ez:List Value} (hk:(E.ti t).k= .sli e esz eby ez) (w:World) (k:IntKind):
  (Instr.sliceAt t (.slice none 0 0) none (some (.int k 0)) none).run E.P w= .ok (.slice none 0 0) w:=by
 have ho:=E.ok t
 simp only [aR,hk]at ho
 obtain⟨_,ht,i,z,hi,hsz,hby,hz,hzc⟩:=ho
 simp [Instr.sliceAt,Instr.slice,Instr.sliceBounds,Instr.sliceBound,asIntOf,run_underlying ht,sizeOf,typeInfo,hi]
end
end Go.Eng
end
section
namespace Go.Eng
open Go
section
variable {E:Env} {d:Option Nat} {σ:Ss} {K:Ss→Prop}
theorem aHn {t e:TypeId} {eby:Nat} {ez:List Value} {x y:Operand} {k:IntKind} {n:Nat} {A:List Int} (hk:(E.ti t).k= .sli e 1 eby ez) (hx:σ.opd x= .bor [] (ints A)) (hy:σ.opd y= .v (.int k n)) (hn:n≤A.length)
  (hK:K (σ.ap d (.bor [] (ints (A.take n))) [] σ.nx)):cG E d (.slice t x none (some y) none) σ K:=by
 refine⟨[],_,[],_,fun X o _ hd ho hdn tm rs h1 h2=>?_,hK,fun j hj=>by simp at hj⟩
 have ex:opd tm x=σ.opd x:=h1 x (by rw [ho];simp [Op.operands])
 have ey:opd tm y=σ.opd y:=h1 y (by rw [ho];simp [Op.operands])
 refine aY (E:=E) (by rw [hd];exact hdn) fun ac w c hp h=>?_
 have hx1:=h x
 have hy1:=h y
 rw [ex,hx]at hx1
 rw [ey,hy]at hy1
 simp only [Sv.ok]at hx1 hy1
 obtain⟨tb,hc1,h3⟩:=hx1
 have hrd:=h3 (fun p hp=>by cases hp)
 unfold ints at hrd
 simp only [RdV]at hrd
 obtain⟨_,⟨e1,e2⟩|⟨g,off,sp,m,cap,vs,q1,q2,q3,q4,q5,q6,q7⟩⟩:=hrd
 ·have hA:A=[]:=by simpa using e2
  subst hA
  have hn0:n=0:=by simpa using hn
  subst hn0
  refine⟨.slice none 0 0,?_,?_⟩
  ·simp [execOp,ho,e1,hy1,aDf hk]
  ·simp only [Sv.ok]
   exact⟨tb,rfl,fun _=>by simp [ints,RdV]⟩
 ·have hm:m=A.length:=by simpa using q2
  refine⟨.slice (some ⟨g,off,sp⟩) n cap,?_,?_⟩
  ·have:=aLO (E:=E) hk w ⟨g,off,sp⟩ m cap k (n:Int) (by omega) (by omega)
   simp [execOp,ho,q1,hy1,this]
  ·simp only [Sv.ok]
   refine⟨tb,rfl,fun _=>?_⟩
   unfold ints
   simp only [RdV]
   refine⟨by decide, .inr ⟨g,off,sp,n,cap,vs.take n,rfl,by simp;omega,by omega,q4,fun hne=>q5 fun hA=>hne ?_,?_,fun j x hj=>?_⟩⟩
   ·have:A=[]:=by simpa using hA
    subst this;simp
   ·have:=RdL.slice (A.map fun x=>Dt.v (.int .i64 x)) vs 0 n q6
    simpa [List.map_take]using this
   ·rw [List.getElem?_take]at hj
    split at hj
    ·exact q7 j x hj
    ·cases hj
end
end Go.Eng
end
