/- Several texts in one: EngSc, EngFs. -/
import Derived.Test.YthgijhnmcglppaaGreatKex
import Derived.Laws.CopyRow
set_option linter.unusedVariables false
set_option linter.unusedSimpArgs false
section
namespace Go.Eng
open Go
section
variable {E:Env} {d:Option Nat} {σ:Ss} {K:Ss→Prop}
theorem aOr {t e:TypeId} {esz eby:Nat} {ez:List Value} (hk:(E.ti t).k= .sli e esz eby ez) (w:World) (a:Addr) (n cap:Nat) (k:IntKind) (h:Int) (h0:0≤h) (h1:h≤cap):
  (Instr.sliceAt t (.slice (some a) n cap) none (some (.int k h)) none).run E.P w= .ok (.slice (some a) h.toNat cap) w:=by
 have ho:=E.ok t
 simp only [aP,hk]at ho
 obtain⟨_,ht,i,z,hi,hsz,hby,hz,hzc⟩:=ho
 have e0:a.add 0=a:=by cases a;rfl
 simp [Instr.sliceAt,Instr.slice,Instr.sliceBounds,Instr.sliceBound,asIntOf,run_underlying ht,sizeOf,typeInfo,hi,h0,h1,e0]
theorem aFO {t e:TypeId} {esz eby:Nat} {ez:List Value} (hk:(E.ti t).k= .sli e esz eby ez) (w:World) (k:IntKind):
  (Instr.sliceAt t (.slice none 0 0) none (some (.int k 0)) none).run E.P w= .ok (.slice none 0 0) w:=by
 have ho:=E.ok t
 simp only [aP,hk]at ho
 obtain⟨_,ht,i,z,hi,hsz,hby,hz,hzc⟩:=ho
 simp [Instr.sliceAt,Instr.slice,Instr.sliceBounds,Instr.sliceBound,asIntOf,run_underlying ht,sizeOf,typeInfo,hi]
theorem wR {t e:TypeId} {eby:Nat} {ez:List Value} {x y:Operand} {i cv:Nat} {k:IntKind} {n:Nat} {A:List Int} (hk:(E.ti t).k= .sli e 1 eby ez) (hx:σ.opd x= .sl i) (hi:σ.get i=⟨cv, .arr (ints A)⟩) (hc:1≤cv) (hy:σ.opd y= .v (.int k n)) (hn:n≤A.length)
  (hK:K (σ.ap d (.bor [(i,cv)] (ints (A.take n))) [] σ.nx)):dV E d (.slice t x none (some y) none) σ K:=by
 refine⟨[i],_,[],_,fun X o _ hd ho hdn tm rs h1 h2=>?_,hK,fun j hj=> .inl ?_⟩
 ·have hr:rs i=⟨cv, .arr (ints A)⟩:=(h2 i (by simp)).trans hi
  have ex:opd tm x=σ.opd x:=h1 x (by rw [ho];simp [Op.operands])
  have ey:opd tm y=σ.opd y:=h1 y (by rw [ho];simp [Op.operands])
  refine aY (E:=E) (by rw [hd];exact hdn) fun ac w c hp h=>?_
  have hx1:=h x
  have hy1:=h y
  rw [ex,hx]at hx1
  rw [ey,hy]at hy1
  simp only [Sv.ok]at hx1 hy1
  have hres:=hp.res i
  rw [hr]at hres
  obtain⟨h3,h4⟩:=hres
  have hrd:=OwV.rd _ _ h3
  have tb:xZ rs [(i,cv)]:=fun p hp=>by
   rw [List.mem_singleton]at hp;subst hp
   rw [hr];exact⟨hc,Nat.le_refl _⟩
  have hreg:∀b,(c i).fp b→Reg X.S c [(i,cv)] b:=fun b hb=> .inr ⟨(i,cv),by simp,hb⟩
  unfold ints at h3
  simp only [OwV]at h3
  obtain⟨_,h3⟩:=h3
  rcases h3 with⟨e1,e2⟩|⟨g,m,cap,cur,e',e1,e2,e3,e4,e5,e6,e7,e8⟩
  ·have hA:A=[]:=by simpa using e2
   subst hA
   have hn0:n=0:=by simpa using hn
   subst hn0
   refine⟨.slice none 0 0,?_,?_⟩
   ·simp [execOp,ho,hx1.2,hy1,e1,aFO hk]
   ·simp only [Sv.ok]
    exact⟨tb,rfl,fun _=>by simp [ints,RdV]⟩
  ·have hm:m=A.length:=by simpa using e2
   refine⟨.slice (some ⟨g,0,none⟩) n cap,?_,?_⟩
   ·have:=aOr (E:=E) hk w ⟨g,0,none⟩ m cap k (n:Int) (by omega) (by omega)
    simp [execOp,ho,hx1.2,hy1,e1,this]
   ·simp only [Sv.ok]
    refine⟨tb,rfl,fun _=>?_⟩
    rw [e1]at hrd
    unfold ints at hrd⊢
    simp only [RdV]at hrd⊢
    obtain⟨_,hrd⟩:=hrd
    refine⟨by decide, .inr ?_⟩
    rcases hrd with⟨q,_⟩|⟨g',off,sp,n',cap',vs,q1,q2,q3,q4,q5,q6,q7⟩
    ·cases q
    ·injection q1 with q1 q1' q1''
     injection q1 with q1
     injection q1 with a1 a2 a3
     subst a1 a2 a3 q1' q1''
     refine⟨g,0,none,n,cap,vs.take n,rfl,by simp;omega,by omega,e4,fun hne=>?_,?_,fun j x hj=>?_⟩
     ·refine⟨rfl,hreg g e5⟩
     ·have:=RdL.slice (A.map fun x=>Dt.v (.int .i64 x)) vs 0 n (RdL.mono hreg _ _ q6)
      simpa [List.map_take]using this
     ·rw [List.getElem?_take]at hj
      split at hj
      ·exact q7 j x hj
      ·cases hj
 ·rw [List.mem_singleton]at hj
  subst hj
  exact mQ (by simp [Op.operands,hx,Sv.ids])
theorem aDN {dT sT e:TypeId} {eby:Nat} {ez:List Value} {x y:Operand} {i j cv cw:Nat} {A B:List Int} (hk:(E.ti dT).k= .sli e 1 eby ez) (hx:σ.opd x= .sl i) (hi:σ.get i=⟨cv, .arr (ints A)⟩) (hy:σ.opd y= .sl j) (hj:σ.get j=⟨cw, .arr (ints B)⟩) (hij:i≠j) (hl:A.length=B.length) (h0:0<A.length)
  (hK:K (σ.ap d (.v (.int .i64 A.length)) [(i,⟨cv+1, .arr (ints B)⟩)] σ.nx)):dV E d (.call {callee:= .builtin .copy,args:= #[x,y],argTypes:= #[dT,sT]}) σ K:=by
 refine⟨[i,j],_,_,_,fun X o _ hd ho hdn tm rs h1 h2=>?_,hK,fun k hk=>?_⟩
 ·have hr:rs i=⟨cv, .arr (ints A)⟩:=(h2 i (by simp)).trans hi
  have hs:rs j=⟨cw, .arr (ints B)⟩:=(h2 j (by simp)).trans hj
  have ex:opd tm x=σ.opd x:=h1 x (by rw [ho];simp [Op.operands,Call.operands])
  have ey:opd tm y=σ.opd y:=h1 y (by rw [ho];simp [Op.operands,Call.operands])
  refine SStep0.inn ?_
  rintro a w K Q ⟨hdf,hnn,c,hp,ht,hpin⟩ hK
  have hx1:=dG ht x
  have hy1:=dG ht y
  rw [ex,hx]at hx1
  rw [ey,hy]at hy1
  simp only [Sv.ok]at hx1 hy1
  have hres:=hp.res i
  rw [hr]at hres
  obtain⟨h3,h4⟩:=hres
  have hrs:=hp.res j
  rw [hs]at hrs
  obtain⟨k3,k4⟩:=hrs
  unfold ints at h3 k3
  simp only [OwV]at h3 k3
  obtain⟨_,h3⟩:=h3
  obtain⟨_,k3⟩:=k3
  rcases h3 with⟨_,e2⟩|⟨g,m,cap,cur,e',e1,e2,e3,e4,e5,e6,e7,e8⟩
  ·have hA:A=[]:=by simpa using e2
   subst hA;simp at h0
  rcases k3 with⟨_,f2⟩|⟨g2,m2,cap2,cur2,e2',f1,f2,f3,f4,f5,f6,f7,f8⟩
  ·have hB:B=[]:=by simpa using f2
   rw [hB,List.length_nil]at hl;omega
  have hg:=h4 _ _ _ e1
  simp at hg
  subst hg
  have hm:m=A.length:=by simpa using e2
  have hm2:m2=B.length:=by simpa using f2
  have hu:=E.ok dT
  simp only [aP,hk]at hu
  obtain⟨_,hu,inf,z,hinf,hsz,hby,hz,hzc⟩:=hu
  have hfl:(B.map fun n=>Dt.v (.int .i64 n)).all Dt.isV=true:=by simp [Dt.isV]
  have hval:cur2.toList.take B.length=B.map (Value.int .i64):=by
   have:=(RdL.flat hfl).1 (RdL.mono (fun _ h=>h) _ _ (OwL.rd _ _ f8))
   simpa [Dt.val,Function.comp_def]using this
  have hrun:=run_copy_row (P:=E.P) w dT sT o.type e (c i).blk 0 m cap ⟨g2,0,none⟩ m2 cap2 cur e' (B.map (Value.int .i64)) hu (by simp [hinf,hsz]) e6 (by rw [List.length_map,hm,hm2,hl];exact(Nat.min_self _).symm)
   (fun q v hq=>by
    rw [←hval,List.getElem?_take]at hq
    split at hq
    ·rw [Addr.add_lit]
     simp [World.cell?,f6]
     simpa using hq
    ·cases hq) (by rw [List.length_map];omega) (by simp [Value.oneCell'])
  have hnew:(cur.toList.take 0++B.map (Value.int .i64)++cur.toList.drop (0+(B.map (Value.int .i64)).length))=B.map (Value.int .i64)++cur.toList.drop B.length:=by simp
  rw [hnew]at hrun
  have hc1:1≤(rs i).cv:=hx1.1
  obtain⟨hp',hx'⟩:=iM (X:=X) (w':=w.setRow (c i).blk (B.map (Value.int .i64)++cur.toList.drop B.length).toArray) hp i hc1 (cv+1) (by rw [hr];exact Nat.lt_succ_self _) (.arr (ints B)) rfl rfl rfl (by simp) (fE _ (by simpa using e5)) (fun hx'=>by
   refine⟨?_,h4⟩
   unfold ints
   simp only [OwV]
   refine⟨by decide, .inr ⟨(c i).blk,m,cap,_,e',e1,by rw [List.length_map];omega,e3,e4,e5,setRow_heap w _ cur _ e' (0,0) e6,by simp only [List.size_toArray,List.length_append,List.length_map,List.length_drop,Array.length_toList];omega,?_⟩⟩
   have:(B.map (Value.int .i64)++cur.toList.drop B.length).take (B.map fun n=>Dt.v (.int .i64 n)).length=B.map (Value.int .i64):=by
    rw [List.take_append_of_le_length (by simp),List.take_of_length_le (by simp)]
   simp only [List.toList_toArray,this]
   exact(OwL.flat hfl).2 (by simp [Dt.val,Function.comp_def]))
  unfold Oper.wp
  have hrun2:(execOp a.eval o).run E.P w= .ok (.value (goInt (B.map (Value.int .i64)).length)) (w.setRow (c i).blk (B.map (Value.int .i64)++cur.toList.drop B.length).toArray):=by
   simp [execOp,ho,resolve,invoke,builtin,hx1.2,hy1.2,e1,f1,hrun]
  rw [hrun2]
  exact hK _ _ (cN hdf hnn ht hpin hx' hp' (by rw [hd];exact hdn) (by simp [Sv.ok,goInt,hl]))
 ·simp only [List.mem_cons,List.not_mem_nil,or_false]at hk
  rcases hk with rfl|rfl
  ·exact .inr (by simp)
  ·exact .inl (mQ (by simp [Op.operands,Call.operands,hy,Sv.ids]))
end
end Go.Eng
end
section
namespace Go.Eng
open Go Go.Cats
/-! ### Lists of truth values -/
def nC (l:List Bool):Dt:= .sl 1 (.v (.bool false)) (l.map fun x=> .v (.bool x))
@[go_sem] theorem aSd (l):(nC l).isSl=true:=rfl
@[go_sem] theorem aWF (l):(nC l).sz=1:=rfl
@[go_sem] theorem aWE (l:List Bool):(nC l).nc=l.length:=by simp [nC,Dt.nc,Dt.cells]
@[go_sem] theorem aTj (l:List Bool):(nC l).len=l.length:=by simp [nC,Dt.len,Dt.sz,Dt.nc,Dt.cells]
@[go_sem] theorem aWD (l:List Bool) (k:Nat):(nC l).at k= .v (.bool (l.getD k false)):=by
 simp [nC,Dt.at,Dt.cells,Dt.df,List.getD_eq_getElem?_getD]
@[go_sem] theorem aSF (ts) (l:List Bool):Sv.ofDt ts (nC l)= .bor ts (nC l):=rfl
@[go_sem] theorem aSe (l:List Bool):(nC l).ones=true:=by simp [nC,Dt.ones,Dt.cells,Dt.one,Value.oneCell']
@[go_sem] theorem aSc (l:List Bool):(nC l).flat=true:=by simp [nC,Dt.flat,Dt.cells,Dt.isV]
@[go_sem] theorem aTk (l:List Bool) (k:Nat) (x:Bool):(nC l).put k (.v (.bool x))=nC (l.set k x):=by simp [nC,Dt.put,Dt.cells,Dt.sz,Dt.df,List.map_set]
@[go_sem] theorem aTl (n:Nat):Dt.sl 1 (.v (.bool false)) (List.replicate n (.v (.bool false)))=nC (List.replicate n false):=by simp [nC]
/-! ### Lists of functors -/
def aJ2 (f:Fun):List Dt:=[.v (.int .i64 f.src.ob),ints f.src.fr,ints f.src.to,ints f.src.id,aF f.src.co, .v (.int .i64 f.tgt.ob),ints f.tgt.fr,ints f.tgt.to,ints f.tgt.id,aF f.tgt.co,ints f.obs,ints f.ars]
def bM (l:List Fun):Dt:= .sl 12 (.v (.int .i64 0)) (l.flatMap aJ2)
instance:Inhabited Fun:=⟨Fun.nil⟩
theorem aLY (f:Fun):(aJ2 f).length=12:=rfl
theorem aHx (l:List Fun):(l.flatMap aJ2).length=l.length*12:=by
 induction l with
 |nil=>rfl
 |cons f l ih=>rw [List.flatMap_cons,List.length_append,ih,aLY,List.length_cons];omega
@[go_sem] theorem aSl (l):(bM l).isSl=true:=rfl
@[go_sem] theorem aOI (l):(bM l).sz=12:=rfl
@[go_sem] theorem aOH (l:List Fun):(bM l).nc=l.length*12:=aHx l
@[go_sem] theorem aTL (l:List Fun):(bM l).len=l.length:=by
 unfold Dt.len
 rw [aOH,aOI];omega
@[go_sem] theorem aSG (ts) (l:List Fun):Sv.ofDt ts (bM l)= .bor ts (bM l):=rfl
@[go_sem] theorem aSm (l:List Fun):(bM l).ones=true:=by
 unfold bM Dt.ones Dt.cells
 rw [List.all_eq_true]
 intro d hd
 obtain⟨f,_,hf⟩:=List.mem_flatMap.1 hd
 simp only [aJ2,List.mem_cons,List.not_mem_nil,or_false]at hf
 rcases hf with rfl|rfl|rfl|rfl|rfl|rfl|rfl|rfl|rfl|rfl|rfl|rfl<;>rfl
@[go_sem] theorem aTK (l m:List Fun):Dt.app 12 (.v (.int .i64 0)) (bM l) (bM m)=bM (l++m):=by simp [bM,Dt.app,Dt.cells]
@[go_sem] theorem aTM:Dt.sl 12 (.v (.int .i64 0)) []=bM []:=rfl
@[go_sem] theorem aTN (o p:Int) (a b c e f g q r:List Int) (d h:List (List Int)):Dt.sl 12 (.v (.int .i64 0)) [.v (.int .i64 o),ints a,ints b,ints c,aF d, .v (.int .i64 p),ints e,ints f,ints g,aF h,ints q,ints r]=bM [⟨⟨o,a,b,c,d⟩,⟨p,e,f,g,h⟩,q,r⟩]:=rfl
@[go_sem] theorem aQT (f:Fun):(bM [f]).flat=false:=rfl
theorem aDL (l:List Fun) (i:Nat) (h:i<l.length):(bM l).part (i*12) 12=aJ2 (l.getD i default):=by
 unfold bM Dt.part
 simp only [Dt.cells]
 induction l generalizing i with
 |nil=>simp at h
 |cons p l ih=>
  cases i with
  |zero=>rfl
  |succ i=>
   rw [List.flatMap_cons,show(i+1)*12=12+i*12 by omega,←List.drop_drop,List.getD_cons_succ]
   exact ih i (by simpa using h)
end Go.Eng
end
