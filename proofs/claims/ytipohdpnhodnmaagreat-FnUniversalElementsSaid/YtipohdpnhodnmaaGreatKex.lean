/- Several texts in one: EngRF, EngBX, EngMp, EngCl, EngDr, EngHk, EngNm, EngUn. -/
import Derived.Test.YtipohdpnhodnmaaGreatKdx
import Derived.RangeFuncIn
import Derived.Maps.Views
import Derived.Laws.BytesArg
import Derived.Carry
set_option linter.unusedVariables false
set_option linter.unusedSimpArgs false
section
namespace Go.Eng
open Go
def aRe (ids:List Nat):List (Nat×Nat):=ids.map fun i=>(i,i)
end Go.Eng
end
section
namespace Go.Eng
open Go
section
variable {X:Cx} {σ:Ss}
end
/-! ### Calls of a loop's body -/
theorem EvYield.mk {E:Env} {l:Nat} {args es:List Sv} {σ:Ss} {K:Sv→List (Nat×Rs)→Prop} {L0 L1:List (Nat×Rs)} {r:Sv} {H:(Nat→Cn)→Prop} (hs:aIl E.P l es L0 r L1 H) (ML:List (Nat×Nat)) (V:List Nat)
  (h1:qR (rsL σ.rs) (bL (rsL σ.rs) 3 (args.flatMap Sv.ids)) L0 ML V) (h2:Sv.mtL ML V (rsL σ.rs) (rsL L0) args es)
  (hH:∀(X:Cx) (c:Nat→Cn),E.hk X.c0 X.rs0→(∀i,1≤(X.rs0 i).cv→(c i).blk=(X.c0 i).blk∧(c i).hdr=(X.c0 i).hdr)→H (cnM c ML (rsL L0)))
  (h3:K (r.ren (aU (rsL σ.rs) (rsL L1) ML V)) (cR (aU (rsL σ.rs) (rsL L1) ML V) (rsL L1))):EvYield E l args σ K:=by
 obtain⟨a1,a2,a3,a4,a5⟩:=h1
 exact⟨es,L0,r,L1,ML,V,H,fun i hi=>(jH a4 i hi).2.2,hs,
  ⟨a1,a2,fun i hi=>(jH a4 i hi).1,fun i hi=>(jH a4 i hi).2.1,fun k=>(mT a3 k).1,fun k=>(mT a3 k).2,wO a5⟩,h2,hH,h3⟩
end Go.Eng
end
section
namespace Go.Eng
open Go Go.Maps Go.RowKit Go.WideMaps
structure MapT (P:Program) (t k e:TypeId):Prop where
 und:P.underlying t=some (.map k e)
 key:P.underlying k=some .string
 el:P.underlying e=some (.int .i64)
 z:∀w,(zeroValue e).run P w= .ok (.int .i64 0) w
def aRt (P:Program) (k e:TypeId) (n:Nat) (D:DataW Unit):Ab:=
 ⟨fun w v F=>∃b,v= .map (some b)∧F b∧w.ownsMap P k (plainElem P e) b n D,by
  rintro w w' v F ag ⟨b,h1,h2,es,clock,h3,h4⟩
  exact⟨b,h1,h2,es,clock,(ag b h2).trans h3,h4⟩⟩
def mapD (P:Program) (k e:TypeId) (n:Nat) (D:DataW Unit):Dt:= .ab (aRt P k e n D)
theorem zA {P:Program} {k e:TypeId} {n:Nat} {D:DataW Unit} {w:World} {F:Nat→Prop} {u:Value} (h:OwV w F (mapD P k e n D) u):∃b,u= .map (some b)∧F b∧w.ownsMap P k (plainElem P e) b n D:=by
 simp only [mapD,OwV]at h
 obtain⟨_,F',h1,b,h2,h3,h4⟩:=h
 exact⟨b,h2,h1 b h3,h4⟩
theorem aHz {P:Program} {k e:TypeId} {n:Nat} {D:DataW Unit} {w:World} {F:Nat→Prop} {u:Value} (h:RdV w F (mapD P k e n D) u):∃b,u= .map (some b)∧F b∧w.ownsMap P k (plainElem P e) b n D:=by
 simp only [mapD,RdV]at h
 obtain⟨_,F',h1,b,h2,h3,h4⟩:=h
 exact⟨b,h2,h1 b h3,h4⟩
theorem aGm {P:Program} {k e:TypeId} {n:Nat} {D:DataW Unit} {w:World} {F:Nat→Prop} {b:Nat} (hb:F b) (h:w.ownsMap P k (plainElem P e) b n D):OwV w F (mapD P k e n D) (.map (some b)):=by
 simp only [mapD,OwV]
 exact⟨rfl,F,fun _ h=>h,b,rfl,hb,h⟩
section
variable {E:Env} {d:Option Nat} {σ:Ss} {K:Ss→Prop}
theorem aCl {t k e:TypeId} (hf:σ.get σ.nx=⟨0, .gone⟩) (hK:K (σ.ap d (.sl σ.nx) [(σ.nx,⟨1, .arr (mapD E.P k e 0 (.map []))⟩)] (σ.nx+1))):cG E d (.makeMap t none) σ K:=by
 refine⟨[σ.nx],_,[(σ.nx,_)],_,fun X o _ hd ho hdn tm rs h1 h2=>?_,hK,fun i hi=> .inr hi⟩
 have hu:rs σ.nx=⟨0, .gone⟩:=(h2 _ (by simp)).trans hf
 refine SStep0.inn ?_
 rintro a w K Q ⟨hdf,hn,c,hp,ht,hpin⟩ hK
 have hag:Agree (fun b=>b<w.heap.size) w (w.alloc (.map #[] 0)):=fun b hb=>Go.RowKit.Below.heap_alloc w _ b hb
 obtain⟨hp',hx⟩:=xA (X:=X) (w':=w.alloc (.map #[] 0)) hp σ.nx hu ⟨w.heap.size, .map (some w.heap.size),fun b=>b=w.heap.size⟩ (.arr (mapD E.P k e 0 (.map []))) rfl rfl rfl (by simp) hag
  (fun b hb=>by have hb':b=w.heap.size:=hb;subst hb';simp) rfl (fun _=>⟨aGm rfl (World.ownsMap_made w E.P k (plainElem E.P e)),fun _ _ _ h=>by cases h⟩)
 unfold Oper.wp
 have hrun:(execOp a.eval o).run E.P w= .ok (.value (.map (some w.heap.size))) (w.alloc (.map #[] 0)):=by
  simp [execOp,ho,run_makeMap]
 rw [hrun]
 refine hK _ _ (bO hdf hn ht hpin hx hp' (by rw [hd];exact hdn) ?_)
 simp [Sv.ok,upd_same]
theorem yU {t k e:TypeId} {m x v:Operand} {i n cv:Nat} {D:DataW Unit} {s:ByteArray} {z:Int} (hT:MapT E.P t k e) (hd0:d=none) (hm:σ.opd m= .sl i) (hi:σ.get i=⟨cv, .arr (mapD E.P k e n D)⟩)
  (hx:σ.opd x= .v (.string s)) (hs:s.size≤maxLen) (hv:σ.opd v=iv z) (hz:inR z) (hn:n<maxLen)
  (hK:K (σ.ap d .dead [(i,⟨cv+1, .arr (mapD E.P k e (n+1) (D.put (.string s.data.toList) (.lit (.int .i64 z))))⟩)] σ.nx)):cG E d (.mapUpdate t m x v) σ K:=by
 refine⟨[i],_,_,_,fun X o _ hd ho hdn tm rs h1 h2=>?_,hK,fun j hj=> .inr hj⟩
 have hr:rs i=⟨cv, .arr (mapD E.P k e n D)⟩:=(h2 i (by simp)).trans hi
 have em:opd tm m=σ.opd m:=h1 m (by rw [ho];simp [Op.operands])
 have ex:opd tm x=σ.opd x:=h1 x (by rw [ho];simp [Op.operands])
 have ev:opd tm v=σ.opd v:=h1 v (by rw [ho];simp [Op.operands])
 refine SStep0.inn ?_
 rintro a w K Q ⟨hdf,hnn,c,hp,ht,hpin⟩ hK
 have hm1:=bX ht m
 have hx1:=bX ht x
 have hv1:=bX ht v
 rw [em,hm]at hm1
 rw [ex,hx]at hx1
 rw [ev,hv]at hv1
 simp only [Sv.ok]at hm1 hx1 hv1
 have hres:=hp.res i
 rw [hr]at hres
 obtain⟨b,hb1,hb2,hown⟩:=zA hres.1
 have hwf:(Lit.int .i64 z).wf=true:=by
  have:=hz;unfold inR at this
  simp [Lit.wf,IntKind.min,IntKind.max,IntKind.signed,IntKind.bits];omega
 obtain⟨w',hrun,hown',hg⟩:=hown.update (t:=t) (string_keyed hT.key) hT.und hn (keyOf_string_mk hT.key hs) (plainElem_int hT.el hwf)
 have hc1:1≤(rs i).cv:=hm1.1
 have hsz:w'.heap.size=w.heap.size:=by
  obtain⟨es,clock,g1,g2,g3,_⟩:=hown
  obtain⟨es',clock',hrun3,_⟩:=Maps.fit_store (R':=plainElem (H:=Unit) E.P e) (string_keyed hT.key) hT.und g1 g2 (Nat.lt_of_le_of_lt g3 hn) (fun _ _ _ _ h=>h) (keyOf_string_mk hT.key hs) (plainElem_int hT.el hwf)
  rw [hrun3]at hrun
  injection hrun with _ e
  rw [←e]
  simp [Go.ChangeMaps.setBlock]
 have hag:Agree (fun b=>¬(c i).fp b) w w':=fun j hj=>by
  by_cases hlt:j<w.heap.size
  ·exact hg.block j hlt (fun h=>hj (by injection h with h;rw [h];exact hb2))
  ·rw [Array.getElem?_eq_none (by omega),Array.getElem?_eq_none (by omega)]
 obtain⟨hp',hx'⟩:=iB (X:=X) (w':=w') hp i hc1 (cv+1) (by rw [hr];exact Nat.lt_succ_self _) (.arr (mapD E.P k e (n+1) (D.put (.string s.data.toList) (.lit (.int .i64 z))))) hg.os hg.tape hg.output hsz hag (fun _=>⟨by rw [hb1];exact aGm hb2 hown',fun _ _ _ h=>by rw [hb1]at h;cases h⟩)
 unfold Oper.wp
 have hrun2:(execOp a.eval o).run E.P w= .ok .skip w':=by
  simp [execOp,ho,hm1.2,hb1,hx1,hv1,hrun]
 rw [hrun2]
 exact hK _ _ (bO hdf hnn ht hpin hx' hp' (by rw [hd];exact hdn) (by simp [Sv.ok]))
theorem aDx {t k e:TypeId} {m x:Operand} {i n cv:Nat} {D:DataW Unit} {s:ByteArray} {z:Int} (hT:MapT E.P t k e) (hm:σ.opd m= .sl i) (hi:σ.get i=⟨cv, .arr (mapD E.P k e n D)⟩)
  (hx:σ.opd x= .v (.string s)) (hs:s.size≤maxLen) (hz:D.atKey (.string s.data.toList) (.lit (.int .i64 0))= .lit (.int .i64 z))
  (hK:K (σ.ap d (iv z) [] σ.nx)):cG E d (.lookup t m x false) σ K:=by
 refine⟨[i],_,_,_,fun X o _ hd ho hdn tm rs h1 h2=>?_,hK,fun j hj=> .inl ?_⟩
 ·have hr:rs i=⟨cv, .arr (mapD E.P k e n D)⟩:=(h2 i (by simp)).trans hi
  have em:opd tm m=σ.opd m:=h1 m (by rw [ho];simp [Op.operands])
  have ex:opd tm x=σ.opd x:=h1 x (by rw [ho];simp [Op.operands])
  refine bM (E:=E) (by rw [hd];exact hdn) _ fun ac w c hp h=>?_
  have hm1:=h m
  have hx1:=h x
  rw [em,hm]at hm1
  rw [ex,hx]at hx1
  simp only [Sv.ok]at hm1 hx1
  have hres:=hp.res i
  rw [hr]at hres
  obtain⟨b,hb1,hb2,hown⟩:=zA hres.1
  obtain⟨c',hrun,hat,_⟩:=hown.lookup_int (t:=t) (string_keyed hT.key) hT.und hT.el (hT.z w) (keyOf_string_mk hT.key hs)
  rw [hz]at hat
  have hc:z=c':=by injection hat with h;injection h
  subst hc
  simp [execOp,ho,hm1.2,hb1,hx1,hrun]
 ·simp only [List.mem_singleton]at hj
  subst hj
  exact nC (by simp [Op.operands,hm,Sv.ids])
theorem aAO {t k e:TypeId} {m x:Operand} {n:Nat} {ts:List (Nat×Nat)} {D:DataW Unit} {s:ByteArray} {z:Int} (hT:MapT E.P t k e) (hm:σ.opd m= .bor ts (mapD E.P k e n D)) (htg:nO σ ts)
  (hx:σ.opd x= .v (.string s)) (hs:s.size≤maxLen) (hz:D.atKey (.string s.data.toList) (.lit (.int .i64 0))= .lit (.int .i64 z))
  (hK:K (σ.ap d (iv z) [] σ.nx)):cG E d (.lookup t m x false) σ K:=by
 refine⟨ts.map (·.1),_,_,_,fun X o _ hd ho hdn tm rs h1 h2=>?_,hK,fun j hj=> .inl ?_⟩
 ·have htv:gI rs ts:=fun p hp=>by
   have h3:=iU htg p hp
   rw [h2 p.1 (List.mem_map.2 ⟨p,hp,rfl⟩)]
   exact h3
  have em:opd tm m=σ.opd m:=h1 m (by rw [ho];simp [Op.operands])
  have ex:opd tm x=σ.opd x:=h1 x (by rw [ho];simp [Op.operands])
  refine bM (E:=E) (by rw [hd];exact hdn) _ fun ac w c hp h=>?_
  have hm1:=h m
  have hx1:=h x
  rw [em,hm]at hm1
  rw [ex,hx]at hx1
  simp only [Sv.ok]at hm1 hx1
  obtain⟨b,hb1,hb2,hown⟩:=aHz (hm1.2.2 htv)
  obtain⟨c',hrun,hat,_⟩:=hown.lookup_int (t:=t) (string_keyed hT.key) hT.und hT.el (hT.z w) (keyOf_string_mk hT.key hs)
  rw [hz]at hat
  have hc:z=c':=by injection hat with h;injection h
  subst hc
  simp [execOp,ho,hb1,hx1,hrun]
 ·exact nC (by simp only [Op.operands,List.flatMap_cons,List.toList_toArray];rw [hm];exact List.mem_append_left _ (by simpa [Sv.ids]using hj))
@[go_sem] theorem aQe {P:Program} {k e:TypeId} {n:Nat} {D:DataW Unit} (ts:List (Nat×Nat)):Sv.ofDt ts (mapD P k e n D)= .bor ts (mapD P k e n D):=rfl
theorem mI {src dst:TypeId} {k:IntKind} {q:IntKind} {x:Operand} {n:Int} (hs:(E.P.underlying src).isSome=true) (ht:E.P.underlying dst=some (.int k)) (hx:σ.opd x= .v (.int q n)) (hK:K (σ.ap d (.v (.int k (k.wrap n))) [] σ.nx)):cG E d (.convert src dst x) σ K:=by
 refine⟨[],_,[],_,fun X o _ hd ho hdn tm rs h1 h2=>?_,hK,fun i hi=>by simp at hi⟩
 refine bM (E:=E) (by rw [hd];exact hdn) _ fun ac w c hp h=>?_
 have hx1:=h x
 have ex:opd tm x=σ.opd x:=h1 x (by rw [ho];simp [Op.operands])
 rw [ex,hx]at hx1
 simp only [Sv.ok]at hx1
 obtain⟨u,hu⟩:=Option.isSome_iff_exists.mp hs
 simp [execOp,ho,hx1,convert,run_underlying hu,run_underlying ht,Conv.intToInt]
theorem wrap_u8 {n:Int} (h0:0≤n) (h1:n<256):IntKind.wrap .u8 n=n:=by
 unfold IntKind.wrap
 simp [IntKind.bits,IntKind.signed]
 omega
theorem aMm {src dst:TypeId} {q:IntKind} {x:Operand} {n:Int} (hs:(E.P.underlying src).isSome=true) (ht:E.P.underlying dst=some (.int .u8)) (hx:σ.opd x= .v (.int q n)) (h0:0≤n) (h1:n<256) (hK:K (σ.ap d (.v (.int .u8 n)) [] σ.nx)):cG E d (.convert src dst x) σ K:=
 mI hs ht hx (by rw [wrap_u8 h0 h1];exact hK)
def bys (l:List Int):Dt:= .sl 1 (.v (.int .u8 0)) (l.map fun n=> .v (.int .u8 n))
theorem aJp {src dst e:TypeId} {x:Operand} {i cv:Nat} {l:List Int} (hs:E.P.underlying src=some (.slice e)) (he:E.P.underlying e=some (.int .u8)) (ht:E.P.underlying dst=some .string) (hx:σ.opd x= .sl i) (hi:σ.get i=⟨cv, .arr (bys l)⟩)
  (hK:K (σ.ap d (.v (.string (strOfNums l))) [] σ.nx)):cG E d (.convert src dst x) σ K:=by
 refine⟨[i],_,[],_,fun X o _ hd ho hdn tm rs h1 h2=>?_,hK,fun j hj=> .inl ?_⟩
 ·have hr:rs i=⟨cv, .arr (bys l)⟩:=(h2 i (by simp)).trans hi
  refine bM (E:=E) (by rw [hd];exact hdn) _ fun ac w c hp h=>?_
  have hx1:=h x
  have ex:opd tm x=σ.opd x:=h1 x (by rw [ho];simp [Op.operands])
  rw [ex,hx]at hx1
  simp only [Sv.ok]at hx1
  have hres:=hp.res i
  rw [hr]at hres
  obtain⟨h3,h4⟩:=hres
  simp only [bys,OwV]at h3
  obtain⟨_,h3⟩:=h3
  rcases h3 with⟨e1,e2⟩|⟨g,n,cap,cur,e',e1,e2,e3,e4,e5,e6,e7,e8⟩
  ·have:l=[]:=by simpa using e2
   subst this
   simp only [execOp,ho,hx1.2,e1,Sem.run_bind]
   rw [run_convert_bytes_nil w src e hs he 0 0 dst ht]
   rfl
  ·have hln:n=l.length:=by simpa using e2
   have hcur:cur.toList.take l.length=l.map (Value.int .u8):=by
    have hfl:(l.map fun n=>Dt.v (.int .u8 n)).all Dt.isV=true:=by simp [Dt.isV]
    have:=(OwL.flat hfl).1 e8
    simpa [Dt.val,Function.comp_def]using this
   simp only [execOp,ho,hx1.2,e1,Sem.run_bind]
   rw [run_convert_bytes_arg w src e hs he g 0 n cap l hln.symm (fun j hj=>by
    have hjl:j<l.length:=by omega
    have h5:(cur.toList.take l.length)[j]? =some (.int .u8 (l.getD j 0)):=by
     rw [hcur];simp [hjl]
    rw [List.getElem?_take,if_pos hjl]at h5
    simp [World.cell?,e6]
    simpa using h5) dst ht]
   rfl
 ·simp only [List.mem_singleton]at hj
  subst hj
  exact nC (by simp [Op.operands,hx,Sv.ids])
end
end Go.Eng
end
section
namespace Go.Eng
open Go
structure LC where
 l:List Sv
 ok:dY l=true
theorem nB {s:Sv} (h:s.pure=true):(∃x,s= .v x)∨(∃d,s= .bor [] d)∨∃ds,s= .bptr [] ds:=by
 cases s with
 |v x=>exact .inl ⟨x,rfl⟩
 |bor ts d=>
  cases ts with
  |nil=>exact .inr (.inl ⟨d,rfl⟩)
  |cons _ _=>cases h
 |bptr ts d=>
  cases ts with
  |nil=>exact .inr (.inr ⟨d,rfl⟩)
  |cons _ _=>cases h
 |_=>cases h
theorem aBr:∀{l:List Sv},dY l=true→Sv.idsL l=[]
 |[],_=>by simp [Sv.idsL]
 |s::l,h=>by
  simp only [dY,Bool.and_eq_true]at h
  rcases nB h.1 with⟨x,rfl⟩|⟨d,rfl⟩|⟨d,rfl⟩<;>simp [Sv.idsL,Sv.ids,aBr h.2]
theorem aBD {R:Rn} (hR:R.vt=[]):∀{l:List Sv},dY l=true→Sv.renL R l=l
 |[],_=>by simp [Sv.renL]
 |s::l,h=>by
  simp only [dY,Bool.and_eq_true]at h
  rcases nB h.1 with⟨x,rfl⟩|⟨d,rfl⟩|⟨d,rfl⟩<;>simp [Sv.renL,Sv.ren,vU,hR,aBD hR h.2]
theorem aD4 {rs:Nat→Rs}:∀{l:List Sv},dY l=true→rvL rs l=l
 |[],_=>by simp [rvL]
 |s::l,h=>by
  simp only [dY,Bool.and_eq_true]at h
  rcases nB h.1 with⟨x,rfl⟩|⟨d,rfl⟩|⟨d,rfl⟩<;>simp [rvL,rvS,aD4 h.2]
theorem aBw:∀{l:List Sv},dY l=true→vS l l=[]
 |[],_=>by simp [vS]
 |s::l,h=>by
  simp only [dY,Bool.and_eq_true]at h
  rcases nB h.1 with⟨x,rfl⟩|⟨d,rfl⟩|⟨d,rfl⟩<;>simp [vS,pSv,aBw h.2]
@[go_sem] theorem aTP (c:LC):Sv.idsL c.l=[]:=aBr c.ok
@[go_sem] theorem aUd (c:LC) (ML:List (Nat×Nat)) (f g:Nat→Nat):Sv.renL ⟨ML,f,g,[]⟩ c.l=c.l:=aBD rfl c.ok
@[go_sem] theorem aWl (c:LC) (rs:Nat→Rs):rvL rs c.l=c.l:=aD4 c.ok
@[go_sem] theorem aT4 (c:LC):vS c.l c.l=[]:=aBw c.ok
@[go_sem] theorem aWc (c:LC) (ML:List (Nat×Nat)) (V:List Nat) (rs rs0:Nat→Rs):Sv.mtL ML V rs rs0 c.l c.l↔True:=⟨fun _=>trivial,fun _=>oJ c.ok⟩
theorem EvCall.lc {E:Env} {f:FuncId} {c:LC} {args:List Sv} {σ:Ss} {K:Sv→List (Nat×Rs)→Prop} {x:Value} (hp:dY args=true) (hs:Spec E.P f (args++c.l) [] (.v x) []) (hc:aF E.P f) (hK:K (.v x) []):EvCall E (.fn f c.l) args σ K:=by
 refine EvCall.mk hs hc [] [] ?_ ?_ ?_
 ·simp [qR,coL,coV,coM]
 ·have:dY (args++c.l)=true:=by
   have h2:=c.ok
   clear hs
   revert h2 hp
   generalize c.l=m
   induction args with
   |nil=>intro _ h;exact h
   |cons s l ih=>
    intro h k
    simp only [dY,Bool.and_eq_true]at h
    simp only [List.cons_append,dY,Bool.and_eq_true]
    exact⟨h.1,ih h.2 k⟩
  exact oJ this
 ·simpa [Sv.ren,cR,aU]using hK
theorem Imp.adoptI {X:Cx} {tm:List (Nat×Sv)} {rs:List (Nat×Rs)} {nx:Nat} (i k cv:Nat) (cells:List Sv) (hi:rsL rs i=⟨cv, .box cells⟩) (hk:cells[k]? =some (.v (.slice none 0 0))) (hf:rsL rs nx=⟨0, .gone⟩) (hx:(X.rs0 nx).cv=0):
  Imp X ⟨tm,rs,nx⟩ ⟨tm,(i,⟨cv, .box (cells.set k (.sl nx))⟩)::(nx,⟨1, .arr (ints [])⟩)::rs,nx+1⟩:=by
 have h:=Imp.adoptB (X:=X) (σ:=⟨tm,rs,nx⟩) i k 1 (.v (.int .i64 0)) cells (by decide) (by unfold Ss.get;rw [hi]) hk hf hx
 have e:((⟨tm,rs,nx⟩:Ss).get i).cv=cv:=by unfold Ss.get;rw [hi]
 rw [e]at h
 exact h
/-! ### Nil slices in a result, told as empty lists of one's own -/
def xN (L:List (Nat×Rs)):Prop:=∀p∈L,∃sz df,0<sz∧p.2=⟨1, .arr (.sl sz df [])⟩
theorem yG:∀{L:List (Nat×Rs)},xN L→∀i,rsL L i=⟨0, .gone⟩∨∃sz df,0<sz∧rsL L i=⟨1, .arr (.sl sz df [])⟩
 |[],_,i=> .inl rfl
 |(j,r)::l,h,i=>by
  rw [kJ]
  split
  ·exact .inr (h (j,r) (by simp))
  ·exact yG (fun p hp=>h p (by simp [hp])) i
theorem Spec.adopt {P:Program} {f:FuncId} {args:List Sv} {r r':Sv} {L1:List (Nat×Rs)} (h:Spec P f args [] r []) (hL:xN L1)
  (hr:∀(w:World) (S:Nat→Prop) (v:Value) (c:Nat→Cn),r.ok w S c (rsL []) v→r'.ok w S (fun _=>⟨0, .slice none 0 0,fun _=>False⟩) (rsL L1) v):Spec P f args [] r' L1:=by
 intro w0 U S c0 vs hp ha
 refine(h w0 U S c0 vs hp ha).mono fun e w' ⟨v,c1,he,hp1,hv,_⟩=>⟨v,fun _=>⟨0, .slice none 0 0,fun _=>False⟩,he,?_,hr _ _ _ _ hv,fun i hi=>by simp [sN]at hi⟩
 refine⟨hp1.os,hp1.tape,hp1.output,hp1.size,hp1.unch,hp1.sub,hp1.ult,fun i=>?_,fun i b hb=>hb.elim,fun i b hb=>hb.elim,fun i j b _ hb=>hb.elim,fun i=>rfl⟩
 rcases yG hL i with e|⟨sz,df,h0,e⟩
 ·rw [e];exact fun b hb=>hb
 ·rw [e]
  refine⟨?_,fun _ _ _ hh=>by cases hh⟩
  simp [OwV,h0]
theorem aAM {i:Nat} {L:List (Nat×Rs)} (h:xN L):xN ((i,⟨1, .arr (aC [])⟩)::L):=fun p hp=>by
 rcases List.mem_cons.1 hp with rfl|hp
 ·exact⟨_,_,Nat.one_pos,rfl⟩
 ·exact h p hp
theorem aET:xN []:=fun p hp=>by simp at hp
/-! ### A table that is being filled -/
theorem aJw {p:List (List Int)} {m k:Nat} (h:k<p.length):(cV p m).at k=ints (p.getD k []):=by
 simp [cV,Dt.at,Dt.cells,Dt.df,List.getD_eq_getElem?_getD,List.getElem?_append,h]
theorem aHt {p:List (List Int)} {m k:Nat} {r:List Int} (h:k<p.length):(cV p m).put k (ints r)=cV (p.set k r) m:=by
 simp [cV,Dt.put,Dt.cells,Dt.sz,Dt.df,List.set_append,h,List.map_set]
@[go_sem ↓ high] theorem aTx {V:List Nat} {rs:Nat→Rs} (x y:Value):Sv.view0 V rs (.v x) (.v y)↔y=x:=by
 simp [Sv.view0]
@[go_sem high] theorem aNW {V:List Nat} {rs:Nat→Rs}:dD V rs [] []↔True:=aFN
@[go_sem high] theorem aNj {V:List Nat} {rs:Nat→Rs} (s:Sv) (l:List Sv) (d:Dt) (r:List Dt):dD V rs (s::l) (d::r)↔s.view0 V rs d∧dD V rs l r:=aEz s l d r
end Go.Eng
end
section
namespace Go.Eng
open Go
theorem Imp.drop {X:Cx} {σ:Ss} (i:Nat) (hcv:1≤(σ.get i).cv):Imp X σ ⟨σ.tm,(i,⟨(σ.get i).cv+1, .gone⟩)::σ.rs,σ.nx⟩:=by
 rintro w1 U1 ds a w ⟨hd,hn,c,hp,ht,hpin⟩
 have hr:=vG (X:=X.at w1 U1 ds) hp i ⟨(c i).blk,(c i).hdr,fun _=>False⟩ ((σ.get i).cv+1) .gone [] (by simp) (Nat.lt_succ_self _) (.inr ⟨rfl,rfl⟩) rfl rfl rfl (Nat.le_refl _) (Agree.refl _ _)
  (fun b hb=>hb.elim) (hp.one i) (fun hx=>fun b hb=>hb)
 obtain⟨hp',hext⟩:=hr
 refine⟨hd,hn,_,hp',fun s=>Sv.ok_ext hext _ _ (ht s),fun l hl=>?_⟩
 obtain⟨r1,r2,r3⟩:=hpin l hl
 obtain⟨r4,r5⟩:=hext.cn l r1
 exact⟨Nat.le_trans r1 (hext.ver l),r4.trans r2,r5.trans r3⟩
/-! ### Lists of lists of lists of numbers -/
@[go_sem] theorem aNJ:Dt.sl 1 (aC []) []=bH []:=rfl
@[go_sem] theorem aNK (q:List (List Int)):Dt.sl 1 (aC []) [aC q]=bH [q]:=rfl
@[go_sem] theorem aMp (q:List (List Int)):(bH [q]).flat=false:=rfl
@[go_sem] theorem aNL (l:List (List (List Int))):(bH l).ones=true:=by
 simp only [bH,Dt.ones,Dt.cells,List.all_map]
 exact List.all_eq_true.2 fun _ _=>rfl
@[go_sem] theorem aOD (l m:List (List (List Int))):Dt.app 1 (aC []) (bH l) (bH m)=bH (l++m):=by simp [bH,aC,Dt.app,Dt.cells,List.map_append]
end Go.Eng
end
section
namespace Go.Eng
open Go
/-! ### An operation answered by what is known of the frame -/
def HkX (X:Cx) (E:Env) (d:Option Nat) (op:Op) (σ:Ss) (K:Ss→Prop):Prop:=
 ∃foot sv ru nx,(∀w1 U1 ds,Reb X w1 U1 ds→∀o:Oper,o.dst=d→o.op=op→(∀k,d=some k→k<X.n)→xO (X.at w1 U1 ds) E.P o (lk σ.tm) (rsL σ.rs) foot sv ru)∧K (σ.ap d sv ru nx)∧
  ∀i∈foot,i∈bL (rsL σ.rs) (qQ op) (op.operands.toList.flatMap fun x=>(σ.opd x).ids)∨i∈ru.map (·.1)
def aOr (X:Cx) (E:Env) (opsA:List Oper) (o:Oper) (σ:Ss) (K:Ss→Prop):Prop:=evO E opsA o σ K∨((o.guard=none∨∃j want g,o.guard=some (j,want)∧cX opsA j=some g∧lk σ.tm g= .v (.bool want))∧aAP o.op=false∧HkX X E o.dst o.op σ K)
def eM (X:Cx) (E:Env) (opsA:List Oper):List Oper→Ss→List (List Nat×List Nat)→(Ss→Prop)→Prop
 |[],σ,acc,K=>mD opsA acc.reverse=true∧K σ
 |o::r,σ,acc,K=>aOr X E opsA o σ fun σ'=>eM X E opsA r σ' ((gH σ o,(σ'.rs.take (σ'.rs.length-σ.rs.length)).map (·.1))::acc) K
section
variable {X:Cx} {E:Env} {w1:World} {U1:Nat→Prop} {ds:List Deferred}
theorem yJ (hr:Reb X w1 U1 ds) (hk:E.hk X.c0 X.rs0) {opsA:List Oper} {o:Oper} {σ:Ss} {K:Ss→Prop} (hn:∀o'∈opsA,∀k,o'.dst=some k→k<X.n) (ho:∀k,o.dst=some k→k<X.n) (h:aOr X E opsA o σ K):
  (∃foot sv ru nx,xO (X.at w1 U1 ds) E.P o (lk σ.tm) (rsL σ.rs) foot sv ru∧K (σ.ap o.dst sv ru nx)∧(∀i∈foot,i∈gH σ o∨i∈ru.map (·.1))∧(o.guard=none∨∃j want d,o.guard=some (j,want)∧cX opsA j=some d∧d<X.n∧lk σ.tm d= .v (.bool want)))∨
  (K (σ.ap o.dst (.v undef) [] σ.nx)∧∃j want d v,o.guard=some (j,want)∧cX opsA j=some d∧d<X.n∧lk σ.tm d= .v v∧v≠ .bool want):=by
 rcases h with h|⟨hg,hm,foot,sv,ru,nx,h1,h2,h3⟩
 ·exact tS (X:=X.at w1 U1 ds) hk hn ho h
 ·have h3:∀i∈foot,i∈gH σ o∨i∈ru.map (·.1):=by unfold gH;rw [hm,if_neg (by decide)];exact h3
  refine .inl ⟨foot,sv,ru,nx,h1 w1 U1 ds hr o rfl rfl ho,h2,h3,?_⟩
  rcases hg with hg|⟨j,want,g,g1,g2,g3⟩
  ·exact .inl hg
  ·refine .inr ⟨j,want,g,g1,g2,?_,g3⟩
   have hd:=g2
   unfold cX at hd
   cases ho':opsA[j]? with
   |none=>rw [ho']at hd;cases hd
   |some o'=>rw [ho']at hd;exact hn o' (List.mem_of_getElem? ho') g hd
theorem qT (hr:Reb X w1 U1 ds) {opsA:List Oper} {K:Ss→Prop} (hk:E.hk X.c0 X.rs0) (hn:∀o'∈opsA,∀k,o'.dst=some k→k<X.n):∀(l:List Oper) (σ:Ss) (acc:List (List Nat×List Nat)),(∀o∈l,∀k,o.dst=some k→k<X.n)→
  eM X E opsA l σ acc K→∃en τ,Tx (X.at w1 U1 ds) E opsA l σ en τ∧mD opsA (acc.reverse++FU en)=true∧K τ
 |[],σ,acc,_,h=>⟨[],σ,⟨rfl,rfl⟩,by simpa [FU]using h.1,h.2⟩
 |o::l,σ,acc,hl,h=>by
  simp only [eM]at h
  have key:∀(sv:Sv) (ru:List (Nat×Rs)) (nx:Nat),((σ.ap o.dst sv ru nx).rs.take ((σ.ap o.dst sv ru nx).rs.length-σ.rs.length)).map (·.1)=ru.map (·.1):=fun sv ru nx=>by
   simp [Ss.ap]
  rcases yJ hr hk hn (hl o (by simp)) h with⟨foot,sv,ru,nx,h1,h2,h3,h4⟩|⟨h2,h4⟩
  ·obtain⟨en,τ,g1,g2,g3⟩:=qT hr hk hn l _ _ (fun o ho=>hl o (by simp [ho])) h2
   refine⟨⟨sv,ru,gH σ o⟩::en,τ,⟨_,en,nx,rfl, .inl ⟨foot,h1,h3,h4⟩,g1⟩,?_,g3⟩
   rw [key]at g2
   simpa [FU]using g2
  ·obtain⟨en,τ,g1,g2,g3⟩:=qT hr hk hn l _ _ (fun o ho=>hl o (by simp [ho])) h2
   refine⟨⟨.v undef,[],gH σ o⟩::en,τ,⟨_,en,σ.nx,rfl, .inr ⟨rfl,rfl,h4⟩,g1⟩,?_,g3⟩
   rw [key]at g2
   simpa [FU]using g2
theorem aIk (hr:Reb X w1 U1 ds) {l:List Oper} {id:Nat} {σ:Ss} {K:Ss→Prop} {Q:Exit→Act→World→Prop} (hk:E.hk X.c0 X.rs0) (hm:E.P.follows .mixedOrders=true) (hn:∀o∈l,∀k,o.dst=some k→k<X.n) (h:eM X E l l σ [] K)
  {a:Act} {w:World} (hg:Gam (X.at w1 U1 ds) (lk σ.tm) (rsL σ.rs) a w) (hQ:∀s a' w',Gam (X.at w1 U1 ds) (lk s.tm) (rsL s.rs) a' w'→K s→Q .normal a' w'):(Code.region id l.toArray true).wpIn X.F 0 E.P Q a w:=by
 obtain⟨en,τ,h1,h2,h3⟩:=qT hr hk hn l σ [] hn h
 refine wpIn_region_any hm ?_
 have hgd:∀j,(Array.replicate l.toArray.size false).getD j false=false:=fun j=>by
  simp only [Array.getD];split<;>simp
 refine aA8 (X:=X.at w1 U1 ds) hn h1 (by simpa using h2) (fun a' w' hg'=>hQ τ a' w' hg' h3) _ _ a _ (by simp) ?_ (fun j o _ hd=>by simp only [hgd]at hd;cases hd) ?_
 ·have:∀n D,cnt n D≤n:=by
   intro n D
   induction n with
   |zero=>exact Nat.le_refl _
   |succ n ih=>simp only [cnt];split<;>omega
  simpa using this _ _
 ·have e1:apD (lk σ.tm) (TU l en) 0 (fun j=>(Array.replicate l.toArray.size false).getD j false)=lk σ.tm:=funext fun s=>lX _ _ _ _ _ fun j _ _ _=>hgd _
  have e2:apD (rsL σ.rs) (RU en) 0 (fun j=>(Array.replicate l.toArray.size false).getD j false)=rsL σ.rs:=funext fun s=>lX _ _ _ _ _ fun j _ _ _=>hgd _
  rw [e1,e2]
  exact aDq hg
theorem jS {σ:Ss} {Q:Exit→Ss→Prop} {l:List Oper} {id:Nat} (hm:E.P.follows .mixedOrders=true) (hn:l.all (fun o=>o.dst.all (fun k=>decide (k<X.n)))=true) (h:∀K:Ss→Prop,(∀s,Q .normal s→K s)→eM X E l l σ [] K):V X E (.region id l.toArray true) σ Q:=fun hk a w hg=>by
 obtain⟨w1,U1,ds,hr,hg⟩:=hg
 have hn':∀o'∈l,∀k,o'.dst=some k→k<X.n:=fun o ho k hk=>by
  have:=List.all_eq_true.1 hn o ho
  rw [hk]at this
  simpa using this
 exact aIk hr hk hm hn' (h _ fun _ h=>h) hg fun s a' w' hg' hK=>⟨s,⟨w1,U1,ds,hr,hg'⟩,hK⟩
variable {A r:List Oper} {σ:Ss} {K:Ss→Prop} {d:Option Nat} {op:Op} {t:TypeId} {p:String} {af:Array Edge} {j:Nat} {want:Bool} {acc:List (List Nat×List Nat)}
theorem eY (h1:mD A acc.reverse=true) (h:K σ):eM X E A [] σ acc K:=⟨h1,h⟩
theorem iF (h:∀K':Ss→Prop,(∀s,eM X E A r s ((gH σ ⟨d,op,t,p,af,none⟩,(s.rs.take (s.rs.length-σ.rs.length)).map (·.1))::acc) K→K' s)→jI E d op σ K'):eM X E A (⟨d,op,t,p,af,none⟩::r) σ acc K:= .inl (h _ fun _ h=>h)
theorem aG9 (h:∀K':Ss→Prop,(∀s,eM X E A r s ((gH σ ⟨d,op,t,p,af,none⟩,(s.rs.take (s.rs.length-σ.rs.length)).map (·.1))::acc) K→K' s)→HkX X E d op σ K') (hm:aAP op=false:=by rfl):eM X E A (⟨d,op,t,p,af,none⟩::r) σ acc K:= .inr ⟨.inl rfl,hm,h _ fun _ h=>h⟩
theorem jO {g:Nat} (hs:cX A j=some g) (h:∀K':Ss→Prop,(∀s,eM X E A r s ((gH σ ⟨d,op,t,p,af,some (j,want)⟩,(s.rs.take (s.rs.length-σ.rs.length)).map (·.1))::acc) K→K' s)→iD (lk σ.tm g) want (jI E d op σ K') (K' (σ.ap d (.v undef) [] σ.nx))):
  eM X E A (⟨d,op,t,p,af,some (j,want)⟩::r) σ acc K:=by
 have h1:=h _ fun _ h=>h
 refine .inl ?_
 simp only [evO,aHg,hs]
 exact h1
end
def RdOk (X:Cx) (R:World→(Nat→Prop)→Prop):Prop:=∀(w:World) (S:Nat→Prop),Agree X.S X.w0 w→(∀b,X.S b→S b)→R w S
end Go.Eng
end
section
namespace Go.Eng
open Go Go.Cats
def Lent (X:Cx) (x:Value) (d:Dt):Prop:=RdV X.w0 X.S d x
theorem Lent.at {X:Cx} {x:Value} {d:Dt} (h:Lent X x d) {w:World} {S:Nat→Prop} (ag:Agree X.S X.w0 w) (hS:∀b,X.S b→S b):RdV w S d x:=RdV.mono hS _ _ (RdV.frame ag _ _ h)
theorem RdOk.at {X:Cx} {w1:World} {U1:Nat→Prop} {ds:List Deferred} (hr:Reb X w1 U1 ds) {R:World→(Nat→Prop)→Prop} (h:RdOk X R):RdOk (X.at w1 U1 ds) R:=fun w S ag hS=>h w S ((hr.agree.mono hr.ssub).trans ag) hS
end Go.Eng
end
section
namespace Go.Eng
open Go
def VR (X:Cx) (E:Env) (c:Code) (Q:Exit→Ss→Prop):Nat→Ss→Prop
 |0,_=>False
 |n+1,σ=>V X E c σ (nxt (fun t=>VR X E c Q n t) Q)
theorem aIr {X:Cx} {E:Env} {σ:Ss} {Q:Exit→Ss→Prop} {c:Code} (n:Nat) (h:VR X E c Q n σ):V X E (.loop c) σ Q:=fun hk a w hg=>
 wpIn_loop_ghost (fun m a w=>∃τ:Ss,aLD X (lk τ.tm) (rsL τ.rs) a w∧VR X E c Q m τ) n ⟨σ,hg,h⟩ fun m a w ⟨τ,hg,hv⟩=>by
  cases m with
  |zero=>exact hv.elim
  |succ m=>
   refine wpIn_mono (hv hk a w hg) fun e a' w' ⟨t,h1,h2⟩=>?_
   cases e with
   |normal=>exact⟨m,Nat.lt_succ_self _,t,h1,h2⟩
   |exit i=>exact⟨t,h1,h2⟩
   |goto l=>exact⟨t,h1,h2⟩
   |ret=>exact⟨t,h1,h2⟩
   |panic ch=>exact⟨t,h1,h2⟩
   |outgrown=>exact⟨t,h1,h2⟩
theorem aVM {X:Cx} {E:Env} {c:Code} {σ:Ss} {Q:Exit→Ss→Prop} (h:V X E c σ (nxt (fun t=>VR X E c Q 1 t) Q)):VR X E c Q 2 σ:=h
theorem aVL {X:Cx} {E:Env} {c:Code} {σ:Ss} {Q:Exit→Ss→Prop} (h:V X E c σ (nxt (fun t=>VR X E c Q 0 t) Q)):VR X E c Q 1 σ:=h
@[congr] theorem aQA {X:Cx} {E:Env} {c:Code} {σ τ:Ss} {Q:Exit→Ss→Prop} {n:Nat} (h:Unit→σ=τ):VR X E c Q n σ=VR X E c Q n τ:=by rw [h ()]
/-! ### A region in which some operations are answered by hand -/
def kD (E:Env):List Oper→Ss→(Ss→Prop)→Prop
 |[],σ,K=>K σ
 |o::l,σ,K=>o.guard=none∧(jI E o.dst o.op σ (fun s=>kD E l s K)∨cG E o.dst o.op σ (fun s=>kD E l s K))
theorem vC {X:Cx} {E:Env} {K:Ss→Prop} (hk:E.hk X.c0 X.rs0) {opsA:List Oper}:∀(l:List Oper) (σ:Ss),(∀o∈l,∀k,o.dst=some k→k<X.n)→kD E l σ K→
  ∀a w (Q:Exit→Act→World→Prop),Gam X (lk σ.tm) (rsL σ.rs) a w→(∀s a' w',Gam X (lk s.tm) (rsL s.rs) a' w'→K s→Q .normal a' w')→wpListIn X.F 0 E.P opsA.toArray Q l a w
 |[],σ,_,h,a,w,Q,hg,hQ=>wpListIn_nil (hQ σ a w hg h)
 |o::l,σ,hl,h,a,w,Q,hg,hQ=>by
  obtain⟨hgd,h⟩:=h
  have ih:=fun(s:Ss) (hs:kD E l s K)=>vC hk (opsA:=opsA) l s (fun o ho=>hl o (by simp [ho])) hs
  have hf:∃foot sv ru nx,xO X E.P o (lk σ.tm) (rsL σ.rs) foot sv ru∧kD E l (σ.ap o.dst sv ru nx) K:=by
   rcases h with h|h
   ·obtain⟨foot,sv,ru,nx,h1,h2,_⟩:=qS (X:=X) hk (hl o (by simp)) h
    exact⟨foot,sv,ru,nx,h1,h2⟩
   ·obtain⟨foot,sv,ru,nx,h1,h2,_⟩:=h
    exact⟨foot,sv,ru,nx,h1 X o hk rfl rfl (hl o (by simp)),h2⟩
  obtain⟨foot,sv,ru,nx,h1,h2⟩:=hf
  have hwant:Region.wanted o (yielded opsA.toArray a.tmps)=true:=by simp [Region.wanted,hgd]
  unfold wpListIn
  rw [if_pos hwant]
  refine h1 _ _ (fun _ _=>rfl) (fun _ _=>rfl) a w _ Q hg fun a' w' hg'=>?_
  refine ih _ h2 a' w' Q ?_ hQ
  rw [yZ,rC];exact hg'
theorem jL {X:Cx} {E:Env} {σ:Ss} {Q:Exit→Ss→Prop} (id:Nat) {l:List Oper} (hn:l.all (fun o=>o.dst.all (fun k=>decide (k<X.n)))=true) (h:∀K:Ss→Prop,(∀s,Q .normal s→K s)→kD E l σ K):V X E (.region id l.toArray false) σ Q:=fun hk a w hg=>by
 obtain⟨w1,U1,ds,hr,hg⟩:=hg
 have hn':∀o'∈l,∀k,o'.dst=some k→k<X.n:=fun o ho k hk=>by
  have:=List.all_eq_true.1 hn o ho
  rw [hk]at this
  simpa using this
 exact wpIn_region_list (vC (X:=X.at w1 U1 ds) hk l σ hn' (h _ fun _ h=>h) a w _ hg fun s a' w' hg' hK=>⟨s,⟨w1,U1,ds,hr,hg'⟩,hK⟩)
section
variable {E:Env} {l:List Oper} {σ:Ss} {K:Ss→Prop} {d:Option Nat} {op:Op} {t:TypeId} {p:String} {af:Array Edge}
theorem rX (h:K σ):kD E [] σ K:=h
theorem rY (h:jI E d op σ (fun s=>kD E l s K)):kD E (⟨d,op,t,p,af,none⟩::l) σ K:=⟨rfl, .inl h⟩
theorem fM (h:cG E d op σ (fun s=>kD E l s K)):kD E (⟨d,op,t,p,af,none⟩::l) σ K:=⟨rfl, .inr h⟩
end
end Go.Eng
end
