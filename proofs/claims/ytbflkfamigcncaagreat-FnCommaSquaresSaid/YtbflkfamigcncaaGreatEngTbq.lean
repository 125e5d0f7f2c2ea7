/- The engine, part TB: a functor is taken out of a list of functors in a region whose order is drawn. -/
import Derived.Test.YtbflkfamigcncaaGreatEngTaq
set_option linter.unusedVariables false
set_option linter.unusedSimpArgs false
namespace Go.Eng
open Go Go.Cats
section
variable {X:Cx} {E:Env} {dst:Option Nat} {σ:Ss} {K:Ss→Prop}
theorem HkX.holAgg {t:TypeId} {x:Operand} {i p cv sz:Nat} {df:Dt} {cs:List Dt} {hs:List (Nat×Sv)} (hk:(E.ti t).known=true) (ha:(E.ti t).agg=true) (hx:σ.opd x= .ptr i p) (hi:σ.get i=⟨cv, .hol (.sl sz df cs) hs⟩) (hl:p+(E.ti t).size≤cs.length)
  (hK:K (σ.ap dst (.agg (((sN hs [(i,cv)] 0 cs).drop p).take (E.ti t).size)) [] σ.nx)):HkX X E dst (.load t x) σ K:=by
 refine⟨[i],_,[],_,fun w1 U1 ds hr o hd ho hdn tm rs h1 h2=>?_,hK,fun j hj=> .inl ?_⟩
 ·have hr:rs i=⟨cv, .hol (.sl sz df cs) hs⟩:=(h2 i (by simp)).trans hi
  have ex:opd tm x=σ.opd x:=h1 x (by rw [ho];simp [Op.operands])
  refine aW (E:=E) (by rw [hd];exact hdn) fun ac w c hp h=>?_
  have hx1:=h x
  rw [ex,hx]at hx1
  simp only [Sv.ok]at hx1
  have h2:=hp.res i
  rw [hr]at h2
  have hc1:1≤cv:=by have:=hx1.1;rw [hr]at this;exact this
  obtain⟨vs,h4,h5⟩:=wA hr hc1 h2
  simp only at h4
  have h6:=Sv.okL.slice _ vs p (E.ti t).size h4
  have hcl:=Sv.okL.length h4
  rw [uA]at hcl
  have hlen:((vs.drop p).take (E.ti t).size).length=(E.ti t).size:=by simp;omega
  refine⟨.agg ((vs.drop p).take (E.ti t).size).toArray,?_,?_⟩
  ·have:=jG (E:=E) (t:=t) hk ha (b:=(c i).blk) (p:=p) (w:=w) (vs:=(vs.drop p).take (E.ti t).size) hlen (fun k v hkv=>by
    rw [List.getElem?_take]at hkv
    split at hkv
    ·rw [List.getElem?_drop]at hkv;exact h5 _ _ hkv
    ·cases hkv)
   simp only [execOp,ho,hx1.2,Sem.run_bind,this,Result.andThen_ok]
   rfl
  ·simp only [Sv.ok];exact⟨_,rfl,h6⟩
 ·rw [List.mem_singleton]at hj
  subst hj
  exact jI (by simp [Op.operands,hx,Sv.ids])
theorem HkX.takeAt {t:TypeId} {x:Operand} {i cv j k:Nat} {L:List Fun} {g:Fun} (hk:(E.ti t).known=true) (ha:(E.ti t).agg=true) (hz:(E.ti t).size=12) (hx:σ.opd x= .ptr i (k*12)) (hi:σ.get i=⟨cv, .hol (bW L) (rT (k*12) j)⟩) (hL:k<L.length) (hg:L.getD k default=g)
  (hK:K (σ.ap dst (.agg [iv g.src.ob, .sl j, .sl (j+1), .sl (j+2), .sl (j+3),iv g.tgt.ob, .sl (j+4), .sl (j+5), .sl (j+6), .sl (j+7), .sl (j+8), .sl (j+9)]) [] σ.nx)):HkX X E dst (.load t x) σ K:=by
 refine HkX.holAgg (cv:=cv) (sz:=12) (df:= .v (.int .i64 0)) (cs:=L.flatMap rH) (hs:=rT (k*12) j) hk ha hx (by rw [hi];simp [bW]) (by rw [hz,nV];omega) ?_
 rw [hz,aCv hL hg]
 exact hK
end
end Go.Eng
