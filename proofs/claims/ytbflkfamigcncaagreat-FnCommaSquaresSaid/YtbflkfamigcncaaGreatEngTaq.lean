/- The engine, part TA: a functor is taken out of a list of functors, at any place. -/
import Derived.Test.YtbflkfamigcncaaGreatKalx
set_option linter.unusedVariables false
set_option linter.unusedSimpArgs false
namespace Go.Eng
open Go Go.Cats
def aD0 (i:Nat) (d:Dt):List (Nat×Dt)→List (Nat×Sv)→Nat→List (Nat×Rs)→Nat→List (Nat×Rs)
 |[],_,_,rs,_=>rs
 |(p,e)::ps,hs,cv,rs,nx=>aD0 i d ps ((p, .sl nx)::hs) (cv+1) ((i,⟨cv+1, .hol d ((p, .sl nx)::hs)⟩)::(nx,⟨1, .arr e⟩)::rs) (nx+1)
theorem Imp.openAll {X:Cx} {tm:List (Nat×Sv)} (i:Nat) (d:Dt):∀(ps:List (Nat×Dt)) (hs:List (Nat×Sv)) (cv:Nat) (rs:List (Nat×Rs)) (nx:Nat),
  (rsL rs i=⟨cv, .hol d hs⟩∨(rsL rs i=⟨cv, .arr d⟩∧hs=[]))→1≤cv→i<nx→(∀q∈ps,q.1<d.nc∧d.at q.1=q.2∧q.2.isSl=true∧hlk hs q.1=none)→(ps.map (·.1)).Nodup→(∀k,k<ps.length→rsL rs (nx+k)=⟨0, .gone⟩)→
  Imp X ⟨tm,rs,nx⟩ ⟨tm,aD0 i d ps hs cv rs nx,nx+ps.length⟩
 |[],hs,cv,rs,nx,_,_,_,_,_,_=>Imp.refl _ _
 |(p,e)::ps,hs,cv,rs,nx,hi,hcv,hlt,hps,hnd,hf=>by
  obtain⟨h1,h2,h3,h4⟩:=hps _ (List.mem_cons_self ..)
  simp only [List.map_cons,List.nodup_cons]at hnd
  refine Imp.trans (Imp.open1 i p cv d e hs hi hcv h1 h4 h2 h3 (hf 0 (by simp))) ?_
  have:=Imp.openAll (X:=X) (tm:=tm) i d ps ((p, .sl nx)::hs) (cv+1) ((i,⟨cv+1, .hol d ((p, .sl nx)::hs)⟩)::(nx,⟨1, .arr e⟩)::rs) (nx+1) (.inl (by rw [eZ,if_pos rfl])) (by omega) (by omega)
   (fun q hq=>by
    obtain⟨g1,g2,g3,g4⟩:=hps q (List.mem_cons_of_mem _ hq)
    refine⟨g1,g2,g3,?_⟩
    have hne:q.1≠p:=fun e=>hnd.1 (e▸List.mem_map.2 ⟨q,hq,rfl⟩)
    show(if q.1=p then _ else hlk hs q.1)=none
    rw [if_neg hne];exact g4) hnd.2
   (fun k hk=>by
    rw [eZ,if_neg (by omega),eZ,if_neg (by omega),show nx+1+k=nx+(k+1) by omega]
    exact hf (k+1) (by simp;omega))
  rw [show nx+((p,e)::ps).length=nx+1+ps.length by simp;omega]
  exact this
def aBZ (p:Nat) (g:Fun):List (Nat×Dt):=[(p+1,ints g.src.fr),(p+2,ints g.src.to),(p+3,ints g.src.id),(p+4,aE g.src.co),(p+6,ints g.tgt.fr),(p+7,ints g.tgt.to),(p+8,ints g.tgt.id),(p+9,aE g.tgt.co),(p+10,ints g.obs),(p+11,ints g.ars)]
def rT (p j:Nat):List (Nat×Sv):=[(p+11, .sl (j+9)),(p+10, .sl (j+8)),(p+9, .sl (j+7)),(p+8, .sl (j+6)),(p+7, .sl (j+5)),(p+6, .sl (j+4)),(p+4, .sl (j+3)),(p+3, .sl (j+2)),(p+2, .sl (j+1)),(p+1, .sl j)]
theorem Imp.takeAt {X:Cx} {tm:List (Nat×Sv)} {rs:List (Nat×Rs)} {nx:Nat} (i cv k:Nat) (L:List Fun) (g:Fun) (hi:rsL rs i=⟨cv, .arr (bW L)⟩) (hcv:1≤cv) (hlt:i<nx) (hk:k<L.length) (hg:L.getD k default=g) (hf:∀k,k<10→rsL rs (nx+k)=⟨0, .gone⟩):
  Imp X ⟨tm,rs,nx⟩ ⟨tm,aD0 i (bW L) (aBZ (k*12) g) [] cv rs nx,nx+10⟩:=by
 subst hg
 refine Imp.openAll i (bW L) (aBZ (k*12) (L.getD k default)) [] cv rs nx (.inr ⟨hi,rfl⟩) hcv hlt (fun q hq=>?_) ?_ hf
 ·have hn:(bW L).nc=L.length*12:=aF9 L
  have hat:∀j,j<12→(bW L).at (k*12+j)=(rH (L.getD k default)).getD j (.v (.int .i64 0)):=fun j hj=>aK2 L k j hk hj
  have hb:∀j,j<12→k*12+j<(bW L).nc:=fun j hj=>by rw [hn];omega
  simp only [aBZ,List.mem_cons,List.not_mem_nil,or_false]at hq
  rcases hq with rfl|rfl|rfl|rfl|rfl|rfl|rfl|rfl|rfl|rfl<;>exact⟨hb _ (by decide),hat _ (by decide),rfl,rfl⟩
 ·simp [aBZ]
theorem aCv {L:List Fun} {k j:Nat} {ts:List (Nat×Nat)} {g:Fun} (hk:k<L.length) (hg:L.getD k default=g):
  ((sN (rT (k*12) j) ts 0 (L.flatMap rH)).drop (k*12)).take 12=[iv g.src.ob, .sl j, .sl (j+1), .sl (j+2), .sl (j+3),iv g.tgt.ob, .sl (j+4), .sl (j+5), .sl (j+6), .sl (j+7), .sl (j+8), .sl (j+9)]:=by
 subst hg
 have hp:=aB0 L k hk
 unfold Dt.part bW at hp
 simp only [Dt.cells]at hp
 have hc:∀m,m<12→(L.flatMap rH)[k*12+m]? =(rH (L.getD k default))[m]? :=fun m hm=>by
  rw [←hp,List.getElem?_take,if_pos hm,List.getElem?_drop]
 have hlen:((sN (rT (k*12) j) ts 0 (L.flatMap rH)).drop (k*12)).length≥12:=by
  rw [List.length_drop,uA,nV];omega
 have key:∀m d,(rH (L.getD k default))[m]? =some d→m<12→(((sN (rT (k*12) j) ts 0 (L.flatMap rH)).drop (k*12)).take 12)[m]? =some (xO (rT (k*12) j) ts (k*12+m) d):=fun m d hd hm=>by
  rw [List.getElem?_take,if_pos hm,List.getElem?_drop]
  have:=aAi (rT (k*12) j) ts (L.flatMap rH) 0 (k*12+m) d (by rw [hc m hm];exact hd)
  rw [Nat.zero_add]at this
  exact this
 have hl:∀a b:Nat,(k*12+a=k*12+b)=(a=b):=fun a b=>propext ⟨fun h=>by omega,fun h=>by omega⟩
 have ha:∀b:Nat,(k*12=k*12+b)=(0=b):=fun b=>propext ⟨fun h=>by omega,fun h=>by omega⟩
 apply List.ext_getElem?
 intro m
 rcases Nat.lt_or_ge m 12 with hm|hm
 ·have hcase:m=0∨m=1∨m=2∨m=3∨m=4∨m=5∨m=6∨m=7∨m=8∨m=9∨m=10∨m=11:=by omega
  rcases hcase with rfl|rfl|rfl|rfl|rfl|rfl|rfl|rfl|rfl|rfl|rfl|rfl<;>rw [key _ _ rfl (by decide)]<;>simp [xO,hlk,rT,hl,ha,Sv.ofDt]
 ·rw [List.getElem?_eq_none (by rw [List.length_take];omega),List.getElem?_eq_none (by simp;omega)]
section
variable {E:Env} {dst:Option Nat} {σ:Ss} {K:Ss→Prop}
theorem aDU {t:TypeId} {x:Operand} {i cv j k:Nat} {L:List Fun} {g:Fun} (hk:(E.ti t).known=true) (ha:(E.ti t).agg=true) (hz:(E.ti t).size=12) (hx:σ.opd x= .ptr i (k*12)) (hi:σ.get i=⟨cv, .hol (bW L) (rT (k*12) j)⟩) (hL:k<L.length) (hg:L.getD k default=g)
  (hK:K (σ.ap dst (.agg [iv g.src.ob, .sl j, .sl (j+1), .sl (j+2), .sl (j+3),iv g.tgt.ob, .sl (j+4), .sl (j+5), .sl (j+6), .sl (j+7), .sl (j+8), .sl (j+9)]) [] σ.nx)):dI E dst (.load t x) σ K:=by
 refine aDR (cv:=cv) (sz:=12) (df:= .v (.int .i64 0)) (cs:=L.flatMap rH) (hs:=rT (k*12) j) hk ha hx (by rw [hi];simp [bW]) (by rw [hz,nV];omega) ?_
 rw [hz,aCv hL hg]
 exact hK
end
end Go.Eng
