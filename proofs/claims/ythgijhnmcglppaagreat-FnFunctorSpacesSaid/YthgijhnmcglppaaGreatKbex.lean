/- The engine, part SO: scopes that are gone through without a jump, labels; the greater of two numbers; the rest of a list behind its first entries. -/
import Derived.Test.YthgijhnmcglppaaGreatKux
import Derived.Scope
import Derived.Laws.Small
set_option linter.unusedVariables false
set_option linter.unusedSimpArgs false
namespace Go.Eng
open Go
section
variable {P:Program} {b:Frame} {a:Act} {k:List Item} {cs:List Frame} {w:World} {Q:Exit→Act→World→Prop}
theorem iM {c:Code}:step P (lone (b.atR a (.code (.scope c)::k)) cs w)= .next (lone (b.atR a (.code c:: .inScope c::k)) cs w):=
 step_lone_go (by simp [stepG,stepG.exec,Frame.atR])
theorem aCE {c:Code}:step P (lone (b.atR a (.inScope c::k)) cs w)= .next (lone (b.atR a k) cs w):=
 step_lone_go (by simp [stepG,stepG.exec,Frame.atR])
theorem aHU {F:Fence} {n:Nat} {c:Code} (h:c.wpIn F n P (Exit.noGoto Q) a w):(Code.scope c).wpIn F n P Q a w:=by
 intro b k cs hro hb hr
 have h0:(lone (b.atR a (.code (.scope c)::k)) cs w).fenced P F:=fenced_calm hb hr rfl
 obtain⟨e,a₁,w₁,hq,harr⟩:=h b (.inScope c::k) cs hro hb hr
 cases e with
 |normal=>exact⟨.normal,a₁,w₁,hq, .head h0 iM (StepsIn.trans harr (.one (fenced_calm hb hr rfl) aCE))⟩
 |exit id=>
  have hx:exitTo id (.inScope c::k)=exitTo id k:=by simp [exitTo]
  exact⟨_,a₁,w₁,hq,fun k' hk=> .head h0 iM (harr.1 k' (by rw [hx];exact hk)),
   fun hr' hk=>let ⟨k₁,h1,h2⟩:=harr.2 hr' (by rw [hx];exact hk);⟨k₁,h1, .head h0 iM h2⟩⟩
 |goto l=>exact hq.elim
 |ret=>exact⟨_,a₁,w₁,hq, .of_steps (.one h0 iM) harr⟩
 |panic ch=>exact⟨_,a₁,w₁,hq, .of_steps (.one h0 iM) harr⟩
 |outgrown=>exact⟨_,a₁,w₁,hq, .of_steps (.one h0 iM) harr⟩
end
section
variable {X:Cx} {E:Env} {σ:Ss} {Q:Exit→Ss→Prop}
theorem aHW {c:Code} (h:V X E c σ (noG Q)):V X E (.scope c) σ Q:=fun hk a w hg=>
 aHU (wpIn_mono (h hk a w hg) fun e a' w' ⟨t,h1,h2⟩=>by
  cases e with
  |goto l=>exact h2.elim
  |normal=>exact⟨t,h1,h2⟩
  |exit i=>exact⟨t,h1,h2⟩
  |ret=>exact⟨t,h1,h2⟩
  |panic ch=>exact⟨t,h1,h2⟩
  |outgrown=>exact⟨t,h1,h2⟩)
theorem aHV {l:Nat} (h:Q .normal σ):V X E (.label l) σ Q:=fun _ _ _ hg=>wpIn_label ⟨σ,hg,h⟩
end
section
variable {E:Env} {d:Option Nat} {σ:Ss} {K:Ss→Prop}
theorem aJr {ts:Array TypeId} {x y:Operand} {p q:Int} (hx:σ.opd x= .v (.int .i64 p)) (hy:σ.opd y= .v (.int .i64 q))
  (hK:K (σ.ap d (.v (.int .i64 (max p q))) [] σ.nx)):bY E d (.call {callee:= .builtin .max,args:= #[x,y],argTypes:=ts}) σ K:=by
 refine⟨[],_,[],_,fun X o _ hd ho hdn tm rs h1 h2=>?_,hK,fun i hi=>by simp at hi⟩
 refine cD (E:=E) (by rw [hd];exact hdn) _ fun ac w c hp h=>?_
 have hx1:=h x
 have hy1:=h y
 have ex:opd tm x=σ.opd x:=h1 x (by rw [ho];simp [Op.operands,Call.operands])
 have ey:opd tm y=σ.opd y:=h1 y (by rw [ho];simp [Op.operands,Call.operands])
 rw [ex,hx]at hx1
 rw [ey,hy]at hy1
 simp only [Sv.ok]at hx1 hy1
 have e:(if q>p then q else p)=max p q:=by split<;>omega
 simp [execOp,ho,resolve,invoke,builtin,hx1,hy1,run_max_int2,e]
theorem aLg {t e:TypeId} {eby:Nat} {ez:List Value} (hk:(E.ti t).k= .sli e 1 eby ez) (w:World) (a:Addr) (n cap:Nat) (k:IntKind) (l:Int) (h0:0≤l) (h1:l≤n) (hc:n≤cap):
  (Instr.sliceAt t (.slice (some a) n cap) (some (.int k l)) none none).run E.P w= .ok (.slice (some (if cap=l.toNat then a else a.add l.toNat)) (n-l.toNat) (cap-l.toNat)) w:=by
 have ho:=E.ok t
 simp only [aP,hk]at ho
 obtain⟨_,ht,i,z,hi,hsz,hby,hz,hzc⟩:=ho
 simp [Instr.sliceAt,Instr.slice,Instr.sliceBounds,Instr.sliceBound,asIntOf,run_underlying ht,sizeOf,typeInfo,hi,h0,h1,hsz]
 split<;>rfl
theorem aD3 {t e:TypeId} {esz eby:Nat} {ez:List Value} (hk:(E.ti t).k= .sli e esz eby ez) (w:World) (k:IntKind):
  (Instr.sliceAt t (.slice none 0 0) (some (.int k 0)) none none).run E.P w= .ok (.slice none 0 0) w:=by
 have ho:=E.ok t
 simp only [aP,hk]at ho
 obtain⟨_,ht,i,z,hi,hsz,hby,hz,hzc⟩:=ho
 simp [Instr.sliceAt,Instr.slice,Instr.sliceBounds,Instr.sliceBound,asIntOf,run_underlying ht,sizeOf,typeInfo,hi]
theorem aDg {t e:TypeId} {eby:Nat} {ez:List Value} {x y:Operand} {ts:List (Nat×Nat)} {k:IntKind} {n:Nat} {A:List Int} (hk:(E.ti t).k= .sli e 1 eby ez) (hx:σ.opd x= .bor ts (ints A)) (htv:gV (rsL σ.rs) ts) (hy:σ.opd y= .v (.int k n)) (hn:n≤A.length)
  (hK:K (σ.ap d (.bor ts (ints (A.drop n))) [] σ.nx)):bY E d (.slice t x (some y) none none) σ K:=by
 refine⟨ts.map (·.1),_,[],_,fun X o _ hd ho hdn tm rs h1 h2=>?_,hK,fun j hj=> .inl ?_⟩
 ·have ex:opd tm x=σ.opd x:=h1 x (by rw [ho];simp [Op.operands])
  have ey:opd tm y=σ.opd y:=h1 y (by rw [ho];simp [Op.operands])
  have htv':gV rs ts:=fun p hp=>by
   rw [h2 p.1 (List.mem_map.2 ⟨p,hp,rfl⟩)];exact htv p hp
  refine aW (E:=E) (by rw [hd];exact hdn) fun ac w c hp h=>?_
  have hx1:=h x
  have hy1:=h y
  rw [ex,hx]at hx1
  rw [ey,hy]at hy1
  simp only [Sv.ok]at hx1 hy1
  obtain⟨tb,o1,hrd⟩:=hx1
  have hrd:=hrd htv'
  unfold ints at hrd
  simp only [RdV]at hrd
  obtain⟨_,⟨e1,e2⟩|⟨g,off,sp,m,cap,vs,q1,q2,q3,q4,q5,q6,q7⟩⟩:=hrd
  ·have hA:A=[]:=by simpa using e2
   subst hA
   have hn0:n=0:=by simpa using hn
   subst hn0
   refine⟨.slice none 0 0,?_,?_⟩
   ·simp [execOp,ho,hy1,e1,aD3 hk]
   ·simp only [Sv.ok]
    exact⟨tb,rfl,fun _=>by simp [ints,RdV]⟩
  ·have hm:m=A.length:=by simpa using q2
   refine⟨.slice (some (if cap=n then⟨g,off,sp⟩else(⟨g,off,sp⟩:Addr).add n)) (m-n) (cap-n),?_,?_⟩
   ·have:=aLg (E:=E) hk w ⟨g,off,sp⟩ m cap k (n:Int) (by omega) (by omega) q3
    rw [Int.toNat_natCast]at this
    simp [execOp,ho,hy1,q1,this]
   ·simp only [Sv.ok]
    refine⟨tb,rfl,fun _=>?_⟩
    unfold ints
    simp only [RdV]
    refine⟨by decide, .inr ?_⟩
    have hl:=RdL.length q6
    have h5:RdL w (Reg X.S c ts) ((A.drop n).map fun x=>Dt.v (.int .i64 x)) (vs.drop n):=by
     have:=RdL.slice (A.map fun x=>Dt.v (.int .i64 x)) vs n A.length q6
     rw [List.take_of_length_le (by simp),List.take_of_length_le (by simp at hl⊢;omega),←List.map_drop]at this
     exact this
    by_cases hA:A.drop n=[]
    ·rw [hA]at h5⊢
     have hz:A.length-n=0:=by rw [←List.length_drop,hA];rfl
     obtain⟨a',ha'⟩:∃a':Addr,(if cap=n then(⟨g,off,sp⟩:Addr)else(⟨g,off,sp⟩:Addr).add n)=a':=⟨_,rfl⟩
     obtain⟨g',off',sp'⟩:=a'
     rw [ha']
     refine⟨g',off',sp',m-n,cap-n,vs.drop n,rfl,by simp;omega,by omega,by omega,fun hne=>absurd rfl hne,h5,fun j x hj=>?_⟩
     have:vs.drop n=[]:=by simpa [RdL]using h5
     rw [this]at hj;cases hj
    ·have hlt:n<A.length:=by
      apply Classical.byContradiction
      intro hge
      exact hA (List.drop_eq_nil_of_le (by omega))
     have hne:A≠[]:=fun e=>by rw [e]at hlt;simp at hlt
     obtain⟨rfl,hg⟩:=q5 (by simpa using hne)
     rw [if_neg (by omega),Addr.add_plain]
     refine⟨g,off+n,none,m-n,cap-n,vs.drop n,rfl,by simp;omega,by omega,by omega,fun _=>⟨rfl,hg⟩,h5,fun j x hj=>?_⟩
     rw [List.getElem?_drop]at hj
     have:=q7 _ _ hj
     rwa [←Nat.add_assoc]at this
 ·obtain⟨p,hp,rfl⟩:=List.mem_map.1 hj
  exact iB (by simp [Op.operands,hx,Sv.ids];exact .inl ⟨p.2,hp⟩)
end
end Go.Eng
