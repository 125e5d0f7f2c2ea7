/- The engine, part BE: lists that can only be read any more (told by a predicate), a row's header moved on, what is owned told as lent. -/
import Derived.Test.YtipohdpnhodnmaaGreatKalx
set_option linter.unusedVariables false
set_option linter.unusedSimpArgs false
namespace Go.Eng
open Go
def rdX (D:Dt):Ab:=⟨fun w v F=>RdV w F D v,fun ag h=>RdV.frame ag _ _ h⟩
def rdA (D:Dt):Dt:= .ab (rdX D)
theorem aPe {w:World} {F:Nat→Prop} {D:Dt} {u:Value} (h:OwV w F (rdA D) u):RdV w F D u:=by
 simp only [rdA,OwV]at h
 obtain⟨_,F',h1,h2⟩:=h
 exact RdV.mono h1 _ _ h2
theorem aKx {w:World} {F:Nat→Prop} {D:Dt} {u:Value} (hD:D.isSl=true) (h:RdV w F D u):OwV w F (rdA D) u:=by
 simp only [rdA,OwV]
 exact⟨rN hD h,F,fun _ h=>h,h⟩
section
variable {X:Cx} {E:Env} {c:Code} {σ:Ss} {Q:Exit→Ss→Prop}
theorem Imp.arrAb (i cv:Nat) (D:Dt) (hD:D.isSl=true) (hi:rsL σ.rs i=⟨cv, .arr D⟩):Imp X σ ⟨σ.tm,(i,⟨cv, .arr (rdA D)⟩)::σ.rs,σ.nx⟩:=by
 have e:σ.get i=⟨cv, .arr D⟩:=hi
 have ec:(σ.get i).cv=cv:=by rw [e]
 have:=Imp.kind (X:=X) (σ:=σ) i (.arr (rdA D)) (fun _=>by unfold Rs.alive;rw [e];trivial) fun w c k=>by
  rw [e]at k
  exact⟨aKx hD (OwV.rd _ _ k.1),k.2⟩
 rw [ec]at this
 exact this
theorem aNZ (n cn:Nat) (Z:Zs) (hn:rsL σ.rs n=⟨cn, .arr (mP Z)⟩)
  (h:(∀p∈Z,p.2≠[]→∃g cap,p.1= .slice (some ⟨g,0,none⟩) p.2.length cap∧p.2.length≤cap∧cap≤maxLen)→V X E c σ Q):V X E c σ Q:=by
 intro hE a w hg
 refine h (fun p hp hne=>?_) hE a w hg
 obtain⟨w1,U1,ds,hr,hd,hn',cc,hpp,ht,hpin⟩:=hg
 have h3:=hpp.res n
 rw [hn]at h3
 have h4:=h3.1
 simp only [mP,OwV]at h4
 obtain⟨_,G,g1,g2⟩:=h4
 obtain⟨G',_,g4⟩:=xB g2 p hp
 unfold ints at g4
 simp only [OwV]at g4
 obtain⟨_,⟨e1,e2⟩|⟨g,m,cap,cur,e,e1,e2,e3,e4,e5,e6,e7,e8⟩⟩:=g4
 ·exact absurd (by simpa using e2) hne
 ·have hm:m=p.2.length:=by simpa using e2
  subst hm
  exact⟨g,cap,e1,e3,e4⟩
theorem aG4 {t e:TypeId} {eby:Nat} {ez:List Value} (hk:(E.ti t).k= .sli e 1 eby ez) (w:World) (a:Addr) (n cap:Nat) (k:IntKind) (l:Int) (h0:0≤l) (h1:l≤n) (hc:n≤cap):
  (Instr.sliceAt t (.slice (some a) n cap) (some (.int k l)) none none).run E.P w= .ok (.slice (some (if cap=l.toNat then a else a.add l.toNat)) (n-l.toNat) (cap-l.toNat)) w:=by
 have ho:=E.ok t
 simp only [aR,hk]at ho
 obtain⟨_,ht,i,z,hi,hsz,hby,hz,hzc⟩:=ho
 simp [Instr.sliceAt,Instr.slice,Instr.sliceBounds,Instr.sliceBound,asIntOf,run_underlying ht,sizeOf,typeInfo,hi,h0,h1,hsz]
 split<;>rfl
def tailV:Value→Value
 | .slice (some a) m cap=> .slice (some (if cap=1 then a else a.add 1)) (m-1) (cap-1)
 |u=>u
theorem aHo {d:Option Nat} {K:Ss→Prop} {t e:TypeId} {eby:Nat} {ez:List Value} {x y:Operand} {k:IntKind} {v:Value} {a:Addr} {m cap:Nat} (hk:(E.ti t).k= .sli e 1 eby ez) (hx:σ.opd x= .v v) (hv:v= .slice (some a) m cap) (hm:1≤m) (hc:m≤cap) (hy:σ.opd y= .v (.int k 1))
  (hK:K (σ.ap d (.v (tailV v)) [] σ.nx)):cG E d (.slice t x (some y) none none) σ K:=by
 refine⟨[],_,[],_,fun X o _ hd ho hdn tm rs h1 h2=>?_,hK,fun j hj=>by simp at hj⟩
 have ex:opd tm x=σ.opd x:=h1 x (by rw [ho];simp [Op.operands])
 have ey:opd tm y=σ.opd y:=h1 y (by rw [ho];simp [Op.operands])
 refine bM (E:=E) (by rw [hd];exact hdn) _ fun ac w c hp h=>?_
 have hx1:=h x
 have hy1:=h y
 rw [ex,hx]at hx1
 rw [ey,hy]at hy1
 simp only [Sv.ok]at hx1 hy1
 subst hv
 have:=aG4 (E:=E) hk w a m cap k 1 (by omega) (by omega) hc
 simp [execOp,ho,hx1,hy1,tailV,this]
theorem aM9 {w:World} {R:Nat→Prop} {u:Value} {l:List Int} {a:Addr} {m cap:Nat} (hu:u= .slice (some a) m cap) (h1:l≠[]) (h:RdV w R (ints l) u):RdV w R (ints (l.drop 1)) (tailV u):=by
 subst hu
 unfold ints at h⊢
 simp only [RdV]at h⊢
 obtain⟨_,⟨e1,e2⟩|⟨g,off,sp,m',cap',vs,q1,q2,q3,q4,q5,q6,q7⟩⟩:=h
 ·cases e1
 cases q1
 obtain⟨rfl,hg⟩:=q5 (by simpa using h1)
 have hl0:1≤l.length:=by cases l with
  |nil=>exact absurd rfl h1
  |cons _ _=>simp
 have hm:m=l.length:=by simpa using q2
 refine⟨Nat.one_pos, .inr ?_⟩
 have hl:=RdL.length q6
 have h5:RdL w R ((l.drop 1).map fun x=>Dt.v (.int .i64 x)) (vs.drop 1):=by
  have:=RdL.slice (l.map fun x=>Dt.v (.int .i64 x)) vs 1 l.length q6
  rw [List.take_of_length_le (by simp),List.take_of_length_le (by simp at hl⊢;omega),←List.map_drop]at this
  exact this
 obtain⟨b',hb'⟩:∃a':Addr,(if cap=1 then(⟨g,off,none⟩:Addr)else(⟨g,off,none⟩:Addr).add 1)=a':=⟨_,rfl⟩
 by_cases hA:l.drop 1=[]
 ·rw [hA]at h5⊢
  have hz:l.length-1=0:=by rw [←List.length_drop,hA];rfl
  obtain⟨g',off',sp'⟩:=b'
  refine⟨g',off',sp',m-1,cap-1,vs.drop 1,by simp only [tailV,hb'],by simp;omega,by omega,by omega,fun hne=>absurd rfl hne,h5,fun j x hj=>?_⟩
  have:vs.drop 1=[]:=by simpa [RdL]using h5
  rw [this]at hj;cases hj
 ·have hlt:1<l.length:=by
   apply Classical.byContradiction
   intro hge
   exact hA (List.drop_eq_nil_of_le (by omega))
  rw [if_neg (by omega),Addr.add_plain]at hb'
  subst hb'
  refine⟨g,off+1,none,m-1,cap-1,vs.drop 1,by simp only [tailV];rw [if_neg (by omega),Addr.add_plain],by simp;omega,by omega,by omega,fun _=>⟨rfl,hg⟩,h5,fun j x hj=>?_⟩
  rw [List.getElem?_drop]at hj
  rw [show off+1+j=off+(1+j) by omega]
  exact q7 _ _ hj
theorem Imp.tailAb {tm:List (Nat×Sv)} {rs:List (Nat×Rs)} {nx:Nat} (i n ci cn k:Nat) (Z:Zs) (p:Value×List Int) (hi:rsL rs i=⟨ci, .arr (cD ((Z.map (·.1)).set k (tailV p.1)))⟩) (hn:rsL rs n=⟨cn, .arr (mP Z)⟩) (hci:1≤ci) (hin:i≠n) (hk:k<Z.length) (hp:Z.getD k p=p) (hne:p.2≠[])
  (hs:∃a m cap,p.1= .slice (some a) m cap):
  Imp X ⟨tm,rs,nx⟩ ⟨tm,(i,⟨ci+1, .arr (rdA (aC ((Z.map (·.2)).set k (p.2.drop 1))))⟩)::(n,⟨cn, .gone⟩)::rs,nx⟩:=by
 rintro w1 U1 ds a w ⟨hd,hn',c,hpp,ht,hpin⟩
 have h1:=hpp.res i
 rw [hi]at h1
 obtain⟨h1,h2⟩:=h1
 have h3:=hpp.res n
 rw [hn]at h3
 have h4:=h3.1
 have hpk:Z[k]? =some p:=by
  rw [List.getD_eq_getElem?_getD,List.getElem?_eq_getElem hk]at hp
  rw [List.getElem?_eq_getElem hk]
  exact congrArg some hp
 have hpZ:p∈Z:=List.mem_of_getElem? hpk
 obtain⟨hp',hext⟩:=vG (X:=X.at w1 U1 ds) (w':=w) hpp i ⟨(c i).blk,(c i).hdr,fun b=>(c i).fp b∨(c n).fp b⟩ (ci+1) (.arr (rdA (aC ((Z.map (·.2)).set k (p.2.drop 1))))) [n] (by simpa using hin) (by rw [hi];exact Nat.lt_succ_self _)
  (.inr ⟨rfl,rfl⟩) rfl rfl rfl (Nat.le_refl _) (Agree.refl _ _) (fun b hb=>hb.elim .inl (fun h=> .inr (.inl ⟨n,by simp,h⟩))) (hpp.one i) (fun hx'=>by
   refine⟨aKx rfl ?_,h2⟩
   have h5:=OwV.rd _ _ h1
   unfold cD at h5
   unfold aC
   simp only [RdV]at h5⊢
   obtain⟨_,⟨e1,e2⟩|⟨g,off,sp,m,cap,vs,e1,e2,e3,e4,e5,e6,e7⟩⟩:=h5
   ·exfalso
    have q2:=congrArg List.length e2
    rw [List.length_map,List.length_set,List.length_map]at q2
    have q3:Z.length=0:=q2
    omega
   ·have hvs:=(RdL.flat (aNp _)).1 e6
    have hv2:vs=(Z.map (·.1)).set k (tailV p.1):=by rw [hvs];simp [Function.comp_def,Dt.val]
    refine⟨Nat.one_pos, .inr ⟨g,off,sp,m,cap,vs,e1,by rw [e2];simp,e3,e4,fun hne'=>?_,?_,e7⟩⟩
    ·have:=e5 (by
      intro q;apply hne'
      have q2:=congrArg List.length q
      rw [List.length_map,List.length_set,List.length_map]at q2
      have q3:Z.length=0:=q2
      omega)
     exact⟨this.1, .inl this.2⟩
    ·refine RdL.of_get _ _ (by rw [hv2];simp) fun j d v hd' hv'=>?_
     rw [List.getElem?_map]at hd'
     rw [hv2]at hv'
     by_cases e:k=j
     ·subst e
      rw [List.getElem?_set_self (by simpa using hk)]at hd' hv'
      simp only [Option.map_some,Option.some.injEq]at hd' hv'
      subst hd' hv'
      obtain⟨a',m',cap',hs'⟩:=hs
      exact RdV.mono (fun b hb=> .inr hb) _ _ (aM9 hs' hne (aEF h4 hpZ))
     ·rw [List.getElem?_set_ne e,List.getElem?_map]at hd' hv'
      cases hz:Z[j]? with
      |none=>rw [hz]at hv';simp at hv'
      |some q=>
       rw [hz]at hd' hv'
       simp only [Option.map_some,Option.some.injEq]at hd' hv'
       subst hd' hv'
       exact RdV.mono (fun b hb=> .inr hb) _ _ (aEF h4 (List.mem_of_getElem? hz)))
 have hRS:rsL ((i,⟨ci+1, .arr (rdA (aC ((Z.map (·.2)).set k (p.2.drop 1))))⟩)::(n,⟨cn, .gone⟩)::rs)=upd (dC (rsL rs) (bP (rsL rs) [n])) i ⟨ci+1, .arr (rdA (aC ((Z.map (·.2)).set k (p.2.drop 1))))⟩:=by
  have hg:bP (rsL rs) [n]=[(n,⟨cn, .gone⟩)]:=by simp [bP,hn]
  rw [hg];rfl
 rw [←hRS]at hp' hext
 refine⟨hd,hn',_,hp',fun s=>Sv.ok_ext hext _ _ (ht s),fun l hl=>?_⟩
 obtain⟨r1,r2,r3⟩:=hpin l hl
 obtain⟨r4,r5⟩:=hext.cn l r1
 exact⟨Nat.le_trans r1 (hext.ver l),r4.trans r2,r5.trans r3⟩
theorem Imp.cellRd (i k j ci cj:Nat) (cells:List Sv) (D:Dt) (hi:rsL σ.rs i=⟨ci, .box cells⟩) (hci:1≤ci) (hc:cells[k]? =some (.sl j)) (hj:rsL σ.rs j=⟨cj, .arr (rdA D)⟩):
  Imp X σ ⟨σ.tm,(i,⟨ci+1, .box (cells.set k (.bor [(j,cj)] D))⟩)::σ.rs,σ.nx⟩:=by
 rintro w1 U1 ds a w ⟨hd,hn,c,hp,ht,hpin⟩
 have h1:=hp.res i
 rw [hi]at h1
 obtain⟨q1,cur,e,q2,q3⟩:=h1
 have hr:=hp.res j
 rw [hj]at hr
 have ho:=hp.one j
 obtain⟨hp',hext⟩:=iB (X:=X.at w1 U1 ds) (w':=w) hp i (by rw [hi];exact hci) (ci+1) (by rw [hi];exact Nat.lt_succ_self _) (.box (cells.set k (.bor [(j,cj)] D))) rfl rfl rfl rfl (Agree.refl _ _) (fun hx=>by
  refine⟨q1,cur,e,q2,?_⟩
  have h2:=Sv.okL_ext hx _ _ q3
  obtain⟨x,hx1,hx2⟩:=Sv.okL.get h2 hc
  obtain⟨x',hx1',hx3⟩:=Sv.okL.get q3 hc
  obtain rfl:x'=x:=by rw [hx1]at hx1';cases hx1';rfl
  simp only [Sv.ok]at hx3
  rw [hj]at hx3
  obtain⟨p1,p2⟩:=hx3
  have hv:=hx.ver j
  rw [hj]at hv
  have h3:=Sv.okL.set (k:=k) (s:= .bor [(j,cj)] D) (x:=x') h2 (by
   simp only [Sv.ok]
   refine⟨fun p hp'=>?_,by rw [p2];exact ho,fun _=>?_⟩
   ·rcases List.mem_singleton.1 hp' with rfl
    exact⟨p1,hv⟩
   ·rw [p2]
    exact RdV.mono (fun b hb=> .inr ⟨_,List.mem_cons_self ..,hb⟩) _ _ (aPe hr.1))
  have h4:cur.toList.set k x'=cur.toList:=by
   apply List.ext_getElem?
   intro n
   rw [List.getElem?_set]
   split
   ·rename_i hn'
    subst hn'
    split
    ·exact hx1.symm
    ·rename_i hlt
     rw [List.getElem?_eq_none (by omega)]
   ·rfl
  rwa [h4]at h3)
 refine⟨hd,hn,c,hp',fun s=>Sv.ok_ext hext _ _ (ht s),fun l hl=>?_⟩
 obtain⟨r1,r2,r3⟩:=hpin l hl
 exact⟨Nat.le_trans r1 (hext.ver l),r2,r3⟩
end
end Go.Eng
