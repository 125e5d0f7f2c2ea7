/- Several texts in one: I04, P37a. -/
import Derived.Test.YthgijhnmcglppaaGreatI01q
import Derived.Test.YthgijhnmcglppaaGreatL04q
import Derived.Test.YthgijhnmcglppaaGreatRows
import Derived.JoinedOf
import Derived.ProofKit
set_option linter.unusedSimpArgs false
set_option linter.unusedVariables false
set_option maxRecDepth 100000
set_option maxHeartbeats 32000000
section
namespace Go.Eng
open Go Go.Proofs Go.Cats
def aBV (F:List Fun) (h:Fun) (i:Nat):Prop:=∃k,k<i∧F.getD k default=h
section
variable {F:List Fun} {h:Fun} {i:Nat}
theorem aQU:dec (aBV F h 0)=false:=iZ fun⟨k,h,_⟩=>Nat.not_lt_zero k h
theorem aBW (p:aBV F h i):dec (aBV F h (i+1))=true:=cV (by obtain⟨k,h1,h2⟩:=p;exact⟨k,by omega,h2⟩)
theorem aEF (p:¬aBV F h i):dec (aBV F h (i+1))=dec (F.getD i default=h):=bU ⟨fun⟨k,h3,h4⟩=>by
 rcases Nat.lt_or_ge k i with q|q
 ·exact absurd ⟨k,q,h4⟩ p
 ·obtain rfl:k=i:=by omega
  exact h4,fun e=>⟨i,Nat.lt_succ_self i,e⟩⟩
theorem aF0 (p:h∈F):dec (aBV F h F.length)=true:=cV (by
 obtain⟨k,hk,e⟩:=fX (d:=default) p
 exact⟨k,hk,e⟩)
end
attribute [local go_sem] List.set_cons_zero List.set_cons_succ List.take_succ_cons List.take_zero
theorem oU {l:List Int} (hl:(l.length:Int)≤9223372036854775807) (hb:∀i,i<l.length→0≤l.getD i 0∧l.getD i 0<256):Spec Tryz.prog 4 [.bor [] (bys l)] [] (bv true) []:=by
 refine aC (E:=TE) 0 Tryz.func4 rfl (by simp [Tryz.f4]) fun X hn hX=>?_
 by_cases h4:4096<l.length
 ·repeat'(first|refine wkQ ?_|refine Tw.f ?_ ?_|(refine kcQ nJ ?_;refine krQ (rU (l:=l) ?_) ?_)|(refine fun(hc:(_:Bool)=_)=>?_;try simp only [hcS]at hc))
  all_goals try exact om_
  all_goals try(exfalso;omega)
  (first|refine aB ?_|refine aA ?_);simp only [go_sem,simprocAttr,Tryz.f4]
 ·have hk:CodeOk l:=⟨by omega,hb⟩
  have hD:=kM hk
  have bc:=aJL hk
  generalize aBr l=c at hD bc
  obtain⟨F,code,ho⟩:=AOut.ex c c
  by_cases h0:code=0
  ·subst h0
   obtain⟨L,hL⟩:∃L,OrbOut c L 0:=⟨_,F,ho, .inr ⟨rfl,rfl⟩⟩
   have hA:=aOl ho hL
   have hLl:=hA.len
   have h8:=hA.cat.toShape.ob8
   have hF1:=hA.few
   have hF2:=hA.some
   have hR:=aJu (l:=l) (z:=5) (by omega)
   have ht:=aJi (l:=l) (z:=5) (by omega) hb
   generalize aJg l 5=t at hR ht
   have hB1:=oD (n:=(F.length:Int)) ht
   have n1:=bK (n:=(F.length:Int)) ht (by omega)
   have ht2:=aR (n:=(F.length:Int)) ht
   obtain⟨a,ha⟩:∃a:Nat,aK t F.length=a:=⟨_,(Int.toNat_of_nonneg n1.1).symm⟩
   rw [ha]at hB1 n1
   generalize aL t F.length=t2 at hB1 ht2
   have hB2:=oD (n:=(F.length:Int)) ht2
   have n2:=bK (n:=(F.length:Int)) ht2 (by omega)
   obtain⟨b,hb2⟩:∃b:Nat,aK t2 F.length=b:=⟨_,(Int.toNat_of_nonneg n2.1).symm⟩
   rw [hb2]at hB2 n2
   generalize aL t2 F.length=t3 at hB2
   have a1:a<F.length:=by omega
   have b1:b<F.length:=by omega
   have hpart:∀i,i<F.length→(bM F).part (i*12) 12=[.v (.int .i64 (F.getD i default).src.ob),ints (F.getD i default).src.fr,ints (F.getD i default).src.to,ints (F.getD i default).src.id,aF (F.getD i default).src.co, .v (.int .i64 (F.getD i default).tgt.ob),ints (F.getD i default).tgt.fr,ints (F.getD i default).tgt.to,ints (F.getD i default).tgt.id,aF (F.getD i default).tgt.co,ints (F.getD i default).obs,ints (F.getD i default).ars]:=fun i hi=>aDL F i hi
   have pa:=hpart a a1
   have pb:=hpart b b1
   have hor:=hA.orb a a1
   have fm:F.getD a default∈F:=aX a1
   have gm:F.getD b default∈F:=aX b1
   have hmB:∀i,i<F.length→FunB (F.getD i default):=fun i hi=>by
    obtain⟨e1,e2,e3⟩:=hA.iso _ (aX (d:=default) hi)
    have o1:=e3.bo.len
    have o2:=e3.bq.len
    have m40:=hA.cat.toShape.m40
    exact⟨by rw [e1];exact bc,by rw [e2];exact bc,by omega,by omega⟩
   have hBf:=hmB a a1
   have hBg:=hmB b b1
   obtain⟨f1,f2,f3⟩:=hA.iso _ fm
   obtain⟨g1,g2,g3⟩:=hA.iso _ gm
   have hth:=hA.thn _ fm _ gm
   have hbk:=hA.back _ fm
   generalize F.getD a default=f at *
   generalize F.getD b default=g at *
   have hf:IsFun f:=⟨by rw [f1];exact hA.cat,by rw [f2];exact hA.cat,by have:=f3.fit;obtain⟨s,t,O,Q⟩:=f;simp only at f1 f2 this;subst f1;subst f2;exact this⟩
   have hg:IsFun g:=⟨by rw [g1];exact hA.cat,by rw [g2];exact hA.cat,by have:=g3.fit;obtain⟨s,t,O,Q⟩:=g;simp only at g1 g2 this;subst g1;subst g2;exact this⟩
   have hi:IsoQ f.src f.tgt f.obs f.ars:=by rw [f1,f2];exact f3
   have hTh:=vE hf hg hBf hBg (by rw [f2,g1])
   have hIn:=rT hf hi hBf
   have hfo:=f3.bo.len
   have hfw:∀i,i<c.ob.toNat→0≤f.obs.getD i 0∧f.obs.getD i 0<c.ob.toNat:=fun i hi=>f3.bo.at hi
   have hBh:FunB (thF f g):=by
    obtain⟨k,hk,e⟩:=fX (d:=default) hth
    rw [←e];exact hmB k hk
   have hBb:FunB (bwF f):=by
    obtain⟨k,hk,e⟩:=fX (d:=default) hbk
    rw [←e];exact hmB k hk
   generalize thF f g=h at hth hTh hBh
   generalize bwF f=p at hbk hIn hBb
   repeat'(first|(refine dM 4 (Imp.cellRd 4 4 3 _ _ _ (aF c.co) rfl (by decide) rfl rfl) ?_;simp only [go_sem,simprocAttr])|(rw [pa];simp only [go_sem,simprocAttr])|(rw [pb];simp only [go_sem,simprocAttr])|(with_reducible first|refine St.f ?_|refine V_c ?_|refine eDn ?_|refine And.intro ?_ ?_|refine aJ ?_ ?_|refine aO ?_)|((refine aV ?_);intro K hK)|((with_reducible refine So.f ?_);intro K hK;simp(contextual:=true)only [go_sem,simprocAttr])|((with_reducible refine hK _ ?_);clear hK K)|((with_reducible refine aE 12 ?_);refine EvCall.rr (rU (l:=l) ?_) nJ ?_)|((with_reducible refine aE 22 ?_);refine EvCall.mr (hD) fG [(0,0),(1,1),(2,2),(3,3)] [] ?_)|((with_reducible refine aE 23 ?_);refine EvCall.rq (a:=(iJ (c:=c) (F:=F) (code:=0) (by first|omega|assumption|rfl) (by first|omega|assumption|rfl))) (b:=jK) (c:=?_);all_goals try simp only [go_sem,simprocAttr])|((with_reducible refine aE 24 ?_);refine EvCall.rq (a:=(fT (c:=c) (F:=F) (code:=0) (by first|omega|assumption|rfl) (by first|omega|assumption|rfl))) (b:=gJ) (c:=?_);all_goals try simp only [go_sem,simprocAttr])|((with_reducible refine aE 25 ?_);refine EvCall.rq (a:=(qK (c:=c) (d:=c) (F:=F) (code:=0) (by first|omega|assumption|rfl) (by first|omega|assumption|rfl) (by first|omega|assumption|rfl))) (b:=tC) (c:=?_);all_goals try simp only [go_sem,simprocAttr])|((with_reducible refine aE 26 ?_);refine EvCall.rq (a:=(vB (c:=c) (L:=L) (code:=0) (by first|omega|assumption|rfl) (by first|omega|assumption|rfl))) (b:=yG) (c:=?_);all_goals try simp only [go_sem,simprocAttr])|((with_reducible refine aE 17 ?_);refine EvCall.mr (hR) vS [(0,7)] [] ?_)|((with_reducible refine aE 19 ?_);refine EvCall.mr (hB1) gP [(0,7)] [] ?_;clear hB1)|((with_reducible refine aE 19 ?_);refine EvCall.mr (hB2) gP [(0,7)] [] ?_;clear hB2)|((with_reducible refine aE 20 ?_);refine EvCall.mr (hTh) yH [(0,10),(1,11),(2,12),(3,13),(4,14),(5,15),(6,16),(7,17),(8,18),(9,19)] [5] ?_)|((with_reducible refine aE 27 ?_);refine EvCall.mr (hIn) uC [(0,21),(1,22),(2,23),(3,24),(4,25),(5,26),(6,27),(7,28),(8,29),(9,30)] [5] ?_)|(refine fun(hc:(_:Bool)=_)=>?_;try simp only [hcS]at hc))
   all_goals try exact om_
   all_goals try(exfalso;omega)
   refine aG (G:={i:Nat//i≤F.length∧(True)}) (fun⟨i,_⟩=>[(21,iv i),(19,bv (dec (aBV F h i))),(20,bv (dec (aBV F p i))),(12, .ptr 7 0),(14, .ptr 9 0)]) [2,3,8,10,13,15,16,17,18] (fun⟨i,_⟩=>[]) [] (fun zz=>F.length-zz.1) ⟨0,Nat.zero_le _,by trivial⟩ ?_ ?_
   ·exact Imp.auto hX (by simp [go_sem,simprocAttr,aQU])
   rintro⟨i,hii,hwi⟩
   simp only [go_sem,simprocAttr]
   rcases Nat.lt_or_ge i F.length with hlt|hge
   ·have pi:=hpart i hlt
    have hBi:=hmB i hlt
    by_cases q1:aBV F h i
    ·have d1:=cV q1
     have e1:=aBW q1
     by_cases q2:aBV F p i
     ·have d2:=cV q2
      have e2:=aBW q2
      simp only [d1,d2]
      repeat'(first|(rw [pi];simp only [go_sem,simprocAttr])|(with_reducible first|refine St.f ?_|refine V_c ?_|refine eDn ?_|refine And.intro ?_ ?_|refine aJ ?_ ?_|refine aO ?_)|((refine aV ?_);intro K hK)|((with_reducible refine So.f ?_);intro K hK;simp(contextual:=true)only [go_sem,simprocAttr])|((with_reducible refine hK _ ?_);clear hK K)|(refine fun(hc:(_:Bool)=_)=>?_;try simp only [hcS]at hc))
      all_goals try exact om_
      all_goals try(exfalso;omega)
      refine⟨⟨i+1,by omega,(by trivial)⟩,by simp only;omega,Imp.auto hX (by simp only [go_sem,simprocAttr,e1,e2])⟩
     ·have d2:=iZ q2
      have e2:=aEF q2
      simp only [d1,d2]
      repeat'(first|(rw [pi];simp only [go_sem,simprocAttr])|(with_reducible first|refine St.f ?_|refine V_c ?_|refine eDn ?_|refine And.intro ?_ ?_|refine aJ ?_ ?_|refine aO ?_)|((refine aV ?_);intro K hK)|((with_reducible refine So.f ?_);intro K hK;simp(contextual:=true)only [go_sem,simprocAttr])|((with_reducible refine hK _ ?_);clear hK K)|((with_reducible refine aE 16 ?_);refine EvCall.rr (nV (f:=F.getD i default) (g:=p) ?_ ?_) lM ?_)|(refine fun(hc:(_:Bool)=_)=>?_;try simp only [hcS]at hc))
      all_goals try exact om_
      all_goals try(exfalso;omega)
      refine⟨⟨i+1,by omega,(by trivial)⟩,by simp only;omega,Imp.auto hX (by simp only [go_sem,simprocAttr,e1,e2])⟩
    ·have d1:=iZ q1
     have e1:=aEF q1
     by_cases q2:aBV F p i
     ·have d2:=cV q2
      have e2:=aBW q2
      simp only [d1,d2]
      repeat'(first|(rw [pi];simp only [go_sem,simprocAttr])|(with_reducible first|refine St.f ?_|refine V_c ?_|refine eDn ?_|refine And.intro ?_ ?_|refine aJ ?_ ?_|refine aO ?_)|((refine aV ?_);intro K hK)|((with_reducible refine So.f ?_);intro K hK;simp(contextual:=true)only [go_sem,simprocAttr])|((with_reducible refine hK _ ?_);clear hK K)|((with_reducible refine aE 16 ?_);refine EvCall.rr (nV (f:=F.getD i default) (g:=h) ?_ ?_) lM ?_)|(refine fun(hc:(_:Bool)=_)=>?_;try simp only [hcS]at hc))
      all_goals try exact om_
      all_goals try(exfalso;omega)
      refine⟨⟨i+1,by omega,(by trivial)⟩,by simp only;omega,Imp.auto hX (by simp only [go_sem,simprocAttr,e1,e2])⟩
     ·have d2:=iZ q2
      have e2:=aEF q2
      simp only [d1,d2]
      repeat'(first|(rw [pi];simp only [go_sem,simprocAttr])|(with_reducible first|refine St.f ?_|refine V_c ?_|refine eDn ?_|refine And.intro ?_ ?_|refine aJ ?_ ?_|refine aO ?_)|((refine aV ?_);intro K hK)|((with_reducible refine So.f ?_);intro K hK;simp(contextual:=true)only [go_sem,simprocAttr])|((with_reducible refine hK _ ?_);clear hK K)|((with_reducible refine aE 16 ?_);refine EvCall.rr (nV (f:=F.getD i default) (g:=h) ?_ ?_) lM ?_)|((with_reducible refine aE 16 ?_);refine EvCall.rr (nV (f:=F.getD i default) (g:=p) ?_ ?_) lM ?_)|(refine fun(hc:(_:Bool)=_)=>?_;try simp only [hcS]at hc))
      all_goals try exact om_
      all_goals try(exfalso;omega)
      refine⟨⟨i+1,by omega,(by trivial)⟩,by simp only;omega,Imp.auto hX (by simp only [go_sem,simprocAttr,e1,e2])⟩
   ·obtain rfl:i=F.length:=by omega
    have e1:=aF0 hth
    have e2:=aF0 hbk
    simp only [e1,e2]
    repeat'(first|refine wkQ ?_|refine Tw.f ?_ ?_|(refine fun(hc:(_:Bool)=_)=>?_;try simp only [hcS]at hc))
    all_goals try exact om_
    all_goals try(exfalso;omega)
    refine aG (G:={x:Nat//x≤L.length∧(True)}) (fun⟨x,_⟩=>[(22,iv x),(3, .ptr 4 0),(8, .sl 5),(10, .sl 6),(12, .ptr 7 0),(13, .ptr 8 0),(14, .ptr 9 0),(15, .ptr 20 0),(17, .ptr 31 0)]) [] (fun⟨x,_⟩=>[]) [] (fun zz=>L.length-zz.1) ⟨0,Nat.zero_le _,by first|trivial|simp⟩ ?_ ?_
    ·exact Imp.au hX
    rintro⟨x,hix,hwx⟩
    simp only [go_sem,simprocAttr]
    rcases Nat.lt_or_ge x L.length with hlx|hgx
    ·have ho1:=hor x hlx
     have ho2:=hfw x (by omega)
     repeat'(first|refine wkQ ?_|refine Tw.f ?_ ?_|(refine fun(hc:(_:Bool)=_)=>?_;try simp only [hcS]at hc))
     all_goals try exact om_
     all_goals try(exfalso;omega)
     refine⟨⟨x+1,by omega,(by trivial)⟩,by simp only;omega,Imp.ao hX⟩
    ·obtain rfl:x=L.length:=by omega
     repeat'(first|refine wkQ ?_|refine Tw.f ?_ ?_|(refine fun(hc:(_:Bool)=_)=>?_;try simp only [hcS]at hc))
     all_goals try exact om_
     all_goals try(exfalso;omega)
     (first|refine aB ?_|refine aA ?_);simp only [go_sem,simprocAttr,Tryz.f4]
  ·have hF:=ho.nil h0
   subst hF
   repeat'(first|(refine dM 4 (Imp.cellRd 4 4 3 _ _ _ (aF c.co) rfl (by decide) rfl rfl) ?_;simp only [go_sem,simprocAttr])|(with_reducible first|refine St.f ?_|refine V_c ?_|refine eDn ?_|refine And.intro ?_ ?_|refine aJ ?_ ?_|refine aO ?_)|((refine aV ?_);intro K hK)|((with_reducible refine So.f ?_);intro K hK;simp(contextual:=true)only [go_sem,simprocAttr])|((with_reducible refine hK _ ?_);clear hK K)|((with_reducible refine aE 12 ?_);refine EvCall.rr (rU (l:=l) ?_) nJ ?_)|((with_reducible refine aE 22 ?_);refine EvCall.mr (hD) fG [(0,0),(1,1),(2,2),(3,3)] [] ?_)|((with_reducible refine aE 23 ?_);refine EvCall.rq (a:=(iJ (c:=c) (F:=[]) (code:=code) (by first|omega|assumption|rfl) (by first|omega|assumption|rfl))) (b:=jK) (c:=?_);all_goals try simp only [go_sem,simprocAttr])|((with_reducible refine aE 24 ?_);refine EvCall.rq (a:=(fT (c:=c) (F:=[]) (code:=code) (by first|omega|assumption|rfl) (by first|omega|assumption|rfl))) (b:=gJ) (c:=?_);all_goals try simp only [go_sem,simprocAttr])|(refine fun(hc:(_:Bool)=_)=>?_;try simp only [hcS]at hc))
   all_goals try exact om_
   all_goals try(exfalso;omega)
   all_goals((first|refine aB ?_|refine aA ?_);simp only [go_sem,simprocAttr,Tryz.f4])
   all_goals exact congrArg (fun b=>Sv.v (.bool b)) (decide_eq_true trivial)
end Go.Eng
end
section
namespace Go.Proofs.YthgijhnmcglppaaGreat
open Go Go.Eng Go.Cats Go.ChangeShapes Go.WideShapes Go.RowKit
theorem Tryz.own37_:ownKnob Tryz.checked.prog.godebug=none:=by kernel_rfl
theorem Tryz.laidOut37_:laidOutB Tryz.prog=true:=by kernel_rfl
theorem nB (os:Os) (started:os.Started) (H:Type) (enc:TypeId×Value→H):
  ReturnsInHanded {} Tryz.checked os 4 .any (Rows.fnAutomorphismGroupsSpec.pre6 enc Tryz.prog Tryz.f4 Rows.fnAutomorphismGroupsRow.domain Rows.fnAutomorphismGroupsRow.apart) (Rows.fnAutomorphismGroupsSpec.post enc Tryz.prog Tryz.f4 Rows.fnAutomorphismGroupsRow.apart Rows.fnAutomorphismGroupsRow.fresh Rows.fnAutomorphismGroupsRow.handsOn Rows.fnAutomorphismGroupsRow.again):=by
 refine returnsInHanded_of_change (C:=Tryz.checked) Tryz.own37_ started (by kernel_rfl) Tryz.func4
  (ChangeSpec.witness6 (enc:=enc) (C:=Tryz.checked) false ⟨#[],#[.slice none 0 0],[]⟩ 8 (by kernel_rfl) (by kernel_rfl) (by kernel_rfl) (by kernel_rfl)) ?_
 intro W base args ds gs before hval0 hW hcnd _
 have hval:∀(j:Nat) t v,Tryz.f4.params[j]? =some t→args[j]? =some v→Value.okWide Tryz.prog W .any base t v:=hval0
 have hW':=hW
 obtain⟨p,q,hA0,hV,rfl,hfz,hnd⟩:=hW
 obtain⟨rfl,rfl⟩:=trodVars_none hV
 have hA:DataW.TrodAll enc Tryz.prog W 0 (fun _=>true) true [22] args.toList ds p:=hA0
 obtain⟨v0,d0,rfl,rfl,h0⟩:=trodAll_one hA
 obtain⟨x0,y0,z0,rfl⟩:=okWide_slice Tryz.underlying22 (hval 0 22 v0 rfl rfl)
 obtain⟨fuel0,hf0⟩:=h0
 have hg0:=hf0
 rw [show(Value.slice x0 y0 z0).cells.toList=[Value.slice x0 y0 z0] from rfl]at hf0
 obtain⟨u0,a0,hu0,ho0,hr0,hb0,hB0⟩:=aNd Tryz.underlying22 Tryz.underlying5 (by kernel_rfl) hf0
 obtain rfl:Value.slice x0 y0 z0=u0:=by simpa using hu0
 have hlt:∀y∈p,y.block<W.heap.size:=fun y hy=>hW'.lt y (by simpa using hy)
 refine(oU (l:=a0) hb0 hB0 W (Old W) (Old W) _ [.slice x0 y0 z0] (aF5 W) ?_).mono fun ed W' ⟨v,c1,he,hp,hv,_⟩=>?_
 ·simp only [Sv.okL,Sv.ok]
  exact⟨_,_,rfl,⟨fun p hp=>(by simp at hp),ho0,fun _=>RdV.mono (fun b hb=> .inl hb) _ _ hr0⟩,rfl⟩
 ·simp only [Sv.ok]at hv
  subst hv
  subst he
  have hb:=zT hp
  refine⟨_,rfl,aGw hW' rfl rfl Tryz.underlying4 rfl hb ?_⟩
  rw [List.append_nil]
  exact trodAll_mk1 (Below.trod Tryz.laidOut37_ (by kernel_rfl) (of_decide_eq_true (by kernel_rfl)) ⟨fuel0,hg0⟩ hb (fun y hy=>hlt y (by simp [hy])))
end Go.Proofs.YthgijhnmcglppaaGreat
end
