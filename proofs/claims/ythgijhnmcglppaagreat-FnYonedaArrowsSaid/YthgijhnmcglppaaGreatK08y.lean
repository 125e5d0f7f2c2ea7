/- Several texts in one: K08, P40a. -/
import Derived.Test.YthgijhnmcglppaaGreatKasy
import Derived.Test.YthgijhnmcglppaaGreatKcfy
import Derived.Test.YthgijhnmcglppaaGreatL04q
import Derived.Test.YthgijhnmcglppaaGreatH06y
import Derived.Test.YthgijhnmcglppaaGreatRows
import Derived.JoinedOf
import Derived.ProofKit
set_option linter.unusedSimpArgs false
set_option linter.unusedVariables false
set_option maxRecDepth 100000
set_option maxHeartbeats 32000000
section
namespace Go.Eng
open Go Go.Proofs Go.Cats
section
variable {c:Cat} {h k:Int}
theorem aHi (s:IsCat c) (h0:0≤h) (h1:h<c.fr.length) (k0:0≤k) (k1:k<c.fr.length) (e:c.T h=c.F k) (z:Nat):thn (nH c k z) (nH c h z)=nH c (c.C h k) z:=by
 obtain⟨c0,c1,c2,c3⟩:=s.toShape.compI h0 h1 k0 k1 e
 refine aMz (by rw [thn_len,kB,kB,c3]) fun i hi=>?_
 rw [thn_len,kB]at hi
 rw [thn_at (by rw [kB];exact hi)]
 obtain⟨p,p1,p2,p3⟩:=aBq s k0 k1 hi
 rw [p3,Int.toNat_natCast]
 rw [←e]at p1 p2
 rw [qP p1,p2,qP (by rw [c3];exact hi),c3,c2]
 rw [s.assH (s.own_hom h0 h1) (by rw [e];exact s.own_hom k0 k1) (Cat.at_mem hi)]
theorem aLv (s:IsCat c) (h0:0≤h) (h1:h<c.fr.length) (k0:0≤k) (k1:k<c.fr.length) (e:c.T h=c.F k):thM (arM c k) (arM c h)=arM c (c.C h k):=by
 obtain⟨c0,c1,c2,c3⟩:=s.toShape.compI h0 h1 k0 k1 e
 have hp:thP (arP c k c.ob.toNat) (arP c h c.ob.toNat) (arP c k c.ob.toNat).length=arP c (c.C h k) c.ob.toNat:=by
  rw [pC]
  unfold thP
  show _=(List.range _).map (nH c (c.C h k))
  refine List.map_congr_left fun z hz=>?_
  have hz:=List.mem_range.1 hz
  rw [tX hz,tX hz,aHi s h0 h1 k0 k1 e]
 unfold thM arM
 show(⟨c.rep (c.T k),c.rep (c.F h),thP (arP c k c.ob.toNat) (arP c h c.ob.toNat) (arP c k c.ob.toNat).length⟩:SM)=⟨c.rep (c.T (c.C h k)),c.rep (c.F (c.C h k)),arP c (c.C h k) c.ob.toNat⟩
 rw [hp,c2,c3]
end
attribute [local go_sem] List.set_cons_zero List.set_cons_succ List.take_succ_cons List.take_zero
theorem xJ {l:List Int} (hl:(l.length:Int)≤9223372036854775807) (hb:∀i,i<l.length→0≤l.getD i 0∧l.getD i 0<256):Spec Tryz.prog 6 [.bor [] (bys l)] [] (bv true) []:=by
 refine aC (E:=TE) 0 Tryz.func6 rfl (by simp [Tryz.f6]) fun X hn hX=>?_
 by_cases h4:4096<l.length
 ·repeat'(first|refine wkQ ?_|refine Tw.f ?_ ?_|(refine kcQ nJ ?_;refine krQ (rU (l:=l) ?_) ?_)|(refine fun(hc:(_:Bool)=_)=>?_;try simp only [hcS]at hc))
  all_goals try exact om_
  all_goals try(exfalso;omega)
  (first|refine aB ?_|refine aA ?_);simp only [go_sem,simprocAttr,Tryz.f6]
 ·have hk:CodeOk l:=⟨by omega,hb⟩
  have hD:=sH hk
  have bc:=aOk hk
  generalize aJK l=q at hD bc
  obtain⟨c,h⟩:=q
  simp only at hD bc
  obtain⟨m,code,ho⟩:=AmOut.ex c h
  have bm:=ho.b bc
  by_cases h0:code=0
  ·subst h0
   obtain⟨sc,hr,⟨s1,s2⟩,hm⟩:=ho.zero
   have hS:=sc.toShape
   have tl:=hS.tol
   have t1:=hS.objT hr.1 hr.2
   have f1:=hS.objF hr.1 hr.2
   have nm:=aEr sc hr.1 hr.2 s1 s2
   rw [←hm]at nm
   obtain⟨e,e1,e2,e3⟩:=Cat.place (sc.own_hom hr.1 hr.2)
   have sp_MapElement_loc:=aC9 (m:=m) (x:=c.T h) bm
   rw [hm,aLu sc hr.1 hr.2 s1 s2,←hm,e3]at sp_MapElement_loc
   simp only at sp_MapElement_loc
   have sp_HomSet_loc:=aE4 bc sc f1.1 f1.2 t1.1 t1.2
   have m40:=hS.m40
   have hl1:=c.hom_len (c.F h) (c.T h)
   have eF:c.fr.getD h.toNat 0=c.F h:=rfl
   have eT:c.to.getD h.toNat 0=c.T h:=rfl
   have hR:=aJu (l:=l) (z:=7) (by omega)
   have ht:=aJi (l:=l) (z:=7) (by omega) hb
   generalize aJg l 7=t at hR ht
   have hB:=oD (n:=(c.fr.length:Int)) ht
   have n1:=bK (n:=(c.fr.length:Int)) ht (by omega)
   obtain⟨x,hx⟩:∃x:Nat,aK t (c.fr.length:Int)=x:=⟨_,(Int.toNat_of_nonneg n1.1).symm⟩
   rw [hx]at hB n1
   by_cases hq:c.fr.getD x 0=c.T h
   ·have eX:c.F (x:Int)=c.fr.getD x 0:=by show c.fr.getD (x:Int).toNat 0=_;rw [Int.toNat_natCast]
    have hTF:c.T h=c.F (x:Int):=by rw [eX,hq]
    obtain⟨c0,c1,c2,c3⟩:=hS.compI hr.1 hr.2 n1.1 n1.2 hTF
    obtain⟨n,five,hn5⟩:=AmOut.ex c (x:Int)
    obtain⟨u,six,hu6⟩:=AmOut.ex c (c.C h (x:Int))
    have bn:=hn5.b bc
    have bu:=hu6.b bc
    have sp_ArrowMap_five:=fP bc hn5
    have sp_ArrowMap_six:=fP bc hu6
    have sp_then9_loc:=aGU (c:=c) (f:=h) (g:=(x:Int)) hS hr.1 hr.2 n1.1 n1.2
    by_cases h56:five=0∧six=0
    ·obtain⟨rfl,rfl⟩:=h56
     obtain⟨_,_,⟨k1,k2⟩,hnn⟩:=hn5.zero
     obtain⟨_,_,_,huu⟩:=hu6.zero
     have nn:=aEr sc n1.1 n1.2 k1 k2
     rw [←hnn]at nn
     have hTh:=xL nn nm bn bm (by rw [hnn,hm];show c.rep (c.F (x:Int))=c.rep (c.T h);rw [hTF])
     rw [show thM n m=u by rw [hnn,hm,huu,aLv sc hr.1 hr.2 n1.1 n1.2 hTF]]at hTh
     have sp_ThenSetMaps_loc:=hTh
     repeat'(first|(refine dM 4 (Imp.cellRd 4 4 3 _ _ _ (aF c.co) rfl (by decide) rfl rfl) ?_;simp only [go_sem,simprocAttr])|(with_reducible first|refine St.f ?_|refine V_c ?_|refine eDn ?_|refine And.intro ?_ ?_|refine aJ ?_ ?_)|((refine aV ?_);intro K hK)|((with_reducible refine So.f ?_);intro K hK;simp(contextual:=true)only [go_sem,simprocAttr])|((with_reducible refine hK _ ?_);clear hK K)|((with_reducible refine aE 12 ?_);refine EvCall.rr (rU (l:=l) ?_) nJ ?_)|((with_reducible refine aE 36 ?_);refine EvCall.mr (hD) eD [(0,0),(1,1),(2,2),(3,3)] [] ?_)|((with_reducible refine aE 37 ?_);refine EvCall.rq (a:=(fP (c:=c) (h:=h) (m:=m) (code:=0) (by first|omega|assumption|rfl) (by first|omega|assumption|rfl))) (b:=eU) (c:=?_);all_goals try simp only [go_sem,simprocAttr])|((with_reducible refine aE 38 ?_);refine EvCall.rq (a:=(fK (c:=c) (h:=h) (m:=m) (code:=0) (by first|omega|assumption|rfl) (by first|omega|assumption|rfl))) (b:=gI) (c:=?_);all_goals try simp only [go_sem,simprocAttr])|((with_reducible refine aE 39 ?_);refine EvCall.rr (kW (f:=m) (g:=m) ?_ ?_) jL ?_)|((with_reducible refine aE 40 ?_);refine EvCall.rr (sp_MapElement_loc) mF ?_)|((with_reducible refine aE 41 ?_);refine EvCall.rr (sp_HomSet_loc) uB ?_)|((with_reducible refine aE 17 ?_);refine EvCall.mr (hR) vS [(0,34)] [] ?_)|((with_reducible refine aE 19 ?_);refine EvCall.mr (hB) gP [(0,34)] [] ?_)|((with_reducible refine aE 37 ?_);refine EvCall.rr (sp_ArrowMap_five) eU ?_)|((with_reducible refine aE 37 ?_);refine EvCall.rr (sp_ArrowMap_six) eU ?_)|((with_reducible refine aE 42 ?_);refine EvCall.rr (sp_then9_loc) aDq ?_)|((with_reducible refine aE 43 ?_);refine EvCall.rr (sp_ThenSetMaps_loc) aAu ?_)|((with_reducible refine aE 39 ?_);refine EvCall.rr (kW (f:=u) (g:=u) ?_ ?_) jL ?_)|(refine fun(hc:(_:Bool)=_)=>?_;try simp only [hcS]at hc))
     all_goals try exact om_
     all_goals try(exfalso;omega)
     all_goals((first|refine aB ?_|refine aA ?_);simp only [go_sem,simprocAttr,Tryz.f6])
     all_goals exact congrArg (fun b=>Sv.v (.bool b)) (cV trivial)
    ·have i5:=hn5.in_ sc n1
     have i6:=hu6.in_ sc ⟨c0,c1⟩
     repeat'(first|(refine dM 4 (Imp.cellRd 4 4 3 _ _ _ (aF c.co) rfl (by decide) rfl rfl) ?_;simp only [go_sem,simprocAttr])|(with_reducible first|refine St.f ?_|refine V_c ?_|refine eDn ?_|refine And.intro ?_ ?_|refine aJ ?_ ?_)|((refine aV ?_);intro K hK)|((with_reducible refine So.f ?_);intro K hK;simp(contextual:=true)only [go_sem,simprocAttr])|((with_reducible refine hK _ ?_);clear hK K)|((with_reducible refine aE 12 ?_);refine EvCall.rr (rU (l:=l) ?_) nJ ?_)|((with_reducible refine aE 36 ?_);refine EvCall.mr (hD) eD [(0,0),(1,1),(2,2),(3,3)] [] ?_)|((with_reducible refine aE 37 ?_);refine EvCall.rq (a:=(fP (c:=c) (h:=h) (m:=m) (code:=0) (by first|omega|assumption|rfl) (by first|omega|assumption|rfl))) (b:=eU) (c:=?_);all_goals try simp only [go_sem,simprocAttr])|((with_reducible refine aE 38 ?_);refine EvCall.rq (a:=(fK (c:=c) (h:=h) (m:=m) (code:=0) (by first|omega|assumption|rfl) (by first|omega|assumption|rfl))) (b:=gI) (c:=?_);all_goals try simp only [go_sem,simprocAttr])|((with_reducible refine aE 39 ?_);refine EvCall.rr (kW (f:=m) (g:=m) ?_ ?_) jL ?_)|((with_reducible refine aE 40 ?_);refine EvCall.rr (sp_MapElement_loc) mF ?_)|((with_reducible refine aE 41 ?_);refine EvCall.rr (sp_HomSet_loc) uB ?_)|((with_reducible refine aE 17 ?_);refine EvCall.mr (hR) vS [(0,34)] [] ?_)|((with_reducible refine aE 19 ?_);refine EvCall.mr (hB) gP [(0,34)] [] ?_)|((with_reducible refine aE 37 ?_);refine EvCall.rr (sp_ArrowMap_five) eU ?_)|((with_reducible refine aE 37 ?_);refine EvCall.rr (sp_ArrowMap_six) eU ?_)|((with_reducible refine aE 42 ?_);refine EvCall.rr (sp_then9_loc) aDq ?_)|(refine fun(hc:(_:Bool)=_)=>?_;try simp only [hcS]at hc))
     all_goals try exact om_
     all_goals try(exfalso;omega)
     all_goals((first|refine aB ?_|refine aA ?_);simp only [go_sem,simprocAttr,Tryz.f6])
   ·repeat'(first|(refine dM 4 (Imp.cellRd 4 4 3 _ _ _ (aF c.co) rfl (by decide) rfl rfl) ?_;simp only [go_sem,simprocAttr])|(with_reducible first|refine St.f ?_|refine V_c ?_|refine eDn ?_|refine And.intro ?_ ?_|refine aJ ?_ ?_)|((refine aV ?_);intro K hK)|((with_reducible refine So.f ?_);intro K hK;simp(contextual:=true)only [go_sem,simprocAttr])|((with_reducible refine hK _ ?_);clear hK K)|((with_reducible refine aE 12 ?_);refine EvCall.rr (rU (l:=l) ?_) nJ ?_)|((with_reducible refine aE 36 ?_);refine EvCall.mr (hD) eD [(0,0),(1,1),(2,2),(3,3)] [] ?_)|((with_reducible refine aE 37 ?_);refine EvCall.rq (a:=(fP (c:=c) (h:=h) (m:=m) (code:=0) (by first|omega|assumption|rfl) (by first|omega|assumption|rfl))) (b:=eU) (c:=?_);all_goals try simp only [go_sem,simprocAttr])|((with_reducible refine aE 38 ?_);refine EvCall.rq (a:=(fK (c:=c) (h:=h) (m:=m) (code:=0) (by first|omega|assumption|rfl) (by first|omega|assumption|rfl))) (b:=gI) (c:=?_);all_goals try simp only [go_sem,simprocAttr])|((with_reducible refine aE 39 ?_);refine EvCall.rr (kW (f:=m) (g:=m) ?_ ?_) jL ?_)|((with_reducible refine aE 40 ?_);refine EvCall.rr (sp_MapElement_loc) mF ?_)|((with_reducible refine aE 41 ?_);refine EvCall.rr (sp_HomSet_loc) uB ?_)|((with_reducible refine aE 17 ?_);refine EvCall.mr (hR) vS [(0,34)] [] ?_)|((with_reducible refine aE 19 ?_);refine EvCall.mr (hB) gP [(0,34)] [] ?_)|(refine fun(hc:(_:Bool)=_)=>?_;try simp only [hcS]at hc))
    all_goals try exact om_
    all_goals try(exfalso;omega)
    all_goals((first|refine aB ?_|refine aA ?_);simp only [go_sem,simprocAttr,Tryz.f6])
  ·repeat'(first|(refine dM 4 (Imp.cellRd 4 4 3 _ _ _ (aF c.co) rfl (by decide) rfl rfl) ?_;simp only [go_sem,simprocAttr])|(with_reducible first|refine St.f ?_|refine V_c ?_|refine eDn ?_|refine And.intro ?_ ?_|refine aJ ?_ ?_)|((refine aV ?_);intro K hK)|((with_reducible refine So.f ?_);intro K hK;simp(contextual:=true)only [go_sem,simprocAttr])|((with_reducible refine hK _ ?_);clear hK K)|((with_reducible refine aE 12 ?_);refine EvCall.rr (rU (l:=l) ?_) nJ ?_)|((with_reducible refine aE 36 ?_);refine EvCall.mr (hD) eD [(0,0),(1,1),(2,2),(3,3)] [] ?_)|((with_reducible refine aE 37 ?_);refine EvCall.rq (a:=(fP (c:=c) (h:=h) (m:=m) (code:=code) (by first|omega|assumption|rfl) (by first|omega|assumption|rfl))) (b:=eU) (c:=?_);all_goals try simp only [go_sem,simprocAttr])|((with_reducible refine aE 38 ?_);refine EvCall.rq (a:=(fK (c:=c) (h:=h) (m:=m) (code:=code) (by first|omega|assumption|rfl) (by first|omega|assumption|rfl))) (b:=gI) (c:=?_);all_goals try simp only [go_sem,simprocAttr])|((with_reducible refine aE 39 ?_);refine EvCall.rr (kW (f:=m) (g:=m) ?_ ?_) jL ?_)|(refine fun(hc:(_:Bool)=_)=>?_;try simp only [hcS]at hc))
   all_goals try exact om_
   all_goals try(exfalso;omega)
   all_goals((first|refine aB ?_|refine aA ?_);simp only [go_sem,simprocAttr,Tryz.f6])
end Go.Eng
end
section
namespace Go.Proofs.YthgijhnmcglppaaGreat
open Go Go.Eng Go.Cats Go.ChangeShapes Go.WideShapes Go.RowKit
theorem Tryz.own40_:ownKnob Tryz.checked.prog.godebug=none:=by kernel_rfl
theorem Tryz.laidOut40_:laidOutB Tryz.prog=true:=by kernel_rfl
theorem tL (os:Os) (started:os.Started) (H:Type) (enc:TypeId×Value→H):
  ReturnsInHanded {} Tryz.checked os 6 .any (Rows.fnYonedaArrowsSpec.pre6 enc Tryz.prog Tryz.f6 Rows.fnYonedaArrowsRow.domain Rows.fnYonedaArrowsRow.apart) (Rows.fnYonedaArrowsSpec.post enc Tryz.prog Tryz.f6 Rows.fnYonedaArrowsRow.apart Rows.fnYonedaArrowsRow.fresh Rows.fnYonedaArrowsRow.handsOn Rows.fnYonedaArrowsRow.again):=by
 refine returnsInHanded_of_change (C:=Tryz.checked) Tryz.own40_ started (by kernel_rfl) Tryz.func6
  (ChangeSpec.witness6 (enc:=enc) (C:=Tryz.checked) false ⟨#[],#[.slice none 0 0],[]⟩ 8 (by kernel_rfl) (by kernel_rfl) (by kernel_rfl) (by kernel_rfl)) ?_
 intro W base args ds gs before hval0 hW hcnd _
 have hval:∀(j:Nat) t v,Tryz.f6.params[j]? =some t→args[j]? =some v→Value.okWide Tryz.prog W .any base t v:=hval0
 have hW':=hW
 obtain⟨p,q,hA0,hV,rfl,hfz,hnd⟩:=hW
 obtain⟨rfl,rfl⟩:=trodVars_none hV
 have hA:DataW.TrodAll enc Tryz.prog W 0 (fun _=>true) true [22] args.toList ds p:=hA0
 obtain⟨v0,d0,rfl,rfl,h0⟩:=trodAll_one hA
 obtain⟨x0,y0,z0,rfl⟩:=okWide_slice Tryz.underlying22 (hval 0 22 v0 rfl rfl)
 obtain⟨fuel0,hf0⟩:=h0
 have hg0:=hf0
 rw [show(Value.slice x0 y0 z0).cells.toList=[Value.slice x0 y0 z0] from rfl]at hf0
 obtain⟨u0,a0,hu0,ho0,hr0,hb0,hB0⟩:=aNd Tryz.underlying22 Tryz.underlying5 (by kernel_rfl) hf0
 obtain rfl:Value.slice x0 y0 z0=u0:=by simpa using hu0
 have hlt:∀y∈p,y.block<W.heap.size:=fun y hy=>hW'.lt y (by simpa using hy)
 refine(xJ (l:=a0) hb0 hB0 W (Old W) (Old W) _ [.slice x0 y0 z0] (aF5 W) ?_).mono fun ed W' ⟨v,c1,he,hp,hv,_⟩=>?_
 ·simp only [Sv.okL,Sv.ok]
  exact⟨_,_,rfl,⟨fun p hp=>(by simp at hp),ho0,fun _=>RdV.mono (fun b hb=> .inl hb) _ _ hr0⟩,rfl⟩
 ·simp only [Sv.ok]at hv
  subst hv
  subst he
  have hb:=zT hp
  refine⟨_,rfl,aGw hW' rfl rfl Tryz.underlying4 rfl hb ?_⟩
  rw [List.append_nil]
  exact trodAll_mk1 (Below.trod Tryz.laidOut40_ (by kernel_rfl) (of_decide_eq_true (by kernel_rfl)) ⟨fuel0,hg0⟩ hb (fun y hy=>hlt y (by simp [hy])))
end Go.Proofs.YthgijhnmcglppaaGreat
end
