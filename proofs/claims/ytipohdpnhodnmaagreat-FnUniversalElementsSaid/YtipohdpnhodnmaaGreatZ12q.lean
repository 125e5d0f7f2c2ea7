/- A category is drawn: the family, sums, products. -/
import Derived.Test.YtipohdpnhodnmaaGreatKcex
set_option linter.unusedSimpArgs false
set_option linter.unusedVariables false
set_option maxRecDepth 100000
set_option maxHeartbeats 32000000
namespace Go.Eng
open Go Go.Proofs Go.Cats
open Zp (dO cP)
attribute [local go_sem] List.set_cons_zero List.set_cons_succ
def oX (s:RnS):Cat×RnS:=if aK (gU s).2 5=0 then(smC (gU s).1 (gU (aL (gU s).2 5)).1,(gU (aL (gU s).2 5)).2)else((gU s).1,aL (gU s).2 5)
def kQ (s:RnS):Cat×RnS:=if aK (oX s).2 8=0 then(prC (oX s).1 (gU (aL (oX s).2 8)).1,(gU (aL (oX s).2 8)).2)else((oX s).1,aL (oX s).2 8)
def dV (o m:Int):Nat→RnS→Cat×RnS
 |0,s=>(one1,s)
 |k+1,s=>if(kQ s).1.ob≤o∧((kQ s).1.fr.length:Int)≤m then kQ s else dV o m k (kQ s).2
section
variable {s:RnS} {o m:Int}
theorem aGS (h:RnOk s):RnOk (oX s).2∧IsCat (oX s).1:=by
 obtain⟨k1,c1,_⟩:=mV h
 obtain⟨o1,l1⟩:=aDl h
 have ok:=aM (n:=5) k1
 obtain⟨k2,c2,_⟩:=mV ok
 obtain⟨o2,l2⟩:=aDl ok
 unfold oX
 split
 ·exact⟨k2,aCB c1 c2 (by omega) (by omega)⟩
 ·exact⟨ok,c1⟩
theorem aGT (h:RnOk s):RnOk (kQ s).2∧((kQ s).1.ob≤8→(kQ s).1.fr.length≤40→IsCat (kQ s).1):=by
 obtain⟨k1,c1⟩:=aGS h
 have ok:=aM (n:=8) k1
 obtain⟨k2,c2,_⟩:=mV ok
 unfold kQ
 split
 ·refine⟨k2,fun h8 h40=>aMO c1 c2 h8 ?_⟩
  have e:(prC (oX s).1 (gU (aL (oX s).2 8)).1).fr.length=(oX s).1.fr.length*(gU (aL (oX s).2 8)).1.fr.length:=rA
  simp only at h40
  omega
 ·exact⟨ok,fun _ _=>c1⟩
theorem xK (ho:o≤8) (hm:m≤40) (ho1:1≤o) (hm1:1≤m):∀(k:Nat) (s:RnS),RnOk s→RnOk (dV o m k s).2∧IsCat (dV o m k s).1∧(dV o m k s).1.ob≤o∧((dV o m k s).1.fr.length:Int)≤m
 |0,s,h=>⟨h,po1.cat,ho1,hm1⟩
 |k+1,s,h=>by
  obtain⟨k1,c1⟩:=aGT h
  unfold dV
  split
  ·rename_i q
   exact⟨k1,c1 (by omega) (by omega),q.1,q.2⟩
  ·exact xK ho hm ho1 hm1 k _ k1
theorem sP {k:Nat} (h:(kQ s).1.ob≤o∧((kQ s).1.fr.length:Int)≤m):dV o m (k+1) s=kQ s:=by rw [dV,if_pos h]
theorem lJ {k:Nat} (h:¬((kQ s).1.ob≤o∧((kQ s).1.fr.length:Int)≤m)):dV o m (k+1) s=dV o m k (kQ s).2:=by rw [dV,if_neg h]
end
theorem uX:aF Tryz.prog 178:=⟨_,Tryz.func178,rfl,rfl⟩
theorem aFz {s:RnS} {o m:Int} (hs:RnOk s) (ho:o≤8) (hm:m≤40):Spec Tryz.prog 178 [.ptr 0 0,iv o,iv m] [(0,bB s)] (.agg [iv (dV o m 12 s).1.ob, .sl 1, .sl 2, .sl 3, .sl 4]) [(0,bB (dV o m 12 s).2),(1,⟨1, .arr (ints (dV o m 12 s).1.fr)⟩),(2,⟨1, .arr (ints (dV o m 12 s).1.to)⟩),(3,⟨1, .arr (ints (dV o m 12 s).1.id)⟩),(4,⟨1, .arr (aC (dV o m 12 s).1.co)⟩)]:=by
 obtain⟨F,hF⟩:∃F,dV o m 12 s=F:=⟨_,rfl⟩
 rw [hF]
 have hone:Spec Tryz.prog 235 [.bor [] (aC [[1]])] [] (.agg [iv one1.ob, .sl 0, .sl 1, .sl 2, .sl 3]) [(0,⟨1, .arr (ints one1.fr)⟩),(1,⟨1, .arr (ints one1.to)⟩),(2,⟨1, .arr (ints one1.id)⟩),(3,⟨1, .arr (aC one1.co)⟩)]:=cM po1 rfl (by decide)
 refine aD (E:=TE) 1 Tryz.func178 rfl (by simp [Tryz.f178]) fun X hn hX=>?_
 repeat'(first|refine wkQ ?_|refine Tw.f ?_ ?_|(refine fun(hc:(_:Bool)=_)=>?_;try simp only [hcS]at hc))
 all_goals try exact om_
 refine aG (G:={p:Nat×RnS//p.1≤12∧RnOk p.2∧dV o m (12-p.1) p.2=F}) (fun p=>[(7,iv p.1.1),(0, .ptr 0 0),(1,iv o),(2,iv m),(6, .ptr 1 0)]) [] (fun p=>[(0,bB p.1.2)]) [0] (fun p=>12-p.1.1) ⟨(0,s),by simp,hs,hF⟩ ?_ ?_
 ·exact Imp.au hX
 rintro⟨⟨k,t⟩,hk,hk2,hk3⟩
 simp only at hk hk2 hk3
 simp only [go_sem,simprocAttr]
 rcases Nat.lt_or_ge k 12 with hlt|hge
 ·rw [show 12-k=(12-(k+1))+1 by omega]at hk3
  obtain⟨ka,ca,_⟩:=mV hk2
  have hA:=jK hk2
  obtain⟨kT,_⟩:=aGT hk2
  obtain⟨kA,cA⟩:=aGS hk2
  obtain⟨a,ta,hfa⟩:∃a ta,gU t=(a,ta):=⟨_,_,rfl⟩
  rw [hfa]at ka ca hA
  simp only at ka ca hA
  have hB:=aP (n:=5) ka
  have kb:=aM (n:=5) ka
  by_cases h5:aK ta 5=0
  ·have hC:=jK kb
   obtain⟨kc,cc,_⟩:=mV kb
   obtain⟨b,tb,hfb⟩:∃a tc,gU (aL ta 5)=(a,tc):=⟨_,_,rfl⟩
   rw [hfb]at kc cc hC
   simp only at kc cc hC
   have hS:=aBI ca.toShape cc.toShape
   have eA:oX t=(smC a b,tb):=by unfold oX;rw [hfa];simp only [h5,if_true,hfb]
   rw [eA]at kA cA
   simp only at kA cA
   rw [h5]at hB
   obtain⟨g,hg⟩:∃g,smC a b=g:=⟨_,rfl⟩
   rw [hg]at hS cA eA
   clear hg
   have hD:=aP (n:=8) kA
   have kd:=aM (n:=8) kA
   by_cases h8:aK tb 8=0
   ·have hE:=jK kd
    obtain⟨ke,ce,_⟩:=mV kd
    obtain⟨e,te,hfe⟩:∃a tc,gU (aL tb 8)=(a,tc):=⟨_,_,rfl⟩
    rw [hfe]at ke ce hE
    simp only at ke ce hE
    have hP:=Zp.sp_l03Product cA.toShape ce.toShape
    have eT:kQ t=(prC g e,te):=by unfold kQ;rw [eA];simp only [h8,if_true,hfe]
    rw [eT]at kT
    simp only at kT
    rw [h8]at hD
    obtain⟨v,hv⟩:∃g',prC g e=g':=⟨_,rfl⟩
    rw [hv]at hP eT
    clear hv
    by_cases f1:(v).ob≤o
    ·by_cases f2:((v).fr.length:Int)≤m
     ·rw [sP (by rw [eT];exact⟨f1,f2⟩),eT]at hk3
      have hf:=Zp.sp_l02Fits (c:=v) (by omega)
      rw [lE (show(v).ob≤8∧(v).fr.length≤40 by omega)]at hf
      subst hk3
      repeat'(first|refine wkQ ?_|refine Tw.f ?_ ?_|(refine knQ 2 ?_;refine kcQ aS ?_;refine kwQ (hA) [(0,0),(1,2),(2,3),(3,4),(4,5)] [] ?_)|((with_reducible refine kaQ [.ptr 0 0,iv 5] ?_);refine kcQ aH ?_;refine kwQ (hB) [(0,0)] [] ?_)|(refine knQ 7 ?_;refine kcQ aS ?_;refine kwQ (hC) [(0,0),(1,7),(2,8),(3,9),(4,10)] [] ?_)|(refine kcQ fR ?_;refine kwQ (hS) [(0,11),(1,12),(2,13),(3,14)] [2,3,4,5,7,8,9,10] ?_)|((with_reducible refine kaQ [.ptr 0 0,iv 8] ?_);refine kcQ aH ?_;refine kwQ (hD) [(0,0)] [] ?_)|(refine knQ 15 ?_;refine kcQ aS ?_;refine kwQ (hE) [(0,0),(1,15),(2,16),(3,17),(4,18)] [] ?_)|(refine kcQ cP ?_;refine kwQ (hP) [(0,19),(1,20),(2,21),(3,22)] [11,12,13,14,15,16,17,18] ?_)|(refine kcQ dO ?_;refine kwQ (hf) [] [19,20,21,22] ?_)|(refine fun(hc:(_:Bool)=_)=>?_;try simp only [hcS]at hc))
      all_goals try exact om_
      all_goals try(exfalso;omega)
      (first|refine aB ?_|refine aA ?_);simp only [go_sem,simprocAttr,Tryz.f178]
     ·rw [lJ (by rw [eT];exact fun q=>f2 q.2),eT]at hk3
      repeat'(first|refine wkQ ?_|refine Tw.f ?_ ?_|(refine knQ 2 ?_;refine kcQ aS ?_;refine kwQ (hA) [(0,0),(1,2),(2,3),(3,4),(4,5)] [] ?_)|((with_reducible refine kaQ [.ptr 0 0,iv 5] ?_);refine kcQ aH ?_;refine kwQ (hB) [(0,0)] [] ?_)|(refine knQ 7 ?_;refine kcQ aS ?_;refine kwQ (hC) [(0,0),(1,7),(2,8),(3,9),(4,10)] [] ?_)|(refine kcQ fR ?_;refine kwQ (hS) [(0,11),(1,12),(2,13),(3,14)] [2,3,4,5,7,8,9,10] ?_)|((with_reducible refine kaQ [.ptr 0 0,iv 8] ?_);refine kcQ aH ?_;refine kwQ (hD) [(0,0)] [] ?_)|(refine knQ 15 ?_;refine kcQ aS ?_;refine kwQ (hE) [(0,0),(1,15),(2,16),(3,17),(4,18)] [] ?_)|(refine kcQ cP ?_;refine kwQ (hP) [(0,19),(1,20),(2,21),(3,22)] [11,12,13,14,15,16,17,18] ?_)|(refine fun(hc:(_:Bool)=_)=>?_;try simp only [hcS]at hc))
      all_goals try exact om_
      all_goals try(exfalso;omega)
      exact⟨⟨(k+1,te),by simp only;omega,kT,hk3⟩,by simp only;omega,Imp.au hX⟩
    ·rw [lJ (by rw [eT];exact fun q=>f1 q.1),eT]at hk3
     repeat'(first|refine wkQ ?_|refine Tw.f ?_ ?_|(refine knQ 2 ?_;refine kcQ aS ?_;refine kwQ (hA) [(0,0),(1,2),(2,3),(3,4),(4,5)] [] ?_)|((with_reducible refine kaQ [.ptr 0 0,iv 5] ?_);refine kcQ aH ?_;refine kwQ (hB) [(0,0)] [] ?_)|(refine knQ 7 ?_;refine kcQ aS ?_;refine kwQ (hC) [(0,0),(1,7),(2,8),(3,9),(4,10)] [] ?_)|(refine kcQ fR ?_;refine kwQ (hS) [(0,11),(1,12),(2,13),(3,14)] [2,3,4,5,7,8,9,10] ?_)|((with_reducible refine kaQ [.ptr 0 0,iv 8] ?_);refine kcQ aH ?_;refine kwQ (hD) [(0,0)] [] ?_)|(refine knQ 15 ?_;refine kcQ aS ?_;refine kwQ (hE) [(0,0),(1,15),(2,16),(3,17),(4,18)] [] ?_)|(refine kcQ cP ?_;refine kwQ (hP) [(0,19),(1,20),(2,21),(3,22)] [11,12,13,14,15,16,17,18] ?_)|(refine fun(hc:(_:Bool)=_)=>?_;try simp only [hcS]at hc))
     all_goals try exact om_
     all_goals try(exfalso;omega)
     exact⟨⟨(k+1,te),by simp only;omega,kT,hk3⟩,by simp only;omega,Imp.au hX⟩
   ·have eT:kQ t=(g,aL tb 8):=by unfold kQ;rw [eA];simp only [h8,if_false]
    rw [eT]at kT
    simp only at kT
    by_cases f1:(g).ob≤o
    ·by_cases f2:((g).fr.length:Int)≤m
     ·rw [sP (by rw [eT];exact⟨f1,f2⟩),eT]at hk3
      have hf:=Zp.sp_l02Fits (c:=g) (by omega)
      rw [lE (show(g).ob≤8∧(g).fr.length≤40 by omega)]at hf
      subst hk3
      repeat'(first|refine wkQ ?_|refine Tw.f ?_ ?_|(refine knQ 2 ?_;refine kcQ aS ?_;refine kwQ (hA) [(0,0),(1,2),(2,3),(3,4),(4,5)] [] ?_)|((with_reducible refine kaQ [.ptr 0 0,iv 5] ?_);refine kcQ aH ?_;refine kwQ (hB) [(0,0)] [] ?_)|(refine knQ 7 ?_;refine kcQ aS ?_;refine kwQ (hC) [(0,0),(1,7),(2,8),(3,9),(4,10)] [] ?_)|(refine kcQ fR ?_;refine kwQ (hS) [(0,11),(1,12),(2,13),(3,14)] [2,3,4,5,7,8,9,10] ?_)|((with_reducible refine kaQ [.ptr 0 0,iv 8] ?_);refine kcQ aH ?_;refine kwQ (hD) [(0,0)] [] ?_)|(refine kcQ dO ?_;refine kwQ (hf) [] [11,12,13,14] ?_)|(refine fun(hc:(_:Bool)=_)=>?_;try simp only [hcS]at hc))
      all_goals try exact om_
      all_goals try(exfalso;omega)
      (first|refine aB ?_|refine aA ?_);simp only [go_sem,simprocAttr,Tryz.f178]
     ·rw [lJ (by rw [eT];exact fun q=>f2 q.2),eT]at hk3
      repeat'(first|refine wkQ ?_|refine Tw.f ?_ ?_|(refine knQ 2 ?_;refine kcQ aS ?_;refine kwQ (hA) [(0,0),(1,2),(2,3),(3,4),(4,5)] [] ?_)|((with_reducible refine kaQ [.ptr 0 0,iv 5] ?_);refine kcQ aH ?_;refine kwQ (hB) [(0,0)] [] ?_)|(refine knQ 7 ?_;refine kcQ aS ?_;refine kwQ (hC) [(0,0),(1,7),(2,8),(3,9),(4,10)] [] ?_)|(refine kcQ fR ?_;refine kwQ (hS) [(0,11),(1,12),(2,13),(3,14)] [2,3,4,5,7,8,9,10] ?_)|((with_reducible refine kaQ [.ptr 0 0,iv 8] ?_);refine kcQ aH ?_;refine kwQ (hD) [(0,0)] [] ?_)|(refine fun(hc:(_:Bool)=_)=>?_;try simp only [hcS]at hc))
      all_goals try exact om_
      all_goals try(exfalso;omega)
      exact⟨⟨(k+1,aL tb 8),by simp only;omega,kT,hk3⟩,by simp only;omega,Imp.au hX⟩
    ·rw [lJ (by rw [eT];exact fun q=>f1 q.1),eT]at hk3
     repeat'(first|refine wkQ ?_|refine Tw.f ?_ ?_|(refine knQ 2 ?_;refine kcQ aS ?_;refine kwQ (hA) [(0,0),(1,2),(2,3),(3,4),(4,5)] [] ?_)|((with_reducible refine kaQ [.ptr 0 0,iv 5] ?_);refine kcQ aH ?_;refine kwQ (hB) [(0,0)] [] ?_)|(refine knQ 7 ?_;refine kcQ aS ?_;refine kwQ (hC) [(0,0),(1,7),(2,8),(3,9),(4,10)] [] ?_)|(refine kcQ fR ?_;refine kwQ (hS) [(0,11),(1,12),(2,13),(3,14)] [2,3,4,5,7,8,9,10] ?_)|((with_reducible refine kaQ [.ptr 0 0,iv 8] ?_);refine kcQ aH ?_;refine kwQ (hD) [(0,0)] [] ?_)|(refine fun(hc:(_:Bool)=_)=>?_;try simp only [hcS]at hc))
     all_goals try exact om_
     all_goals try(exfalso;omega)
     exact⟨⟨(k+1,aL tb 8),by simp only;omega,kT,hk3⟩,by simp only;omega,Imp.au hX⟩
  ·have eA:oX t=(a,aL ta 5):=by unfold oX;rw [hfa];simp only [h5,if_false]
   have kA:=kb
   have hD:=aP (n:=8) kA
   have kd:=aM (n:=8) kA
   by_cases h8:aK (aL ta 5) 8=0
   ·have hE:=jK kd
    obtain⟨ke,ce,_⟩:=mV kd
    obtain⟨e,te,hfe⟩:∃a tc,gU (aL (aL ta 5) 8)=(a,tc):=⟨_,_,rfl⟩
    rw [hfe]at ke ce hE
    simp only at ke ce hE
    have hP:=Zp.sp_l03Product ca.toShape ce.toShape
    have eT:kQ t=(prC a e,te):=by unfold kQ;rw [eA];simp only [h8,if_true,hfe]
    rw [eT]at kT
    simp only at kT
    rw [h8]at hD
    obtain⟨v,hv⟩:∃g',prC a e=g':=⟨_,rfl⟩
    rw [hv]at hP eT
    clear hv
    by_cases f1:(v).ob≤o
    ·by_cases f2:((v).fr.length:Int)≤m
     ·rw [sP (by rw [eT];exact⟨f1,f2⟩),eT]at hk3
      have hf:=Zp.sp_l02Fits (c:=v) (by omega)
      rw [lE (show(v).ob≤8∧(v).fr.length≤40 by omega)]at hf
      subst hk3
      repeat'(first|(exact absurd (by assumption) h5)|(with_reducible first|refine St.f ?_|refine V_c ?_|refine eDn ?_|refine And.intro ?_ ?_|refine aI ?_ ?_|refine aN ?_)|((refine aQ ?_);intro K hK)|((with_reducible refine So.f ?_);intro K hK;simp(contextual:=true)only [go_sem,simprocAttr])|((with_reducible refine hK _ ?_);clear hK K)|((refine(id ?_:EvCall _ _ _ (⟨_,_,2⟩:Ss) _));refine EvCall.mr (hA) aS [(0,0),(1,2),(2,3),(3,4),(4,5)] [] ?_)|((with_reducible refine(id ?_:EvCall _ _ [.ptr 0 0,iv 5] _ _));refine EvCall.mr (hB) aH [(0,0)] [] ?_)|((with_reducible refine(id ?_:EvCall _ _ [.ptr 0 0,iv 8] _ _));refine EvCall.mr (hD) aH [(0,0)] [] ?_)|((refine(id ?_:EvCall _ _ _ (⟨_,_,7⟩:Ss) _));refine EvCall.mr (hE) aS [(0,0),(1,7),(2,8),(3,9),(4,10)] [] ?_)|((with_reducible refine aE 233 ?_);refine EvCall.mr (hP) cP [(0,11),(1,12),(2,13),(3,14)] [2,3,4,5,7,8,9,10] ?_)|((with_reducible refine aE 234 ?_);refine EvCall.mr (hf) dO [] [11,12,13,14] ?_)|(refine fun(hc:(_:Bool)=_)=>?_;try simp only [hcS]at hc))
      all_goals try exact om_
      all_goals try(exfalso;omega)
      (first|refine aB ?_|refine aA ?_);simp only [go_sem,simprocAttr,Tryz.f178]
     ·rw [lJ (by rw [eT];exact fun q=>f2 q.2),eT]at hk3
      repeat'(first|(exact absurd (by assumption) h5)|(with_reducible first|refine St.f ?_|refine V_c ?_|refine eDn ?_|refine And.intro ?_ ?_|refine aI ?_ ?_|refine aN ?_)|((refine aQ ?_);intro K hK)|((with_reducible refine So.f ?_);intro K hK;simp(contextual:=true)only [go_sem,simprocAttr])|((with_reducible refine hK _ ?_);clear hK K)|((refine(id ?_:EvCall _ _ _ (⟨_,_,2⟩:Ss) _));refine EvCall.mr (hA) aS [(0,0),(1,2),(2,3),(3,4),(4,5)] [] ?_)|((with_reducible refine(id ?_:EvCall _ _ [.ptr 0 0,iv 5] _ _));refine EvCall.mr (hB) aH [(0,0)] [] ?_)|((with_reducible refine(id ?_:EvCall _ _ [.ptr 0 0,iv 8] _ _));refine EvCall.mr (hD) aH [(0,0)] [] ?_)|((refine(id ?_:EvCall _ _ _ (⟨_,_,7⟩:Ss) _));refine EvCall.mr (hE) aS [(0,0),(1,7),(2,8),(3,9),(4,10)] [] ?_)|((with_reducible refine aE 233 ?_);refine EvCall.mr (hP) cP [(0,11),(1,12),(2,13),(3,14)] [2,3,4,5,7,8,9,10] ?_)|(refine fun(hc:(_:Bool)=_)=>?_;try simp only [hcS]at hc))
      all_goals try exact om_
      all_goals try(exfalso;omega)
      exact⟨⟨(k+1,te),by simp only;omega,kT,hk3⟩,by simp only;omega,Imp.au hX⟩
    ·rw [lJ (by rw [eT];exact fun q=>f1 q.1),eT]at hk3
     repeat'(first|(exact absurd (by assumption) h5)|(with_reducible first|refine St.f ?_|refine V_c ?_|refine eDn ?_|refine And.intro ?_ ?_|refine aI ?_ ?_|refine aN ?_)|((refine aQ ?_);intro K hK)|((with_reducible refine So.f ?_);intro K hK;simp(contextual:=true)only [go_sem,simprocAttr])|((with_reducible refine hK _ ?_);clear hK K)|((refine(id ?_:EvCall _ _ _ (⟨_,_,2⟩:Ss) _));refine EvCall.mr (hA) aS [(0,0),(1,2),(2,3),(3,4),(4,5)] [] ?_)|((with_reducible refine(id ?_:EvCall _ _ [.ptr 0 0,iv 5] _ _));refine EvCall.mr (hB) aH [(0,0)] [] ?_)|((with_reducible refine(id ?_:EvCall _ _ [.ptr 0 0,iv 8] _ _));refine EvCall.mr (hD) aH [(0,0)] [] ?_)|((refine(id ?_:EvCall _ _ _ (⟨_,_,7⟩:Ss) _));refine EvCall.mr (hE) aS [(0,0),(1,7),(2,8),(3,9),(4,10)] [] ?_)|((with_reducible refine aE 233 ?_);refine EvCall.mr (hP) cP [(0,11),(1,12),(2,13),(3,14)] [2,3,4,5,7,8,9,10] ?_)|(refine fun(hc:(_:Bool)=_)=>?_;try simp only [hcS]at hc))
     all_goals try exact om_
     all_goals try(exfalso;omega)
     exact⟨⟨(k+1,te),by simp only;omega,kT,hk3⟩,by simp only;omega,Imp.au hX⟩
   ·have eT:kQ t=(a,aL (aL ta 5) 8):=by unfold kQ;rw [eA];simp only [h8,if_false]
    rw [eT]at kT
    simp only at kT
    by_cases f1:(a).ob≤o
    ·by_cases f2:((a).fr.length:Int)≤m
     ·rw [sP (by rw [eT];exact⟨f1,f2⟩),eT]at hk3
      have hf:=Zp.sp_l02Fits (c:=a) (by omega)
      rw [lE (show(a).ob≤8∧(a).fr.length≤40 by omega)]at hf
      subst hk3
      repeat'(first|refine wkQ ?_|refine Tw.f ?_ ?_|(refine knQ 2 ?_;refine kcQ aS ?_;refine kwQ (hA) [(0,0),(1,2),(2,3),(3,4),(4,5)] [] ?_)|((with_reducible refine kaQ [.ptr 0 0,iv 5] ?_);refine kcQ aH ?_;refine kwQ (hB) [(0,0)] [] ?_)|((with_reducible refine kaQ [.ptr 0 0,iv 8] ?_);refine kcQ aH ?_;refine kwQ (hD) [(0,0)] [] ?_)|(refine kcQ dO ?_;refine kwQ (hf) [] [2,3,4,5] ?_)|(refine fun(hc:(_:Bool)=_)=>?_;try simp only [hcS]at hc))
      all_goals try exact om_
      all_goals try(exfalso;omega)
      (first|refine aB ?_|refine aA ?_);simp only [go_sem,simprocAttr,Tryz.f178]
     ·rw [lJ (by rw [eT];exact fun q=>f2 q.2),eT]at hk3
      repeat'(first|refine wkQ ?_|refine Tw.f ?_ ?_|(refine knQ 2 ?_;refine kcQ aS ?_;refine kwQ (hA) [(0,0),(1,2),(2,3),(3,4),(4,5)] [] ?_)|((with_reducible refine kaQ [.ptr 0 0,iv 5] ?_);refine kcQ aH ?_;refine kwQ (hB) [(0,0)] [] ?_)|((with_reducible refine kaQ [.ptr 0 0,iv 8] ?_);refine kcQ aH ?_;refine kwQ (hD) [(0,0)] [] ?_)|(refine fun(hc:(_:Bool)=_)=>?_;try simp only [hcS]at hc))
      all_goals try exact om_
      all_goals try(exfalso;omega)
      exact⟨⟨(k+1,aL (aL ta 5) 8),by simp only;omega,kT,hk3⟩,by simp only;omega,Imp.au hX⟩
    ·rw [lJ (by rw [eT];exact fun q=>f1 q.1),eT]at hk3
     repeat'(first|refine wkQ ?_|refine Tw.f ?_ ?_|(refine knQ 2 ?_;refine kcQ aS ?_;refine kwQ (hA) [(0,0),(1,2),(2,3),(3,4),(4,5)] [] ?_)|((with_reducible refine kaQ [.ptr 0 0,iv 5] ?_);refine kcQ aH ?_;refine kwQ (hB) [(0,0)] [] ?_)|((with_reducible refine kaQ [.ptr 0 0,iv 8] ?_);refine kcQ aH ?_;refine kwQ (hD) [(0,0)] [] ?_)|(refine fun(hc:(_:Bool)=_)=>?_;try simp only [hcS]at hc))
     all_goals try exact om_
     all_goals try(exfalso;omega)
     exact⟨⟨(k+1,aL (aL ta 5) 8),by simp only;omega,kT,hk3⟩,by simp only;omega,Imp.au hX⟩
 ·obtain rfl:k=12:=by omega
  have hk4:(one1,t)=F:=hk3
  subst hk4
  repeat'(first|refine wkQ ?_|refine Tw.f ?_ ?_|(refine kcQ bU ?_;refine kwQ (hone) [(0,4),(1,5),(2,6),(3,7)] [3] ?_)|(refine fun(hc:(_:Bool)=_)=>?_;try simp only [hcS]at hc))
  all_goals try exact om_
  all_goals try(exfalso;omega)
  (first|refine aB ?_|refine aA ?_);simp only [go_sem,simprocAttr,Tryz.f178]
end Go.Eng
