/- A category is drawn: the family, sums, products. -/
import Derived.Test.YthgijhnmcglppaaGreatKcex
set_option linter.unusedSimpArgs false
set_option linter.unusedVariables false
set_option maxRecDepth 100000
set_option maxHeartbeats 32000000
namespace Go.Eng
open Go Go.Proofs Go.Cats
open Zp (fR dW)
attribute [local go_sem] List.set_cons_zero List.set_cons_succ
def sO (s:RnS):Cat×RnS:=if aK (jX s).2 5=0 then(smC (jX s).1 (jX (aL (jX s).2 5)).1,(jX (aL (jX s).2 5)).2)else((jX s).1,aL (jX s).2 5)
def nA (s:RnS):Cat×RnS:=if aK (sO s).2 8=0 then(prC (sO s).1 (jX (aL (sO s).2 8)).1,(jX (aL (sO s).2 8)).2)else((sO s).1,aL (sO s).2 8)
def jE (o m:Int):Nat→RnS→Cat×RnS
 |0,s=>(one1,s)
 |k+1,s=>if(nA s).1.ob≤o∧((nA s).1.fr.length:Int)≤m then nA s else jE o m k (nA s).2
section
variable {s:RnS} {o m:Int}
theorem aJC (h:RnOk s):RnOk (sO s).2∧IsCat (sO s).1:=by
 obtain⟨k1,c1,_⟩:=pI h
 obtain⟨o1,l1⟩:=aFT h
 have ok:=aR (n:=5) k1
 obtain⟨k2,c2,_⟩:=pI ok
 obtain⟨o2,l2⟩:=aFT ok
 unfold sO
 split
 ·exact⟨k2,aEZ c1 c2 (by omega) (by omega)⟩
 ·exact⟨ok,c1⟩
theorem aJD (h:RnOk s):RnOk (nA s).2∧((nA s).1.ob≤8→(nA s).1.fr.length≤40→IsCat (nA s).1):=by
 obtain⟨k1,c1⟩:=aJC h
 have ok:=aR (n:=8) k1
 obtain⟨k2,c2,_⟩:=pI ok
 unfold nA
 split
 ·refine⟨k2,fun h8 h40=>aO8 c1 c2 h8 ?_⟩
  have e:(prC (sO s).1 (jX (aL (sO s).2 8)).1).fr.length=(sO s).1.fr.length*(jX (aL (sO s).2 8)).1.fr.length:=uU
  simp only at h40
  omega
 ·exact⟨ok,fun _ _=>c1⟩
theorem aE3 (ho:o≤8) (hm:m≤40) (ho1:1≤o) (hm1:1≤m):∀(k:Nat) (s:RnS),RnOk s→RnOk (jE o m k s).2∧IsCat (jE o m k s).1∧(jE o m k s).1.ob≤o∧((jE o m k s).1.fr.length:Int)≤m
 |0,s,h=>⟨h,po1.cat,ho1,hm1⟩
 |k+1,s,h=>by
  obtain⟨k1,c1⟩:=aJD h
  unfold jE
  split
  ·rename_i q
   exact⟨k1,c1 (by omega) (by omega),q.1,q.2⟩
  ·exact aE3 ho hm ho1 hm1 k _ k1
theorem xH {k:Nat} (h:(nA s).1.ob≤o∧((nA s).1.fr.length:Int)≤m):jE o m (k+1) s=nA s:=by rw [jE,if_pos h]
theorem nP {k:Nat} (h:¬((nA s).1.ob≤o∧((nA s).1.fr.length:Int)≤m)):jE o m (k+1) s=jE o m k (nA s).2:=by rw [jE,if_neg h]
end
theorem zZ:aD Tryz.prog 175:=⟨_,Tryz.func175,rfl,rfl⟩
theorem aH7 {s:RnS} {o m:Int} (hs:RnOk s) (ho:o≤8) (hm:m≤40):Spec Tryz.prog 175 [.ptr 0 0,iv o,iv m] [(0,bQ s)] (.agg [iv (jE o m 12 s).1.ob, .sl 1, .sl 2, .sl 3, .sl 4]) [(0,bQ (jE o m 12 s).2),(1,⟨1, .arr (ints (jE o m 12 s).1.fr)⟩),(2,⟨1, .arr (ints (jE o m 12 s).1.to)⟩),(3,⟨1, .arr (ints (jE o m 12 s).1.id)⟩),(4,⟨1, .arr (aF (jE o m 12 s).1.co)⟩)]:=by
 obtain⟨F,hF⟩:∃F,jE o m 12 s=F:=⟨_,rfl⟩
 rw [hF]
 have hone:Spec Tryz.prog 176 [.bor [] (aF [[1]])] [] (.agg [iv one1.ob, .sl 0, .sl 1, .sl 2, .sl 3]) [(0,⟨1, .arr (ints one1.fr)⟩),(1,⟨1, .arr (ints one1.to)⟩),(2,⟨1, .arr (ints one1.id)⟩),(3,⟨1, .arr (aF one1.co)⟩)]:=dU po1 rfl (by decide)
 refine aC (E:=TE) 1 Tryz.func175 rfl (by simp [Tryz.f175]) fun X hn hX=>?_
 repeat'(first|refine wkQ ?_|refine Tw.f ?_ ?_|(refine fun(hc:(_:Bool)=_)=>?_;try simp only [hcS]at hc))
 all_goals try exact om_
 refine aG (G:={p:Nat×RnS//p.1≤12∧RnOk p.2∧jE o m (12-p.1) p.2=F}) (fun p=>[(7,iv p.1.1),(0, .ptr 0 0),(1,iv o),(2,iv m),(6, .ptr 1 0)]) [] (fun p=>[(0,bQ p.1.2)]) [0] (fun p=>12-p.1.1) ⟨(0,s),by simp,hs,hF⟩ ?_ ?_
 ·exact Imp.au hX
 rintro⟨⟨k,t⟩,hk,hk2,hk3⟩
 simp only at hk hk2 hk3
 simp only [go_sem,simprocAttr]
 rcases Nat.lt_or_ge k 12 with hlt|hge
 ·rw [show 12-k=(12-(k+1))+1 by omega]at hk3
  obtain⟨ka,ca,_⟩:=pI hk2
  have hA:=lQ hk2
  obtain⟨kT,_⟩:=aJD hk2
  obtain⟨kA,cA⟩:=aJC hk2
  obtain⟨a,ta,hfa⟩:∃a ta,jX t=(a,ta):=⟨_,_,rfl⟩
  rw [hfa]at ka ca hA
  simp only at ka ca hA
  have hB:=bA (n:=5) ka
  have kb:=aR (n:=5) ka
  by_cases h5:aK ta 5=0
  ·have hC:=lQ kb
   obtain⟨kc,cc,_⟩:=pI kb
   obtain⟨b,tb,hfb⟩:∃a tc,jX (aL ta 5)=(a,tc):=⟨_,_,rfl⟩
   rw [hfb]at kc cc hC
   simp only at kc cc hC
   have hS:=aEf ca.toShape cc.toShape
   have eA:sO t=(smC a b,tb):=by unfold sO;rw [hfa];simp only [h5,if_true,hfb]
   rw [eA]at kA cA
   simp only at kA cA
   rw [h5]at hB
   obtain⟨g,hg⟩:∃g,smC a b=g:=⟨_,rfl⟩
   rw [hg]at hS cA eA
   clear hg
   have hD:=bA (n:=8) kA
   have kd:=aR (n:=8) kA
   by_cases h8:aK tb 8=0
   ·have hE:=lQ kd
    obtain⟨ke,ce,_⟩:=pI kd
    obtain⟨e,te,hfe⟩:∃a tc,jX (aL tb 8)=(a,tc):=⟨_,_,rfl⟩
    rw [hfe]at ke ce hE
    simp only at ke ce hE
    have hP:=Zp.sp_l03Product cA.toShape ce.toShape
    have eT:nA t=(prC g e,te):=by unfold nA;rw [eA];simp only [h8,if_true,hfe]
    rw [eT]at kT
    simp only at kT
    rw [h8]at hD
    obtain⟨v,hv⟩:∃g',prC g e=g':=⟨_,rfl⟩
    rw [hv]at hP eT
    clear hv
    by_cases f1:(v).ob≤o
    ·by_cases f2:((v).fr.length:Int)≤m
     ·rw [xH (by rw [eT];exact⟨f1,f2⟩),eT]at hk3
      have hf:=Zp.sp_l02Fits (c:=v) (by omega)
      rw [cV (show(v).ob≤8∧(v).fr.length≤40 by omega)]at hf
      subst hk3
      repeat'(first|refine wkQ ?_|refine Tw.f ?_ ?_|(refine knQ 2 ?_;refine kcQ aT ?_;refine kwQ (hA) [(0,0),(1,2),(2,3),(3,4),(4,5)] [] ?_)|((with_reducible refine kaQ [.ptr 0 0,iv 5] ?_);refine kcQ aH ?_;refine kwQ (hB) [(0,0)] [] ?_)|(refine knQ 7 ?_;refine kcQ aT ?_;refine kwQ (hC) [(0,0),(1,7),(2,8),(3,9),(4,10)] [] ?_)|(refine kcQ iL ?_;refine kwQ (hS) [(0,11),(1,12),(2,13),(3,14)] [2,3,4,5,7,8,9,10] ?_)|((with_reducible refine kaQ [.ptr 0 0,iv 8] ?_);refine kcQ aH ?_;refine kwQ (hD) [(0,0)] [] ?_)|(refine knQ 15 ?_;refine kcQ aT ?_;refine kwQ (hE) [(0,0),(1,15),(2,16),(3,17),(4,18)] [] ?_)|(refine kcQ dW ?_;refine kwQ (hP) [(0,19),(1,20),(2,21),(3,22)] [11,12,13,14,15,16,17,18] ?_)|(refine kcQ fR ?_;refine kwQ (hf) [] [19,20,21,22] ?_)|(refine fun(hc:(_:Bool)=_)=>?_;try simp only [hcS]at hc))
      all_goals try exact om_
      all_goals try(exfalso;omega)
      (first|refine aB ?_|refine aA ?_);simp only [go_sem,simprocAttr,Tryz.f175]
     ·rw [nP (by rw [eT];exact fun q=>f2 q.2),eT]at hk3
      repeat'(first|refine wkQ ?_|refine Tw.f ?_ ?_|(refine knQ 2 ?_;refine kcQ aT ?_;refine kwQ (hA) [(0,0),(1,2),(2,3),(3,4),(4,5)] [] ?_)|((with_reducible refine kaQ [.ptr 0 0,iv 5] ?_);refine kcQ aH ?_;refine kwQ (hB) [(0,0)] [] ?_)|(refine knQ 7 ?_;refine kcQ aT ?_;refine kwQ (hC) [(0,0),(1,7),(2,8),(3,9),(4,10)] [] ?_)|(refine kcQ iL ?_;refine kwQ (hS) [(0,11),(1,12),(2,13),(3,14)] [2,3,4,5,7,8,9,10] ?_)|((with_reducible refine kaQ [.ptr 0 0,iv 8] ?_);refine kcQ aH ?_;refine kwQ (hD) [(0,0)] [] ?_)|(refine knQ 15 ?_;refine kcQ aT ?_;refine kwQ (hE) [(0,0),(1,15),(2,16),(3,17),(4,18)] [] ?_)|(refine kcQ dW ?_;refine kwQ (hP) [(0,19),(1,20),(2,21),(3,22)] [11,12,13,14,15,16,17,18] ?_)|(refine fun(hc:(_:Bool)=_)=>?_;try simp only [hcS]at hc))
      all_goals try exact om_
      all_goals try(exfalso;omega)
      exact⟨⟨(k+1,te),by simp only;omega,kT,hk3⟩,by simp only;omega,Imp.au hX⟩
    ·rw [nP (by rw [eT];exact fun q=>f1 q.1),eT]at hk3
     repeat'(first|refine wkQ ?_|refine Tw.f ?_ ?_|(refine knQ 2 ?_;refine kcQ aT ?_;refine kwQ (hA) [(0,0),(1,2),(2,3),(3,4),(4,5)] [] ?_)|((with_reducible refine kaQ [.ptr 0 0,iv 5] ?_);refine kcQ aH ?_;refine kwQ (hB) [(0,0)] [] ?_)|(refine knQ 7 ?_;refine kcQ aT ?_;refine kwQ (hC) [(0,0),(1,7),(2,8),(3,9),(4,10)] [] ?_)|(refine kcQ iL ?_;refine kwQ (hS) [(0,11),(1,12),(2,13),(3,14)] [2,3,4,5,7,8,9,10] ?_)|((with_reducible refine kaQ [.ptr 0 0,iv 8] ?_);refine kcQ aH ?_;refine kwQ (hD) [(0,0)] [] ?_)|(refine knQ 15 ?_;refine kcQ aT ?_;refine kwQ (hE) [(0,0),(1,15),(2,16),(3,17),(4,18)] [] ?_)|(refine kcQ dW ?_;refine kwQ (hP) [(0,19),(1,20),(2,21),(3,22)] [11,12,13,14,15,16,17,18] ?_)|(refine fun(hc:(_:Bool)=_)=>?_;try simp only [hcS]at hc))
     all_goals try exact om_
     all_goals try(exfalso;omega)
     exact⟨⟨(k+1,te),by simp only;omega,kT,hk3⟩,by simp only;omega,Imp.au hX⟩
   ·have eT:nA t=(g,aL tb 8):=by unfold nA;rw [eA];simp only [h8,if_false]
    rw [eT]at kT
    simp only at kT
    by_cases f1:(g).ob≤o
    ·by_cases f2:((g).fr.length:Int)≤m
     ·rw [xH (by rw [eT];exact⟨f1,f2⟩),eT]at hk3
      have hf:=Zp.sp_l02Fits (c:=g) (by omega)
      rw [cV (show(g).ob≤8∧(g).fr.length≤40 by omega)]at hf
      subst hk3
      repeat'(first|refine wkQ ?_|refine Tw.f ?_ ?_|(refine knQ 2 ?_;refine kcQ aT ?_;refine kwQ (hA) [(0,0),(1,2),(2,3),(3,4),(4,5)] [] ?_)|((with_reducible refine kaQ [.ptr 0 0,iv 5] ?_);refine kcQ aH ?_;refine kwQ (hB) [(0,0)] [] ?_)|(refine knQ 7 ?_;refine kcQ aT ?_;refine kwQ (hC) [(0,0),(1,7),(2,8),(3,9),(4,10)] [] ?_)|(refine kcQ iL ?_;refine kwQ (hS) [(0,11),(1,12),(2,13),(3,14)] [2,3,4,5,7,8,9,10] ?_)|((with_reducible refine kaQ [.ptr 0 0,iv 8] ?_);refine kcQ aH ?_;refine kwQ (hD) [(0,0)] [] ?_)|(refine kcQ fR ?_;refine kwQ (hf) [] [11,12,13,14] ?_)|(refine fun(hc:(_:Bool)=_)=>?_;try simp only [hcS]at hc))
      all_goals try exact om_
      all_goals try(exfalso;omega)
      (first|refine aB ?_|refine aA ?_);simp only [go_sem,simprocAttr,Tryz.f175]
     ·rw [nP (by rw [eT];exact fun q=>f2 q.2),eT]at hk3
      repeat'(first|refine wkQ ?_|refine Tw.f ?_ ?_|(refine knQ 2 ?_;refine kcQ aT ?_;refine kwQ (hA) [(0,0),(1,2),(2,3),(3,4),(4,5)] [] ?_)|((with_reducible refine kaQ [.ptr 0 0,iv 5] ?_);refine kcQ aH ?_;refine kwQ (hB) [(0,0)] [] ?_)|(refine knQ 7 ?_;refine kcQ aT ?_;refine kwQ (hC) [(0,0),(1,7),(2,8),(3,9),(4,10)] [] ?_)|(refine kcQ iL ?_;refine kwQ (hS) [(0,11),(1,12),(2,13),(3,14)] [2,3,4,5,7,8,9,10] ?_)|((with_reducible refine kaQ [.ptr 0 0,iv 8] ?_);refine kcQ aH ?_;refine kwQ (hD) [(0,0)] [] ?_)|(refine fun(hc:(_:Bool)=_)=>?_;try simp only [hcS]at hc))
      all_goals try exact om_
      all_goals try(exfalso;omega)
      exact⟨⟨(k+1,aL tb 8),by simp only;omega,kT,hk3⟩,by simp only;omega,Imp.au hX⟩
    ·rw [nP (by rw [eT];exact fun q=>f1 q.1),eT]at hk3
     repeat'(first|refine wkQ ?_|refine Tw.f ?_ ?_|(refine knQ 2 ?_;refine kcQ aT ?_;refine kwQ (hA) [(0,0),(1,2),(2,3),(3,4),(4,5)] [] ?_)|((with_reducible refine kaQ [.ptr 0 0,iv 5] ?_);refine kcQ aH ?_;refine kwQ (hB) [(0,0)] [] ?_)|(refine knQ 7 ?_;refine kcQ aT ?_;refine kwQ (hC) [(0,0),(1,7),(2,8),(3,9),(4,10)] [] ?_)|(refine kcQ iL ?_;refine kwQ (hS) [(0,11),(1,12),(2,13),(3,14)] [2,3,4,5,7,8,9,10] ?_)|((with_reducible refine kaQ [.ptr 0 0,iv 8] ?_);refine kcQ aH ?_;refine kwQ (hD) [(0,0)] [] ?_)|(refine fun(hc:(_:Bool)=_)=>?_;try simp only [hcS]at hc))
     all_goals try exact om_
     all_goals try(exfalso;omega)
     exact⟨⟨(k+1,aL tb 8),by simp only;omega,kT,hk3⟩,by simp only;omega,Imp.au hX⟩
  ·have eA:sO t=(a,aL ta 5):=by unfold sO;rw [hfa];simp only [h5,if_false]
   have kA:=kb
   have hD:=bA (n:=8) kA
   have kd:=aR (n:=8) kA
   by_cases h8:aK (aL ta 5) 8=0
   ·have hE:=lQ kd
    obtain⟨ke,ce,_⟩:=pI kd
    obtain⟨e,te,hfe⟩:∃a tc,jX (aL (aL ta 5) 8)=(a,tc):=⟨_,_,rfl⟩
    rw [hfe]at ke ce hE
    simp only at ke ce hE
    have hP:=Zp.sp_l03Product ca.toShape ce.toShape
    have eT:nA t=(prC a e,te):=by unfold nA;rw [eA];simp only [h8,if_true,hfe]
    rw [eT]at kT
    simp only at kT
    rw [h8]at hD
    obtain⟨v,hv⟩:∃g',prC a e=g':=⟨_,rfl⟩
    rw [hv]at hP eT
    clear hv
    by_cases f1:(v).ob≤o
    ·by_cases f2:((v).fr.length:Int)≤m
     ·rw [xH (by rw [eT];exact⟨f1,f2⟩),eT]at hk3
      have hf:=Zp.sp_l02Fits (c:=v) (by omega)
      rw [cV (show(v).ob≤8∧(v).fr.length≤40 by omega)]at hf
      subst hk3
      repeat'(first|(exact absurd (by assumption) h5)|(with_reducible first|refine St.f ?_|refine V_c ?_|refine eDn ?_|refine And.intro ?_ ?_|refine aJ ?_ ?_|refine aO ?_)|((refine aV ?_);intro K hK)|((with_reducible refine So.f ?_);intro K hK;simp(contextual:=true)only [go_sem,simprocAttr])|((with_reducible refine hK _ ?_);clear hK K)|((refine(id ?_:EvCall _ _ _ (⟨_,_,2⟩:Ss) _));refine EvCall.mr (hA) aT [(0,0),(1,2),(2,3),(3,4),(4,5)] [] ?_)|((with_reducible refine(id ?_:EvCall _ _ [.ptr 0 0,iv 5] _ _));refine EvCall.mr (hB) aH [(0,0)] [] ?_)|((with_reducible refine(id ?_:EvCall _ _ [.ptr 0 0,iv 8] _ _));refine EvCall.mr (hD) aH [(0,0)] [] ?_)|((refine(id ?_:EvCall _ _ _ (⟨_,_,7⟩:Ss) _));refine EvCall.mr (hE) aT [(0,0),(1,7),(2,8),(3,9),(4,10)] [] ?_)|((with_reducible refine aE 268 ?_);refine EvCall.mr (hP) dW [(0,11),(1,12),(2,13),(3,14)] [2,3,4,5,7,8,9,10] ?_)|((with_reducible refine aE 269 ?_);refine EvCall.mr (hf) fR [] [11,12,13,14] ?_)|(refine fun(hc:(_:Bool)=_)=>?_;try simp only [hcS]at hc))
      all_goals try exact om_
      all_goals try(exfalso;omega)
      (first|refine aB ?_|refine aA ?_);simp only [go_sem,simprocAttr,Tryz.f175]
     ·rw [nP (by rw [eT];exact fun q=>f2 q.2),eT]at hk3
      repeat'(first|(exact absurd (by assumption) h5)|(with_reducible first|refine St.f ?_|refine V_c ?_|refine eDn ?_|refine And.intro ?_ ?_|refine aJ ?_ ?_|refine aO ?_)|((refine aV ?_);intro K hK)|((with_reducible refine So.f ?_);intro K hK;simp(contextual:=true)only [go_sem,simprocAttr])|((with_reducible refine hK _ ?_);clear hK K)|((refine(id ?_:EvCall _ _ _ (⟨_,_,2⟩:Ss) _));refine EvCall.mr (hA) aT [(0,0),(1,2),(2,3),(3,4),(4,5)] [] ?_)|((with_reducible refine(id ?_:EvCall _ _ [.ptr 0 0,iv 5] _ _));refine EvCall.mr (hB) aH [(0,0)] [] ?_)|((with_reducible refine(id ?_:EvCall _ _ [.ptr 0 0,iv 8] _ _));refine EvCall.mr (hD) aH [(0,0)] [] ?_)|((refine(id ?_:EvCall _ _ _ (⟨_,_,7⟩:Ss) _));refine EvCall.mr (hE) aT [(0,0),(1,7),(2,8),(3,9),(4,10)] [] ?_)|((with_reducible refine aE 268 ?_);refine EvCall.mr (hP) dW [(0,11),(1,12),(2,13),(3,14)] [2,3,4,5,7,8,9,10] ?_)|(refine fun(hc:(_:Bool)=_)=>?_;try simp only [hcS]at hc))
      all_goals try exact om_
      all_goals try(exfalso;omega)
      exact⟨⟨(k+1,te),by simp only;omega,kT,hk3⟩,by simp only;omega,Imp.au hX⟩
    ·rw [nP (by rw [eT];exact fun q=>f1 q.1),eT]at hk3
     repeat'(first|(exact absurd (by assumption) h5)|(with_reducible first|refine St.f ?_|refine V_c ?_|refine eDn ?_|refine And.intro ?_ ?_|refine aJ ?_ ?_|refine aO ?_)|((refine aV ?_);intro K hK)|((with_reducible refine So.f ?_);intro K hK;simp(contextual:=true)only [go_sem,simprocAttr])|((with_reducible refine hK _ ?_);clear hK K)|((refine(id ?_:EvCall _ _ _ (⟨_,_,2⟩:Ss) _));refine EvCall.mr (hA) aT [(0,0),(1,2),(2,3),(3,4),(4,5)] [] ?_)|((with_reducible refine(id ?_:EvCall _ _ [.ptr 0 0,iv 5] _ _));refine EvCall.mr (hB) aH [(0,0)] [] ?_)|((with_reducible refine(id ?_:EvCall _ _ [.ptr 0 0,iv 8] _ _));refine EvCall.mr (hD) aH [(0,0)] [] ?_)|((refine(id ?_:EvCall _ _ _ (⟨_,_,7⟩:Ss) _));refine EvCall.mr (hE) aT [(0,0),(1,7),(2,8),(3,9),(4,10)] [] ?_)|((with_reducible refine aE 268 ?_);refine EvCall.mr (hP) dW [(0,11),(1,12),(2,13),(3,14)] [2,3,4,5,7,8,9,10] ?_)|(refine fun(hc:(_:Bool)=_)=>?_;try simp only [hcS]at hc))
     all_goals try exact om_
     all_goals try(exfalso;omega)
     exact⟨⟨(k+1,te),by simp only;omega,kT,hk3⟩,by simp only;omega,Imp.au hX⟩
   ·have eT:nA t=(a,aL (aL ta 5) 8):=by unfold nA;rw [eA];simp only [h8,if_false]
    rw [eT]at kT
    simp only at kT
    by_cases f1:(a).ob≤o
    ·by_cases f2:((a).fr.length:Int)≤m
     ·rw [xH (by rw [eT];exact⟨f1,f2⟩),eT]at hk3
      have hf:=Zp.sp_l02Fits (c:=a) (by omega)
      rw [cV (show(a).ob≤8∧(a).fr.length≤40 by omega)]at hf
      subst hk3
      repeat'(first|refine wkQ ?_|refine Tw.f ?_ ?_|(refine knQ 2 ?_;refine kcQ aT ?_;refine kwQ (hA) [(0,0),(1,2),(2,3),(3,4),(4,5)] [] ?_)|((with_reducible refine kaQ [.ptr 0 0,iv 5] ?_);refine kcQ aH ?_;refine kwQ (hB) [(0,0)] [] ?_)|((with_reducible refine kaQ [.ptr 0 0,iv 8] ?_);refine kcQ aH ?_;refine kwQ (hD) [(0,0)] [] ?_)|(refine kcQ fR ?_;refine kwQ (hf) [] [2,3,4,5] ?_)|(refine fun(hc:(_:Bool)=_)=>?_;try simp only [hcS]at hc))
      all_goals try exact om_
      all_goals try(exfalso;omega)
      (first|refine aB ?_|refine aA ?_);simp only [go_sem,simprocAttr,Tryz.f175]
     ·rw [nP (by rw [eT];exact fun q=>f2 q.2),eT]at hk3
      repeat'(first|refine wkQ ?_|refine Tw.f ?_ ?_|(refine knQ 2 ?_;refine kcQ aT ?_;refine kwQ (hA) [(0,0),(1,2),(2,3),(3,4),(4,5)] [] ?_)|((with_reducible refine kaQ [.ptr 0 0,iv 5] ?_);refine kcQ aH ?_;refine kwQ (hB) [(0,0)] [] ?_)|((with_reducible refine kaQ [.ptr 0 0,iv 8] ?_);refine kcQ aH ?_;refine kwQ (hD) [(0,0)] [] ?_)|(refine fun(hc:(_:Bool)=_)=>?_;try simp only [hcS]at hc))
      all_goals try exact om_
      all_goals try(exfalso;omega)
      exact⟨⟨(k+1,aL (aL ta 5) 8),by simp only;omega,kT,hk3⟩,by simp only;omega,Imp.au hX⟩
    ·rw [nP (by rw [eT];exact fun q=>f1 q.1),eT]at hk3
     repeat'(first|refine wkQ ?_|refine Tw.f ?_ ?_|(refine knQ 2 ?_;refine kcQ aT ?_;refine kwQ (hA) [(0,0),(1,2),(2,3),(3,4),(4,5)] [] ?_)|((with_reducible refine kaQ [.ptr 0 0,iv 5] ?_);refine kcQ aH ?_;refine kwQ (hB) [(0,0)] [] ?_)|((with_reducible refine kaQ [.ptr 0 0,iv 8] ?_);refine kcQ aH ?_;refine kwQ (hD) [(0,0)] [] ?_)|(refine fun(hc:(_:Bool)=_)=>?_;try simp only [hcS]at hc))
     all_goals try exact om_
     all_goals try(exfalso;omega)
     exact⟨⟨(k+1,aL (aL ta 5) 8),by simp only;omega,kT,hk3⟩,by simp only;omega,Imp.au hX⟩
 ·obtain rfl:k=12:=by omega
  have hk4:(one1,t)=F:=hk3
  subst hk4
  repeat'(first|refine wkQ ?_|refine Tw.f ?_ ?_|(refine kcQ dC ?_;refine kwQ (hone) [(0,4),(1,5),(2,6),(3,7)] [3] ?_)|(refine fun(hc:(_:Bool)=_)=>?_;try simp only [hcS]at hc))
  all_goals try exact om_
  all_goals try(exfalso;omega)
  (first|refine aB ?_|refine aA ?_);simp only [go_sem,simprocAttr,Tryz.f175]
end Go.Eng
