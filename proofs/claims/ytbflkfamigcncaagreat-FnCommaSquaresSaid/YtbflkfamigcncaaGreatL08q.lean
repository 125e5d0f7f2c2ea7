/- The law FnCommaSquares: its body. -/
import Derived.Test.YtbflkfamigcncaaGreatL05q
import Derived.Test.YtbflkfamigcncaaGreatL07q
set_option linter.unusedSimpArgs false
set_option linter.unusedVariables false
set_option maxRecDepth 100000
set_option maxHeartbeats 32000000
namespace Go.Eng
open Go Go.Proofs Go.Cats
attribute [local go_sem] List.set_cons_zero List.set_cons_succ List.take_succ_cons List.take_zero mV
theorem uX {l:List Int} (hl:(l.length:Int)≤9223372036854775807) (hb:∀i,i<l.length→0≤l.getD i 0∧l.getD i 0<256):Spec Tryz.prog 7 [.bor [] (bys l)] [] (bv true) []:=by
 refine aD (E:=TE) 0 Tryz.func7 rfl (by simp [Tryz.f7]) fun X hn hX=>?_
 by_cases h4:4096<l.length
 ·repeat'(first|refine wkQ ?_|refine Tw.f ?_ ?_|(refine kcQ aCE ?_;refine krQ (aFs (l:=l) ?_) ?_)|(refine fun(hc:(_:Bool)=_)=>?_;try simp only [hcS]at hc))
  all_goals try exact om_
  all_goals try(exfalso;omega)
  (first|refine aB ?_|refine aA ?_);simp only [go_sem,simprocAttr,Tryz.f7]
 ·have hk:CodeOk l:=⟨by omega,hb⟩
  have hD:=lS hk
  obtain⟨bf,be⟩:=aNb hk
  generalize d9F l=d at hD bf be
  obtain⟨f,e⟩:=d
  simp only at hD bf be
  obtain⟨r,code,ho⟩:=aM1 f e
  have hr:=ho.b
  by_cases h0:code=0
  ·subst h0
   obtain⟨hy,hr0⟩:CYes f e∧r=cmC f e (cmA f e).length:=by
    rcases ho with⟨hy,h3,_⟩|⟨hn,_⟩
    ·exact⟨hy,h3⟩
    ·rcases hn with⟨_,z⟩|⟨_,_,z⟩|⟨_,_,_,z⟩<;>omega
   have hL:CommaLeftOut f e (cmF f e) 0:= .inl ⟨hy,rfl,rfl⟩
   have hR:CommaRightOut f e (cmG f e) 0:= .inl ⟨hy,rfl,rfl⟩
   have bL:=aL5 bf hy
   have bR:=aL6 be hy
   have iL:=aF0 hy
   have iR:=aF1 hy
   have hrc:IsCat r:=by rw [hr0];exact iL.src
   have hC:=aBr hr
   rw [dQ hrc]at hC
   have hF1:=uY bL
   rw [dQ iL]at hF1
   have hF2:=uY bR
   rw [dQ iR]at hF2
   have hT1:=lH iL hy.src bL bf rfl
   have hT2:=lH iR hy.tgt bR be rfl
   have i1:=zK iL hy.src rfl
   have i2:=zK iR hy.tgt rfl
   have b1:FunB (thF (cmF f e) f):=⟨bL.src,bf.tgt,by show(thn _ _).length≤_;rw [thn_len];exact bL.obs,by show(thn _ _).length≤_;rw [thn_len];exact bL.ars⟩
   have b2:FunB (thF (cmG f e) e):=⟨bR.src,be.tgt,by show(thn _ _).length≤_;rw [thn_len];exact bR.obs,by show(thn _ _).length≤_;rw [thn_len];exact bR.ars⟩
   have hIT:=nE (aM7 hy) i1 i2 b1 b2 (by rw [aF2];rfl) (aM6 hy)
   have hO:=fG hy.src hy.tgt hy.one
   have o8:=hy.obs
   have sp_IsCategory_c:=hC
   have sp_IsFunctor_l:=hF1
   have sp_IsFunctor_r:=hF2
   have sp_ThenFunctors_l:=hT1
   have sp_ThenFunctors_r:=hT2
   have sp_IsTransformation_t:=hIT
   have ho3:∀i,i<(aK f e).length→((aK f e).getD i []).length≤1048576:=fun i hi=>by rw [(hO i hi).len];omega
   repeat'(first|(refine fD 4 (Imp.trans (Imp.cellRd 20 4 3 _ _ _ (aE f.src.co) rfl (by decide) rfl rfl) (Imp.cellRd 21 4 13 _ _ _ (aE e.src.co) rfl (by decide) rfl rfl)) ?_;simp only [go_sem,simprocAttr])|(with_reducible first|refine St.f ?_|refine V_c ?_|refine And.intro ?_ ?_|refine aM ?_ ?_|refine aP ?_)|((refine aY ?_);intro K hK)|((with_reducible refine So.f ?_);intro K hK;simp(contextual:=true)only [go_sem,simprocAttr])|((with_reducible refine hK _ ?_);clear hK K)|((with_reducible refine aC 9 ?_);refine EvCall.rr (aFs (l:=l) ?_) aCE ?_)|((with_reducible refine aC 44 ?_);refine EvCall.mr (hD) fW [(0,0),(1,1),(2,2),(3,3),(4,4),(5,5),(6,6),(7,7),(8,8),(9,9),(10,10),(11,11),(12,12),(13,13),(14,14),(15,15),(16,16),(17,17),(18,18),(19,19)] [] ?_)|((with_reducible refine aC 45 ?_);refine EvCall.rq (a:=(kE (f:=f) (e:=e) (c:=r) (code:=0) (by first|omega|assumption|rfl) (by first|omega|assumption|rfl) (by first|omega|assumption|rfl))) (b:=lX) (c:=?_);all_goals try simp only [go_sem,simprocAttr])|((with_reducible refine aC 46 ?_);refine EvCall.rq (a:=(gM (f:=f) (e:=e) (c:=r) (code:=0) (by first|omega|assumption|rfl) (by first|omega|assumption|rfl) (by first|omega|assumption|rfl))) (b:=iG) (c:=?_);all_goals try simp only [go_sem,simprocAttr])|((with_reducible refine aC 13 ?_);refine EvCall.rr (gV (a:=r) (b:=r) ?_ ?_) gG ?_)|((with_reducible refine aC 47 ?_);refine EvCall.rq (a:=(yH (f:=f) (e:=e) (g:=cmF f e) (code:=0) (by first|omega|assumption|rfl) (by first|omega|assumption|rfl) (by first|omega|assumption|rfl))) (b:=aBk) (c:=?_);all_goals try simp only [go_sem,simprocAttr])|((with_reducible refine aC 48 ?_);refine EvCall.rq (a:=(wQ (f:=f) (e:=e) (g:=cmG f e) (code:=0) (by first|omega|assumption|rfl) (by first|omega|assumption|rfl) (by first|omega|assumption|rfl))) (b:=zT) (c:=?_);all_goals try simp only [go_sem,simprocAttr])|((with_reducible refine aC 49 ?_);refine EvCall.rq (a:=(rM (f:=f) (e:=e) (by first|omega|assumption|rfl) (by first|omega|assumption|rfl) (by first|omega|assumption|rfl))) (b:=vN) (c:=?_);all_goals try simp only [go_sem,simprocAttr])|((with_reducible refine aC 50 ?_);refine EvCall.rq (a:=(qJ (f:=f) (e:=e) (g:=cmF f e) (code:=0) (by first|omega|assumption|rfl) (by first|omega|assumption|rfl) (by first|omega|assumption|rfl))) (b:=sE) (c:=?_);all_goals try simp only [go_sem,simprocAttr])|((with_reducible refine aC 51 ?_);refine EvCall.rq (a:=(oU (f:=f) (e:=e) (g:=cmG f e) (code:=0) (by first|omega|assumption|rfl) (by first|omega|assumption|rfl) (by first|omega|assumption|rfl))) (b:=rF) (c:=?_);all_goals try simp only [go_sem,simprocAttr])|((with_reducible refine aC 52 ?_);refine EvCall.rq (a:=(mN (f:=f) (e:=e) (by first|omega|assumption|rfl) (by first|omega|assumption|rfl) (by first|omega|assumption|rfl))) (b:=oP) (c:=?_);all_goals try simp only [go_sem,simprocAttr])|((with_reducible refine aC 17 ?_);refine EvCall.rr (nG (f:=cmF f e) (g:=cmF f e) ?_ ?_) lY ?_)|((with_reducible refine aC 17 ?_);refine EvCall.rr (nG (f:=cmG f e) (g:=cmG f e) ?_ ?_) lY ?_)|((with_reducible refine aC 53 ?_);refine EvCall.rr (vA (a:=aK f e) (b:=aK f e) ?_ ?_ ?_ ?_) rR ?_)|((with_reducible refine aC 40 ?_);refine EvCall.rr (sp_IsCategory_c) zU ?_)|((with_reducible refine aC 41 ?_);refine EvCall.rr (sp_IsFunctor_l) rO ?_)|((with_reducible refine aC 41 ?_);refine EvCall.rr (sp_IsFunctor_r) rO ?_)|((with_reducible refine aC 28 ?_);refine EvCall.rr (sp_ThenFunctors_l) mT ?_)|((with_reducible refine aC 28 ?_);refine EvCall.rr (sp_ThenFunctors_r) mT ?_)|(refine fun(hc:(_:Bool)=_)=>?_;try simp only [hcS]at hc))
   all_goals try exact om_
   all_goals try(exfalso;omega)
   all_goals try exact ho3
   all_goals try contradiction
   refine aH (G:={i:Nat//i≤(aK f e).length∧(True)}) (fun⟨i,_⟩=>[(26,iv i),(25, .sl 100),(3, .ptr 20 0),(4, .ptr 21 0),(5, .ptr 26 0),(7, .ptr 31 0),(9, .ptr 42 0),(11, .ptr 53 0),(13, .sl 54),(15, .ptr 65 0),(17, .ptr 76 0)]) [2,19,21,22,23,24] (fun⟨i,_⟩=>[(100,⟨1, .arr (ints (bP (aK f e) 2 i))⟩)]) [100] (fun zz=>(aK f e).length-zz.1) ⟨0,Nat.zero_le _,by first|trivial|simp⟩ ?_ ?_
   ·exact Imp.auto hX (by simp(maxSteps:=2000000) [go_sem,simprocAttr])
   rintro⟨i,hii,hwi⟩
   simp only [go_sem,simprocAttr]
   have cl:=aZ (aK f e) 2 i
   rcases Nat.lt_or_ge i (aK f e).length with hlt|hge
   ·have l3:=(hO i hlt).len
    have e1:=kJ (l:=aK f e) (k:=2) hlt
    repeat'(first|refine wkQ ?_|refine Tw.f ?_ ?_|(refine fun(hc:(_:Bool)=_)=>?_;try simp only [hcS]at hc))
    all_goals try exact om_
    all_goals try(exfalso;omega)
    refine⟨⟨i+1,by omega,(by trivial)⟩,by simp only;omega,Imp.auto hX (by simp(maxSteps:=2000000)only [go_sem,simprocAttr,e1])⟩
   ·obtain rfl:i=(aK f e).length:=by omega
    rw [show bP (aK f e) 2 (aK f e).length=cmH f e from rfl]
    repeat'(first|refine wkQ ?_|refine Tw.f ?_ ?_|(refine kcQ pC ?_;refine krQ (sp_IsTransformation_t) ?_)|(refine fun(hc:(_:Bool)=_)=>?_;try simp only [hcS]at hc))
    all_goals try exact om_
    all_goals try(exfalso;omega)
    (first|refine aB ?_|refine aA ?_);simp only [go_sem,simprocAttr,Tryz.f7]
  ·repeat'(first|(refine fD 4 (Imp.trans (Imp.cellRd 20 4 3 _ _ _ (aE f.src.co) rfl (by decide) rfl rfl) (Imp.cellRd 21 4 13 _ _ _ (aE e.src.co) rfl (by decide) rfl rfl)) ?_;simp only [go_sem,simprocAttr])|(with_reducible first|refine St.f ?_|refine V_c ?_|refine And.intro ?_ ?_|refine aM ?_ ?_|refine aP ?_)|((refine aY ?_);intro K hK)|((with_reducible refine So.f ?_);intro K hK;simp(contextual:=true)only [go_sem,simprocAttr])|((with_reducible refine hK _ ?_);clear hK K)|((with_reducible refine aC 9 ?_);refine EvCall.rr (aFs (l:=l) ?_) aCE ?_)|((with_reducible refine aC 44 ?_);refine EvCall.mr (hD) fW [(0,0),(1,1),(2,2),(3,3),(4,4),(5,5),(6,6),(7,7),(8,8),(9,9),(10,10),(11,11),(12,12),(13,13),(14,14),(15,15),(16,16),(17,17),(18,18),(19,19)] [] ?_)|((with_reducible refine aC 45 ?_);refine EvCall.rq (a:=(kE (f:=f) (e:=e) (c:=r) (code:=code) (by first|omega|assumption|rfl) (by first|omega|assumption|rfl) (by first|omega|assumption|rfl))) (b:=lX) (c:=?_);all_goals try simp only [go_sem,simprocAttr])|((with_reducible refine aC 46 ?_);refine EvCall.rq (a:=(gM (f:=f) (e:=e) (c:=r) (code:=code) (by first|omega|assumption|rfl) (by first|omega|assumption|rfl) (by first|omega|assumption|rfl))) (b:=iG) (c:=?_);all_goals try simp only [go_sem,simprocAttr])|((with_reducible refine aC 13 ?_);refine EvCall.rr (gV (a:=r) (b:=r) ?_ ?_) gG ?_)|(refine fun(hc:(_:Bool)=_)=>?_;try simp only [hcS]at hc))
   all_goals try exact om_
   all_goals try(exfalso;omega)
   (first|refine aB ?_|refine aA ?_);simp only [go_sem,simprocAttr,Tryz.f7]
end Go.Eng
