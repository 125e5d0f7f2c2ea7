/- The law FnYoneda: its body. -/
import Derived.Test.YthgijhnmcglppaaGreatE09q
import Derived.Test.YthgijhnmcglppaaGreatE10q
import Derived.Test.YthgijhnmcglppaaGreatA13y
set_option linter.unusedSimpArgs false
set_option linter.unusedVariables false
set_option maxRecDepth 100000
set_option maxHeartbeats 32000000
namespace Go.Eng
open Go Go.Proofs Go.Cats
attribute [local go_sem] List.set_cons_zero List.set_cons_succ List.take_succ_cons List.take_zero
def aMK (f g:SF) (R:List (List (List Int))) (code:Int):Prop:=(12<f.elems∧R=[]∧code=3)∨(f.elems≤12∧R=allM f g false∧code=0)
theorem mM {f g:SF} {R:List (List (List Int))} {code:Int} (hf:SFB f) (hg:SFB g) (hp:SPair f g) (hD:(allM f g false).length≤200) (h:aMK f g R code):Spec Tryz.prog 48 [sfV f,sfV g] [] (.tup [.sl 0,iv code]) [(0,⟨1, .arr (aU R)⟩)]:=by
 rcases h with⟨he,rfl,rfl⟩|⟨he,rfl,rfl⟩
 ·exact aHI (sT hf hg (.inr ⟨hp,he,rfl⟩))
 ·exact sU hf hg hp he hD
theorem aDN {l:List Int} (hl:(l.length:Int)≤9223372036854775807) (hb:∀i,i<l.length→0≤l.getD i 0∧l.getD i 0<256):Spec Tryz.prog 7 [.bor [] (bys l)] [] (bv true) []:=by
 refine aD (E:=TE) 0 Tryz.func7 rfl (by simp [Tryz.f7]) fun X hn hX=>?_
 by_cases h4:4096<l.length
 ·repeat'(first|(with_reducible first|refine St.f ?_|refine V_c ?_|refine eDn ?_|refine And.intro ?_ ?_|refine aJ ?_ ?_|refine aQ ?_)|((refine aT ?_);intro K hK)|((with_reducible refine So.f ?_);intro K hK;simp(contextual:=true)only [go_sem,simprocAttr])|((with_reducible refine hK _ ?_);clear hK K)|((with_reducible refine aG 12 ?_);refine EvCall.rr (aJ4 (l:=l) ?_) aFy ?_)|(refine fun(hc:(_:Bool)=_)=>?_;try simp only [hcS]at hc))
  all_goals try exact om_
  all_goals try(exfalso;omega)
  (first|refine aB ?_|refine aA ?_);simp only [go_sem,simprocAttr,Tryz.f7]
 ·have hk:CodeOk l:=⟨by omega,hb⟩
  have hD:=lY hk
  repeat'(first|(refine kD hD mC [(0,0),(1,1),(2,2),(3,3),(4,4),(5,5)] [] (by simp only [go_sem,simprocAttr];rfl) (by simp [go_sem]) (by simp [go_sem]<;>(repeat'(first|rfl|constructor))) ?_;intro z hz;obtain⟨f,x,e⟩:=z;simp only at hz;simp only [go_sem,simprocAttr])|((with_reducible refine(id ?_:V _ _ (Code.region 3 _ _) _ _));refine iB 3 (by rw [hn];rfl) ?_;intro K hK)|((with_reducible refine kE ?_);intro K hK;simp(contextual:=true)only [go_sem,simprocAttr])|(with_reducible refine fY ?_)|(with_reducible first|refine St.f ?_|refine V_c ?_|refine eDn ?_|refine And.intro ?_ ?_|refine aJ ?_ ?_|refine aQ ?_)|((refine aT ?_);intro K hK)|((with_reducible refine So.f ?_);intro K hK;simp(contextual:=true)only [go_sem,simprocAttr])|((with_reducible refine hK _ ?_);clear hK K)|((with_reducible refine aG 12 ?_);refine EvCall.rr (aJ4 (l:=l) ?_) aFy ?_)|(refine fun(hc:(_:Bool)=_)=>?_;try simp only [hcS]at hc))
  all_goals try exact om_
  all_goals try(exfalso;omega)
  obtain⟨m,code,ho⟩:=ElOut.ex f x e
  have bm:=ho.b hz
  have bms:=bm.src
  by_cases h0:code=0
  ·subst h0
   obtain⟨sf,he,hs,hm⟩:=ho.zero
   have hS:=sf.cat.toShape
   have hx:=he.1
   have nm:=SF.eMap_nat sf he hs
   rw [←hm]at nm
   have sp_MapElement_loc:=qB (m:=m) (x:=x) bm
   rw [hm,SF.eMap_elem sf he hs,←hm]at sp_MapElement_loc
   simp only at sp_MapElement_loc
   have sp_Representable_loc:=oQ hz.shape sf.cat hx.1 hx.2 hs
   have hrs:m.src=f.shape.rep x:=by rw [hm];rfl
   have hRb:SFB (f.shape.rep x):=Cat.rep_sfb hS hz.shape x
   have hRi:=aCc sf.cat hx.1 hx.2 hs
   have hp:SPair (f.shape.rep x) f:=⟨hRi,sf,rfl⟩
   have hct:((allM (f.shape.rep x) f false).length:Int)=f.sizes.getD x.toNat 0:=aKr sf hx.1 hx.2 hs (Nat.lt_succ_self _)
   have szl:=sf.szl
   have sz:=sf.szw x.toNat (by omega)
   by_cases hel:12<(f.shape.rep x).elems
   ·have sp_AllSetMaps_loc:=mM hRb hz hp (by omega) (.inl ⟨hel,rfl,rfl⟩)
    have sp_count9_loc:=aHn hRi
    repeat'(first|(with_reducible first|refine St.f ?_|refine V_c ?_|refine eDn ?_|refine And.intro ?_ ?_|refine aJ ?_ ?_|refine aQ ?_)|((refine aT ?_);intro K hK)|((with_reducible refine So.f ?_);intro K hK;simp(contextual:=true)only [go_sem,simprocAttr])|((with_reducible refine hK _ ?_);clear hK K)|((with_reducible refine aG 45 ?_);refine EvCall.rq (a:=(fL (f:=f) (x:=x) (e:=e) (m:=m) (code:=0) (by first|omega|assumption|rfl|exact(by assumption:SMB _).src|exact(by assumption:SMB _).tgt) (by first|omega|assumption|rfl|exact(by assumption:SMB _).src|exact(by assumption:SMB _).tgt))) (b:=gN) (c:=?_);all_goals try simp only [go_sem,simprocAttr])|((with_reducible refine aG 46 ?_);refine EvCall.rq (a:=(eQ (f:=f) (x:=x) (e:=e) (m:=m) (code:=0) (by first|omega|assumption|rfl|exact(by assumption:SMB _).src|exact(by assumption:SMB _).tgt) (by first|omega|assumption|rfl|exact(by assumption:SMB _).src|exact(by assumption:SMB _).tgt))) (b:=fN) (c:=?_);all_goals try simp only [go_sem,simprocAttr])|((with_reducible refine aG 39 ?_);refine EvCall.rr (oU (f:=m) (g:=m) ?_ ?_) mV ?_)|((with_reducible refine aG 40 ?_);refine EvCall.rr (sp_MapElement_loc) jW ?_)|((with_reducible refine aG 47 ?_);refine EvCall.rr (sp_Representable_loc) kY ?_)|((with_reducible refine aG 48 ?_);refine EvCall.rr (sp_AllSetMaps_loc) nZ ?_)|((with_reducible refine aG 49 ?_);refine EvCall.rr (vL (m:=m) ?_) rM ?_)|((with_reducible refine aG 50 ?_);refine EvCall.rr (jL (f:=m.src) (g:=f.shape.rep x) ?_ ?_) iV ?_)|((with_reducible refine aG 51 ?_);refine EvCall.rr (sp_count9_loc) aEo ?_)|(refine fun(hc:(_:Bool)=_)=>?_;try simp only [hcS]at hc))
    all_goals try exact om_
    all_goals try(exfalso;omega)
    all_goals try exact absurd nm (by assumption)
    all_goals try exact absurd hrs (by assumption)
    all_goals((first|refine aB ?_|refine aA ?_);simp only [go_sem,simprocAttr,Tryz.f7])
    all_goals exact congrArg (fun b=>Sv.v (.bool b)) (decide_eq_true hel)
   ·have sp_AllSetMaps_loc:=mM hRb hz hp (by omega) (.inr ⟨by omega,rfl,rfl⟩)
    have hG:∀i,i<(allM (f.shape.rep x) f false).length→IsSM ⟨f.shape.rep x,f,(allM (f.shape.rep x) f false).getD i []⟩:=fun i hi=>by
     obtain⟨g1,_,g3⟩:=rV hp _ _ (tW false hp) _ (bO (d:=[]) hi)
     exact aFJ hp g1 (fuP_none.1 g3)
    generalize allM (f.shape.rep x) f false=R at hct sp_AllSetMaps_loc hG
    repeat'(first|(with_reducible first|refine St.f ?_|refine V_c ?_|refine eDn ?_|refine And.intro ?_ ?_|refine aJ ?_ ?_|refine aQ ?_)|((refine aT ?_);intro K hK)|((with_reducible refine So.f ?_);intro K hK;simp(contextual:=true)only [go_sem,simprocAttr])|((with_reducible refine hK _ ?_);clear hK K)|((with_reducible refine aG 45 ?_);refine EvCall.rq (a:=(fL (f:=f) (x:=x) (e:=e) (m:=m) (code:=0) (by first|omega|assumption|rfl|exact(by assumption:SMB _).src|exact(by assumption:SMB _).tgt) (by first|omega|assumption|rfl|exact(by assumption:SMB _).src|exact(by assumption:SMB _).tgt))) (b:=gN) (c:=?_);all_goals try simp only [go_sem,simprocAttr])|((with_reducible refine aG 46 ?_);refine EvCall.rq (a:=(eQ (f:=f) (x:=x) (e:=e) (m:=m) (code:=0) (by first|omega|assumption|rfl|exact(by assumption:SMB _).src|exact(by assumption:SMB _).tgt) (by first|omega|assumption|rfl|exact(by assumption:SMB _).src|exact(by assumption:SMB _).tgt))) (b:=fN) (c:=?_);all_goals try simp only [go_sem,simprocAttr])|((with_reducible refine aG 39 ?_);refine EvCall.rr (oU (f:=m) (g:=m) ?_ ?_) mV ?_)|((with_reducible refine aG 40 ?_);refine EvCall.rr (sp_MapElement_loc) jW ?_)|((with_reducible refine aG 47 ?_);refine EvCall.rr (sp_Representable_loc) kY ?_)|((with_reducible refine aG 48 ?_);refine EvCall.rr (sp_AllSetMaps_loc) nZ ?_)|((with_reducible refine aG 49 ?_);refine EvCall.rr (vL (m:=m) ?_) rM ?_)|((with_reducible refine aG 50 ?_);refine EvCall.rr (jL (f:=m.src) (g:=f.shape.rep x) ?_ ?_) iV ?_)|(refine fun(hc:(_:Bool)=_)=>?_;try simp only [hcS]at hc))
    all_goals try exact om_
    all_goals try(exfalso;omega)
    all_goals try exact absurd nm (by assumption)
    all_goals try exact absurd hrs (by assumption)
    refine aH (G:={i:Nat//i≤R.length∧(True)}) (fun⟨i,_⟩=>[(16,iv i),(6, .ptr 20 0),(8, .ptr 34 0)]) [3,4,12,14] (fun⟨i,_⟩=>[]) [] (fun zz=>R.length-zz.1) ⟨0,Nat.zero_le _,by first|trivial|simp⟩ ?_ ?_
    ·exact Imp.au hX
    rintro⟨i,hii,hwi⟩
    simp only [go_sem,simprocAttr]
    rcases Nat.lt_or_ge i R.length with hlt|hge
    ·have hQ:=hG i hlt
     obtain⟨d,d1,d2,d3⟩:=aGo sf hx.1 hx.2 hs hQ
     have hQl:(R.getD i []).length=(f.shape.rep x).sizes.length:=hQ.fits.len
     have hQm:=hQ.fits.map
     have szr:=hRi.szl
     have szw:=hRi.szw
     have o8:=hS.ob8
     have hob:(f.shape.rep x).shape.ob=f.shape.ob:=rfl
     have hQr:∀y,y<(R.getD i []).length→((R.getD i []).getD y []).length≤1048576:=fun y hy=>by
      have h1:(((R.getD i []).getD y []).length:Int)=(f.shape.rep x).sizes.getD y 0:=(hQm y hy).1
      have:=szw y (by omega)
      omega
     have bQ:SMB ⟨f.shape.rep x,f,R.getD i []⟩:=⟨hRb,hz,by show(R.getD i []).length≤_;omega,hQr⟩
     have sp_MapElement_lo2:=qB (m:=⟨f.shape.rep x,f,R.getD i []⟩) (x:=x) bQ
     rw [d1]at sp_MapElement_lo2
     simp only at sp_MapElement_lo2
     have sp_ElementMap_lo2:=fL (x:=x) (e:=d) hz (.inr ⟨sf,d2,hs,rfl,rfl⟩)
     have bn:=SF.eMap_smb hS hz x d
     have hn3:(f.eMap x d).parts=R.getD i []:=d3
     generalize f.eMap x d=n at sp_ElementMap_lo2 bn hn3
     have bn3:=bn.parts
     have bn4:=bn.row
     repeat'(first|(with_reducible first|refine St.f ?_|refine V_c ?_|refine eDn ?_|refine And.intro ?_ ?_|refine aJ ?_ ?_|refine aQ ?_)|((refine aT ?_);intro K hK)|((with_reducible refine So.f ?_);intro K hK;simp(contextual:=true)only [go_sem,simprocAttr])|((with_reducible refine hK _ ?_);clear hK K)|((with_reducible refine aG 40 ?_);refine EvCall.rr (sp_MapElement_lo2) jW ?_)|((with_reducible refine aG 45 ?_);refine EvCall.rr (sp_ElementMap_lo2) gN ?_)|((with_reducible refine aG 52 ?_);refine EvCall.rr (pN (a:=n.parts) (b:=R.getD i []) ?_ ?_ ?_ ?_) mU ?_)|(refine fun(hc:(_:Bool)=_)=>?_;try simp only [hcS]at hc))
     all_goals try exact om_
     all_goals try(exfalso;omega)
     all_goals try exact absurd hn3 (by assumption)
     refine⟨⟨i+1,by omega,(by trivial)⟩,by simp only;omega,Imp.ao hX⟩
    ·obtain rfl:i=R.length:=by omega
     repeat'(first|(with_reducible first|refine St.f ?_|refine V_c ?_|refine eDn ?_|refine And.intro ?_ ?_|refine aJ ?_ ?_|refine aQ ?_)|((refine aT ?_);intro K hK)|((with_reducible refine So.f ?_);intro K hK;simp(contextual:=true)only [go_sem,simprocAttr])|((with_reducible refine hK _ ?_);clear hK K)|(refine fun(hc:(_:Bool)=_)=>?_;try simp only [hcS]at hc))
     all_goals try exact om_
     all_goals try(exfalso;omega)
     (first|refine aB ?_|refine aA ?_);simp only [go_sem,simprocAttr,Tryz.f7]
  ·repeat'(first|(with_reducible first|refine St.f ?_|refine V_c ?_|refine eDn ?_|refine And.intro ?_ ?_|refine aJ ?_ ?_|refine aQ ?_)|((refine aT ?_);intro K hK)|((with_reducible refine So.f ?_);intro K hK;simp(contextual:=true)only [go_sem,simprocAttr])|((with_reducible refine hK _ ?_);clear hK K)|((with_reducible refine aG 45 ?_);refine EvCall.rq (a:=(fL (f:=f) (x:=x) (e:=e) (m:=m) (code:=code) (by first|omega|assumption|rfl|exact(by assumption:SMB _).src|exact(by assumption:SMB _).tgt) (by first|omega|assumption|rfl|exact(by assumption:SMB _).src|exact(by assumption:SMB _).tgt))) (b:=gN) (c:=?_);all_goals try simp only [go_sem,simprocAttr])|((with_reducible refine aG 46 ?_);refine EvCall.rq (a:=(eQ (f:=f) (x:=x) (e:=e) (m:=m) (code:=code) (by first|omega|assumption|rfl|exact(by assumption:SMB _).src|exact(by assumption:SMB _).tgt) (by first|omega|assumption|rfl|exact(by assumption:SMB _).src|exact(by assumption:SMB _).tgt))) (b:=fN) (c:=?_);all_goals try simp only [go_sem,simprocAttr])|((with_reducible refine aG 39 ?_);refine EvCall.rr (oU (f:=m) (g:=m) ?_ ?_) mV ?_)|(refine fun(hc:(_:Bool)=_)=>?_;try simp only [hcS]at hc))
   all_goals try exact om_
   all_goals try(exfalso;omega)
   all_goals((first|refine aB ?_|refine aA ?_);simp only [go_sem,simprocAttr,Tryz.f7])
end Go.Eng
