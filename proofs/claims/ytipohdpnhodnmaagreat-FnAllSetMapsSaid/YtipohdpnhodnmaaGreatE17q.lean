/- DrawFindSetIso: what is known of what it draws. -/
import Derived.Test.YtipohdpnhodnmaaGreatE09y
set_option linter.unusedSimpArgs false
set_option linter.unusedVariables false
set_option maxRecDepth 100000
set_option maxHeartbeats 32000000
namespace Go.Eng
open Go Go.Proofs Go.Cats
attribute [local go_sem] List.set_cons_zero List.set_cons_succ cond_true cond_false
abbrev fbO (n:Nat) (f:SF):Sv:= .agg [iv f.shape.ob, .sl n, .sl (n+1), .sl (n+2), .bor [(n+3,1)] (aD f.shape.co), .sl (n+4), .sl (n+5)]
theorem mN:aF Tryz.prog 8:=⟨_,Tryz.func8,rfl,rfl⟩
theorem mH {l:List Int} (h:CodeOk l):
  SpecE Tryz.prog 8 [.bor [] (bys l)] [] (fun z:SF×SF×Bool=>SFB z.1∧SFB z.2.1∧(z.2.2=false→z.2.1=z.1∧¬IsSF z.1)) (fun z=> .tup [fbO 0 z.1,fbO (bif z.2.2 then 6 else 0) z.2.1]) (fun z=>sfW 0 z.1++(bif z.2.2 then sfW 6 z.2.1 else [])):=by
 have hF:=aF9 (l:=l) h.len
 have hs:=h.src
 generalize from_ l=s at hF hs
 have hB:=aGd hs
 obtain⟨hB1,hB2⟩:=aI9 hs
 generalize wG s=d at hB hB1 hB2
 obtain⟨c,t⟩:=d
 simp only at hB hB1 hB2
 refine gI (E:=TE) 0 Tryz.func8 rfl (by simp [Tryz.f8]) fun X hn hX=>?_
 by_cases hc1:IsCat c
 ·have hD:=aDg (size:=4) hB1 hB2 hc1 (by decide) (by decide)
  repeat'(first|(refine jF hD pB [(0,2),(1,3),(2,4),(3,5),(4,6),(5,7),(6,8),(7,9),(8,10),(9,11),(10,12)] [] (by simp only [go_sem,simprocAttr];rfl) (by simp [go_sem]) (by simp [go_sem]<;>(repeat'(first|rfl|constructor))) ?_;intro z hz;obtain⟨f,t2⟩:=z;obtain⟨z1,z2⟩:=hz;simp only at z1 z2;simp only [go_sem,simprocAttr])|(refine bH 3 (Imp.cellRd 13 4 10 _ _ _ (aD f.shape.co) rfl (by decide) rfl rfl) ?_;simp only [go_sem,simprocAttr])|((with_reducible refine(id ?_:V _ _ (Code.region 2 _ _) _ _));refine fQ 2 (by rw [hn];rfl) ?_;intro K hK)|((with_reducible refine fW ?_);intro K hK;simp(contextual:=true)only [go_sem,simprocAttr])|(with_reducible refine dN ?_)|(with_reducible first|refine St.f ?_|refine V_c ?_|refine eDn ?_|refine And.intro ?_ ?_|refine aI ?_ ?_)|((refine aQ ?_);intro K hK)|((with_reducible refine So.f ?_);intro K hK;simp(contextual:=true)only [go_sem,simprocAttr])|((with_reducible refine hK _ ?_);clear hK K)|((with_reducible refine aC 38 ?_);refine EvCall.mr (hF) wL [(0,2)] [] ?_)|((with_reducible refine aC 40 ?_);refine EvCall.mr (hB) wV [(0,2),(1,3),(2,4),(3,5),(4,6)] [] ?_)|(refine fun(hc:(_:Bool)=_)=>?_;try simp only [hcS]at hc))
  all_goals try exact om_
  by_cases hI:IsSF f
  ·have hN:=aP (n:=3) z2
   have hN1:=aN (n:=3) z2
   generalize aM t2 3=t3 at hN hN1
   by_cases h0:0<aK t2 3
   ·generalize aK t2 3=d at hN h0
    have hM:=aBq hN1 hI z1
    repeat'(first|((with_reducible refine(id ?_:V _ _ (Code.region 4 _ _) _ _));refine fQ 4 (by rw [hn];rfl) ?_;intro K hK)|(refine jF hM aCD [(0,2),(1,14),(2,15),(3,16),(4,17),(5,18),(6,19),(7,20)] [7,8,9,10,11,12,3,4,5,6] (by simp only [go_sem,simprocAttr];rfl) (by simp [go_sem]) (by simp [go_sem]<;>(repeat'(first|rfl|constructor))) ?_;intro y hy;simp only [go_sem,simprocAttr])|((with_reducible refine(id ?_:V _ _ Code.ret _ _));refine gR (Imp.trans (Imp.arrAb 17 _ (aD y.1.shape.co) rfl rfl) (Imp.cellRd 1 4 17 _ _ _ (aD y.1.shape.co) rfl (by decide) rfl rfl)) ?_;simp only [go_sem,simprocAttr])|((with_reducible refine(id ?_:V _ _ (Code.region 2 _ _) _ _));refine fQ 2 (by rw [hn];rfl) ?_;intro K hK)|((with_reducible refine fW ?_);intro K hK;simp(contextual:=true)only [go_sem,simprocAttr])|(with_reducible refine dN ?_)|(with_reducible first|refine St.f ?_|refine V_c ?_|refine eDn ?_|refine And.intro ?_ ?_|refine aI ?_ ?_)|((refine aQ ?_);intro K hK)|((with_reducible refine So.f ?_);intro K hK;simp(contextual:=true)only [go_sem,simprocAttr])|((with_reducible refine hK _ ?_);clear hK K)|((with_reducible refine aC 41 ?_);refine EvCall.rr (eD (f:=f) ?_) dJ ?_)|((with_reducible refine aC 42 ?_);refine EvCall.mr (hN) aG [(0,2)] [3,4,5,6] ?_)|(refine fun(hc:(_:Bool)=_)=>?_;try simp only [hcS]at hc))
    all_goals try exact om_
    all_goals try exact absurd hI (by assumption)
    all_goals try(exfalso;omega)
    all_goals refine⟨(f,y.1,true),⟨z1,hy.1,fun q=>Bool.noConfusion q⟩,?_⟩
    all_goals((first|refine aB ?_|refine aA ?_);simp only [go_sem,simprocAttr,Tryz.f8])
    all_goals repeat'(first|rfl|constructor)
   ·generalize aK t2 3=d at hN h0
    have hV:=aDi (size:=4) hN1 z1.shape hI.cat (by decide) (by decide)
    repeat'(first|((with_reducible refine(id ?_:V _ _ (Code.region 8 _ _) _ _));exact absurd hI (by assumption))|((with_reducible refine(id ?_:V _ _ (Code.region 8 _ _) _ _));refine aI0 8 aCT (by rw [hn];rfl) ?_;intro K hK)|(refine aHU hV pB [(0,2),(1,14),(2,15),(3,16),(4,17),(5,18),(6,19)] [7,8,9,10,3,4,5,6] (f,t3) ⟨z1,hN1⟩ (by simp only [go_sem,simprocAttr];rfl) (by simp [go_sem]) (by simp [go_sem]<;>(repeat'(first|rfl|constructor))) (by kernel_rfl) ?_;intro y hy;simp only [go_sem,simprocAttr])|((with_reducible refine aHV ?_);intro K hK;simp(contextual:=true)only [go_sem,simprocAttr])|((with_reducible refine iK ?_);intro K hK;simp(contextual:=true)only [go_sem,simprocAttr])|(with_reducible refine fJ (by kernel_rfl) ?_)|((with_reducible refine(id ?_:V _ _ Code.ret _ _));refine gR (Imp.cellRd 1 4 17 _ _ _ (aD y.1.shape.co) rfl (by decide) rfl rfl) ?_;simp only [go_sem,simprocAttr])|(with_reducible first|refine St.f ?_|refine V_c ?_|refine eDn ?_|refine And.intro ?_ ?_|refine aI ?_ ?_)|((refine aQ ?_);intro K hK)|((with_reducible refine So.f ?_);intro K hK;simp(contextual:=true)only [go_sem,simprocAttr])|((with_reducible refine hK _ ?_);clear hK K)|((with_reducible refine aC 41 ?_);refine EvCall.rr (eD (f:=f) ?_) dJ ?_)|((with_reducible refine aC 42 ?_);refine EvCall.mr (hN) aG [(0,2)] [3,4,5,6] ?_)|(refine fun(hc:(_:Bool)=_)=>?_;try simp only [hcS]at hc))
    all_goals try exact om_
    all_goals try exact absurd hI (by assumption)
    all_goals try(exfalso;omega)
    all_goals refine⟨(f,y.1,true),⟨z1,hy.1,fun q=>Bool.noConfusion q⟩,?_⟩
    all_goals((first|refine aB ?_|refine aA ?_);simp only [go_sem,simprocAttr,Tryz.f8])
    all_goals repeat'(first|rfl|constructor)
  ·repeat'(first|(with_reducible first|refine St.f ?_|refine V_c ?_|refine eDn ?_|refine And.intro ?_ ?_|refine aI ?_ ?_)|((refine aQ ?_);intro K hK)|((with_reducible refine So.f ?_);intro K hK;simp(contextual:=true)only [go_sem,simprocAttr])|((with_reducible refine hK _ ?_);clear hK K)|((with_reducible refine aC 41 ?_);refine EvCall.rr (eD (f:=f) ?_) dJ ?_)|(refine fun(hc:(_:Bool)=_)=>?_;try simp only [hcS]at hc))
   all_goals try exact om_
   all_goals try exact absurd (by assumption) hI
   all_goals refine⟨(f,f,false),⟨z1,z1,fun _=>⟨rfl,hI⟩⟩,?_⟩
   all_goals((first|refine aB ?_|refine aA ?_);simp only [go_sem,simprocAttr,Tryz.f8])
   all_goals repeat'(first|rfl|constructor)
 ·have hD:=aBp (s:=t) (size:=4) hB2 hc1
  have hfb:SFB ⟨c,[],[]⟩:=⟨hB2,by simp,by simp,fun a ha=>by simp at ha⟩
  have hn0:¬IsSF ⟨c,[],[]⟩:=fun q=>hc1 q.cat
  have hf0:=eD (f:=⟨c,[],[]⟩) hfb
  rw [tH hn0]at hf0
  repeat'(first|(refine bH 3 (Imp.adoptBi 7 5 _ _ rfl rfl rfl (by rw [hX];rfl)) ?_;refine gR (Imp.adoptBs 7 6 _ _ rfl rfl rfl (by rw [hX];rfl)) ?_;simp only [go_sem,simprocAttr])|(with_reducible first|refine St.f ?_|refine V_c ?_|refine eDn ?_|refine And.intro ?_ ?_|refine aI ?_ ?_)|((refine aQ ?_);intro K hK)|((with_reducible refine So.f ?_);intro K hK;simp(contextual:=true)only [go_sem,simprocAttr])|((with_reducible refine hK _ ?_);clear hK K)|((with_reducible refine aC 38 ?_);refine EvCall.mr (hF) wL [(0,2)] [] ?_)|((with_reducible refine aC 40 ?_);refine EvCall.mr (hB) wV [(0,2),(1,3),(2,4),(3,5),(4,6)] [] ?_)|((with_reducible refine aC 39 ?_);refine EvCall.mr (hD) pB [(0,2),(1,3),(2,4),(3,5),(4,6)] [] ?_)|((with_reducible refine aC 41 ?_);refine EvCall.mr (hf0) dJ [] [3,4,5,6,8,9] ?_)|(refine fun(hc:(_:Bool)=_)=>?_;try simp only [hcS]at hc))
  all_goals try exact om_
  refine⟨(⟨c,[],[]⟩,⟨c,[],[]⟩,false),⟨hfb,hfb,fun _=>⟨rfl,hn0⟩⟩,?_⟩
  (first|refine aB ?_|refine aA ?_);simp only [go_sem,simprocAttr,Tryz.f8]
  all_goals repeat'(first|rfl|constructor)
end Go.Eng
