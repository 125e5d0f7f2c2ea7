/- The law FnAllSetMaps: its body. -/
import Derived.Test.YtipohdpnhodnmaaGreatQ41y
import Derived.Test.YtipohdpnhodnmaaGreatE17q
import Derived.Test.YtipohdpnhodnmaaGreatA15q
set_option linter.unusedSimpArgs false
set_option linter.unusedVariables false
set_option maxRecDepth 100000
set_option maxHeartbeats 32000000
namespace Go.Eng
open Go Go.Proofs Go.Cats
attribute [local go_sem] List.set_cons_zero List.set_cons_succ cond_true cond_false
def AllO (f g:SF) (R:List (List (List Int))) (code:Int):Prop:=(200<(allM f g false).length∧R=[]∧code=3)∨((allM f g false).length≤200∧R=allM f g false∧code=0)
theorem AllO.ex (f g:SF):∃R code,AllO f g R code:=by
 rcases Nat.lt_or_ge 200 (allM f g false).length with h|h
 ·exact⟨_,_, .inl ⟨h,rfl,rfl⟩⟩
 ·exact⟨_,_, .inr ⟨h,rfl,rfl⟩⟩
theorem xR {f g:SF} {R:List (List (List Int))} {code:Int} (hf:SFB f) (hg:SFB g) (hp:SPair f g) (he:f.elems≤12) (h:AllO f g R code):Spec Tryz.prog 12 [sfV f,sfV g] [] (.tup [.sl 0,iv code]) [(0,⟨1, .arr (aU R)⟩)]:=by
 rcases h with⟨hD,rfl,rfl⟩|⟨hD,rfl,rfl⟩
 ·exact aI4 (sM hf hg hp he hD)
 ·exact lV hf hg hp he hD
theorem aI8 {f g:SF} {c:Int} (h:f.bad g c):c=1∨c=5∨c=3:=by
 rcases h with⟨⟨_,rfl⟩|⟨_,_,rfl⟩|⟨_,_,rfl⟩,h⟩|⟨_,_,rfl⟩
 ·exact .inl rfl
 ·exact .inr (.inl rfl)
 ·exact absurd rfl h
 ·exact .inr (.inr rfl)
theorem xS {l:List Int} (hl:(l.length:Int)≤9223372036854775807) (hb:∀i,i<l.length→0≤l.getD i 0∧l.getD i 0<256):Spec Tryz.prog 3 [.bor [] (bys l)] [] (bv true) []:=by
 refine aE (E:=TE) 0 Tryz.func3 rfl (by simp [Tryz.f3]) fun X hn hX=>?_
 by_cases h4:4096<l.length
 ·repeat'(first|(with_reducible first|refine St.f ?_|refine V_c ?_|refine eDn ?_|refine And.intro ?_ ?_|refine aI ?_ ?_|refine aL ?_)|((refine aQ ?_);intro K hK)|((with_reducible refine So.f ?_);intro K hK;simp(contextual:=true)only [go_sem,simprocAttr])|((with_reducible refine hK _ ?_);clear hK K)|((with_reducible refine aC 7 ?_);refine EvCall.rr (aLt (l:=l) ?_) aGF ?_)|(refine fun(hc:(_:Bool)=_)=>?_;try simp only [hcS]at hc))
  all_goals try exact om_
  all_goals try(exfalso;omega)
  (first|refine aB ?_|refine aA ?_);simp only [go_sem,simprocAttr,Tryz.f3]
 ·have hk:CodeOk l:=⟨by omega,hb⟩
  have hD:=mH hk
  repeat'(first|(refine jF hD mN [(0,0),(1,1),(2,2),(3,3),(4,4),(5,5),(6,6),(7,7),(8,8),(9,9),(10,10),(11,11)] [] (by simp only [go_sem,simprocAttr];rfl) (by simp [go_sem]) (by simp [go_sem]<;>(repeat'(first|rfl|constructor))) ?_;intro z hz;obtain⟨f,g,b⟩:=z;simp only at hz;cases b<;>simp only [go_sem,simprocAttr])|((with_reducible refine(id ?_:V _ _ (Code.region 3 _ _) _ _));refine fQ 3 (by rw [hn];rfl) ?_;intro K hK)|((with_reducible refine fW ?_);intro K hK;simp(contextual:=true)only [go_sem,simprocAttr])|(with_reducible refine dN ?_)|(with_reducible first|refine St.f ?_|refine V_c ?_|refine eDn ?_|refine And.intro ?_ ?_|refine aI ?_ ?_|refine aL ?_)|((refine aQ ?_);intro K hK)|((with_reducible refine So.f ?_);intro K hK;simp(contextual:=true)only [go_sem,simprocAttr])|((with_reducible refine hK _ ?_);clear hK K)|((with_reducible refine aC 7 ?_);refine EvCall.rr (aLt (l:=l) ?_) aGF ?_)|(refine fun(hc:(_:Bool)=_)=>?_;try simp only [hcS]at hc))
  all_goals try exact om_
  all_goals try(exfalso;omega)
  ·obtain⟨z1,z2,z3⟩:=hz
   obtain⟨e,hn0⟩:=z3 rfl
   subst e
   have hbad:g.bad g 1:= .inl ⟨.inl ⟨fun q=>hn0 q.1,rfl⟩,by decide⟩
   have sp_FindSetIso_loc:=qB (lY z1 z1 hbad)
   have sp_spec_FindSetIso_loc:=qB (iC z1 z1 hbad)
   have sp_same29_loc:=dS (a:=[]) (b:=[]) (by decide) (by decide) (fun i hi=>by simp at hi) (fun i hi=>by simp at hi)
   repeat'(first|(with_reducible first|refine St.f ?_|refine V_c ?_|refine eDn ?_|refine And.intro ?_ ?_|refine aI ?_ ?_|refine aL ?_)|((refine aQ ?_);intro K hK)|((with_reducible refine So.f ?_);intro K hK;simp(contextual:=true)only [go_sem,simprocAttr])|((with_reducible refine hK _ ?_);clear hK K)|((with_reducible refine aC 9 ?_);refine EvCall.rr (sp_FindSetIso_loc) fG ?_)|((with_reducible refine aC 10 ?_);refine EvCall.rr (sp_spec_FindSetIso_loc) cY ?_)|((with_reducible refine aC 11 ?_);refine EvCall.rr (sp_same29_loc) cW ?_)|(refine fun(hc:(_:Bool)=_)=>?_;try simp only [hcS]at hc))
   all_goals try exact om_
   all_goals try(exfalso;omega)
   all_goals((first|refine aB ?_|refine aA ?_);simp only [go_sem,simprocAttr,Tryz.f3])
   all_goals try rfl
  ·obtain⟨z1,z2, -⟩:=hz
   rcases aOj f g with⟨c,hbad⟩|⟨hp,he⟩
   ·have sp_FindSetIso_loc:=qB (lY z1 z2 hbad)
    have sp_spec_FindSetIso_loc:=qB (iC z1 z2 hbad)
    have sp_same29_loc:=dS (a:=[]) (b:=[]) (by decide) (by decide) (fun i hi=>by simp at hi) (fun i hi=>by simp at hi)
    rcases aI8 hbad with rfl|rfl|rfl
    all_goals
     repeat'(first|(with_reducible first|refine St.f ?_|refine V_c ?_|refine eDn ?_|refine And.intro ?_ ?_|refine aI ?_ ?_|refine aL ?_)|((refine aQ ?_);intro K hK)|((with_reducible refine So.f ?_);intro K hK;simp(contextual:=true)only [go_sem,simprocAttr])|((with_reducible refine hK _ ?_);clear hK K)|((with_reducible refine aC 9 ?_);refine EvCall.rr (sp_FindSetIso_loc) fG ?_)|((with_reducible refine aC 10 ?_);refine EvCall.rr (sp_spec_FindSetIso_loc) cY ?_)|((with_reducible refine aC 11 ?_);refine EvCall.rr (sp_same29_loc) cW ?_)|(refine fun(hc:(_:Bool)=_)=>?_;try simp only [hcS]at hc))
     all_goals try exact om_
     all_goals try(exfalso;omega)
     all_goals((first|refine aB ?_|refine aA ?_);simp only [go_sem,simprocAttr,Tryz.f3])
     all_goals try rfl
   ·obtain⟨R,c3,hO⟩:=AllO.ex f f
    have hff:SPair f f:=⟨hp.src,hp.src,rfl⟩
    have sp_AllSetMaps_loc:=xR z1 z1 hff he hO
    cases hQ:(if f.sizes=g.sizes then allM f g true else [])with
    |nil=>
     have sp_same29_loc:=dS (a:=[]) (b:=[]) (by decide) (by decide) (fun i hi=>by simp at hi) (fun i hi=>by simp at hi)
     obtain⟨i1,i2⟩:Spec Tryz.prog 9 [sfV f,sfV g] [] (.tup [.v (.slice none 0 0),iv 4]) []∧Spec Tryz.prog 10 [sfV f,sfV g] [] (.tup [.v (.slice none 0 0),iv 4]) []:=by
      by_cases hs:f.sizes=g.sizes
      ·rw [if_pos hs]at hQ
       exact⟨sN z1 z2 hp he hs hQ,mZ z1 z2 hp he hs hQ⟩
      ·exact⟨vW z1 z2 hp he hs,oS z1 z2 hp he hs⟩
     have sp_FindSetIso_loc:=qB i1
     have sp_spec_FindSetIso_loc:=qB i2
     have hc3:c3=3∨c3=0:=by rcases hO with⟨_,_,h⟩|⟨_,_,h⟩;exact .inl h;exact .inr h
     rcases hc3 with rfl|rfl
     all_goals
      repeat'(first|(with_reducible first|refine St.f ?_|refine V_c ?_|refine eDn ?_|refine And.intro ?_ ?_|refine aI ?_ ?_|refine aL ?_)|((refine aQ ?_);intro K hK)|((with_reducible refine So.f ?_);intro K hK;simp(contextual:=true)only [go_sem,simprocAttr])|((with_reducible refine hK _ ?_);clear hK K)|((with_reducible refine aC 9 ?_);refine EvCall.rr (sp_FindSetIso_loc) fG ?_)|((with_reducible refine aC 10 ?_);refine EvCall.rr (sp_spec_FindSetIso_loc) cY ?_)|((with_reducible refine aC 11 ?_);refine EvCall.rr (sp_same29_loc) cW ?_)|((with_reducible refine aC 12 ?_);refine EvCall.rr (sp_AllSetMaps_loc) gU ?_)|(refine fun(hc:(_:Bool)=_)=>?_;try simp only [hcS]at hc))
      all_goals try exact om_
      all_goals try(exfalso;omega)
      all_goals((first|refine aB ?_|refine aA ?_);simp only [go_sem,simprocAttr,Tryz.f3])
      all_goals try rfl
    |cons Q D=>
     have hs:f.sizes=g.sizes:=by
      refine Classical.byContradiction fun q=>?_
      rw [if_neg q]at hQ;cases hQ
     rw [if_pos hs]at hQ
     obtain⟨qm,qb⟩:=aJ2 hp hs (by rw [hQ];exact List.mem_cons_self)
     have hI:IsoM ⟨f,g,Q⟩:=⟨qm,hs,fun x hx=>by
      show Bij (g.sizes.getD x 0).toNat _
      rw [←hs];exact qb x hx⟩
     have ql:Q.length=f.sizes.length:=qm.fits.len
     have szl:=hp.src.szl
     have o8:=hp.src.cat.toShape.ob8
     have qr:∀x,x<Q.length→(Q.getD x []).length≤1048576:=fun x hx=>by
      have h1:=(qb x hx).len
      have:=hp.src.szw x (by omega)
      omega
     have bM:SMB ⟨f,g,Q⟩:=⟨z1,z2,by show Q.length≤_;omega,qr⟩
     have sp_FindSetIso_loc:=uF z1 z2 hp he hs hQ
     have sp_spec_FindSetIso_loc:=oE z1 z2 hp he hs hQ
     rcases hO with⟨h2,rfl,rfl⟩|⟨h2,rfl,rfl⟩
     ·repeat'(first|(with_reducible first|refine St.f ?_|refine V_c ?_|refine eDn ?_|refine And.intro ?_ ?_|refine aI ?_ ?_|refine aL ?_)|((refine aQ ?_);intro K hK)|((with_reducible refine So.f ?_);intro K hK;simp(contextual:=true)only [go_sem,simprocAttr])|((with_reducible refine hK _ ?_);clear hK K)|((with_reducible refine aC 9 ?_);refine EvCall.rr (sp_FindSetIso_loc) fG ?_)|((with_reducible refine aC 10 ?_);refine EvCall.rr (sp_spec_FindSetIso_loc) cY ?_)|((with_reducible refine aC 11 ?_);refine EvCall.rr (dS (a:=Q) (b:=Q) ?_ ?_ ?_ ?_) cW ?_)|((with_reducible refine aC 12 ?_);refine EvCall.rr (sp_AllSetMaps_loc) gU ?_)|(refine fun(hc:(_:Bool)=_)=>?_;try simp only [hcS]at hc))
      all_goals try exact om_
      all_goals try(exfalso;omega)
      all_goals try exact absurd rfl (by assumption)
      all_goals((first|refine aB ?_|refine aA ?_);simp only [go_sem,simprocAttr,Tryz.f3])
      all_goals try rfl
     ·have hct:=aIc hp hs qm qb
      have hA2:=lV z1 z2 hp he (by rw [hct];exact h2)
      have nd:=vF hff (nu (dD f.sizes)+1) _ (iM false hff)
      have nd:(allM f f false).Nodup:=nd
      have hin:iuP f f.sizes.length∈allM f f false:=(mJ hff).2 (aQ8 hp.src)
      have hrow:∀i,i<(allM f f false).length→IsSM ⟨f,f,(allM f f false).getD i []⟩:=fun i hi=>(mJ hff).1 (cD (d:=[]) hi)
      have hInv:=pS hI bM
      have hThen:=uH qm (aND qm hs qb) bM (aNC hI bM) rfl
      have eT:thM ⟨f,g,Q⟩ ⟨g,f,bwP Q Q.length⟩=⟨f,f,iuP f f.sizes.length⟩:=by
       unfold thM
       show(⟨f,f,thP Q (bwP Q Q.length) Q.length⟩:SM)=_
       rw [aPy ql qb]
      rw [eT]at hThen
      have hId:=oO hp.src z1
      have bI:=aNS hp.src z1
      have hS:=aE0 (f:=⟨f,f,iuP f f.sizes.length⟩) (g:=⟨f,f,iuP f f.sizes.length⟩) bI bI
      rw [mQ rfl]at hS
      generalize allM f g false=R2 at hA2 hct
      generalize allM f f false=R at *
      repeat'(first|(with_reducible first|refine St.f ?_|refine V_c ?_|refine eDn ?_|refine And.intro ?_ ?_|refine aI ?_ ?_|refine aL ?_)|((refine aQ ?_);intro K hK)|((with_reducible refine So.f ?_);intro K hK;simp(contextual:=true)only [go_sem,simprocAttr])|((with_reducible refine hK _ ?_);clear hK K)|((with_reducible refine aC 9 ?_);refine EvCall.rr (sp_FindSetIso_loc) fG ?_)|((with_reducible refine aC 10 ?_);refine EvCall.rr (sp_spec_FindSetIso_loc) cY ?_)|((with_reducible refine aC 11 ?_);refine EvCall.rr (dS (a:=Q) (b:=Q) ?_ ?_ ?_ ?_) cW ?_)|((with_reducible refine aC 12 ?_);refine EvCall.mr (sp_AllSetMaps_loc) gU [(0,16)] [0,1,2,3,4,5] ?_;clear sp_AllSetMaps_loc)|((with_reducible refine aC 13 ?_);refine EvCall.mr (hInv) tA [(0,18),(1,19),(2,20),(3,21),(4,22),(5,23),(6,24),(7,25),(8,26),(9,27),(10,28),(11,29),(12,30)] [0,1,2,3,4,5,6,7,8,9,10,11,14] ?_)|((with_reducible refine aC 14 ?_);refine EvCall.mr (hThen) xM [(0,32),(1,33),(2,34),(3,35),(4,36),(5,37),(6,38),(7,39),(8,40),(9,41),(10,42),(11,43),(12,44)] [0,1,2,3,4,5,6,7,8,9,10,11,14,18,19,20,21,22,23,24,25,26,27,28,29,30] ?_)|((with_reducible refine aC 15 ?_);refine EvCall.mr (hId) rL [(0,46),(1,47),(2,48),(3,49),(4,50),(5,51),(6,52),(7,53),(8,54),(9,55),(10,56),(11,57),(12,58)] [0,1,2,3,4,5] ?_)|((with_reducible refine aC 12 ?_);refine EvCall.mr (hA2) gU [(0,60)] [0,1,2,3,4,5,6,7,8,9,10,11] ?_)|((with_reducible refine aC 16 ?_);refine EvCall.mr (hS) aCG [] [32,33,34,35,36,37,38,39,40,41,42,43,44,46,47,48,49,50,51,52,53,54,55,56,57,58] ?_)|(refine fun(hc:(_:Bool)=_)=>?_;try simp only [hcS]at hc))
      all_goals try exact om_
      all_goals try(exfalso;omega)
      all_goals try exact absurd rfl (by assumption)
      refine aH (G:={p:Nat×Bool//p.1≤R.length∧(p.2=true↔∃j,j<p.1∧R.getD j []=iuP f f.sizes.length)}) (fun p=>[(21,iv p.1.1),(20, .v (.bool p.1.2)),(3, .ptr 12 0),(4, .ptr 13 0),(11, .ptr 17 0),(12, .ptr 31 0),(14, .ptr 45 0),(16, .ptr 59 0),(18, .sl 60),(9, .sl 16),(7, .bor [(0,1),(1,1),(2,1),(3,1),(4,1),(5,1),(6,1),(7,1),(8,1),(9,1),(10,1),(11,1),(15,1)] (aD Q))]) [] (fun p=>[]) [] (fun p=>R.length-p.1.1) ⟨(0,false),Nat.zero_le _,by simp⟩ ?_ ?_
      ·exact Imp.au hX
      rintro⟨⟨i,b⟩,hi0,hbi⟩
      simp only at hi0 hbi
      simp only [go_sem,simprocAttr]
      rcases Nat.lt_or_ge i R.length with hi|hi
      ·have hL:R.length≤200:=h2
       have hlen:∀k,k<R.length→(R.getD k []).length≤1048576:=fun k hk=>by
        have h1:(R.getD k []).length=f.sizes.length:=(hrow k hk).fits.len
        omega
       have hrw:∀k,k<R.length→∀x,x<(R.getD k []).length→((R.getD k []).getD x []).length≤1048576:=fun k hk x hx=>by
        have h1:(R.getD k []).length=f.sizes.length:=(hrow k hk).fits.len
        have h3:(((R.getD k []).getD x []).length:Int)=f.sizes.getD x 0:=((hrow k hk).fits.map x hx).1
        have:=hp.src.szw x (by omega)
        omega
       have ib:=bI.parts
       have ir:=bI.row
       have ib:(iuP f f.sizes.length).length≤1048576:=ib
       have ir:∀x,x<(iuP f f.sizes.length).length→((iuP f f.sizes.length).getD x []).length≤1048576:=ir
       have b1:=hlen i hi
       have b2:=hrw i hi
       have step:∀b',(b'=true↔(b=true∨R.getD i []=iuP f f.sizes.length))→(b'=true↔∃j,j<i+1∧R.getD j []=iuP f f.sizes.length):=fun b' hb'=>by
        rw [hb',hbi]
        constructor
        ·rintro(⟨j,h1,h2⟩|h)
         ·exact⟨j,by omega,h2⟩
         ·exact⟨i,by omega,h⟩
        ·rintro⟨j,h1,h2⟩
         rcases Nat.lt_or_ge j i with q|q
         ·exact .inl ⟨j,q,h2⟩
         ·obtain rfl:j=i:=by omega
          exact .inr h2
       rcases i with _|k
       ·cases b
        ·repeat'(first|(with_reducible first|refine St.f ?_|refine V_c ?_|refine eDn ?_|refine And.intro ?_ ?_|refine aI ?_ ?_|refine aL ?_)|((refine aQ ?_);intro K hK)|((with_reducible refine So.f ?_);intro K hK;simp(contextual:=true)only [go_sem,simprocAttr])|((with_reducible refine hK _ ?_);clear hK K)|((with_reducible refine aC 11 ?_);refine EvCall.rr (dS (a:=R.getD 0 []) (b:=iuP f f.sizes.length) ?_ ?_ ?_ ?_) cW ?_)|(refine fun(hc:(_:Bool)=_)=>?_;try simp only [hcS]at hc))
         all_goals try exact om_
         all_goals try(exfalso;omega)
         all_goals refine⟨⟨(1,dec (R.getD 0 []=iuP f f.sizes.length)),by simp only;omega,step _ (by simp [dec])⟩,by simp only;omega,Imp.ao hX⟩
        ·repeat'(first|(with_reducible first|refine St.f ?_|refine V_c ?_|refine eDn ?_|refine And.intro ?_ ?_|refine aI ?_ ?_|refine aL ?_)|((refine aQ ?_);intro K hK)|((with_reducible refine So.f ?_);intro K hK;simp(contextual:=true)only [go_sem,simprocAttr])|((with_reducible refine hK _ ?_);clear hK K)|(refine fun(hc:(_:Bool)=_)=>?_;try simp only [hcS]at hc))
         all_goals try exact om_
         all_goals try(exfalso;omega)
         all_goals refine⟨⟨(1,true),by simp only;omega,step _ (by simp)⟩,by simp only;omega,Imp.ao hX⟩
       ·have c1:=hlen k (by omega)
        have c2:=hrw k (by omega)
        have hne:R.getD (k+1) []≠R.getD k []:=fun e=>by
         rw [List.getD_eq_getElem?_getD,List.getElem?_eq_getElem hi,List.getD_eq_getElem?_getD,List.getElem?_eq_getElem (by omega)]at e
         exact List.pairwise_iff_getElem.1 nd k (k+1) (by omega) hi (by omega) e.symm
        have sp_same29_loc:Spec Tryz.prog 11 [.bor [] (aD (R.getD ((k:Int)+1).toNat [])), .bor [] (aD (R.getD ((k:Int)+1-1).toNat []))] [] (bv false) []:=by
         rw [show((k:Int)+1).toNat=k+1 by omega,show((k:Int)+1-1).toNat=k by omega]
         have:=dS (a:=R.getD (k+1) []) (b:=R.getD k []) b1 c1 b2 c2
         rwa [tH hne]at this
        cases b
        ·repeat'(first|(with_reducible first|refine St.f ?_|refine V_c ?_|refine eDn ?_|refine And.intro ?_ ?_|refine aI ?_ ?_|refine aL ?_)|((refine aQ ?_);intro K hK)|((with_reducible refine So.f ?_);intro K hK;simp(contextual:=true)only [go_sem,simprocAttr])|((with_reducible refine hK _ ?_);clear hK K)|((with_reducible refine aC 11 ?_);refine EvCall.rr (dS (a:=R.getD (k+1) []) (b:=iuP f f.sizes.length) ?_ ?_ ?_ ?_) cW ?_)|((with_reducible refine aC 11 ?_);refine EvCall.rr (sp_same29_loc) cW ?_)|(refine fun(hc:(_:Bool)=_)=>?_;try simp only [hcS]at hc))
         all_goals try exact om_
         all_goals try(exfalso;omega)
         all_goals refine⟨⟨(k+1+1,dec (R.getD (k+1) []=iuP f f.sizes.length)),by simp only;omega,step _ (by simp [dec])⟩,by simp only;omega,Imp.ao hX⟩
        ·repeat'(first|(with_reducible first|refine St.f ?_|refine V_c ?_|refine eDn ?_|refine And.intro ?_ ?_|refine aI ?_ ?_|refine aL ?_)|((refine aQ ?_);intro K hK)|((with_reducible refine So.f ?_);intro K hK;simp(contextual:=true)only [go_sem,simprocAttr])|((with_reducible refine hK _ ?_);clear hK K)|((with_reducible refine aC 11 ?_);refine EvCall.rr (sp_same29_loc) cW ?_)|(refine fun(hc:(_:Bool)=_)=>?_;try simp only [hcS]at hc))
         all_goals try exact om_
         all_goals try(exfalso;omega)
         all_goals refine⟨⟨(k+1+1,true),by simp only;omega,step _ (by simp)⟩,by simp only;omega,Imp.ao hX⟩
      ·obtain rfl:i=R.length:=by omega
       obtain rfl:b=true:=hbi.2 (by
        obtain⟨j,hj,e⟩:=mW (d:=[]) hin
        exact⟨j,hj,e⟩)
       repeat'(first|(with_reducible first|refine St.f ?_|refine V_c ?_|refine eDn ?_|refine And.intro ?_ ?_|refine aI ?_ ?_|refine aL ?_)|((refine aQ ?_);intro K hK)|((with_reducible refine So.f ?_);intro K hK;simp(contextual:=true)only [go_sem,simprocAttr])|((with_reducible refine hK _ ?_);clear hK K)|(refine fun(hc:(_:Bool)=_)=>?_;try simp only [hcS]at hc))
       all_goals try exact om_
       all_goals try(exfalso;omega)
       all_goals((first|refine aB ?_|refine aA ?_);simp only [go_sem,simprocAttr,Tryz.f3])
       all_goals try rfl
end Go.Eng
