/- Several texts in one: Z16, Z17. -/
import Derived.Test.YtbflkfamigcncaaGreatKbcx
import Derived.Test.YtbflkfamigcncaaGreatEngTaq
set_option linter.unusedSimpArgs false
set_option linter.unusedVariables false
set_option maxRecDepth 100000
set_option maxHeartbeats 32000000
section
namespace Go.Eng
open Go Go.Proofs Go.Cats
attribute [local go_sem] List.set_cons_zero List.set_cons_succ
abbrev aE4 (n:Nat) (f:Fun):Sv:= .agg [iv f.src.ob, .sl n, .sl (n+1), .sl (n+2), .sl (n+3),iv f.tgt.ob, .sl (n+4), .sl (n+5), .sl (n+6), .sl (n+7), .sl (n+8), .sl (n+9)]
abbrev aNn (n:Nat) (f:Fun):List (Nat×Rs):=[(n,⟨1, .arr (ints f.src.fr)⟩),(n+1,⟨1, .arr (ints f.src.to)⟩),(n+2,⟨1, .arr (ints f.src.id)⟩),(n+3,⟨1, .arr (aE f.src.co)⟩),(n+4,⟨1, .arr (ints f.tgt.fr)⟩),(n+5,⟨1, .arr (ints f.tgt.to)⟩),(n+6,⟨1, .arr (ints f.tgt.id)⟩),(n+7,⟨1, .arr (aE f.tgt.co)⟩),(n+8,⟨1, .arr (ints f.obs)⟩),(n+9,⟨1, .arr (ints f.ars)⟩)]
attribute [go_sem] aNn
/-! ### Constant functors -/
def ctF (c d:Cat) (y:Nat):Fun:=⟨c,d,List.replicate c.ob.toNat (y:Int),List.replicate c.fr.length (d.id.getD y 0)⟩
theorem aJM (x:Int) (n:Nat):List.replicate (n+1) x=List.replicate n x++[x]:=List.replicate_succ'
theorem aN4 (x:Int):List.replicate 0 x=[]:=rfl
namespace Zk
attribute [local go_sem] aN4
theorem sp_l06Constant {c d:Cat} {y:Nat} (hc:CatB c) (hd:CatB d) (sc:Shape c) (sd:Shape d) (hy:(y:Int)<d.ob):Spec Tryz.prog 89 [dN c,dN d,iv y] [] (aE4 0 (ctF c d y)) (aNn 0 (ctF c d y)):=by
 have c0:=sc.ob0
 have c8:=sc.ob8
 have c40:=sc.m40
 have dil:=sd.idl
 have hmk:=jJ (c:=c) (d:=d) (p:=List.replicate c.ob.toNat (y:Int)) (q:=List.replicate c.fr.length (d.id.getD y 0)) hc hd (by rw [List.length_replicate];omega) (by rw [List.length_replicate];omega)
 refine aD (E:=TE) 0 Tryz.func89 rfl (by simp [Tryz.f89]) fun X hn hX=>?_
 repeat'(first|refine wkQ ?_|refine Tw.f ?_ ?_|(refine fun(hc:(_:Bool)=_)=>?_;try simp only [hcS]at hc))
 all_goals try exact om_
 refine aH (G:={x:Nat//x≤c.ob.toNat∧(True)}) (fun⟨x,_⟩=>[(9,iv x),(7, .sl 3),(8, .sl 4)]) [2,3,4,6] (fun⟨x,_⟩=>[(3,⟨1, .arr (ints (List.replicate x (y:Int)))⟩),(4,⟨1, .arr (ints [])⟩)]) [3,4] (fun zz=>c.ob.toNat-zz.1) ⟨0,Nat.zero_le _,by first|trivial|simp⟩ ?_ ?_
 ·exact Imp.au hX
 rintro⟨x,hix,hwx⟩
 simp only [go_sem,simprocAttr]
 rcases Nat.lt_or_ge x c.ob.toNat with hlx|hgx
 ·have e1:=aJM (y:Int) x
  repeat'(first|refine wkQ ?_|refine Tw.f ?_ ?_|(refine fun(hc:(_:Bool)=_)=>?_;try simp only [hcS]at hc))
  all_goals try exact om_
  ·refine⟨⟨x+1,by omega,(by trivial)⟩,by simp only;omega,Imp.auto hX (by simp only [go_sem,simprocAttr,e1])⟩
 ·have ex:x=c.ob.toNat:=by omega
  subst ex
  repeat'(first|refine wkQ ?_|refine Tw.f ?_ ?_|(refine fun(hc:(_:Bool)=_)=>?_;try simp only [hcS]at hc))
  all_goals try exact om_
  refine aH (G:={a:Nat//a≤c.fr.length∧(True)}) (fun⟨a,_⟩=>[(10,iv a),(7, .sl 3),(8, .sl 4)]) [2,3,4,6] (fun⟨a,_⟩=>[(3,⟨1, .arr (ints (List.replicate c.ob.toNat (y:Int)))⟩),(4,⟨1, .arr (ints (List.replicate a (d.id.getD y 0)))⟩)]) [3,4] (fun zz=>c.fr.length-zz.1) ⟨0,Nat.zero_le _,by first|trivial|simp⟩ ?_ ?_
  ·exact Imp.au hX
  rintro⟨a,hia,hwa⟩
  simp only [go_sem,simprocAttr]
  rcases Nat.lt_or_ge a c.fr.length with hla|hga
  ·have e1:=aJM (d.id.getD y 0) a
   repeat'(first|refine wkQ ?_|refine Tw.f ?_ ?_|(refine fun(hc:(_:Bool)=_)=>?_;try simp only [hcS]at hc))
   all_goals try exact om_
   ·refine⟨⟨a+1,by omega,(by trivial)⟩,by simp only;omega,Imp.auto hX (by simp only [go_sem,simprocAttr,e1])⟩
  ·have ea:a=c.fr.length:=by omega
   subst ea
   repeat'(first|refine wkQ ?_|refine Tw.f ?_ ?_|(refine kcQ iA ?_;refine kwQ (hmk) [(0,5),(1,6),(2,7),(3,8),(4,9),(5,10),(6,11),(7,12),(8,13),(9,14)] [3,4] ?_)|(refine fun(hc:(_:Bool)=_)=>?_;try simp only [hcS]at hc))
   all_goals try exact om_
   ·(first|refine aB ?_|refine aA ?_);simp only [go_sem,simprocAttr,Tryz.f89]
    exact⟨⟨rfl,rfl,rfl,rfl,rfl,rfl,rfl,rfl,rfl,rfl⟩,rfl⟩
end Zk
/-! ### A functor drawn -/
structure DrFun (c:Cat) (f:Fun):Prop where
 src:f.src=c
 tgt:IsCat f.tgt
 obs:(f.obs.length:Int)=c.ob
 ars:f.ars.length=c.fr.length
theorem aF8 {c d:Cat} {g:Fun} (hd:IsCat d) (h:g∈dG c d):DrFun c g:=by
 obtain⟨h1,h2,_,h4⟩:=aAp (List.mem_of_mem_take h)
 have hF:=(WA_iff.1 h4).1
 exact⟨h1,by rw [h2];exact hd,hF.obl,hF.arl⟩
section
variable {s t:RnS} {c d:Cat} {o m:Int}
open Classical in
noncomputable def smF (c:Cat) (p:Cat×RnS):Fun×RnS:=
 if mP c p.1∧0<(dG c p.1).length then((dG c p.1).getD (aI p.2 (dG c p.1).length).toNat default,aL p.2 (dG c p.1).length)
 else if 0<p.1.ob then(if aI p.2 2=0 then(ctF c p.1 (aI (aL p.2 2) p.1.ob).toNat,aL (aL p.2 2) p.1.ob)else(cB c,aL p.2 2))
 else(cB c,p.2)
theorem aEl (h:mP c d∧0<(dG c d).length):smF c (d,t)=((dG c d).getD (aI t (dG c d).length).toNat default,aL t (dG c d).length):=if_pos h
theorem aFo (h:¬(mP c d∧0<(dG c d).length)) (h0:0<d.ob) (h2:aI t 2=0):smF c (d,t)=(ctF c d (aI (aL t 2) d.ob).toNat,aL (aL t 2) d.ob):=by unfold smF;rw [if_neg h,if_pos h0,if_pos h2]
theorem wM (h:¬(mP c d∧0<(dG c d).length)) (h0:0<d.ob) (h2:¬aI t 2=0):smF c (d,t)=(cB c,aL t 2):=by unfold smF;rw [if_neg h,if_pos h0,if_neg h2]
theorem wN (h:¬(mP c d∧0<(dG c d).length)) (h0:¬0<d.ob):smF c (d,t)=(cB c,t):=by unfold smF;rw [if_neg h,if_neg h0]
theorem aOc (ht:RnOk t) (hc:IsCat c) (hd:IsCat d):RnOk (smF c (d,t)).2∧DrFun c (smF c (d,t)).1:=by
 have c0:=hc.toShape.ob0
 have self:DrFun c (cB c):=⟨rfl,hc,by show((nums c.ob.toNat).length:Int)=_;rw [iK];omega,iK _⟩
 by_cases h:mP c d∧0<(dG c d).length
 ·rw [aEl h]
  have hb:=aX (n:=((dG c d).length:Int)) ht (by omega)
  refine⟨aO (n:=(dG c d).length) ht,aF8 hd ?_⟩
  have hk:(aI t (dG c d).length).toNat<(dG c d).length:=by omega
  rw [List.getD_eq_getElem?_getD,List.getElem?_eq_getElem hk]
  exact List.getElem_mem hk
 ·by_cases h0:0<d.ob
  ·by_cases h2:aI t 2=0
   ·rw [aFo h h0 h2]
    exact⟨aO (n:=d.ob) (aO (n:=2) ht),rfl,hd,by show((List.replicate _ _).length:Int)=_;rw [List.length_replicate];omega,by show(List.replicate _ _).length=_;rw [List.length_replicate]⟩
   ·rw [wM h h0 h2];exact⟨aO (n:=2) ht,self⟩
  ·rw [wN h h0];exact⟨ht,self⟩
end
noncomputable def kD (s:RnS) (c:Cat) (o m:Int):Fun×RnS:=smF c (cM o m 12 s)
theorem uS {s:RnS} {c:Cat} {o m:Int} (hs:RnOk s) (hc:IsCat c) (ho:o≤8) (hm:m≤40) (ho1:1≤o) (hm1:1≤m):RnOk (kD s c o m).2∧DrFun c (kD s c o m).1:=by
 obtain⟨h1,h2,_⟩:=iO ho hm ho1 hm1 12 s hs
 exact aOc h1 hc h2
theorem cL:aF Tryz.prog 184:=⟨_,Tryz.func184,rfl,rfl⟩
theorem aAY {s:RnS} {c:Cat} {o m:Int} (hs:RnOk s) (hc:IsCat c) (ho:o≤8) (hm:m≤40) (ho1:1≤o) (hm1:1≤m):Spec Tryz.prog 184 [.ptr 0 0,aM2 1 c,iv o,iv m] ((0,bK s)::aM4 1 c) (aE4 5 (kD s c o m).1) ((0,bK (kD s c o m).2)::(aM4 1 c++aNn 5 (kD s c o m).1)):=by
 refine aD (E:=TE) 5 Tryz.func184 rfl (by simp [Tryz.f184]) fun X hn hX=>?_
 obtain⟨k1,hd,_⟩:=iO ho hm ho1 hm1 12 s hs
 have hA:=lK hs ho hm
 have e:kD s c o m=smF c (cM o m 12 s):=rfl
 rw [e]
 clear e
 generalize cM o m 12 s=p at k1 hd hA⊢
 obtain⟨d,t⟩:=p
 simp only at k1 hd hA⊢
 have sc:=hc.toShape
 have sd:=hd.toShape
 have c0:=sc.ob0
 have c8:=sc.ob8
 have d0:=sd.ob0
 have d8:=sd.ob8
 have bc:=jN sc
 have bd:=jN sd
 have hS:=tC bc (by omega) (by omega)
 by_cases hM:mP c d
 ·have hB:=qH sc sd
  rw [dQ hM]at hB
  have hC:=aCp hc hd bc bd
  have hlen:(dG c d).length≤201:=by unfold dG;rw [List.length_take];omega
  by_cases hl:0<(dG c d).length
  ·rw [aEl ⟨hM,hl⟩]
   have hb:=aX (n:=((dG c d).length:Int)) k1 (by omega)
   have hN:=aR (n:=((dG c d).length:Int)) k1
   have hk:(aI t (dG c d).length).toNat<(dG c d).length:=by omega
   generalize dG c d=L at *
   obtain⟨k,hkk⟩:∃k,(aI t L.length).toNat=k:=⟨_,rfl⟩
   rw [hkk]at hk⊢
   have hkz:aI t L.length=k:=by omega
   rw [hkz]at hN
   obtain⟨g,hg⟩:∃g,L.getD k default=g:=⟨_,rfl⟩
   rw [hg]
   repeat'(first|((with_reducible refine(id ?_:V _ _ (Code.region 6 _ _) _ _));exfalso;omega)|((with_reducible refine(id ?_:V _ _ (Code.region 5 _ _) _ _));refine fD 5 (Imp.takeAt 12 1 k L g rfl (by decide) (by decide) hk hg (fun j _=>aAE rfl j)) ?_;simp only [go_sem,simprocAttr,aD0,aBZ];refine iY 5 (by rw [hn];rfl) ?_;intro K hK)|(refine fY ?_;refine aDU (i:=12) (j:=13) (k:=k) (L:=L) (g:=g) rfl rfl rfl (by first|(simp only [go_sem,simprocAttr];done)|(simp only [go_sem,simprocAttr];rfl)) (by first|(simp only [go_sem,simprocAttr];done)|(simp only [go_sem,simprocAttr];rfl)) hk hg ?_;simp only [go_sem,simprocAttr])|((with_reducible refine pM ?_);simp only [go_sem,simprocAttr])|(with_reducible refine pL ?_)|(with_reducible first|refine St.f ?_|refine V_c ?_|refine eDn ?_|refine And.intro ?_ ?_|refine aM ?_ ?_)|((refine aY ?_);intro K hK)|((with_reducible refine So.f ?_);intro K hK;simp(contextual:=true)only [go_sem,simprocAttr])|((with_reducible refine hK _ ?_);clear hK K)|((with_reducible refine aC 145 ?_);refine EvCall.mr (hA) aT [(0,0),(1,7),(2,8),(3,9),(4,10)] [] ?_)|((with_reducible refine aC 162 ?_);refine EvCall.mr (hB) cS [] [1,2,3,4,7,8,9,10] ?_)|((with_reducible refine aC 163 ?_);refine EvCall.mr (hC) jA [(0,12)] [1,2,3,4,7,8,9,10] ?_)|((with_reducible refine aC 146 ?_);refine EvCall.mr (hN) aG [(0,0)] [] ?_)|(refine fun(hc:(_:Bool)=_)=>?_;try simp only [hcS]at hc))
   all_goals try exact om_
   all_goals try(exfalso;omega)
   (first|refine aB ?_|refine aA ?_);simp only [go_sem,simprocAttr,Tryz.f184]
  ·have hno:¬(mP c d∧0<(dG c d).length):=fun q=>hl q.2
   by_cases h0:0<d.ob
   ·have hN:=aR (n:=2) k1
    have hP:=aR (n:=d.ob) (aO (n:=2) k1)
    by_cases h2:aI t 2=0
    ·have hb:=aX (n:=d.ob) (aO (n:=2) k1) (by omega)
     have hKo:=Zk.sp_l06Constant (y:=(aI (aL t 2) d.ob).toNat) bc bd sc sd (by omega)
     rw [aFo hno h0 h2]
     rw [h2]at hN
     rw [Int.toNat_of_nonneg hb.1]at hKo
     repeat'(first|((with_reducible refine(id ?_:V _ _ (Code.region 5 _ _) _ _));exfalso;omega)|(with_reducible first|refine St.f ?_|refine V_c ?_|refine eDn ?_|refine And.intro ?_ ?_|refine aM ?_ ?_)|((refine aY ?_);intro K hK)|((with_reducible refine So.f ?_);intro K hK;simp(contextual:=true)only [go_sem,simprocAttr])|((with_reducible refine hK _ ?_);clear hK K)|((with_reducible refine aC 145 ?_);refine EvCall.mr (hA) aT [(0,0),(1,7),(2,8),(3,9),(4,10)] [] ?_)|((with_reducible refine aC 162 ?_);refine EvCall.mr (hB) cS [] [1,2,3,4,7,8,9,10] ?_)|((with_reducible refine aC 163 ?_);refine EvCall.mr (hC) jA [(0,12)] [1,2,3,4,7,8,9,10] ?_)|((with_reducible refine aC 146 ?_);refine EvCall.mr (hN) aG [(0,0)] [] ?_;clear hN)|((with_reducible refine aC 146 ?_);refine EvCall.mr (hP) aG [(0,0)] [] ?_)|((with_reducible refine aC 89 ?_);refine EvCall.mr (hKo) jX [(0,13),(1,14),(2,15),(3,16),(4,17),(5,18),(6,19),(7,20),(8,21),(9,22)] [1,2,3,4,7,8,9,10] ?_)|(refine fun(hc:(_:Bool)=_)=>?_;try simp only [hcS]at hc))
     all_goals try exact om_
     all_goals try(exfalso;omega)
     all_goals try contradiction
     (first|refine aB ?_|refine aA ?_);simp only [go_sem,simprocAttr,Tryz.f184]
    ·rw [wM hno h0 h2]
     repeat'(first|((with_reducible refine(id ?_:V _ _ (Code.region 5 _ _) _ _));exfalso;omega)|(with_reducible first|refine St.f ?_|refine V_c ?_|refine eDn ?_|refine And.intro ?_ ?_|refine aM ?_ ?_)|((refine aY ?_);intro K hK)|((with_reducible refine So.f ?_);intro K hK;simp(contextual:=true)only [go_sem,simprocAttr])|((with_reducible refine hK _ ?_);clear hK K)|((with_reducible refine aC 145 ?_);refine EvCall.mr (hA) aT [(0,0),(1,7),(2,8),(3,9),(4,10)] [] ?_)|((with_reducible refine aC 162 ?_);refine EvCall.mr (hB) cS [] [1,2,3,4,7,8,9,10] ?_)|((with_reducible refine aC 163 ?_);refine EvCall.mr (hC) jA [(0,12)] [1,2,3,4,7,8,9,10] ?_)|((with_reducible refine aC 146 ?_);refine EvCall.mr (hN) aG [(0,0)] [] ?_;clear hN)|((with_reducible refine aC 67 ?_);refine EvCall.mr (hS) dL [(0,13),(1,14),(2,15),(3,16),(4,17),(5,18),(6,19),(7,20),(8,21),(9,22)] [1,2,3,4] ?_)|(refine fun(hc:(_:Bool)=_)=>?_;try simp only [hcS]at hc))
     all_goals try exact om_
     all_goals try(exfalso;omega)
     all_goals try contradiction
     (first|refine aB ?_|refine aA ?_);simp only [go_sem,simprocAttr,Tryz.f184]
   ·rw [wN hno h0]
    repeat'(first|((with_reducible refine(id ?_:V _ _ (Code.region 5 _ _) _ _));exfalso;omega)|(with_reducible first|refine St.f ?_|refine V_c ?_|refine eDn ?_|refine And.intro ?_ ?_|refine aM ?_ ?_)|((refine aY ?_);intro K hK)|((with_reducible refine So.f ?_);intro K hK;simp(contextual:=true)only [go_sem,simprocAttr])|((with_reducible refine hK _ ?_);clear hK K)|((with_reducible refine aC 145 ?_);refine EvCall.mr (hA) aT [(0,0),(1,7),(2,8),(3,9),(4,10)] [] ?_)|((with_reducible refine aC 162 ?_);refine EvCall.mr (hB) cS [] [1,2,3,4,7,8,9,10] ?_)|((with_reducible refine aC 163 ?_);refine EvCall.mr (hC) jA [(0,12)] [1,2,3,4,7,8,9,10] ?_)|((with_reducible refine aC 67 ?_);refine EvCall.mr (hS) dL [(0,13),(1,14),(2,15),(3,16),(4,17),(5,18),(6,19),(7,20),(8,21),(9,22)] [1,2,3,4] ?_)|(refine fun(hc:(_:Bool)=_)=>?_;try simp only [hcS]at hc))
    all_goals try exact om_
    all_goals try(exfalso;omega)
    all_goals try contradiction
    (first|refine aB ?_|refine aA ?_);simp only [go_sem,simprocAttr,Tryz.f184]
 ·have hB:=qH sc sd
  rw [kY hM]at hB
  have hno:¬(mP c d∧0<(dG c d).length):=fun q=>hM q.1
  by_cases h0:0<d.ob
  ·have hN:=aR (n:=2) k1
   have hP:=aR (n:=d.ob) (aO (n:=2) k1)
   by_cases h2:aI t 2=0
   ·have hb:=aX (n:=d.ob) (aO (n:=2) k1) (by omega)
    have hKo:=Zk.sp_l06Constant (y:=(aI (aL t 2) d.ob).toNat) bc bd sc sd (by omega)
    rw [aFo hno h0 h2]
    rw [h2]at hN
    rw [Int.toNat_of_nonneg hb.1]at hKo
    repeat'(first|(with_reducible first|refine St.f ?_|refine V_c ?_|refine eDn ?_|refine And.intro ?_ ?_|refine aM ?_ ?_)|((refine aY ?_);intro K hK)|((with_reducible refine So.f ?_);intro K hK;simp(contextual:=true)only [go_sem,simprocAttr])|((with_reducible refine hK _ ?_);clear hK K)|((with_reducible refine aC 145 ?_);refine EvCall.mr (hA) aT [(0,0),(1,7),(2,8),(3,9),(4,10)] [] ?_)|((with_reducible refine aC 162 ?_);refine EvCall.mr (hB) cS [] [1,2,3,4,7,8,9,10] ?_)|((with_reducible refine aC 146 ?_);refine EvCall.mr (hN) aG [(0,0)] [] ?_;clear hN)|((with_reducible refine aC 146 ?_);refine EvCall.mr (hP) aG [(0,0)] [] ?_)|((with_reducible refine aC 89 ?_);refine EvCall.mr (hKo) jX [(0,12),(1,13),(2,14),(3,15),(4,16),(5,17),(6,18),(7,19),(8,20),(9,21)] [1,2,3,4,7,8,9,10] ?_)|(refine fun(hc:(_:Bool)=_)=>?_;try simp only [hcS]at hc))
    all_goals try exact om_
    all_goals try(exfalso;omega)
    all_goals try contradiction
    (first|refine aB ?_|refine aA ?_);simp only [go_sem,simprocAttr,Tryz.f184]
   ·rw [wM hno h0 h2]
    repeat'(first|(with_reducible first|refine St.f ?_|refine V_c ?_|refine eDn ?_|refine And.intro ?_ ?_|refine aM ?_ ?_)|((refine aY ?_);intro K hK)|((with_reducible refine So.f ?_);intro K hK;simp(contextual:=true)only [go_sem,simprocAttr])|((with_reducible refine hK _ ?_);clear hK K)|((with_reducible refine aC 145 ?_);refine EvCall.mr (hA) aT [(0,0),(1,7),(2,8),(3,9),(4,10)] [] ?_)|((with_reducible refine aC 162 ?_);refine EvCall.mr (hB) cS [] [1,2,3,4,7,8,9,10] ?_)|((with_reducible refine aC 146 ?_);refine EvCall.mr (hN) aG [(0,0)] [] ?_;clear hN)|((with_reducible refine aC 67 ?_);refine EvCall.mr (hS) dL [(0,12),(1,13),(2,14),(3,15),(4,16),(5,17),(6,18),(7,19),(8,20),(9,21)] [1,2,3,4] ?_)|(refine fun(hc:(_:Bool)=_)=>?_;try simp only [hcS]at hc))
    all_goals try exact om_
    all_goals try(exfalso;omega)
    all_goals try contradiction
    (first|refine aB ?_|refine aA ?_);simp only [go_sem,simprocAttr,Tryz.f184]
  ·rw [wN hno h0]
   repeat'(first|(with_reducible first|refine St.f ?_|refine V_c ?_|refine eDn ?_|refine And.intro ?_ ?_|refine aM ?_ ?_)|((refine aY ?_);intro K hK)|((with_reducible refine So.f ?_);intro K hK;simp(contextual:=true)only [go_sem,simprocAttr])|((with_reducible refine hK _ ?_);clear hK K)|((with_reducible refine aC 145 ?_);refine EvCall.mr (hA) aT [(0,0),(1,7),(2,8),(3,9),(4,10)] [] ?_)|((with_reducible refine aC 162 ?_);refine EvCall.mr (hB) cS [] [1,2,3,4,7,8,9,10] ?_)|((with_reducible refine aC 67 ?_);refine EvCall.mr (hS) dL [(0,12),(1,13),(2,14),(3,15),(4,16),(5,17),(6,18),(7,19),(8,20),(9,21)] [1,2,3,4] ?_)|(refine fun(hc:(_:Bool)=_)=>?_;try simp only [hcS]at hc))
   all_goals try exact om_
   all_goals try(exfalso;omega)
   all_goals try contradiction
   (first|refine aB ?_|refine aA ?_);simp only [go_sem,simprocAttr,Tryz.f184]
end Go.Eng
end
section
namespace Go.Eng
open Go Go.Proofs Go.Cats
attribute [local go_sem] List.set_cons_zero List.set_cons_succ
abbrev aG9 (n:Nat) (f:Fun):List (Nat×Rs):=[(n,⟨1, .arr (ints f.src.fr)⟩),(n+1,⟨1, .arr (ints f.src.to)⟩),(n+2,⟨1, .arr (ints f.src.id)⟩),(n+3,⟨1, .arr (rdA (aE f.src.co))⟩),(n+4,⟨1, .arr (ints f.tgt.fr)⟩),(n+5,⟨1, .arr (ints f.tgt.to)⟩),(n+6,⟨1, .arr (ints f.tgt.id)⟩),(n+7,⟨1, .arr (aE f.tgt.co)⟩),(n+8,⟨1, .arr (ints f.obs)⟩),(n+9,⟨1, .arr (ints f.ars)⟩)]
attribute [go_sem] aG9
noncomputable def lZ (k:Int) (t:RnS) (f:Fun):Fun×RnS:=
 if k=0 then(⟨(mR t f.src).1,f.tgt,f.obs,f.ars⟩,(mR t f.src).2)
 else if k=1∧0<f.ars.length then(⟨f.src,f.tgt,f.obs,f.ars.set (aI t f.ars.length).toNat (aI (aL t f.ars.length) (f.tgt.fr.length+1))⟩,aL (aL t f.ars.length) (f.tgt.fr.length+1))
 else if k=2 then(⟨f.src,f.tgt,f.obs++[0],f.ars⟩,t)
 else(f,t)
section
variable {k:Int} {t:RnS} {f:Fun} {c:Cat}
theorem DrFun.b (h:DrFun c f) (hc:IsCat c):FunB f:=by
 have sc:=hc.toShape
 have c8:=sc.ob8
 have c40:=sc.m40
 have h1:=h.obs
 have h2:=h.ars
 exact⟨by rw [h.src];exact jN sc,jN h.tgt.toShape,by omega,by omega⟩
theorem aIw (ht:RnOk t) (hc:IsCat c) (h:DrFun c f):RnOk (lZ k t f).2∧FunB (lZ k t f).1:=by
 have sc:=hc.toShape
 have c8:=sc.ob8
 have c40:=sc.m40
 have h1:=h.obs
 have h2:=h.ars
 have hs:=h.src
 have hb:=h.b hc
 obtain⟨q1,q2,q3,q4⟩:=hb
 unfold lZ
 split
 ·obtain⟨g1,g2⟩:=aIc ht (by rw [hs];exact sc:Shape f.src)
  exact⟨g1,g2,q2,q3,q4⟩
 split
 ·exact⟨aO (n:=f.tgt.fr.length+1) (aO (n:=f.ars.length) ht),q1,q2,q3,by show(f.ars.set _ _).length≤_;rw [List.length_set];exact q4⟩
 split
 ·exact⟨ht,q1,q2,by show(f.obs++[0]).length≤_;rw [List.length_append,List.length_singleton];omega,q4⟩
 ·exact⟨ht,q1,q2,q3,q4⟩
theorem aUS:lZ 0 t f=(⟨(mR t f.src).1,f.tgt,f.obs,f.ars⟩,(mR t f.src).2):=rfl
theorem aUT (h:0<f.ars.length):lZ 1 t f=(⟨f.src,f.tgt,f.obs,f.ars.set (aI t f.ars.length).toNat (aI (aL t f.ars.length) (f.tgt.fr.length+1))⟩,aL (aL t f.ars.length) (f.tgt.fr.length+1)):=by unfold lZ;rw [if_neg (by decide),if_pos ⟨rfl,h⟩]
theorem aPZ (h:¬0<f.ars.length):lZ 1 t f=(f,t):=by unfold lZ;rw [if_neg (by decide),if_neg (fun q=>h q.2),if_neg (by decide)]
theorem aUU:lZ 2 t f=(⟨f.src,f.tgt,f.obs++[0],f.ars⟩,t):=by unfold lZ;rw [if_neg (by decide),if_neg (fun q=>absurd q.1 (by decide)),if_pos rfl]
theorem aUV (h0:k≠0) (h1:k≠1) (h2:k≠2):lZ k t f=(f,t):=by unfold lZ;rw [if_neg h0,if_neg (fun q=>h1 q.1),if_neg h2]
end
noncomputable def oK (s:RnS):Fun×RnS:=lZ (aI (kD (cM 4 10 12 s).2 (cM 4 10 12 s).1 4 12).2 30) (aL (kD (cM 4 10 12 s).2 (cM 4 10 12 s).1 4 12).2 30) (kD (cM 4 10 12 s).2 (cM 4 10 12 s).1 4 12).1
theorem tV {s:RnS} (hs:RnOk s):RnOk (oK s).2∧FunB (oK s).1:=by
 obtain⟨h1,h2,_⟩:=iO (o:=4) (m:=10) (by decide) (by decide) (by decide) (by decide) 12 s hs
 obtain⟨h3,h4⟩:=uS (o:=4) (m:=12) h1 h2 (by decide) (by decide) (by decide) (by decide)
 exact aIw (aO h3) h2 h4
theorem xJ:aF Tryz.prog 185:=⟨_,Tryz.func185,rfl,rfl⟩
theorem aAW {s:RnS} (hs:RnOk s):Spec Tryz.prog 185 [.ptr 0 0] [(0,bK s)] (aE4 1 (oK s).1) ((0,bK (oK s).2)::aG9 1 (oK s).1):=by
 refine aD (E:=TE) 1 Tryz.func185 rfl (by simp [Tryz.f185]) fun X hn hX=>?_
 obtain⟨k1,hc,_⟩:=iO (o:=4) (m:=10) (by decide) (by decide) (by decide) (by decide) 12 s hs
 obtain⟨k2,hf⟩:=uS (o:=4) (m:=12) k1 hc (by decide) (by decide) (by decide) (by decide)
 have hA:=lK (o:=4) (m:=10) hs (by decide) (by decide)
 have hB:=aAY (o:=4) (m:=12) k1 hc (by decide) (by decide) (by decide) (by decide)
 have e:oK s=lZ (aI (kD (cM 4 10 12 s).2 (cM 4 10 12 s).1 4 12).2 30) (aL (kD (cM 4 10 12 s).2 (cM 4 10 12 s).1 4 12).2 30) (kD (cM 4 10 12 s).2 (cM 4 10 12 s).1 4 12).1:=rfl
 rw [e]
 clear e
 generalize kD (cM 4 10 12 s).2 (cM 4 10 12 s).1 4 12=q at k2 hf hB⊢
 generalize cM 4 10 12 s=p at k1 hc hf hA hB⊢
 obtain⟨c,t1⟩:=p
 obtain⟨f,t2⟩:=q
 simp only at k1 hc k2 hf hA hB⊢
 have hfb:=hf.b hc
 have hfl:=hfb.ars
 have htl:=hf.tgt.toShape.m40
 have hcs:=hc.toShape
 have c8:=hcs.ob8
 have c40:=hcs.m40
 have hfo:=hf.obs
 have hfa:=hf.ars
 have hfs:=hf.src
 have k3:=aO (n:=30) k2
 have hC:=aR (n:=30) k2
 have b1:=aX (n:=30) k2 (by decide)
 generalize aL t2 30=t at k3 hC⊢
 generalize aI t2 30=k at b1 hC⊢
 have hF:=aFw (c:=f.src) k3 (by rw [hfs];exact hcs)
 have hD:=aR (n:=(f.ars.length:Int)) k3
 have hE:=aR (n:=(f.tgt.fr.length:Int)+1) (aO (n:=(f.ars.length:Int)) k3)
 have bD:=fun q:0<f.ars.length=>aX (n:=(f.ars.length:Int)) k3 (by omega)
 have h5:k=0∨(k=1∧0<f.ars.length)∨(k=1∧¬0<f.ars.length)∨k=2∨(k≠0∧k≠1∧k≠2):=by omega
 rcases h5 with rfl|⟨rfl,h6⟩|⟨rfl,h6⟩|rfl|⟨h6,h7,h8⟩
 ·rw [aUS]
  repeat'(first|refine wkQ ?_|refine Tw.f ?_ ?_|(refine kcQ aT ?_;refine kwQ (hA) [(0,0),(1,2),(2,3),(3,4),(4,5)] [] ?_)|(refine kcQ cL ?_;refine kwQ (hB) [(0,0),(1,2),(2,3),(3,4),(4,5),(5,6),(6,7),(7,8),(8,9),(9,10),(10,11),(11,12),(12,13),(13,14),(14,15)] [] ?_)|(refine kcQ aG ?_;refine kwQ (hC) [(0,0)] [] ?_;clear hC)|(refine kcQ aDA ?_;refine kwQ (hF) [(0,0),(1,6),(2,7),(3,8),(4,9),(5,17),(6,18),(7,19),(8,20)] [] ?_)|(refine fun(hc:(_:Bool)=_)=>?_;try simp only [hcS]at hc))
  all_goals try exact om_
  (first|refine aB ?_|refine aA ?_);simp only [go_sem,simprocAttr,Tryz.f185]
 ·rw [aUT h6]
  repeat'(first|(refine fD 11 (Imp.arrAb 9 _ (aE f.src.co) rfl rfl) ?_;simp only [go_sem,simprocAttr])|(with_reducible first|refine St.f ?_|refine V_c ?_|refine eDn ?_|refine And.intro ?_ ?_|refine aM ?_ ?_|refine aP ?_)|((refine aY ?_);intro K hK)|((with_reducible refine So.f ?_);intro K hK;simp(contextual:=true)only [go_sem,simprocAttr])|((with_reducible refine hK _ ?_);clear hK K)|((with_reducible refine aC 145 ?_);refine EvCall.mr (hA) aT [(0,0),(1,2),(2,3),(3,4),(4,5)] [] ?_)|((with_reducible refine aC 184 ?_);refine EvCall.mr (hB) cL [(0,0),(1,2),(2,3),(3,4),(4,5),(5,6),(6,7),(7,8),(8,9),(9,10),(10,11),(11,12),(12,13),(13,14),(14,15)] [] ?_)|((with_reducible refine aC 146 ?_);refine EvCall.mr (hC) aG [(0,0)] [] ?_;clear hC)|((with_reducible refine aC 146 ?_);refine EvCall.mr (hD) aG [(0,0)] [] ?_;clear hD)|((with_reducible refine aC 146 ?_);refine EvCall.mr (hE) aG [(0,0)] [] ?_)|(refine fun(hc:(_:Bool)=_)=>?_;try simp only [hcS]at hc))
  all_goals try exact om_
  all_goals try(exfalso;omega)
  (first|refine aB ?_|refine aA ?_);simp only [go_sem,simprocAttr,Tryz.f185]
 ·rw [aPZ h6]
  repeat'(first|(refine fD 11 (Imp.arrAb 9 _ (aE f.src.co) rfl rfl) ?_;simp only [go_sem,simprocAttr])|(with_reducible first|refine St.f ?_|refine V_c ?_|refine eDn ?_|refine And.intro ?_ ?_|refine aM ?_ ?_|refine aP ?_)|((refine aY ?_);intro K hK)|((with_reducible refine So.f ?_);intro K hK;simp(contextual:=true)only [go_sem,simprocAttr])|((with_reducible refine hK _ ?_);clear hK K)|((with_reducible refine aC 145 ?_);refine EvCall.mr (hA) aT [(0,0),(1,2),(2,3),(3,4),(4,5)] [] ?_)|((with_reducible refine aC 184 ?_);refine EvCall.mr (hB) cL [(0,0),(1,2),(2,3),(3,4),(4,5),(5,6),(6,7),(7,8),(8,9),(9,10),(10,11),(11,12),(12,13),(13,14),(14,15)] [] ?_)|((with_reducible refine aC 146 ?_);refine EvCall.mr (hC) aG [(0,0)] [] ?_;clear hC)|(refine fun(hc:(_:Bool)=_)=>?_;try simp only [hcS]at hc))
  all_goals try exact om_
  all_goals try(exfalso;omega)
  (first|refine aB ?_|refine aA ?_);simp only [go_sem,simprocAttr,Tryz.f185]
 ·rw [aUU]
  repeat'(first|(refine fD 11 (Imp.arrAb 9 _ (aE f.src.co) rfl rfl) ?_;simp only [go_sem,simprocAttr])|(with_reducible first|refine St.f ?_|refine V_c ?_|refine eDn ?_|refine And.intro ?_ ?_|refine aM ?_ ?_|refine aP ?_)|((refine aY ?_);intro K hK)|((with_reducible refine So.f ?_);intro K hK;simp(contextual:=true)only [go_sem,simprocAttr])|((with_reducible refine hK _ ?_);clear hK K)|((with_reducible refine aC 145 ?_);refine EvCall.mr (hA) aT [(0,0),(1,2),(2,3),(3,4),(4,5)] [] ?_)|((with_reducible refine aC 184 ?_);refine EvCall.mr (hB) cL [(0,0),(1,2),(2,3),(3,4),(4,5),(5,6),(6,7),(7,8),(8,9),(9,10),(10,11),(11,12),(12,13),(13,14),(14,15)] [] ?_)|((with_reducible refine aC 146 ?_);refine EvCall.mr (hC) aG [(0,0)] [] ?_;clear hC)|(refine fun(hc:(_:Bool)=_)=>?_;try simp only [hcS]at hc))
  all_goals try exact om_
  all_goals try(exfalso;omega)
  (first|refine aB ?_|refine aA ?_);simp only [go_sem,simprocAttr,Tryz.f185]
 ·rw [aUV h6 h7 h8]
  repeat'(first|(refine fD 11 (Imp.arrAb 9 _ (aE f.src.co) rfl rfl) ?_;simp only [go_sem,simprocAttr])|(with_reducible first|refine St.f ?_|refine V_c ?_|refine eDn ?_|refine And.intro ?_ ?_|refine aM ?_ ?_|refine aP ?_)|((refine aY ?_);intro K hK)|((with_reducible refine So.f ?_);intro K hK;simp(contextual:=true)only [go_sem,simprocAttr])|((with_reducible refine hK _ ?_);clear hK K)|((with_reducible refine aC 145 ?_);refine EvCall.mr (hA) aT [(0,0),(1,2),(2,3),(3,4),(4,5)] [] ?_)|((with_reducible refine aC 184 ?_);refine EvCall.mr (hB) cL [(0,0),(1,2),(2,3),(3,4),(4,5),(5,6),(6,7),(7,8),(8,9),(9,10),(10,11),(11,12),(12,13),(13,14),(14,15)] [] ?_)|((with_reducible refine aC 146 ?_);refine EvCall.mr (hC) aG [(0,0)] [] ?_;clear hC)|(refine fun(hc:(_:Bool)=_)=>?_;try simp only [hcS]at hc))
  all_goals try exact om_
  all_goals try(exfalso;omega)
  (first|refine aB ?_|refine aA ?_);simp only [go_sem,simprocAttr,Tryz.f185]
end Go.Eng
end
