/- Two functors drawn, mostly with one target. -/
import Derived.Test.YtbflkfamigcncaaGreatKchx
import Derived.Test.YtbflkfamigcncaaGreatEngTbq
set_option linter.unusedSimpArgs false
set_option linter.unusedVariables false
set_option maxRecDepth 100000
set_option maxHeartbeats 32000000
namespace Go.Eng
open Go Go.Proofs Go.Cats
attribute [local go_sem] List.set_cons_zero List.set_cons_succ
open Classical in
noncomputable def aCa (f:Fun) (p:Cat×RnS):Fun×Fun:=
 if mP p.1 f.tgt∧0<(dG p.1 f.tgt).length then(f,(dG p.1 f.tgt).getD (aI p.2 (dG p.1 f.tgt).length).toNat default)else(f,cB f.tgt)
noncomputable def oL (c:Cat) (f:Fun) (k:Int) (t:RnS):Fun×Fun:=
 if k=0 then(cB c,cB c)
 else if k=1∧0<c.ob then(bN c (aI t c.ob),cB c)
 else if k=2∧0<c.ob then(cB c,bN c (aI t c.ob))
 else aCa f (cM 3 5 12 t)
noncomputable def d9A (c:Cat) (p:Fun×RnS):Fun×Fun:=
 if aI p.2 12=0 then((oK (aL p.2 12)).1,(oK (oK (aL p.2 12)).2).1)
 else oL c p.1 (aI (aL p.2 12) 4) (aL (aL p.2 12) 4)
noncomputable def d9F (l:List Int):Fun×Fun:=d9A (cM 3 6 12 (from_ l)).1 (kD (cM 3 5 12 (cM 3 6 12 (from_ l)).2).2 (cM 3 5 12 (cM 3 6 12 (from_ l)).2).1 3 7)
section
variable {c d b:Cat} {f:Fun} {k:Int} {t:RnS}
theorem aD3 (h:mP b f.tgt∧0<(dG b f.tgt).length):aCa f (b,t)=(f,(dG b f.tgt).getD (aI t (dG b f.tgt).length).toNat default):=if_pos h
theorem aCW (h:¬(mP b f.tgt∧0<(dG b f.tgt).length)):aCa f (b,t)=(f,cB f.tgt):=if_neg h
theorem aNi:oL c f 0 t=(cB c,cB c):=rfl
theorem aNj (h:0<c.ob):oL c f 1 t=(bN c (aI t c.ob),cB c):=by unfold oL;rw [if_neg (by decide),if_pos ⟨rfl,h⟩]
theorem aNk (h:0<c.ob):oL c f 2 t=(cB c,bN c (aI t c.ob)):=by unfold oL;rw [if_neg (by decide),if_neg (fun q=>absurd q.1 (by decide)),if_pos ⟨rfl,h⟩]
theorem aNl (h0:k≠0) (h1:¬(k=1∧0<c.ob)) (h2:¬(k=2∧0<c.ob)):oL c f k t=aCa f (cM 3 5 12 t):=by unfold oL;rw [if_neg h0,if_neg h1,if_neg h2]
theorem pT (hc:IsCat c):FunB (cB c):=aC7 (jN hc.toShape) hc
theorem aLp (ht:RnOk t) (hb:IsCat b) (bf:FunB f) (hf:IsCat f.tgt):FunB (aCa f (b,t)).1∧FunB (aCa f (b,t)).2:=by
 by_cases h:mP b f.tgt∧0<(dG b f.tgt).length
 ·rw [aD3 h]
  have hn:=aX (n:=((dG b f.tgt).length:Int)) ht (by omega)
  have hk:(aI t (dG b f.tgt).length).toNat<(dG b f.tgt).length:=by omega
  refine⟨bf,(aF8 (c:=b) hf ?_).b hb⟩
  rw [List.getD_eq_getElem?_getD,List.getElem?_eq_getElem hk]
  exact List.getElem_mem hk
 ·rw [aCW h];exact⟨bf,pT hf⟩
theorem aK0 (ht:RnOk t) (hc:IsCat c) (bf:FunB f) (hf:IsCat f.tgt):FunB (oL c f k t).1∧FunB (oL c f k t).2:=by
 have bc:=jN hc.toShape
 unfold oL
 split
 ·exact⟨pT hc,pT hc⟩
 split
 ·exact⟨uN _ bc,pT hc⟩
 split
 ·exact⟨pT hc,uN _ bc⟩
 ·obtain⟨h1,h2,_⟩:=iO (o:=3) (m:=5) (by decide) (by decide) (by decide) (by decide) 12 t ht
  exact aLp h1 h2 bf hf
theorem aNb {l:List Int} (h:CodeOk l):FunB (d9F l).1∧FunB (d9F l).2:=by
 obtain⟨h1,h2,_⟩:=iO (o:=3) (m:=6) (by decide) (by decide) (by decide) (by decide) 12 _ h.src
 obtain⟨h3,h4,_⟩:=iO (o:=3) (m:=5) (by decide) (by decide) (by decide) (by decide) 12 _ h1
 obtain⟨h5,h6⟩:=uS (o:=3) (m:=7) h3 h4 (by decide) (by decide) (by decide) (by decide)
 unfold d9F d9A
 have k1:=aO (n:=12) h5
 split
 ·exact⟨(tV k1).2,(tV (tV k1).1).2⟩
 ·exact aK0 (aO (n:=4) k1) h2 (h6.b h4) h6.tgt
end
theorem aDC:aF Tryz.prog 110:=⟨_,Tryz.func110,rfl,rfl⟩
theorem aFz {l:List Int} (h:CodeOk l):Spec Tryz.prog 110 [.bor [] (bys l)] [] (.tup [aE4 0 (d9F l).1,aE4 10 (d9F l).2]) (aG9 0 (d9F l).1++aG9 10 (d9F l).2):=by
 refine aD (E:=TE) 0 Tryz.func110 rfl (by simp [Tryz.f110]) fun X hn hX=>?_
 have hA0:=aFu (l:=l) h.len
 obtain⟨h1,kc,_⟩:=iO (o:=3) (m:=6) (by decide) (by decide) (by decide) (by decide) 12 _ h.src
 obtain⟨h3,kb,_⟩:=iO (o:=3) (m:=5) (by decide) (by decide) (by decide) (by decide) 12 _ h1
 obtain⟨h5,kf⟩:=uS (o:=3) (m:=7) h3 kb (by decide) (by decide) (by decide) (by decide)
 have hA1:=lK (o:=3) (m:=6) h.src (by decide) (by decide)
 have hA2:=lK (o:=3) (m:=5) h1 (by decide) (by decide)
 have hA3:=aAY (o:=3) (m:=7) h3 kb (by decide) (by decide) (by decide) (by decide)
 have e:d9F l=d9A (cM 3 6 12 (from_ l)).1 (kD (cM 3 5 12 (cM 3 6 12 (from_ l)).2).2 (cM 3 5 12 (cM 3 6 12 (from_ l)).2).1 3 7):=rfl
 rw [e]
 clear e
 generalize kD (cM 3 5 12 (cM 3 6 12 (from_ l)).2).2 (cM 3 5 12 (cM 3 6 12 (from_ l)).2).1 3 7=q at h5 kf hA3⊢
 generalize cM 3 5 12 (cM 3 6 12 (from_ l)).2=p2 at h3 kb kf hA2 hA3⊢
 generalize cM 3 6 12 (from_ l)=p1 at h1 kc hA1 hA2⊢
 obtain⟨c,t1⟩:=p1
 obtain⟨b0,t2⟩:=p2
 obtain⟨f,t3⟩:=q
 simp only at h1 kc h3 kb h5 kf hA1 hA2 hA3⊢
 have bf:=kf.b kb
 have ktf:=kf.tgt
 have sc:=kc.toShape
 have c0:=sc.ob0
 have c8:=sc.ob8
 have cil:=sc.idl
 have bc:=jN sc
 have k4:=aO (n:=12) h5
 have hA4:=aR (n:=12) h5
 have e2:d9A c (f,t3)=if aI t3 12=0 then((oK (aL t3 12)).1,(oK (oK (aL t3 12)).2).1)else oL c f (aI (aL t3 12) 4) (aL (aL t3 12) 4):=rfl
 rw [e2]
 clear e2
 generalize aL t3 12=t4 at k4 hA4⊢
 by_cases h0:aI t3 12=0
 ·rw [if_pos h0]
  rw [h0]at hA4
  have hB1:=aAW k4
  have hB2:=aAW (tV k4).1
  repeat'(first|(with_reducible first|refine St.f ?_|refine V_c ?_|refine eDn ?_|refine And.intro ?_ ?_|refine aM ?_ ?_|refine aP ?_)|((refine aY ?_);intro K hK)|((with_reducible refine So.f ?_);intro K hK;simp(contextual:=true)only [go_sem,simprocAttr])|((with_reducible refine hK _ ?_);clear hK K)|((with_reducible refine aC 73 ?_);refine EvCall.mr (hA0) fU [(0,2)] [] ?_)|((with_reducible refine aC 145 ?_);refine EvCall.mr (hA1) aT [(0,2),(1,3),(2,4),(3,5),(4,6)] [] ?_;clear hA1)|((with_reducible refine aC 145 ?_);refine EvCall.mr (hA2) aT [(0,2),(1,8),(2,9),(3,10),(4,11)] [] ?_;clear hA2)|((with_reducible refine aC 184 ?_);refine EvCall.mr (hA3) cL [(0,2),(1,8),(2,9),(3,10),(4,11),(5,12),(6,13),(7,14),(8,15),(9,16),(10,17),(11,18),(12,19),(13,20),(14,21)] [] ?_)|((with_reducible refine aC 146 ?_);refine EvCall.mr (hA4) aG [(0,2)] [] ?_;clear hA4)|((with_reducible refine aC 185 ?_);refine EvCall.mr (hB1) xJ [(0,2),(1,23),(2,24),(3,25),(4,26),(5,27),(6,28),(7,29),(8,30),(9,31),(10,32)] [] ?_;clear hB1)|((with_reducible refine aC 185 ?_);refine EvCall.mr (hB2) xJ [(0,2),(1,33),(2,34),(3,35),(4,36),(5,37),(6,38),(7,39),(8,40),(9,41),(10,42)] [] ?_)|(refine fun(hc:(_:Bool)=_)=>?_;try simp only [hcS]at hc))
  all_goals try exact om_
  (first|refine aB ?_|refine aA ?_);simp only [go_sem,simprocAttr,Tryz.f110]
 ·rw [if_neg h0]
  have k5:=aO (n:=4) k4
  have hA5:=aR (n:=4) k4
  have bk:=aX (n:=4) k4 (by decide)
  generalize aL t4 4=t at k5 hA5⊢
  generalize aI t4 4=k at hA5 bk⊢
  have hS:=tC bc (by omega) (by omega)
  have hN:=aR (n:=c.ob) k5
  have h6:k=0∨(k=1∧0<c.ob)∨(k=2∧0<c.ob)∨(k≠0∧¬(k=1∧0<c.ob)∧¬(k=2∧0<c.ob)):=by omega
  rcases h6 with rfl|⟨rfl,h7⟩|⟨rfl,h7⟩|⟨h7,h8,h9⟩
  ·rw [aNi]
   have hS2:=hS
   repeat'(first|((with_reducible refine(id ?_:V _ _ Code.ret _ _));refine gJ (Imp.arrAb 26 _ (aE (cB c).src.co) rfl rfl) ?_;simp only [go_sem,simprocAttr])|((with_reducible refine(id ?_:V _ _ Code.ret _ _));refine gJ (Imp.arrAb 36 _ (aE (cB c).src.co) rfl rfl) ?_;simp only [go_sem,simprocAttr])|(with_reducible first|refine St.f ?_|refine V_c ?_|refine eDn ?_|refine And.intro ?_ ?_|refine aM ?_ ?_|refine aP ?_)|((refine aY ?_);intro K hK)|((with_reducible refine So.f ?_);intro K hK;simp(contextual:=true)only [go_sem,simprocAttr])|((with_reducible refine hK _ ?_);clear hK K)|((with_reducible refine aC 73 ?_);refine EvCall.mr (hA0) fU [(0,2)] [] ?_)|((with_reducible refine aC 145 ?_);refine EvCall.mr (hA1) aT [(0,2),(1,3),(2,4),(3,5),(4,6)] [] ?_;clear hA1)|((with_reducible refine aC 145 ?_);refine EvCall.mr (hA2) aT [(0,2),(1,8),(2,9),(3,10),(4,11)] [] ?_;clear hA2)|((with_reducible refine aC 184 ?_);refine EvCall.mr (hA3) cL [(0,2),(1,8),(2,9),(3,10),(4,11),(5,12),(6,13),(7,14),(8,15),(9,16),(10,17),(11,18),(12,19),(13,20),(14,21)] [] ?_)|((with_reducible refine aC 146 ?_);refine EvCall.mr (hA4) aG [(0,2)] [] ?_;clear hA4)|((with_reducible refine aC 146 ?_);refine EvCall.mr (hA5) aG [(0,2)] [] ?_)|((with_reducible refine aC 67 ?_);refine EvCall.mr (hS) dL [(0,23),(1,24),(2,25),(3,26),(4,27),(5,28),(6,29),(7,30),(8,31),(9,32)] [3,4,5,6] ?_;clear hS)|((with_reducible refine aC 67 ?_);refine EvCall.mr (hS2) dL [(0,33),(1,34),(2,35),(3,36),(4,37),(5,38),(6,39),(7,40),(8,41),(9,42)] [3,4,5,6] ?_)|(refine fun(hc:(_:Bool)=_)=>?_;try simp only [hcS]at hc))
   all_goals try exact om_
   all_goals try contradiction
   (first|refine aB ?_|refine aA ?_);simp only [go_sem,simprocAttr,Tryz.f110]
  ·have bo:=aX (n:=c.ob) k5 (by omega)
   have hP:=xT (x:=aI t c.ob) bc bo.1 (by omega)
   rw [aNj h7]
   repeat'(first|((with_reducible refine(id ?_:V _ _ Code.ret _ _));refine gJ (Imp.arrAb 26 _ (aE (bN c (aI t c.ob)).src.co) rfl rfl) ?_;simp only [go_sem,simprocAttr])|((with_reducible refine(id ?_:V _ _ Code.ret _ _));refine gJ (Imp.arrAb 36 _ (aE (cB c).src.co) rfl rfl) ?_;simp only [go_sem,simprocAttr])|(with_reducible first|refine St.f ?_|refine V_c ?_|refine eDn ?_|refine And.intro ?_ ?_|refine aM ?_ ?_|refine aP ?_)|((refine aY ?_);intro K hK)|((with_reducible refine So.f ?_);intro K hK;simp(contextual:=true)only [go_sem,simprocAttr])|((with_reducible refine hK _ ?_);clear hK K)|((with_reducible refine aC 73 ?_);refine EvCall.mr (hA0) fU [(0,2)] [] ?_)|((with_reducible refine aC 145 ?_);refine EvCall.mr (hA1) aT [(0,2),(1,3),(2,4),(3,5),(4,6)] [] ?_;clear hA1)|((with_reducible refine aC 145 ?_);refine EvCall.mr (hA2) aT [(0,2),(1,8),(2,9),(3,10),(4,11)] [] ?_;clear hA2)|((with_reducible refine aC 184 ?_);refine EvCall.mr (hA3) cL [(0,2),(1,8),(2,9),(3,10),(4,11),(5,12),(6,13),(7,14),(8,15),(9,16),(10,17),(11,18),(12,19),(13,20),(14,21)] [] ?_)|((with_reducible refine aC 146 ?_);refine EvCall.mr (hA4) aG [(0,2)] [] ?_;clear hA4)|((with_reducible refine aC 146 ?_);refine EvCall.mr (hA5) aG [(0,2)] [] ?_;clear hA5)|((with_reducible refine aC 146 ?_);refine EvCall.mr (hN) aG [(0,2)] [] ?_)|((with_reducible refine aC 68 ?_);refine EvCall.mr (hP) tO [(0,23),(1,24),(2,25),(3,26),(4,27),(5,28),(6,29),(7,30),(8,31),(9,32)] [3,4,5,6] ?_)|((with_reducible refine aC 67 ?_);refine EvCall.mr (hS) dL [(0,33),(1,34),(2,35),(3,36),(4,37),(5,38),(6,39),(7,40),(8,41),(9,42)] [3,4,5,6] ?_)|(refine fun(hc:(_:Bool)=_)=>?_;try simp only [hcS]at hc))
   all_goals try exact om_
   all_goals try(exfalso;omega)
   all_goals try contradiction
   (first|refine aB ?_|refine aA ?_);simp only [go_sem,simprocAttr,Tryz.f110]
  ·have bo:=aX (n:=c.ob) k5 (by omega)
   have hP:=xT (x:=aI t c.ob) bc bo.1 (by omega)
   rw [aNk h7]
   repeat'(first|((with_reducible refine(id ?_:V _ _ Code.ret _ _));refine gJ (Imp.arrAb 26 _ (aE (cB c).src.co) rfl rfl) ?_;simp only [go_sem,simprocAttr])|((with_reducible refine(id ?_:V _ _ Code.ret _ _));refine gJ (Imp.arrAb 36 _ (aE (bN c (aI t c.ob)).src.co) rfl rfl) ?_;simp only [go_sem,simprocAttr])|(with_reducible first|refine St.f ?_|refine V_c ?_|refine eDn ?_|refine And.intro ?_ ?_|refine aM ?_ ?_|refine aP ?_)|((refine aY ?_);intro K hK)|((with_reducible refine So.f ?_);intro K hK;simp(contextual:=true)only [go_sem,simprocAttr])|((with_reducible refine hK _ ?_);clear hK K)|((with_reducible refine aC 73 ?_);refine EvCall.mr (hA0) fU [(0,2)] [] ?_)|((with_reducible refine aC 145 ?_);refine EvCall.mr (hA1) aT [(0,2),(1,3),(2,4),(3,5),(4,6)] [] ?_;clear hA1)|((with_reducible refine aC 145 ?_);refine EvCall.mr (hA2) aT [(0,2),(1,8),(2,9),(3,10),(4,11)] [] ?_;clear hA2)|((with_reducible refine aC 184 ?_);refine EvCall.mr (hA3) cL [(0,2),(1,8),(2,9),(3,10),(4,11),(5,12),(6,13),(7,14),(8,15),(9,16),(10,17),(11,18),(12,19),(13,20),(14,21)] [] ?_)|((with_reducible refine aC 146 ?_);refine EvCall.mr (hA4) aG [(0,2)] [] ?_;clear hA4)|((with_reducible refine aC 146 ?_);refine EvCall.mr (hA5) aG [(0,2)] [] ?_;clear hA5)|((with_reducible refine aC 146 ?_);refine EvCall.mr (hN) aG [(0,2)] [] ?_)|((with_reducible refine aC 68 ?_);refine EvCall.mr (hP) tO [(0,33),(1,34),(2,35),(3,36),(4,37),(5,38),(6,39),(7,40),(8,41),(9,42)] [3,4,5,6] ?_)|((with_reducible refine aC 67 ?_);refine EvCall.mr (hS) dL [(0,23),(1,24),(2,25),(3,26),(4,27),(5,28),(6,29),(7,30),(8,31),(9,32)] [3,4,5,6] ?_)|(refine fun(hc:(_:Bool)=_)=>?_;try simp only [hcS]at hc))
   all_goals try exact om_
   all_goals try(exfalso;omega)
   all_goals try contradiction
   (first|refine aB ?_|refine aA ?_);simp only [go_sem,simprocAttr,Tryz.f110]
  ·rw [aNl h7 h8 h9]
   have hB:=lK (o:=3) (m:=5) k5 (by decide) (by decide)
   obtain⟨k6,kB,_⟩:=iO (o:=3) (m:=5) (by decide) (by decide) (by decide) (by decide) 12 t k5
   generalize cM 3 5 12 t=p3 at hB k6 kB⊢
   obtain⟨b,t6⟩:=p3
   simp only at hB k6 kB⊢
   have sb:=kB.toShape
   have sf:=ktf.toShape
   have bb:=jN sb
   have bft:=bf.tgt
   have f0:=sf.ob0
   have f8:=sf.ob8
   have hM:=qH sb sf
   have hT:=tC bft (by omega) (by omega)
   by_cases hMv:mP b f.tgt
   ·rw [dQ hMv]at hM
    have hL:=aCp kB ktf bb bft
    have hlen:(dG b f.tgt).length≤201:=by unfold dG;rw [List.length_take];omega
    by_cases hl:0<(dG b f.tgt).length
    ·rw [aD3 ⟨hMv,hl⟩]
     have hb:=aX (n:=((dG b f.tgt).length:Int)) k6 (by omega)
     have hNx:=aR (n:=((dG b f.tgt).length:Int)) k6
     have hk:(aI t6 (dG b f.tgt).length).toNat<(dG b f.tgt).length:=by omega
     generalize dG b f.tgt=L at *
     obtain⟨j,hjj⟩:∃j,(aI t6 L.length).toNat=j:=⟨_,rfl⟩
     rw [hjj]at hk⊢
     have hjz:aI t6 L.length=j:=by omega
     rw [hjz]at hNx
     obtain⟨g,hg⟩:∃g,L.getD j default=g:=⟨_,rfl⟩
     rw [hg]
     repeat'(first|((with_reducible refine(id ?_:V _ _ (Code.region 8 _ _) _ _));exfalso;omega)|((with_reducible refine(id ?_:V _ _ (Code.region 11 _ _) _ _));exfalso;omega)|((with_reducible refine(id ?_:V _ _ (Code.region 14 _ _) _ _));exfalso;omega)|((with_reducible refine(id ?_:V _ _ (Code.region 20 _ _) _ _));exfalso;omega)|((with_reducible refine(id ?_:V _ _ Code.ret _ _));refine gJ (Imp.arrAb 15 _ (aE f.src.co) rfl rfl) ?_;simp only [go_sem,simprocAttr])|((with_reducible refine(id ?_:V _ _ Code.ret _ _));refine gJ (Imp.arrAb 32 _ (aE g.src.co) rfl rfl) ?_;simp only [go_sem,simprocAttr])|((with_reducible refine(id ?_:V _ _ (Code.region 19 _ _) _ _));refine fD 19 (Imp.takeAt 28 1 j L g rfl (by decide) (by decide) hk hg (fun j _=>aAE rfl j)) ?_;simp only [go_sem,simprocAttr,aD0,aBZ];refine kS aCP (by rw [hn];rfl) ?_;intro K hK)|((with_reducible refine fX ?_ ?_);kernel_rfl)|(refine aG3 ?_;intro K hK;refine HkX.takeAt (i:=28) (j:=29) (k:=j) (L:=L) (g:=g) rfl rfl rfl (by first|(simp only [go_sem,simprocAttr];done)|(simp only [go_sem,simprocAttr];rfl)) (by first|(simp only [go_sem,simprocAttr];done)|(simp only [go_sem,simprocAttr];rfl)) hk hg ?_;simp only [go_sem,simprocAttr])|((with_reducible refine jF ?_);intro K hK;simp(contextual:=true)only [go_sem,simprocAttr])|(with_reducible first|refine St.f ?_|refine V_c ?_|refine eDn ?_|refine And.intro ?_ ?_|refine aM ?_ ?_|refine aP ?_)|((refine aY ?_);intro K hK)|((with_reducible refine So.f ?_);intro K hK;simp(contextual:=true)only [go_sem,simprocAttr])|((with_reducible refine hK _ ?_);clear hK K)|((with_reducible refine aC 73 ?_);refine EvCall.mr (hA0) fU [(0,2)] [] ?_)|((with_reducible refine aC 145 ?_);refine EvCall.mr (hA1) aT [(0,2),(1,3),(2,4),(3,5),(4,6)] [] ?_;clear hA1)|((with_reducible refine aC 145 ?_);refine EvCall.mr (hA2) aT [(0,2),(1,8),(2,9),(3,10),(4,11)] [] ?_;clear hA2)|((with_reducible refine aC 184 ?_);refine EvCall.mr (hA3) cL [(0,2),(1,8),(2,9),(3,10),(4,11),(5,12),(6,13),(7,14),(8,15),(9,16),(10,17),(11,18),(12,19),(13,20),(14,21)] [] ?_)|((with_reducible refine aC 146 ?_);refine EvCall.mr (hA4) aG [(0,2)] [] ?_;clear hA4)|((with_reducible refine aC 146 ?_);refine EvCall.mr (hA5) aG [(0,2)] [] ?_;clear hA5)|((with_reducible refine aC 145 ?_);refine EvCall.mr (hB) aT [(0,2),(1,23),(2,24),(3,25),(4,26)] [] ?_)|((with_reducible refine aC 162 ?_);refine EvCall.mr (hM) cS [] [23,24,25,26,16,17,18,19] ?_)|((with_reducible refine aC 163 ?_);refine EvCall.mr (hL) jA [(0,28)] [23,24,25,26,16,17,18,19] ?_)|((with_reducible refine aC 146 ?_);refine EvCall.mr (hNx) aG [(0,2)] [] ?_)|(refine fun(hc:(_:Bool)=_)=>?_;try simp only [hcS]at hc))
     all_goals try exact om_
     all_goals try(exfalso;omega)
     all_goals((first|refine aB ?_|refine aA ?_);simp only [go_sem,simprocAttr,Tryz.f110])
    ·have hno:¬(mP b f.tgt∧0<(dG b f.tgt).length):=fun q=>hl q.2
     rw [aCW hno]
     repeat'(first|((with_reducible refine(id ?_:V _ _ (Code.region 8 _ _) _ _));exfalso;omega)|((with_reducible refine(id ?_:V _ _ (Code.region 11 _ _) _ _));exfalso;omega)|((with_reducible refine(id ?_:V _ _ (Code.region 14 _ _) _ _));exfalso;omega)|((with_reducible refine(id ?_:V _ _ (Code.region 19 _ _) _ _));exfalso;omega)|((with_reducible refine(id ?_:V _ _ Code.ret _ _));refine gJ (Imp.arrAb 15 _ (aE f.src.co) rfl rfl) ?_;simp only [go_sem,simprocAttr])|((with_reducible refine(id ?_:V _ _ Code.ret _ _));refine gJ (Imp.arrAb 32 _ (aE (cB f.tgt).src.co) rfl rfl) ?_;simp only [go_sem,simprocAttr])|(with_reducible first|refine St.f ?_|refine V_c ?_|refine eDn ?_|refine And.intro ?_ ?_|refine aM ?_ ?_|refine aP ?_)|((refine aY ?_);intro K hK)|((with_reducible refine So.f ?_);intro K hK;simp(contextual:=true)only [go_sem,simprocAttr])|((with_reducible refine hK _ ?_);clear hK K)|((with_reducible refine aC 73 ?_);refine EvCall.mr (hA0) fU [(0,2)] [] ?_)|((with_reducible refine aC 145 ?_);refine EvCall.mr (hA1) aT [(0,2),(1,3),(2,4),(3,5),(4,6)] [] ?_;clear hA1)|((with_reducible refine aC 145 ?_);refine EvCall.mr (hA2) aT [(0,2),(1,8),(2,9),(3,10),(4,11)] [] ?_;clear hA2)|((with_reducible refine aC 184 ?_);refine EvCall.mr (hA3) cL [(0,2),(1,8),(2,9),(3,10),(4,11),(5,12),(6,13),(7,14),(8,15),(9,16),(10,17),(11,18),(12,19),(13,20),(14,21)] [] ?_)|((with_reducible refine aC 146 ?_);refine EvCall.mr (hA4) aG [(0,2)] [] ?_;clear hA4)|((with_reducible refine aC 146 ?_);refine EvCall.mr (hA5) aG [(0,2)] [] ?_;clear hA5)|((with_reducible refine aC 145 ?_);refine EvCall.mr (hB) aT [(0,2),(1,23),(2,24),(3,25),(4,26)] [] ?_)|((with_reducible refine aC 162 ?_);refine EvCall.mr (hM) cS [] [23,24,25,26,16,17,18,19] ?_)|((with_reducible refine aC 163 ?_);refine EvCall.mr (hL) jA [(0,28)] [23,24,25,26,16,17,18,19] ?_)|((with_reducible refine aC 67 ?_);refine EvCall.mr (hT) dL [(0,29),(1,30),(2,31),(3,32),(4,33),(5,34),(6,35),(7,36),(8,37),(9,38)] [16,17,18,19] ?_)|(refine fun(hc:(_:Bool)=_)=>?_;try simp only [hcS]at hc))
     all_goals try exact om_
     all_goals try(exfalso;omega)
     all_goals((first|refine aB ?_|refine aA ?_);simp only [go_sem,simprocAttr,Tryz.f110])
   ·rw [kY hMv]at hM
    have hno:¬(mP b f.tgt∧0<(dG b f.tgt).length):=fun q=>hMv q.1
    rw [aCW hno]
    repeat'(first|((with_reducible refine(id ?_:V _ _ (Code.region 8 _ _) _ _));exfalso;omega)|((with_reducible refine(id ?_:V _ _ (Code.region 11 _ _) _ _));exfalso;omega)|((with_reducible refine(id ?_:V _ _ (Code.region 14 _ _) _ _));exfalso;omega)|((with_reducible refine(id ?_:V _ _ Code.ret _ _));refine gJ (Imp.arrAb 15 _ (aE f.src.co) rfl rfl) ?_;simp only [go_sem,simprocAttr])|((with_reducible refine(id ?_:V _ _ Code.ret _ _));refine gJ (Imp.arrAb 31 _ (aE (cB f.tgt).src.co) rfl rfl) ?_;simp only [go_sem,simprocAttr])|(with_reducible first|refine St.f ?_|refine V_c ?_|refine eDn ?_|refine And.intro ?_ ?_|refine aM ?_ ?_|refine aP ?_)|((refine aY ?_);intro K hK)|((with_reducible refine So.f ?_);intro K hK;simp(contextual:=true)only [go_sem,simprocAttr])|((with_reducible refine hK _ ?_);clear hK K)|((with_reducible refine aC 73 ?_);refine EvCall.mr (hA0) fU [(0,2)] [] ?_)|((with_reducible refine aC 145 ?_);refine EvCall.mr (hA1) aT [(0,2),(1,3),(2,4),(3,5),(4,6)] [] ?_;clear hA1)|((with_reducible refine aC 145 ?_);refine EvCall.mr (hA2) aT [(0,2),(1,8),(2,9),(3,10),(4,11)] [] ?_;clear hA2)|((with_reducible refine aC 184 ?_);refine EvCall.mr (hA3) cL [(0,2),(1,8),(2,9),(3,10),(4,11),(5,12),(6,13),(7,14),(8,15),(9,16),(10,17),(11,18),(12,19),(13,20),(14,21)] [] ?_)|((with_reducible refine aC 146 ?_);refine EvCall.mr (hA4) aG [(0,2)] [] ?_;clear hA4)|((with_reducible refine aC 146 ?_);refine EvCall.mr (hA5) aG [(0,2)] [] ?_;clear hA5)|((with_reducible refine aC 145 ?_);refine EvCall.mr (hB) aT [(0,2),(1,23),(2,24),(3,25),(4,26)] [] ?_)|((with_reducible refine aC 162 ?_);refine EvCall.mr (hM) cS [] [23,24,25,26,16,17,18,19] ?_)|((with_reducible refine aC 67 ?_);refine EvCall.mr (hT) dL [(0,28),(1,29),(2,30),(3,31),(4,32),(5,33),(6,34),(7,35),(8,36),(9,37)] [16,17,18,19] ?_)|(refine fun(hc:(_:Bool)=_)=>?_;try simp only [hcS]at hc))
    all_goals try exact om_
    all_goals try(exfalso;omega)
    all_goals((first|refine aB ?_|refine aA ?_);simp only [go_sem,simprocAttr,Tryz.f110])
end Go.Eng
