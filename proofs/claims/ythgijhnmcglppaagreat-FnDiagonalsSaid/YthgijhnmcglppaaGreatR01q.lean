/- Transformations, by the program: the square of an arrow; the search in depth; all transformations between two functors. -/
import Derived.Test.YthgijhnmcglppaaGreatKbex
import Derived.Test.YthgijhnmcglppaaGreatKcgx
set_option linter.unusedSimpArgs false
set_option linter.unusedVariables false
set_option maxRecDepth 100000
set_option maxHeartbeats 16000000
namespace Go.Eng
open Go Go.Proofs Go.Cats
theorem aRO {β:Type} (M) (o:List β) (q):(stL M o q).1=decide (o.length+1≤M):=rfl
theorem aRP {β:Type} (M) (o:List β) (q):(stL M o q).2=o++[q]:=rfl
attribute [local go_sem] List.set_cons_zero List.set_cons_succ aRO aRP
theorem nT {c:Cat} (s:Shape c) {g:Int} (h0:0≤g) (h1:g<c.fr.length):g<c.co.length∧(c.co.getD g.toNat []).length=c.fr.length:=⟨by rw [s.col];exact h1,(s.coe g.toNat (by omega)).1⟩
theorem aDW:aE Tryz.prog 278:=⟨_,Tryz.func278,rfl,rfl⟩
theorem aF8 {f g:Fun} {A:List Int} {a:Nat} (h:Par f g) (ha:a<f.src.fr.length) (hA:A.length=f.src.ob.toNat) (c1:0≤A.getD (f.src.fr.getD a 0).toNat 0∧A.getD (f.src.fr.getD a 0).toNat 0<f.tgt.fr.length) (c2:0≤A.getD (f.src.to.getD a 0).toNat 0∧A.getD (f.src.to.getD a 0).toNat 0<f.tgt.fr.length):Spec Tryz.prog 278 [.bptr [] (dX f), .bptr [] (dX g), .bor [] (ints A),iv a] [] (bv (dec (SqP f g A a))) []:=by
 refine aD (E:=TE) 0 Tryz.func278 rfl (by simp [Tryz.f278]) fun X hn hX=>?_
 have s1:=h.src.toShape.frw a ha
 have s0:=h.src.toShape.tol
 have s2:=h.src.toShape.tow a (by omega)
 have l1:=h.fit.arl
 have l2:=h.fit2.arl
 rw [h.es]at l2
 have w1:=h.fit.arw a (by omega)
 have w2:=h.fit2.arw a (by omega)
 rw [h.et]at w2
 have r1:=nT h.tgt.toShape w1.1 w1.2
 have r2:=nT h.tgt.toShape c1.1 c1.2
 repeat'(first|refine wkQ ?_|refine Tw.f ?_ ?_|(refine kcQ cG ?_;refine krQ (cN (c:=f.tgt) ?_ ?_ ?_ ?_) ?_)|(refine fun(hc:(_:Bool)=_)=>?_;try simp only [hcS]at hc))
 all_goals try exact om_
 ·(first|refine aB ?_|refine aA ?_);simp only [go_sem,simprocAttr,Tryz.f278]
  rw [←mU];rfl
theorem aDV:aE Tryz.prog 205:=⟨_,Tryz.func205,rfl,rfl⟩
theorem aF7 {b:Int}:Spec Tryz.prog 205 [iv b] [] (bv true) []:=by
 refine aD (E:=TE) 0 Tryz.func205 rfl (by simp [Tryz.f205]) fun X hn hX=>?_
 repeat'(first|refine wkQ ?_|refine Tw.f ?_ ?_|(refine fun(hc:(_:Bool)=_)=>?_;try simp only [hcS]at hc))
 all_goals try exact om_
 all_goals((first|refine aB ?_|refine aA ?_);simp only [go_sem,simprocAttr,Tryz.f205])
theorem xT:aE Tryz.prog 206:=⟨_,Tryz.func206,rfl,rfl⟩
theorem aAi {q:List Int} {O:List (List Int)} {M:Nat} (hM:M≤4096) (hO:O.length≤M) (hl:q.length≤1048576):Spec Tryz.prog 206 [.bor [] (ints q), .ptr 0 0, .ptr 1 0] [(0,⟨1, .bx [.dead] 0 (aF O)⟩),(1,⟨1, .box [iv M]⟩)] (bv (stL M O q).1) [(0,⟨1, .bx [.dead] 0 (aF (stL M O q).2)⟩),(1,⟨1, .box [iv M]⟩)]:=by
 refine aD (E:=TE) 2 Tryz.func206 rfl (by simp [Tryz.f206]) fun X hn hX=>?_
 refine aGG ?_
 repeat'(first|(refine bU 1 (Imp.openB 0 0 _ _ rfl (Nat.le_refl 1) rfl rfl) ?_;simp only [go_sem,simprocAttr])|(with_reducible first|refine St.f ?_|refine V_c ?_|refine eDn ?_|refine And.intro ?_ ?_|refine aH ?_ ?_)|((refine aN ?_);intro K hK)|((with_reducible refine So.f ?_);intro K hK;simp(contextual:=true)only [go_sem,simprocAttr])|((with_reducible refine hK _ ?_);clear hK K)|((with_reducible refine aC 184 ?_);refine EvCall.rr (rO ?_) nE ?_)|(refine fun(hc:(_:Bool)=_)=>?_;try simp only [hcS]at hc))
 all_goals try exact om_
 refine sE (Imp.closeB 0 5 0 _ _ rfl rfl rfl (by decide)) ?_
 (first|refine aB ?_|refine aA ?_);simp only [go_sem,simprocAttr,Tryz.f206]
 rw [show decide ((O.length:Int)+1≤(M:Int))=decide (O.length+1≤M) from by rw [decide_eq_decide];omega]
theorem aKQ {f g:Fun} {P:List Int} {x:Nat} {a:Nat} (h:∀b,b<a→max (f.src.fr.getD b 0) (f.src.to.getD b 0)=x→SqP f g P b) (k:max (f.src.fr.getD a 0) (f.src.to.getD a 0)=x→SqP f g P a):∀b,b<a+1→max (f.src.fr.getD b 0) (f.src.to.getD b 0)=x→SqP f g P b:=fun b hb hm=>by
 by_cases e:b=a
 ·subst e;exact k hm
 ·exact h b (by omega) hm
theorem kZ:aE Tryz.prog 277:=⟨_,Tryz.func277,rfl,rfl⟩
theorem kI {f g:Fun} {M:Nat} (h:Par f g) (hM:M≤4096):∀(r x:Nat) (P:List Int) (F:List (List Int)),P.length=f.src.ob.toNat→x+r=f.src.ob.toNat→NatK f g (P.take x)→F.length≤M→
  Spec Tryz.prog 277 [iv x, .ptr 0 0, .ptr 1 0, .ptr 2 0, .ptr 3 0, .ptr 4 0, .ptr 5 0, .ptr 6 0, .ptr 7 0] [(0,⟨1, .box [.bptr [] (aU f.src)]⟩),(1,⟨1, .box [.fn 206 [.ptr 8 0, .ptr 9 0]]⟩),(2,⟨1, .box [.sl 10]⟩),(3,⟨1, .box [.bptr [] (aU f.tgt)]⟩),(4,⟨1, .box [.bptr [] (dX f)]⟩),(5,⟨1, .box [.bptr [] (dX g)]⟩),(6,⟨1, .box [.fn 205 []]⟩),(7,⟨1, .box [.fn 277 [.ptr 0 0, .ptr 1 0, .ptr 2 0, .ptr 3 0, .ptr 4 0, .ptr 5 0, .ptr 6 0, .ptr 7 0]]⟩),(8,⟨1, .bx [.dead] 0 (aF (F))⟩),(9,⟨1, .box [iv M]⟩),(10,⟨1, .arr (ints (P))⟩)] (bv (dL f g M r P F).1) [(0,⟨1, .box [.bptr [] (aU f.src)]⟩),(1,⟨1, .box [.fn 206 [.ptr 8 0, .ptr 9 0]]⟩),(2,⟨1, .box [.sl 10]⟩),(3,⟨1, .box [.bptr [] (aU f.tgt)]⟩),(4,⟨1, .box [.bptr [] (dX f)]⟩),(5,⟨1, .box [.bptr [] (dX g)]⟩),(6,⟨1, .box [.fn 205 []]⟩),(7,⟨1, .box [.fn 277 [.ptr 0 0, .ptr 1 0, .ptr 2 0, .ptr 3 0, .ptr 4 0, .ptr 5 0, .ptr 6 0, .ptr 7 0]]⟩),(8,⟨1, .bx [.dead] 0 (aF ((dL f g M r P F).2.1))⟩),(9,⟨1, .box [iv M]⟩),(10,⟨1, .arr (ints ((dL f g M r P F).2.2))⟩)]
 |0,x,P,F,hP,hx,hNK,hF=>by
  have o0:=h.src.toShape.ob0
  have o8:=h.src.toShape.ob8
  have hcl:=aAi (q:=P) (O:=F) hM hF (by omega)
  refine aD (E:=TE) 11 Tryz.func277 rfl (by simp [Tryz.f277]) fun X hn hX=>?_
  repeat'(first|(with_reducible first|refine aHW ?_|refine aHV ?_)|(with_reducible first|refine St.f ?_|refine V_c ?_|refine eDn ?_|refine And.intro ?_ ?_|refine aH ?_ ?_|refine aK ?_)|((refine aN ?_);intro K hK)|((with_reducible refine So.f ?_);intro K hK;simp(contextual:=true)only [go_sem,simprocAttr])|((with_reducible refine hK _ ?_);clear hK K)|((with_reducible refine aC 206 ?_);refine EvCall.mr (hcl) xT [(0,8),(1,9)] [10] ?_)|(refine fun(hc:(_:Bool)=_)=>?_;try simp only [hcS]at hc))
  all_goals try exact om_
  ·(first|refine aB ?_|refine aA ?_);simp only [go_sem,simprocAttr,Tryz.f277]
   exact⟨⟨rfl,rfl⟩,rfl⟩
 |r+1,x,P,F,hP,hx,hNK,hF=>by
  have o0:=h.src.toShape.ob0
  have o8:=h.src.toShape.ob8
  have m40:=h.tgt.toShape.m40
  have sm40:=h.src.toShape.m40
  have tol:=h.tgt.toShape.tol
  have sol:=h.src.toShape.tol
  have obl:=h.fit.obl
  have obl2:=h.fit2.obl
  rw [h.es]at obl2
  obtain⟨st,hst⟩:=aNu (M:=M) h.src.toShape hP hx hNK hF
  have hl:=f.tgt.homI_len (f.obs.getD x 0) (g.obs.getD x 0) f.tgt.fr.length
  have hl:(f.tgt.hom (f.obs.getD x 0) (g.obs.getD x 0)).length≤f.tgt.fr.length:=hl
  obtain⟨C,hC⟩:∃C,f.tgt.hom (f.obs.getD x 0) (g.obs.getD x 0)=C:=⟨_,rfl⟩
  rw [hC]at hst hl
  rw [hst.all]
  refine aD (E:=TE) 11 Tryz.func277 rfl (by simp [Tryz.f277]) fun X hn hX=>?_
  repeat'(first|(with_reducible first|refine aHW ?_|refine aHV ?_)|(rw [hC])|(with_reducible first|refine St.f ?_|refine V_c ?_|refine eDn ?_|refine And.intro ?_ ?_|refine aH ?_ ?_|refine aK ?_)|((refine aN ?_);intro K hK)|((with_reducible refine So.f ?_);intro K hK;simp(contextual:=true)only [go_sem,simprocAttr])|((with_reducible refine hK _ ?_);clear hK K)|((with_reducible refine aC 124 ?_);refine EvCall.rr (gU (c:=f.tgt) ?_ ?_) gH ?_)|(refine fun(hc:(_:Bool)=_)=>?_;try simp only [hcS]at hc))
  all_goals try exact om_
  refine aG (G:={k:Nat//k≤C.length∧((st k).1=true)}) (fun⟨k,_⟩=>[(40,iv k),(38, .sl 11)]) [0,1,3,5,6,7,8,39] (fun⟨k,_⟩=>[(8,⟨1, .bx [.dead] 0 (aF (st k).2.1)⟩),(10,⟨1, .arr (ints (st k).2.2)⟩),(11,⟨1, .arr (ints C)⟩)]) [8,10,11] (fun zz=>C.length-zz.1) ⟨0,Nat.zero_le _,by rw [hst.zero]⟩ ?_ ?_
  ·exact Imp.auto hX (by simp [go_sem,simprocAttr,hst.zero])
  rintro⟨k,hik,hwk⟩
  simp only [go_sem,simprocAttr]
  have hlen:=hst.len k (by omega)
  have hfew:=hst.few k (by omega) hwk
  rcases Nat.lt_or_ge k C.length with hlt|hge
  ·have hrng:=hst.rng k hlt
   have hyes:=hst.yes k hlt hwk
   have hno:=hst.no k hlt hwk
   have hstop:=hst.stop k hlt
   have hgood:=hst.good k hlt
   obtain⟨P2,hP2⟩:∃P2,(st k).2.2.set x (C.getD k 0)=P2:=⟨_,rfl⟩
   have hl2:P2.length=f.src.ob.toNat:=by rw [←hP2,List.length_set];exact hlen
   rw [hP2]at hrng hyes hno hgood
   repeat'(first|(rw [hP2])|(with_reducible first|refine St.f ?_|refine V_c ?_|refine eDn ?_|refine And.intro ?_ ?_|refine aH ?_ ?_|refine aK ?_)|((refine aN ?_);intro K hK)|((with_reducible refine So.f ?_);intro K hK;simp(contextual:=true)only [go_sem,simprocAttr])|((with_reducible refine hK _ ?_);clear hK K)|((with_reducible refine aC 205 ?_);refine EvCall.rr (aF7) aDV ?_)|(refine fun(hc:(_:Bool)=_)=>?_;try simp only [hcS]at hc))
   all_goals try exact om_
   refine aG (G:={a:Nat//a≤f.src.fr.length∧(∀b,b<a→max (f.src.fr.getD b 0) (f.src.to.getD b 0)=x→SqP f g P2 b)}) (fun⟨a,_⟩=>[(57,iv a),(38, .sl 11)]) [0,1,3,5,6,7,8,10,39,40,56] (fun⟨a,_⟩=>[(10,⟨1, .arr (ints P2)⟩)]) [10] (fun zz=>f.src.fr.length-zz.1) ⟨0,Nat.zero_le _,(fun b hb=>absurd hb (Nat.not_lt_zero b))⟩ ?_ ?_
   ·exact Imp.au hX
   rintro⟨a,hia,hwa⟩
   simp only [go_sem,simprocAttr]
   rcases Nat.lt_or_ge a f.src.fr.length with hla|hga
   ·have f1:=h.src.toShape.frw a hla
    have f2:=h.src.toShape.tow a (by omega)
    have hco:max (f.src.fr.getD a 0) (f.src.to.getD a 0)=x→Spec Tryz.prog 278 [.bptr [] (dX f), .bptr [] (dX g), .bor [] (ints P2),iv a] [] (bv (dec (SqP f g P2 a))) []:=fun hm=>aF8 h hla hl2 (hrng _ (by omega)) (hrng _ (by omega))
    repeat'(first|(with_reducible first|refine St.f ?_|refine V_c ?_|refine eDn ?_|refine And.intro ?_ ?_|refine aH ?_ ?_|refine aK ?_)|((refine aN ?_);intro K hK)|((with_reducible refine So.f ?_);intro K hK;simp(contextual:=true)only [go_sem,simprocAttr])|((with_reducible refine hK _ ?_);clear hK K)|((with_reducible refine aC 278 ?_);refine EvCall.mr ((hco (by assumption))) aDW [] [10] ?_)|(refine aJr rfl rfl ?_;simp only [go_sem,simprocAttr])|(refine fun(hc:(_:Bool)=_)=>?_;try simp only [hcS]at hc))
    all_goals try exact om_
    ·have hn1:=hno fun q=>absurd (q a hla (by assumption)) (by assumption)
     refine⟨⟨k+1,by omega,(by rw [hn1])⟩,by simp only;omega,Imp.auto hX (by simp only [go_sem,simprocAttr,hn1])⟩
    ·refine⟨⟨a+1,by omega,(by exact aKQ hwa (fun _=>by assumption))⟩,by simp only;omega,Imp.ao hX⟩
    ·refine⟨⟨a+1,by omega,(by exact aKQ hwa (fun q=>absurd q (by assumption)))⟩,by simp only;omega,Imp.ao hX⟩
   ·have hq:SqX f g P2 x:=fun b hb hm=>hwa b (by omega) hm
    have hy:=hyes hq
    have hrec:=kI h hM r (x+1) P2 (st k).2.1 hl2 (by omega) (hgood hq) hfew
    rw [←hy,show((x+1:Nat):Int)=(x:Int)+1 from by omega]at hrec
    repeat'(first|(with_reducible first|refine St.f ?_|refine V_c ?_|refine eDn ?_|refine And.intro ?_ ?_|refine aH ?_ ?_|refine aK ?_)|((refine aN ?_);intro K hK)|((with_reducible refine So.f ?_);intro K hK;simp(contextual:=true)only [go_sem,simprocAttr])|((with_reducible refine hK _ ?_);clear hK K)|((with_reducible refine aC 277 ?_);refine EvCall.mr (hrec) kZ [(0,0),(1,1),(2,2),(3,3),(4,4),(5,5),(6,6),(7,7),(8,8),(9,9),(10,10)] [] ?_)|(refine fun(hc:(_:Bool)=_)=>?_;try simp only [hcS]at hc))
    all_goals try exact om_
    ·rw [hstop (by assumption)]
     (first|refine aB ?_|refine aA ?_);simp only [go_sem,simprocAttr,Tryz.f277]
     rw [(by assumption:(st (k+1)).1=false)]
    ·refine⟨⟨k+1,by omega,(by assumption)⟩,by simp only;omega,Imp.ao hX⟩
  ·have ek:k=C.length:=by omega
   subst ek
   repeat'(first|(with_reducible first|refine St.f ?_|refine V_c ?_|refine eDn ?_|refine And.intro ?_ ?_|refine aH ?_ ?_|refine aK ?_)|((refine aN ?_);intro K hK)|((with_reducible refine So.f ?_);intro K hK;simp(contextual:=true)only [go_sem,simprocAttr])|((with_reducible refine hK _ ?_);clear hK K)|(refine fun(hc:(_:Bool)=_)=>?_;try simp only [hcS]at hc))
   all_goals try exact om_
   ·(first|refine aB ?_|refine aA ?_);simp only [go_sem,simprocAttr,Tryz.f277]
    rw [hwk]
theorem aHg {f g:Fun} {M:Nat} {F:List (List Int)} (hs:Shape f.src) (hF:F.length≤M):(dL f g M f.src.ob.toNat (List.replicate f.src.ob.toNat 0) F).1=(eat (stL M) F (gQ f g)).1∧(dL f g M f.src.ob.toNat (List.replicate f.src.ob.toNat 0) F).2.1=(eat (stL M) F (gQ f g)).2:=by
 have:=uJ (f:=f) (g:=g) hs f.src.ob.toNat 0 (List.replicate f.src.ob.toNat 0) F (by rw [List.length_replicate]) (by omega) .nil hF
 exact⟨this.ok,this.out⟩
theorem xV:aE Tryz.prog 204:=⟨_,Tryz.func204,rfl,rfl⟩
theorem aAm {f g:Fun} {M:Nat} {F:List (List Int)} (h:Par f g) (hM:M≤4096) (hF:F.length≤M):Spec Tryz.prog 204 [.bptr [] (dX f), .bptr [] (dX g), .fn 205 [], .fn 206 [.ptr 0 0, .ptr 1 0]] [(0,⟨1, .bx [.dead] 0 (aF F)⟩),(1,⟨1, .box [iv M]⟩)] (bv (eat (stL M) F (gQ f g)).1) [(0,⟨1, .bx [.dead] 0 (aF (eat (stL M) F (gQ f g)).2)⟩),(1,⟨1, .box [iv M]⟩)]:=by
 refine aD (E:=TE) 2 Tryz.func204 rfl (by simp [Tryz.f204]) fun X hn hX=>?_
 have o0:=h.src.toShape.ob0
 have o8:=h.src.toShape.ob8
 have hrun:=kI h hM f.src.ob.toNat 0 (List.replicate f.src.ob.toNat 0) F (by rw [List.length_replicate]) (by omega) .nil hF
 obtain⟨a1,a2⟩:=aHg (g:=g) h.src.toShape hF
 rw [a1,a2]at hrun
 repeat'(first|refine wkQ ?_|refine Tw.f ?_ ?_|(refine kcQ kZ ?_;refine kwQ (hrun) [(0,6),(1,5),(2,9),(3,7),(4,2),(5,3),(6,4),(7,10),(8,0),(9,1),(10,8)] [] ?_)|(refine fun(hc:(_:Bool)=_)=>?_;try simp only [hcS]at hc))
 all_goals try exact om_
 ·(first|refine aB ?_|refine aA ?_);simp only [go_sem,simprocAttr,Tryz.f204]
theorem kX:aE Tryz.prog 109:=⟨_,Tryz.func109,rfl,rfl⟩
theorem tN {f g:Fun} {M:Nat} (h:Par f g) (hM:M≤4096):Spec Tryz.prog 109 [.bptr [] (dX f), .bptr [] (dX g),iv M] [] (.tup [.sl 0,bv (eat (stL M) [] (gQ f g)).1]) [(0,⟨1, .arr (aF (eat (stL M) [] (gQ f g)).2)⟩)]:=by
 refine aD (E:=TE) 0 Tryz.func109 rfl (by simp [Tryz.f109]) fun X hn hX=>?_
 have hnl:=aAm (F:=[]) h hM (Nat.zero_le _)
 repeat'(first|(refine bU 2 (Imp.closeB 2 1 0 _ _ rfl rfl rfl (by decide)) ?_;simp only [go_sem,simprocAttr])|(refine bU 3 (Imp.openB 2 0 _ _ rfl (Nat.succ_le_succ (Nat.zero_le _)) rfl rfl) ?_;simp only [go_sem,simprocAttr])|(with_reducible first|refine St.f ?_|refine V_c ?_|refine And.intro ?_ ?_|refine aH ?_ ?_)|((refine aN ?_);intro K hK)|((with_reducible refine So.f ?_);intro K hK;simp(contextual:=true)only [go_sem,simprocAttr])|((with_reducible refine hK _ ?_);clear hK K)|((with_reducible refine aC 204 ?_);refine EvCall.mr (hnl) xV [(0,2),(1,0)] [] ?_)|(refine fun(hc:(_:Bool)=_)=>?_;try simp only [hcS]at hc))
 all_goals try exact om_
 ·(first|refine aB ?_|refine aA ?_);simp only [go_sem,simprocAttr,Tryz.f109]
end Go.Eng
