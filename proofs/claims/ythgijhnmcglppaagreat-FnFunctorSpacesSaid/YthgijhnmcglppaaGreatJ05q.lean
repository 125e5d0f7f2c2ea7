/- The law FnFunctorSpaces: its body. -/
import Derived.Test.YthgijhnmcglppaaGreatN52y
import Derived.Test.YthgijhnmcglppaaGreatZ19q
import Derived.Test.YthgijhnmcglppaaGreatU10y
set_option linter.unusedSimpArgs false
set_option linter.unusedVariables false
set_option maxRecDepth 100000
set_option maxHeartbeats 32000000
namespace Go.Eng
open Go Go.Proofs Go.Cats
theorem aOo (L:List Fun) (i:Nat):fcP L (i+1) 0=fcP L i L.length:=by
 unfold fcP
 rw [iI,show fcR L (i+1) 0=[] from rfl,List.append_nil]
theorem aLq (L:List Fun) (i j:Nat):(fcP L i (j+1)).length=(fcP L i j).length+(gQ (L.getD i default) (L.getD j default)).length:=by
 rw [aA8,List.length_append,aD6]
attribute [local go_sem] List.set_cons_zero List.set_cons_succ List.take_succ_cons List.take_zero
theorem uU {l:List Int} (hl:(l.length:Int)≤9223372036854775807) (hb:∀i,i<l.length→0≤l.getD i 0∧l.getD i 0<256):Spec Tryz.prog 5 [.bor [] (bys l)] [] (bv true) []:=by
 refine aD (E:=TE) 0 Tryz.func5 rfl (by simp [Tryz.f5]) fun X hn hX=>?_
 by_cases h4:4096<l.length
 ·repeat'(first|(with_reducible first|refine St.f ?_|refine V_c ?_|refine eDn ?_|refine And.intro ?_ ?_|refine aH ?_ ?_|refine aK ?_)|((refine aN ?_);intro K hK)|((with_reducible refine So.f ?_);intro K hK;simp(contextual:=true)only [go_sem,simprocAttr])|((with_reducible refine hK _ ?_);clear hK K)|((with_reducible refine aC 12 ?_);refine EvCall.rr (uW (l:=l) ?_) oG ?_)|(refine fun(hc:(_:Bool)=_)=>?_;try simp only [hcS]at hc))
  all_goals try exact om_
  all_goals try(exfalso;omega)
  (first|refine aB ?_|refine aA ?_);simp only [go_sem,simprocAttr,Tryz.f5]
 ·have hk:CodeOk l:=⟨by omega,hb⟩
  have hD:=jW hk
  obtain⟨bc,bd⟩:=aOl hk
  generalize aD5 l=q at hD bc bd
  obtain⟨⟨c,d⟩,x⟩:=q
  simp only at hD bc bd
  obtain⟨g,code,ho⟩:=EvOut.ex c d x
  have hg:=ho.b bc bd
  have hSF:=jV hg hg
  rw [bH rfl]at hSF
  by_cases h0:code=0
  ·subst h0
   obtain⟨sc,sd,hx,hy,hge⟩:IsCat c∧IsCat d∧(0≤x∧x<c.ob)∧FcY c d∧g=evF c d x:=by
    rcases ho with⟨_,_,q⟩|⟨sc,sd,⟨_,_,q⟩|⟨hx,⟨_,_,q⟩|⟨hy,e,_⟩⟩⟩
    ·exact absurd q (by decide)
    ·exact absurd q (by decide)
    ·exact absurd q (by decide)
    ·exact⟨sc,sd,hx,hy,e⟩
   have hfl:FL c d (fcL c d):=FL.of_funX
   have hL8:=hy.2.1
   have hA40:=hy.2.2
   have hML:sX c d∧(fcL c d).length≤200:=⟨hy.1,by omega⟩
   have hKc:=aIe hfl sc sd hL8 hA40
   have hgs:g.src=fcK d (fcL c d):=by rw [hge];rfl
   have hKb:CatB (fcK d (fcL c d)):=by rw [←hgs];exact hg.src
   have hgf:IsFun g:=by
    obtain⟨k,rfl⟩:∃k:Nat,x=k:=⟨_,(Int.toNat_of_nonneg hx.1).symm⟩
    rw [hge];exact aIa sc sd hy (by omega)
   have hIC:=aCx hKb
   rw [bH hKc]at hIC
   have hIF:=aEv hg
   rw [bH hgf]at hIF
   have hSC:=zU (a:=g.src) (b:=fcK d (fcL c d)) hg.src hKb
   rw [bH hgs]at hSC
   have hfr:(fcK d (fcL c d)).fr.length=(fcA (fcL c d)).length:=by rw [oR];exact aGv
   have hKo:(fcK d (fcL c d)).ob=((fcL c d).length:Int):=rfl
   have hpart:∀i,i<(fcL c d).length→(aS (fcL c d)).part (i*12) 12=[.v (.int .i64 ((fcL c d).getD i default).src.ob),ints ((fcL c d).getD i default).src.fr,ints ((fcL c d).getD i default).src.to,ints ((fcL c d).getD i default).src.id,aF ((fcL c d).getD i default).src.co, .v (.int .i64 ((fcL c d).getD i default).tgt.ob),ints ((fcL c d).getD i default).tgt.fr,ints ((fcL c d).getD i default).tgt.to,ints ((fcL c d).getD i default).tgt.id,aF ((fcL c d).getD i default).tgt.co,ints ((fcL c d).getD i default).obs,ints ((fcL c d).getD i default).ars]:=fun i hi=>iK (fcL c d) i hi
   have hF:∀i,i<(fcL c d).length→IsFun ((fcL c d).getD i default):=fun i hi=>⟨by rw [(hfl i hi).1];exact sc,by rw [(hfl i hi).2.1];exact sd,(hfl i hi).2.2⟩
   have hB:∀i,i<(fcL c d).length→FunB ((fcL c d).getD i default):=fun i hi=>by
    obtain⟨e1,e2,e3⟩:=hfl i hi
    have o1:=e3.obl
    have o2:=e3.arl
    have o3:=sc.toShape.ob8
    have o4:=sc.toShape.m40
    rw [e1]at o1 o2
    exact⟨by rw [e1];exact bc,by rw [e2];exact bd,by omega,by omega⟩
   have hFC:=pE bc bd sc sd hy
   have hCF:=rK sc sd bc bd hML
   generalize fcL c d=L at *
   have hPl:∀i j,i<L.length→j≤L.length→(fcP L i j).length≤(fcA L).length:=fun i j hi hj=>aGX hi hj
   have hKl:(fcA L).length≤40:=hA40
   generalize hKe:fcK d L=K at *
   repeat'(first|(refine bU 4 (Imp.trans (Imp.cellRd 8 4 3 _ _ _ (aF c.co) rfl (by decide) rfl rfl) (Imp.cellRd 9 4 7 _ _ _ (aF d.co) rfl (by decide) rfl rfl)) ?_;simp only [go_sem,simprocAttr])|(with_reducible first|refine St.f ?_|refine V_c ?_|refine eDn ?_|refine And.intro ?_ ?_|refine aH ?_ ?_|refine aK ?_)|((refine aN ?_);intro K hK)|((with_reducible refine So.f ?_);intro K hK;simp(contextual:=true)only [go_sem,simprocAttr])|((with_reducible refine hK _ ?_);clear hK K)|((with_reducible refine aC 12 ?_);refine EvCall.rr (uW (l:=l) ?_) oG ?_)|((with_reducible refine aC 28 ?_);refine EvCall.mr (hD) eU [(0,0),(1,1),(2,2),(3,3),(4,4),(5,5),(6,6),(7,7)] [] ?_)|((with_reducible refine aC 18 ?_);refine EvCall.rq (a:=(fA (c:=c) (d:=d) (x:=x) (g:=g) (code:=0) (by first|omega|assumption|rfl) (by first|omega|assumption|rfl) (by first|omega|assumption|rfl))) (b:=fU) (c:=?_);all_goals try simp only [go_sem,simprocAttr])|((with_reducible refine aC 29 ?_);refine EvCall.rq (a:=(fP (c:=c) (d:=d) (x:=x) (g:=g) (code:=0) (by first|omega|assumption|rfl) (by first|omega|assumption|rfl) (by first|omega|assumption|rfl))) (b:=gA) (c:=?_);all_goals try simp only [go_sem,simprocAttr])|((with_reducible refine aC 16 ?_);refine EvCall.mr (hSF) gJ [] [10,11,12,13,14,15,16,17,18,19,21,22,23,24,25,26,27,28,29,30] ?_)|((with_reducible refine aC 30 ?_);refine EvCall.mr (hFC) sZ [(0,32),(1,33),(2,34),(3,35),(4,36),(5,37)] [0,1,2,3,4,5,6,7] ?_)|((with_reducible refine aC 31 ?_);refine EvCall.mr (hCF) vH [] [0,1,2,3,4,5,6,7] ?_)|((with_reducible refine aC 32 ?_);refine EvCall.mr (hIC) aAQ [] [32,33,34,35] ?_)|((with_reducible refine aC 33 ?_);refine EvCall.mr (hIF) aCl [] [10,11,12,13,14,15,16,17,18,19] ?_)|((with_reducible refine aC 34 ?_);refine EvCall.mr (hSC) vL [] [10,11,12,13,32,33,34,35] ?_)|(refine fun(hc:(_:Bool)=_)=>?_;try simp only [hcS]at hc))
   all_goals try exact om_
   all_goals try(exfalso;omega)
   refine aG (G:={i:Nat//i≤L.length∧(True)}) (fun⟨i,_⟩=>[(17,iv i),(16,iv (fcP L i 0).length),(3, .ptr 8 0),(4, .ptr 9 0),(6, .ptr 20 0),(8, .ptr 31 0),(10, .ptr 38 0),(11, .sl 36),(12, .sl 37)]) [] (fun⟨i,_⟩=>[]) [] (fun zz=>L.length-zz.1) ⟨0,Nat.zero_le _,by trivial⟩ ?_ ?_
   ·exact Imp.auto hX (by simp [go_sem,simprocAttr,qR])
   rintro⟨i,hii,hwi⟩
   simp only [go_sem,simprocAttr]
   rcases Nat.lt_or_ge i L.length with hli|hgi
   ·have pi:=hpart i hli
    repeat'(first|(with_reducible first|refine St.f ?_|refine V_c ?_|refine eDn ?_|refine And.intro ?_ ?_|refine aH ?_ ?_|refine aK ?_)|((refine aN ?_);intro K hK)|((with_reducible refine So.f ?_);intro K hK;simp(contextual:=true)only [go_sem,simprocAttr])|((with_reducible refine hK _ ?_);clear hK K)|(refine fun(hc:(_:Bool)=_)=>?_;try simp only [hcS]at hc))
    all_goals try exact om_
    all_goals try(exfalso;omega)
    refine aG (G:={j:Nat//j≤L.length∧(True)}) (fun⟨j,_⟩=>[(18,iv j),(17,iv i),(16,iv (fcP L i j).length),(3, .ptr 8 0),(4, .ptr 9 0),(6, .ptr 20 0),(8, .ptr 31 0),(10, .ptr 38 0),(11, .sl 36),(12, .sl 37)]) [] (fun⟨j,_⟩=>[]) [] (fun zz=>L.length-zz.1) ⟨0,Nat.zero_le _,by first|trivial|simp⟩ ?_ ?_
    ·exact Imp.au hX
    rintro⟨j,hij,hwj⟩
    simp only [go_sem,simprocAttr]
    rcases Nat.lt_or_ge j L.length with hlj|hgj
    ·have pj:=hpart j hlj
     have e1:=aLq L i j
     have e2:=hPl i (j+1) hli hlj
     have hT:=lX (hfl.par sc sd hli hlj) (hF i hli) (hF j hlj) (hB i hli) (hB j hlj) (by omega)
     repeat'(first|(rw [pi];simp only [go_sem,simprocAttr])|(rw [pj];simp only [go_sem,simprocAttr])|(with_reducible first|refine St.f ?_|refine V_c ?_|refine eDn ?_|refine And.intro ?_ ?_|refine aH ?_ ?_|refine aK ?_)|((refine aN ?_);intro K hK)|((with_reducible refine So.f ?_);intro K hK;simp(contextual:=true)only [go_sem,simprocAttr])|((with_reducible refine hK _ ?_);clear hK K)|((with_reducible refine aC 35 ?_);refine EvCall.mr (hT) oF [(0,39)] [36] ?_)|(refine fun(hc:(_:Bool)=_)=>?_;try simp only [hcS]at hc))
     all_goals try exact om_
     all_goals try(exfalso;omega)
     refine⟨⟨j+1,by omega,(by trivial)⟩,by simp only;omega,Imp.auto hX (by simp only [go_sem,simprocAttr,e1])⟩
    ·obtain rfl:j=L.length:=by omega
     have e1:=aOo L i
     repeat'(first|(with_reducible first|refine St.f ?_|refine V_c ?_|refine eDn ?_|refine And.intro ?_ ?_|refine aH ?_ ?_|refine aK ?_)|((refine aN ?_);intro K hK)|((with_reducible refine So.f ?_);intro K hK;simp(contextual:=true)only [go_sem,simprocAttr])|((with_reducible refine hK _ ?_);clear hK K)|(refine fun(hc:(_:Bool)=_)=>?_;try simp only [hcS]at hc))
     all_goals try exact om_
     all_goals try(exfalso;omega)
     refine⟨⟨i+1,by omega,(by(trivial))⟩,by simp only;omega,Imp.auto hX (by simp only [go_sem,simprocAttr,e1])⟩
   ·obtain rfl:i=L.length:=by omega
    repeat'(first|(with_reducible first|refine St.f ?_|refine V_c ?_|refine eDn ?_|refine And.intro ?_ ?_|refine aH ?_ ?_|refine aK ?_)|((refine aN ?_);intro K hK)|((with_reducible refine So.f ?_);intro K hK;simp(contextual:=true)only [go_sem,simprocAttr])|((with_reducible refine hK _ ?_);clear hK K)|(refine fun(hc:(_:Bool)=_)=>?_;try simp only [hcS]at hc))
    all_goals try exact om_
    all_goals try(exfalso;omega)
    (first|refine aB ?_|refine aA ?_);simp only [go_sem,simprocAttr,Tryz.f5]
    exact congrArg (fun b=>Sv.v (.bool b)) (decide_eq_true rfl)
  ·repeat'(first|(refine bU 4 (Imp.trans (Imp.cellRd 8 4 3 _ _ _ (aF c.co) rfl (by decide) rfl rfl) (Imp.cellRd 9 4 7 _ _ _ (aF d.co) rfl (by decide) rfl rfl)) ?_;simp only [go_sem,simprocAttr])|(with_reducible first|refine St.f ?_|refine V_c ?_|refine eDn ?_|refine And.intro ?_ ?_|refine aH ?_ ?_|refine aK ?_)|((refine aN ?_);intro K hK)|((with_reducible refine So.f ?_);intro K hK;simp(contextual:=true)only [go_sem,simprocAttr])|((with_reducible refine hK _ ?_);clear hK K)|((with_reducible refine aC 12 ?_);refine EvCall.rr (uW (l:=l) ?_) oG ?_)|((with_reducible refine aC 28 ?_);refine EvCall.mr (hD) eU [(0,0),(1,1),(2,2),(3,3),(4,4),(5,5),(6,6),(7,7)] [] ?_)|((with_reducible refine aC 18 ?_);refine EvCall.rq (a:=(fA (c:=c) (d:=d) (x:=x) (g:=g) (code:=code) (by first|omega|assumption|rfl) (by first|omega|assumption|rfl) (by first|omega|assumption|rfl))) (b:=fU) (c:=?_);all_goals try simp only [go_sem,simprocAttr])|((with_reducible refine aC 29 ?_);refine EvCall.rq (a:=(fP (c:=c) (d:=d) (x:=x) (g:=g) (code:=code) (by first|omega|assumption|rfl) (by first|omega|assumption|rfl) (by first|omega|assumption|rfl))) (b:=gA) (c:=?_);all_goals try simp only [go_sem,simprocAttr])|((with_reducible refine aC 16 ?_);refine EvCall.mr (hSF) gJ [] [10,11,12,13,14,15,16,17,18,19,21,22,23,24,25,26,27,28,29,30] ?_)|(refine fun(hc:(_:Bool)=_)=>?_;try simp only [hcS]at hc))
   all_goals try exact om_
   all_goals try(exfalso;omega)
   all_goals((first|refine aB ?_|refine aA ?_);simp only [go_sem,simprocAttr,Tryz.f5])
end Go.Eng
