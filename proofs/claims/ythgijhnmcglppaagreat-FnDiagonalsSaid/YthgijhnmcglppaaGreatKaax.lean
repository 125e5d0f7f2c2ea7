/- Several texts in one: R06, R07. -/
import Derived.Test.YthgijhnmcglppaaGreatR05q
import Derived.Test.YthgijhnmcglppaaGreatKbax
set_option linter.unusedSimpArgs false
set_option linter.unusedVariables false
set_option maxRecDepth 100000
set_option maxHeartbeats 16000000
section
namespace Go.Eng
open Go Go.Proofs Go.Cats
attribute [local go_sem] List.set_cons_zero List.set_cons_succ kV
theorem aP0 {α:Type} {A B:List α} {n:Nat} (h:n≤A.length):(A++B).take n=A.take n:=List.take_append_of_le_length h
theorem tI:aE Tryz.prog 328:=⟨_,Tryz.func328,rfl,rfl⟩
theorem rR {c d:Cat} {P:List Int} (sc:Shape c) (sd:Shape d) (hP:XOK c d false P):∀(n:Nat) (F:List (List Int)) (A:List Int) (i:Nat),NX c d false P A→uns A<n→(∀j,j<i→0≤A.getD j 0)→i≤c.fr.length→F.length≤200→
  Spec Tryz.prog 328 [bK c,bK d, .bor [] (ints P), .bor [] (ints A),iv i, .sl 0] [(0,⟨1, .arr (aF F)⟩)] (.sl 1) [(0,⟨1, .gone⟩),(1,⟨1, .arr (aF ((F++dE (WA c d false P) (sA c d) A).take 201))⟩)]
 |0,_,_,_,_,hk,_,_,_=>by omega
 |n+1,F,A,i,hA,hk,hlo,hi,hF=>by
  have m40:=sc.m40
  have n40:=sd.m40
  have tol:=sc.tol
  have dol:=sd.tol
  have hPl:=hP.len
  have hAl:=hA.va.len
  have c0:=sc.ob0
  obtain⟨pk,hpk⟩:∃pk:Nat→Nat,∀k,pk k=i+k:=⟨_,fun _=>rfl⟩
  have pk0:pk 0=i:=hpk 0
  refine aD (E:=TE) 1 Tryz.func328 rfl (by simp [Tryz.f328]) fun X hn hX=>?_
  repeat'(first|(refine bU 0 (Imp.mv 5 0 1 (aF F) rfl rfl (Nat.le_refl 1) rfl (by rw [hX];rfl)) ?_;simp only [go_sem,simprocAttr])|(with_reducible first|refine St.f ?_|refine V_c ?_|refine eDn ?_|refine And.intro ?_ ?_|refine aH ?_ ?_|refine aK ?_)|((refine aN ?_);intro K hK)|((with_reducible refine So.f ?_);intro K hK;simp(contextual:=true)only [go_sem,simprocAttr])|((with_reducible refine hK _ ?_);clear hK K)|(refine fun(hc:(_:Bool)=_)=>?_;try simp only [hcS]at hc))
  all_goals try exact om_
  refine aG (G:={k:Nat//k≤(c.fr.length-i)∧((∀j,j<pk k→0≤A.getD j 0))}) (fun⟨k,_⟩=>[(4,iv (pk k)),(5, .sl 1)]) [2,3,6,7,12] (fun⟨k,_⟩=>[(1,⟨1, .arr (aF F)⟩)]) [1] (fun zz=>(c.fr.length-i)-zz.1) ⟨0,Nat.zero_le _,(by rw [pk0];exact hlo)⟩ ?_ ?_
  ·exact Imp.auto hX (by simp [go_sem,simprocAttr,pk0])
  rintro⟨k,hik,hwk⟩
  simp only [go_sem,simprocAttr]
  have hkp:=hpk k
  have hkn:=hpk (k+1)
  have e1:((pk (k+1):Nat):Int)=(pk k:Int)+1:=by omega
  obtain⟨p,hp⟩:∃p,pk k=p:=⟨_,rfl⟩
  rw [hp]at hwk e1 hkp⊢
  rcases Nat.lt_or_ge p c.fr.length with hlt|hge
  ·by_cases h0:0≤A.getD p 0
   ·have hinv:∀j,j<pk (k+1)→0≤A.getD j 0:=fun j hj=>by
     by_cases e:j=p
     ·rw [e];exact h0
     ·exact hwk j (by omega)
    repeat'(first|refine wkQ ?_|refine Tw.f ?_ ?_|(refine fun(hc:(_:Bool)=_)=>?_;try simp only [hcS]at hc))
    all_goals try exact om_
    ·refine⟨⟨k+1,by omega,(by(exact hinv))⟩,by simp only;omega,Imp.auto hX (by simp only [go_sem,simprocAttr,e1])⟩
   ·have hm1:A.getD p 0= -1:=by have:=hA.va.rng.2 p (by omega);have:=hA.va.lo p (by omega);omega
    have hb:=aAP (b:=false) hA.va (by omega) hm1 hwk
    have f1:=sc.frw p hlt
    have f2:=sc.tow p (by omega)
    rw [hb]
    obtain⟨H,hH⟩:∃H,d.hom (P.getD (c.fr.getD p 0).toNat 0) (P.getD (c.to.getD p 0).toNat 0)=H:=⟨_,rfl⟩
    have hho:=yN (c:=d) (x:=P.getD (c.fr.getD p 0).toNat 0) (y:=P.getD (c.to.getD p 0).toNat 0) (by omega) (by omega)
    have hHl:H.length≤d.fr.length:=by rw [←hH];exact d.homI_len _ _ _
    rw [hH]at hho⊢
    obtain⟨fd,hfd⟩:∃fd:Nat→List (List Int),∀k,fd k=(F++cZ (WA c d false P) (sA c d) A p (H.take k)).take 201:=⟨_,fun _=>rfl⟩
    have fd0:fd 0=F:=by rw [hfd,List.take_zero,kV,List.append_nil,List.take_of_length_le (by omega)]
    have fdl:∀k,(fd k).length≤201:=fun k=>by rw [hfd];simp only [List.length_take];omega
    have fdE:∀k,H.length≤k→fd k=(F++cZ (WA c d false P) (sA c d) A p H).take 201:=fun k hk=>by rw [hfd,List.take_of_length_le hk]
    have fdS:∀k,¬(fd k).length≤200→fd k=(F++cZ (WA c d false P) (sA c d) A p H).take 201:=fun k hk=>by
     rw [hfd]at hk⊢
     rcases Nat.lt_or_ge k H.length with q|q
     ·have e2:cZ (WA c d false P) (sA c d) A p H=cZ (WA c d false P) (sA c d) A p (H.take k)++cZ (WA c d false P) (sA c d) A p (H.drop k):=by
       unfold cZ
       rw [←List.flatMap_append,List.take_append_drop]
      rw [e2,←List.append_assoc,aP0 (B:=cZ (WA c d false P) (sA c d) A p (H.drop k))]
      rw [List.length_take]at hk
      omega
     ·rw [List.take_of_length_le q]
    repeat'(first|refine wkQ ?_|refine Tw.f ?_ ?_|(refine kcQ tT ?_;refine kwQ (hho) [(0,4)] [] ?_)|(refine fun(hc:(_:Bool)=_)=>?_;try simp only [hcS]at hc))
    all_goals try exact om_
    refine aG (G:={j:Nat//j≤H.length∧(True)}) (fun⟨j,_⟩=>[(14,iv j),(13, .sl 4),(5, .sl 1),(4,iv p)]) [2,3,6,7,12] (fun⟨j,_⟩=>[(1,⟨1, .arr (aF (fd j))⟩),(4,⟨1, .arr (ints H)⟩)]) [1,4] (fun zz=>H.length-zz.1) ⟨0,Nat.zero_le _,by first|trivial|simp⟩ ?_ ?_
    ·exact Imp.auto hX (by simp [go_sem,simprocAttr,fd0])
    rintro⟨j,hij,hwj⟩
    simp only [go_sem,simprocAttr]
    have l1:=fdl j
    rcases Nat.lt_or_ge j H.length with hlj|hgj
    ·rcases Nat.lt_or_ge 200 (fd j).length with hg2|hl2
     ·repeat'(first|refine wkQ ?_|refine Tw.f ?_ ?_|(refine fun(hc:(_:Bool)=_)=>?_;try simp only [hcS]at hc))
      all_goals try exact om_
      ·rw [←fdS j (by omega)]
       (first|refine aB ?_|refine aA ?_);simp only [go_sem,simprocAttr,Tryz.f328]
     ·have hmem:H.getD j 0∈d.hom (P.getD (c.fr.getD p 0).toNat 0) (P.getD (c.to.getD p 0).toNat 0):=by rw [hH];exact bI hlj
      have hv:=Cat.mem_hom.1 hmem
      obtain⟨hT,hun⟩:=hA.try_ sc sd hP (by omega) hm1 hmem
      have hVA:=aAy hA.va (by omega) hmem
      have hfo:=aCB sc sd hVA
      have hbt:=zB (W:=WA c d false P) (S:=sA c d) (A:=A) (i:=p) hlj
      rw [aCD]at hT hun
      obtain⟨ok,C,hTe⟩:∃ok C,cK c d (c.fr.length+1) (A.set p (H.getD j 0))=(ok,C):=⟨_,_,rfl⟩
      rw [hTe]at hT hun hfo
      simp only at hun hfo
      cases ok with
      |false=>
       have hE:=hT.no rfl
       have fdn:fd (j+1)=fd j:=by rw [hfd,hfd,hbt,hE,List.append_nil]
       repeat'(first|refine wkQ ?_|refine Tw.f ?_ ?_|(refine kcQ bZ ?_;refine krQ (cP ?_) ?_)|(refine kcQ vK ?_;refine kwQ (hfo) [(0,5)] [] ?_)|(refine fun(hc:(_:Bool)=_)=>?_;try simp only [hcS]at hc))
       all_goals try exact om_
       ·refine⟨⟨j+1,by omega,(by trivial)⟩,by simp only;omega,Imp.auto hX (by simp only [go_sem,simprocAttr,fdn])⟩
      |true=>
       obtain⟨g1,g2⟩:=hT.yes rfl
       simp only at g1 g2
       have hrec:=rR sc sd hP n (fd j) C (p+1) g1 (by omega) (fun q hq=>by
        have hx:=hT.ext.2 q (by rw [List.length_set];omega)
        by_cases e:q=p
        ·rw [e,aV (by omega),if_pos rfl]at hx
         rw [e,hx hv.1];exact hv.1
        ·rw [aV (by omega),if_neg e]at hx
         have:=hwk q (by omega)
         rw [hx this];exact this) (by omega) (by omega)
       have fdn:(fd j++dE (WA c d false P) (sA c d) C).take 201=fd (j+1):=by
        rw [hfd,hfd,hbt,g2,←List.append_assoc]
        rw [List.append_assoc];exact aAI
       rw [fdn,show((p+1:Nat):Int)=(p:Int)+1 from rfl]at hrec
       repeat'(first|refine wkQ ?_|refine Tw.f ?_ ?_|(refine kcQ bZ ?_;refine krQ (cP ?_) ?_)|(refine kcQ vK ?_;refine kwQ (hfo) [(0,5)] [] ?_)|(refine kcQ tI ?_;refine kwQ (hrec) [(0,1),(1,6)] [5] ?_)|(refine fun(hc:(_:Bool)=_)=>?_;try simp only [hcS]at hc))
       all_goals try exact om_
       ·refine⟨⟨j+1,by omega,(by trivial)⟩,by simp only;omega,Imp.ao hX⟩
    ·repeat'(first|refine wkQ ?_|refine Tw.f ?_ ?_|(refine fun(hc:(_:Bool)=_)=>?_;try simp only [hcS]at hc))
     all_goals try exact om_
     ·rw [←fdE j (by omega)]
      (first|refine aB ?_|refine aA ?_);simp only [go_sem,simprocAttr,Tryz.f328]
  ·have hl:=NX.leaf hP hA (fun j hj=>hwk j (by omega))
   rw [hl,List.take_of_length_le (show(F++[A]).length≤201 by simp;omega)]
   repeat'(first|refine wkQ ?_|refine Tw.f ?_ ?_|(refine kcQ bZ ?_;refine krQ (cP ?_) ?_)|(refine fun(hc:(_:Bool)=_)=>?_;try simp only [hcS]at hc))
   all_goals try exact om_
   ·(first|refine aB ?_|refine aA ?_);simp only [go_sem,simprocAttr,Tryz.f328]
end Go.Eng
end
section
namespace Go.Eng
open Go Go.Proofs Go.Cats
theorem oI:aE Tryz.prog 327:=⟨_,Tryz.func327,rfl,rfl⟩
theorem rS {c d:Cat} {P:List Int} (sc:Shape c) (sd:Shape d) (hP:P.length≤1048576):Spec Tryz.prog 327 [bK c,bK d, .bor [] (ints P)] [] (bv (dec (yY c d P))) []:=by
 refine aD (E:=TE) 0 Tryz.func327 rfl (by simp [Tryz.f327]) fun X hn hX=>?_
 have m40:=sc.m40
 have n40:=sd.m40
 have tol:=sc.tol
 have dol:=sd.tol
 repeat'(first|refine wkQ ?_|refine Tw.f ?_ ?_|(refine fun(hc:(_:Bool)=_)=>?_;try simp only [hcS]at hc))
 all_goals try exact om_
 refine aG (G:={f:Nat//f≤c.fr.length∧((∀g,g<f→c.fr.getD g 0<P.length→c.to.getD g 0<P.length→0<(d.hom (P.getD (c.fr.getD g 0).toNat 0) (P.getD (c.to.getD g 0).toNat 0)).length))}) (fun⟨f,_⟩=>[(7,iv f)]) [2,3,4] (fun⟨f,_⟩=>[]) [] (fun zz=>c.fr.length-zz.1) ⟨0,Nat.zero_le _,by omega⟩ ?_ ?_
 ·exact Imp.au hX
 rintro⟨f,hif,hwf⟩
 simp only [go_sem,simprocAttr]
 rcases Nat.lt_or_ge f c.fr.length with hlt|hge
 ·have f1:=sc.frw f hlt
  have f2:=sc.tow f (by omega)
  have hho:=yN (c:=d) (x:=P.getD (c.fr.getD f 0).toNat 0) (y:=P.getD (c.to.getD f 0).toNat 0) (by omega) (by omega)
  have hHl:(d.hom (P.getD (c.fr.getD f 0).toNat 0) (P.getD (c.to.getD f 0).toNat 0)).length≤d.fr.length:=d.homI_len _ _ _
  have hgo:(c.fr.getD f 0<P.length→c.to.getD f 0<P.length→0<(d.hom (P.getD (c.fr.getD f 0).toNat 0) (P.getD (c.to.getD f 0).toNat 0)).length)→∀g,g<f+1→c.fr.getD g 0<P.length→c.to.getD g 0<P.length→0<(d.hom (P.getD (c.fr.getD g 0).toNat 0) (P.getD (c.to.getD g 0).toNat 0)).length:=fun h g hg=>by
   by_cases e:g=f
   ·subst e;exact h
   ·exact hwf g (by omega)
  have hst:c.fr.getD f 0<P.length→c.to.getD f 0<P.length→(d.hom (P.getD (c.fr.getD f 0).toNat 0) (P.getD (c.to.getD f 0).toNat 0)).length=0→dec (yY c d P)=false:=fun h1 h2 h3=>eD fun h=>by have:=h f hlt h1 h2;omega
  obtain⟨H,hH⟩:∃H,d.hom (P.getD (c.fr.getD f 0).toNat 0) (P.getD (c.to.getD f 0).toNat 0)=H:=⟨_,rfl⟩
  rw [hH]at hho hHl hgo hst
  repeat'(first|refine wkQ ?_|refine Tw.f ?_ ?_|(refine kcQ tT ?_;refine kwQ (hho) [(0,3)] [] ?_)|(refine fun(hc:(_:Bool)=_)=>?_;try simp only [hcS]at hc))
  all_goals try exact om_
  ·rw [hst (by assumption) (by assumption) (by omega)]
   (first|refine aB ?_|refine aA ?_);simp only [go_sem,simprocAttr,Tryz.f327]
  ·refine⟨⟨f+1,by omega,(by(exact hgo fun _ _=>by omega))⟩,by simp only;omega,Imp.ao hX⟩
  ·refine⟨⟨f+1,by omega,(by(exact hgo fun _ _=>by omega))⟩,by simp only;omega,Imp.ao hX⟩
  ·refine⟨⟨f+1,by omega,(by(exact hgo fun _ _=>by omega))⟩,by simp only;omega,Imp.ao hX⟩
 ·have e1:dec (yY c d P)=true:=bH fun g hg=>hwf g (by omega)
  rw [e1]
  repeat'(first|refine wkQ ?_|refine Tw.f ?_ ?_|(refine fun(hc:(_:Bool)=_)=>?_;try simp only [hcS]at hc))
  all_goals try exact om_
  ·(first|refine aB ?_|refine aA ?_);simp only [go_sem,simprocAttr,Tryz.f327]
end Go.Eng
end
