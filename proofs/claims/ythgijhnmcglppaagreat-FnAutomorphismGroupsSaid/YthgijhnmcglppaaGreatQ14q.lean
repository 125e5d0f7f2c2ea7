/- The reference: colours of arrows, by the program. -/
import Derived.Test.YthgijhnmcglppaaGreatQ11y
set_option linter.unusedSimpArgs false
set_option linter.unusedVariables false
set_option maxRecDepth 100000
set_option maxHeartbeats 16000000
namespace Go.Eng
open Go Go.Proofs Go.Cats
attribute [local go_sem] List.set_cons_zero List.set_cons_succ
theorem qY:aD Tryz.prog 256:=⟨_,Tryz.func256,rfl,rfl⟩
theorem aDc {c d:Cat} (sc:Shape c) (sd:Shape d):Spec Tryz.prog 256 [cK c,cK d] [] (.tup [.sl 0, .sl 1,bv (dec (qN (rA c d (c.fr.length+d.fr.length+1) (iN c) (iN d) 0).1 (rA c d (c.fr.length+d.fr.length+1) (iN c) (iN d) 0).2))]) [(0,⟨1, .arr (ints (rA c d (c.fr.length+d.fr.length+1) (iN c) (iN d) 0).1)⟩),(1,⟨1, .arr (ints (rA c d (c.fr.length+d.fr.length+1) (iN c) (iN d) 0).2)⟩)]:=by
 refine aC (E:=TE) 0 Tryz.func256 rfl (by simp [Tryz.f256]) fun X hn hX=>?_
 have m40:=sc.m40
 have n40:=sd.m40
 obtain⟨R,hR⟩:∃R,rA c d (c.fr.length+d.fr.length+1) (iN c) (iN d) 0=R:=⟨_,rfl⟩
 rw [hR]
 repeat'(first|(with_reducible first|refine St.f ?_|refine V_c ?_|refine eDn ?_|refine And.intro ?_ ?_|refine aJ ?_ ?_|refine aO ?_)|((refine aV ?_);intro K hK)|((with_reducible refine So.f ?_);intro K hK;simp(contextual:=true)only [go_sem,simprocAttr])|((with_reducible refine hK _ ?_);clear hK K)|(refine fun(hc:(_:Bool)=_)=>?_;try simp only [hcS]at hc))
 all_goals try exact om_
 refine aG (G:={f:Nat//f≤c.fr.length∧(True)}) (fun⟨f,_⟩=>[(9,iv f)]) [2,3,4,5,6,7,8] (fun⟨f,_⟩=>[(2,⟨1, .arr (ints (cP c f))⟩)]) [2] (fun zz=>c.fr.length-zz.1) ⟨0,Nat.zero_le _,by first|trivial|simp⟩ ?_ ?_
 ·exact Imp.au hX
 rintro⟨f,hif,hwf⟩
 simp only [go_sem,simprocAttr]
 have cl:=yD c f
 rcases Nat.lt_or_ge f c.fr.length with hlt|hge
 ·by_cases q:c.id.getD (c.fr.getD f 0).toNat 0=f
  ·have e1:cP c (f+1)=(cP c f).set f 1:=by rw [cP,if_pos q]
   have hq:=decide_eq_true q
   repeat'(first|(with_reducible first|refine St.f ?_|refine V_c ?_|refine eDn ?_|refine And.intro ?_ ?_|refine aJ ?_ ?_|refine aO ?_)|((refine aV ?_);intro K hK)|((with_reducible refine So.f ?_);intro K hK;simp(contextual:=true)only [go_sem,simprocAttr])|((with_reducible refine hK _ ?_);clear hK K)|((with_reducible refine aE 310 ?_);refine EvCall.rq (a:=(lS (v:=true) (by first|omega|assumption|rfl) (by first|omega|assumption|rfl) (by first|omega|assumption|rfl))) (b:=nM) (c:=?_);all_goals try simp only [go_sem,simprocAttr])|(refine fun(hc:(_:Bool)=_)=>?_;try simp only [hcS]at hc))
   all_goals try exact om_
   ·refine⟨⟨f+1,by omega,(by trivial)⟩,by simp only;omega,Imp.auto hX (by simp only [go_sem,simprocAttr,e1])⟩
  ·have e1:cP c (f+1)=cP c f:=by rw [cP,if_neg q]
   have hq:=decide_eq_false q
   repeat'(first|(with_reducible first|refine St.f ?_|refine V_c ?_|refine eDn ?_|refine And.intro ?_ ?_|refine aJ ?_ ?_|refine aO ?_)|((refine aV ?_);intro K hK)|((with_reducible refine So.f ?_);intro K hK;simp(contextual:=true)only [go_sem,simprocAttr])|((with_reducible refine hK _ ?_);clear hK K)|((with_reducible refine aE 310 ?_);refine EvCall.rq (a:=(lS (v:=false) (by first|omega|assumption|rfl) (by first|omega|assumption|rfl) (by first|omega|assumption|rfl))) (b:=nM) (c:=?_);all_goals try simp only [go_sem,simprocAttr])|(refine fun(hc:(_:Bool)=_)=>?_;try simp only [hcS]at hc))
   all_goals try exact om_
   ·refine⟨⟨f+1,by omega,(by trivial)⟩,by simp only;omega,Imp.auto hX (by simp only [go_sem,simprocAttr,e1])⟩
 ·rw [show f=c.fr.length by omega,aLI]
  have cl0:(iN c).length=c.fr.length:=by simp [iN]
  repeat'(first|(with_reducible first|refine St.f ?_|refine V_c ?_|refine eDn ?_|refine And.intro ?_ ?_|refine aJ ?_ ?_|refine aO ?_)|((refine aV ?_);intro K hK)|((with_reducible refine So.f ?_);intro K hK;simp(contextual:=true)only [go_sem,simprocAttr])|((with_reducible refine hK _ ?_);clear hK K)|(refine fun(hc:(_:Bool)=_)=>?_;try simp only [hcS]at hc))
  all_goals try exact om_
  refine aG (G:={g:Nat//g≤d.fr.length∧(True)}) (fun⟨g,_⟩=>[(10,iv g)]) [2,3,4,5,6,7,8] (fun⟨g,_⟩=>[(3,⟨1, .arr (ints (cP d g))⟩)]) [3] (fun zz=>d.fr.length-zz.1) ⟨0,Nat.zero_le _,by first|trivial|simp⟩ ?_ ?_
  ·exact Imp.au hX
  rintro⟨g,hig,hwg⟩
  simp only [go_sem,simprocAttr]
  have dl:=yD d g
  rcases Nat.lt_or_ge g d.fr.length with hlt2|hge2
  ·by_cases q:d.id.getD (d.fr.getD g 0).toNat 0=g
   ·have e1:cP d (g+1)=(cP d g).set g 1:=by rw [cP,if_pos q]
    have hq:=decide_eq_true q
    repeat'(first|(with_reducible first|refine St.f ?_|refine V_c ?_|refine eDn ?_|refine And.intro ?_ ?_|refine aJ ?_ ?_|refine aO ?_)|((refine aV ?_);intro K hK)|((with_reducible refine So.f ?_);intro K hK;simp(contextual:=true)only [go_sem,simprocAttr])|((with_reducible refine hK _ ?_);clear hK K)|((with_reducible refine aE 310 ?_);refine EvCall.rq (a:=(lS (v:=true) (by first|omega|assumption|rfl) (by first|omega|assumption|rfl) (by first|omega|assumption|rfl))) (b:=nM) (c:=?_);all_goals try simp only [go_sem,simprocAttr])|(refine fun(hc:(_:Bool)=_)=>?_;try simp only [hcS]at hc))
    all_goals try exact om_
    ·refine⟨⟨g+1,by omega,(by trivial)⟩,by simp only;omega,Imp.auto hX (by simp only [go_sem,simprocAttr,e1])⟩
   ·have e1:cP d (g+1)=cP d g:=by rw [cP,if_neg q]
    have hq:=decide_eq_false q
    repeat'(first|(with_reducible first|refine St.f ?_|refine V_c ?_|refine eDn ?_|refine And.intro ?_ ?_|refine aJ ?_ ?_|refine aO ?_)|((refine aV ?_);intro K hK)|((with_reducible refine So.f ?_);intro K hK;simp(contextual:=true)only [go_sem,simprocAttr])|((with_reducible refine hK _ ?_);clear hK K)|((with_reducible refine aE 310 ?_);refine EvCall.rq (a:=(lS (v:=false) (by first|omega|assumption|rfl) (by first|omega|assumption|rfl) (by first|omega|assumption|rfl))) (b:=nM) (c:=?_);all_goals try simp only [go_sem,simprocAttr])|(refine fun(hc:(_:Bool)=_)=>?_;try simp only [hcS]at hc))
    all_goals try exact om_
    ·refine⟨⟨g+1,by omega,(by trivial)⟩,by simp only;omega,Imp.auto hX (by simp only [go_sem,simprocAttr,e1])⟩
  ·rw [show g=d.fr.length by omega,aLI]
   have dl0:(iN d).length=d.fr.length:=by simp [iN]
   repeat'(first|(with_reducible first|refine St.f ?_|refine V_c ?_|refine eDn ?_|refine And.intro ?_ ?_|refine aJ ?_ ?_|refine aO ?_)|((refine aV ?_);intro K hK)|((with_reducible refine So.f ?_);intro K hK;simp(contextual:=true)only [go_sem,simprocAttr])|((with_reducible refine hK _ ?_);clear hK K)|(refine fun(hc:(_:Bool)=_)=>?_;try simp only [hcS]at hc))
   all_goals try exact om_
   refine aG (G:={p:Nat×List Int×List Int×Nat//rA c d p.1 p.2.1 p.2.2.1 p.2.2.2=R∧Cov c d p.2.1 p.2.2.1 p.2.2.2∧c.fr.length+d.fr.length<p.2.2.2+p.1∧p.2.1.length=c.fr.length∧p.2.2.1.length=d.fr.length}) (fun p=>[(7, .sl 2),(8, .sl 3),(11,iv p.1.2.2.2)]) [2,3] (fun p=>[(2,⟨1, .arr (ints p.1.2.1)⟩),(3,⟨1, .arr (ints p.1.2.2.1)⟩)]) [2,3] (fun p=>p.1.1) ⟨(c.fr.length+d.fr.length+1,iN c,iN d,0),hR,fun v hv=>absurd hv (Nat.not_lt_zero v),by simp only;omega,cl0,dl0⟩ ?_ ?_
   ·exact Imp.au hX
   rintro⟨⟨r,A,B,n⟩,hcF,hcov,hk1,hA,hB⟩
   simp only at hcF hcov hk1 hA hB
   simp only [go_sem,simprocAttr]
   have hge3:=aMs hcov
   have hle3:=aKi (c:=c) (d:=d) (cc:=A) (dd:=B)
   repeat'(first|(with_reducible first|refine St.f ?_|refine V_c ?_|refine eDn ?_|refine And.intro ?_ ?_|refine aJ ?_ ?_|refine aO ?_)|((refine aV ?_);intro K hK)|((with_reducible refine So.f ?_);intro K hK;simp(contextual:=true)only [go_sem,simprocAttr])|((with_reducible refine hK _ ?_);clear hK K)|(refine fun(hc:(_:Bool)=_)=>?_;try simp only [hcS]at hc))
   all_goals try exact om_
   refine aG (G:={f:Nat//f≤c.fr.length∧(True)}) (fun⟨f,_⟩=>[(15,iv f),(12, .sl 4)]) [2,3,4,5,6,7,8,11,13,14] (fun⟨f,_⟩=>[(4,⟨1, .arr (aF (lkN c A f))⟩)]) [4] (fun zz=>c.fr.length-zz.1) ⟨0,Nat.zero_le _,by first|trivial|simp⟩ ?_ ?_
   ·exact Imp.au hX
   rintro⟨f,hif,hwf⟩
   simp only [go_sem,simprocAttr]
   have ll:(lkN c A f).length=f:=by rw [aB1];simp
   rcases Nat.lt_or_ge f c.fr.length with hlt4|hge4
   ·have e1:lkN c A (f+1)=lkN c A f++[Go.Cats.look c A f]:=rfl
    repeat'(first|(with_reducible first|refine St.f ?_|refine V_c ?_|refine eDn ?_|refine And.intro ?_ ?_|refine aJ ?_ ?_|refine aO ?_)|((refine aV ?_);intro K hK)|((with_reducible refine So.f ?_);intro K hK;simp(contextual:=true)only [go_sem,simprocAttr])|((with_reducible refine hK _ ?_);clear hK K)|((with_reducible refine aE 311 ?_);refine EvCall.rr (aCI ?_ ?_ ?_) aAd ?_)|(refine fun(hc:(_:Bool)=_)=>?_;try simp only [hcS]at hc))
    all_goals try exact om_
    ·refine⟨⟨f+1,by omega,(by trivial)⟩,by simp only;omega,Imp.auto hX (by simp only [go_sem,simprocAttr,e1])⟩
   ·have ef:f=c.fr.length:=by omega
    subst ef
    repeat'(first|(with_reducible first|refine St.f ?_|refine V_c ?_|refine eDn ?_|refine And.intro ?_ ?_|refine aJ ?_ ?_|refine aO ?_)|((refine aV ?_);intro K hK)|((with_reducible refine So.f ?_);intro K hK;simp(contextual:=true)only [go_sem,simprocAttr])|((with_reducible refine hK _ ?_);clear hK K)|(refine fun(hc:(_:Bool)=_)=>?_;try simp only [hcS]at hc))
    all_goals try exact om_
    refine aG (G:={g:Nat//g≤d.fr.length∧(True)}) (fun⟨g,_⟩=>[(16,iv g),(12, .sl 4)]) [2,3,4,5,6,7,8,11,13,14] (fun⟨g,_⟩=>[(4,⟨1, .arr (aF (lkN c A c.fr.length++lkN d B g))⟩)]) [4] (fun zz=>d.fr.length-zz.1) ⟨0,Nat.zero_le _,by first|trivial|simp⟩ ?_ ?_
    ·exact Imp.au hX
    rintro⟨g,hig,hwg⟩
    simp only [go_sem,simprocAttr]
    have ll2:(lkN d B g).length=g:=by rw [aB1];simp
    rcases Nat.lt_or_ge g d.fr.length with hlt5|hge5
    ·have e1:lkN c A c.fr.length++lkN d B (g+1)=(lkN c A c.fr.length++lkN d B g)++[Go.Cats.look d B g]:=by rw [List.append_assoc];rfl
     repeat'(first|(with_reducible first|refine St.f ?_|refine V_c ?_|refine eDn ?_|refine And.intro ?_ ?_|refine aJ ?_ ?_|refine aO ?_)|((refine aV ?_);intro K hK)|((with_reducible refine So.f ?_);intro K hK;simp(contextual:=true)only [go_sem,simprocAttr])|((with_reducible refine hK _ ?_);clear hK K)|((with_reducible refine aE 311 ?_);refine EvCall.rr (aCI ?_ ?_ ?_) aAd ?_)|(refine fun(hc:(_:Bool)=_)=>?_;try simp only [hcS]at hc))
     all_goals try exact om_
     ·refine⟨⟨g+1,by omega,(by trivial)⟩,by simp only;omega,Imp.auto hX (by simp only [go_sem,simprocAttr,e1])⟩
    ·rw [show g=d.fr.length by omega,aOP]
     repeat'(first|(with_reducible first|refine St.f ?_|refine V_c ?_|refine eDn ?_|refine And.intro ?_ ?_|refine aJ ?_ ?_|refine aO ?_)|((refine aV ?_);intro K hK)|((with_reducible refine So.f ?_);intro K hK;simp(contextual:=true)only [go_sem,simprocAttr])|((with_reducible refine hK _ ?_);clear hK K)|(refine fun(hc:(_:Bool)=_)=>?_;try simp only [hcS]at hc))
     all_goals try exact om_
     have hLl:=jA (c:=c) (d:=d) (cc:=A) (dd:=B)
     have hLr:=fun r=>aGc (r:=r) sc sd A B
     have hKe:iC c d A B=gE (eH c d A B) (eH c d A B).length:=rfl
     have hAe:=aQu c d A B
     have hBe:=aQw c d A B
     rw [←hLl,hKe]at hAe hBe
     rw [hKe]at hge3 hle3
     have hcF2:∀j,rA c d (j+1) A B n=if(iC c d A B).length=n then(wE c d A B,wG c d A B)else rA c d j (wE c d A B) (wG c d A B) (iC c d A B).length:=fun _=>rfl
     have hcv2:=aLM (c:=c) (d:=d) (cc:=A) (dd:=B)
     rw [hKe]at hcF2 hcv2
     generalize eH c d A B=L at *
     refine aLj 4 1 L rfl (Nat.le_refl 1) rfl fun Z hZ hZ1=>?_
     simp only [go_sem,simprocAttr]
     have hZl:Z.length=L.length:=by rw [←hZ,List.length_map]
     have hbl:(Z.map (·.1)).length=L.length:=by rw [List.length_map];exact hZl
     have hYr:∀Y:Zs,(∀p∈Y,p∈Z)→∀i,i<(Y.map (·.2)).length→((Y.map (·.2)).getD i []).length≤1048576:=fun Y hY i hi=>by
      obtain⟨p,hp,e⟩:=List.mem_map.1 (aX (d:=[]) hi)
      rw [←e]
      have:=hLr p.2 (by rw [←hZ];exact List.mem_map.2 ⟨p,hY p hp,rfl⟩)
      omega
     refine aG (G:={k:Nat//k≤L.length}) (fun k=>[(18,iv k.1),(17, .sl 7)]) [2,3,4,5,6,7,8,11,12,13,14] (fun k=>[(7,⟨1, .arr (bY ((kzN Z k.1).map (·.1)))⟩)]) [7] (fun k=>L.length-k.1) ⟨0,Nat.zero_le _⟩ ?_ ?_
     ·exact Imp.sub hX [(0,0),(1,1),(2,2),(3,3),(4,4),(5,5),(6,6),(7,7),(8,8)] (by simp [go_sem,simprocAttr])
     rintro⟨k,hk⟩
     simp only [go_sem,simprocAttr]
     rcases Nat.lt_or_ge k L.length with hlt6|hge6
     ·have hYZ:=aA2 Z k (by omega)
      have hYl:=aEH Z k
      have ek:kzN Z (k+1)=if fnd ((kzN Z k).map (·.2)) (L.getD k [])<0 then kzN Z k++[((Z.map (·.1)).getD k (.slice none 0 0),L.getD k [])]else kzN Z k:=by rw [←hZ];rfl
      have m1:((Z.map (·.1)).getD k (.slice none 0 0),L.getD k [])∈Z:=by
       have:=aHd (Y:=Z) (k:=k) (by omega)
       rw [hZ]at this
       exact this
      have o1:=hZ1 _ m1
      have hat:=rN (l:=Z.map (·.1)) (k:=k) (by omega) (.slice none 0 0)
      obtain⟨Y,hY⟩:∃Y,kzN Z k=Y:=⟨_,rfl⟩
      rw [hY]at hYZ hYl ek⊢
      have hYm:(Y.map (·.1)).length=Y.length:=List.length_map ..
      have hr1:=hLr (L.getD k []) (aX hlt6)
      have hpl:=nR (l:=Y.map (·.2)) (r:=L.getD k []) (by rw [List.length_map];omega) (by omega) (hYr Y hYZ)
      have o2:(bY [(Z.map (·.1)).getD k (.slice none 0 0)]).ones=true:=aCe fun x hx=>by rw [List.mem_singleton]at hx;rw [hx];exact o1
      by_cases q:fnd (Y.map (·.2)) (L.getD k [])<0
      ·rw [if_pos q]at ek
       have e1:(kzN Z (k+1)).map (·.1)=Y.map (·.1)++[(Z.map (·.1)).getD k (.slice none 0 0)]:=by rw [ek,List.map_append];rfl
       repeat'(first|(exact o2)|((refine oF (id:=26) (by rw [hn];rfl) ?_);intro K hK)|(rw [hat];simp only [go_sem,simprocAttr])|(exact o1)|(refine rB ?_;intro K hK;refine HkX.callS (f:=192) hpl gX [8,7] (by simp only [go_sem,simprocAttr]) (by simp [go_sem]) ⟨pS (n:=8) (q:=7) (Y:=Y) rfl (by simp) rfl (by simp) hYZ rfl rfl,fN (n:=8) rfl (by simp) m1 rfl rfl,trivial⟩ ?_;simp only [go_sem,simprocAttr])|((with_reducible refine rC ?_);intro K hK;simp(contextual:=true)only [go_sem,simprocAttr])|(with_reducible refine mL ?_)|(with_reducible first|refine St.f ?_|refine V_c ?_|refine eDn ?_|refine And.intro ?_ ?_|refine aJ ?_ ?_|refine aO ?_)|((refine aV ?_);intro K hK)|((with_reducible refine So.f ?_);intro K hK;simp(contextual:=true)only [go_sem,simprocAttr])|((with_reducible refine hK _ ?_);clear hK K)|(refine fun(hc:(_:Bool)=_)=>?_;try simp only [hcS]at hc))
       all_goals try exact om_
       exact⟨⟨k+1,by omega⟩,by simp only;omega,Imp.sub hX [(0,0),(1,1),(2,2),(3,3),(4,4),(5,5),(6,6),(10,7),(8,8)] (by simp only [e1];simp [go_sem,simprocAttr])⟩
      ·rw [if_neg q]at ek
       repeat'(first|((refine oF (id:=26) (by rw [hn];rfl) ?_);intro K hK)|(rw [hat];simp only [go_sem,simprocAttr])|(exact o1)|(refine rB ?_;intro K hK;refine HkX.callS (f:=192) hpl gX [8,7] (by simp only [go_sem,simprocAttr]) (by simp [go_sem]) ⟨pS (n:=8) (q:=7) (Y:=Y) rfl (by simp) rfl (by simp) hYZ rfl rfl,fN (n:=8) rfl (by simp) m1 rfl rfl,trivial⟩ ?_;simp only [go_sem,simprocAttr])|((with_reducible refine rC ?_);intro K hK;simp(contextual:=true)only [go_sem,simprocAttr])|(with_reducible refine mL ?_)|(with_reducible first|refine St.f ?_|refine V_c ?_|refine eDn ?_|refine And.intro ?_ ?_|refine aJ ?_ ?_|refine aO ?_)|((refine aV ?_);intro K hK)|((with_reducible refine So.f ?_);intro K hK;simp(contextual:=true)only [go_sem,simprocAttr])|((with_reducible refine hK _ ?_);clear hK K)|(refine fun(hc:(_:Bool)=_)=>?_;try simp only [hcS]at hc))
       all_goals try exact om_
       exact⟨⟨k+1,by omega⟩,by simp only;omega,Imp.sub hX [(0,0),(1,1),(2,2),(3,3),(4,4),(5,5),(6,6),(7,7),(8,8)] (by simp only [ek];simp [go_sem,simprocAttr])⟩
     ·rw [show k=L.length by omega]
      have hYZ:=aA2 Z L.length (by omega)
      have hYl:=aEH Z L.length
      have hYk:=aIQ Z L.length
      rw [hZ]at hYk
      rw [←hYk]at hAe hBe hge3 hle3 hcF2 hcv2
      generalize kzN Z L.length=Y at *
      have hYm:(Y.map (·.1)).length=Y.length:=List.length_map ..
      have hYn:(Y.map (·.2)).length=Y.length:=List.length_map ..
      repeat'(first|(with_reducible first|refine St.f ?_|refine V_c ?_|refine eDn ?_|refine And.intro ?_ ?_|refine aJ ?_ ?_|refine aO ?_)|((refine aV ?_);intro K hK)|((with_reducible refine So.f ?_);intro K hK;simp(contextual:=true)only [go_sem,simprocAttr])|((with_reducible refine hK _ ?_);clear hK K)|(refine fun(hc:(_:Bool)=_)=>?_;try simp only [hcS]at hc))
      all_goals try exact om_
      refine aG (G:={k:Nat//k≤L.length}) (fun k=>[(19,iv k.1),(13, .sl 5),(14, .sl 6)]) [2,3,4,5,6,7,8,11,12,17] (fun k=>[(5,⟨1, .arr (ints (aN (Y.map (·.2)) L c.fr.length k.1))⟩),(6,⟨1, .arr (ints (bN (Y.map (·.2)) L c.fr.length k.1))⟩)]) [5,6] (fun k=>L.length-k.1) ⟨0,Nat.zero_le _⟩ ?_ ?_
      ·exact Imp.sub hX [(0,0),(1,1),(2,2),(3,3),(4,4),(5,5),(6,6),(7,7),(8,8)] (by simp [go_sem,simprocAttr])
      rintro⟨k,hk⟩
      simp only [go_sem,simprocAttr]
      have hal:=aLn (Y.map (·.2)) L c.fr.length k
      have hbl2:=aLy (Y.map (·.2)) L c.fr.length k
      rcases Nat.lt_or_ge k L.length with hlt7|hge7
      ·have m1:((Z.map (·.1)).getD k (.slice none 0 0),L.getD k [])∈Z:=by
        have:=aHd (Y:=Z) (k:=k) (by omega)
        rw [hZ]at this
        exact this
       have o1:=hZ1 _ m1
       have hat:=rN (l:=Z.map (·.1)) (k:=k) (by omega) (.slice none 0 0)
       have hr1:=hLr (L.getD k []) (aX hlt7)
       have hpl:=nR (l:=Y.map (·.2)) (r:=L.getD k []) (by rw [List.length_map];omega) (by omega) (hYr Y hYZ)
       by_cases q:k<c.fr.length
       ·have e1:aN (Y.map (·.2)) L c.fr.length (k+1)=aN (Y.map (·.2)) L c.fr.length k++[fnd (Y.map (·.2)) (L.getD k [])]:=by rw [aN,if_pos q]
        have e2:bN (Y.map (·.2)) L c.fr.length (k+1)=bN (Y.map (·.2)) L c.fr.length k:=by rw [bN,if_pos q]
        repeat'(first|((refine oF (id:=32) (by rw [hn];rfl) ?_);intro K hK)|(rw [hat];simp only [go_sem,simprocAttr])|(exact o1)|(refine rB ?_;intro K hK;refine HkX.callS (f:=192) hpl gX [8,7] (by simp only [go_sem,simprocAttr]) (by simp [go_sem]) ⟨pS (n:=8) (q:=7) (Y:=Y) rfl (by simp) rfl (by simp) hYZ rfl rfl,fN (n:=8) rfl (by simp) m1 rfl rfl,trivial⟩ ?_;simp only [go_sem,simprocAttr])|((with_reducible refine rC ?_);intro K hK;simp(contextual:=true)only [go_sem,simprocAttr])|(with_reducible refine mL ?_)|(with_reducible first|refine St.f ?_|refine V_c ?_|refine eDn ?_|refine And.intro ?_ ?_|refine aJ ?_ ?_|refine aO ?_)|((refine aV ?_);intro K hK)|((with_reducible refine So.f ?_);intro K hK;simp(contextual:=true)only [go_sem,simprocAttr])|((with_reducible refine hK _ ?_);clear hK K)|(refine fun(hc:(_:Bool)=_)=>?_;try simp only [hcS]at hc))
        all_goals try exact om_
        exact⟨⟨k+1,by omega⟩,by simp only;omega,Imp.sub hX [(0,0),(1,1),(2,2),(3,3),(4,4),(10,5),(6,6),(7,7),(8,8)] (by simp only [e1,e2];simp [go_sem,simprocAttr])⟩
       ·have e1:aN (Y.map (·.2)) L c.fr.length (k+1)=aN (Y.map (·.2)) L c.fr.length k:=by rw [aN,if_neg q]
        have e2:bN (Y.map (·.2)) L c.fr.length (k+1)=bN (Y.map (·.2)) L c.fr.length k++[fnd (Y.map (·.2)) (L.getD k [])]:=by rw [bN,if_neg q]
        repeat'(first|((refine oF (id:=33) (by rw [hn];rfl) ?_);intro K hK)|(rw [hat];simp only [go_sem,simprocAttr])|(exact o1)|(refine rB ?_;intro K hK;refine HkX.callS (f:=192) hpl gX [8,7] (by simp only [go_sem,simprocAttr]) (by simp [go_sem]) ⟨pS (n:=8) (q:=7) (Y:=Y) rfl (by simp) rfl (by simp) hYZ rfl rfl,fN (n:=8) rfl (by simp) m1 rfl rfl,trivial⟩ ?_;simp only [go_sem,simprocAttr])|((with_reducible refine rC ?_);intro K hK;simp(contextual:=true)only [go_sem,simprocAttr])|(with_reducible refine mL ?_)|(with_reducible first|refine St.f ?_|refine V_c ?_|refine eDn ?_|refine And.intro ?_ ?_|refine aJ ?_ ?_|refine aO ?_)|((refine aV ?_);intro K hK)|((with_reducible refine So.f ?_);intro K hK;simp(contextual:=true)only [go_sem,simprocAttr])|((with_reducible refine hK _ ?_);clear hK K)|(refine fun(hc:(_:Bool)=_)=>?_;try simp only [hcS]at hc))
        all_goals try exact om_
        exact⟨⟨k+1,by omega⟩,by simp only;omega,Imp.sub hX [(0,0),(1,1),(2,2),(3,3),(4,4),(5,5),(10,6),(7,7),(8,8)] (by simp only [e1,e2];simp [go_sem,simprocAttr])⟩
      ·have ek:k=L.length:=by omega
       subst ek
       have cl1:=aBE (c:=c) (d:=d) (cc:=A) (dd:=B)
       have cl2:=aBF (c:=c) (d:=d) (cc:=A) (dd:=B)
       have hr0:r≠0:=fun h=>by subst h;omega
       obtain⟨r',rfl⟩:∃r',r=r'+1:=⟨r-1,by omega⟩
       rw [hcF2]at hcF
       rw [hAe,hBe]
       by_cases q:(Y.map (·.2)).length=n
       ·rw [if_pos q]at hcF
        subst hcF
        have q2:((Y.map (·.1)).length:Int)=(n:Int):=by omega
        cases hv:dec (qN (wE c d A B) (wG c d A B))with
        |true=>
         repeat'(first|(with_reducible first|refine St.f ?_|refine V_c ?_|refine eDn ?_|refine And.intro ?_ ?_|refine aJ ?_ ?_|refine aO ?_)|((refine aV ?_);intro K hK)|((with_reducible refine So.f ?_);intro K hK;simp(contextual:=true)only [go_sem,simprocAttr])|((with_reducible refine hK _ ?_);clear hK K)|((with_reducible refine aE 312 ?_);refine EvCall.rq (a:=(tT (v:=true) (by first|omega|assumption|rfl) (by first|omega|assumption|rfl) (by first|omega|assumption|rfl))) (b:=vR) (c:=?_);all_goals try simp only [go_sem,simprocAttr])|(refine fun(hc:(_:Bool)=_)=>?_;try simp only [hcS]at hc))
         all_goals try exact om_
         (first|refine aB ?_|refine aA ?_);simp only [go_sem,simprocAttr,Tryz.f256]
        |false=>
         repeat'(first|(with_reducible first|refine St.f ?_|refine V_c ?_|refine eDn ?_|refine And.intro ?_ ?_|refine aJ ?_ ?_|refine aO ?_)|((refine aV ?_);intro K hK)|((with_reducible refine So.f ?_);intro K hK;simp(contextual:=true)only [go_sem,simprocAttr])|((with_reducible refine hK _ ?_);clear hK K)|((with_reducible refine aE 312 ?_);refine EvCall.rq (a:=(tT (v:=false) (by first|omega|assumption|rfl) (by first|omega|assumption|rfl) (by first|omega|assumption|rfl))) (b:=vR) (c:=?_);all_goals try simp only [go_sem,simprocAttr])|(refine fun(hc:(_:Bool)=_)=>?_;try simp only [hcS]at hc))
         all_goals try exact om_
         (first|refine aB ?_|refine aA ?_);simp only [go_sem,simprocAttr,Tryz.f256]
       ·rw [if_neg q]at hcF
        have hf2:(Y.map (·.2)).length=(Y.map (·.1)).length:=by omega
        repeat'(first|(with_reducible first|refine St.f ?_|refine V_c ?_|refine eDn ?_|refine And.intro ?_ ?_|refine aJ ?_ ?_|refine aO ?_)|((refine aV ?_);intro K hK)|((with_reducible refine So.f ?_);intro K hK;simp(contextual:=true)only [go_sem,simprocAttr])|((with_reducible refine hK _ ?_);clear hK K)|(refine fun(hc:(_:Bool)=_)=>?_;try simp only [hcS]at hc))
        all_goals try exact om_
        rw [hf2]at hcF hcv2
        exact⟨⟨(r',wE c d A B,wG c d A B,(Y.map (·.1)).length),hcF,hcv2,by simp only;omega,cl1,cl2⟩,by simp only;omega,Imp.au hX⟩
end Go.Eng
