/- Functors, by the reference: what follows from the images that are known. -/
import Derived.Test.YthgijhnmcglppaaGreatKcgx
set_option linter.unusedSimpArgs false
set_option linter.unusedVariables false
set_option maxRecDepth 100000
set_option maxHeartbeats 16000000
namespace Go.Eng
open Go Go.Proofs Go.Cats
attribute [local go_sem] List.set_cons_zero List.set_cons_succ uK nS
theorem aF5 {A:List Int} {i:Nat} {v:Int} (h:A.getD i 0=v):A.set i v=A:=by
 apply List.ext_getElem?
 intro n
 rw [List.getElem?_set]
 split
 ·rename_i e
  subst e
  split
  ·rename_i hl
   rw [←h,List.getD_eq_getElem?_getD,List.getElem?_eq_getElem hl];rfl
  ·rename_i hl
   rw [List.getElem?_eq_none (by omega)]
 ·rfl
theorem vK:aE Tryz.prog 349:=⟨_,Tryz.func349,rfl,rfl⟩
theorem aCB {c d:Cat} {P A:List Int} (sc:Shape c) (sd:Shape d) (hA:VA c d P A):Spec Tryz.prog 349 [bK c,bK d, .sl 0] [(0,⟨1, .arr (ints A)⟩)] (bv (cK c d (c.fr.length+1) A).1) [(0,⟨1, .arr (ints (cK c d (c.fr.length+1) A).2)⟩)]:=by
 have m40:=sc.m40
 have n40:=sd.m40
 have ccol:=sc.col
 have dcol:=sd.col
 have hu:=vB A
 have hl:=hA.len
 refine aD (E:=TE) 1 Tryz.func349 rfl (by simp [Tryz.f349]) fun X hn hX=>?_
 repeat'(first|refine wkQ ?_|refine Tw.f ?_ ?_|(refine fun(hc:(_:Bool)=_)=>?_;try simp only [hcS]at hc))
 all_goals try exact om_
 refine aG (G:={p:Nat×Bool×List Int//VA c d P p.2.2∧(p.2.1=true→uns p.2.2<p.1∧cK c d (c.fr.length+1) A=cK c d p.1 p.2.2)∧(p.2.1=false→cK c d (c.fr.length+1) A=(true,p.2.2))}) (fun p=>[(7, .v (.bool p.1.2.1))]) [2,3,4] (fun p=>[(0,⟨1, .arr (ints p.1.2.2)⟩)]) [0] (fun p=>if p.1.2.1=true then p.1.1 else 0) ⟨(c.fr.length+1,true,A),hA,fun _=>⟨by show uns A<c.fr.length+1;omega,rfl⟩,fun h=>by cases h⟩ ?_ ?_
 ·exact Imp.au hX
 rintro⟨⟨k,g,B⟩,hB,hg,hng⟩
 simp only at hB hg hng
 simp only [go_sem,simprocAttr]
 have hBl:=hB.len
 cases g
 ·have e:=hng rfl
  rw [e]
  repeat'(first|refine wkQ ?_|refine Tw.f ?_ ?_|(refine fun(hc:(_:Bool)=_)=>?_;try simp only [hcS]at hc))
  all_goals try exact om_
  ·(first|refine aB ?_|refine aA ?_);simp only [go_sem,simprocAttr,Tryz.f349]
 ·obtain⟨hk,he⟩:=hg rfl
  obtain⟨k,rfl⟩:∃k',k=k'+1:=⟨k-1,by omega⟩
  repeat'(first|refine wkQ ?_|refine Tw.f ?_ ?_|(refine fun(hc:(_:Bool)=_)=>?_;try simp only [hcS]at hc))
  all_goals try exact om_
  refine aG (G:={a:Nat//a≤c.fr.length∧((bM c d c.fr.length a (true,false,B)).1=true)}) (fun⟨a,_⟩=>[(8,iv a),(7,bv (bM c d c.fr.length a (true,false,B)).2.1)]) [2,3,4] (fun⟨a,_⟩=>[(0,⟨1, .arr (ints (bM c d c.fr.length a (true,false,B)).2.2)⟩)]) [0] (fun zz=>c.fr.length-zz.1) ⟨0,Nat.zero_le _,by rfl⟩ ?_ ?_
  ·exact Imp.au hX
  rintro⟨a,hia,hwa⟩
  simp only [go_sem,simprocAttr]
  have fa:=mI (s:=(true,false,B)) sc sd hB rfl hia
  rcases Nat.lt_or_ge a c.fr.length with hlt|hge
  ·obtain⟨g1,A1,hs⟩:∃g1 A1,bM c d c.fr.length a (true,false,B)=(true,g1,A1):=⟨_,_,Prod.ext hwa rfl⟩
   rw [hs]at fa hwa⊢
   have fva:=fa.va
   simp only at fva
   have fvl:=fva.len
   have row:=(sc.coe a hlt).1
   repeat'(first|refine wkQ ?_|refine Tw.f ?_ ?_|(refine fun(hc:(_:Bool)=_)=>?_;try simp only [hcS]at hc))
   all_goals try exact om_
   refine aG (G:={q:Nat//q≤c.fr.length∧((cL c d a q (true,g1,A1)).1=true)}) (fun⟨q,_⟩=>[(9,iv q),(8,iv a),(7,bv (cL c d a q (true,g1,A1)).2.1)]) [2,3,4] (fun⟨q,_⟩=>[(0,⟨1, .arr (ints (cL c d a q (true,g1,A1)).2.2)⟩)]) [0] (fun zz=>c.fr.length-zz.1) ⟨0,Nat.zero_le _,by rfl⟩ ?_ ?_
   ·exact Imp.au hX
   rintro⟨q,hiq,hwq⟩
   simp only [go_sem,simprocAttr]
   have fq:=oZ (s:=(true,g1,A1)) sc sd fva hlt rfl hiq
   rcases Nat.lt_or_ge q c.fr.length with hlq|hgq
   ·obtain⟨g2,A2,hs2⟩:∃g2 A2,cL c d a q (true,g1,A1)=(true,g2,A2):=⟨_,_,Prod.ext hwq rfl⟩
    rw [hs2]at fq hwq⊢
    have fvq:=fq.va
    simp only at fvq
    have fl:=fvq.len
    have en:cL c d a (q+1) (true,g1,A1)=stF c d a q (true,g2,A2):=by rw [sQ (by rw [hs2]),hs2]
    have ga:0≤A2.getD a 0→A2.getD a 0<d.fr.length:=fun h=>(fvq.hi a (by omega) h).1
    have gq:0≤A2.getD q 0→A2.getD q 0<d.fr.length:=fun h=>(fvq.hi q (by omega) h).1
    have gh:0≤(c.co.getD a []).getD q 0→((c.co.getD a []).getD q 0).toNat<c.fr.length:=fun h=>(jQ sc hlt hlq h).2.1
    have gr:0≤A2.getD a 0→(d.co.getD (A2.getD a 0).toNat []).length=d.fr.length:=fun h=>(sd.coe _ (by have:=ga h;omega)).1
    repeat'(first|refine wkQ ?_|refine Tw.f ?_ ?_|(refine fun(hc:(_:Bool)=_)=>?_;try simp only [hcS]at hc))
    all_goals try exact om_
    ·have e1:=kB (c:=c) (d:=d) (a:=a) (b:=q) (s:=(true,g2,A2)) (.inr (.inr (by assumption)))
     refine⟨⟨q+1,by omega,(by(rw [en,e1]))⟩,by simp only;omega,Imp.auto hX (by simp only [go_sem,simprocAttr,en,e1])⟩
    ·have h0:0≤A2.getD ((c.co.getD a []).getD q 0).toNat 0:=by assumption
     have e1:=pM (c:=c) (d:=d) (a:=a) (b:=q) (s:=(true,g2,A2)) (by rintro(h|h|h)<;>simp only [Cat.cp]at h<;>omega) (Int.not_lt.2 h0)
     have ff:=aBb (k:=k) hlt hlq hs rfl hs2 rfl e1 (decide_eq_false (by assumption))
     rw [he.trans ff]
     (first|refine aB ?_|refine aA ?_);simp only [go_sem,simprocAttr,Tryz.f349]
    ·have h0:0≤A2.getD ((c.co.getD a []).getD q 0).toNat 0:=by assumption
     have e1:=pM (c:=c) (d:=d) (a:=a) (b:=q) (s:=(true,g2,A2)) (by rintro(h|h|h)<;>simp only [Cat.cp]at h<;>omega) (Int.not_lt.2 h0)
     have hq:A2.getD ((c.co.getD a []).getD q 0).toNat 0=(d.co.getD (A2.getD a 0).toNat []).getD (A2.getD q 0).toNat 0:=by assumption
     have e2:=aF5 (A:=A2) hq
     subst hc
     have e3:decide (A2.getD ((c.co.getD a []).getD q 0).toNat 0<0)=false:=decide_eq_false (Int.not_lt.2 h0)
     refine⟨⟨q+1,by omega,(by(rw [en,e1];exact decide_eq_true hq))⟩,by simp only;omega,Imp.auto hX (by simp only [go_sem,simprocAttr,en,e1,e2,e3])⟩
    ·have h0:0≤A2.getD ((c.co.getD a []).getD q 0).toNat 0:=by assumption
     have e1:=pM (c:=c) (d:=d) (a:=a) (b:=q) (s:=(true,g2,A2)) (by rintro(h|h|h)<;>simp only [Cat.cp]at h<;>omega) (Int.not_lt.2 h0)
     have hq:A2.getD ((c.co.getD a []).getD q 0).toNat 0=(d.co.getD (A2.getD a 0).toNat []).getD (A2.getD q 0).toNat 0:=by assumption
     have e2:=aF5 (A:=A2) hq
     subst hc
     have e3:decide (A2.getD ((c.co.getD a []).getD q 0).toNat 0<0)=false:=decide_eq_false (Int.not_lt.2 h0)
     refine⟨⟨q+1,by omega,(by(rw [en,e1];exact decide_eq_true hq))⟩,by simp only;omega,Imp.auto hX (by simp only [go_sem,simprocAttr,en,e1,e2,e3])⟩
    ·have h0:A2.getD ((c.co.getD a []).getD q 0).toNat 0<0:=by assumption
     have e1:=xF (c:=c) (d:=d) (a:=a) (b:=q) (s:=(true,g2,A2)) (by rintro(h|h|h)<;>simp only [Cat.cp]at h<;>omega) h0
     have e3:decide (A2.getD ((c.co.getD a []).getD q 0).toNat 0<0)=true:=decide_eq_true h0
     refine⟨⟨q+1,by omega,(by(rw [en,e1]))⟩,by simp only;omega,Imp.auto hX (by simp only [go_sem,simprocAttr,en,e1,e3])⟩
    ·have h0:A2.getD ((c.co.getD a []).getD q 0).toNat 0<0:=by assumption
     have e1:=xF (c:=c) (d:=d) (a:=a) (b:=q) (s:=(true,g2,A2)) (by rintro(h|h|h)<;>simp only [Cat.cp]at h<;>omega) h0
     have e3:decide (A2.getD ((c.co.getD a []).getD q 0).toNat 0<0)=true:=decide_eq_true h0
     refine⟨⟨q+1,by omega,(by(rw [en,e1]))⟩,by simp only;omega,Imp.auto hX (by simp only [go_sem,simprocAttr,en,e1,e3])⟩
    ·have e1:=kB (c:=c) (d:=d) (a:=a) (b:=q) (s:=(true,g2,A2)) (.inr (.inl (by assumption)))
     refine⟨⟨q+1,by omega,(by(rw [en,e1]))⟩,by simp only;omega,Imp.auto hX (by simp only [go_sem,simprocAttr,en,e1])⟩
    ·have e1:=kB (c:=c) (d:=d) (a:=a) (b:=q) (s:=(true,g2,A2)) (.inl (by assumption))
     refine⟨⟨q+1,by omega,(by(rw [en,e1]))⟩,by simp only;omega,Imp.auto hX (by simp only [go_sem,simprocAttr,en,e1])⟩
   ·have e9:bM c d c.fr.length (a+1) (true,false,B)=cL c d a c.fr.length (true,g1,A1):=by rw [nQ (by rw [hs]),hs]
    have eq:q=c.fr.length:=by omega
    subst eq
    have fql:=fq.va.len
    repeat'(first|refine wkQ ?_|refine Tw.f ?_ ?_|(refine fun(hc:(_:Bool)=_)=>?_;try simp only [hcS]at hc))
    all_goals try exact om_
    ·refine⟨⟨a+1,by omega,(by(rw [e9];exact hwq))⟩,by simp only;omega,Imp.auto hX (by simp only [go_sem,simprocAttr,e9])⟩
  ·have ea:a=c.fr.length:=by omega
   subst ea
   obtain⟨g1,A1,hs⟩:∃g1 A1,bM c d c.fr.length c.fr.length (true,false,B)=(true,g1,A1):=⟨_,_,Prod.ext hwa rfl⟩
   rw [hs]at fa⊢
   have fva:=fa.va
   simp only at fva
   have fvl:=fva.len
   cases g1
   ·repeat'(first|refine wkQ ?_|refine Tw.f ?_ ?_|(refine fun(hc:(_:Bool)=_)=>?_;try simp only [hcS]at hc))
    all_goals try exact om_
    ·refine⟨⟨(k,false,A1),fva,fun h=>(by cases h),fun _=>by rw [he,uD (by rw [hs]) (by rw [hs]),hs]⟩,by simp,Imp.ao hX⟩
   ·have fp:=fa.prog rfl
    simp only [Bool.false_eq_true,false_or]at fp
    repeat'(first|refine wkQ ?_|refine Tw.f ?_ ?_|(refine fun(hc:(_:Bool)=_)=>?_;try simp only [hcS]at hc))
    all_goals try exact om_
    ·refine⟨⟨(k,true,A1),fva,fun _=>⟨by show uns A1<k;omega,by rw [he,yE (by rw [hs]) (by rw [hs]),hs]⟩,fun h=>by cases h⟩,by simp,Imp.ao hX⟩
end Go.Eng
