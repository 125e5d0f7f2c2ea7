/- Functors: what it is to be one, by the program and by the reference. -/
import Derived.Test.YtbflkfamigcncaaGreatKhx
set_option linter.unusedSimpArgs false
set_option linter.unusedVariables false
set_option maxRecDepth 100000
set_option maxHeartbeats 8000000
namespace Go.Eng
open Go Go.Proofs Go.Cats
theorem aEG {P:Nat→Nat→Prop} {a:Nat} (h:∀p q,p<a→P p q) (k:∀q,P a q):∀p q,p<a+1→P p q:=fun p q hp=>by
 by_cases e:p=a
 ·subst e;exact k q
 ·exact h p q (by omega)
structure FunB (f:Fun):Prop where
 src:CatB f.src
 tgt:CatB f.tgt
 obs:f.obs.length≤1048576
 ars:f.ars.length≤1048576
theorem vO:aF Tryz.prog 178:=⟨_,Tryz.func178,rfl,rfl⟩
theorem yJ {f:Fun} (hb:FunB f) (s:IsCat f.src) (t:IsCat f.tgt):Spec Tryz.prog 178 [.bptr [] (cD f)] [] (bv (dec (Fits f))) []:=by
 refine aD (E:=TE) 0 Tryz.func178 rfl (by simp [Tryz.f178]) fun X hn hX=>?_
 obtain⟨b1,b2,b3,b4⟩:=hb
 have hs:=s.toShape
 have hs0:=s.toShape
 have ht:=t
 obtain⟨s1,s2,s3,s4,s5,s6,s7,s8,s9,s10,s11⟩:=hs
 have ht0:=ht.ob0
 have ht8:=ht.ob8
 have ht40:=ht.m40
 repeat'(first|refine wkQ ?_|refine Tw.f ?_ ?_|(refine kcQ bM ?_;refine krQ (bX) ?_)|(refine kcQ jB ?_;refine krQ (kQ ?_ ?_) ?_)|(refine fun(hc:(_:Bool)=_)=>?_;try simp only [hcS]at hc))
 all_goals try exact om_
 all_goals try((first|refine aB ?_|refine aA ?_);simp only [go_sem,simprocAttr,Tryz.f178];exact eD (fun q=>by obtain⟨q1,q2,q3,q4,q5,q6,q7⟩:=q;first|omega|contradiction))
 have hO:(f.obs.length:Int)=f.src.ob:=by assumption
 have hA:(f.ars.length:Int)=f.src.fr.length:=by assumption
 have hOw:Within f.obs f.tgt.ob:=by assumption
 have hAw:Within f.ars f.tgt.fr.length:=by assumption
 have htt:=ht.tol
 refine aH (G:={i:Nat//i≤f.ars.length∧(∀a,a<i→f.tgt.F (f.ars.getD a 0)=f.O (f.src.F a)∧f.tgt.T (f.ars.getD a 0)=f.O (f.src.T a))}) (fun⟨i,_⟩=>[(66,iv i)]) [0,3,4,64,65] (fun⟨i,_⟩=>[]) [] (fun zz=>f.ars.length-zz.1) ⟨0,Nat.zero_le _,by omega⟩ ?_ ?_
 ·exact Imp.au hX
 rintro⟨i,hii,hwi⟩
 simp only [go_sem,simprocAttr]
 have w1:=hAw i
 have w2:=s5 i
 have w3:=s6 i
 repeat'(first|refine wkQ ?_|refine Tw.f ?_ ?_|(refine fun(hc:(_:Bool)=_)=>?_;try simp only [hcS]at hc))
 all_goals try exact om_
 ·(first|refine aB ?_|refine aA ?_);simp only [go_sem,simprocAttr,Tryz.f178]
  exact eD (fun q=>hc (q.endf i (by omega)).2)
 ·refine⟨⟨i+1,by omega,(by exact bU hwi ⟨by assumption,hc⟩)⟩,by simp only;omega,Imp.ao hX⟩
 ·(first|refine aB ?_|refine aA ?_);simp only [go_sem,simprocAttr,Tryz.f178]
  exact eD (fun q=>hc (q.endf i (by omega)).1)
 have he:∀a,a<f.ars.length→f.tgt.F (f.ars.getD a 0)=f.O (f.src.F a)∧f.tgt.T (f.ars.getD a 0)=f.O (f.src.T a):=fun a ha=>hwi a (by omega)
 clear hwi w1 w2 w3
 refine aH (G:={x:Nat//x≤f.src.id.length∧(∀y,y<x→f.A (f.src.id.getD y 0)=f.tgt.I (f.O y))}) (fun⟨x,_⟩=>[(121,iv x)]) [0,3,4,119,120] (fun⟨x,_⟩=>[]) [] (fun zz=>f.src.id.length-zz.1) ⟨0,Nat.zero_le _,by omega⟩ ?_ ?_
 ·exact Imp.au hX
 rintro⟨x,hix,hwx⟩
 simp only [go_sem,simprocAttr]
 have w1:=s8 x
 have w2:=hAw (f.src.id.getD x 0).toNat
 have w3:=hOw x
 have w4:=ht.idl
 repeat'(first|refine wkQ ?_|refine Tw.f ?_ ?_|(refine fun(hc:(_:Bool)=_)=>?_;try simp only [hcS]at hc))
 all_goals try exact om_
 ·(first|refine aB ?_|refine aA ?_);simp only [go_sem,simprocAttr,Tryz.f178]
  exact eD (fun q=>hc (q.unit x (by omega)))
 ·refine⟨⟨x+1,by omega,(by exact bU hwx hc)⟩,by simp only;omega,Imp.ao hX⟩
 have hu:∀y,y<f.src.id.length→f.A (f.src.id.getD y 0)=f.tgt.I (f.O y):=fun y hy=>hwx y (by omega)
 clear hwx w1 w2 w3
 refine aH (G:={a:Nat//a≤f.src.co.length∧(∀p q:Nat,p<a→q<f.src.fr.length→0≤f.src.C p q→f.A (f.src.C p q)=f.tgt.C (f.A p) (f.A q))}) (fun⟨a,_⟩=>[(153,iv a)]) [0,4,151,152] (fun⟨a,_⟩=>[]) [] (fun zz=>f.src.co.length-zz.1) ⟨0,Nat.zero_le _,by omega⟩ ?_ ?_
 ·exact Imp.au hX
 rintro⟨a,hia,hwa⟩
 simp only [go_sem,simprocAttr]
 have v1:=s11 a
 have v2:=hAw a
 repeat'(first|refine wkQ ?_|refine Tw.f ?_ ?_|(refine fun(hc:(_:Bool)=_)=>?_;try simp only [hcS]at hc))
 all_goals try exact om_
 refine aH (G:={b:Nat//b≤(f.src.co.getD a []).length∧(∀q:Nat,q<b→0≤f.src.C a q→f.A (f.src.C a q)=f.tgt.C (f.A a) (f.A q))}) (fun⟨b,_⟩=>[(160,iv b)]) [0,4,9,151,152,153,158,159] (fun⟨b,_⟩=>[]) [] (fun zz=>(f.src.co.getD a []).length-zz.1) ⟨0,Nat.zero_le _,by omega⟩ ?_ ?_
 ·exact Imp.au hX
 rintro⟨b,hib,hwb⟩
 simp only [go_sem,simprocAttr]
 have v3:=hAw b
 have v4:=fun h1 h2 h3=>hs0.comp_lt (f:=a) (g:=b) h1 h2 h3
 have v5:=ht.toShape.col
 have v6:=fun h1 h2=>ht.toShape.comp_row (f:=f.ars.getD a 0) h1 h2
 repeat'(first|refine wkQ ?_|refine Tw.f ?_ ?_|(refine kcQ bG ?_;refine krQ (bJ ?_ ?_ ?_ ?_) ?_)|(refine fun(hc:(_:Bool)=_)=>?_;try simp only [hcS]at hc))
 all_goals try exact om_
 all_goals try(first|(have:=v4 (by omega) (by omega) (by omega);omega)|(have:=v2 (by omega);omega)|(have k2:=v2 (by omega);have:=v6 k2.1 k2.2;have:=v3 (by omega);omega))
 ·(first|refine aB ?_|refine aA ?_);simp only [go_sem,simprocAttr,Tryz.f178]
  exact eD (fun q=>hc (q.comp a b (by omega) (by omega) (show(0:Int)≤(f.src.co.getD a []).getD b 0 by assumption)))
 ·refine⟨⟨b+1,by omega,(by exact bU hwb (fun _=>hc))⟩,by simp only;omega,Imp.ao hX⟩
 ·refine⟨⟨b+1,by omega,(by exact bU hwb (fun h=>absurd (show(0:Int)≤(f.src.co.getD a []).getD b 0 from h) (by omega)))⟩,by simp only;omega,Imp.ao hX⟩
 ·refine⟨⟨a+1,by omega,(by exact aEG hwa (fun q hq h=>hwb q (by omega) h))⟩,by simp only;omega,Imp.ao hX⟩
 ·(first|refine aB ?_|refine aA ?_);simp only [go_sem,simprocAttr,Tryz.f178]
  exact xZ ⟨hO,by omega,hOw,hAw,he,hu,fun p q hp hq h=>hwa p q (by omega) hq h⟩
theorem aBK:aF Tryz.prog 225:=⟨_,Tryz.func225,rfl,rfl⟩
theorem aEr {f:Fun} (hb:FunB f):Spec Tryz.prog 225 [cK f] [] (bv (dec (IsFun f))) []:=by
 refine aD (E:=TE) 0 Tryz.func225 rfl (by simp [Tryz.f225]) fun X hn hX=>?_
 obtain⟨b1,b2,b3,b4⟩:=hb
 repeat'(first|refine wkQ ?_|refine Tw.f ?_ ?_|(refine kcQ aGX ?_;refine krQ (aKd ?_) ?_)|(refine kcQ sC ?_;refine krQ (wV ?_) ?_)|(refine fun(hc:(_:Bool)=_)=>?_;try simp only [hcS]at hc))
 all_goals try exact om_
 all_goals try((first|refine aB ?_|refine aA ?_);simp only [go_sem,simprocAttr,Tryz.f225];exact eD (fun q=>by obtain⟨q8,q9,q1,q2,q3,q4,q5,q6,q7⟩:=q;first|omega|contradiction))
 have hs:IsCat f.src:=by assumption
 have ht:IsCat f.tgt:=by assumption
 have hs0:=hs.toShape
 have ⟨s1,s2,s3,s4,s5,s6,s7,s8,s9,s10,s11⟩:=hs.toShape
 have ht0:=ht.ob0
 have ht8:=ht.ob8
 have ht40:=ht.m40
 have hO:(f.obs.length:Int)=f.src.ob:=by assumption
 have hA:(f.ars.length:Int)=f.src.fr.length:=by assumption
 have hOw:Within f.obs f.tgt.ob:=by assumption
 have hAw:Within f.ars f.tgt.fr.length:=by assumption
 have htt:=ht.tol
 refine aH (G:={i:Nat//i≤f.src.fr.length∧(∀a,a<i→f.tgt.F (f.ars.getD a 0)=f.O (f.src.F a)∧f.tgt.T (f.ars.getD a 0)=f.O (f.src.T a))}) (fun⟨i,_⟩=>[(5,iv i)]) [1,3,4] (fun⟨i,_⟩=>[]) [] (fun zz=>f.src.fr.length-zz.1) ⟨0,Nat.zero_le _,by omega⟩ ?_ ?_
 ·exact Imp.au hX
 rintro⟨i,hii,hwi⟩
 simp only [go_sem,simprocAttr]
 have w1:=hAw i
 have w2:=s5 i
 have w3:=s6 i
 repeat'(first|refine wkQ ?_|refine Tw.f ?_ ?_|(refine fun(hc:(_:Bool)=_)=>?_;try simp only [hcS]at hc))
 all_goals try exact om_
 ·(first|refine aB ?_|refine aA ?_);simp only [go_sem,simprocAttr,Tryz.f225]
  exact eD (fun q=>hc (q.fits.endf i (by omega)).2)
 ·refine⟨⟨i+1,by omega,(by exact bU hwi ⟨by assumption,hc⟩)⟩,by simp only;omega,Imp.ao hX⟩
 ·(first|refine aB ?_|refine aA ?_);simp only [go_sem,simprocAttr,Tryz.f225]
  exact eD (fun q=>hc (q.fits.endf i (by omega)).1)
 have he:∀a,a<f.ars.length→f.tgt.F (f.ars.getD a 0)=f.O (f.src.F a)∧f.tgt.T (f.ars.getD a 0)=f.O (f.src.T a):=fun a ha=>hwi a (by omega)
 clear hwi w1 w2 w3
 refine aH (G:={x:Nat//x≤f.src.ob.toNat∧(∀y,y<x→f.A (f.src.id.getD y 0)=f.tgt.I (f.O y))}) (fun⟨x,_⟩=>[(6,iv x)]) [1,3,4] (fun⟨x,_⟩=>[]) [] (fun zz=>f.src.ob.toNat-zz.1) ⟨0,Nat.zero_le _,by omega⟩ ?_ ?_
 ·exact Imp.au hX
 rintro⟨x,hix,hwx⟩
 simp only [go_sem,simprocAttr]
 have w1:=s8 x
 have w2:=hAw (f.src.id.getD x 0).toNat
 have w3:=hOw x
 have w4:=ht.idl
 repeat'(first|refine wkQ ?_|refine Tw.f ?_ ?_|(refine fun(hc:(_:Bool)=_)=>?_;try simp only [hcS]at hc))
 all_goals try exact om_
 ·(first|refine aB ?_|refine aA ?_);simp only [go_sem,simprocAttr,Tryz.f225]
  exact eD (fun q=>hc (q.fits.unit x (by omega)))
 ·refine⟨⟨x+1,by omega,(by exact bU hwx hc)⟩,by simp only;omega,Imp.ao hX⟩
 have hu:∀y,y<f.src.id.length→f.A (f.src.id.getD y 0)=f.tgt.I (f.O y):=fun y hy=>hwx y (by omega)
 clear hwx w1 w2 w3
 refine aH (G:={a:Nat//a≤f.src.fr.length∧(∀p q:Nat,p<a→q<f.src.fr.length→0≤f.src.C p q→f.A (f.src.C p q)=f.tgt.C (f.A p) (f.A q))}) (fun⟨a,_⟩=>[(7,iv a)]) [1,3,4] (fun⟨a,_⟩=>[]) [] (fun zz=>f.src.fr.length-zz.1) ⟨0,Nat.zero_le _,by omega⟩ ?_ ?_
 ·exact Imp.au hX
 rintro⟨a,hia,hwa⟩
 simp only [go_sem,simprocAttr]
 have v1:=s11 a
 have v2:=hAw a
 repeat'(first|refine wkQ ?_|refine Tw.f ?_ ?_|(refine fun(hc:(_:Bool)=_)=>?_;try simp only [hcS]at hc))
 all_goals try exact om_
 refine aH (G:={b:Nat//b≤f.src.fr.length∧(∀q:Nat,q<b→0≤f.src.C a q→f.A (f.src.C a q)=f.tgt.C (f.A a) (f.A q))}) (fun⟨b,_⟩=>[(8,iv b)]) [1,3,4,7] (fun⟨b,_⟩=>[]) [] (fun zz=>f.src.fr.length-zz.1) ⟨0,Nat.zero_le _,by omega⟩ ?_ ?_
 ·exact Imp.au hX
 rintro⟨b,hib,hwb⟩
 simp only [go_sem,simprocAttr]
 have v3:=hAw b
 have v4:=fun h1 h2 h3=>hs0.comp_lt (f:=a) (g:=b) h1 h2 h3
 have v5:=ht.toShape.col
 have v6:=fun h1 h2=>ht.toShape.comp_row (f:=f.ars.getD a 0) h1 h2
 have v7:=fun h1 h2 h3=>hs0.comp_nn (f:=a) (g:=b) h1 h2 h3
 repeat'(first|refine wkQ ?_|refine Tw.f ?_ ?_|(refine fun(hc:(_:Bool)=_)=>?_;try simp only [hcS]at hc))
 all_goals try exact om_
 all_goals try(first|exact v7 (by omega) (by omega) (by assumption)|(have:=(v4 (by omega) (by omega) (v7 (by omega) (by omega) (by assumption))).1;omega)|(have:=v2 (by omega);omega)|(have k2:=v2 (by omega);have:=v6 k2.1 k2.2;have:=v3 (by omega);omega))
 ·(first|refine aB ?_|refine aA ?_);simp only [go_sem,simprocAttr,Tryz.f225]
  exact eD (fun q=>hc (q.fits.comp a b (by omega) (by omega) (v7 (by omega) (by omega) (by assumption))))
 ·refine⟨⟨b+1,by omega,(by exact bU hwb (fun _=>hc))⟩,by simp only;omega,Imp.ao hX⟩
 ·refine⟨⟨b+1,by omega,(by exact bU hwb (fun h=>absurd (v4 (by omega) (by omega) h).2 hc))⟩,by simp only;omega,Imp.ao hX⟩
 ·refine⟨⟨a+1,by omega,(by exact aEG hwa (fun q hq h=>hwb q (by omega) h))⟩,by simp only;omega,Imp.ao hX⟩
 ·(first|refine aB ?_|refine aA ?_);simp only [go_sem,simprocAttr,Tryz.f225]
  exact xZ ⟨hs,ht,hO,by omega,hOw,hAw,he,hu,fun p q hp hq h=>hwa p q (by omega) hq h⟩
end Go.Eng
