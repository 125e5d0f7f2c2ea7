/- Several texts in one: C01, C02. -/
import Derived.Test.YthgijhnmcglppaaGreatKhx
import Derived.Test.YthgijhnmcglppaaGreatKany
set_option linter.unusedSimpArgs false
set_option linter.unusedVariables false
set_option maxRecDepth 100000
set_option maxHeartbeats 8000000
section
namespace Go.Eng
open Go Go.Proofs Go.Cats
theorem aN4 {P:Nat→Nat→Prop} {a:Nat} (h:∀p q,p<a→P p q) (k:∀q,P a q):∀p q,p<a+1→P p q:=fun p q hp=>by
 by_cases e:p=a
 ·subst e;exact k q
 ·exact h p q (by omega)
structure FunB (f:Fun):Prop where
 src:CatB f.src
 tgt:CatB f.tgt
 obs:f.obs.length≤1048576
 ars:f.ars.length≤1048576
theorem yE:aD Tryz.prog 201:=⟨_,Tryz.func201,rfl,rfl⟩
theorem aAH {f:Fun} (hb:FunB f) (s:IsCat f.src) (t:IsCat f.tgt):Spec Tryz.prog 201 [.bptr [] (lO f)] [] (bv (dec (Fits f))) []:=by
 refine aC (E:=TE) 0 Tryz.func201 rfl (by simp [Tryz.f201]) fun X hn hX=>?_
 obtain⟨b1,b2,b3,b4⟩:=hb
 have hs:=s.toShape
 have hs0:=s.toShape
 have ht:=t
 obtain⟨s1,s2,s3,s4,s5,s6,s7,s8,s9,s10,s11⟩:=hs
 have ht0:=ht.ob0
 have ht8:=ht.ob8
 have ht40:=ht.m40
 repeat'(first|refine wkQ ?_|refine Tw.f ?_ ?_|(refine kcQ aQ ?_;refine krQ (aS) ?_)|(refine kcQ cM ?_;refine krQ (dJ ?_ ?_) ?_)|(refine fun(hc:(_:Bool)=_)=>?_;try simp only [hcS]at hc))
 all_goals try exact om_
 all_goals try((first|refine aB ?_|refine aA ?_);simp only [go_sem,simprocAttr,Tryz.f201];exact cD (fun q=>by obtain⟨q1,q2,q3,q4,q5,q6,q7⟩:=q;first|omega|contradiction))
 have hO:(f.obs.length:Int)=f.src.ob:=by assumption
 have hA:(f.ars.length:Int)=f.src.fr.length:=by assumption
 have hOw:Within f.obs f.tgt.ob:=by assumption
 have hAw:Within f.ars f.tgt.fr.length:=by assumption
 have htt:=ht.tol
 refine aG (G:={i:Nat//i≤f.ars.length∧(∀a,a<i→f.tgt.F (f.ars.getD a 0)=f.O (f.src.F a)∧f.tgt.T (f.ars.getD a 0)=f.O (f.src.T a))}) (fun⟨i,_⟩=>[(66,iv i)]) [0,3,4,64,65] (fun⟨i,_⟩=>[]) [] (fun zz=>f.ars.length-zz.1) ⟨0,Nat.zero_le _,by omega⟩ ?_ ?_
 ·exact Imp.au hX
 rintro⟨i,hii,hwi⟩
 simp only [go_sem,simprocAttr]
 have w1:=hAw i
 have w2:=s5 i
 have w3:=s6 i
 repeat'(first|refine wkQ ?_|refine Tw.f ?_ ?_|(refine fun(hc:(_:Bool)=_)=>?_;try simp only [hcS]at hc))
 all_goals try exact om_
 ·(first|refine aB ?_|refine aA ?_);simp only [go_sem,simprocAttr,Tryz.f201]
  exact cD (fun q=>hc (q.endf i (by omega)).2)
 ·refine⟨⟨i+1,by omega,(by exact bB hwi ⟨by assumption,hc⟩)⟩,by simp only;omega,Imp.ao hX⟩
 ·(first|refine aB ?_|refine aA ?_);simp only [go_sem,simprocAttr,Tryz.f201]
  exact cD (fun q=>hc (q.endf i (by omega)).1)
 have he:∀a,a<f.ars.length→f.tgt.F (f.ars.getD a 0)=f.O (f.src.F a)∧f.tgt.T (f.ars.getD a 0)=f.O (f.src.T a):=fun a ha=>hwi a (by omega)
 clear hwi w1 w2 w3
 refine aG (G:={x:Nat//x≤f.src.id.length∧(∀y,y<x→f.A (f.src.id.getD y 0)=f.tgt.I (f.O y))}) (fun⟨x,_⟩=>[(121,iv x)]) [0,3,4,119,120] (fun⟨x,_⟩=>[]) [] (fun zz=>f.src.id.length-zz.1) ⟨0,Nat.zero_le _,by omega⟩ ?_ ?_
 ·exact Imp.au hX
 rintro⟨x,hix,hwx⟩
 simp only [go_sem,simprocAttr]
 have w1:=s8 x
 have w2:=hAw (f.src.id.getD x 0).toNat
 have w3:=hOw x
 have w4:=ht.idl
 repeat'(first|refine wkQ ?_|refine Tw.f ?_ ?_|(refine fun(hc:(_:Bool)=_)=>?_;try simp only [hcS]at hc))
 all_goals try exact om_
 ·(first|refine aB ?_|refine aA ?_);simp only [go_sem,simprocAttr,Tryz.f201]
  exact cD (fun q=>hc (q.unit x (by omega)))
 ·refine⟨⟨x+1,by omega,(by exact bB hwx hc)⟩,by simp only;omega,Imp.ao hX⟩
 have hu:∀y,y<f.src.id.length→f.A (f.src.id.getD y 0)=f.tgt.I (f.O y):=fun y hy=>hwx y (by omega)
 clear hwx w1 w2 w3
 refine aG (G:={a:Nat//a≤f.src.co.length∧(∀p q:Nat,p<a→q<f.src.fr.length→0≤f.src.C p q→f.A (f.src.C p q)=f.tgt.C (f.A p) (f.A q))}) (fun⟨a,_⟩=>[(153,iv a)]) [0,4,151,152] (fun⟨a,_⟩=>[]) [] (fun zz=>f.src.co.length-zz.1) ⟨0,Nat.zero_le _,by omega⟩ ?_ ?_
 ·exact Imp.au hX
 rintro⟨a,hia,hwa⟩
 simp only [go_sem,simprocAttr]
 have v1:=s11 a
 have v2:=hAw a
 repeat'(first|refine wkQ ?_|refine Tw.f ?_ ?_|(refine fun(hc:(_:Bool)=_)=>?_;try simp only [hcS]at hc))
 all_goals try exact om_
 refine aG (G:={b:Nat//b≤(f.src.co.getD a []).length∧(∀q:Nat,q<b→0≤f.src.C a q→f.A (f.src.C a q)=f.tgt.C (f.A a) (f.A q))}) (fun⟨b,_⟩=>[(160,iv b)]) [0,4,9,151,152,153,158,159] (fun⟨b,_⟩=>[]) [] (fun zz=>(f.src.co.getD a []).length-zz.1) ⟨0,Nat.zero_le _,by omega⟩ ?_ ?_
 ·exact Imp.au hX
 rintro⟨b,hib,hwb⟩
 simp only [go_sem,simprocAttr]
 have v3:=hAw b
 have v4:=fun h1 h2 h3=>hs0.comp_lt (f:=a) (g:=b) h1 h2 h3
 have v5:=ht.toShape.col
 have v6:=fun h1 h2=>ht.toShape.comp_row (f:=f.ars.getD a 0) h1 h2
 repeat'(first|refine wkQ ?_|refine Tw.f ?_ ?_|(refine kcQ cL ?_;refine krQ (dA ?_ ?_ ?_ ?_) ?_)|(refine fun(hc:(_:Bool)=_)=>?_;try simp only [hcS]at hc))
 all_goals try exact om_
 all_goals try(first|(have:=v4 (by omega) (by omega) (by omega);omega)|(have:=v2 (by omega);omega)|(have k2:=v2 (by omega);have:=v6 k2.1 k2.2;have:=v3 (by omega);omega))
 ·(first|refine aB ?_|refine aA ?_);simp only [go_sem,simprocAttr,Tryz.f201]
  exact cD (fun q=>hc (q.comp a b (by omega) (by omega) (show(0:Int)≤(f.src.co.getD a []).getD b 0 by assumption)))
 ·refine⟨⟨b+1,by omega,(by exact bB hwb (fun _=>hc))⟩,by simp only;omega,Imp.ao hX⟩
 ·refine⟨⟨b+1,by omega,(by exact bB hwb (fun h=>absurd (show(0:Int)≤(f.src.co.getD a []).getD b 0 from h) (by omega)))⟩,by simp only;omega,Imp.ao hX⟩
 ·refine⟨⟨a+1,by omega,(by exact aN4 hwa (fun q hq h=>hwb q (by omega) h))⟩,by simp only;omega,Imp.ao hX⟩
 ·(first|refine aB ?_|refine aA ?_);simp only [go_sem,simprocAttr,Tryz.f201]
  exact nD ⟨hO,by omega,hOw,hAw,he,hu,fun p q hp hq h=>hwa p q (by omega) hq h⟩
end Go.Eng
end
section
namespace Go.Eng
open Go Go.Proofs Go.Cats
def wA (f0:Cat) (l:List Cat):Dt:= .sl 1 (.pt (aW f0)) (l.map fun f=> .pt (aW f))
@[go_sem] theorem aQH (f0 l):(wA f0 l).isSl=true:=rfl
@[go_sem] theorem aTu (f0 l):(wA f0 l).sz=1:=rfl
@[go_sem] theorem aTt (f0) (l:List Cat):(wA f0 l).nc=l.length:=by simp [wA,Dt.nc,Dt.cells]
@[go_sem] theorem aSf (f0) (l:List Cat):(wA f0 l).len=l.length:=by simp [wA,Dt.len,Dt.sz,Dt.nc,Dt.cells]
@[go_sem] theorem aTs (f0) (l:List Cat) (k:Nat):(wA f0 l).at k= .pt (aW (l.getD k f0)):=by
 simp only [wA,Dt.at,Dt.cells,Dt.df,List.getD_eq_getElem?_getD,List.getElem?_map]
 cases l[k]? <;>simp
def wN (f0:Fun) (l:List Fun):Dt:= .sl 1 (.pt (lO f0)) (l.map fun f=> .pt (lO f))
@[go_sem] theorem aQS (f0 l):(wN f0 l).isSl=true:=rfl
@[go_sem] theorem aTJ (f0 l):(wN f0 l).sz=1:=rfl
@[go_sem] theorem aTI (f0) (l:List Fun):(wN f0 l).nc=l.length:=by simp [wN,Dt.nc,Dt.cells]
@[go_sem] theorem aSk (f0) (l:List Fun):(wN f0 l).len=l.length:=by simp [wN,Dt.len,Dt.sz,Dt.nc,Dt.cells]
@[go_sem] theorem aTH (f0) (l:List Fun) (k:Nat):(wN f0 l).at k= .pt (lO (l.getD k f0)):=by
 simp only [wN,Dt.at,Dt.cells,Dt.df,List.getD_eq_getElem?_getD,List.getElem?_map]
 cases l[k]? <;>simp
theorem two_all {A:Type} {a0 a b:A} {P:A→Prop}:(∀i,i<[a,b].length→P ([a,b].getD i a0))↔P a∧P b:=by
 constructor
 ·intro h;exact⟨h 0 (by simp),h 1 (by simp)⟩
 ·intro h i hi
  have:i=0∨i=1:=by simp at hi;omega
  rcases this with rfl|rfl
  ·exact h.1
  ·exact h.2
theorem dI:aD Tryz.prog 78:=⟨_,Tryz.func78,rfl,rfl⟩
theorem zF {f0:Cat} {l:List Cat} (hl:l.length≤1048576) (hb:∀i,i<l.length→CatB (l.getD i f0)):Spec Tryz.prog 78 [.bor [] (wA f0 l)] [] (bv (dec (∀i,i<l.length→IsCat (l.getD i f0)))) []:=by
 refine aC (E:=TE) 0 Tryz.func78 rfl (by simp [Tryz.f78]) fun X hn hX=>?_
 repeat'(first|refine wkQ ?_|refine Tw.f ?_ ?_|(refine fun(hc:(_:Bool)=_)=>?_;try simp only [hcS]at hc))
 all_goals try exact om_
 refine aG (G:={i:Nat//i≤l.length∧(∀j,j<i→IsCat (l.getD j f0))}) (fun⟨i,_⟩=>[(7,iv i)]) [5,6] (fun⟨i,_⟩=>[]) [] (fun zz=>l.length-zz.1) ⟨0,Nat.zero_le _,by omega⟩ ?_ ?_
 ·exact Imp.au hX
 rintro⟨i,hii,hwi⟩
 simp only [go_sem,simprocAttr]
 have h1:=hb i
 repeat'(first|refine wkQ ?_|refine Tw.f ?_ ?_|(refine kcQ bH ?_;refine krQ (bL ?_) ?_)|(refine fun(hc:(_:Bool)=_)=>?_;try simp only [hcS]at hc))
 all_goals try exact h1 (by omega)
 all_goals try exact om_
 ·(first|refine aB ?_|refine aA ?_);simp only [go_sem,simprocAttr,Tryz.f78]
  exact cD (fun s=>hc (s i (by omega)))
 ·refine⟨⟨i+1,by omega,(by exact bB hwi hc)⟩,by simp only;omega,Imp.ao hX⟩
 ·(first|refine aB ?_|refine aA ?_);simp only [go_sem,simprocAttr,Tryz.f78]
  exact nD (fun j hj=>hwi j (by omega))
theorem cJ {f g:Cat} (hf:CatB f) (hg:CatB g):Spec Tryz.prog 78 [.bor [] (.sl 1 (.pt (aW f)) [.pt (aW f), .pt (aW g)])] [] (bv (dec (IsCat f∧IsCat g))) []:=by
 have:=zF (f0:=f) (l:=[f,g]) (by simp) (two_all.2 ⟨hf,hg⟩)
 rw [bU two_all]at this
 exact this
theorem jY:aD Tryz.prog 103:=⟨_,Tryz.func103,rfl,rfl⟩
theorem kV {f:Fun} (hb:FunB f):Spec Tryz.prog 103 [.bptr [] (lO f)] [] (bv (dec (IsFun f))) []:=by
 refine aC (E:=TE) 0 Tryz.func103 rfl (by simp [Tryz.f103]) fun X hn hX=>?_
 have hb1:=hb.src
 have hb2:=hb.tgt
 repeat'(first|refine wkQ ?_|refine Tw.f ?_ ?_|(refine kcQ dI ?_;refine ksQ (a:=cJ (by first|omega|assumption|rfl) (by first|omega|assumption|rfl)) (c:=?_))|(refine kcQ yE ?_;refine krQ (aAH ?_ ?_ ?_) ?_)|(refine fun(hc:(_:Bool)=_)=>?_;try simp only [hcS]at hc))
 all_goals try exact om_
 all_goals try exact hc.1
 all_goals try exact hc.2
 ·(first|refine aB ?_|refine aA ?_);simp only [go_sem,simprocAttr,Tryz.f103]
  exact congrArg bv (bU ⟨fun h=>⟨hc.1,hc.2,h⟩,fun h=>h.fits⟩)
 ·(first|refine aB ?_|refine aA ?_);simp only [go_sem,simprocAttr,Tryz.f103]
  exact cD fun h=>hc (And.intro h.src h.tgt)
theorem aAw:aD Tryz.prog 92:=⟨_,Tryz.func92,rfl,rfl⟩
theorem aCq {f0:Fun} {l:List Fun} (hl:l.length≤1048576) (hb:∀i,i<l.length→FunB (l.getD i f0)):Spec Tryz.prog 92 [.bor [] (wN f0 l)] [] (bv (dec (∀i,i<l.length→IsFun (l.getD i f0)))) []:=by
 refine aC (E:=TE) 0 Tryz.func92 rfl (by simp [Tryz.f92]) fun X hn hX=>?_
 repeat'(first|refine wkQ ?_|refine Tw.f ?_ ?_|(refine fun(hc:(_:Bool)=_)=>?_;try simp only [hcS]at hc))
 all_goals try exact om_
 refine aG (G:={i:Nat//i≤l.length∧(∀j,j<i→IsFun (l.getD j f0))}) (fun⟨i,_⟩=>[(7,iv i)]) [5,6] (fun⟨i,_⟩=>[]) [] (fun zz=>l.length-zz.1) ⟨0,Nat.zero_le _,by omega⟩ ?_ ?_
 ·exact Imp.au hX
 rintro⟨i,hii,hwi⟩
 simp only [go_sem,simprocAttr]
 have h1:=hb i
 repeat'(first|refine wkQ ?_|refine Tw.f ?_ ?_|(refine kcQ jY ?_;refine krQ (kV ?_) ?_)|(refine fun(hc:(_:Bool)=_)=>?_;try simp only [hcS]at hc))
 all_goals try exact h1 (by omega)
 all_goals try exact om_
 ·(first|refine aB ?_|refine aA ?_);simp only [go_sem,simprocAttr,Tryz.f92]
  exact cD (fun s=>hc (s i (by omega)))
 ·refine⟨⟨i+1,by omega,(by exact bB hwi hc)⟩,by simp only;omega,Imp.ao hX⟩
 ·(first|refine aB ?_|refine aA ?_);simp only [go_sem,simprocAttr,Tryz.f92]
  exact nD (fun j hj=>hwi j (by omega))
theorem vF {f g:Fun} (hf:FunB f) (hg:FunB g):Spec Tryz.prog 92 [.bor [] (.sl 1 (.pt (lO f)) [.pt (lO f), .pt (lO g)])] [] (bv (dec (IsFun f∧IsFun g))) []:=by
 have:=aCq (f0:=f) (l:=[f,g]) (by simp) (two_all.2 ⟨hf,hg⟩)
 rw [bU two_all]at this
 exact this
theorem _root_.Go.Cats.Fun.eq {f g:Fun} (h1:f.src=g.src) (h2:f.tgt=g.tgt) (h3:f.obs=g.obs) (h4:f.ars=g.ars):f=g:=by cases f;cases g;simp_all
def aP5 (f:Fun):Nat:=aIB f.src+aIB f.tgt+f.obs.length+f.ars.length
structure FunL (f:Fun):Prop where
 src:CatL f.src
 tgt:CatL f.tgt
 obs:(f.obs.length:Int)≤9223372036854775807
 ars:(f.ars.length:Int)≤9223372036854775807
end Go.Eng
end
