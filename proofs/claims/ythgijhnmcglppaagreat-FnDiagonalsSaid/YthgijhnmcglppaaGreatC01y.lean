/- Several texts in one: C01, C02, A01. -/
import Derived.Test.YthgijhnmcglppaaGreatKany
set_option linter.unusedSimpArgs false
set_option linter.unusedVariables false
set_option maxRecDepth 100000
set_option maxHeartbeats 8000000
section
namespace Go.Eng
open Go Go.Proofs Go.Cats
theorem aNK {P:Nat→Nat→Prop} {a:Nat} (h:∀p q,p<a→P p q) (k:∀q,P a q):∀p q,p<a+1→P p q:=fun p q hp=>by
 by_cases e:p=a
 ·subst e;exact k q
 ·exact h p q (by omega)
structure FunB (f:Fun):Prop where
 src:CatB f.src
 tgt:CatB f.tgt
 obs:f.obs.length≤1048576
 ars:f.ars.length≤1048576
theorem xQ:aE Tryz.prog 201:=⟨_,Tryz.func201,rfl,rfl⟩
theorem aAf {f:Fun} (hb:FunB f) (s:IsCat f.src) (t:IsCat f.tgt):Spec Tryz.prog 201 [.bptr [] (dX f)] [] (bv (dec (Fits f))) []:=by
 refine aD (E:=TE) 0 Tryz.func201 rfl (by simp [Tryz.f201]) fun X hn hX=>?_
 obtain⟨b1,b2,b3,b4⟩:=hb
 have hs:=s.toShape
 have hs0:=s.toShape
 have ht:=t
 obtain⟨s1,s2,s3,s4,s5,s6,s7,s8,s9,s10,s11⟩:=hs
 have ht0:=ht.ob0
 have ht8:=ht.ob8
 have ht40:=ht.m40
 repeat'(first|refine wkQ ?_|refine Tw.f ?_ ?_|(refine kcQ aT ?_;refine krQ (aX) ?_)|(refine kcQ lC ?_;refine krQ (nZ ?_ ?_) ?_)|(refine fun(hc:(_:Bool)=_)=>?_;try simp only [hcS]at hc))
 all_goals try exact om_
 all_goals try((first|refine aB ?_|refine aA ?_);simp only [go_sem,simprocAttr,Tryz.f201];exact fH (fun q=>by obtain⟨q1,q2,q3,q4,q5,q6,q7⟩:=q;first|omega|contradiction))
 have hO:(f.obs.length:Int)=f.src.ob:=by assumption
 have hA:(f.ars.length:Int)=f.src.fr.length:=by assumption
 have hOw:Within f.obs f.tgt.ob:=by assumption
 have hAw:Within f.ars f.tgt.fr.length:=by assumption
 have htt:=ht.tol
 refine aG (G:={i:Nat//i≤f.ars.length∧(∀a,a<i→f.tgt.F (f.ars.getD a 0)=f.O (f.src.F a)∧f.tgt.T (f.ars.getD a 0)=f.O (f.src.T a))}) (fun⟨i,_⟩=>[(66,iv i)]) [0,3,4,64,65] (fun⟨i,_⟩=>[]) [] (fun zz=>f.ars.length-zz.1) ⟨0,Nat.zero_le _,by omega⟩ ?_ ?_
 ·exact Imp.au hX
 rintro⟨i,hii,hwi⟩
 simp only [go_sem,simprocAttr]
 have w1:=hAw i
 have w2:=s5 i
 have w3:=s6 i
 repeat'(first|refine wkQ ?_|refine Tw.f ?_ ?_|(refine fun(hc:(_:Bool)=_)=>?_;try simp only [hcS]at hc))
 all_goals try exact om_
 ·(first|refine aB ?_|refine aA ?_);simp only [go_sem,simprocAttr,Tryz.f201]
  exact fH (fun q=>hc (q.endf i (by omega)).2)
 ·refine⟨⟨i+1,by omega,(by exact cB hwi ⟨by assumption,hc⟩)⟩,by simp only;omega,Imp.ao hX⟩
 ·(first|refine aB ?_|refine aA ?_);simp only [go_sem,simprocAttr,Tryz.f201]
  exact fH (fun q=>hc (q.endf i (by omega)).1)
 have he:∀a,a<f.ars.length→f.tgt.F (f.ars.getD a 0)=f.O (f.src.F a)∧f.tgt.T (f.ars.getD a 0)=f.O (f.src.T a):=fun a ha=>hwi a (by omega)
 clear hwi w1 w2 w3
 refine aG (G:={x:Nat//x≤f.src.id.length∧(∀y,y<x→f.A (f.src.id.getD y 0)=f.tgt.I (f.O y))}) (fun⟨x,_⟩=>[(121,iv x)]) [0,3,4,119,120] (fun⟨x,_⟩=>[]) [] (fun zz=>f.src.id.length-zz.1) ⟨0,Nat.zero_le _,by omega⟩ ?_ ?_
 ·exact Imp.au hX
 rintro⟨x,hix,hwx⟩
 simp only [go_sem,simprocAttr]
 have w1:=s8 x
 have w2:=hAw (f.src.id.getD x 0).toNat
 have w3:=hOw x
 have w4:=ht.idl
 repeat'(first|refine wkQ ?_|refine Tw.f ?_ ?_|(refine fun(hc:(_:Bool)=_)=>?_;try simp only [hcS]at hc))
 all_goals try exact om_
 ·(first|refine aB ?_|refine aA ?_);simp only [go_sem,simprocAttr,Tryz.f201]
  exact fH (fun q=>hc (q.unit x (by omega)))
 ·refine⟨⟨x+1,by omega,(by exact cB hwx hc)⟩,by simp only;omega,Imp.ao hX⟩
 have hu:∀y,y<f.src.id.length→f.A (f.src.id.getD y 0)=f.tgt.I (f.O y):=fun y hy=>hwx y (by omega)
 clear hwx w1 w2 w3
 refine aG (G:={a:Nat//a≤f.src.co.length∧(∀p q:Nat,p<a→q<f.src.fr.length→0≤f.src.C p q→f.A (f.src.C p q)=f.tgt.C (f.A p) (f.A q))}) (fun⟨a,_⟩=>[(153,iv a)]) [0,4,151,152] (fun⟨a,_⟩=>[]) [] (fun zz=>f.src.co.length-zz.1) ⟨0,Nat.zero_le _,by omega⟩ ?_ ?_
 ·exact Imp.au hX
 rintro⟨a,hia,hwa⟩
 simp only [go_sem,simprocAttr]
 have v1:=s11 a
 have v2:=hAw a
 repeat'(first|refine wkQ ?_|refine Tw.f ?_ ?_|(refine fun(hc:(_:Bool)=_)=>?_;try simp only [hcS]at hc))
 all_goals try exact om_
 refine aG (G:={b:Nat//b≤(f.src.co.getD a []).length∧(∀q:Nat,q<b→0≤f.src.C a q→f.A (f.src.C a q)=f.tgt.C (f.A a) (f.A q))}) (fun⟨b,_⟩=>[(160,iv b)]) [0,4,9,151,152,153,158,159] (fun⟨b,_⟩=>[]) [] (fun zz=>(f.src.co.getD a []).length-zz.1) ⟨0,Nat.zero_le _,by omega⟩ ?_ ?_
 ·exact Imp.au hX
 rintro⟨b,hib,hwb⟩
 simp only [go_sem,simprocAttr]
 have v3:=hAw b
 have v4:=fun h1 h2 h3=>hs0.comp_lt (f:=a) (g:=b) h1 h2 h3
 have v5:=ht.toShape.col
 have v6:=fun h1 h2=>ht.toShape.comp_row (f:=f.ars.getD a 0) h1 h2
 repeat'(first|refine wkQ ?_|refine Tw.f ?_ ?_|(refine kcQ cG ?_;refine krQ (cN ?_ ?_ ?_ ?_) ?_)|(refine fun(hc:(_:Bool)=_)=>?_;try simp only [hcS]at hc))
 all_goals try exact om_
 all_goals try(first|(have:=v4 (by omega) (by omega) (by omega);omega)|(have:=v2 (by omega);omega)|(have k2:=v2 (by omega);have:=v6 k2.1 k2.2;have:=v3 (by omega);omega))
 ·(first|refine aB ?_|refine aA ?_);simp only [go_sem,simprocAttr,Tryz.f201]
  exact fH (fun q=>hc (q.comp a b (by omega) (by omega) (show(0:Int)≤(f.src.co.getD a []).getD b 0 by assumption)))
 ·refine⟨⟨b+1,by omega,(by exact cB hwb (fun _=>hc))⟩,by simp only;omega,Imp.ao hX⟩
 ·refine⟨⟨b+1,by omega,(by exact cB hwb (fun h=>absurd (show(0:Int)≤(f.src.co.getD a []).getD b 0 from h) (by omega)))⟩,by simp only;omega,Imp.ao hX⟩
 ·refine⟨⟨a+1,by omega,(by exact aNK hwa (fun q hq h=>hwb q (by omega) h))⟩,by simp only;omega,Imp.ao hX⟩
 ·(first|refine aB ?_|refine aA ?_);simp only [go_sem,simprocAttr,Tryz.f201]
  exact xP ⟨hO,by omega,hOw,hAw,he,hu,fun p q hp hq h=>hwa p q (by omega) hq h⟩
end Go.Eng
end
section
namespace Go.Eng
open Go Go.Proofs Go.Cats
def vQ (f0:Cat) (l:List Cat):Dt:= .sl 1 (.pt (aU f0)) (l.map fun f=> .pt (aU f))
@[go_sem] theorem aQB (f0 l):(vQ f0 l).isSl=true:=rfl
@[go_sem] theorem aTl (f0 l):(vQ f0 l).sz=1:=rfl
@[go_sem] theorem aTk (f0) (l:List Cat):(vQ f0 l).nc=l.length:=by simp [vQ,Dt.nc,Dt.cells]
@[go_sem] theorem aR8 (f0) (l:List Cat):(vQ f0 l).len=l.length:=by simp [vQ,Dt.len,Dt.sz,Dt.nc,Dt.cells]
@[go_sem] theorem aTj (f0) (l:List Cat) (k:Nat):(vQ f0 l).at k= .pt (aU (l.getD k f0)):=by
 simp only [vQ,Dt.at,Dt.cells,Dt.df,List.getD_eq_getElem?_getD,List.getElem?_map]
 cases l[k]? <;>simp
def vZ (f0:Fun) (l:List Fun):Dt:= .sl 1 (.pt (dX f0)) (l.map fun f=> .pt (dX f))
@[go_sem] theorem aQP (f0 l):(vZ f0 l).isSl=true:=rfl
@[go_sem] theorem aTJ (f0 l):(vZ f0 l).sz=1:=rfl
@[go_sem] theorem aTI (f0) (l:List Fun):(vZ f0 l).nc=l.length:=by simp [vZ,Dt.nc,Dt.cells]
@[go_sem] theorem aSc (f0) (l:List Fun):(vZ f0 l).len=l.length:=by simp [vZ,Dt.len,Dt.sz,Dt.nc,Dt.cells]
@[go_sem] theorem aTH (f0) (l:List Fun) (k:Nat):(vZ f0 l).at k= .pt (dX (l.getD k f0)):=by
 simp only [vZ,Dt.at,Dt.cells,Dt.df,List.getD_eq_getElem?_getD,List.getElem?_map]
 cases l[k]? <;>simp
theorem two_all {A:Type} {a0 a b:A} {P:A→Prop}:(∀i,i<[a,b].length→P ([a,b].getD i a0))↔P a∧P b:=by
 constructor
 ·intro h;exact⟨h 0 (by simp),h 1 (by simp)⟩
 ·intro h i hi
  have:i=0∨i=1:=by simp at hi;omega
  rcases this with rfl|rfl
  ·exact h.1
  ·exact h.2
theorem bB:aE Tryz.prog 78:=⟨_,Tryz.func78,rfl,rfl⟩
theorem yM {f0:Cat} {l:List Cat} (hl:l.length≤1048576) (hb:∀i,i<l.length→CatB (l.getD i f0)):Spec Tryz.prog 78 [.bor [] (vQ f0 l)] [] (bv (dec (∀i,i<l.length→IsCat (l.getD i f0)))) []:=by
 refine aD (E:=TE) 0 Tryz.func78 rfl (by simp [Tryz.f78]) fun X hn hX=>?_
 repeat'(first|refine wkQ ?_|refine Tw.f ?_ ?_|(refine fun(hc:(_:Bool)=_)=>?_;try simp only [hcS]at hc))
 all_goals try exact om_
 refine aG (G:={i:Nat//i≤l.length∧(∀j,j<i→IsCat (l.getD j f0))}) (fun⟨i,_⟩=>[(7,iv i)]) [5,6] (fun⟨i,_⟩=>[]) [] (fun zz=>l.length-zz.1) ⟨0,Nat.zero_le _,by omega⟩ ?_ ?_
 ·exact Imp.au hX
 rintro⟨i,hii,hwi⟩
 simp only [go_sem,simprocAttr]
 have h1:=hb i
 repeat'(first|refine wkQ ?_|refine Tw.f ?_ ?_|(refine kcQ eQ ?_;refine krQ (fJ ?_) ?_)|(refine fun(hc:(_:Bool)=_)=>?_;try simp only [hcS]at hc))
 all_goals try exact h1 (by omega)
 all_goals try exact om_
 ·(first|refine aB ?_|refine aA ?_);simp only [go_sem,simprocAttr,Tryz.f78]
  exact fH (fun s=>hc (s i (by omega)))
 ·refine⟨⟨i+1,by omega,(by exact cB hwi hc)⟩,by simp only;omega,Imp.ao hX⟩
 ·(first|refine aB ?_|refine aA ?_);simp only [go_sem,simprocAttr,Tryz.f78]
  exact xP (fun j hj=>hwi j (by omega))
theorem bA {f g:Cat} (hf:CatB f) (hg:CatB g):Spec Tryz.prog 78 [.bor [] (.sl 1 (.pt (aU f)) [.pt (aU f), .pt (aU g)])] [] (bv (dec (IsCat f∧IsCat g))) []:=by
 have:=yM (f0:=f) (l:=[f,g]) (by simp) (two_all.2 ⟨hf,hg⟩)
 rw [cV two_all]at this
 exact this
theorem jB:aE Tryz.prog 103:=⟨_,Tryz.func103,rfl,rfl⟩
theorem jU {f:Fun} (hb:FunB f):Spec Tryz.prog 103 [.bptr [] (dX f)] [] (bv (dec (IsFun f))) []:=by
 refine aD (E:=TE) 0 Tryz.func103 rfl (by simp [Tryz.f103]) fun X hn hX=>?_
 have hb1:=hb.src
 have hb2:=hb.tgt
 repeat'(first|refine wkQ ?_|refine Tw.f ?_ ?_|(refine kcQ bB ?_;refine ksQ (a:=bA (by first|omega|assumption|rfl) (by first|omega|assumption|rfl)) (c:=?_))|(refine kcQ xQ ?_;refine krQ (aAf ?_ ?_ ?_) ?_)|(refine fun(hc:(_:Bool)=_)=>?_;try simp only [hcS]at hc))
 all_goals try exact om_
 all_goals try exact hc.1
 all_goals try exact hc.2
 ·(first|refine aB ?_|refine aA ?_);simp only [go_sem,simprocAttr,Tryz.f103]
  exact congrArg bv (cV ⟨fun h=>⟨hc.1,hc.2,h⟩,fun h=>h.fits⟩)
 ·(first|refine aB ?_|refine aA ?_);simp only [go_sem,simprocAttr,Tryz.f103]
  exact fH fun h=>hc (And.intro h.src h.tgt)
theorem pQ:aE Tryz.prog 92:=⟨_,Tryz.func92,rfl,rfl⟩
theorem aBA {f0:Fun} {l:List Fun} (hl:l.length≤1048576) (hb:∀i,i<l.length→FunB (l.getD i f0)):Spec Tryz.prog 92 [.bor [] (vZ f0 l)] [] (bv (dec (∀i,i<l.length→IsFun (l.getD i f0)))) []:=by
 refine aD (E:=TE) 0 Tryz.func92 rfl (by simp [Tryz.f92]) fun X hn hX=>?_
 repeat'(first|refine wkQ ?_|refine Tw.f ?_ ?_|(refine fun(hc:(_:Bool)=_)=>?_;try simp only [hcS]at hc))
 all_goals try exact om_
 refine aG (G:={i:Nat//i≤l.length∧(∀j,j<i→IsFun (l.getD j f0))}) (fun⟨i,_⟩=>[(7,iv i)]) [5,6] (fun⟨i,_⟩=>[]) [] (fun zz=>l.length-zz.1) ⟨0,Nat.zero_le _,by omega⟩ ?_ ?_
 ·exact Imp.au hX
 rintro⟨i,hii,hwi⟩
 simp only [go_sem,simprocAttr]
 have h1:=hb i
 repeat'(first|refine wkQ ?_|refine Tw.f ?_ ?_|(refine kcQ jB ?_;refine krQ (jU ?_) ?_)|(refine fun(hc:(_:Bool)=_)=>?_;try simp only [hcS]at hc))
 all_goals try exact h1 (by omega)
 all_goals try exact om_
 ·(first|refine aB ?_|refine aA ?_);simp only [go_sem,simprocAttr,Tryz.f92]
  exact fH (fun s=>hc (s i (by omega)))
 ·refine⟨⟨i+1,by omega,(by exact cB hwi hc)⟩,by simp only;omega,Imp.ao hX⟩
 ·(first|refine aB ?_|refine aA ?_);simp only [go_sem,simprocAttr,Tryz.f92]
  exact xP (fun j hj=>hwi j (by omega))
theorem lN {f g:Fun} (hf:FunB f) (hg:FunB g):Spec Tryz.prog 92 [.bor [] (.sl 1 (.pt (dX f)) [.pt (dX f), .pt (dX g)])] [] (bv (dec (IsFun f∧IsFun g))) []:=by
 have:=aBA (f0:=f) (l:=[f,g]) (by simp) (two_all.2 ⟨hf,hg⟩)
 rw [cV two_all]at this
 exact this
theorem _root_.Go.Cats.Fun.eq {f g:Fun} (h1:f.src=g.src) (h2:f.tgt=g.tgt) (h3:f.obs=g.obs) (h4:f.ars=g.ars):f=g:=by cases f;cases g;simp_all
def aP1 (f:Fun):Nat:=aH3 f.src+aH3 f.tgt+f.obs.length+f.ars.length
structure FunL (f:Fun):Prop where
 src:CatL f.src
 tgt:CatL f.tgt
 obs:(f.obs.length:Int)≤9223372036854775807
 ars:(f.ars.length:Int)≤9223372036854775807
end Go.Eng
end
section
namespace Go.Eng
open Go Go.Proofs Go.Cats
attribute [go_sem] aJS aKA
theorem aAu:aE Tryz.prog 305:=⟨_,Tryz.func305,rfl,rfl⟩
theorem aRL {l:List Int} {n:Int} (hl:l.length≤1048576):Spec Tryz.prog 305 [.bor [] (ints l),iv n] [] (bv (dec (n∈l))) []:=by
 refine aD (E:=TE) 0 Tryz.func305 rfl (by simp [Tryz.f305]) fun X hn hX=>?_
 repeat'(first|refine wkQ ?_|refine Tw.f ?_ ?_|(refine fun(hc:(_:Bool)=_)=>?_;try simp only [hcS]at hc))
 refine aG (G:={i:Nat//i≤l.length∧(∀j,j<i→¬l.getD j 0=n)}) (fun⟨i,_⟩=>[(9,iv i)]) [1,7,8] (fun⟨i,_⟩=>[]) [] (fun zz=>l.length-zz.1) ⟨0,Nat.zero_le _,by omega⟩ ?_ ?_
 ·exact Imp.au hX
 rintro⟨i,hii,hwi⟩
 simp only [go_sem,simprocAttr]
 repeat'(first|refine wkQ ?_|refine Tw.f ?_ ?_|(refine fun(hc:(_:Bool)=_)=>?_;try simp only [hcS]at hc))
 all_goals try exact om_
 ·(first|refine aB ?_|refine aA ?_);simp only [go_sem,simprocAttr,Tryz.f305]
  exact xP (aOz (by omega) hc)
 ·refine⟨⟨i+1,by omega,(by exact cB hwi hc)⟩,by simp only;omega,Imp.ao hX⟩
 ·(first|refine aB ?_|refine aA ?_);simp only [go_sem,simprocAttr,Tryz.f305]
  exact fH (aLD hwi (by omega))
theorem oM:aE Tryz.prog 81:=⟨_,Tryz.func81,rfl,rfl⟩
theorem mL {x n:Int} (h0:0≤n) (h1:n≤64):Spec Tryz.prog 81 [iv x,iv n] [] (.sl 0) [(0,⟨1, .arr (ints (List.replicate n.toNat x))⟩)]:=by
 refine aD (E:=TE) 0 Tryz.func81 rfl (by simp [Tryz.f81]) fun X hn hX=>?_
 repeat'(first|refine wkQ ?_|refine Tw.f ?_ ?_|(refine fun(hc:(_:Bool)=_)=>?_;try simp only [hcS]at hc))
 all_goals try exact om_
 refine aG (G:={i:Nat//i≤n.toNat∧(True)}) (fun⟨i,_⟩=>[(11,iv i)]) [0,4,5,10] (fun⟨i,_⟩=>[(0,⟨1, .arr (ints (List.replicate i x++List.replicate (n.toNat-i) 0))⟩)]) [0] (fun zz=>n.toNat-zz.1) ⟨0,Nat.zero_le _,by first|trivial|simp⟩ ?_ ?_
 ·exact Imp.au hX
 rintro⟨i,hii,hwi⟩
 simp only [go_sem,simprocAttr]
 repeat'(first|refine wkQ ?_|refine Tw.f ?_ ?_|(refine fun(hc:(_:Bool)=_)=>?_;try simp only [hcS]at hc))
 all_goals try exact om_
 ·refine⟨⟨i+1,by omega,(by trivial)⟩,by simp only;omega,Imp.auto hX (by simp only [go_sem,simprocAttr,aMV x (show i<n.toNat by omega)])⟩
 ·(first|refine aB ?_|refine aA ?_);simp only [go_sem,simprocAttr,Tryz.f81]
  rw [show i=n.toNat by omega];simp
end Go.Eng
end
