/- Several texts in one: Q01, Q02. -/
import Derived.Test.YthgijhnmcglppaaGreatC07y
import Derived.Test.YthgijhnmcglppaaGreatKux
import Derived.Test.YthgijhnmcglppaaGreatKfx
set_option linter.unusedSimpArgs false
set_option linter.unusedVariables false
set_option maxRecDepth 100000
set_option maxHeartbeats 16000000
section
namespace Go.Eng
open Go Go.Proofs Go.Cats
attribute [local go_sem] List.set_cons_zero List.set_cons_succ
theorem aAy:aD Tryz.prog 340:=⟨_,Tryz.func340,rfl,rfl⟩
theorem aCJ {c d:Cat} {b:Bool} {P A:List Int} {F:List Fun} {M:Nat} {x y:Int} (hc:Shape c):Spec Tryz.prog 340 [.ptr 0 0,iv x,iv y] [(0,⟨1, .box [.bptr [] (aW c), .bptr [] (aW d), .sl 1, .sl 2, .v (.bool b), .fn 252 [.ptr 3 0, .ptr 4 0, .ptr 5 0, .ptr 6 0]]⟩),(1,⟨1, .arr (ints (P))⟩),(2,⟨1, .arr (ints (A))⟩),(3,⟨1, .bx [.dead] 0 (bM (F))⟩),(4,⟨1, .box [.bptr [] (aW c)]⟩),(5,⟨1, .box [.bptr [] (aW d)]⟩),(6,⟨1, .box [iv M]⟩)] (iv (aOf c b x y)) [(0,⟨1, .box [.bptr [] (aW c), .bptr [] (aW d), .sl 1, .sl 2, .v (.bool b), .fn 252 [.ptr 3 0, .ptr 4 0, .ptr 5 0, .ptr 6 0]]⟩),(1,⟨1, .arr (ints (P))⟩),(2,⟨1, .arr (ints (A))⟩),(3,⟨1, .bx [.dead] 0 (bM (F))⟩),(4,⟨1, .box [.bptr [] (aW c)]⟩),(5,⟨1, .box [.bptr [] (aW d)]⟩),(6,⟨1, .box [iv M]⟩)]:=by
 refine aC (E:=TE) 7 Tryz.func340 rfl (by simp [Tryz.f340]) fun X hn hX=>?_
 have m40:=hc.m40
 have tol:=hc.tol
 cases b
 ·repeat'(first|refine wkQ ?_|refine Tw.f ?_ ?_|(refine fun(hc:(_:Bool)=_)=>?_;try simp only [hcS]at hc))
  all_goals try exact om_
  ·(first|refine aB ?_|refine aA ?_);simp only [go_sem,simprocAttr,Tryz.f340]
   rfl
 ·repeat'(first|refine wkQ ?_|refine Tw.f ?_ ?_|(refine kcQ cG ?_;refine krQ (cS ?_ ?_) ?_)|(refine fun(hc:(_:Bool)=_)=>?_;try simp only [hcS]at hc))
  all_goals try exact om_
  ·(first|refine aB ?_|refine aA ?_);simp only [go_sem,simprocAttr,Tryz.f340]
   rfl
theorem jM:aD Tryz.prog 306:=⟨_,Tryz.func306,rfl,rfl⟩
theorem zJ {c d:Cat} {b:Bool} {P A:List Int} {F:List Fun} {M x:Nat} (hc:Shape c) (hd:Shape d) (hx:x<P.length):Spec Tryz.prog 306 [.ptr 0 0,iv x] [(0,⟨1, .box [.bptr [] (aW c), .bptr [] (aW d), .sl 1, .sl 2, .v (.bool b), .fn 252 [.ptr 3 0, .ptr 4 0, .ptr 5 0, .ptr 6 0]]⟩),(1,⟨1, .arr (ints (P))⟩),(2,⟨1, .arr (ints (A))⟩),(3,⟨1, .bx [.dead] 0 (bM (F))⟩),(4,⟨1, .box [.bptr [] (aW c)]⟩),(5,⟨1, .box [.bptr [] (aW d)]⟩),(6,⟨1, .box [iv M]⟩)] (bv (dec (pA c d b P x))) [(0,⟨1, .box [.bptr [] (aW c), .bptr [] (aW d), .sl 1, .sl 2, .v (.bool b), .fn 252 [.ptr 3 0, .ptr 4 0, .ptr 5 0, .ptr 6 0]]⟩),(1,⟨1, .arr (ints (P))⟩),(2,⟨1, .arr (ints (A))⟩),(3,⟨1, .bx [.dead] 0 (bM (F))⟩),(4,⟨1, .box [.bptr [] (aW c)]⟩),(5,⟨1, .box [.bptr [] (aW d)]⟩),(6,⟨1, .box [iv M]⟩)]:=by
 refine aC (E:=TE) 7 Tryz.func306 rfl (by simp [Tryz.f306]) fun X hn hX=>?_
 have m40:=hc.m40
 have tol:=hc.tol
 have n40:=hd.m40
 have nol:=hd.tol
 repeat'(first|refine wkQ ?_|refine Tw.f ?_ ?_|(refine fun(hc:(_:Bool)=_)=>?_;try simp only [hcS]at hc))
 all_goals try exact om_
 refine aG (G:={i:Nat//i≤c.fr.length∧(∀j,j<i→PlF c d b P x j)}) (fun⟨i,_⟩=>[(16,iv i)]) [0,1,15] (fun⟨i,_⟩=>[]) [] (fun zz=>c.fr.length-zz.1) ⟨0,Nat.zero_le _,by omega⟩ ?_ ?_
 ·exact Imp.au hX
 rintro⟨i,hii,hwi⟩
 simp only [go_sem,simprocAttr]
 rcases Nat.lt_or_ge i c.fr.length with hlt|hge
 ·have f1:=hc.frw i hlt
  have f2:=hc.tow i (by omega)
  have hneed:=aCJ (d:=d) (b:=b) (P:=P) (A:=A) (F:=F) (M:=M) (x:=c.fr.getD i 0) (y:=c.to.getD i 0) hc
  repeat'(first|refine wkQ ?_|refine Tw.f ?_ ?_|(refine kcQ cG ?_;refine krQ (cS ?_ ?_) ?_)|(refine kcQ aAy ?_;refine kwQ (hneed) [(0,0),(1,1),(2,2),(3,3),(4,4),(5,5),(6,6)] [] ?_)|(refine fun(hc:(_:Bool)=_)=>?_;try simp only [hcS]at hc))
  all_goals try exact om_
  all_goals try(refine⟨⟨i+1,by omega,(by exact bB hwi (fun h1 h2 h3=>by omega))⟩,by simp only;omega,Imp.ao hX⟩)
  all_goals((first|refine aB ?_|refine aA ?_);simp only [go_sem,simprocAttr,Tryz.f306];exact cD (fun e=>by have:=e i hlt (by omega) (by omega) (by omega);omega))
 ·repeat'(first|refine wkQ ?_|refine Tw.f ?_ ?_|(refine fun(hc:(_:Bool)=_)=>?_;try simp only [hcS]at hc))
  all_goals try exact om_
  ·(first|refine aB ?_|refine aA ?_);simp only [go_sem,simprocAttr,Tryz.f306]
   exact nD (fun j hj=>hwi j (by omega))
theorem aIU {A:List Int} {i:Nat} (hi:i<A.length) (h:∀j k:Nat,j<k→k<i→0≤A.getD j 0→A.getD j 0≠A.getD k 0) (k:∀j,j<i→0≤A.getD j 0→A.getD j 0≠A.getD i 0):∀j k:Nat,j<k→k<i+1→0≤A.getD j 0→A.getD j 0≠A.getD k 0:=fun j q hj hq h0=>by
 by_cases e:q=i
 ·subst e;exact k j hj h0
 ·exact h j q hj (by omega) h0
noncomputable def nO (A:List Int) (n i:Nat):List Bool:=(List.range n).map fun v:Nat=>dec (∃j,j<i∧A.getD j 0=(v:Int))
theorem aKD (A:List Int) (n i:Nat):(nO A n i).length=n:=by simp [nO]
theorem aHX (A:List Int) (n:Nat):nO A n 0=List.replicate n false:=by
 unfold nO
 have:(fun v:Nat=>dec (∃j,j<0∧A.getD j 0=(v:Int)))=fun _=>false:=by
  funext v;exact iZ (fun⟨j,h,_⟩=>by omega)
 rw [this,List.map_const',List.length_range]
theorem aNq {A:List Int} {n i:Nat} {v:Int} (h0:0≤v) (h1:v<n):(nO A n i).getD v.toNat false=dec (∃j,j<i∧A.getD j 0=v):=by
 unfold nO
 rw [List.getD_eq_getElem?_getD,List.getElem?_map,List.getElem?_range (by omega)]
 simp only [Option.map_some,Option.getD_some]
 rw [show((v.toNat:Nat):Int)=v by omega]
theorem aKE {A:List Int} {n i:Nat} (h0:0≤A.getD i 0) (h1:A.getD i 0<n):(nO A n i).set (A.getD i 0).toNat true=nO A n (i+1):=by
 refine List.ext_getElem? fun v=>?_
 rw [List.getElem?_set]
 unfold nO
 rw [List.getElem?_map,List.getElem?_map,List.length_map,List.length_range]
 by_cases hv:v<n
 ·rw [List.getElem?_range hv]
  by_cases e:(A.getD i 0).toNat=v
  ·rw [if_pos e,if_pos (by omega)]
   simp only [Option.map_some]
   rw [cV ⟨i,by omega,by omega⟩]
  ·rw [if_neg e]
   simp only [Option.map_some]
   refine congrArg some (bU ⟨fun⟨j,h2,h3⟩=>⟨j,by omega,h3⟩,fun⟨j,h2,h3⟩=>⟨j,?_,h3⟩⟩)
   by_cases q:j=i
   ·subst q;omega
   ·omega
 ·rw [List.getElem?_eq_none (by simpa using hv)]
  split
  ·omega
  ·rfl
theorem aHW {A:List Int} {n i:Nat} (h0:A.getD i 0<0):nO A n i=nO A n (i+1):=by
 unfold nO
 refine List.map_congr_left fun v _=>bU ⟨fun⟨j,h2,h3⟩=>⟨j,by omega,h3⟩,fun⟨j,h2,h3⟩=>⟨j,?_,h3⟩⟩
 by_cases q:j=i
 ·subst q;omega
 ·omega
theorem lD:aD Tryz.prog 339:=⟨_,Tryz.func339,rfl,rfl⟩
theorem vI {c d:Cat} {b:Bool} {P A:List Int} {F:List Fun} {M:Nat} (hd:Shape d) (hl:A.length≤1048576) (hA:∀j,j<A.length→A.getD j 0<d.fr.length):Spec Tryz.prog 339 [.ptr 0 0] [(0,⟨1, .box [.bptr [] (aW c), .bptr [] (aW d), .sl 1, .sl 2, .v (.bool b), .fn 252 [.ptr 3 0, .ptr 4 0, .ptr 5 0, .ptr 6 0]]⟩),(1,⟨1, .arr (ints (P))⟩),(2,⟨1, .arr (ints (A))⟩),(3,⟨1, .bx [.dead] 0 (bM (F))⟩),(4,⟨1, .box [.bptr [] (aW c)]⟩),(5,⟨1, .box [.bptr [] (aW d)]⟩),(6,⟨1, .box [iv M]⟩)] (bv (dec (NdI A))) [(0,⟨1, .box [.bptr [] (aW c), .bptr [] (aW d), .sl 1, .sl 2, .v (.bool b), .fn 252 [.ptr 3 0, .ptr 4 0, .ptr 5 0, .ptr 6 0]]⟩),(1,⟨1, .arr (ints (P))⟩),(2,⟨1, .arr (ints (A))⟩),(3,⟨1, .bx [.dead] 0 (bM (F))⟩),(4,⟨1, .box [.bptr [] (aW c)]⟩),(5,⟨1, .box [.bptr [] (aW d)]⟩),(6,⟨1, .box [iv M]⟩)]:=by
 refine aC (E:=TE) 7 Tryz.func339 rfl (by simp [Tryz.f339]) fun X hn hX=>?_
 have n40:=hd.m40
 have s0:=aHX A d.fr.length
 repeat'(first|refine wkQ ?_|refine Tw.f ?_ ?_|(refine kcQ aQ ?_;refine krQ (aS) ?_)|(refine fun(hc:(_:Bool)=_)=>?_;try simp only [hcS]at hc))
 all_goals try exact om_
 rw [←s0]
 refine aG (G:={i:Nat//i≤A.length∧(∀j k:Nat,j<k→k<i→0≤A.getD j 0→A.getD j 0≠A.getD k 0)}) (fun⟨i,_⟩=>[(17,iv i)]) [3,15,16] (fun⟨i,_⟩=>[(7,⟨1, .arr (nC (nO A d.fr.length i))⟩)]) [7] (fun zz=>A.length-zz.1) ⟨0,Nat.zero_le _,by omega⟩ ?_ ?_
 ·exact Imp.au hX
 rintro⟨i,hii,hwi⟩
 simp only [go_sem,simprocAttr]
 rcases Nat.lt_or_ge i A.length with hlt|hge
 ·have a1:=hA i hlt
  have sl:=aKD A d.fr.length i
  have sa:=fun h0:0≤A.getD i 0=>aNq (A:=A) (i:=i) h0 a1
  have ss:=fun h0:0≤A.getD i 0=>aKE (A:=A) (i:=i) h0 a1
  have sn:=fun h0:A.getD i 0<0=>aHW (A:=A) (n:=d.fr.length) (i:=i) h0
  repeat'(first|refine wkQ ?_|refine Tw.f ?_ ?_|(refine fun(hc:(_:Bool)=_)=>?_;try simp only [hcS]at hc))
  all_goals try exact om_
  ·(first|refine aB ?_|refine aA ?_);simp only [go_sem,simprocAttr,Tryz.f339]
   exact cD (fun e=>by have h0:0≤A.getD i 0:=(by assumption);rw [sa h0]at hc;obtain⟨j,h1,h2⟩:=dec_iff.1 hc;exact e j i h1 hlt (by omega) h2)
  ·refine⟨⟨i+1,by omega,(by exact aIU hlt hwi (fun j hj h1 e=>by have hs:(nO A d.fr.length i).getD (A.getD i 0).toNat false=false:=(by assumption);rw [sa hc]at hs;exact dec_not.1 hs ⟨j,hj,e⟩))⟩,by simp only;omega,Imp.auto hX (by simp only [go_sem,simprocAttr,ss hc])⟩
  ·refine⟨⟨i+1,by omega,(by exact aIU hlt hwi (fun j hj h1 e=>by omega))⟩,by simp only;omega,Imp.auto hX (by simp only [go_sem,simprocAttr,sn hc])⟩
 ·repeat'(first|refine wkQ ?_|refine Tw.f ?_ ?_|(refine fun(hc:(_:Bool)=_)=>?_;try simp only [hcS]at hc))
  all_goals try exact om_
  ·(first|refine aB ?_|refine aA ?_);simp only [go_sem,simprocAttr,Tryz.f339]
   exact nD (fun j k h1 h2 h3=>hwi j k h1 (by omega) h3)
theorem aHu {c d:Cat} {a b k:Nat} {B:List Int} {t u v:Fs} (ha:a<c.fr.length) (hb:b<c.fr.length) (h1:bS c d c.fr.length a (true,false,B)=t) (t1:t.1=true) (h2:gV c d a b t=u) (u1:u.1=true) (h3:stF c d a b u=v) (v1:v.1=false):fM c d (k+1) B=(false,v.2.2):=by
 subst h1 h2 h3
 have e1:gV c d a c.fr.length (bS c d c.fr.length a (true,false,B))=stF c d a b (gV c d a b (bS c d c.fr.length a (true,false,B))):=by
  rw [aEa (b:=b+1) (by rw [xF u1];exact v1) (by omega),xF u1]
 have e2:bS c d c.fr.length c.fr.length (true,false,B)=stF c d a b (gV c d a b (bS c d c.fr.length a (true,false,B))):=by
  rw [aB6 (a:=a+1) (by rw [rJ t1,e1];exact v1) (by omega),rJ t1,e1]
 rw [aDK (by rw [e2];exact v1),e2]
theorem aKV {c d:Cat} {b:Bool} {A C:List Int} (h:fM c d (c.fr.length+1) A=(false,C)):eL c d b A=(false,C):=by
 unfold eL;rw [h];rfl
theorem aKW {c d:Cat} {b:Bool} {A C:List Int} (h:fM c d (c.fr.length+1) A=(true,C)):eL c d b A=(!b||dec (NdI C),C):=by
 unfold eL;rw [h];rfl
attribute [local go_sem] aB7 aEb
theorem eY:aD Tryz.prog 303:=⟨_,Tryz.func303,rfl,rfl⟩
theorem oY {c d:Cat} {b:Bool} {P A:List Int} {F:List Fun} {M:Nat} (sc:Shape c) (sd:Shape d) (hA:VA c d P A):Spec Tryz.prog 303 [.ptr 0 0] [(0,⟨1, .box [.bptr [] (aW c), .bptr [] (aW d), .sl 1, .sl 2, .v (.bool b), .fn 252 [.ptr 3 0, .ptr 4 0, .ptr 5 0, .ptr 6 0]]⟩),(1,⟨1, .arr (ints (P))⟩),(2,⟨1, .arr (ints (A))⟩),(3,⟨1, .bx [.dead] 0 (bM (F))⟩),(4,⟨1, .box [.bptr [] (aW c)]⟩),(5,⟨1, .box [.bptr [] (aW d)]⟩),(6,⟨1, .box [iv M]⟩)] (bv (eL c d b A).1) [(0,⟨1, .box [.bptr [] (aW c), .bptr [] (aW d), .sl 1, .sl 2, .v (.bool b), .fn 252 [.ptr 3 0, .ptr 4 0, .ptr 5 0, .ptr 6 0]]⟩),(1,⟨1, .arr (ints (P))⟩),(2,⟨1, .arr (ints ((eL c d b A).2))⟩),(3,⟨1, .bx [.dead] 0 (bM (F))⟩),(4,⟨1, .box [.bptr [] (aW c)]⟩),(5,⟨1, .box [.bptr [] (aW d)]⟩),(6,⟨1, .box [iv M]⟩)]:=by
 refine aC (E:=TE) 7 Tryz.func303 rfl (by simp [Tryz.f303]) fun X hn hX=>?_
 have m40:=sc.m40
 have n40:=sd.m40
 have ccol:=sc.col
 have dcol:=sd.col
 have hu:=aN6 A
 have hl:=hA.len
 repeat'(first|refine wkQ ?_|refine Tw.f ?_ ?_|(refine fun(hc:(_:Bool)=_)=>?_;try simp only [hcS]at hc))
 all_goals try exact om_
 refine aG (G:={p:Nat×Bool×List Int//VA c d P p.2.2∧(p.2.1=true→uns p.2.2<p.1∧fM c d (c.fr.length+1) A=fM c d p.1 p.2.2)∧(p.2.1=false→fM c d (c.fr.length+1) A=(true,p.2.2))}) (fun p=>[(3, .v (.bool p.1.2.1))]) [0] (fun p=>[(2,⟨1, .arr (ints p.1.2.2)⟩)]) [2] (fun p=>if p.1.2.1=true then p.1.1 else 0) ⟨(c.fr.length+1,true,A),hA,fun _=>⟨by show uns A<c.fr.length+1;omega,rfl⟩,fun h=>by cases h⟩ ?_ ?_
 ·exact Imp.au hX
 rintro⟨⟨k,g,B⟩,hB,hg,hng⟩
 simp only at hB hg hng
 simp only [go_sem,simprocAttr]
 have hBl:=hB.len
 cases g
 ·have e:=aKW (b:=b) (hng rfl)
  rw [e]
  have hdis:=vI (c:=c) (d:=d) (b:=b) (P:=P) (A:=B) (F:=F) (M:=M) sd (by omega) fun j hj=>by have h1:=hB.rng.2 j hj;rw [aEV (by omega)]at h1;exact h1.2
  cases b
  ·repeat'(first|refine wkQ ?_|refine Tw.f ?_ ?_|(refine kcQ lD ?_;refine kwQ (hdis) [(0,0),(1,1),(2,2),(3,3),(4,4),(5,5),(6,6)] [] ?_)|(refine fun(hc:(_:Bool)=_)=>?_;try simp only [hcS]at hc))
   all_goals try exact om_
   ·(first|refine aB ?_|refine aA ?_);simp only [go_sem,simprocAttr,Tryz.f303]
    rfl
  ·repeat'(first|refine wkQ ?_|refine Tw.f ?_ ?_|(refine kcQ lD ?_;refine kwQ (hdis) [(0,0),(1,1),(2,2),(3,3),(4,4),(5,5),(6,6)] [] ?_)|(refine fun(hc:(_:Bool)=_)=>?_;try simp only [hcS]at hc))
   all_goals try exact om_
   ·(first|refine aB ?_|refine aA ?_);simp only [go_sem,simprocAttr,Tryz.f303]
    rfl
 ·obtain⟨hk,he⟩:=hg rfl
  obtain⟨k,rfl⟩:∃k',k=k'+1:=⟨k-1,by omega⟩
  repeat'(first|refine wkQ ?_|refine Tw.f ?_ ?_|(refine fun(hc:(_:Bool)=_)=>?_;try simp only [hcS]at hc))
  all_goals try exact om_
  refine aG (G:={a:Nat//a≤c.fr.length∧((bS c d c.fr.length a (true,false,B)).1=true)}) (fun⟨a,_⟩=>[(18,iv a),(3,bv (bS c d c.fr.length a (true,false,B)).2.1)]) [0,16,17] (fun⟨a,_⟩=>[(2,⟨1, .arr (ints (bS c d c.fr.length a (true,false,B)).2.2)⟩)]) [2] (fun zz=>c.fr.length-zz.1) ⟨0,Nat.zero_le _,by rfl⟩ ?_ ?_
  ·exact Imp.au hX
  rintro⟨a,hia,hwa⟩
  simp only [go_sem,simprocAttr]
  have fa:=rI (s:=(true,false,B)) sc sd hB rfl hia
  rcases Nat.lt_or_ge a c.fr.length with hlt|hge
  ·obtain⟨g1,A1,hs⟩:∃g1 A1,bS c d c.fr.length a (true,false,B)=(true,g1,A1):=⟨_,_,Prod.ext hwa rfl⟩
   rw [hs]at fa hwa⊢
   have fva:=fa.va
   simp only at fva
   have row:=(sc.coe a hlt).1
   repeat'(first|refine wkQ ?_|refine Tw.f ?_ ?_|(refine fun(hc:(_:Bool)=_)=>?_;try simp only [hcS]at hc))
   all_goals try exact om_
   refine aG (G:={q:Nat//q≤c.fr.length∧((gV c d a q (true,g1,A1)).1=true)}) (fun⟨q,_⟩=>[(25,iv q),(3,bv (gV c d a q (true,g1,A1)).2.1)]) [0,4,16,17,18,23,24] (fun⟨q,_⟩=>[(2,⟨1, .arr (ints (gV c d a q (true,g1,A1)).2.2)⟩)]) [2] (fun zz=>c.fr.length-zz.1) ⟨0,Nat.zero_le _,by rfl⟩ ?_ ?_
   ·exact Imp.au hX
   rintro⟨q,hiq,hwq⟩
   simp only [go_sem,simprocAttr]
   have fq:=uX (s:=(true,g1,A1)) sc sd fva hlt rfl hiq
   rcases Nat.lt_or_ge q c.fr.length with hlq|hgq
   ·obtain⟨g2,A2,hs2⟩:∃g2 A2,gV c d a q (true,g1,A1)=(true,g2,A2):=⟨_,_,Prod.ext hwq rfl⟩
    rw [hs2]at fq hwq⊢
    have fvq:=fq.va
    simp only at fvq
    have fl:=fvq.len
    have en:gV c d a (q+1) (true,g1,A1)=stF c d a q (true,g2,A2):=by rw [xF (by rw [hs2]),hs2]
    have ga:0≤A2.getD a 0→A2.getD a 0<d.fr.length:=fun h=>(fvq.hi a (by omega) h).1
    have gq:0≤A2.getD q 0→A2.getD q 0<d.fr.length:=fun h=>(fvq.hi q (by omega) h).1
    have gh:0≤(c.co.getD a []).getD q 0→((c.co.getD a []).getD q 0).toNat<c.fr.length:=fun h=>(fL sc hlt hlq h).2.1
    have gr:0≤A2.getD a 0→(d.co.getD (A2.getD a 0).toNat []).length=d.fr.length:=fun h=>(sd.coe _ (by have:=ga h;omega)).1
    repeat'(first|refine wkQ ?_|refine Tw.f ?_ ?_|(refine kcQ cL ?_;refine krQ (dA ?_ ?_ ?_ ?_) ?_)|(refine fun(hc:(_:Bool)=_)=>?_;try simp only [hcS]at hc))
    all_goals try exact om_
    ·have e1:=sJ (c:=c) (d:=d) (a:=a) (b:=q) (s:=(true,g2,A2)) (.inr (.inr hc))
     refine⟨⟨q+1,by omega,(by(rw [en,e1]))⟩,by simp only;omega,Imp.auto hX (by simp only [go_sem,simprocAttr,en,e1])⟩
    ·exact absurd (by rw [bV (by omega),if_pos rfl]) hc
    ·have h0:A2.getD ((c.co.getD a []).getD q 0).toNat 0<0:=by assumption
     have e1:=aFb (c:=c) (d:=d) (a:=a) (b:=q) (s:=(true,g2,A2)) (by rintro(h|h|h)<;>simp only [Cat.cp]at h<;>omega) h0
     refine⟨⟨q+1,by omega,(by(rw [en,e1]))⟩,by simp only;omega,Imp.auto hX (by simp only [go_sem,simprocAttr,en,e1])⟩
    ·have h0:0≤A2.getD ((c.co.getD a []).getD q 0).toNat 0:=by assumption
     have e1:=aBg (c:=c) (d:=d) (a:=a) (b:=q) (s:=(true,g2,A2)) (by rintro(h|h|h)<;>simp only [Cat.cp]at h<;>omega) (Int.not_lt.2 h0)
     have ff:=aHu (k:=k) hlt hlq hs rfl hs2 rfl e1 (decide_eq_false hc)
     have es:=aKV (b:=b) (he.trans ff)
     rw [es]
     (first|refine aB ?_|refine aA ?_);simp only [go_sem,simprocAttr,Tryz.f303]
    ·have h0:0≤A2.getD ((c.co.getD a []).getD q 0).toNat 0:=by assumption
     have e1:=aBg (c:=c) (d:=d) (a:=a) (b:=q) (s:=(true,g2,A2)) (by rintro(h|h|h)<;>simp only [Cat.cp]at h<;>omega) (Int.not_lt.2 h0)
     refine⟨⟨q+1,by omega,(by(rw [en,e1];exact decide_eq_true hc))⟩,by simp only;omega,Imp.auto hX (by simp only [go_sem,simprocAttr,en,e1])⟩
    ·have e1:=sJ (c:=c) (d:=d) (a:=a) (b:=q) (s:=(true,g2,A2)) (.inr (.inl hc))
     refine⟨⟨q+1,by omega,(by(rw [en,e1]))⟩,by simp only;omega,Imp.auto hX (by simp only [go_sem,simprocAttr,en,e1])⟩
    ·have e1:=sJ (c:=c) (d:=d) (a:=a) (b:=q) (s:=(true,g2,A2)) (.inl hc)
     refine⟨⟨q+1,by omega,(by(rw [en,e1]))⟩,by simp only;omega,Imp.auto hX (by simp only [go_sem,simprocAttr,en,e1])⟩
   ·have e9:bS c d c.fr.length (a+1) (true,false,B)=gV c d a c.fr.length (true,g1,A1):=by rw [rJ (by rw [hs]),hs]
    have eq:q=c.fr.length:=by omega
    subst eq
    repeat'(first|refine wkQ ?_|refine Tw.f ?_ ?_|(refine fun(hc:(_:Bool)=_)=>?_;try simp only [hcS]at hc))
    all_goals try exact om_
    ·refine⟨⟨a+1,by omega,(by(rw [e9];exact hwq))⟩,by simp only;omega,Imp.auto hX (by simp only [go_sem,simprocAttr,e9])⟩
  ·have ea:a=c.fr.length:=by omega
   subst ea
   obtain⟨g1,A1,hs⟩:∃g1 A1,bS c d c.fr.length c.fr.length (true,false,B)=(true,g1,A1):=⟨_,_,Prod.ext hwa rfl⟩
   rw [hs]at fa⊢
   have fva:=fa.va
   simp only at fva
   cases g1
   ·repeat'(first|refine wkQ ?_|refine Tw.f ?_ ?_|(refine fun(hc:(_:Bool)=_)=>?_;try simp only [hcS]at hc))
    all_goals try exact om_
    ·refine⟨⟨(k,false,A1),fva,fun h=>(by cases h),fun _=>by rw [he,aBT (by rw [hs]) (by rw [hs]),hs]⟩,by simp,Imp.ao hX⟩
   ·have fp:=fa.prog rfl
    simp only [Bool.false_eq_true,false_or]at fp
    repeat'(first|refine wkQ ?_|refine Tw.f ?_ ?_|(refine fun(hc:(_:Bool)=_)=>?_;try simp only [hcS]at hc))
    all_goals try exact om_
    ·refine⟨⟨(k,true,A1),fva,fun _=>⟨by show uns A1<k;omega,by rw [he,aDJ (by rw [hs]) (by rw [hs]),hs]⟩,fun h=>by cases h⟩,by simp,Imp.ao hX⟩
end Go.Eng
end
section
namespace Go.Eng
open Go Go.Proofs Go.Cats
theorem aUM {M:Nat} {o:List Fun} {q:Fun}:(stL M o q).1=decide (o.length+1≤M):=rfl
theorem aUN {M:Nat} {o:List Fun} {q:Fun}:(stL M o q).2=o++[q]:=rfl
theorem oV {l:List Int} {n k:Int} (hl:l.length≤1048576) (hk:idxOf l n=k):Spec Tryz.prog 123 [.bor [] (ints l),iv n] [] (iv k) []:=by
 subst hk
 exact jU hl
theorem aDx {M:Nat} {O:List Fun}:eat (stL M) O []=(true,O):=rfl
attribute [local go_sem] aDx tZ List.map_nil List.set_cons_zero List.set_cons_succ aUM aUN
theorem vQ:aD Tryz.prog 252:=⟨_,Tryz.func252,rfl,rfl⟩
theorem zE {c d:Cat} {p q:List Int} {F:List Fun} {M:Nat} (hM:M≤4096) (hF:F.length≤M) (bc:CatB c) (bd:CatB d) (hp:p.length≤1048576) (hq:q.length≤1048576):Spec Tryz.prog 252 [.sl 4, .sl 5, .ptr 0 0, .ptr 1 0, .ptr 2 0, .ptr 3 0] [(0,⟨1, .bx [.dead] 0 (bM F)⟩),(1,⟨1, .box [.bptr [] (aW c)]⟩),(2,⟨1, .box [.bptr [] (aW d)]⟩),(3,⟨1, .box [iv M]⟩),(4,⟨1, .arr (ints p)⟩),(5,⟨1, .arr (ints q)⟩)] (bv (stL M F ⟨c,d,p,q⟩).1) [(0,⟨1, .bx [.dead] 0 (bM (stL M F ⟨c,d,p,q⟩).2)⟩),(1,⟨1, .box [.bptr [] (aW c)]⟩),(2,⟨1, .box [.bptr [] (aW d)]⟩),(3,⟨1, .box [iv M]⟩),(4,⟨1, .arr (ints p)⟩),(5,⟨1, .arr (ints q)⟩)]:=by
 refine aC (E:=TE) 6 Tryz.func252 rfl (by simp [Tryz.f252]) fun X hn hX=>?_
 refine aHf ?_
 repeat'(first|(refine dM 1 (Imp.openB 0 0 _ _ rfl (Nat.le_refl 1) rfl rfl) ?_;simp only [go_sem,simprocAttr])|(with_reducible first|refine St.f ?_|refine V_c ?_|refine eDn ?_|refine And.intro ?_ ?_|refine aJ ?_ ?_)|((refine aV ?_);intro K hK)|((with_reducible refine So.f ?_);intro K hK;simp(contextual:=true)only [go_sem,simprocAttr])|((with_reducible refine hK _ ?_);clear hK K)|((with_reducible refine aE 84 ?_);refine EvCall.rr (pU ?_ ?_ ?_ ?_) qV ?_)|(refine fun(hc:(_:Bool)=_)=>?_;try simp only [hcS]at hc))
 all_goals try exact om_
 refine sR (Imp.closeB 0 18 0 _ _ rfl rfl rfl (by decide)) ?_
 (first|refine aB ?_|refine aA ?_);simp only [go_sem,simprocAttr,Tryz.f252]
 rw [show decide ((F.length:Int)+1≤(M:Int))=decide (F.length+1≤M) from by rw [decide_eq_decide];omega]
def _root_.Go.Cats.mkF (c d:Cat) (P Q:List Int):Fun:=⟨c,d,P,Q⟩
def _root_.Go.Cats.endA (r:Bool×List Fun) (A:List Int):List Int:=if r.1=true then A else(r.2.getLastD default).ars
theorem aLR {o:List Fun} {A:List Int}:endA (true,o) A=A:=rfl
theorem aJV {b:Bool} {o:List Fun} {c d:Cat} {P A:List Int}:endA (b,o++[mkF c d P A]) A=A:=by
 unfold endA
 cases b
 ·rw [if_neg (by simp),List.getLastD_concat];rfl
 ·rw [if_pos rfl]
theorem kZ:aD Tryz.prog 304:=⟨_,Tryz.func304,rfl,rfl⟩
theorem oX {c d:Cat} {b:Bool} {P:List Int} {M:Nat} (sc:IsCat c) (sd:IsCat d) (bc:CatB c) (bd:CatB d) (hM:M≤4096) (hP:XOK c d b P):∀(n:Nat) (F:List Fun) (A:List Int),NX c d b P A→uns A<n→F.length≤M→
  Spec Tryz.prog 304 [.ptr 0 0] [(0,⟨1, .box [.bptr [] (aW c), .bptr [] (aW d), .sl 1, .sl 2, .v (.bool b), .fn 252 [.ptr 3 0, .ptr 4 0, .ptr 5 0, .ptr 6 0]]⟩),(1,⟨1, .arr (ints (P))⟩),(2,⟨1, .arr (ints (A))⟩),(3,⟨1, .bx [.dead] 0 (bM (F))⟩),(4,⟨1, .box [.bptr [] (aW c)]⟩),(5,⟨1, .box [.bptr [] (aW d)]⟩),(6,⟨1, .box [iv M]⟩)] (bv (eat (stL M) F ((dO (WA c d b P) (sA c d) A).map (mkF c d P))).1)
   [(0,⟨1, .box [.bptr [] (aW c), .bptr [] (aW d), .sl 1, .sl 2, .v (.bool b), .fn 252 [.ptr 3 0, .ptr 4 0, .ptr 5 0, .ptr 6 0]]⟩),(1,⟨1, .arr (ints (P))⟩),(2,⟨1, .arr (ints (endA (eat (stL M) F ((dO (WA c d b P) (sA c d) A).map (mkF c d P))) A))⟩),(3,⟨1, .bx [.dead] 0 (bM ((eat (stL M) F ((dO (WA c d b P) (sA c d) A).map (mkF c d P))).2))⟩),(4,⟨1, .box [.bptr [] (aW c)]⟩),(5,⟨1, .box [.bptr [] (aW d)]⟩),(6,⟨1, .box [iv M]⟩)]
 |0,_,_,_,hk,_=>by omega
 |n+1,F,A,hA,hk,hF=>by
  have hAl:=hA.va.len
  have m40:=sc.toShape.m40
  have n40:=sd.toShape.m40
  have n8:=sc.toShape.ob8
  have tol:=sc.toShape.tol
  have nol:=sd.toShape.tol
  have hPl:=hP.len
  refine aC (E:=TE) 7 Tryz.func304 rfl (by simp [Tryz.f304]) fun X hn hX=>?_
  rcases aDP hA.va.rng with⟨hk1,hfull⟩|⟨i,hk1,hi,hi1,hi2⟩
  ·rw [hA.leaf hP hfull,List.map_cons,List.map_nil,aOv,show stL M F (mkF c d P A)=(decide (F.length+1≤M),F++[mkF c d P A]) from rfl,aJV]
   have hcl:=zE (F:=F) (p:=P) (q:=A) hM hF bc bd (by omega) (by omega)
   repeat'(first|(with_reducible first|refine St.f ?_|refine V_c ?_|refine eDn ?_|refine And.intro ?_ ?_|refine aJ ?_ ?_|refine aO ?_)|((refine aV ?_);intro K hK)|((with_reducible refine So.f ?_);intro K hK;simp(contextual:=true)only [go_sem,simprocAttr])|((with_reducible refine hK _ ?_);clear hK K)|((with_reducible refine aE 123 ?_);refine EvCall.rq (a:=(oV (k:=-1) (by first|omega|assumption|rfl) (by first|omega|assumption|rfl))) (b:=fW) (c:=?_);all_goals try simp only [go_sem,simprocAttr])|((with_reducible refine aE 252 ?_);refine EvCall.mr (hcl) vQ [(0,3),(1,4),(2,5),(3,6),(4,1),(5,2)] [] ?_)|(refine fun(hc:(_:Bool)=_)=>?_;try simp only [hcS]at hc))
   all_goals try exact om_
   ·(first|refine aB ?_|refine aA ?_);simp only [go_sem,simprocAttr,Tryz.f304]
    rfl
  ·rw [aBt hA.va hi hi1 hi2]
   have f1:=sc.toShape.frw i (by omega)
   have f2:=sc.toShape.tow i (by omega)
   obtain⟨L,hL⟩:∃L,d.hom (P.getD (c.fr.getD i 0).toNat 0) (P.getD (c.to.getD i 0).toNat 0)=L:=⟨_,rfl⟩
   have hLl:L.length≤40:=by rw [←hL];exact Nat.le_trans (Cat.hom_len _ _ _) n40
   rw [hL]
   repeat'(first|(with_reducible first|refine St.f ?_|refine V_c ?_|refine eDn ?_|refine And.intro ?_ ?_|refine aJ ?_ ?_|refine aO ?_)|((refine aV ?_);intro K hK)|((with_reducible refine So.f ?_);intro K hK;simp(contextual:=true)only [go_sem,simprocAttr])|((with_reducible refine hK _ ?_);clear hK K)|((with_reducible refine aE 123 ?_);refine EvCall.rq (a:=(oV (k:=(i:Int)) (by first|omega|assumption|rfl) (by first|omega|assumption|rfl))) (b:=fW) (c:=?_);all_goals try simp only [go_sem,simprocAttr])|((with_reducible refine aE 184 ?_);refine EvCall.rr (rV ?_) oI ?_)|((with_reducible refine aE 124 ?_);refine EvCall.rr (cS ?_ ?_) cG ?_)|(refine fun(hc:(_:Bool)=_)=>?_;try simp only [hcS]at hc))
   all_goals try exact om_
   rw [hL]
   refine aG (G:={u:Nat//u≤L.length∧((eat (stL M) F ((dQ (WA c d b P) (sA c d) A i (L.take u)).map (mkF c d P))).1=true)}) (fun⟨u,_⟩=>[(70,iv u)]) [0,3,4,68,69] (fun⟨u,_⟩=>[(2,⟨1, .arr (ints A)⟩),(3,⟨1, .bx [.dead] 0 (bM (eat (stL M) F ((dQ (WA c d b P) (sA c d) A i (L.take u)).map (mkF c d P))).2)⟩)]) [2,3] (fun zz=>L.length-zz.1) ⟨0,Nat.zero_le _,by rfl⟩ ?_ ?_
   ·exact Imp.au hX
   rintro⟨u,hiu,hwu⟩
   simp only [go_sem,simprocAttr]
   have hF2:=aFP hF hwu
   rcases Nat.lt_or_ge u L.length with hlt|hge
   ·have hv:L.getD u 0∈d.hom (P.getD (c.fr.getD i 0).toNat 0) (P.getD (c.to.getD i 0).toNat 0):=by rw [hL];exact aX hlt
    obtain⟨hT,hTu⟩:=hA.try_ sc.toShape sd.toShape hP hi hi1 hv
    obtain⟨F2,hF2e⟩:∃F2,eat (stL M) F ((dQ (WA c d b P) (sA c d) A i (L.take u)).map (mkF c d P))=(true,F2):=⟨_,Prod.ext hwu rfl⟩
    rw [hF2e]at hF2 hwu⊢
    simp only at hF2
    have hsp:=oY (b:=b) (P:=P) (F:=F2) (M:=M) sc.toShape sd.toShape (aA0 hA.va hi hv)
    obtain⟨ok,C,hTe⟩:∃ok C,eL c d b (A.set i (L.getD u 0))=(ok,C):=⟨_,_,rfl⟩
    rw [hTe]at hT hTu hsp
    have hCl:=hT.va.len
    simp only at hTu hCl hsp
    have hstep:=zR (W:=WA c d b P) (S:=sA c d) (A:=A) (i:=i) hlt
    cases ok with
    |false=>
     have hE:=hT.no rfl
     have hnext:eat (stL M) F ((dQ (WA c d b P) (sA c d) A i (L.take (u+1))).map (mkF c d P))=(true,F2):=by rw [hstep,hE,List.append_nil,hF2e]
     repeat'(first|(with_reducible first|refine St.f ?_|refine V_c ?_|refine eDn ?_|refine And.intro ?_ ?_|refine aJ ?_ ?_|refine aO ?_)|((refine aV ?_);intro K hK)|((with_reducible refine So.f ?_);intro K hK;simp(contextual:=true)only [go_sem,simprocAttr])|((with_reducible refine hK _ ?_);clear hK K)|((with_reducible refine aE 303 ?_);refine EvCall.mr (hsp) eY [(0,0),(1,1),(2,2),(3,3),(4,4),(5,5),(6,6)] [] ?_)|(refine aDN (i:=2) (j:=7) (A:=C) (B:=A) (by simp only [go_sem,simprocAttr];rfl) (by simp only [go_sem,simprocAttr]) (by simp only [go_sem,simprocAttr];rfl) (by simp only [go_sem,simprocAttr]) (by simp only [go_sem,simprocAttr];rfl) (by decide) (by omega) (by omega) ?_;simp only [go_sem,simprocAttr])|(refine fun(hc:(_:Bool)=_)=>?_;try simp only [hcS]at hc))
     all_goals try exact om_
     ·refine⟨⟨u+1,by omega,(by(rw [hnext]))⟩,by simp only;omega,Imp.auto hX (by simp only [go_sem,simprocAttr,hnext])⟩
    |true=>
     obtain⟨g1,g2⟩:=hT.yes rfl
     simp only at g1 g2
     have hrun:=oX sc sd bc bd hM hP n F2 C g1 (by omega) hF2
     obtain⟨ok2,F3,hr⟩:∃ok2 F3,eat (stL M) F2 ((dO (WA c d b P) (sA c d) C).map (mkF c d P))=(ok2,F3):=⟨_,_,rfl⟩
     rw [hr]at hrun
     simp only at hrun
     have hnext:eat (stL M) F ((dQ (WA c d b P) (sA c d) A i (L.take (u+1))).map (mkF c d P))=(ok2,F3):=by rw [hstep,g2,List.map_append,aHr (by rw [hF2e]),hF2e,hr]
     cases ok2 with
     |true=>
      rw [aLR]at hrun
      repeat'(first|(with_reducible first|refine St.f ?_|refine V_c ?_|refine eDn ?_|refine And.intro ?_ ?_|refine aJ ?_ ?_|refine aO ?_)|((refine aV ?_);intro K hK)|((with_reducible refine So.f ?_);intro K hK;simp(contextual:=true)only [go_sem,simprocAttr])|((with_reducible refine hK _ ?_);clear hK K)|((with_reducible refine aE 303 ?_);refine EvCall.mr (hsp) eY [(0,0),(1,1),(2,2),(3,3),(4,4),(5,5),(6,6)] [] ?_)|((with_reducible refine aE 304 ?_);refine EvCall.mr (hrun) kZ [(0,0),(1,1),(2,2),(3,3),(4,4),(5,5),(6,6)] [] ?_)|(refine aDN (i:=2) (j:=7) (A:=C) (B:=A) (by simp only [go_sem,simprocAttr];rfl) (by simp only [go_sem,simprocAttr]) (by simp only [go_sem,simprocAttr];rfl) (by simp only [go_sem,simprocAttr]) (by simp only [go_sem,simprocAttr];rfl) (by decide) (by omega) (by omega) ?_;simp only [go_sem,simprocAttr])|(refine fun(hc:(_:Bool)=_)=>?_;try simp only [hcS]at hc))
      all_goals try exact om_
      ·refine⟨⟨u+1,by omega,(by(rw [hnext]))⟩,by simp only;omega,Imp.auto hX (by simp only [go_sem,simprocAttr,hnext])⟩
     |false=>
      obtain⟨R,hR⟩:=aEu (W:=WA c d b P) (S:=sA c d) (A:=A) (i:=i) hlt
      have hall:eat (stL M) F ((dQ (WA c d b P) (sA c d) A i L).map (mkF c d P))=(false,F3):=by rw [hR,List.map_append,aBL (by rw [hnext]),hnext]
      rw [hall]
      repeat'(first|(with_reducible first|refine St.f ?_|refine V_c ?_|refine eDn ?_|refine And.intro ?_ ?_|refine aJ ?_ ?_|refine aO ?_)|((refine aV ?_);intro K hK)|((with_reducible refine So.f ?_);intro K hK;simp(contextual:=true)only [go_sem,simprocAttr])|((with_reducible refine hK _ ?_);clear hK K)|((with_reducible refine aE 303 ?_);refine EvCall.mr (hsp) eY [(0,0),(1,1),(2,2),(3,3),(4,4),(5,5),(6,6)] [] ?_)|((with_reducible refine aE 304 ?_);refine EvCall.mr (hrun) kZ [(0,0),(1,1),(2,2),(3,3),(4,4),(5,5),(6,6)] [] ?_)|(refine fun(hc:(_:Bool)=_)=>?_;try simp only [hcS]at hc))
      all_goals try exact om_
      ·(first|refine aB ?_|refine aA ?_);simp only [go_sem,simprocAttr,Tryz.f304]
       rfl
   ·rw [List.take_of_length_le hge]at hwu⊢
    obtain⟨F2,hF2e⟩:∃F2,eat (stL M) F ((dQ (WA c d b P) (sA c d) A i L).map (mkF c d P))=(true,F2):=⟨_,Prod.ext hwu rfl⟩
    rw [hF2e]
    repeat'(first|(with_reducible first|refine St.f ?_|refine V_c ?_|refine eDn ?_|refine And.intro ?_ ?_|refine aJ ?_ ?_|refine aO ?_)|((refine aV ?_);intro K hK)|((with_reducible refine So.f ?_);intro K hK;simp(contextual:=true)only [go_sem,simprocAttr])|((with_reducible refine hK _ ?_);clear hK K)|(refine fun(hc:(_:Bool)=_)=>?_;try simp only [hcS]at hc))
    all_goals try exact om_
    ·(first|refine aB ?_|refine aA ?_);simp only [go_sem,simprocAttr,Tryz.f304]
     rfl
end Go.Eng
end
