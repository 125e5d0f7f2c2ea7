/- Several texts in one: R02, R03. -/
import Derived.Test.YthgijhnmcglppaaGreatR01q
set_option linter.unusedSimpArgs false
set_option linter.unusedVariables false
set_option maxRecDepth 100000
set_option maxHeartbeats 16000000
section
namespace Go.Eng
open Go Go.Proofs Go.Cats
def stD (f g:Fun) (b:Bool) (m:Int) (F:List (List Int)):List Dt:=dX f++(dX g++[.v (.bool b), .v (.int .i64 m),aF F])
section
variable {f g:Fun} {b:Bool} {m:Int} {F:List (List Int)}
@[go_sem] theorem bAA:(stD f g b m F).take 12=dX f:=rfl
@[go_sem] theorem bAB:((stD f g b m F).drop 12).take 12=dX g:=rfl
@[go_sem] theorem bAC:((stD f g b m F).drop 24).take 1=[.v (.bool b)]:=rfl
@[go_sem] theorem bAD:((stD f g b m F).drop 25).take 1=[.v (.int .i64 m)]:=rfl
@[go_sem] theorem bAE:((stD f g b m F).drop 26).take 1=[aF F]:=rfl
@[go_sem] theorem bAF:(stD f g b m F).length=27:=rfl
end
noncomputable def aJi (f g:Fun) (B:List Int) (x a:Nat):Bool:=dec (∀c,c<a→aES f g B x c)
theorem aJk (f g:Fun) (B:List Int) (x:Nat):aJi f g B x 0=true:=bH fun c hc=>absurd hc (Nat.not_lt_zero c)
theorem aJj {f g:Fun} {B:List Int} {x a:Nat} (h:aJi f g B x a=true):aJi f g B x (a+1)=dec (aES f g B x a):=cV ⟨fun q=>q a (Nat.lt_succ_self a),fun q c hc=>by
 by_cases e:c=a
 ·subst e;exact q
 ·exact dec_iff.1 h c (by omega)⟩
attribute [local go_sem] List.set_cons_zero List.set_cons_succ aJk aJK
theorem aCn:aE Tryz.prog 361:=⟨_,Tryz.func361,rfl,rfl⟩
theorem aEz {f g:Fun} {A:List Int} {a:Nat} (h:Par f g) (ha:a<f.src.fr.length) (hA:A.length=f.src.ob.toNat) (c1:0≤A.getD (f.src.fr.getD a 0).toNat 0∧A.getD (f.src.fr.getD a 0).toNat 0<f.tgt.fr.length) (c2:0≤A.getD (f.src.to.getD a 0).toNat 0∧A.getD (f.src.to.getD a 0).toNat 0<f.tgt.fr.length):Spec Tryz.prog 361 [qS f,qS g, .bor [] (ints A),iv a] [] (bv (dec (SqP f g A a))) []:=by
 refine aD (E:=TE) 0 Tryz.func361 rfl (by simp [Tryz.f361]) fun X hn hX=>?_
 have s1:=h.src.toShape.frw a ha
 have s0:=h.src.toShape.tol
 have s2:=h.src.toShape.tow a (by omega)
 have l1:=h.fit.arl
 have l2:=h.fit2.arl
 rw [h.es]at l2
 have w1:=h.fit.arw a (by omega)
 have w2:=h.fit2.arw a (by omega)
 rw [h.et]at w2
 have r1:=nT h.tgt.toShape w1.1 w1.2
 have r2:=nT h.tgt.toShape c1.1 c1.2
 repeat'(first|refine wkQ ?_|refine Tw.f ?_ ?_|(refine fun(hc:(_:Bool)=_)=>?_;try simp only [hcS]at hc))
 all_goals try exact om_
 ·(first|refine aB ?_|refine aA ?_);simp only [go_sem,simprocAttr,Tryz.f361]
  rw [←mU];rfl
theorem qK:aE Tryz.prog 351:=⟨_,Tryz.func351,rfl,rfl⟩
theorem aAl {f g:Fun} {A:List Int} {m:Int} {x:Nat} {F:List (List Int)} (h:Par f g) (hA:A.length=f.src.ob.toNat) (hr:∀j:Nat,j<A.length→A.getD j 0<f.tgt.fr.length) (hx:x<f.src.ob.toNat):
  Spec Tryz.prog 351 [.bptr [] (stD f g false m F), .bor [] (ints A),iv x] [] (.sl 0) [(0,⟨1, .arr (ints (nCh f g A x))⟩)]:=by
 have o0:=h.src.toShape.ob0
 have o8:=h.src.toShape.ob8
 have m40:=h.tgt.toShape.m40
 have tol:=h.tgt.toShape.tol
 have sol:=h.src.toShape.tol
 have sm40:=h.src.toShape.m40
 have obl:=h.fit.obl
 have arl:=h.fit.arl
 have obl2:=h.fit2.obl
 rw [h.es]at obl2
 have hl:=f.tgt.homI_len (f.obs.getD x 0) (g.obs.getD x 0) f.tgt.fr.length
 have hl:(f.tgt.hom (f.obs.getD x 0) (g.obs.getD x 0)).length≤f.tgt.fr.length:=hl
 have hyes:=fun k=>aL9 (f:=f) (g:=g) (A:=A) (x:=x) (k:=k)
 have hno:=fun k=>aON (f:=f) (g:=g) (A:=A) (x:=x) (k:=k)
 have hall:=aL7 (f:=f) (g:=g) (A:=A) (x:=x)
 have hlen:=fun k=>aL8 (f:=f) (g:=g) (A:=A) (x:=x) (k:=k)
 have hmem:∀k,k<(f.tgt.hom (f.obs.getD x 0) (g.obs.getD x 0)).length→0≤(f.tgt.hom (f.obs.getD x 0) (g.obs.getD x 0)).getD k 0∧(f.tgt.hom (f.obs.getD x 0) (g.obs.getD x 0)).getD k 0<f.tgt.fr.length:=fun k hk=>by
  have:=Cat.mem_hom.1 (bI (d:=(0:Int)) hk)
  exact⟨this.1,this.2.1⟩
 rw [←hall]
 obtain⟨C,hC⟩:∃C,f.tgt.hom (f.obs.getD x 0) (g.obs.getD x 0)=C:=⟨_,rfl⟩
 rw [hC]at hl hyes hno hmem⊢
 refine aD (E:=TE) 0 Tryz.func351 rfl (by simp [Tryz.f351]) fun X hn hX=>?_
 repeat'(first|(rw [hC])|(with_reducible first|refine St.f ?_|refine V_c ?_|refine eDn ?_|refine And.intro ?_ ?_|refine aH ?_ ?_|refine aK ?_)|((refine aN ?_);intro K hK)|((with_reducible refine So.f ?_);intro K hK;simp(contextual:=true)only [go_sem,simprocAttr])|((with_reducible refine hK _ ?_);clear hK K)|((with_reducible refine aC 116 ?_);refine EvCall.rr (yN (c:=f.tgt) ?_ ?_) tT ?_)|(refine fun(hc:(_:Bool)=_)=>?_;try simp only [hcS]at hc))
 all_goals try exact om_
 refine aG (G:={k:Nat//k≤C.length∧(True)}) (fun⟨k,_⟩=>[(11,iv k),(10, .sl 3),(9, .sl 2),(8, .ptr 1 0),(7, .ptr 0 0)]) [0,1,2,6] (fun⟨k,_⟩=>[(3,⟨1, .arr (ints (aCu f g A x k))⟩)]) [3] (fun zz=>C.length-zz.1) ⟨0,Nat.zero_le _,by first|trivial|simp⟩ ?_ ?_
 ·exact Imp.au hX
 rintro⟨k,hik,hwk⟩
 simp only [go_sem,simprocAttr]
 have hlk:=hlen k
 rcases Nat.lt_or_ge k C.length with hlt|hge
 ·have hm:=hmem k hlt
  have hy:=hyes k hlt
  have hn1:=hno k hlt
  obtain⟨B,hB⟩:∃B,A.set x (C.getD k 0)=B:=⟨_,rfl⟩
  have hBl:B.length=f.src.ob.toNat:=by rw [←hB,List.length_set];exact hA
  have hBr:∀j:Nat,j<B.length→B.getD j 0<f.tgt.fr.length:=fun j hj=>by
   rw [←hB,aV (by omega)]
   split
   ·exact hm.2
   ·exact hr j (by omega)
  repeat'(first|(rw [hB])|(with_reducible first|refine St.f ?_|refine V_c ?_|refine eDn ?_|refine And.intro ?_ ?_|refine aH ?_ ?_|refine aK ?_)|((refine aN ?_);intro K hK)|((with_reducible refine So.f ?_);intro K hK;simp(contextual:=true)only [go_sem,simprocAttr])|((with_reducible refine hK _ ?_);clear hK K)|((with_reducible refine aC 194 ?_);refine EvCall.rr (cP ?_) bZ ?_)|(refine fun(hc:(_:Bool)=_)=>?_;try simp only [hcS]at hc))
  all_goals try exact om_
  refine aG (G:={a:Nat//a≤f.src.fr.length∧(True)}) (fun⟨a,_⟩=>[(14,iv a),(13, .v (.bool (aJi f g B x a))),(12, .sl 4),(11,iv k),(10, .sl 3),(9, .sl 2),(8, .ptr 1 0),(7, .ptr 0 0)]) [0,1,2,6,57,58,59,60,61,62,63] (fun⟨a,_⟩=>[(4,⟨1, .arr (ints B)⟩)]) [4] (fun zz=>f.src.fr.length-zz.1) ⟨0,Nat.zero_le _,by first|trivial|simp⟩ ?_ ?_
  ·exact Imp.au hX
  rintro⟨a,hia,hwa⟩
  simp only [go_sem,simprocAttr]
  have hFN:aER f g A x (C.getD k 0)↔∀c,c<f.src.fr.length→aES f g B x c:=by unfold aER;rw [hB]
  rcases Nat.lt_or_ge a f.src.fr.length with hla|hga
  ·cases hf:aJi f g B x a with
   |false=>
    have e1:=hn1 fun q=>dec_not.1 hf fun c hc=>hFN.1 q c (by omega)
    repeat'(first|refine wkQ ?_|refine Tw.f ?_ ?_|(refine fun(hc:(_:Bool)=_)=>?_;try simp only [hcS]at hc))
    all_goals try exact om_
    ·refine⟨⟨k+1,by omega,(by(trivial))⟩,by simp only;omega,Imp.auto hX (by simp only [go_sem,simprocAttr,e1])⟩
   |true=>
    have hs:=aJj hf
    have f1:=h.src.toShape.frw a hla
    have f2:=h.src.toShape.tow a (by omega)
    have fo1:¬f.src.fr.getD a 0=x→¬f.src.to.getD a 0=x→dec (aES f g B x a)=true:=fun p q=>bH (.inl ⟨p,q⟩)
    have fo2:B.getD (f.src.fr.getD a 0).toNat 0<0→dec (aES f g B x a)=true:=fun p=>bH (.inr (.inl p))
    have fo3:B.getD (f.src.to.getD a 0).toNat 0<0→dec (aES f g B x a)=true:=fun p=>bH (.inr (.inr (.inl p)))
    have fo4:(f.src.fr.getD a 0=x∨f.src.to.getD a 0=x)→0≤B.getD (f.src.fr.getD a 0).toNat 0→0≤B.getD (f.src.to.getD a 0).toNat 0→dec (aES f g B x a)=dec (SqP f g B a):=fun p q r=>cV ⟨fun o=>by
     rcases o with o|o|o|o
     ·exact absurd p (fun p=>by omega)
     ·omega
     ·omega
     ·exact o,fun o=> .inr (.inr (.inr o))⟩
    have hsq:0≤B.getD (f.src.fr.getD a 0).toNat 0→0≤B.getD (f.src.to.getD a 0).toNat 0→Spec Tryz.prog 361 [qS f,qS g, .bor [] (ints B),iv a] [] (bv (dec (SqP f g B a))) []:=fun p q=>
     aEz h hla hBl ⟨p,hBr _ (by omega)⟩ ⟨q,hBr _ (by omega)⟩
    repeat'(first|refine wkQ ?_|refine Tw.f ?_ ?_|(refine kcQ aCn ?_;refine kwQ ((hsq (by assumption) (by assumption))) [] [4] ?_)|(refine fun(hc:(_:Bool)=_)=>?_;try simp only [hcS]at hc))
    all_goals try exact om_
    all_goals first
     |(have e1:=fo1 (by assumption) (by assumption);refine⟨⟨a+1,by omega,trivial⟩,by simp only;omega,Imp.auto hX (by simp only [go_sem,simprocAttr,hs,e1])⟩)
     |(have e1:=fo4 (by omega) (by assumption) (by assumption);refine⟨⟨a+1,by omega,trivial⟩,by simp only;omega,Imp.auto hX (by simp only [go_sem,simprocAttr,hs,e1])⟩)
     |(have e1:=fo2 (by assumption);refine⟨⟨a+1,by omega,trivial⟩,by simp only;omega,Imp.auto hX (by simp only [go_sem,simprocAttr,hs,e1])⟩)
     |(have e1:=fo3 (by assumption);refine⟨⟨a+1,by omega,trivial⟩,by simp only;omega,Imp.auto hX (by simp only [go_sem,simprocAttr,hs,e1])⟩)
  ·have ea:a=f.src.fr.length:=by omega
   subst ea
   cases hf:aJi f g B x f.src.fr.length with
   |false=>
    have e1:=hn1 fun q=>dec_not.1 hf (hFN.1 q)
    repeat'(first|refine wkQ ?_|refine Tw.f ?_ ?_|(refine fun(hc:(_:Bool)=_)=>?_;try simp only [hcS]at hc))
    all_goals try exact om_
    ·refine⟨⟨k+1,by omega,(by(trivial))⟩,by simp only;omega,Imp.auto hX (by simp only [go_sem,simprocAttr,e1])⟩
   |true=>
    have e1:=hy (hFN.2 (dec_iff.1 hf))
    repeat'(first|refine wkQ ?_|refine Tw.f ?_ ?_|(refine fun(hc:(_:Bool)=_)=>?_;try simp only [hcS]at hc))
    all_goals try exact om_
    ·refine⟨⟨k+1,by omega,(by(trivial))⟩,by simp only;omega,Imp.auto hX (by simp only [go_sem,simprocAttr,e1])⟩
 ·have ek:k=C.length:=by omega
  subst ek
  repeat'(first|refine wkQ ?_|refine Tw.f ?_ ?_|(refine fun(hc:(_:Bool)=_)=>?_;try simp only [hcS]at hc))
  all_goals try exact om_
  ·(first|refine aB ?_|refine aA ?_);simp only [go_sem,simprocAttr,Tryz.f351]
end Go.Eng
end
section
namespace Go.Eng
open Go Go.Proofs Go.Cats
theorem aGw (n i:Nat):((n:Int)-1-(i:Int)).toNat=n-1-i:=by omega
theorem aMl:pI none= -1:=rfl
theorem aMm (x:Nat):pI (some x)=x:=rfl
theorem aI2 (A:List Int):bkL A 0=none:=rfl
attribute [local go_sem] aGw aMl aMm aI2 List.set_cons_succ List.set_cons_zero
theorem xU:aE Tryz.prog 330:=⟨_,Tryz.func330,rfl,rfl⟩
theorem uY {f g:Fun} {m:Nat} (h:Par f g) (hm:m≤4096):∀(n:Nat) (F:List (List Int)) (A:List Int),A.length=f.src.ob.toNat→(∀j:Nat,j<A.length→A.getD j 0<f.tgt.fr.length)→uns A<n→F.length<m→
  Spec Tryz.prog 330 [.ptr 0 0, .sl 1] [(0,⟨1, .bx [iv f.src.ob, .bor [] (ints f.src.fr), .bor [] (ints f.src.to), .bor [] (ints f.src.id), .bor [] (aF f.src.co),iv f.tgt.ob, .bor [] (ints f.tgt.fr), .bor [] (ints f.tgt.to), .bor [] (ints f.tgt.id), .bor [] (aF f.tgt.co), .bor [] (ints f.obs), .bor [] (ints f.ars),iv g.src.ob, .bor [] (ints g.src.fr), .bor [] (ints g.src.to), .bor [] (ints g.src.id), .bor [] (aF g.src.co),iv g.tgt.ob, .bor [] (ints g.tgt.fr), .bor [] (ints g.tgt.to), .bor [] (ints g.tgt.id), .bor [] (aF g.tgt.co), .bor [] (ints g.obs), .bor [] (ints g.ars),bv false,iv m, .dead] 26 (aF (F))⟩),(1,⟨1, .arr (ints A)⟩)] (.tup []) [(0,⟨1, .bx [iv f.src.ob, .bor [] (ints f.src.fr), .bor [] (ints f.src.to), .bor [] (ints f.src.id), .bor [] (aF f.src.co),iv f.tgt.ob, .bor [] (ints f.tgt.fr), .bor [] (ints f.tgt.to), .bor [] (ints f.tgt.id), .bor [] (aF f.tgt.co), .bor [] (ints f.obs), .bor [] (ints f.ars),iv g.src.ob, .bor [] (ints g.src.fr), .bor [] (ints g.src.to), .bor [] (ints g.src.id), .bor [] (aF g.src.co),iv g.tgt.ob, .bor [] (ints g.tgt.fr), .bor [] (ints g.tgt.to), .bor [] (ints g.tgt.id), .bor [] (aF g.tgt.co), .bor [] (ints g.obs), .bor [] (ints g.ars),bv false,iv m, .dead] 26 (aF ((F++goC (nCh f g) n A).take m))⟩),(1,⟨1, .arr (ints A)⟩)]
 |0,_,_,_,_,hk,_=>by omega
 |n+1,F,A,hA,hr,hk,hF=>by
  have hw:=aL6 (f:=f) (g:=g) h.src.toShape
  have o8:=h.src.toShape.ob8
  have m40:=h.tgt.toShape.m40
  have hch:∀x,x<f.src.ob.toNat→∀F':List (List Int),Spec Tryz.prog 351 [.bptr [] (stD f g false m F'), .bor [] (ints A),iv x] [] (.sl 0) [(0,⟨1, .arr (ints (nCh f g A x))⟩)]:=fun x hx F'=>aAl h hA hr hx
  have hSN:A.length=(sN f).length:=by rw [kE];exact hA
  refine aD (E:=TE) 2 Tryz.func330 rfl (by simp [Tryz.f330]) fun X hn hX=>?_
  refine aGG ?_
  cases hf:fqL A with
  |none=>
   repeat'(first|(refine bU 0 (Imp.openB 0 26 _ _ rfl (Nat.le_refl 1) rfl rfl) ?_;simp only [go_sem,simprocAttr])|(with_reducible first|refine St.f ?_|refine V_c ?_|refine eDn ?_|refine And.intro ?_ ?_|refine aH ?_ ?_|refine aK ?_)|((refine aN ?_);intro K hK)|((with_reducible refine So.f ?_);intro K hK;simp(contextual:=true)only [go_sem,simprocAttr])|((with_reducible refine hK _ ?_);clear hK K)|(refine fun(hc:(_:Bool)=_)=>?_;try simp only [hcS]at hc))
   all_goals try exact om_
   refine aG (G:={i:Nat//i≤A.length∧(True)}) (fun⟨i,_⟩=>[(5,iv ((A.length:Int)-1-i)),(4,iv (pI (bkL A i)))]) [0,1] (fun⟨i,_⟩=>[]) [] (fun zz=>A.length-zz.1) ⟨0,Nat.zero_le _,by first|trivial|simp⟩ ?_ ?_
   ·exact Imp.au hX
   rintro⟨i,hii,hwi⟩
   simp only [go_sem,simprocAttr]
   have r3:=fqL_none.1 hf (A.length-1-i)
   repeat'(first|(refine bU 7 (Imp.refl _ _) ?_;rw [show bkL A i=none from by rw [show i=A.length by omega,aH0];exact hf])|(with_reducible first|refine St.f ?_|refine V_c ?_|refine eDn ?_|refine And.intro ?_ ?_|refine aH ?_ ?_|refine aK ?_)|((refine aN ?_);intro K hK)|((with_reducible refine So.f ?_);intro K hK;simp(contextual:=true)only [go_sem,simprocAttr])|((with_reducible refine hK _ ?_);clear hK K)|((with_reducible refine aC 194 ?_);refine EvCall.rr (cP ?_) bZ ?_)|(refine fun(hc:(_:Bool)=_)=>?_;try simp only [hcS]at hc))
   all_goals try exact om_
   ·have e1:=aEV (A:=A) (i:=i) (by assumption)
    have e2:(A.length:Int)-1-((i:Int)+1)=A.length-1-(i:Int)-1:=by omega
    refine⟨⟨i+1,by omega,(by trivial)⟩,by simp only;omega,Imp.auto hX (by simp only [go_sem,simprocAttr,e1,e2])⟩
   ·refine sE (Imp.closeB 0 5 26 _ _ rfl rfl rfl (by decide)) ?_
    rw [aBe hf,List.take_of_length_le (show(F++[A]).length≤m by simp;omega)]
    (first|refine aB ?_|refine aA ?_);simp only [go_sem,simprocAttr,Tryz.f330]
  |some x=>
   obtain⟨p1,p2,p3⟩:=vY hf
   have hcut:∀k,k<A.length→A.getD k 0= -1→(nCh f g A k).length=0→(F++goC (nCh f g) (n+1) A).take m=F:=fun k hk h1 h0=>by
    rw [aIi hw (n+1) A hSN k hk h1 h0,List.append_nil,List.take_of_length_le (by omega)]
   have hdf:goC (nCh f g) (n+1) A=sY (nCh f g) n x A (nCh f g A x):=wA hf
   have lc:=aOM f g A x
   have hcg:∀k,k<(nCh f g A x).length→0≤(nCh f g A x).getD k 0∧(nCh f g A x).getD k 0<f.tgt.fr.length:=fun k hk=>by
    have:=Cat.mem_hom.1 (mem_nCh.1 (bI (d:=(0:Int)) hk)).1
    exact⟨this.1,this.2.1⟩
   have hcx:=hch x (by omega) F
   obtain⟨C,hC⟩:∃C,nCh f g A x=C:=⟨_,rfl⟩
   rw [hC]at lc hcg hdf hcx
   obtain⟨fd,hfd⟩:∃fd:Nat→List (List Int),∀k,fd k=(F++sY (nCh f g) n x A (C.take k)).take m:=⟨_,fun _=>rfl⟩
   have fd0:fd 0=F:=by rw [hfd,aIZ,List.append_nil,List.take_of_length_le (by omega)]
   have fdl:∀k,(fd k).length≤m:=fun k=>by rw [hfd];simp only [List.length_take];omega
   have fdE:∀k,C.length≤k→fd k=(F++goC (nCh f g) (n+1) A).take m:=fun k hk=>by rw [hfd,hdf,List.take_of_length_le hk]
   have fdS:∀k,¬(fd k).length<m→fd k=(F++goC (nCh f g) (n+1) A).take m:=fun k hk=>by
    have e1:sY (nCh f g) n x A C=sY (nCh f g) n x A (C.take k)++sY (nCh f g) n x A (C.drop k):=aGK
    rw [hfd]at hk
    rw [hdf,e1,←List.append_assoc,aTE _ _ hk,hfd]
   repeat'(first|(refine bU 0 (Imp.openB 0 26 _ _ rfl (Nat.le_refl 1) rfl rfl) ?_;simp only [go_sem,simprocAttr])|(with_reducible first|refine St.f ?_|refine V_c ?_|refine eDn ?_|refine And.intro ?_ ?_|refine aH ?_ ?_|refine aK ?_)|((refine aN ?_);intro K hK)|((with_reducible refine So.f ?_);intro K hK;simp(contextual:=true)only [go_sem,simprocAttr])|((with_reducible refine hK _ ?_);clear hK K)|(refine fun(hc:(_:Bool)=_)=>?_;try simp only [hcS]at hc))
   all_goals try exact om_
   refine aG (G:={i:Nat//i≤A.length∧(True)}) (fun⟨i,_⟩=>[(5,iv ((A.length:Int)-1-i)),(4,iv (pI (bkL A i)))]) [0,1] (fun⟨i,_⟩=>[]) [] (fun zz=>A.length-zz.1) ⟨0,Nat.zero_le _,by first|trivial|simp⟩ ?_ ?_
   ·exact Imp.au hX
   rintro⟨i,hii,hwi⟩
   simp only [go_sem,simprocAttr]
   rcases Nat.lt_or_ge i A.length with hlt|hge
   ·have hci:=hch (A.length-1-i) (by omega) F
    have ei:(A.length:Int)-1-i=((A.length-1-i:Nat):Int):=by omega
    rw [←ei]at hci
    have e2:(A.length:Int)-1-((i:Int)+1)=A.length-1-(i:Int)-1:=by omega
    repeat'(first|refine wkQ ?_|refine Tw.f ?_ ?_|((with_reducible refine kaQ [_,_,iv ((A.length:Int)-1-i)] ?_);refine kcQ qK ?_;refine kwQ (hci) [(0,3)] [0,2,1] ?_)|(refine fun(hc:(_:Bool)=_)=>?_;try simp only [hcS]at hc))
    all_goals try exact om_
    ·refine sE (Imp.closeB 0 2 26 _ _ rfl rfl rfl (by decide)) ?_
     rw [hcut (A.length-1-i) (by omega) (by assumption) (by omega)]
     (first|refine aB ?_|refine aA ?_);simp only [go_sem,simprocAttr,Tryz.f330]
    ·have e1:=aN4 (A:=A) (i:=i) (by assumption)
     refine⟨⟨i+1,by omega,(by trivial)⟩,by simp only;omega,Imp.auto hX (by simp only [go_sem,simprocAttr,e1,e2,←ei])⟩
    ·have e1:=aEV (A:=A) (i:=i) (by assumption)
     refine⟨⟨i+1,by omega,(by trivial)⟩,by simp only;omega,Imp.auto hX (by simp only [go_sem,simprocAttr,e1,e2])⟩
   ·repeat'(first|(refine bU 7 (Imp.refl _ _) ?_;rw [show bkL A i=some x from by rw [show i=A.length by omega,aH0];exact hf];simp only [go_sem,simprocAttr])|(with_reducible first|refine St.f ?_|refine V_c ?_|refine eDn ?_|refine And.intro ?_ ?_|refine aH ?_ ?_|refine aK ?_)|((refine aN ?_);intro K hK)|((with_reducible refine So.f ?_);intro K hK;simp(contextual:=true)only [go_sem,simprocAttr])|((with_reducible refine hK _ ?_);clear hK K)|((with_reducible refine(id ?_:EvCall _ _ [_,_,iv (x:Int)] _ _));refine EvCall.mr (hcx) qK [(0,3)] [0,2,1] ?_)|(refine fun(hc:(_:Bool)=_)=>?_;try simp only [hcS]at hc))
    all_goals try exact om_
    refine aG (G:={k:Nat//k≤C.length∧(True)}) (fun⟨k,_⟩=>[(7,iv k),(6, .sl 3)]) [0,1,4] (fun⟨k,_⟩=>[(2,⟨1, .arr (aF (fd k))⟩),(3,⟨1, .arr (ints C)⟩)]) [2,3] (fun zz=>C.length-zz.1) ⟨0,Nat.zero_le _,by first|trivial|simp⟩ ?_ ?_
    ·exact Imp.auto hX (by simp [go_sem,simprocAttr,fd0])
    rintro⟨k,hik,hwk⟩
    simp only [go_sem,simprocAttr]
    have l1:=fdl k
    rcases Nat.lt_or_ge k C.length with hlt2|hge2
    ·rcases Nat.lt_or_ge (fd k).length m with hl2|hg2
     ·obtain⟨hu0,hu1⟩:=hcg k hlt2
      have hx:XtL A (A.set x (C.getD k 0)):= .setL p1 p2
      have hun:=hx.uns_lt p1 (by omega) (by rw [aV p1,if_pos rfl];omega)
      have fdn:(fd k++goC (nCh f g) n (A.set x (C.getD k 0))).take m=fd (k+1):=by rw [hfd,hfd,aIY hlt2,aUC]
      have hrec:=uY h hm n (fd k) (A.set x (C.getD k 0)) (by simpa using hA) (fun j hj=>by
       rw [aV p1]
       split
       ·exact hu1
       ·exact hr j (by simpa using hj)) (by omega) hl2
      rw [fdn]at hrec
      repeat'(first|(refine bU 15 (Imp.closeB 0 2 26 _ _ rfl rfl rfl (by decide)) ?_;simp only [go_sem,simprocAttr])|(refine bU 12 (Imp.trans (Imp.openB 0 26 _ _ rfl (Nat.succ_le_succ (Nat.zero_le _)) rfl rfl) (Imp.drop 4 (Nat.succ_le_succ (Nat.zero_le _)))) ?_;simp only [go_sem,simprocAttr])|(with_reducible first|refine St.f ?_|refine V_c ?_|refine eDn ?_|refine And.intro ?_ ?_|refine aH ?_ ?_|refine aK ?_)|((refine aN ?_);intro K hK)|((with_reducible refine So.f ?_);intro K hK;simp(contextual:=true)only [go_sem,simprocAttr])|((with_reducible refine hK _ ?_);clear hK K)|((with_reducible refine aC 194 ?_);refine EvCall.rr (cP ?_) bZ ?_)|((with_reducible refine aC 330 ?_);refine EvCall.mr (hrec) xU [(0,0),(1,4)] [] ?_)|(refine fun(hc:(_:Bool)=_)=>?_;try simp only [hcS]at hc))
      all_goals try exact om_
      ·refine⟨⟨k+1,by omega,(by trivial)⟩,by simp only;omega,Imp.ao hX⟩
     ·repeat'(first|refine wkQ ?_|refine Tw.f ?_ ?_|(refine fun(hc:(_:Bool)=_)=>?_;try simp only [hcS]at hc))
      all_goals try exact om_
      ·refine sE (Imp.closeB 0 2 26 _ _ rfl rfl rfl (by decide)) ?_
       rw [←fdS k (by omega)]
       (first|refine aB ?_|refine aA ?_);simp only [go_sem,simprocAttr,Tryz.f330]
    ·repeat'(first|refine wkQ ?_|refine Tw.f ?_ ?_|(refine fun(hc:(_:Bool)=_)=>?_;try simp only [hcS]at hc))
     all_goals try exact om_
     ·refine sE (Imp.closeB 0 2 26 _ _ rfl rfl rfl (by decide)) ?_
      rw [←fdE k (by omega)]
      (first|refine aB ?_|refine aA ?_);simp only [go_sem,simprocAttr,Tryz.f330]
end Go.Eng
end
