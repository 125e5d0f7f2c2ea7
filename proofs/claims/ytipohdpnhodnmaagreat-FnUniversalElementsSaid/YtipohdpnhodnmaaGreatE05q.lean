/- Glued set functors, by the reference: the walk. -/
import Derived.Test.YtipohdpnhodnmaaGreatE04q
set_option linter.unusedSimpArgs false
set_option linter.unusedVariables false
set_option maxRecDepth 100000
set_option maxHeartbeats 32000000
namespace Go.Eng
open Go Go.Proofs Go.Cats
attribute [local go_sem] List.set_cons_zero List.set_cons_succ aIL aJg aJd aBQ
theorem aC5:aF Tryz.prog 174:=⟨_,Tryz.func174,rfl,rfl⟩
theorem aCG {f:SF} {P:List (List (List Int))} (hf:Loose f) (hb:CatB f.shape) (hPl:P.length=f.shape.ob.toNat) (hP:∀x,x<P.length→xP (f.sizes.getD x 0).toNat (P.getD x [])∧(P.getD x []).length≤1000):
  SpecE Tryz.prog 174 [sfV f, .bor [] (bH P)] [] (fun g:SF=>Loose g∧g.shape=f.shape∧∀x,g.sizes.getD x 0≤f.sizes.getD x 0) (fun g=>sfO 0 g) (fun g=>sfQ 0 g):=by
 have o0:=hf.shape.ob0
 have o8:=hf.shape.ob8
 have m40:=hf.shape.m40
 have szl:=hf.szl
 have acl:=hf.acl
 have tol:=hf.shape.tol
 refine iO (E:=TE) 0 Tryz.func174 rfl (by simp [Tryz.f174]) fun X hn hX=>?_
 repeat'(first|(with_reducible first|refine St.f ?_|refine V_c ?_|refine eDn ?_|refine And.intro ?_ ?_|refine aI ?_ ?_|refine aN ?_)|((refine aQ ?_);intro K hK)|((with_reducible refine So.f ?_);intro K hK;simp(contextual:=true)only [go_sem,simprocAttr])|((with_reducible refine hK _ ?_);clear hK K)|(refine fun(hc:(_:Bool)=_)=>?_;try simp only [hcS]at hc))
 all_goals try exact om_
 all_goals try(exfalso;omega)
 refine aG (G:={i:Nat//i≤f.sizes.length∧(True)}) (fun⟨i,_⟩=>[(6,iv i),(5, .sl 2)]) [1,2,4] (fun⟨i,_⟩=>[(2,⟨1, .arr (aC (clT f P i))⟩)]) [2] (fun zz=>f.sizes.length-zz.1) ⟨0,Nat.zero_le _,by first|trivial|simp⟩ ?_ ?_
 ·exact Imp.au hX
 rintro⟨i,hii,hwi⟩
 simp only [go_sem,simprocAttr]
 have cl:=aCb (f:=f) (P:=P) (i:=i)
 rcases Nat.lt_or_ge i f.sizes.length with hi|hi
 ·have s1:=hf.szw i hi
  have p1:=hP i (by omega)
  have hJ:Spec Tryz.prog 229 [iv (((f.sizes.getD i 0).toNat:Nat):Int), .bor [] (aC (P.getD i []))] [] (.sl 0) [(0,⟨1, .arr (ints (gW (f.sizes.getD i 0).toNat (P.getD i [])))⟩)]:=zW (n:=(f.sizes.getD i 0).toNat) (ps:=P.getD i []) (by omega) (by omega) p1.1
  rw [Int.toNat_of_nonneg s1.1]at hJ
  have e1:=aIK (f:=f) (P:=P) (i:=i)
  repeat'(first|(with_reducible first|refine St.f ?_|refine V_c ?_|refine eDn ?_|refine And.intro ?_ ?_|refine aI ?_ ?_|refine aN ?_)|((refine aQ ?_);intro K hK)|((with_reducible refine So.f ?_);intro K hK;simp(contextual:=true)only [go_sem,simprocAttr])|((with_reducible refine hK _ ?_);clear hK K)|((with_reducible refine aE 229 ?_);refine EvCall.mr (hJ) uS [(0,3)] [] ?_)|(refine fun(hc:(_:Bool)=_)=>?_;try simp only [hcS]at hc))
  all_goals try exact om_
  all_goals try(exfalso;omega)
  refine⟨⟨i+1,by omega,(by trivial)⟩,by simp only;omega,Imp.auto hX (by simp only [go_sem,simprocAttr,e1])⟩
 obtain rfl:i=f.sizes.length:=by omega
 repeat'(first|(with_reducible first|refine St.f ?_|refine V_c ?_|refine eDn ?_|refine And.intro ?_ ?_|refine aI ?_ ?_|refine aN ?_)|((refine aQ ?_);intro K hK)|((with_reducible refine So.f ?_);intro K hK;simp(contextual:=true)only [go_sem,simprocAttr])|((with_reducible refine hK _ ?_);clear hK K)|(refine fun(hc:(_:Bool)=_)=>?_;try simp only [hcS]at hc))
 all_goals try exact om_
 all_goals try(exfalso;omega)
 refine aG (G:={p:Bool×List (List Int)//GlOk f p.2}) (fun p=>[(7, .v (.bool p.1.1)),(5, .sl 2)]) [2,4] (fun p=>[(2,⟨1, .arr (aC p.1.2)⟩)]) [2] (fun p=>2*mes p.1.2+(if p.1.1=true then 1 else 0)) ⟨(true,clT f P f.sizes.length),aOk hf⟩ ?_ ?_
 ·exact Imp.au hX
 rintro⟨⟨b,C⟩,hC⟩
 simp only at hC
 simp only [go_sem,simprocAttr]
 have cl:=hC.len
 cases b with
 |true=>
  repeat'(first|(with_reducible first|refine St.f ?_|refine V_c ?_|refine eDn ?_|refine And.intro ?_ ?_|refine aI ?_ ?_|refine aN ?_)|((refine aQ ?_);intro K hK)|((with_reducible refine So.f ?_);intro K hK;simp(contextual:=true)only [go_sem,simprocAttr])|((with_reducible refine hK _ ?_);clear hK K)|(refine fun(hc:(_:Bool)=_)=>?_;try simp only [hcS]at hc))
  all_goals try exact om_
  all_goals try(exfalso;omega)
  refine aG (G:={p:Nat×Bool×List (List Int)//p.1≤f.acts.length∧GlOk f p.2.2∧mes p.2.2≤mes C∧(p.2.1=true→mes p.2.2<mes C)}) (fun p=>[(8,iv p.1.1),(7, .v (.bool p.1.2.1)),(5, .sl 2)]) [2,4] (fun p=>[(2,⟨1, .arr (aC p.1.2.2)⟩)]) [2] (fun p=>f.acts.length-p.1.1) ⟨(0,false,C),Nat.zero_le _,hC,Nat.le_refl _,fun q=>by cases q⟩ ?_ ?_
  ·exact Imp.au hX
  rintro⟨⟨a,b,D⟩,ha0,hD,hm,hb1⟩
  simp only at ha0 hD hm hb1
  simp only [go_sem,simprocAttr]
  rcases Nat.lt_or_ge a f.acts.length with ha|ha
  ·obtain⟨x,y,g0⟩:=hD.at hf ha
   have ex:=g0.ex
   have ey:=g0.ey
   have gal:=g0.al
   have lx0:=g0.lx
   have xl:x<f.sizes.length:=by have:=g0.hx;have:=hD.len;omega
   have yl:y<f.sizes.length:=by have:=g0.hy;have:=hD.len;omega
   have nx:((f.acts.getD a []).length:Int)=f.sizes.getD x 0:=by rw [gal];exact(hD.row x g0.hx).1
   have nb:(f.acts.getD a []).length≤1000:=by omega
   repeat'(first|(with_reducible first|refine St.f ?_|refine V_c ?_|refine eDn ?_|refine And.intro ?_ ?_|refine aI ?_ ?_|refine aN ?_)|((refine aQ ?_);intro K hK)|((with_reducible refine So.f ?_);intro K hK;simp(contextual:=true)only [go_sem,simprocAttr])|((with_reducible refine hK _ ?_);clear hK K)|(refine fun(hc:(_:Bool)=_)=>?_;try simp only [hcS]at hc))
   all_goals try exact om_
   all_goals try(exfalso;omega)
   rw [ex,ey]
   refine aG (G:={p:Nat×Bool×List (List Int)//p.1≤(f.acts.getD a []).length∧GlOk f p.2.2∧mes p.2.2≤mes C∧(p.2.1=true→mes p.2.2<mes C)}) (fun p=>[(11,iv p.1.1),(7, .v (.bool p.1.2.1)),(5, .sl 2)]) [2,4,8,9,10] (fun p=>[(2,⟨1, .arr (aC p.1.2.2)⟩)]) [2] (fun p=>(f.acts.getD a []).length-p.1.1) ⟨(0,b,D),Nat.zero_le _,hD,hm,hb1⟩ ?_ ?_
   ·exact Imp.au hX
   clear g0 gal lx0 hm hb1 hD
   rintro⟨⟨d,b,D⟩,hd0,hD,hm,hb1⟩
   simp only at hd0 hD hm hb1
   simp only [go_sem,simprocAttr]
   have dl:=hD.len
   have rx:=hD.row x (by omega)
   rcases Nat.lt_or_ge d (f.acts.getD a []).length with hd|hd
   ·repeat'(first|(with_reducible first|refine St.f ?_|refine V_c ?_|refine eDn ?_|refine And.intro ?_ ?_|refine aI ?_ ?_|refine aN ?_)|((refine aQ ?_);intro K hK)|((with_reducible refine So.f ?_);intro K hK;simp(contextual:=true)only [go_sem,simprocAttr])|((with_reducible refine hK _ ?_);clear hK K)|(refine fun(hc:(_:Bool)=_)=>?_;try simp only [hcS]at hc))
    all_goals try exact om_
    all_goals try(exfalso;omega)
    refine aG (G:={p:Nat×Bool×List (List Int)//p.1≤d∧GlOk f p.2.2∧mes p.2.2≤mes C∧(p.2.1=true→mes p.2.2<mes C)}) (fun p=>[(12,iv p.1.1),(7, .v (.bool p.1.2.1)),(5, .sl 2)]) [2,4,8,9,10,11] (fun p=>[(2,⟨1, .arr (aC p.1.2.2)⟩)]) [2] (fun p=>d-p.1.1) ⟨(0,b,D),Nat.zero_le _,hD,hm,hb1⟩ ?_ ?_
    ·exact Imp.au hX
    clear dl rx hm hb1 hD
    rintro⟨⟨e,b,D⟩,he0,hD,hm,hb1⟩
    simp only at he0 hD hm hb1
    simp only [go_sem,simprocAttr]
    have dl:=hD.len
    rcases Nat.lt_or_ge e d with he|he
    ·obtain⟨x',y',g⟩:=hD.at hf ha
     obtain rfl:x=x':=by have:=g.ex;omega
     obtain rfl:y=y':=by have:=g.ey;omega
     have gal:=g.al
     have u1:=g.aw d hd
     have v1:=g.aw e (by omega)
     have ly:=g.ly
     have ry:=hD.row y (by omega)
     by_cases hE:(D.getD x []).getD d 0=(D.getD x []).getD e 0∧¬(D.getD y []).getD ((f.acts.getD a []).getD d 0).toNat 0=(D.getD y []).getD ((f.acts.getD a []).getD e 0).toNat 0
     ·obtain⟨ok,m1,m2⟩:=aHj (L:=D.getD y []) (u:=(f.acts.getD a []).getD d 0) (v:=(f.acts.getD a []).getD e 0) u1.1 u1.2 v1.1 v1.2
      have pl:=iJ (L:=D.getD y []) (i:=(D.getD y []).length)
      have gl:=tU (n:=(D.getD y []).length) (ps:=bR (D.getD y []) (D.getD y []).length++[[(f.acts.getD a []).getD d 0,(f.acts.getD a []).getD e 0]])
      have gi:=aDs (n:=(D.getD y []).length) (ps:=bR (D.getD y []) (D.getD y []).length++[[(f.acts.getD a []).getD d 0,(f.acts.getD a []).getD e 0]])
      have hJ:Spec Tryz.prog 229 [iv ((D.getD y []).length:Int), .bor [] (aC (bR (D.getD y []) (D.getD y []).length++[[(f.acts.getD a []).getD d 0,(f.acts.getD a []).getD e 0]]))] [] (.sl 0) [(0,⟨1, .arr (ints (gW (D.getD y []).length (bR (D.getD y []) (D.getD y []).length++[[(f.acts.getD a []).getD d 0,(f.acts.getD a []).getD e 0]])))⟩)]:=zW (by omega) (by rw [List.length_append,pl];show _+1≤_;omega) ok
      rw [ry.1]at hJ
      have hPr:=aEa (L:=D.getD y []) (by omega)
      have dlt:dif (gW (D.getD y []).length (bR (D.getD y []) (D.getD y []).length++[[(f.acts.getD a []).getD d 0,(f.acts.getD a []).getD e 0]]))<dif (D.getD y []):=aOm gl m1 (u:=((f.acts.getD a []).getD d 0).toNat) (v:=((f.acts.getD a []).getD e 0).toNat) (by omega) (by omega) hE.2 m2
      have mlt:=aGn (Cs:=D) (y:=y) (by omega) dlt
      have hD2:=hD.set (y:=y) (M:=gW (D.getD y []).length (bR (D.getD y []) (D.getD y []).length++[[(f.acts.getD a []).getD d 0,(f.acts.getD a []).getD e 0]])) (by omega) (by rw [gl];exact ry.1) (by rw [gl];exact gi)
      repeat'(first|(refine dG 21 (Imp.open_ 2 y (aC D) [] (.inr ⟨rfl,rfl⟩) (Nat.le_refl 1) (by simp only [go_sem];omega) rfl (by simp only [go_sem]) rfl) ?_;simp only [go_sem,simprocAttr])|(with_reducible first|refine St.f ?_|refine V_c ?_|refine eDn ?_|refine And.intro ?_ ?_|refine aI ?_ ?_|refine aN ?_)|((refine aQ ?_);intro K hK)|((with_reducible refine So.f ?_);intro K hK;simp(contextual:=true)only [go_sem,simprocAttr])|((with_reducible refine hK _ ?_);clear hK K)|((with_reducible refine aE 230 ?_);refine EvCall.mr (hPr) aB4 [(0,4)] [3] ?_)|((with_reducible refine aE 229 ?_);refine EvCall.mr (hJ) uS [(0,8)] [7] ?_)|(refine fun(hc:(_:Bool)=_)=>?_;try simp only [hcS]at hc))
      all_goals try exact om_
      all_goals try(exfalso;omega)
      refine⟨⟨(e+1,true,D.set y (gW (D.getD y []).length (bR (D.getD y []) (D.getD y []).length++[[(f.acts.getD a []).getD d 0,(f.acts.getD a []).getD e 0]]))),by omega,hD2,Nat.le_trans (Nat.le_of_lt mlt) hm,fun _=>Nat.lt_of_lt_of_le mlt hm⟩,by simp only;omega,Imp.ao hX⟩
     ·repeat'(first|(with_reducible first|refine St.f ?_|refine V_c ?_|refine eDn ?_|refine And.intro ?_ ?_|refine aI ?_ ?_|refine aN ?_)|((refine aQ ?_);intro K hK)|((with_reducible refine So.f ?_);intro K hK;simp(contextual:=true)only [go_sem,simprocAttr])|((with_reducible refine hK _ ?_);clear hK K)|(refine fun(hc:(_:Bool)=_)=>?_;try simp only [hcS]at hc))
      all_goals try exact om_
      all_goals try(exfalso;omega)
      all_goals refine⟨⟨(e+1,b,D),by omega,hD,hm,hb1⟩,by simp only;omega,Imp.ao hX⟩
    ·obtain rfl:e=d:=by omega
     repeat'(first|(with_reducible first|refine St.f ?_|refine V_c ?_|refine eDn ?_|refine And.intro ?_ ?_|refine aI ?_ ?_|refine aN ?_)|((refine aQ ?_);intro K hK)|((with_reducible refine So.f ?_);intro K hK;simp(contextual:=true)only [go_sem,simprocAttr])|((with_reducible refine hK _ ?_);clear hK K)|(refine fun(hc:(_:Bool)=_)=>?_;try simp only [hcS]at hc))
     all_goals try exact om_
     all_goals try(exfalso;omega)
     refine⟨⟨(e+1,b,D),by omega,hD,hm,hb1⟩,by simp only;omega,Imp.ao hX⟩
   ·obtain rfl:d=(f.acts.getD a []).length:=by omega
    repeat'(first|(with_reducible first|refine St.f ?_|refine V_c ?_|refine eDn ?_|refine And.intro ?_ ?_|refine aI ?_ ?_|refine aN ?_)|((refine aQ ?_);intro K hK)|((with_reducible refine So.f ?_);intro K hK;simp(contextual:=true)only [go_sem,simprocAttr])|((with_reducible refine hK _ ?_);clear hK K)|(refine fun(hc:(_:Bool)=_)=>?_;try simp only [hcS]at hc))
    all_goals try exact om_
    all_goals try(exfalso;omega)
    refine⟨⟨(a+1,b,D),by omega,hD,hm,hb1⟩,by simp only;omega,Imp.ao hX⟩
  ·obtain rfl:a=f.acts.length:=by omega
   repeat'(first|(with_reducible first|refine St.f ?_|refine V_c ?_|refine eDn ?_|refine And.intro ?_ ?_|refine aI ?_ ?_|refine aN ?_)|((refine aQ ?_);intro K hK)|((with_reducible refine So.f ?_);intro K hK;simp(contextual:=true)only [go_sem,simprocAttr])|((with_reducible refine hK _ ?_);clear hK K)|(refine fun(hc:(_:Bool)=_)=>?_;try simp only [hcS]at hc))
   all_goals try exact om_
   all_goals try(exfalso;omega)
   refine⟨⟨(b,D),hD⟩,?_,Imp.ao hX⟩
   simp only
   cases b with
   |true=>have:=hb1 rfl;simp;omega
   |false=>simp;omega
 |false=>
  have tb:∀x,x<C.length→0≤topI (C.getD x []) (C.getD x []).length∧topI (C.getD x []) (C.getD x []).length≤1000:=fun x hx=>by
   have r:=hC.row x hx
   have s:=hf.szw x (by omega)
   have:=nK s.1 (fun i hi=>(r.2 i hi).2) _ (Nat.le_refl _)
   omega
  repeat'(first|(with_reducible first|refine St.f ?_|refine V_c ?_|refine eDn ?_|refine And.intro ?_ ?_|refine aI ?_ ?_|refine aN ?_)|((refine aQ ?_);intro K hK)|((with_reducible refine So.f ?_);intro K hK;simp(contextual:=true)only [go_sem,simprocAttr])|((with_reducible refine hK _ ?_);clear hK K)|((with_reducible refine aE 180 ?_);refine EvCall.rr (iM ?_) fQ ?_)|(refine fun(hc:(_:Bool)=_)=>?_;try simp only [hcS]at hc))
  all_goals try exact om_
  all_goals try(exfalso;omega)
  all_goals try exact hb
  refine cZ (Imp.adoptBi 7 5 _ _ rfl rfl rfl (by rw [hX];rfl)) ?_
  refine cZ (Imp.adoptBs 7 6 _ _ rfl rfl rfl (by rw [hX];rfl)) ?_
  refine aG (G:={x:Nat//x≤C.length∧(True)}) (fun⟨x,_⟩=>[(16,iv x)]) [2,4,5,15] (fun⟨x,_⟩=>[(7,⟨1, .box [iv f.shape.ob, .sl 3, .sl 4, .sl 5, .sl 6, .sl 8, .sl 9]⟩),(3,⟨1, .arr (ints f.shape.fr)⟩),(4,⟨1, .arr (ints f.shape.to)⟩),(5,⟨1, .arr (ints f.shape.id)⟩),(6,⟨1, .arr (aC f.shape.co)⟩),(2,⟨1, .arr (aC C)⟩),(1,⟨1, .box [iv 0, .v (.slice none 0 0), .v (.slice none 0 0), .v (.slice none 0 0), .v (.slice none 0 0), .v (.slice none 0 0), .v (.slice none 0 0)]⟩),(0,⟨1, .box [iv f.shape.ob, .bor [] (ints f.shape.fr), .bor [] (ints f.shape.to), .bor [] (ints f.shape.id), .bor [] (aC f.shape.co), .bor [] (ints f.sizes), .bor [] (aC f.acts)]⟩),(8,⟨1, .arr (ints (glS C x))⟩),(9,⟨1, .arr (aC [])⟩)]) [0,1,2,3,4,5,6,7,8,9] (fun zz=>C.length-zz.1) ⟨0,Nat.zero_le _,by first|trivial|simp⟩ ?_ ?_
  ·exact Imp.au hX
  rintro⟨x,hix,hwx⟩
  simp only [go_sem,simprocAttr]
  have gsl:=wW (C:=C) (i:=x)
  rcases Nat.lt_or_ge x C.length with hx|hx
  ·have rx:=hC.row x hx
   have sx:=hf.szw x (by omega)
   repeat'(first|(with_reducible first|refine St.f ?_|refine V_c ?_|refine eDn ?_|refine And.intro ?_ ?_|refine aI ?_ ?_|refine aN ?_)|((refine aQ ?_);intro K hK)|((with_reducible refine So.f ?_);intro K hK;simp(contextual:=true)only [go_sem,simprocAttr])|((with_reducible refine hK _ ?_);clear hK K)|(refine fun(hc:(_:Bool)=_)=>?_;try simp only [hcS]at hc))
   all_goals try exact om_
   all_goals try(exfalso;omega)
   refine aG (G:={j:Nat//j≤(C.getD x []).length∧(True)}) (fun⟨j,_⟩=>[(18,iv j),(17,iv (topI (C.getD x []) j))]) [2,4,5,15,16] (fun⟨j,_⟩=>[(7,⟨1, .box [iv f.shape.ob, .sl 3, .sl 4, .sl 5, .sl 6, .sl 8, .sl 9]⟩),(3,⟨1, .arr (ints f.shape.fr)⟩),(4,⟨1, .arr (ints f.shape.to)⟩),(5,⟨1, .arr (ints f.shape.id)⟩),(6,⟨1, .arr (aC f.shape.co)⟩),(2,⟨1, .arr (aC C)⟩),(1,⟨1, .box [iv 0, .v (.slice none 0 0), .v (.slice none 0 0), .v (.slice none 0 0), .v (.slice none 0 0), .v (.slice none 0 0), .v (.slice none 0 0)]⟩),(0,⟨1, .box [iv f.shape.ob, .bor [] (ints f.shape.fr), .bor [] (ints f.shape.to), .bor [] (ints f.shape.id), .bor [] (aC f.shape.co), .bor [] (ints f.sizes), .bor [] (aC f.acts)]⟩),(8,⟨1, .arr (ints (glS C x))⟩),(9,⟨1, .arr (aC [])⟩)]) [0,1,2,3,4,5,6,7,8,9] (fun zz=>(C.getD x []).length-zz.1) ⟨0,Nat.zero_le _,by first|trivial|simp⟩ ?_ ?_
   ·exact Imp.au hX
   rintro⟨j,hij,hwj⟩
   simp only [go_sem,simprocAttr]
   have tj:=nK (l:=C.getD x []) sx.1 (fun i hi=>(rx.2 i hi).2) j
   rcases Nat.lt_or_ge j (C.getD x []).length with hj|hj
   ·have rj:=rx.2 j hj
    have e1:=aBP (C.getD x []) j
    repeat'(first|(refine aJn (by simp only [go_sem,simprocAttr];rfl) (by simp only [go_sem,simprocAttr];rfl) ?_;simp only [go_sem,simprocAttr])|(with_reducible first|refine St.f ?_|refine V_c ?_|refine eDn ?_|refine And.intro ?_ ?_|refine aI ?_ ?_|refine aN ?_)|((refine aQ ?_);intro K hK)|((with_reducible refine So.f ?_);intro K hK;simp(contextual:=true)only [go_sem,simprocAttr])|((with_reducible refine hK _ ?_);clear hK K)|(refine fun(hc:(_:Bool)=_)=>?_;try simp only [hcS]at hc))
    all_goals try exact om_
    all_goals try(exfalso;omega)
    refine⟨⟨j+1,by omega,(by trivial)⟩,by simp only;omega,Imp.auto hX (by simp only [go_sem,simprocAttr,e1])⟩
   ·obtain rfl:j=(C.getD x []).length:=by omega
    have e1:=aJf (C:=C) (i:=x)
    repeat'(first|(with_reducible first|refine St.f ?_|refine V_c ?_|refine eDn ?_|refine And.intro ?_ ?_|refine aI ?_ ?_|refine aN ?_)|((refine aQ ?_);intro K hK)|((with_reducible refine So.f ?_);intro K hK;simp(contextual:=true)only [go_sem,simprocAttr])|((with_reducible refine hK _ ?_);clear hK K)|(refine fun(hc:(_:Bool)=_)=>?_;try simp only [hcS]at hc))
    all_goals try exact om_
    all_goals try(exfalso;omega)
    refine⟨⟨x+1,by omega,(by trivial)⟩,by simp only;omega,Imp.auto hX (by simp only [go_sem,simprocAttr,e1])⟩
  obtain rfl:x=C.length:=by omega
  repeat'(first|(with_reducible first|refine St.f ?_|refine V_c ?_|refine eDn ?_|refine And.intro ?_ ?_|refine aI ?_ ?_|refine aN ?_)|((refine aQ ?_);intro K hK)|((with_reducible refine So.f ?_);intro K hK;simp(contextual:=true)only [go_sem,simprocAttr])|((with_reducible refine hK _ ?_);clear hK K)|(refine fun(hc:(_:Bool)=_)=>?_;try simp only [hcS]at hc))
  all_goals try exact om_
  all_goals try(exfalso;omega)
  refine aG (G:={a:Nat//a≤f.acts.length∧(True)}) (fun⟨a,_⟩=>[(19,iv a)]) [2,4,5,15] (fun⟨a,_⟩=>[(7,⟨1, .box [iv f.shape.ob, .sl 3, .sl 4, .sl 5, .sl 6, .sl 8, .sl 9]⟩),(3,⟨1, .arr (ints f.shape.fr)⟩),(4,⟨1, .arr (ints f.shape.to)⟩),(5,⟨1, .arr (ints f.shape.id)⟩),(6,⟨1, .arr (aC f.shape.co)⟩),(2,⟨1, .arr (aC C)⟩),(1,⟨1, .box [iv 0, .v (.slice none 0 0), .v (.slice none 0 0), .v (.slice none 0 0), .v (.slice none 0 0), .v (.slice none 0 0), .v (.slice none 0 0)]⟩),(0,⟨1, .box [iv f.shape.ob, .bor [] (ints f.shape.fr), .bor [] (ints f.shape.to), .bor [] (ints f.shape.id), .bor [] (aC f.shape.co), .bor [] (ints f.sizes), .bor [] (aC f.acts)]⟩),(8,⟨1, .arr (ints (glS C C.length))⟩),(9,⟨1, .arr (aC (glA f C a))⟩)]) [0,1,2,3,4,5,6,7,8,9] (fun zz=>f.acts.length-zz.1) ⟨0,Nat.zero_le _,by first|trivial|simp⟩ ?_ ?_
  ·exact Imp.au hX
  rintro⟨a,hia,hwa⟩
  simp only [go_sem,simprocAttr]
  rcases Nat.lt_or_ge a f.acts.length with ha|ha
  ·obtain⟨x,y,g⟩:=hC.at hf ha
   have ex:=g.ex
   have ey:=g.ey
   have gx:=g.hx
   have gy:=g.hy
   have gal:=g.al
   have glx:=g.lx
   have gly:=g.ly
   have es:=yQ (C:=C) gx
   have tx:=tb x gx
   have tg:=xM (l:=C.getD x []) (C.getD x []).length
   have e0:(glS C C.length).getD (f.shape.fr.getD a 0).toNat 0=topI (C.getD x []) (C.getD x []).length:=by rw [ex,Int.toNat_natCast,es]
   repeat'(first|(with_reducible first|refine St.f ?_|refine V_c ?_|refine eDn ?_|refine And.intro ?_ ?_|refine aI ?_ ?_|refine aN ?_)|((refine aQ ?_);intro K hK)|((with_reducible refine So.f ?_);intro K hK;simp(contextual:=true)only [go_sem,simprocAttr])|((with_reducible refine hK _ ?_);clear hK K)|(refine fun(hc:(_:Bool)=_)=>?_;try simp only [hcS]at hc))
   all_goals try exact om_
   all_goals try(exfalso;omega)
   rw [e0,ex,ey]
   refine aG (G:={e:Nat//e≤(C.getD x []).length∧(True)}) (fun⟨e,_⟩=>[(23,iv e),(22, .sl 10)]) [2,4,5,15,19,20,21] (fun⟨e,_⟩=>[(7,⟨1, .box [iv f.shape.ob, .sl 3, .sl 4, .sl 5, .sl 6, .sl 8, .sl 9]⟩),(3,⟨1, .arr (ints f.shape.fr)⟩),(4,⟨1, .arr (ints f.shape.to)⟩),(5,⟨1, .arr (ints f.shape.id)⟩),(6,⟨1, .arr (aC f.shape.co)⟩),(2,⟨1, .arr (aC C)⟩),(1,⟨1, .box [iv 0, .v (.slice none 0 0), .v (.slice none 0 0), .v (.slice none 0 0), .v (.slice none 0 0), .v (.slice none 0 0), .v (.slice none 0 0)]⟩),(0,⟨1, .box [iv f.shape.ob, .bor [] (ints f.shape.fr), .bor [] (ints f.shape.to), .bor [] (ints f.shape.id), .bor [] (aC f.shape.co), .bor [] (ints f.sizes), .bor [] (aC f.acts)]⟩),(8,⟨1, .arr (ints (glS C C.length))⟩),(9,⟨1, .arr (aC (glA f C a))⟩),(10,⟨1, .arr (ints (glR (C.getD x []) (C.getD y []) (f.acts.getD a []) (topI (C.getD x []) (C.getD x []).length).toNat e))⟩)]) [0,1,2,3,4,5,6,7,8,9,10] (fun zz=>(C.getD x []).length-zz.1) ⟨0,Nat.zero_le _,by first|trivial|simp⟩ ?_ ?_
   ·exact Imp.auto hX (by simp [go_sem,simprocAttr,aDr])
   rintro⟨e,hie,hwe⟩
   simp only [go_sem,simprocAttr]
   have grl:=mW (Cx:=C.getD x []) (Cy:=C.getD y []) (r:=f.acts.getD a []) (n:=(topI (C.getD x []) (C.getD x []).length).toNat) e
   rcases Nat.lt_or_ge e (C.getD x []).length with he|he
   ·have k1:=g.wx e he
    have k2:=tg e he
    have k3:=g.aw e (by omega)
    have k4:=g.wy ((f.acts.getD a []).getD e 0).toNat (by omega)
    have e1:=yP (Cx:=C.getD x []) (Cy:=C.getD y []) (r:=f.acts.getD a []) (n:=(topI (C.getD x []) (C.getD x []).length).toNat) (i:=e)
    repeat'(first|(with_reducible first|refine St.f ?_|refine V_c ?_|refine eDn ?_|refine And.intro ?_ ?_|refine aI ?_ ?_|refine aN ?_)|((refine aQ ?_);intro K hK)|((with_reducible refine So.f ?_);intro K hK;simp(contextual:=true)only [go_sem,simprocAttr])|((with_reducible refine hK _ ?_);clear hK K)|(refine fun(hc:(_:Bool)=_)=>?_;try simp only [hcS]at hc))
    all_goals try exact om_
    all_goals try(exfalso;omega)
    refine⟨⟨e+1,by omega,(by trivial)⟩,by simp only;omega,Imp.auto hX (by simp only [go_sem,simprocAttr,e1])⟩
   ·obtain rfl:e=(C.getD x []).length:=by omega
    have e1:=aJc (f:=f) (C:=C) (i:=a)
    have gal2:=aCj (f:=f) (C:=C) (i:=a)
    have e2:aBp f C a=glR (C.getD x []) (C.getD y []) (f.acts.getD a []) (topI (C.getD x []) (C.getD x []).length).toNat (C.getD x []).length:=by unfold aBp;rw [ex,ey,Int.toNat_natCast,Int.toNat_natCast]
    repeat'(first|(with_reducible first|refine St.f ?_|refine V_c ?_|refine eDn ?_|refine And.intro ?_ ?_|refine aI ?_ ?_|refine aN ?_)|((refine aQ ?_);intro K hK)|((with_reducible refine So.f ?_);intro K hK;simp(contextual:=true)only [go_sem,simprocAttr])|((with_reducible refine hK _ ?_);clear hK K)|(refine fun(hc:(_:Bool)=_)=>?_;try simp only [hcS]at hc))
    all_goals try exact om_
    all_goals try(exfalso;omega)
    refine⟨⟨a+1,by omega,(by trivial)⟩,by simp only;omega,Imp.auto hX (by simp only [go_sem,simprocAttr,e1,e2])⟩
  obtain rfl:a=f.acts.length:=by omega
  repeat'(first|(with_reducible first|refine St.f ?_|refine V_c ?_|refine eDn ?_|refine And.intro ?_ ?_|refine aI ?_ ?_|refine aN ?_)|((refine aQ ?_);intro K hK)|((with_reducible refine So.f ?_);intro K hK;simp(contextual:=true)only [go_sem,simprocAttr])|((with_reducible refine hK _ ?_);clear hK K)|(refine fun(hc:(_:Bool)=_)=>?_;try simp only [hcS]at hc))
  all_goals try exact om_
  all_goals try(exfalso;omega)
  refine⟨aOv f C,⟨(yR hf hC).1,rfl,(yR hf hC).2⟩,?_⟩
  (first|refine aB ?_|refine aA ?_);simp only [go_sem,simprocAttr,Tryz.f174]
  all_goals repeat'(first|rfl|constructor)
end Go.Eng
