/- The parts of the identity, by the reference; a set functor's elements renumbered: what is known of it. -/
import Derived.Test.YtipohdpnhodnmaaGreatA01y
import Derived.Test.YtipohdpnhodnmaaGreatE07q
set_option linter.unusedSimpArgs false
set_option linter.unusedVariables false
set_option maxRecDepth 100000
set_option maxHeartbeats 32000000
namespace Go.Eng
open Go Go.Proofs Go.Cats
attribute [local go_sem] List.set_cons_zero List.set_cons_succ yW mK
theorem aC6:aF Tryz.prog 101:=⟨_,Tryz.func101,rfl,rfl⟩
theorem aFC {f:SF} (s:IsSF f):Spec Tryz.prog 101 [sfV f] [] (.sl 0) [(0,⟨1, .arr (aC (iuP f f.sizes.length))⟩)]:=by
 refine aD (E:=TE) 0 Tryz.func101 rfl (by simp [Tryz.f101]) fun X hn hX=>?_
 have szl:=s.szl
 have o8:=s.cat.toShape.ob8
 repeat'(first|refine wkQ ?_|refine Tw.f ?_ ?_|(refine fun(hc:(_:Bool)=_)=>?_;try simp only [hcS]at hc))
 all_goals try exact om_
 refine aG (G:={x:Nat//x≤f.sizes.length∧(True)}) (fun⟨x,_⟩=>[(4,iv x),(3, .sl 1)]) [1,2] (fun⟨x,_⟩=>[(1,⟨1, .arr (aC (iuP f x))⟩)]) [1] (fun zz=>f.sizes.length-zz.1) ⟨0,Nat.zero_le _,by first|trivial|simp⟩ ?_ ?_
 ·exact Imp.au hX
 rintro⟨x,hix,hwx⟩
 simp only [go_sem,simprocAttr]
 have il:=aCm (f:=f) (i:=x)
 rcases Nat.lt_or_ge x f.sizes.length with hx|hx
 ·have sz:=s.szw x hx
  repeat'(first|refine wkQ ?_|refine Tw.f ?_ ?_|(refine fun(hc:(_:Bool)=_)=>?_;try simp only [hcS]at hc))
  all_goals try exact om_
  all_goals try(exfalso;omega)
  refine aG (G:={j:Nat//j≤(f.sizes.getD x 0).toNat∧(True)}) (fun⟨j,_⟩=>[(6,iv j),(5, .sl 2)]) [1,2,3,4] (fun⟨j,_⟩=>[(1,⟨1, .arr (aC (iuP f x))⟩),(2,⟨1, .arr (ints (nums j))⟩)]) [1,2] (fun zz=>(f.sizes.getD x 0).toNat-zz.1) ⟨0,Nat.zero_le _,by first|trivial|simp⟩ ?_ ?_
  ·exact Imp.au hX
  rintro⟨j,hij,hwj⟩
  simp only [go_sem,simprocAttr]
  have nl:=dS j
  rcases Nat.lt_or_ge j (f.sizes.getD x 0).toNat with hj|hj
  ·repeat'(first|refine wkQ ?_|refine Tw.f ?_ ?_|(refine fun(hc:(_:Bool)=_)=>?_;try simp only [hcS]at hc))
   all_goals try exact om_
   all_goals try(exfalso;omega)
   refine⟨⟨j+1,by omega,(by trivial)⟩,by simp only;omega,Imp.auto hX (by simp only [go_sem,simprocAttr,uA])⟩
  ·have e1:=aJx (f:=f) (i:=x)
   obtain rfl:j=(f.sizes.getD x 0).toNat:=by omega
   repeat'(first|refine wkQ ?_|refine Tw.f ?_ ?_|(refine fun(hc:(_:Bool)=_)=>?_;try simp only [hcS]at hc))
   all_goals try exact om_
   all_goals try(exfalso;omega)
   refine⟨⟨x+1,by omega,(by trivial)⟩,by simp only;omega,Imp.auto hX (by simp only [go_sem,simprocAttr,e1])⟩
 obtain rfl:x=f.sizes.length:=by omega
 repeat'(first|refine wkQ ?_|refine Tw.f ?_ ?_|(refine fun(hc:(_:Bool)=_)=>?_;try simp only [hcS]at hc))
 all_goals try exact om_
 all_goals try(exfalso;omega)
 (first|refine aB ?_|refine aA ?_);simp only [go_sem,simprocAttr,Tryz.f101]
def PRows (f:SF) (P:List (List Int)):Prop:=P.length=f.sizes.length∧∀x,x<P.length→((P.getD x []).length:Int)=f.sizes.getD x 0∧Within (P.getD x []) (f.sizes.getD x 0)
def ARows (f:SF) (A:List (List Int)):Prop:=A.length=f.acts.length∧∀a,a<A.length→(A.getD a []).length=(f.acts.getD a []).length
theorem PRows.swap {f:SF} {P:List (List Int)} (h:PRows f P) {x d e:Nat} (hx:x<P.length) (hd:d<(P.getD x []).length) (he:e<(P.getD x []).length):PRows f (P.set x (((P.getD x []).set d ((P.getD x []).getD e 0)).set e ((P.getD x []).getD d 0))):=by
 refine⟨by rw [List.length_set];exact h.1,fun y hy=>?_⟩
 rw [List.length_set]at hy
 have q:=h.2 x hx
 by_cases k:x=y
 ·subst k
  rw [List.getD_eq_getElem?_getD (l:=P.set _ _),List.getElem?_set_self hx]
  show((((P.getD x []).set d ((P.getD x []).getD e 0)).set e ((P.getD x []).getD d 0)).length:Int)=_∧Within (((P.getD x []).set d ((P.getD x []).getD e 0)).set e ((P.getD x []).getD d 0)) _
  refine⟨by rw [List.length_set,List.length_set];exact q.1,fun i hi=>?_⟩
  rw [List.length_set,List.length_set]at hi
  rw [rZ (by rw [List.length_set];omega)]
  by_cases ki:i=e
  ·rw [if_pos ki];exact q.2 d hd
  ·rw [if_neg ki,rZ (by omega)]
   by_cases kd:i=d
   ·rw [if_pos kd];exact q.2 e he
   ·rw [if_neg kd];exact q.2 i hi
 ·rw [List.getD_eq_getElem?_getD (l:=P.set _ _),List.getElem?_set_ne k,←List.getD_eq_getElem?_getD]
  exact h.2 y hy
theorem PRows.id {f:SF} (s:IsSF f):PRows f (iuP f f.sizes.length):=by
 refine⟨aCm,fun x hx=>?_⟩
 rw [aCm]at hx
 have:=s.szw x hx
 rw [aOG hx,dS]
 refine⟨by omega,fun i hi=>?_⟩
 rw [dS]at hi
 rw [sF hi];omega
theorem ARows.put {f:SF} {A:List (List Int)} (h:ARows f A) {a:Nat} {r:List Int} (hr:r.length=(A.getD a []).length):ARows f (A.set a r):=by
 refine⟨by rw [List.length_set];exact h.1,fun b hb=>?_⟩
 rw [List.length_set]at hb
 by_cases k:a=b
 ·subst k
  rw [List.getD_eq_getElem?_getD (l:=A.set _ _),List.getElem?_set_self hb]
  show r.length=_
  rw [hr];exact h.2 a hb
 ·rw [List.getD_eq_getElem?_getD (l:=A.set _ _),List.getElem?_set_ne k,←List.getD_eq_getElem?_getD]
  exact h.2 b hb
theorem aB7:aF Tryz.prog 43:=⟨_,Tryz.func43,rfl,rfl⟩
theorem aAV {s:RnS} {f:SF} (hs:RnOk s) (hI:IsSF f) (hb:SFB f):
  SpecE Tryz.prog 43 [.ptr 0 0,sfV f] [(0,bB s)] (fun z:SF×List (List Int)×RnS=>SFB z.1∧RnOk z.2.2) (fun z=> .tup [sfO 1 z.1, .sl 7]) (fun z=>(0,bB z.2.2)::sfQ 1 z.1++[(7,⟨1, .arr (aC z.2.1)⟩)]):=by
 have szl:=hI.szl
 have o8:=hI.cat.toShape.ob8
 have hSelf:=aFC hI
 refine iO (E:=TE) 1 Tryz.func43 rfl (by simp [Tryz.f43]) fun X hn hX=>?_
 repeat'(first|refine wkQ ?_|refine Tw.f ?_ ?_|(refine kcQ aC6 ?_;refine kwQ (hSelf) [(0,4)] [] ?_)|(refine fun(hc:(_:Bool)=_)=>?_;try simp only [hcS]at hc))
 all_goals try exact om_
 refine aG (G:={p:Nat×List (List Int)×RnS//PRows f p.2.1∧RnOk p.2.2∧p.1≤f.sizes.length}) (fun p=>[(7,iv p.1.1),(6, .sl 4)]) [0,3,4,5] (fun p=>[(0,bB p.1.2.2),(4,⟨1, .arr (aC p.1.2.1)⟩)]) [0,4] (fun p=>f.sizes.length-p.1.1) ⟨(0,iuP f f.sizes.length,s),PRows.id hI,hs,Nat.zero_le _⟩ ?_ ?_
 ·exact Imp.au hX
 clear hs hSelf
 rintro⟨⟨x,P,s⟩,hP,hs,hx0⟩
 simp only at hP hs hx0
 simp only [go_sem,simprocAttr]
 have pl:=hP.1
 rcases Nat.lt_or_ge x f.sizes.length with hx|hx
 ·have sz:=hI.szw x hx
  have rl:=(hP.2 x (by omega)).1
  repeat'(first|refine wkQ ?_|refine Tw.f ?_ ?_|(refine fun(hc:(_:Bool)=_)=>?_;try simp only [hcS]at hc))
  all_goals try exact om_
  all_goals try(exfalso;omega)
  refine aG (G:={p:Int×List (List Int)×RnS//PRows f p.2.1∧RnOk p.2.2∧-1≤p.1∧p.1<f.sizes.getD x 0}) (fun p=>[(8,iv p.1.1),(6, .sl 4)]) [0,3,4,5,7] (fun p=>[(0,bB p.1.2.2),(4,⟨1, .arr (aC p.1.2.1)⟩)]) [0,4] (fun p=>(p.1.1+1).toNat) ⟨(((P.getD x []).length:Int)-1,P,s),hP,hs,by simp only;omega,by have:=(hP.2 x (by omega)).1;simp only;omega⟩ ?_ ?_
  ·exact Imp.au hX
  clear hs hP pl rl
  rintro⟨⟨e,Q,s⟩,hP,hs,he0,he1⟩
  simp only at hP hs he0 he1
  simp only [go_sem,simprocAttr]
  have pl:=hP.1
  have rl:=(hP.2 x (by omega)).1
  by_cases he:0<e
  ·obtain⟨e,rfl⟩:∃k:Nat,e=k:=⟨_,(Int.toNat_of_nonneg (by omega)).symm⟩
   have hA:=aP (n:=(e:Int)+1) hs
   have hA1:=aM (n:=(e:Int)+1) hs
   have hA2:=aV (n:=(e:Int)+1) hs (by omega)
   generalize aL s ((e:Int)+1)=s1 at hA hA1
   generalize aK s ((e:Int)+1)=d at hA hA2
   obtain⟨d,rfl⟩:∃k:Nat,d=k:=⟨_,(Int.toNat_of_nonneg hA2.1).symm⟩
   have hP2:=hP.swap (x:=x) (d:=d) (e:=e) (by omega) (by omega) (by omega)
   repeat'(first|(refine dG 10 (Imp.open_ 4 x (aC Q) [] (.inr ⟨rfl,rfl⟩) (Nat.le_refl 1) (by simp only [go_sem];omega) rfl (by simp only [go_sem]) rfl) ?_;simp only [go_sem,simprocAttr])|(refine dG 7 (Imp.closeA 4 5 x _ _ rfl rfl (by decide) (by simp [go_sem,simprocAttr];omega)) ?_;simp only [go_sem,simprocAttr])|(with_reducible first|refine St.f ?_|refine V_c ?_|refine eDn ?_|refine And.intro ?_ ?_|refine aI ?_ ?_|refine aN ?_)|((refine aQ ?_);intro K hK)|((with_reducible refine So.f ?_);intro K hK;simp(contextual:=true)only [go_sem,simprocAttr])|((with_reducible refine hK _ ?_);clear hK K)|((with_reducible refine aE 42 ?_);refine EvCall.mr (hA) aH [(0,0)] [] ?_)|(refine fun(hc:(_:Bool)=_)=>?_;try simp only [hcS]at hc))
   all_goals try exact om_
   all_goals try(exfalso;omega)
   all_goals refine⟨⟨((e:Int)-1,Q.set x (((Q.getD x []).set d ((Q.getD x []).getD e 0)).set e ((Q.getD x []).getD d 0)),s1),hP2,hA1,by simp only;omega,by simp only;omega⟩,by simp only;omega,Imp.ao hX⟩
  ·repeat'(first|refine wkQ ?_|refine Tw.f ?_ ?_|(refine fun(hc:(_:Bool)=_)=>?_;try simp only [hcS]at hc))
   all_goals try exact om_
   all_goals try(exfalso;omega)
   all_goals refine⟨⟨(x+1,Q,s),hP,hs,by simp only;omega⟩,by simp only;omega,Imp.ao hX⟩
 ·obtain rfl:x=f.sizes.length:=by omega
  repeat'(first|refine wkQ ?_|refine Tw.f ?_ ?_|(refine kcQ fS ?_;refine krQ (iN (f:=f) ?_) ?_)|(refine fun(hc:(_:Bool)=_)=>?_;try simp only [hcS]at hc))
  all_goals try exact om_
  all_goals try(exfalso;omega)
  refine aG (G:={p:Nat×List (List Int)//ARows f p.2∧p.1≤f.acts.length}) (fun p=>[(12,iv p.1.1)]) [3,4,5,6,11] (fun p=>[(10,⟨1, .arr (aC p.1.2)⟩)]) [10] (fun p=>f.acts.length-p.1.1) ⟨(0,f.acts),⟨rfl,fun _ _=>rfl⟩,Nat.zero_le _⟩ ?_ ?_
  ·exact Imp.au hX
  rintro⟨⟨a,A⟩,hA,ha0⟩
  simp only at hA ha0
  simp only [go_sem,simprocAttr]
  have al:=hA.1
  have acl:=hI.acl
  rcases Nat.lt_or_ge a f.acts.length with ha|ha
  ·have w1:=hI.cat.toShape.frw a (by omega)
   have w2:=hI.cat.toShape.tow a (by have:=hI.cat.toShape.tol;omega)
   have wl:=hI.cat.toShape.tol
   have B:=hI.act a ha
   have z1:=hI.szw (f.shape.fr.getD a 0).toNat (by omega)
   have m40:=hI.cat.toShape.m40
   have r1:=hP.2 (f.shape.fr.getD a 0).toNat (by omega)
   have r2:=hP.2 (f.shape.to.getD a 0).toNat (by omega)
   repeat'(first|refine wkQ ?_|refine Tw.f ?_ ?_|(refine fun(hc:(_:Bool)=_)=>?_;try simp only [hcS]at hc))
   all_goals try exact om_
   all_goals try(exfalso;omega)
   refine aG (G:={p:Nat×List (List Int)//ARows f p.2∧p.1≤(f.acts.getD a []).length}) (fun p=>[(15,iv p.1.1)]) [3,4,5,6,11,12,13,14] (fun p=>[(10,⟨1, .arr (aC p.1.2)⟩)]) [10] (fun p=>(f.acts.getD a []).length-p.1.1) ⟨(0,A),hA,Nat.zero_le _⟩ ?_ ?_
   ·exact Imp.au hX
   clear hA al
   rintro⟨⟨e,A⟩,hA,he0⟩
   simp only at hA he0
   simp only [go_sem,simprocAttr]
   have al:=hA.1
   have ar:=hA.2 a (by omega)
   rcases Nat.lt_or_ge e (f.acts.getD a []).length with he|he
   ·have B2:=B.2 e he
    have q1:=r1.2 e (by omega)
    have q2:=r2.2 ((f.acts.getD a []).getD e 0).toNat (by omega)
    repeat'(first|(refine dG 20 (Imp.open_ 10 a (aC A) [] (.inr ⟨rfl,rfl⟩) (Nat.le_refl 1) (by simp only [go_sem];omega) rfl (by simp only [go_sem]) rfl) ?_;simp only [go_sem,simprocAttr])|(refine dG 19 (Imp.closeA 10 12 a _ _ rfl rfl (by decide) (by simp [go_sem,simprocAttr];omega)) ?_;simp only [go_sem,simprocAttr])|(with_reducible first|refine St.f ?_|refine V_c ?_|refine eDn ?_|refine And.intro ?_ ?_|refine aI ?_ ?_|refine aN ?_)|((refine aQ ?_);intro K hK)|((with_reducible refine So.f ?_);intro K hK;simp(contextual:=true)only [go_sem,simprocAttr])|((with_reducible refine hK _ ?_);clear hK K)|(refine fun(hc:(_:Bool)=_)=>?_;try simp only [hcS]at hc))
    all_goals try exact om_
    all_goals try(exfalso;omega)
    all_goals refine⟨⟨(e+1,A.set a ((A.getD a []).set ((P.getD (f.shape.fr.getD a 0).toNat []).getD e 0).toNat ((P.getD (f.shape.to.getD a 0).toNat []).getD ((f.acts.getD a []).getD e 0).toNat 0))),hA.put (List.length_set ..),by simp only;omega⟩,by simp only;omega,Imp.ao hX⟩
   ·obtain rfl:e=(f.acts.getD a []).length:=by omega
    repeat'(first|refine wkQ ?_|refine Tw.f ?_ ?_|(refine fun(hc:(_:Bool)=_)=>?_;try simp only [hcS]at hc))
    all_goals try exact om_
    all_goals try(exfalso;omega)
    all_goals refine⟨⟨(a+1,A),hA,by simp only;omega⟩,by simp only;omega,Imp.ao hX⟩
  ·obtain rfl:a=f.acts.length:=by omega
   repeat'(first|refine wkQ ?_|refine Tw.f ?_ ?_|(refine fun(hc:(_:Bool)=_)=>?_;try simp only [hcS]at hc))
   all_goals try exact om_
   all_goals try(exfalso;omega)
   refine⟨(⟨f.shape,f.sizes,A⟩,P,s),⟨⟨hb.shape,hb.sizes,by show A.length≤_;rw [al];exact hb.acts,fun b hb2=>?_⟩,hs⟩,?_⟩
   ·have h1:=hA.2 b hb2
    have h2:=hb.row b (by rw [←al];exact hb2)
    show(A.getD b []).length≤_
    omega
   (first|refine aB ?_|refine aA ?_);simp only [go_sem,simprocAttr,Tryz.f43]
   all_goals repeat'(first|rfl|constructor)
end Go.Eng
