/- The search of natural maps by the reference: in depth, up to a number of results. -/
import Derived.Test.YtipohdpnhodnmaaGreatA04y
set_option linter.unusedSimpArgs false
set_option linter.unusedVariables false
set_option maxRecDepth 100000
set_option maxHeartbeats 16000000
namespace Go.Eng
open Go Go.Proofs Go.Cats
theorem aBb (n i:Nat):((n:Int)-1-(i:Int)).toNat=n-1-i:=by omega
theorem aM0:pX none= -1:=rfl
theorem aMY:pE none= -1:=rfl
theorem aM1 (x e:Nat):pX (some (x,e))=x:=rfl
theorem aMZ (x e:Nat):pE (some (x,e))=e:=rfl
attribute [local go_sem] aBb aM0 aMY aM1 aMZ aJf aJe List.set_cons_succ List.set_cons_zero
theorem iT {f g:SF} {b:Bool} {m:Int} {F:List (List (List Int))} {P:List (List Int)} {x e:Int} (h:SPair f g) (hP:P.length=f.sizes.length) (hR:∀y,y<P.length→((P.getD y []).length:Int)=f.sizes.getD y 0) (h0:0≤x∧0≤e∧x.toNat<f.sizes.length∧e<f.sizes.getD x.toNat 0):
  Spec Tryz.prog 186 [.bptr [] (srD f g b m F), .bor [] (aD P),iv x,iv e] [] (.sl 0) [(0,⟨1, .arr (ints (chI f g b x.toNat e.toNat P (g.sizes.getD x.toNat 0).toNat))⟩)]:=by
 have h1:=aBo (b:=b) (m:=m) (F:=F) (x:=x.toNat) (e:=e.toNat) h hP hR h0.2.2.1 (by rw [Int.toNat_of_nonneg h0.2.1];exact h0.2.2.2)
 rwa [Int.toNat_of_nonneg h0.1,Int.toNat_of_nonneg h0.2.1]at h1
theorem aDk {f g:SF} {b:Bool} {m:Int} {F:List (List (List Int))} {P:List (List Int)} {Q:List (List Int)} {x e u:Nat} {w:Int} (h:SPair f g) (hP:P.length=f.sizes.length) (hR:∀y,y<P.length→((P.getD y []).length:Int)=f.sizes.getD y 0) (he:(e:Int)<f.sizes.getD x 0) (hu:(u:Int)<g.sizes.getD x 0)
  (hN:gP f g b x e u P=some Q) (hw:w=u):Spec Tryz.prog 187 [.bptr [] (srD f g b m F), .bor [] (aD P),iv x,iv e,iv w] [] (.tup [.sl 0, .v (.bool true)]) [(0,⟨1, .arr (aD Q)⟩)]:=by
 subst hw
 exact rH h hP hR he hu hN
theorem aBD:aF Tryz.prog 111:=⟨_,Tryz.func111,rfl,rfl⟩
theorem aAS {f g:SF} {b:Bool} {m:Nat} (h:SPair f g) (hm:m≤4096):∀(n:Nat) (F:List (List (List Int))) (P:List (List Int)),Cats.Good f g b P→nu P<n→F.length<m→
  Spec Tryz.prog 111 [.ptr 0 0, .sl 1] [(0,⟨1, .bx [iv f.shape.ob, .bor [] (ints f.shape.fr), .bor [] (ints f.shape.to), .bor [] (ints f.shape.id), .bor [] (aD f.shape.co), .bor [] (ints f.sizes), .bor [] (aD f.acts),iv g.shape.ob, .bor [] (ints g.shape.fr), .bor [] (ints g.shape.to), .bor [] (ints g.shape.id), .bor [] (aD g.shape.co), .bor [] (ints g.sizes), .bor [] (aD g.acts), .v (.bool b),iv m, .dead] 16 (aU F)⟩),(1,⟨1, .arr (aD P)⟩)] (.tup [])
   [(0,⟨1, .bx [iv f.shape.ob, .bor [] (ints f.shape.fr), .bor [] (ints f.shape.to), .bor [] (ints f.shape.id), .bor [] (aD f.shape.co), .bor [] (ints f.sizes), .bor [] (aD f.acts),iv g.shape.ob, .bor [] (ints g.shape.fr), .bor [] (ints g.shape.to), .bor [] (ints g.shape.id), .bor [] (aD g.shape.co), .bor [] (ints g.sizes), .bor [] (aD g.acts), .v (.bool b),iv m, .dead] 16 (aU ((F++dfs f g b n P).take m))⟩),(1,⟨1, .gone⟩)]
 |0,_,_,_,hk,_=>by omega
 |n+1,F,P,hG,hk,hF=>by
  have hP:=hG.len
  have hR:=hG.row
  have t1:=h.src.szl
  have t2:=h.src.cat.ob8
  have hrow:∀y,y<P.length→(P.getD y []).length≤16:=fun y hy=>by
   have h1:=hR y hy
   have h2:=h.src.szw y (by omega)
   omega
  refine aE (E:=TE) 2 Tryz.func111 rfl (by simp [Tryz.f111]) fun X hn hX=>?_
  refine aI1 ?_
  have hcut:∀y d:Nat,y<P.length→d<(P.getD y []).length→(chI f g b y d P (g.sizes.getD y 0).toNat).length=0→(F++dfs f g b (n+1) P).take m=F:=fun y d hy hd hc0=>by
   have w:=h.tgt.szw y (by have:=h.tgt.szl;rw [←h.one]at this;omega)
   rw [aMc h hG hy hd fun u hu=>aJn hc0 u (by omega),List.append_nil,List.take_of_length_le (by omega)]
  cases hf:fuP P with
  |none=>
   repeat'(first|(refine bH 0 (Imp.openB 0 16 _ _ rfl (Nat.le_refl 1) rfl rfl) ?_;simp only [go_sem,simprocAttr,List.set_cons_succ,List.set_cons_zero])|(with_reducible first|refine St.f ?_|refine V_c ?_|refine eDn ?_|refine And.intro ?_ ?_|refine aI ?_ ?_|refine aL ?_)|((refine aQ ?_);intro K hK)|((with_reducible refine So.f ?_);intro K hK;simp(contextual:=true)only [go_sem,simprocAttr])|((with_reducible refine hK _ ?_);clear hK K)|(refine fun(hc:(_:Bool)=_)=>?_;try simp only [hcS]at hc))
   all_goals try exact om_
   refine aH (G:={i:Nat//i≤P.length∧(True)}) (fun⟨i,_⟩=>[(6,iv ((P.length:Int)-1-i)),(4,iv (pX (bkR P i))),(5,iv (pE (bkR P i)))]) [0,1] (fun⟨i,_⟩=>[]) [] (fun zz=>P.length-zz.1) ⟨0,Nat.zero_le _,by first|trivial|simp⟩ ?_ ?_
   ·exact Imp.au hX
   rintro⟨i,hii,hwi⟩
   simp only [go_sem,simprocAttr]
   have r1:=hrow (P.length-1-i)
   have r2:=hR (P.length-1-i)
   have r3:=fuP_none.1 hf (P.length-1-i)
   repeat'(first|(refine bH 10 (Imp.refl _ _) ?_;rw [show bkR P i=none from by rw [show i=P.length by omega,aGD];exact hf])|(with_reducible first|refine St.f ?_|refine V_c ?_|refine eDn ?_|refine And.intro ?_ ?_|refine aI ?_ ?_|refine aL ?_)|((refine aQ ?_);intro K hK)|((with_reducible refine So.f ?_);intro K hK;simp(contextual:=true)only [go_sem,simprocAttr])|((with_reducible refine hK _ ?_);clear hK K)|((with_reducible refine aC 186 ?_);refine EvCall.rq (a:=(iT (f:=f) (g:=g) (b:=b) (m:=m) (F:=F) (P:=P) (by first|omega|assumption|rfl) (by first|omega|assumption|rfl) (by first|omega|assumption|rfl) (by first|omega|assumption|rfl))) (b:=kK) (c:=?_);all_goals try simp only [go_sem,simprocAttr])|(refine fun(hc:(_:Bool)=_)=>?_;try simp only [hcS]at hc))
   all_goals try exact om_
   ·refine aH (G:={j:Nat//j≤(P.getD (P.length-1-i) []).length∧(True)}) (fun⟨j,_⟩=>[(7,iv (((P.getD (P.length-1-i) []).length:Int)-1-j)),(4,iv (pX (bkI P i j))),(5,iv (pE (bkI P i j)))]) [0,1,6] (fun⟨j,_⟩=>[]) [] (fun zz=>(P.getD (P.length-1-i) []).length-zz.1) ⟨0,Nat.zero_le _,by first|trivial|simp⟩ ?_ ?_
    ·exact Imp.au hX
    rintro⟨j,hij,hwj⟩
    simp only [go_sem,simprocAttr]
    repeat'(first|refine wkQ ?_|refine Tw.f ?_ ?_|(refine fun(hc:(_:Bool)=_)=>?_;try simp only [hcS]at hc))
    all_goals try exact om_
    ·exact absurd (r3 ((P.getD (P.length-1-i) []).length-1-j) (by omega) (by omega)) (by unfold pv;omega)
    ·have e1:=aDJ (P:=P) (i:=i) (j:=j) (by unfold pv;omega)
     have e2:((P.getD (P.length-1-i) []).length:Int)-1-((j:Int)+1)=(P.getD (P.length-1-i) []).length-1-(j:Int)-1:=by omega
     refine⟨⟨j+1,by omega,(by trivial)⟩,by simp only;omega,Imp.auto hX (by simp only [go_sem,simprocAttr,e1,e2])⟩
    ·have e1:bkI P i j=bkR P (i+1):=by rw [show j=(P.getD (P.length-1-i) []).length by omega];exact aGB
     have e2:(P.length:Int)-1-((i:Int)+1)=P.length-1-(i:Int)-1:=by omega
     refine⟨⟨i+1,by omega,(by trivial)⟩,by simp only;omega,Imp.auto hX (by simp only [go_sem,simprocAttr,e1,e2])⟩
   ·refine tI (Imp.closeB 0 4 16 _ _ rfl rfl rfl (by decide)) ?_
    rw [pD hf,List.take_of_length_le (show(F++[P]).length≤m by simp;omega)]
    (first|refine aB ?_|refine aA ?_);simp only [go_sem,simprocAttr,Tryz.f111]
  |some p=>
   obtain⟨x,e⟩:=p
   obtain⟨p1,p2,p3⟩:=pH hf
   have w1:=hR x p1
   have hob:f.shape.ob=g.shape.ob:=by rw [h.one]
   have hgl:=h.tgt.szl
   have w2:=h.tgt.szw x (by omega)
   have lc:=aGI f g b x e P (g.sizes.getD x 0).toNat
   have hdf:dfs f g b (n+1) P=jI f g b n x e P (chI f g b x e P (g.sizes.getD x 0).toNat):=by rw [pF hf,aBA]
   obtain⟨fd,hfd⟩:∃fd:Nat→List (List (List Int)),∀k,fd k=(F++jI f g b n x e P ((chI f g b x e P (g.sizes.getD x 0).toNat).take k)).take m:=⟨_,fun _=>rfl⟩
   have fd0:fd 0=F:=by rw [hfd,aDF,List.append_nil,List.take_of_length_le (by omega)]
   have fdl:∀k,(fd k).length≤m:=fun k=>by rw [hfd];simp only [List.length_take];omega
   have fdE:∀k,(chI f g b x e P (g.sizes.getD x 0).toNat).length≤k→fd k=(F++dfs f g b (n+1) P).take m:=fun k hk=>by rw [hfd,hdf,List.take_of_length_le hk]
   have fdS:∀k,¬(fd k).length<m→fd k=(F++dfs f g b (n+1) P).take m:=fun k hk=>by
    have e1:jI f g b n x e P (chI f g b x e P (g.sizes.getD x 0).toNat)=jI f g b n x e P ((chI f g b x e P (g.sizes.getD x 0).toNat).take k)++jI f g b n x e P ((chI f g b x e P (g.sizes.getD x 0).toNat).drop k):=by
     unfold jI
     rw [←List.flatMap_append,List.take_append_drop]
    rw [hfd]at hk
    rw [hdf,e1,←List.append_assoc,aIU _ _ hk,hfd]
   have hx1:0≤(x:Int)∧0≤(e:Int)∧(x:Int).toNat<f.sizes.length∧(e:Int)<f.sizes.getD (x:Int).toNat 0:=⟨by omega,by omega,by rw [Int.toNat_natCast];omega,by rw [Int.toNat_natCast];omega⟩
   repeat'(first|(refine bH 0 (Imp.openB 0 16 _ _ rfl (Nat.le_refl 1) rfl rfl) ?_;simp only [go_sem,simprocAttr])|(with_reducible first|refine St.f ?_|refine V_c ?_|refine eDn ?_|refine And.intro ?_ ?_|refine aI ?_ ?_|refine aL ?_)|((refine aQ ?_);intro K hK)|((with_reducible refine So.f ?_);intro K hK;simp(contextual:=true)only [go_sem,simprocAttr])|((with_reducible refine hK _ ?_);clear hK K)|(refine fun(hc:(_:Bool)=_)=>?_;try simp only [hcS]at hc))
   all_goals try exact om_
   refine aH (G:={i:Nat//i≤P.length∧(True)}) (fun⟨i,_⟩=>[(6,iv ((P.length:Int)-1-i)),(4,iv (pX (bkR P i))),(5,iv (pE (bkR P i)))]) [0,1] (fun⟨i,_⟩=>[]) [] (fun zz=>P.length-zz.1) ⟨0,Nat.zero_le _,by first|trivial|simp⟩ ?_ ?_
   ·exact Imp.au hX
   rintro⟨i,hii,hwi⟩
   simp only [go_sem,simprocAttr]
   have r1:=hrow (P.length-1-i)
   have r2:=hR (P.length-1-i)
   repeat'(first|(refine bH 10 (Imp.refl _ _) ?_;rw [show bkR P i=some (x,e) from by rw [show i=P.length by omega,aGD];exact hf])|(refine bH 13 (Imp.refl _ _) ?_;rw [←fd0])|(with_reducible first|refine St.f ?_|refine V_c ?_|refine eDn ?_|refine And.intro ?_ ?_|refine aI ?_ ?_|refine aL ?_)|((refine aQ ?_);intro K hK)|((with_reducible refine So.f ?_);intro K hK;simp(contextual:=true)only [go_sem,simprocAttr])|((with_reducible refine hK _ ?_);clear hK K)|((with_reducible refine aC 186 ?_);refine EvCall.rq (a:=(iT (f:=f) (g:=g) (b:=b) (m:=m) (F:=F) (P:=P) (by first|omega|assumption|rfl) (by first|omega|assumption|rfl) (by first|omega|assumption|rfl) (by first|omega|assumption|rfl))) (b:=kK) (c:=?_);all_goals try simp only [go_sem,simprocAttr])|(refine fun(hc:(_:Bool)=_)=>?_;try simp only [hcS]at hc))
   all_goals try exact om_
   ·refine aH (G:={j:Nat//j≤(P.getD (P.length-1-i) []).length∧(True)}) (fun⟨j,_⟩=>[(7,iv (((P.getD (P.length-1-i) []).length:Int)-1-j)),(4,iv (pX (bkI P i j))),(5,iv (pE (bkI P i j)))]) [0,1,6] (fun⟨j,_⟩=>[]) [] (fun zz=>(P.getD (P.length-1-i) []).length-zz.1) ⟨0,Nat.zero_le _,by first|trivial|simp⟩ ?_ ?_
    ·exact Imp.au hX
    rintro⟨j,hij,hwj⟩
    simp only [go_sem,simprocAttr]
    rcases Nat.lt_or_ge j (P.getD (P.length-1-i) []).length with hlt|hge
    ·have hx0:0≤(P.length:Int)-1-i∧0≤((P.getD (P.length-1-i) []).length:Int)-1-j∧((P.length:Int)-1-i).toNat<f.sizes.length∧((P.getD (P.length-1-i) []).length:Int)-1-j<f.sizes.getD ((P.length:Int)-1-i).toNat 0:=⟨by omega,by omega,by omega,by rw [aBb];omega⟩
     repeat'(first|refine wkQ ?_|refine Tw.f ?_ ?_|(refine kcQ kK ?_;refine ksQ (a:=iT (f:=f) (g:=g) (b:=b) (m:=m) (F:=F) (P:=P) (by first|omega|assumption|rfl) (by first|omega|assumption|rfl) (by first|omega|assumption|rfl) (by first|omega|assumption|rfl)) (c:=?_))|(refine fun(hc:(_:Bool)=_)=>?_;try simp only [hcS]at hc))
     all_goals try exact om_
     ·have e0:=hcut (P.length-1-i) ((P.getD (P.length-1-i) []).length-1-j) (by omega) (by omega) (by omega)
      refine tI (Imp.trans (Imp.closeB 0 2 16 _ _ rfl rfl rfl (by decide)) (Imp.drop 1 (Nat.succ_le_succ (Nat.zero_le _)))) ?_
      rw [e0]
      (first|refine aB ?_|refine aA ?_);simp only [go_sem,simprocAttr,Tryz.f111]
     ·have e1:pX (bkI P i (j+1))=(P.length:Int)-1-i:=by rw [aGC (by unfold pv;omega)];show((P.length-1-i:Nat):Int)=_;omega
      have e2:pE (bkI P i (j+1))=((P.getD (P.length-1-i) []).length:Int)-1-j:=by rw [aGC (by unfold pv;omega)];show(((P.getD (P.length-1-i) []).length-1-j:Nat):Int)=_;omega
      have e3:((P.getD (P.length-1-i) []).length:Int)-1-((j:Int)+1)=(P.getD (P.length-1-i) []).length-1-(j:Int)-1:=by omega
      refine⟨⟨j+1,by omega,(by trivial)⟩,by simp only;omega,Imp.auto hX (by simp only [go_sem,simprocAttr,e1,e2,e3])⟩
     ·have e1:=aDJ (P:=P) (i:=i) (j:=j) (by unfold pv;omega)
      have e2:((P.getD (P.length-1-i) []).length:Int)-1-((j:Int)+1)=(P.getD (P.length-1-i) []).length-1-(j:Int)-1:=by omega
      refine⟨⟨j+1,by omega,(by trivial)⟩,by simp only;omega,Imp.auto hX (by simp only [go_sem,simprocAttr,e1,e2])⟩
    ·repeat'(first|refine wkQ ?_|refine Tw.f ?_ ?_|(refine fun(hc:(_:Bool)=_)=>?_;try simp only [hcS]at hc))
     all_goals try exact om_
     ·have e1:bkI P i j=bkR P (i+1):=by rw [show j=(P.getD (P.length-1-i) []).length by omega];exact aGB
      have e2:(P.length:Int)-1-((i:Int)+1)=P.length-1-(i:Int)-1:=by omega
      refine⟨⟨i+1,by omega,(by trivial)⟩,by simp only;omega,Imp.auto hX (by simp only [go_sem,simprocAttr,e1,e2])⟩
   ·refine aH (G:={k:Nat//k≤(chI f g b x e P (g.sizes.getD x 0).toNat).length∧(True)}) (fun⟨k,_⟩=>[(9,iv k)]) [0,1,4,5,8] (fun⟨k,_⟩=>[(2,⟨1, .arr (aU (fd k))⟩)]) [2] (fun zz=>(chI f g b x e P (g.sizes.getD x 0).toNat).length-zz.1) ⟨0,Nat.zero_le _,by first|trivial|simp⟩ ?_ ?_
    ·exact Imp.au hX
    rintro⟨k,hik,hwk⟩
    simp only [go_sem,simprocAttr]
    have l1:=fdl k
    rcases Nat.lt_or_ge k (chI f g b x e P (g.sizes.getD x 0).toNat).length with hlt|hge
    ·obtain⟨u,hu,eu,Q,hQ⟩:=aL4 hlt
     obtain⟨g1,g2,g3⟩:=mT h hG p1 p2 (by omega) hQ
     have g4:=aFU g2 p1 p2 p3 (by rw [g3];omega)
     have fdn:(fd k++dfs f g b n Q).take m=fd (k+1):=by rw [hfd,hfd,aDE hlt,eu,Int.toNat_natCast,kH hQ,take_take]
     rcases Nat.lt_or_ge (fd k).length m with hl2|hg2
     ·have sp_l19Go:=aAS h hm n (fd k) Q g1 (by omega) hl2
      rw [fdn]at sp_l19Go
      have q1:(e:Int)<f.sizes.getD x 0:=by omega
      have q2:(u:Int)<g.sizes.getD x 0:=by omega
      repeat'(first|(refine bH 17 (Imp.closeB 0 2 16 _ _ rfl rfl rfl (by decide)) ?_;simp only [go_sem,simprocAttr])|(refine bH 15 (Imp.openB 0 16 _ _ rfl (Nat.succ_le_succ (Nat.zero_le _)) rfl rfl) ?_;simp only [go_sem,simprocAttr])|(with_reducible first|refine St.f ?_|refine V_c ?_|refine eDn ?_|refine And.intro ?_ ?_|refine aI ?_ ?_|refine aL ?_)|((refine aQ ?_);intro K hK)|((with_reducible refine So.f ?_);intro K hK;simp(contextual:=true)only [go_sem,simprocAttr])|((with_reducible refine hK _ ?_);clear hK K)|((with_reducible refine aC 187 ?_);refine EvCall.rq (a:=(aDk (f:=f) (g:=g) (b:=b) (m:=m) (F:=fd k) (P:=P) (Q:=Q) (x:=x) (e:=e) (u:=u) (by first|omega|assumption|rfl) (by first|omega|assumption|rfl) (by first|omega|assumption|rfl) (by first|omega|assumption|rfl) (by first|omega|assumption|rfl) (by first|omega|assumption|rfl) (by first|omega|assumption|rfl))) (b:=rO) (c:=?_);all_goals try simp only [go_sem,simprocAttr])|((with_reducible refine aC 111 ?_);refine EvCall.mr (sp_l19Go) aBD [(0,0),(1,4)] [] ?_)|(refine fun(hc:(_:Bool)=_)=>?_;try simp only [hcS]at hc))
      all_goals try exact om_
      ·refine⟨⟨k+1,by omega,(by trivial)⟩,by simp only;omega,Imp.ao hX⟩
     ·repeat'(first|refine wkQ ?_|refine Tw.f ?_ ?_|(refine fun(hc:(_:Bool)=_)=>?_;try simp only [hcS]at hc))
      all_goals try exact om_
      ·refine tI (Imp.trans (Imp.closeB 0 2 16 _ _ rfl rfl rfl (by decide)) (Imp.drop 1 (Nat.succ_le_succ (Nat.zero_le _)))) ?_
       rw [fd0,←fdS k (by omega)]
       (first|refine aB ?_|refine aA ?_);simp only [go_sem,simprocAttr,Tryz.f111]
    ·repeat'(first|refine wkQ ?_|refine Tw.f ?_ ?_|(refine fun(hc:(_:Bool)=_)=>?_;try simp only [hcS]at hc))
     all_goals try exact om_
     ·refine tI (Imp.trans (Imp.closeB 0 2 16 _ _ rfl rfl rfl (by decide)) (Imp.drop 1 (Nat.succ_le_succ (Nat.zero_le _)))) ?_
      rw [fd0,←fdE k (by omega)]
      (first|refine aB ?_|refine aA ?_);simp only [go_sem,simprocAttr,Tryz.f111]
end Go.Eng
