/- Set functors that are drawn: what is known of them. -/
import Derived.Test.YtipohdpnhodnmaaGreatKcax
import Derived.Test.YtipohdpnhodnmaaGreatE05q
set_option linter.unusedSimpArgs false
set_option linter.unusedVariables false
set_option maxRecDepth 100000
set_option maxHeartbeats 32000000
namespace Go.Eng
open Go Go.Proofs Go.Cats
attribute [local go_sem] List.set_cons_zero List.set_cons_succ
structure PrOk (f:SF) (P:List (List (List Int))) (k:Nat):Prop where
 len:P.length=f.sizes.length
 row:∀x,x<P.length→xP (f.sizes.getD x 0).toNat (P.getD x [])∧(P.getD x []).length+k≤8
theorem PrOk.nil (f:SF) {n k:Nat} (h:n=f.sizes.length) (hk:k≤8):PrOk f (List.replicate n []) k:=by
 refine⟨by rw [List.length_replicate];exact h,fun x hx=>?_⟩
 have e:(List.replicate n ([]:List (List Int))).getD x []=[]:=by
  rw [List.getD_eq_getElem?_getD,List.getElem?_replicate]
  split<;>rfl
 rw [e]
 exact⟨fun k hk=>absurd hk (Nat.not_lt_zero k),by simpa using hk⟩
theorem PrOk.less {f:SF} {P:List (List (List Int))} {k:Nat} (h:PrOk f P (k+1)):PrOk f P k:=⟨h.len,fun x hx=>⟨(h.row x hx).1,by have:=(h.row x hx).2;omega⟩⟩
theorem PrOk.add {f:SF} {P:List (List (List Int))} {k x:Nat} {u v:Int} (h:PrOk f P (k+1)) (hx:x<P.length) (u0:0≤u) (u1:u<f.sizes.getD x 0) (v0:0≤v) (v1:v<f.sizes.getD x 0):PrOk f (P.set x (P.getD x []++[[u,v]])) k:=by
 refine⟨by rw [List.length_set];exact h.len,fun y hy=>?_⟩
 rw [List.length_set]at hy
 by_cases e:x=y
 ·subst e
  obtain⟨h1,h2⟩:=h.row x hx
  have ea:(P.set x (P.getD x []++[[u,v]])).getD x []=P.getD x []++[[u,v]]:=by rw [List.getD_eq_getElem?_getD,List.getElem?_set_self hx];rfl
  rw [ea]
  have hl:(P.getD x []++[[u,v]]).length=(P.getD x []).length+1:=by rw [List.length_append];rfl
  refine⟨fun j hj=>?_,by omega⟩
  rw [hl]at hj
  by_cases q:j<(P.getD x []).length
  ·rw [List.getD_eq_getElem?_getD,List.getElem?_append_left q,←List.getD_eq_getElem?_getD]
   exact h1 j q
  ·obtain rfl:j=(P.getD x []).length:=by omega
   rw [List.getD_eq_getElem?_getD (l:=P.getD x []++[[u,v]]),List.getElem?_append_right (Nat.le_refl _),Nat.sub_self]
   exact⟨rfl,⟨u0,by show u<_;omega⟩,v0,by show v<_;omega⟩
 ·have ea:(P.set x (P.getD x []++[[u,v]])).getD y []=P.getD y []:=by rw [List.getD_eq_getElem?_getD,List.getElem?_set_ne e,←List.getD_eq_getElem?_getD]
  rw [ea]
  obtain⟨h1,h2⟩:=h.row y hy
  exact⟨h1,by omega⟩
theorem aC7:aF Tryz.prog 96:=⟨_,Tryz.func96,rfl,rfl⟩
theorem aCH {s:RnS} {c:Cat} {size:Int} (hs:RnOk s) (hS:Shape c) (hb:CatB c) (h2:2≤size) (h16:size≤16):
  SpecE Tryz.prog 96 [.ptr 0 0,jX c,iv size] [(0,bB s)] (fun z:SF×RnS=>Loose z.1∧z.1.shape=c∧RnOk z.2) (fun z=>sfO 1 z.1) (fun z=>(0,bB z.2)::sfQ 1 z.1):=by
 have o0:=hS.ob0
 have o8:=hS.ob8
 have m40:=hS.m40
 have m2:(if(2:Int)<size then 2 else size)=2:=by split<;>omega
 refine iO (E:=TE) 1 Tryz.func96 rfl (by simp [Tryz.f96]) fun X hn hX=>?_
 repeat'(first|(with_reducible first|refine St.f ?_|refine V_c ?_|refine eDn ?_|refine And.intro ?_ ?_|refine aI ?_ ?_|refine aN ?_)|((refine aQ ?_);intro K hK)|((with_reducible refine So.f ?_);intro K hK;simp(contextual:=true)only [go_sem,simprocAttr])|((with_reducible refine hK _ ?_);clear hK K)|(refine fun(hc:(_:Bool)=_)=>?_;try simp only [hcS]at hc))
 all_goals try exact om_
 all_goals try(exfalso;omega)
 refine aG (G:={p:Nat×RnS//p.1≤6∧RnOk p.2}) (fun p=>[(7,iv p.1.1)]) [0,2,4,6] (fun p=>[(0,bB p.1.2)]) [0] (fun p=>6-p.1.1) ⟨(0,s),Nat.zero_le _,hs⟩ ?_ ?_
 ·exact Imp.au hX
 clear hs
 rintro⟨⟨i,s⟩,hi0,hs⟩
 simp only at hi0 hs
 simp only [go_sem,simprocAttr]
 rcases Nat.lt_or_ge i 6 with hi|hi
 ·have hA:=aP (n:=4) hs
  have hA1:=aM (n:=4) hs
  have hA2:=aV (n:=4) hs (by decide)
  generalize aL s 4=s1 at hA hA1
  generalize aK s 4=k1 at hA hA2
  obtain⟨k,rfl⟩:∃k:Nat,k1=k:=⟨_,(Int.toNat_of_nonneg hA2.1).symm⟩
  repeat'(first|(with_reducible first|refine St.f ?_|refine V_c ?_|refine eDn ?_|refine And.intro ?_ ?_|refine aI ?_ ?_|refine aN ?_)|((refine aQ ?_);intro K hK)|((with_reducible refine So.f ?_);intro K hK;simp(contextual:=true)only [go_sem,simprocAttr])|((with_reducible refine hK _ ?_);clear hK K)|((with_reducible refine aE 42 ?_);refine EvCall.mr (hA) aH [(0,0)] [] ?_)|(refine fun(hc:(_:Bool)=_)=>?_;try simp only [hcS]at hc))
  all_goals try exact om_
  all_goals try(exfalso;omega)
  refine aG (G:={p:Nat×RnS×List Int//RnOk p.2.1∧p.2.2.length+p.1≤3}) (fun p=>[(9,iv p.1.1),(8, .sl 3)]) [0,2,4,6,7] (fun p=>[(0,bB p.1.2.1),(3,⟨1, .arr (ints p.1.2.2)⟩)]) [0,3] (fun p=>p.1.1) ⟨(k,s1,[]),hA1,by simp;omega⟩ ?_ ?_
  ·exact Imp.au hX
  clear hA hA1 hA2 hs
  rintro⟨⟨k,s,O⟩,hs,hO⟩
  simp only at hs hO
  simp only [go_sem,simprocAttr]
  by_cases hk:0<k∧0<c.ob
  ·obtain⟨k,rfl⟩:∃j,k=j+1:=⟨k-1,by omega⟩
   have hA:=aP (n:=c.ob) hs
   have hA1:=aM (n:=c.ob) hs
   generalize aL s c.ob=s1 at hA hA1
   generalize aK s c.ob=o1 at hA
   repeat'(first|(with_reducible first|refine St.f ?_|refine V_c ?_|refine eDn ?_|refine And.intro ?_ ?_|refine aI ?_ ?_|refine aN ?_)|((refine aQ ?_);intro K hK)|((with_reducible refine So.f ?_);intro K hK;simp(contextual:=true)only [go_sem,simprocAttr])|((with_reducible refine hK _ ?_);clear hK K)|((with_reducible refine aE 42 ?_);refine EvCall.mr (hA) aH [(0,0)] [] ?_)|(refine fun(hc:(_:Bool)=_)=>?_;try simp only [hcS]at hc))
   all_goals try exact om_
   all_goals try(exfalso;omega)
   refine⟨⟨(k,s1,O++[o1]),hA1,by simp;omega⟩,by simp only;omega,Imp.auto hX (by simp only [go_sem,simprocAttr,Int.add_sub_cancel])⟩
  ·have hF:=aEX (c:=c) (O:=O) hS (by omega)
   have hFr:=aAq (c:=c) (O:=O) hS hb (by omega)
   have hFs:(aJa c O).shape=c:=rfl
   generalize aJa c O=f at hF hFr hFs
   have fz:=hF.szl
   rw [hFs]at fz
   have hB:=aP (n:=4) hs
   have hB1:=aM (n:=4) hs
   have hB2:=aV (n:=4) hs (by decide)
   generalize aL s 4=s2 at hB hB1
   generalize aK s 4=k2 at hB hB2
   obtain⟨k3,rfl⟩:∃k:Nat,k2=k:=⟨_,(Int.toNat_of_nonneg hB2.1).symm⟩
   repeat'(first|((with_reducible refine(id ?_:V _ _ (Code.region 8 _ _) _ _));exfalso;omega)|(refine dG 11 (Imp.nilsR 11 c.ob.toNat 1 rfl) ?_;simp only [go_sem,simprocAttr])|(with_reducible first|refine St.f ?_|refine V_c ?_|refine eDn ?_|refine And.intro ?_ ?_|refine aI ?_ ?_|refine aN ?_)|((refine aQ ?_);intro K hK)|((with_reducible refine So.f ?_);intro K hK;simp(contextual:=true)only [go_sem,simprocAttr])|((with_reducible refine hK _ ?_);clear hK K)|((with_reducible refine aE 123 ?_);refine EvCall.mr (hFr) vA [(0,4),(1,5),(2,6),(3,7),(4,8),(5,9)] [3] ?_)|((with_reducible refine aE 42 ?_);refine EvCall.mr (hB) aH [(0,0)] [] ?_)|(refine fun(hc:(_:Bool)=_)=>?_;try simp only [hcS]at hc))
   all_goals try exact om_
   all_goals try(exfalso;omega)
   all_goals
    try(refine cZ (Imp.nilsR 11 c.ob.toNat 1 rfl) ?_)
    refine aG (G:={p:Nat×RnS×List (List (List Int))//RnOk p.2.1∧PrOk f p.2.2 p.1∧p.1≤3}) (fun p=>[(12,iv p.1.1),(11, .sl 11),(8, .sl 3)]) [0,2,4,6,7,10,26,27,28] (fun p=>[(0,bB p.1.2.1),(11,⟨1, .arr (bH p.1.2.2)⟩)]) [0,11] (fun p=>p.1.1) ⟨(k3,s2,List.replicate c.ob.toNat []),hB1,PrOk.nil f fz.symm (by omega),by simp only;omega⟩ ?_ ?_
    ·exact Imp.au hX
    clear hB hB1 hB2 hs
    rintro⟨⟨k,s,P⟩,hs,hP,hk3⟩
    simp only at hs hP hk3
    simp only [go_sem,simprocAttr]
    have pl:=hP.len
    by_cases hk4:0<k∧0<c.ob
    ·obtain⟨k,rfl⟩:∃j,k=j+1:=⟨k-1,by omega⟩
     have hA:=aP (n:=c.ob) hs
     have hA1:=aM (n:=c.ob) hs
     have hA2:=aV (n:=c.ob) hs (by omega)
     generalize aL s c.ob=s1 at hA hA1
     generalize aK s c.ob=x1 at hA hA2
     obtain⟨x,rfl⟩:∃x:Nat,x1=x:=⟨_,(Int.toNat_of_nonneg hA2.1).symm⟩
     by_cases hz:1<f.sizes.getD x 0
     ·have h1:=aP (n:=f.sizes.getD x 0) hA1
      have h11:=aM (n:=f.sizes.getD x 0) hA1
      have h12:=aV (n:=f.sizes.getD x 0) hA1 (by omega)
      generalize aL s1 (f.sizes.getD x 0)=s4 at h1 h11
      generalize aK s1 (f.sizes.getD x 0)=u at h1 h12
      have h3:=aP (n:=f.sizes.getD x 0) h11
      have h31:=aM (n:=f.sizes.getD x 0) h11
      have h32:=aV (n:=f.sizes.getD x 0) h11 (by omega)
      generalize aL s4 (f.sizes.getD x 0)=s5 at h3 h31
      generalize aK s4 (f.sizes.getD x 0)=v at h3 h32
      have hr:=(hP.row x (by omega)).2
      have hP2:=hP.add (x:=x) (u:=u) (v:=v) (by omega) h12.1 h12.2 h32.1 h32.2
      repeat'(first|(refine dG 16 (Imp.open_ 11 x (bH P) [] (.inr ⟨rfl,rfl⟩) (Nat.le_refl 1) (by simp only [go_sem];omega) rfl (by simp only [go_sem]) rfl) ?_;simp only [go_sem,simprocAttr])|(with_reducible first|refine St.f ?_|refine V_c ?_|refine eDn ?_|refine And.intro ?_ ?_|refine aI ?_ ?_|refine aN ?_)|((refine aQ ?_);intro K hK)|((with_reducible refine So.f ?_);intro K hK;simp(contextual:=true)only [go_sem,simprocAttr])|((with_reducible refine hK _ ?_);clear hK K)|((with_reducible refine aE 42 ?_);refine EvCall.mr (hA) aH [(0,0)] [] ?_;clear hA)|((with_reducible refine aE 42 ?_);refine EvCall.mr (h1) aH [(0,0)] [] ?_;clear h1)|((with_reducible refine aE 42 ?_);refine EvCall.mr (h3) aH [(0,0)] [] ?_)|(refine fun(hc:(_:Bool)=_)=>?_;try simp only [hcS]at hc))
      all_goals try exact om_
      all_goals try(exfalso;omega)
      all_goals refine⟨⟨(k,s5,P.set x (P.getD x []++[[u,v]])),h31,hP2,by simp only;omega⟩,by simp only;omega,Imp.auto hX (by simp only [go_sem,simprocAttr,Int.add_sub_cancel])⟩
     ·repeat'(first|((with_reducible refine(id ?_:V _ _ (Code.region 16 _ _) _ _));exfalso;omega)|(with_reducible first|refine St.f ?_|refine V_c ?_|refine eDn ?_|refine And.intro ?_ ?_|refine aI ?_ ?_|refine aN ?_)|((refine aQ ?_);intro K hK)|((with_reducible refine So.f ?_);intro K hK;simp(contextual:=true)only [go_sem,simprocAttr])|((with_reducible refine hK _ ?_);clear hK K)|((with_reducible refine aE 42 ?_);refine EvCall.mr (hA) aH [(0,0)] [] ?_)|(refine fun(hc:(_:Bool)=_)=>?_;try simp only [hcS]at hc))
      all_goals try exact om_
      all_goals try(exfalso;omega)
      all_goals refine⟨⟨(k,s1,P),hA1,hP.less,by simp only;omega⟩,by simp only;omega,Imp.auto hX (by simp only [go_sem,simprocAttr,Int.add_sub_cancel])⟩
    ·have hG:=aCG (f:=f) (P:=P) hF (by rw [hFs];exact hb) (by rw [pl,fz,hFs]) (fun x hx=>⟨(hP.row x hx).1,by have:=(hP.row x hx).2;omega⟩)
     repeat'(first|((with_reducible refine(id ?_:V _ _ (Code.region 14 _ _) _ _));exfalso;omega)|((with_reducible refine(id ?_:V _ _ (Code.region 17 _ _) _ _));refine gY 17 (by rw [hn];rfl) ?_;intro K hK)|(refine kC hG aC5 [(0,12),(1,13),(2,14),(3,15),(4,16),(5,17)] [4,5,6,7,8,9,11] (by simp only [go_sem,simprocAttr];rfl) (by simp [go_sem]) (by simp [go_sem]<;>(repeat'(first|rfl|constructor))) ?_;intro g hg;simp only [go_sem,simprocAttr])|((with_reducible refine iW ?_);intro K hK;simp(contextual:=true)only [go_sem,simprocAttr])|(with_reducible refine eZ ?_)|(with_reducible first|refine St.f ?_|refine V_c ?_|refine eDn ?_|refine And.intro ?_ ?_|refine aI ?_ ?_|refine aN ?_)|((refine aQ ?_);intro K hK)|((with_reducible refine So.f ?_);intro K hK;simp(contextual:=true)only [go_sem,simprocAttr])|((with_reducible refine hK _ ?_);clear hK K)|(refine fun(hc:(_:Bool)=_)=>?_;try simp only [hcS]at hc))
     all_goals try exact om_
     all_goals try(exfalso;omega)
     all_goals
      obtain⟨g1,g2,g3⟩:=hg
      have gl:=g1.szl
      rw [g2,hFs]at gl
      refine cZ (Imp.drop 4 (Nat.succ_le_succ (Nat.zero_le _))) ?_
      refine cZ (Imp.drop 5 (Nat.succ_le_succ (Nat.zero_le _))) ?_
      refine cZ (Imp.drop 6 (Nat.succ_le_succ (Nat.zero_le _))) ?_
      refine cZ (Imp.drop 7 (Nat.succ_le_succ (Nat.zero_le _))) ?_
      refine cZ (Imp.drop 8 (Nat.succ_le_succ (Nat.zero_le _))) ?_
      refine cZ (Imp.drop 9 (Nat.succ_le_succ (Nat.zero_le _))) ?_
      simp only [go_sem,simprocAttr]
      refine aG (G:={p:Nat×Bool//p.1≤g.sizes.length}) (fun p=>[(15,iv p.1.1),(14, .v (.bool p.1.2)),(8, .sl 3),(11, .sl 11)]) [0,2,4,6,7,10,26,27,28,50,51,52] (fun p=>[]) [] (fun p=>g.sizes.length-p.1.1) ⟨(0,true),Nat.zero_le _⟩ ?_ ?_
      ·exact Imp.au hX
      rintro⟨⟨x,b⟩,hx0⟩
      simp only at hx0
      simp only [go_sem,simprocAttr]
      rcases Nat.lt_or_ge x g.sizes.length with hx|hx
      ·cases b with
       |true=>
        repeat'(first|(with_reducible first|refine St.f ?_|refine V_c ?_|refine eDn ?_|refine And.intro ?_ ?_|refine aI ?_ ?_|refine aN ?_)|((refine aQ ?_);intro K hK)|((with_reducible refine So.f ?_);intro K hK;simp(contextual:=true)only [go_sem,simprocAttr])|((with_reducible refine hK _ ?_);clear hK K)|(refine fun(hc:(_:Bool)=_)=>?_;try simp only [hcS]at hc))
        all_goals try exact om_
        all_goals try(exfalso;omega)
        all_goals refine⟨⟨(x+1,decide (g.sizes.getD x 0≤size)),by simp only;omega⟩,by simp only;omega,Imp.ao hX⟩
       |false=>
        repeat'(first|(with_reducible first|refine St.f ?_|refine V_c ?_|refine eDn ?_|refine And.intro ?_ ?_|refine aI ?_ ?_|refine aN ?_)|((refine aQ ?_);intro K hK)|((with_reducible refine So.f ?_);intro K hK;simp(contextual:=true)only [go_sem,simprocAttr])|((with_reducible refine hK _ ?_);clear hK K)|(refine fun(hc:(_:Bool)=_)=>?_;try simp only [hcS]at hc))
        all_goals try exact om_
        all_goals try(exfalso;omega)
        all_goals refine⟨⟨(x+1,false),by simp only;omega⟩,by simp only;omega,Imp.ao hX⟩
      ·cases b with
       |true=>
        repeat'(first|(with_reducible first|refine St.f ?_|refine V_c ?_|refine eDn ?_|refine And.intro ?_ ?_|refine aI ?_ ?_|refine aN ?_)|((refine aQ ?_);intro K hK)|((with_reducible refine So.f ?_);intro K hK;simp(contextual:=true)only [go_sem,simprocAttr])|((with_reducible refine hK _ ?_);clear hK K)|(refine fun(hc:(_:Bool)=_)=>?_;try simp only [hcS]at hc))
        all_goals try exact om_
        all_goals try(exfalso;omega)
        refine⟨(g,s),⟨g1,by rw [g2,hFs],hs⟩,?_⟩
        (first|refine aB ?_|refine aA ?_);simp only [go_sem,simprocAttr,Tryz.f96]
        all_goals repeat'(first|rfl|constructor)
       |false=>
        repeat'(first|(with_reducible first|refine St.f ?_|refine V_c ?_|refine eDn ?_|refine And.intro ?_ ?_|refine aI ?_ ?_|refine aN ?_)|((refine aQ ?_);intro K hK)|((with_reducible refine So.f ?_);intro K hK;simp(contextual:=true)only [go_sem,simprocAttr])|((with_reducible refine hK _ ?_);clear hK K)|(refine fun(hc:(_:Bool)=_)=>?_;try simp only [hcS]at hc))
        all_goals try exact om_
        all_goals try(exfalso;omega)
        all_goals refine⟨⟨(i+1,s),by simp only;omega,hs⟩,by simp only;omega,Imp.ao hX⟩
 ·have hA:=aP (n:=(if(2:Int)<size then 2 else size)+1) hs
  have hA1:=aM (n:=(if(2:Int)<size then 2 else size)+1) hs
  have hA2:=aV (n:=(if(2:Int)<size then 2 else size)+1) hs (by rw [m2];decide)
  generalize aL s ((if(2:Int)<size then 2 else size)+1)=s1 at hA hA1
  generalize aK s ((if(2:Int)<size then 2 else size)+1)=k1 at hA hA2
  rw [m2]at hA2
  obtain⟨k,rfl⟩:∃k:Nat,k1=k:=⟨_,(Int.toNat_of_nonneg hA2.1).symm⟩
  have hC:=aAp (c:=c) (n:=k) hS hb (by omega)
  have hCl:=aES (c:=c) (n:=k) hS (by omega)
  have hCs:(aIN c k).shape=c:=rfl
  generalize aIN c k=g at hC hCl hCs
  repeat'(first|((with_reducible refine(id ?_:V _ _ (Code.region 5 _ _) _ _));exfalso;omega)|(refine aJo (by simp only [go_sem,simprocAttr];rfl) (by simp only [go_sem,simprocAttr];rfl) ?_;simp only [go_sem,simprocAttr])|(with_reducible first|refine St.f ?_|refine V_c ?_|refine eDn ?_|refine And.intro ?_ ?_|refine aI ?_ ?_|refine aN ?_)|((refine aQ ?_);intro K hK)|((with_reducible refine So.f ?_);intro K hK;simp(contextual:=true)only [go_sem,simprocAttr])|((with_reducible refine hK _ ?_);clear hK K)|((with_reducible refine aE 42 ?_);refine EvCall.mr (hA) aH [(0,0)] [] ?_)|((with_reducible refine aE 175 ?_);refine EvCall.mr (hC) vR [(0,3),(1,4),(2,5),(3,6),(4,7),(5,8)] [] ?_)|(refine fun(hc:(_:Bool)=_)=>?_;try simp only [hcS]at hc))
  all_goals try exact om_
  all_goals try(exfalso;omega)
  refine⟨(g,s1),⟨hCl,hCs,hA1⟩,?_⟩
  (first|refine aB ?_|refine aA ?_);simp only [go_sem,simprocAttr,Tryz.f96]
  all_goals repeat'(first|rfl|constructor)
end Go.Eng
