/- Glued set functors, by the reference: what comes out. -/
import Derived.Test.YtipohdpnhodnmaaGreatKny
set_option linter.unusedSimpArgs false
set_option linter.unusedVariables false
set_option maxRecDepth 100000
set_option maxHeartbeats 32000000
namespace Go.Eng
open Go Go.Proofs Go.Cats
attribute [local go_sem] List.set_cons_zero List.set_cons_succ aDS
theorem aB4:aF Tryz.prog 230:=⟨_,Tryz.func230,rfl,rfl⟩
theorem aEa {L:List Int} (hl:L.length≤1048576):Spec Tryz.prog 230 [.bor [] (ints L)] [] (.sl 0) [(0,⟨1, .arr (aC (bR L L.length))⟩)]:=by
 refine aD (E:=TE) 0 Tryz.func230 rfl (by simp [Tryz.f230]) fun X hn hX=>?_
 repeat'(first|refine wkQ ?_|refine Tw.f ?_ ?_|(refine fun(hc:(_:Bool)=_)=>?_;try simp only [hcS]at hc))
 all_goals try exact om_
 refine aG (G:={i:Nat//i≤L.length∧(True)}) (fun⟨i,_⟩=>[(4,iv i),(3, .sl 0)]) [0,2] (fun⟨i,_⟩=>[(0,⟨1, .arr (aC (bR L i))⟩)]) [0] (fun zz=>L.length-zz.1) ⟨0,Nat.zero_le _,by first|trivial|simp⟩ ?_ ?_
 ·exact Imp.au hX
 rintro⟨i,hii,hwi⟩
 simp only [go_sem,simprocAttr]
 have pl:=iJ (L:=L) (i:=i)
 rcases Nat.lt_or_ge i L.length with hlt|hge
 ·have e1:=aDR (L:=L) (i:=i)
  repeat'(first|refine wkQ ?_|refine Tw.f ?_ ?_|(refine kcQ jF ?_;refine krQ (lL (l:=L) (n:=L.getD i 0) ?_) ?_)|(refine fun(hc:(_:Bool)=_)=>?_;try simp only [hcS]at hc))
  all_goals try exact om_
  all_goals try(exfalso;omega)
  refine⟨⟨i+1,by omega,(by trivial)⟩,by simp only;omega,Imp.auto hX (by simp only [go_sem,simprocAttr,e1])⟩
 ·obtain rfl:i=L.length:=by omega
  repeat'(first|refine wkQ ?_|refine Tw.f ?_ ?_|(refine fun(hc:(_:Bool)=_)=>?_;try simp only [hcS]at hc))
  all_goals try exact om_
  all_goals try(exfalso;omega)
  (first|refine aB ?_|refine aA ?_);simp only [go_sem,simprocAttr,Tryz.f230]
section
variable {f:SF} {C:List (List Int)} {P:List (List (List Int))} {l r Cx Cy:List Int} {i j n:Nat} {m:Int}
theorem xM:∀i j:Nat,j<i→l.getD j 0<topI l i
 |0,j,h=>absurd h (Nat.not_lt_zero j)
 |i+1,j,h=>by
  rw [aBP]
  by_cases e:j=i
  ·subst e;split<;>omega
  ·have:=xM i j (by omega)
   split<;>omega
def clT (f:SF) (P:List (List (List Int))) (i:Nat):List (List Int):=(List.range i).map fun x=>gW (f.sizes.getD x 0).toNat (P.getD x [])
theorem aIL:clT f P 0=[]:=rfl
theorem aIK:clT f P (i+1)=clT f P i++[gW (f.sizes.getD i 0).toNat (P.getD i [])]:=by unfold clT;rw [List.range_succ,List.map_append];rfl
theorem aCb:(clT f P i).length=i:=by unfold clT;rw [List.length_map,List.length_range]
theorem aOj (h:j<i):(clT f P i).getD j []=gW (f.sizes.getD j 0).toNat (P.getD j []):=by unfold clT;rw [List.getD_eq_getElem?_getD,List.getElem?_map,List.getElem?_range h];rfl
theorem aOk (h:Loose f):GlOk f (clT f P f.sizes.length):=by
 refine⟨aCb,fun x hx=>?_⟩
 rw [aCb]at hx
 have:=h.szw x hx
 rw [aOj hx,tU]
 have w:=aDs (n:=(f.sizes.getD x 0).toNat) (ps:=P.getD x [])
 rw [Int.toNat_of_nonneg this.1]at w
 exact⟨by omega,w⟩
def glS (C:List (List Int)) (i:Nat):List Int:=(List.range i).map fun x=>topI (C.getD x []) (C.getD x []).length
theorem aJg:glS C 0=[]:=rfl
theorem aJf:glS C (i+1)=glS C i++[topI (C.getD i []) (C.getD i []).length]:=by unfold glS;rw [List.range_succ,List.map_append];rfl
theorem wW:(glS C i).length=i:=by unfold glS;rw [List.length_map,List.length_range]
theorem yQ (h:j<i):(glS C i).getD j 0=topI (C.getD j []) (C.getD j []).length:=by unfold glS;rw [List.getD_eq_getElem?_getD,List.getElem?_map,List.getElem?_range h];rfl
def glR (Cx Cy r:List Int) (n:Nat):Nat→List Int
 |0=>List.replicate n 0
 |e+1=>(glR Cx Cy r n e).set (Cx.getD e 0).toNat (Cy.getD (r.getD e 0).toNat 0)
theorem aDr:glR Cx Cy r n 0=List.replicate n 0:=rfl
theorem yP:glR Cx Cy r n (i+1)=(glR Cx Cy r n i).set (Cx.getD i 0).toNat (Cy.getD (r.getD i 0).toNat 0):=rfl
theorem mW:∀i,(glR Cx Cy r n i).length=n
 |0=>List.length_replicate
 |i+1=>by rw [yP,List.length_set,mW i]
theorem aJe (h0:0<m∨n=0):∀i,(∀e,e<i→0≤Cy.getD (r.getD e 0).toNat 0∧Cy.getD (r.getD e 0).toNat 0<m)→Within (glR Cx Cy r n i) m
 |0,_=>fun j hj=>by
  rw [mW]at hj
  rw [aDr,aCc hj]
  rcases h0 with h0|h0<;>omega
 |i+1,h=>fun j hj=>by
  have ih:=aJe h0 i fun e he=>h e (by omega)
  rw [mW]at hj
  rw [yP,List.getD_eq_getElem?_getD,List.getElem?_set]
  split
  ·rw [if_pos (by rw [mW];omega)]
   exact h i (by omega)
  ·rw [←List.getD_eq_getElem?_getD]
   exact ih j (by rw [mW];exact hj)
def aBp (f:SF) (C:List (List Int)) (a:Nat):List Int:=glR (C.getD (f.shape.fr.getD a 0).toNat []) (C.getD (f.shape.to.getD a 0).toNat []) (f.acts.getD a []) (topI (C.getD (f.shape.fr.getD a 0).toNat []) (C.getD (f.shape.fr.getD a 0).toNat []).length).toNat (C.getD (f.shape.fr.getD a 0).toNat []).length
def glA (f:SF) (C:List (List Int)) (i:Nat):List (List Int):=(List.range i).map (aBp f C)
theorem aJd:glA f C 0=[]:=rfl
theorem aJc:glA f C (i+1)=glA f C i++[aBp f C i]:=by unfold glA;rw [List.range_succ,List.map_append];rfl
theorem aCj:(glA f C i).length=i:=by unfold glA;rw [List.length_map,List.length_range]
theorem aOu (h:j<i):(glA f C i).getD j []=aBp f C j:=by unfold glA;rw [List.getD_eq_getElem?_getD,List.getElem?_map,List.getElem?_range h];rfl
def aOv (f:SF) (C:List (List Int)):SF:=⟨f.shape,glS C C.length,glA f C f.acts.length⟩
structure GlAt (f:SF) (C:List (List Int)) (a:Nat) (x y:Nat):Prop where
 ex:f.shape.fr.getD a 0=x
 ey:f.shape.to.getD a 0=y
 hx:x<C.length
 hy:y<C.length
 al:(f.acts.getD a []).length=(C.getD x []).length
 aw:Within (f.acts.getD a []) (C.getD y []).length
 lx:((C.getD x []).length:Int)≤1000
 ly:((C.getD y []).length:Int)≤1000
 wx:Within (C.getD x []) (C.getD x []).length
 wy:Within (C.getD y []) (C.getD y []).length
theorem GlOk.at {a:Nat} (h:Loose f) (hC:GlOk f C) (ha:a<f.acts.length):∃x y,GlAt f C a x y:=by
 have ha':a<f.shape.fr.length:=by rw [←h.acl];exact ha
 have f1:=h.shape.frw a ha'
 have f2:=h.shape.tow a (by rw [h.shape.tol];exact ha')
 have o0:=h.shape.ob0
 have sl:=h.szl
 have cl:=hC.len
 obtain⟨x,hx⟩:∃x:Nat,f.shape.fr.getD a 0=x:=⟨_,(Int.toNat_of_nonneg f1.1).symm⟩
 obtain⟨y,hy⟩:∃y:Nat,f.shape.to.getD a 0=y:=⟨_,(Int.toNat_of_nonneg f2.1).symm⟩
 have ac:=h.act a ha
 rw [hx,hy,Int.toNat_natCast,Int.toNat_natCast]at ac
 have rx:=hC.row x (by omega)
 have ry:=hC.row y (by omega)
 have sx:=h.szw x (by omega)
 have sy:=h.szw y (by omega)
 have w1:=rx.2
 have w2:=ry.2
 have w3:=ac.2
 rw [←rx.1]at w1
 rw [←ry.1]at w2 w3
 exact⟨x,y,hx,hy,by omega,by omega,by omega,w3,by omega,by omega,w1,w2⟩
theorem yR (h:Loose f) (hC:GlOk f C):Loose (aOv f C)∧∀x,(aOv f C).sizes.getD x 0≤f.sizes.getD x 0:=by
 have cl:=hC.len
 have tb:∀x,x<C.length→0≤topI (C.getD x []) (C.getD x []).length∧topI (C.getD x []) (C.getD x []).length≤f.sizes.getD x 0:=fun x hx=>by
  have r:=hC.row x hx
  have s:=h.szw x (by omega)
  exact nK s.1 (fun i hi=>(r.2 i hi).2) _ (Nat.le_refl _)
 refine⟨⟨h.shape,?_,fun x hx=>?_,?_,fun a ha=>?_⟩,fun x=>?_⟩
 ·show(glS C C.length).length=_;rw [wW,cl];exact h.szl
 ·have hx:x<C.length:=by have k:x<(glS C C.length).length:=hx;rwa [wW]at k
  show 0≤(glS C C.length).getD x 0∧(glS C C.length).getD x 0≤1000
  rw [yQ hx]
  have:=tb x hx
  have:=h.szw x (by omega)
  omega
 ·show(glA f C f.acts.length).length=_;rw [aCj];exact h.acl
 ·have ha:a<f.acts.length:=by have k:a<(glA f C f.acts.length).length:=ha;rwa [aCj]at k
  obtain⟨x,y,g⟩:=hC.at h ha
  show(((glA f C f.acts.length).getD a []).length:Int)=(glS C C.length).getD (f.shape.fr.getD a 0).toNat 0∧Within ((glA f C f.acts.length).getD a []) ((glS C C.length).getD (f.shape.to.getD a 0).toNat 0)
  rw [aOu ha]
  unfold aBp
  rw [g.ex,g.ey,Int.toNat_natCast,Int.toNat_natCast,yQ g.hx,yQ g.hy,mW]
  have t:=tb x g.hx
  refine⟨by omega,aJe ?_ _ fun e he=>?_⟩
  ·by_cases q:(C.getD x []).length=0
   ·right
    have:C.getD x []=[]:=List.length_eq_zero_iff.1 q
    rw [this];rfl
   ·left
    have k:=g.aw 0 (by have:=g.al;omega)
    have k2:=xM (l:=C.getD y []) (C.getD y []).length 0 (by omega)
    have k3:=g.wy 0 (by omega)
    omega
  ·have k:=g.aw e (by have:=g.al;omega)
   have k2:=xM (l:=C.getD y []) (C.getD y []).length ((f.acts.getD a []).getD e 0).toNat (by omega)
   have k3:=g.wy ((f.acts.getD a []).getD e 0).toNat (by omega)
   exact⟨k3.1,k2⟩
 ·show(glS C C.length).getD x 0≤_
  rcases Nat.lt_or_ge x C.length with q|q
  ·rw [yQ q];exact(tb x q).2
  ·rw [List.getD_eq_getElem?_getD,List.getElem?_eq_none (by rw [wW];exact q),List.getD_eq_getElem?_getD,List.getElem?_eq_none (by omega)]
   exact Int.le_refl _
end
end Go.Eng
