/- Transformations, by the reference: all of them, up to a number of results. -/
import Derived.Test.YthgijhnmcglppaaGreatKbax
import Derived.Test.YthgijhnmcglppaaGreatB04q
set_option linter.unusedSimpArgs false
set_option linter.unusedVariables false
set_option maxRecDepth 100000
set_option maxHeartbeats 16000000
namespace Go.Eng
open Go Go.Proofs Go.Cats
def nR (c:Cat) (a:Nat):List (List Int):=(List.range a).map fun a=>[c.fr.getD a 0,c.to.getD a 0]
theorem aJ1 (c:Cat):nR c 0=[]:=rfl
theorem aBu (c:Cat) (a:Nat):(nR c a).length=a:=by unfold nR;rw [List.length_map,List.length_range]
theorem aJ0 (c:Cat) (a:Nat):nR c (a+1)=nR c a++[[c.fr.getD a 0,c.to.getD a 0]]:=by unfold nR;rw [List.range_succ,List.map_append,List.map_singleton]
theorem aO6 {c:Cat} (s:Shape c):∀k,k<(nR c c.fr.length).length→((nR c c.fr.length).getD k []).length=2∧(0≤((nR c c.fr.length).getD k []).getD 0 0∧((nR c c.fr.length).getD k []).getD 0 0<c.ob.toNat)∧0≤((nR c c.fr.length).getD k []).getD 1 0∧((nR c c.fr.length).getD k []).getD 1 0<c.ob.toNat:=fun k hk=>by
 rw [aBu]at hk
 have e:(nR c c.fr.length).getD k []=[c.fr.getD k 0,c.to.getD k 0]:=by
  unfold nR;rw [List.getD_eq_getElem?_getD,List.getElem?_map,List.getElem?_range hk];rfl
 have:=s.frw k hk
 have:=s.tow k (by rw [s.tol];exact hk)
 rw [e]
 refine⟨rfl,⟨?_,?_⟩,?_,?_⟩<;>simp only [List.getD_cons_zero,List.getD_cons_succ]<;>omega
def stI (L:List Int) (x:Nat) (y:Nat):List Int:=(List.range y).map fun y=>if L.getD y 0=x then-1 else-2
theorem aNt (L:List Int) (x:Nat):stI L x 0=[]:=rfl
theorem aPw (L:List Int) (x y:Nat):(stI L x y).length=y:=by unfold stI;rw [List.length_map,List.length_range]
theorem aPy {L:List Int} {x y:Nat} (h:L.getD y 0=x):stI L x (y+1)=stI L x y++[-1]:=by unfold stI;rw [List.range_succ,List.map_append,List.map_singleton,if_pos h]
theorem aRN {L:List Int} {x y:Nat} (h:¬L.getD y 0=x):stI L x (y+1)=stI L x y++[-2]:=by unfold stI;rw [List.range_succ,List.map_append,List.map_singleton,if_neg h]
theorem aPx {L:List Int} {x y j:Nat} (h:j<y):(stI L x y).getD j 0<0:=by
 unfold stI
 rw [List.getD_eq_getElem?_getD,List.getElem?_map,List.getElem?_range h]
 simp only [Option.map_some,Option.getD_some]
 split<;>decide
theorem aDB (x:Nat):List.replicate (x+1) (-1:Int)=List.replicate x (-1)++[-1]:=List.replicate_succ'
theorem aDC:List.replicate 0 (-1:Int)=[]:=rfl
theorem aOP {f g:Fun} (hs:Shape f.src):goC (nCh f g) (f.src.ob.toNat+1) (List.replicate f.src.ob.toNat (-1))=gQ f g:=by
 have hw:=aL6 (f:=f) (g:=g) hs
 rw [aIj hw]
 ·unfold gQ qB;rw [List.nil_append]
 ·refine⟨by rw [kE,List.length_replicate],fun j hj=>?_⟩
  rw [List.length_replicate]at hj
  rw [sR,if_pos hj,xA hj];omega
 ·have:=vB (List.replicate f.src.ob.toNat (-1));rw [List.length_replicate]at this;omega
 ·refine⟨fun i hi h0=>?_,fun a ha h0 _=>?_⟩
  ·rw [List.length_replicate]at hi
   rw [sR,if_pos hi]at h0;omega
  ·have f1:=hs.frw a ha
   rw [sR,if_pos (by omega)]at h0;omega
theorem aJM {f g:Fun} {A:List Int} {n:Nat} (hs:Shape f.src) (hA:A.length=f.src.ob.toNat) (h0:∀j,j<A.length→A.getD j 0<0) (hn:uns A<n) (h:goC (nCh f g) n A=[]):gQ f g=[]:=by
 unfold gQ qB
 refine nM fun Q hQ hW _=>?_
 refine aFs (aL6 (f:=f) (g:=g) hs) hQ hW n A (by rw [kE];exact hA) hn ?_ h
 obtain⟨q1,_⟩:=mem_lexP.1 hQ
 exact contB_iff.2 ⟨by rw [q1,kE];exact hA,fun i hi hh=>absurd (h0 i hi) (by omega)⟩
attribute [local go_sem] aJ1 aNt aDC List.set_cons_succ List.set_cons_zero
theorem aE3:aE Tryz.prog 274:=⟨_,Tryz.func274,rfl,rfl⟩
theorem aEy {f g:Fun} {m:Nat} (h:Par f g) (hm:m≤4096) (hm0:0<m):Spec Tryz.prog 274 [qS f,qS g,bv false,iv m] [] (.sl 0) [(0,⟨1, .arr (aF ((gQ f g).take m))⟩)]:=by
 have o0:=h.src.toShape.ob0
 have o8:=h.src.toShape.ob8
 have m40:=h.src.toShape.m40
 have tol:=h.src.toShape.tol
 obtain⟨n,hn0⟩:∃n:Nat,f.src.ob=n:=⟨f.src.ob.toNat,by omega⟩
 have hpl:=aBu f.src f.src.fr.length
 have hjo:=aHy (n:=f.src.ob.toNat) (ps:=nR f.src f.src.fr.length) (by omega) (by omega) (aO6 h.src.toShape)
 have hcf:=tX (joK f.src.ob.toNat (nR f.src f.src.fr.length) (nR f.src f.src.fr.length).length) f.src.ob.toNat
 obtain⟨L,hL⟩:∃L,(clsI (joK f.src.ob.toNat (nR f.src f.src.fr.length) (nR f.src f.src.fr.length).length) f.src.ob.toNat).1=L:=⟨_,rfl⟩
 rw [hL]at hjo hcf
 have hLl:=hcf.1
 rw [Int.toNat_of_nonneg o0]at hjo
 refine aD (E:=TE) 0 Tryz.func274 rfl (by simp [Tryz.f274]) fun X hn hX=>?_
 repeat'(first|refine wkQ ?_|refine Tw.f ?_ ?_|(refine fun(hc:(_:Bool)=_)=>?_;try simp only [hcS]at hc))
 all_goals try exact om_
 refine aG (G:={a:Nat//a≤f.src.fr.length∧(True)}) (fun⟨a,_⟩=>[(11,iv a),(10, .sl 3),(9, .ptr 2 0)]) [2,3,4,5,8] (fun⟨a,_⟩=>[(3,⟨1, .arr (aF (nR f.src a))⟩)]) [3] (fun zz=>f.src.fr.length-zz.1) ⟨0,Nat.zero_le _,by first|trivial|simp⟩ ?_ ?_
 ·exact Imp.au hX
 rintro⟨a,hia,hwa⟩
 simp only [go_sem,simprocAttr]
 have hal:=aBu f.src a
 rcases Nat.lt_or_ge a f.src.fr.length with hlt|hge
 ·have e1:=aJ0 f.src a
  repeat'(first|refine wkQ ?_|refine Tw.f ?_ ?_|(refine fun(hc:(_:Bool)=_)=>?_;try simp only [hcS]at hc))
  all_goals try exact om_
  ·refine⟨⟨a+1,by omega,(by trivial)⟩,by simp only;omega,Imp.auto hX (by simp only [go_sem,simprocAttr,e1])⟩
 ·have ea:a=f.src.fr.length:=by omega
  subst ea
  repeat'(first|refine wkQ ?_|refine Tw.f ?_ ?_|(refine kcQ aEZ ?_;refine kwQ (hjo) [(0,4)] [3] ?_)|(refine fun(hc:(_:Bool)=_)=>?_;try simp only [hcS]at hc))
  all_goals try exact om_
  refine aG (G:={x:Nat//x≤f.src.ob.toNat∧(True)}) (fun⟨x,_⟩=>[(14,iv x),(13, .sl 5),(12, .sl 4),(10, .sl 3),(9, .ptr 2 0)]) [2,3,4,5] (fun⟨x,_⟩=>[(5,⟨1, .arr (ints (List.replicate x (-1)))⟩)]) [5] (fun zz=>f.src.ob.toNat-zz.1) ⟨0,Nat.zero_le _,by first|trivial|simp⟩ ?_ ?_
  ·exact Imp.au hX
  rintro⟨x,hix,hwx⟩
  simp only [go_sem,simprocAttr]
  rcases Nat.lt_or_ge x f.src.ob.toNat with hlx|hgx
  ·have e5:=aDB x
   repeat'(first|refine wkQ ?_|refine Tw.f ?_ ?_|(refine fun(hc:(_:Bool)=_)=>?_;try simp only [hcS]at hc))
   all_goals try exact om_
   refine aG (G:={y:Nat//y≤f.src.ob.toNat∧(True)}) (fun⟨y,_⟩=>[(16,iv y),(15, .sl 8),(14,iv x),(13, .sl 7),(12, .sl 4),(10, .sl 3),(9, .ptr 2 0),(55, .sl 6)]) [2,3,4,5,8] (fun⟨y,_⟩=>[(6,⟨1, .arr (ints [-1])⟩),(7,⟨1, .arr (ints (List.replicate x (-1)++[-1]))⟩),(8,⟨1, .arr (ints (stI L x y))⟩)]) [6,7,8] (fun zz=>f.src.ob.toNat-zz.1) ⟨0,Nat.zero_le _,by first|trivial|simp⟩ ?_ ?_
   ·exact Imp.au hX
   rintro⟨y,hiy,hwy⟩
   simp only [go_sem,simprocAttr]
   have hsl:=aPw L x y
   rcases Nat.lt_or_ge y f.src.ob.toNat with hly|hgy
   ·repeat'(first|refine wkQ ?_|refine Tw.f ?_ ?_|(refine fun(hc:(_:Bool)=_)=>?_;try simp only [hcS]at hc))
    all_goals try exact om_
    ·have e6:=aPy (L:=L) (x:=x) (y:=y) (by assumption)
     refine⟨⟨y+1,by omega,(by trivial)⟩,by simp only;omega,Imp.auto hX (by simp only [go_sem,simprocAttr,e6])⟩
    ·have e6:=aRN (L:=L) (x:=x) (y:=y) (by assumption)
     refine⟨⟨y+1,by omega,(by trivial)⟩,by simp only;omega,Imp.auto hX (by simp only [go_sem,simprocAttr,e6])⟩
   ·have ey:y=f.src.ob.toNat:=by omega
    subst ey
    have hsn:∀j,j<(stI L x f.src.ob.toNat).length→(stI L x f.src.ob.toNat).getD j 0<0:=fun j hj=>aPx (by omega)
    have hun:=vB (stI L x f.src.ob.toNat)
    have hgo:=uY (m:=1) h (by decide) (f.src.ob.toNat+1) [] (stI L x f.src.ob.toNat) hsl (fun j hj=>by have:=hsn j hj;omega) (by omega) (by decide)
    have hnone:=aJM (f:=f) (g:=g) (n:=f.src.ob.toNat+1) h.src.toShape hsl hsn (by omega)
    obtain⟨G,hG⟩:∃G,goC (nCh f g) (f.src.ob.toNat+1) (stI L x f.src.ob.toNat)=G:=⟨_,rfl⟩
    rw [hG]at hgo hnone
    rw [List.nil_append,show((1:Nat):Int)=1 from rfl]at hgo
    have hgl:(G.take 1).length≤1:=by rw [List.length_take];omega
    have hg0:(G.take 1).length=0→G=[]:=fun q=>by
     rw [List.length_take]at q
     exact List.length_eq_zero_iff.1 (by omega)
    generalize G.take 1=G1 at hgo hgl hg0
    repeat'(first|(refine bU 21 (Imp.trans (Imp.adoptBs 9 26 1 _ rfl rfl rfl (by rw [hX];rfl)) (Imp.closeB 9 10 26 _ _ rfl rfl rfl (by decide))) ?_;simp only [go_sem,simprocAttr,List.set_cons_succ,List.set_cons_zero])|(refine bU 22 (Imp.openB 9 26 _ _ rfl (Nat.succ_le_succ (Nat.zero_le _)) rfl rfl) ?_;simp only [go_sem,simprocAttr])|(with_reducible first|refine St.f ?_|refine V_c ?_|refine eDn ?_|refine And.intro ?_ ?_|refine aH ?_ ?_|refine aK ?_)|((refine aN ?_);intro K hK)|((with_reducible refine So.f ?_);intro K hK;simp(contextual:=true)only [go_sem,simprocAttr])|((with_reducible refine hK _ ?_);clear hK K)|((with_reducible refine aC 330 ?_);refine EvCall.mr (hgo) xU [(0,9),(1,8)] [] ?_)|(refine fun(hc:(_:Bool)=_)=>?_;try simp only [hcS]at hc))
    all_goals try exact om_
    ·have e7:=hnone (hg0 (by omega))
     rw [e7]
     (first|refine aB ?_|refine aA ?_);simp only [go_sem,simprocAttr,Tryz.f274]
    ·refine⟨⟨x+1,by omega,(by(trivial))⟩,by simp only;omega,Imp.auto hX (by simp only [go_sem,simprocAttr,e5])⟩
  ·have ex:x=f.src.ob.toNat:=by omega
   subst ex
   have hgm:=uY (m:=m) h hm (f.src.ob.toNat+1) [] (List.replicate f.src.ob.toNat (-1)) (by rw [List.length_replicate]) (fun j hj=>by rw [List.length_replicate]at hj;rw [sR,if_pos hj];omega) (by have:=vB (List.replicate f.src.ob.toNat (-1));rw [List.length_replicate]at this;omega) hm0
   rw [List.nil_append,aOP h.src.toShape]at hgm
   repeat'(first|(refine bU 25 (Imp.closeB 7 6 26 _ _ rfl rfl rfl (by decide)) ?_;simp only [go_sem,simprocAttr])|(refine bU 26 (Imp.openB 7 26 _ _ rfl (Nat.succ_le_succ (Nat.zero_le _)) rfl rfl) ?_;simp only [go_sem,simprocAttr])|(with_reducible first|refine St.f ?_|refine V_c ?_|refine eDn ?_|refine And.intro ?_ ?_|refine aH ?_ ?_|refine aK ?_)|((refine aN ?_);intro K hK)|((with_reducible refine So.f ?_);intro K hK;simp(contextual:=true)only [go_sem,simprocAttr])|((with_reducible refine hK _ ?_);clear hK K)|((with_reducible refine aC 330 ?_);refine EvCall.mr (hgm) xU [(0,7),(1,5)] [] ?_)|(refine fun(hc:(_:Bool)=_)=>?_;try simp only [hcS]at hc))
   all_goals try exact om_
   ·(first|refine aB ?_|refine aA ?_);simp only [go_sem,simprocAttr,Tryz.f274]
theorem aGN:aE Tryz.prog 189:=⟨_,Tryz.func189,rfl,rfl⟩
theorem aKn {f g:Fun} {m:Nat} (h:Par f g) (hm:m≤4096) (hm0:0<m):Spec Tryz.prog 189 [qS f,qS g,iv m] [] (.sl 0) [(0,⟨1, .arr (aF ((gQ f g).take m))⟩)]:=by
 refine aD (E:=TE) 0 Tryz.func189 rfl (by simp [Tryz.f189]) fun X hn hX=>?_
 have hfi:=aEy h hm hm0
 repeat'(first|refine wkQ ?_|refine Tw.f ?_ ?_|(refine kcQ aE3 ?_;refine kwQ (hfi) [(0,2)] [] ?_)|(refine fun(hc:(_:Bool)=_)=>?_;try simp only [hcS]at hc))
 all_goals try exact om_
 ·(first|refine aB ?_|refine aA ?_);simp only [go_sem,simprocAttr,Tryz.f189]
end Go.Eng
