/- Whether an element is universal, both sides; all universal elements. -/
import Derived.Test.YtipohdpnhodnmaaGreatQ41y
set_option linter.unusedSimpArgs false
set_option linter.unusedVariables false
set_option maxRecDepth 100000
set_option maxHeartbeats 16000000
namespace Go.Eng
open Go Go.Proofs Go.Cats
attribute [local go_sem] List.set_cons_zero List.set_cons_succ
theorem tK:aF Tryz.prog 125:=⟨_,Tryz.func125,rfl,rfl⟩
theorem vY {l:List Int} (hl:l.length≤1048576) (h0:∀i,i<l.length→0≤l.getD i 0):Spec Tryz.prog 125 [.bor [] (ints l)] [] (bv (dec (NdI l))) []:=by
 refine aD (E:=TE) 0 Tryz.func125 rfl (by simp [Tryz.f125]) fun X hn hX=>?_
 repeat'(first|(with_reducible first|refine St.f ?_|refine V_c ?_|refine eDn ?_|refine And.intro ?_ ?_|refine aI ?_ ?_|refine aN ?_)|((refine aQ ?_);intro K hK)|((with_reducible refine So.f ?_);intro K hK;simp(contextual:=true)only [go_sem,simprocAttr])|((with_reducible refine hK _ ?_);clear hK K)|(refine fun(hc:(_:Bool)=_)=>?_;try simp only [hcS]at hc))
 all_goals try exact om_
 refine aG (G:={i:Nat//i≤l.length∧(∀a b,a<b→b<i→l.getD a 0≠l.getD b 0)}) (fun⟨i,_⟩=>[(3,iv i)]) [0] (fun⟨i,_⟩=>[]) [] (fun zz=>l.length-zz.1) ⟨0,Nat.zero_le _,by omega⟩ ?_ ?_
 ·exact Imp.au hX
 rintro⟨i,hii,hwi⟩
 simp only [go_sem,simprocAttr]
 rcases Nat.lt_or_ge i l.length with hi|hi
 ·have hH:=aH1 (l:=l.take i) (n:=l.getD i 0) (by rw [List.length_take];omega)
  have hT:l.getD i 0∈l.take i↔∃a,a<i∧l.getD a 0=l.getD i 0:=by
   constructor
   ·intro h
    obtain⟨a,ha,e⟩:=fB (d:=0) h
    rw [List.length_take]at ha
    refine⟨a,by omega,?_⟩
    rw [←e,List.getD_eq_getElem?_getD,List.getD_eq_getElem?_getD (l:=l.take i),List.getElem?_take_of_lt (by omega)]
   ·rintro⟨a,ha,e⟩
    rw [←e,List.getD_eq_getElem?_getD,List.getElem?_eq_getElem (by omega)]
    exact List.mem_iff_getElem.2 ⟨a,by rw [List.length_take];omega,by rw [List.getElem_take];rfl⟩
  rw [cB hT]at hH
  repeat'(first|(with_reducible first|refine St.f ?_|refine V_c ?_|refine eDn ?_|refine And.intro ?_ ?_|refine aI ?_ ?_|refine aN ?_)|((refine aQ ?_);intro K hK)|((with_reducible refine So.f ?_);intro K hK;simp(contextual:=true)only [go_sem,simprocAttr])|((with_reducible refine hK _ ?_);clear hK K)|((with_reducible refine aE 194 ?_);refine EvCall.mr (hH) aEJ [] [] ?_)|(refine aHn (k:= .i64) (n:=i) (A:=l) rfl (by simp only [go_sem,simprocAttr]) (by simp only [go_sem,simprocAttr]) (by omega) ?_;simp only [go_sem,simprocAttr])|(refine fun(hc:(_:Bool)=_)=>?_;try simp only [hcS]at hc))
  all_goals try exact om_
  all_goals try(exfalso;omega)
  ·(first|refine aB ?_|refine aA ?_);simp only [go_sem,simprocAttr,Tryz.f125]
   exact cW fun h=>by
    obtain⟨a,ha,e⟩:=hc
    exact h a i ha hi (h0 a (by omega)) e
  ·have hnx:∀a b,a<b→b<i+1→l.getD a 0≠l.getD b 0:=fun a b hab hb=>by
    rcases Nat.lt_or_ge b i with q|q
    ·exact hwi a b hab q
    ·obtain rfl:b=i:=by omega
     exact fun e=>hc ⟨a,hab,e⟩
   refine⟨⟨i+1,by omega,(by exact hnx)⟩,by simp only;omega,Imp.ao hX⟩
 ·obtain rfl:i=l.length:=by omega
  repeat'(first|(with_reducible first|refine St.f ?_|refine V_c ?_|refine eDn ?_|refine And.intro ?_ ?_|refine aI ?_ ?_|refine aN ?_)|((refine aQ ?_);intro K hK)|((with_reducible refine So.f ?_);intro K hK;simp(contextual:=true)only [go_sem,simprocAttr])|((with_reducible refine hK _ ?_);clear hK K)|(refine fun(hc:(_:Bool)=_)=>?_;try simp only [hcS]at hc))
  all_goals try exact om_
  all_goals try(exfalso;omega)
  all_goals((first|refine aB ?_|refine aA ?_);simp only [go_sem,simprocAttr,Tryz.f125];exact qF (fun a b hab hb _=>hwi a b hab hb))
theorem aNu {f:SF} {x e:Int} (s:IsSF f) {y:Nat} (hy:y<f.shape.ob.toNat):((f.eParts x e f.shape.ob.toNat).getD y []).length≤40:=by
 rw [SF.eParts_row _ _ _ _ _ hy]
 have:=Cat.hom_len f.shape x y
 have:=s.cat.toShape.m40
 omega
theorem gG:aF Tryz.prog 65:=⟨_,Tryz.func65,rfl,rfl⟩
theorem gQ {f:SF} {x e:Int} (s:IsSF f) (hb:SFB f) (h:f.Elem x e):Spec Tryz.prog 65 [.bptr [] (sfD f),iv x,iv e] [] (bv (dec (kW f x e))) []:=by
 refine aD (E:=TE) 0 Tryz.func65 rfl (by simp [Tryz.f65]) fun X hn hX=>?_
 have szl:=s.szl
 have o8:=s.cat.toShape.ob8
 have o0:=s.cat.toShape.ob0
 have el:=SF.eParts_len f x e f.shape.ob.toNat
 repeat'(first|refine wkQ ?_|refine Tw.f ?_ ?_|(refine kcQ eH ?_;refine krQ (fG (f:=f) (x:=x) (e:=e) ?_ ?_ ?_) ?_)|(refine fun(hc:(_:Bool)=_)=>?_;try simp only [hcS]at hc))
 all_goals try exact om_
 refine aG (G:={y:Nat//y≤f.shape.ob.toNat∧(∀z,z<y→Bij (f.sizes.getD z 0).toNat ((f.eParts x e f.shape.ob.toNat).getD z []))}) (fun⟨y,_⟩=>[(14,iv y),(12, .sl 0),(13,iv f.shape.ob.toNat)]) [0] (fun⟨y,_⟩=>[(0,⟨1, .arr (aC (f.eParts x e f.shape.ob.toNat))⟩)]) [0] (fun zz=>f.shape.ob.toNat-zz.1) ⟨0,Nat.zero_le _,by exact fun z hz=>absurd hz (Nat.not_lt_zero z)⟩ ?_ ?_
 ·exact Imp.au hX
 rintro⟨y,hiy,hwy⟩
 simp only [go_sem,simprocAttr]
 rcases Nat.lt_or_ge y f.shape.ob.toNat with hy|hy
 ·have hpl:=aNu (x:=x) (e:=e) s hy
  have hz0:=s.szw y (by omega)
  have hB:=rH (l:=(f.eParts x e f.shape.ob.toNat).getD y []) (n:=f.sizes.getD y 0) (m:=(f.sizes.getD y 0).toNat) (by omega) (by omega) (by omega)
  repeat'(first|refine wkQ ?_|refine Tw.f ?_ ?_|(refine kcQ vQ ?_;refine kwQ (hB) [] [0] ?_)|(refine fun(hc:(_:Bool)=_)=>?_;try simp only [hcS]at hc))
  all_goals try exact om_
  all_goals try exact hy
  ·(first|refine aB ?_|refine aA ?_);simp only [go_sem,simprocAttr,Tryz.f65]
   exact cW fun h=>hc (h y hy)
  ·have hnx:∀z,z<y+1→Bij (f.sizes.getD z 0).toNat ((f.eParts x e f.shape.ob.toNat).getD z []):=fun z hz=>by
    rcases Nat.lt_or_ge z y with q|q
    ·exact hwy z q
    ·obtain rfl:z=y:=by omega
     exact hc
   refine⟨⟨y+1,by omega,(by exact hnx)⟩,by simp only;omega,Imp.ao hX⟩
 ·obtain rfl:y=f.shape.ob.toNat:=by omega
  repeat'(first|refine wkQ ?_|refine Tw.f ?_ ?_|(refine fun(hc:(_:Bool)=_)=>?_;try simp only [hcS]at hc))
  all_goals try exact om_
  all_goals try(exfalso;omega)
  all_goals((first|refine aB ?_|refine aA ?_);simp only [go_sem,simprocAttr,Tryz.f65];exact qF hwy)
theorem aFc {f:SF} {x e:Int} (s:IsSF f) (h:f.Elem x e) {y:Nat} (hy:y<f.shape.ob.toNat):Bij (f.sizes.getD y 0).toNat ((f.eParts x e f.shape.ob.toNat).getD y [])↔((f.eParts x e f.shape.ob.toNat).getD y []).length=(f.sizes.getD y 0).toNat∧NdI ((f.eParts x e f.shape.ob.toNat).getD y []):=
 ⟨fun q=>⟨q.len,q.inj⟩,fun q=>⟨q.1,aF5 s h hy,q.2⟩⟩
theorem tL:aF Tryz.prog 66:=⟨_,Tryz.func66,rfl,rfl⟩
theorem vZ {f:SF} {x e:Int} (s:IsSF f) (hb:SFB f) (h:f.Elem x e):Spec Tryz.prog 66 [sfV f,iv x,iv e] [] (bv (dec (kW f x e))) []:=by
 refine aD (E:=TE) 0 Tryz.func66 rfl (by simp [Tryz.f66]) fun X hn hX=>?_
 have szl:=s.szl
 have o8:=s.cat.toShape.ob8
 have o0:=s.cat.toShape.ob0
 have el:=SF.eParts_len f x e f.shape.ob.toNat
 repeat'(first|refine wkQ ?_|refine Tw.f ?_ ?_|(refine kcQ aB9 ?_;refine krQ (aEf (f:=f) (x:=x) (e:=e) ?_ ?_ ?_) ?_)|(refine fun(hc:(_:Bool)=_)=>?_;try simp only [hcS]at hc))
 all_goals try exact om_
 refine aG (G:={y:Nat//y≤f.shape.ob.toNat∧(∀z,z<y→Bij (f.sizes.getD z 0).toNat ((f.eParts x e f.shape.ob.toNat).getD z []))}) (fun⟨y,_⟩=>[(8,iv y)]) [3,7] (fun⟨y,_⟩=>[]) [] (fun zz=>f.shape.ob.toNat-zz.1) ⟨0,Nat.zero_le _,by exact fun z hz=>absurd hz (Nat.not_lt_zero z)⟩ ?_ ?_
 ·exact Imp.au hX
 rintro⟨y,hiy,hwy⟩
 simp only [go_sem,simprocAttr]
 rcases Nat.lt_or_ge y f.shape.ob.toNat with hy|hy
 ·have hpl:=aNu (x:=x) (e:=e) s hy
  have hz0:=s.szw y (by omega)
  have hI:=vY (l:=(f.eParts x e f.shape.ob.toNat).getD y []) (by omega) (fun i hi=>(aF5 s h hy i hi).1)
  repeat'(first|refine wkQ ?_|refine Tw.f ?_ ?_|(refine kcQ tK ?_;refine kwQ (hI) [] [1] ?_)|(refine fun(hc:(_:Bool)=_)=>?_;try simp only [hcS]at hc))
  all_goals try exact om_
  ·(first|refine aB ?_|refine aA ?_);simp only [go_sem,simprocAttr,Tryz.f66]
   exact cW fun q=>hc ((aFc s h hy).1 (q y hy)).2
  ·have hnx:∀z,z<y+1→Bij (f.sizes.getD z 0).toNat ((f.eParts x e f.shape.ob.toNat).getD z []):=fun z hz=>by
    rcases Nat.lt_or_ge z y with q|q
    ·exact hwy z q
    ·obtain rfl:z=y:=by omega
     exact(aFc s h hy).2 ⟨by omega,hc⟩
   refine⟨⟨y+1,by omega,(by exact hnx)⟩,by simp only;omega,Imp.ao hX⟩
  ·(first|refine aB ?_|refine aA ?_);simp only [go_sem,simprocAttr,Tryz.f66]
   exact cW fun q=>hc (by have:=((aFc s h hy).1 (q y hy)).1;omega)
 ·obtain rfl:y=f.shape.ob.toNat:=by omega
  repeat'(first|refine wkQ ?_|refine Tw.f ?_ ?_|(refine fun(hc:(_:Bool)=_)=>?_;try simp only [hcS]at hc))
  all_goals try exact om_
  all_goals try(exfalso;omega)
  all_goals((first|refine aB ?_|refine aA ?_);simp only [go_sem,simprocAttr,Tryz.f66];exact qF hwy)
end Go.Eng
