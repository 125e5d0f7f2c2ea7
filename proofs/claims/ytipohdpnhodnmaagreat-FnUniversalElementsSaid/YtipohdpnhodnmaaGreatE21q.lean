/- The pairs of objects and elements; all universal elements, both sides. -/
import Derived.Test.YtipohdpnhodnmaaGreatE20q
import Derived.Test.YtipohdpnhodnmaaGreatKzy
set_option linter.unusedSimpArgs false
set_option linter.unusedVariables false
set_option maxRecDepth 100000
set_option maxHeartbeats 16000000
namespace Go.Eng
open Go Go.Proofs Go.Cats
attribute [local go_sem] List.set_cons_zero List.set_cons_succ
theorem aIT (f:SF):elP f 0=[]:=rfl
theorem wQ {f:SF} (s:IsSF f) {n:Nat} (h:n≤f.sizes.length):(elP f n).length≤n*16:=dK fun i hi=>by
 rw [wR]
 have:=s.szw i (by omega)
 omega
theorem eD:aF Tryz.prog 64:=⟨_,Tryz.func64,rfl,rfl⟩
theorem fF {f:SF} (s:IsSF f) (hb:SFB f):Spec Tryz.prog 64 [.bptr [] (sfD f)] [] (.sl 0) [(0,⟨1, .arr (aC (elO f))⟩)]:=by
 refine aD (E:=TE) 0 Tryz.func64 rfl (by simp [Tryz.f64]) fun X hn hX=>?_
 have szl:=s.szl
 have o8:=s.cat.toShape.ob8
 repeat'(first|refine wkQ ?_|refine Tw.f ?_ ?_|(refine fun(hc:(_:Bool)=_)=>?_;try simp only [hcS]at hc))
 all_goals try exact om_
 refine aG (G:={x:Nat//x≤f.sizes.length∧(True)}) (fun⟨x,_⟩=>[(13,iv x),(3, .sl 0)]) [2,11,12] (fun⟨x,_⟩=>[(0,⟨1, .arr (aC (elP f x))⟩)]) [0] (fun zz=>f.sizes.length-zz.1) ⟨0,Nat.zero_le _,by first|trivial|simp⟩ ?_ ?_
 ·exact Imp.auto hX (by simp [go_sem,simprocAttr,aIT])
 rintro⟨x,hix,hwx⟩
 simp only [go_sem,simprocAttr]
 rcases Nat.lt_or_ge x f.sizes.length with hx|hx
 ·have hl:=wQ s (n:=x) (by omega)
  have hz0:=s.szw x hx
  obtain⟨n,hn'⟩:∃n:Nat,f.sizes.getD x 0=n:=⟨(f.sizes.getD x 0).toNat,by omega⟩
  repeat'(first|(rw [hn'])|(with_reducible first|refine St.f ?_|refine V_c ?_|refine And.intro ?_ ?_|refine aI ?_ ?_|refine aN ?_)|((refine aQ ?_);intro K hK)|((with_reducible refine So.f ?_);intro K hK;simp(contextual:=true)only [go_sem,simprocAttr])|((with_reducible refine hK _ ?_);clear hK K)|(refine fun(hc:(_:Bool)=_)=>?_;try simp only [hcS]at hc))
  all_goals try exact om_
  refine aG (G:={e:Nat//e≤n∧(True)}) (fun⟨e,_⟩=>[(6,iv e),(3, .sl 0),(4,iv x)]) [2,5,11,12,13] (fun⟨e,_⟩=>[(0,⟨1, .arr (aC (elP f x++elR x e))⟩)]) [0] (fun zz=>n-zz.1) ⟨0,Nat.zero_le _,by first|trivial|simp⟩ ?_ ?_
  ·exact Imp.auto hX (by simp [go_sem,simprocAttr,yF,List.append_nil])
  rintro⟨e,hie,hwe⟩
  simp only [go_sem,simprocAttr]
  rcases Nat.lt_or_ge e n with he|he
  ·have hle:(elP f x).length+(elR x e).length≤200:=by rw [wR];omega
   repeat'(first|refine wkQ ?_|refine Tw.f ?_ ?_|(refine fun(hc:(_:Bool)=_)=>?_;try simp only [hcS]at hc))
   all_goals try exact om_
   ·refine⟨⟨e+1,by omega,(by trivial)⟩,by simp only;omega,Imp.auto hX (by simp only [go_sem,simprocAttr,yE,List.append_assoc])⟩
  ·obtain rfl:e=n:=by omega
   repeat'(first|refine wkQ ?_|refine Tw.f ?_ ?_|(refine fun(hc:(_:Bool)=_)=>?_;try simp only [hcS]at hc))
   all_goals try exact om_
   ·have e9:elP f (x+1)=elP f x++elR x e:=by rw [yD,hn',Int.toNat_natCast]
    refine⟨⟨x+1,by omega,(by trivial)⟩,by simp only;omega,Imp.auto hX (by simp only [go_sem,simprocAttr,e9])⟩
 ·obtain rfl:x=f.sizes.length:=by omega
  repeat'(first|refine wkQ ?_|refine Tw.f ?_ ?_|(refine fun(hc:(_:Bool)=_)=>?_;try simp only [hcS]at hc))
  all_goals try exact om_
  (first|refine aB ?_|refine aA ?_);simp only [go_sem,simprocAttr,Tryz.f64]
  rfl
noncomputable def uN (f:SF) (i:Nat):List (List Int):=((elO f).take i).filter (aAG f)
theorem aIg (f:SF):uN f 0=[]:=rfl
theorem aBS (f:SF):uN f (elO f).length=rK f:=by unfold uN rK;rw [List.take_length]
theorem aBT {f:SF} {i:Nat} {p:List Int} {r:List (List Int)} (h:(elO f).drop i=p::r) (hi:i<(elO f).length):uN f (i+1)=uN f i++[p].filter (aAG f):=by
 unfold uN
 have hg:(elO f)[i]=p:=by
  have:=List.drop_eq_getElem_cons hi
  rw [h]at this
  injection this with h1 _
  exact h1.symm
 rw [List.take_succ_eq_append_getElem hi,List.filter_append,hg]
theorem aLo {f:SF} {i:Nat} {x e:Int} {r:List (List Int)} (h:(elO f).drop i=[x,e]::r) (hi:i<(elO f).length) (q:kW f x e):uN f (i+1)=uN f i++[[x,e]]:=by
 rw [aBT h hi,List.filter_cons_of_pos (show aAG f [x,e]=true from @decide_eq_true _ (Classical.propDecidable _) q),List.filter_nil]
theorem aNe {f:SF} {i:Nat} {x e:Int} {r:List (List Int)} (h:(elO f).drop i=[x,e]::r) (hi:i<(elO f).length) (q:¬kW f x e):uN f (i+1)=uN f i:=by
 rw [aBT h hi,List.filter_cons_of_neg (fun h:aAG f [x,e]=true=>q (@of_decide_eq_true _ (Classical.propDecidable _) h)),List.filter_nil,List.append_nil]
theorem aEu {f:SF} (i:Nat):(uN f i).length≤(elO f).length:=by
 unfold uN
 exact Nat.le_trans (List.length_filter_le _ _) (by rw [List.length_take];omega)
theorem lU {f:SF} (s:IsSF f) (hb:SFB f):Spec Tryz.prog 18 [sfV f] [] (.tup [.sl 0,iv 0]) [(0,⟨1, .arr (aC (rK f))⟩)]:=by
 refine aD (E:=TE) 0 Tryz.func18 rfl (by simp [Tryz.f18]) fun X hn hX=>?_
 have szl:=s.szl
 have o8:=s.cat.toShape.ob8
 have hl:=wQ s (n:=f.sizes.length) (Nat.le_refl _)
 obtain⟨P,hP⟩:∃P,elO f=P:=⟨_,rfl⟩
 have hPl:P.length≤128:=by rw [←hP];exact Nat.le_trans hl (by omega)
 repeat'(first|(rw [hP])|(with_reducible first|refine St.f ?_|refine V_c ?_|refine eDn ?_|refine And.intro ?_ ?_|refine aI ?_ ?_|refine aN ?_)|((refine aQ ?_);intro K hK)|((with_reducible refine So.f ?_);intro K hK;simp(contextual:=true)only [go_sem,simprocAttr])|((with_reducible refine hK _ ?_);clear hK K)|((with_reducible refine aE 59 ?_);refine EvCall.rr (bI (f:=f) ?_) bC ?_)|((with_reducible refine aE 64 ?_);refine EvCall.rr (fF (f:=f) ?_ ?_) eD ?_)|(refine fun(hc:(_:Bool)=_)=>?_;try simp only [hcS]at hc))
 all_goals try exact om_
 ·exact absurd s (by assumption)
 ·refine aG (G:={i:Nat//i≤P.length∧(True)}) (fun⟨i,_⟩=>[(12,iv i),(4, .sl 1),(10, .sl 2),(11,iv P.length)]) [1,2,3] (fun⟨i,_⟩=>[(1,⟨1, .arr (aC (uN f i))⟩),(2,⟨1, .arr (wL i (P.drop i))⟩)]) [1,2] (fun zz=>P.length-zz.1) ⟨0,Nat.zero_le _,by first|trivial|simp⟩ ?_ ?_
  ·exact Imp.auto hX (by simp [go_sem,simprocAttr,aIg,List.drop_zero,aLl])
  rintro⟨i,hii,hwi⟩
  simp only [go_sem,simprocAttr]
  have hul:=aEu (f:=f) i
  rw [hP]at hul
  rcases Nat.lt_or_ge i P.length with hi|hi
  ·obtain⟨p,R,hr⟩:∃r R,P.drop i=r::R:=⟨_,_,List.drop_eq_getElem_cons hi⟩
   have hpm:p∈elO f:=by rw [hP];exact List.mem_of_mem_drop (i:=i) (by rw [hr];exact List.mem_cons_self)
   obtain⟨hel,hpe⟩:=s.elem_of hpm
   generalize p.getD 0 0=x at hel hpe
   generalize p.getD 1 0=e at hel hpe
   subst hpe
   have hR:P.drop (i+1)=R:=by
    have h:=congrArg List.tail hr
    rwa [List.tail_drop]at h
   have hRl:P.length=i+(R.length+1):=by
    have h:=congrArg List.length hr
    rw [List.length_drop,List.length_cons]at h
    omega
   have hU:=gQ s hb hel
   rw [hr]
   repeat'(first|(refine dG 6 (Imp.open_ 2 i _ [] (.inr ⟨rfl,rfl⟩) (Nat.le_refl 1) (by rw [aPy,List.length_cons];omega) rfl (by rw [aLk];rfl) rfl) ?_;rw [aLk])|(refine dG 9 (Imp.forgetU 2 i 3 _ [x,e] R rfl) ?_)|(with_reducible first|refine St.f ?_|refine V_c ?_|refine eDn ?_|refine And.intro ?_ ?_|refine aI ?_ ?_|refine aN ?_)|((refine aQ ?_);intro K hK)|((with_reducible refine So.f ?_);intro K hK;simp(contextual:=true)only [go_sem,simprocAttr])|((with_reducible refine hK _ ?_);clear hK K)|((with_reducible refine aE 65 ?_);refine EvCall.mr (hU) gG [] [0] ?_)|(refine fun(hc:(_:Bool)=_)=>?_;try simp only [hcS]at hc))
   all_goals try exact om_
   ·have e1:=aLo (by rw [hP];exact hr) (by rw [hP];exact hi) hc
    refine⟨⟨i+1,by omega,(by trivial)⟩,by simp only;omega,Imp.auto hX (by simp only [go_sem,simprocAttr,hR,e1])⟩
   ·have e1:=aNe (by rw [hP];exact hr) (by rw [hP];exact hi) hc
    refine⟨⟨i+1,by omega,(by trivial)⟩,by simp only;omega,Imp.auto hX (by simp only [go_sem,simprocAttr,hR,e1])⟩
  ·obtain rfl:i=P.length:=by omega
   repeat'(first|refine wkQ ?_|refine Tw.f ?_ ?_|(refine fun(hc:(_:Bool)=_)=>?_;try simp only [hcS]at hc))
   all_goals try exact om_
   (first|refine aB ?_|refine aA ?_);simp only [go_sem,simprocAttr,Tryz.f18]
   simp only [←hP,aBS]
theorem mM {f:SF} (s:¬IsSF f) (hb:SFB f):Spec Tryz.prog 18 [sfV f] [] (.tup [.v (.slice none 0 0),iv 1]) []:=by
 refine aD (E:=TE) 0 Tryz.func18 rfl (by simp [Tryz.f18]) fun X hn hX=>?_
 repeat'(first|refine wkQ ?_|refine Tw.f ?_ ?_|(refine kcQ bC ?_;refine krQ (bI (f:=f) ?_) ?_)|(refine fun(hc:(_:Bool)=_)=>?_;try simp only [hcS]at hc))
 all_goals try exact om_
 all_goals try(exact absurd (by assumption) s)
 all_goals((first|refine aB ?_|refine aA ?_);simp only [go_sem,simprocAttr,Tryz.f18])
noncomputable def oY (f:SF) (x e:Nat):List (List Int):=(elP f x++elR x e).filter (aAG f)
theorem aIj (f:SF):oY f 0 0=[]:=rfl
theorem aLr {f:SF} {x e:Nat} (q:kW f x e):oY f x (e+1)=oY f x e++[[(x:Int),(e:Int)]]:=by
 unfold oY
 rw [yE,←List.append_assoc,List.filter_append,List.filter_cons_of_pos (show aAG f [(x:Int),(e:Int)]=true from @decide_eq_true _ (Classical.propDecidable _) q),List.filter_nil]
theorem aNf {f:SF} {x e:Nat} (q:¬kW f x e):oY f x (e+1)=oY f x e:=by
 unfold oY
 rw [yE,←List.append_assoc,List.filter_append,List.filter_cons_of_neg (fun h:aAG f [(x:Int),(e:Int)]=true=>q (@of_decide_eq_true _ (Classical.propDecidable _) h)),List.filter_nil,List.append_nil]
theorem aLq {f:SF} {x n:Nat} (h:f.sizes.getD x 0=n):oY f x n=oY f (x+1) 0:=by
 unfold oY
 rw [yD,h,Int.toNat_natCast,yF,List.append_nil]
theorem aIi (f:SF):oY f f.sizes.length 0=rK f:=by
 unfold oY rK
 rw [yF,List.append_nil];rfl
theorem aLp {f:SF} (s:IsSF f) {x e:Nat} (h:x≤f.sizes.length) (he:e≤16):(oY f x e).length≤200:=by
 have h1:=wQ s h
 have h2:=s.szl
 have h3:=s.cat.toShape.ob8
 unfold oY
 refine Nat.le_trans (List.length_filter_le _ _) ?_
 rw [List.length_append,wR]
 omega
theorem jB {f:SF} (s:IsSF f) (hb:SFB f):Spec Tryz.prog 19 [sfV f] [] (.tup [.sl 0,iv 0]) [(0,⟨1, .arr (aC (rK f))⟩)]:=by
 refine aD (E:=TE) 0 Tryz.func19 rfl (by simp [Tryz.f19]) fun X hn hX=>?_
 have szl:=s.szl
 have o8:=s.cat.toShape.ob8
 have o0:=s.cat.toShape.ob0
 repeat'(first|refine wkQ ?_|refine Tw.f ?_ ?_|(refine kcQ aBb ?_;refine krQ (aEd (f:=f) ?_) ?_)|(refine fun(hc:(_:Bool)=_)=>?_;try simp only [hcS]at hc))
 all_goals try exact om_
 ·exact absurd s (by assumption)
 ·refine aG (G:={x:Nat//x≤f.shape.ob.toNat∧(True)}) (fun⟨x,_⟩=>[(5,iv x),(4, .sl 1)]) [1,2,3] (fun⟨x,_⟩=>[(1,⟨1, .arr (aC (oY f x 0))⟩)]) [1] (fun zz=>f.shape.ob.toNat-zz.1) ⟨0,Nat.zero_le _,by first|trivial|simp⟩ ?_ ?_
  ·exact Imp.auto hX (by simp [go_sem,simprocAttr,aIj])
  rintro⟨x,hix,hwx⟩
  simp only [go_sem,simprocAttr]
  rcases Nat.lt_or_ge x f.shape.ob.toNat with hx|hx
  ·have hz0:=s.szw x (by omega)
   repeat'(first|refine wkQ ?_|refine Tw.f ?_ ?_|(refine fun(hc:(_:Bool)=_)=>?_;try simp only [hcS]at hc))
   all_goals try exact om_
   refine aG (G:={e:Nat//e≤(f.sizes.getD x 0).toNat∧(True)}) (fun⟨e,_⟩=>[(6,iv e),(4, .sl 1),(5,iv x)]) [1,2,3] (fun⟨e,_⟩=>[(1,⟨1, .arr (aC (oY f x e))⟩)]) [1] (fun zz=>(f.sizes.getD x 0).toNat-zz.1) ⟨0,Nat.zero_le _,by first|trivial|simp⟩ ?_ ?_
   ·exact Imp.au hX
   rintro⟨e,hie,hwe⟩
   simp only [go_sem,simprocAttr]
   have hle:=aLp s (x:=x) (e:=e) (by omega) (by omega)
   rcases Nat.lt_or_ge e (f.sizes.getD x 0).toNat with he|he
   ·have hel:f.Elem x e:=⟨⟨Int.natCast_nonneg x,by omega⟩,Int.natCast_nonneg e,by rw [Int.toNat_natCast];omega⟩
    have hU:=vZ s hb hel
    repeat'(first|refine wkQ ?_|refine Tw.f ?_ ?_|(refine kcQ tL ?_;refine kwQ (hU) [] [] ?_)|(refine fun(hc:(_:Bool)=_)=>?_;try simp only [hcS]at hc))
    all_goals try exact om_
    ·refine⟨⟨e+1,by omega,(by trivial)⟩,by simp only;omega,Imp.auto hX (by simp only [go_sem,simprocAttr,aLr hc])⟩
    ·refine⟨⟨e+1,by omega,(by trivial)⟩,by simp only;omega,Imp.auto hX (by simp only [go_sem,simprocAttr,aNf hc])⟩
   ·obtain rfl:e=(f.sizes.getD x 0).toNat:=by omega
    have e1:=aLq (f:=f) (x:=x) (n:=(f.sizes.getD x 0).toNat) (by omega)
    repeat'(first|refine wkQ ?_|refine Tw.f ?_ ?_|(refine fun(hc:(_:Bool)=_)=>?_;try simp only [hcS]at hc))
    all_goals try exact om_
    ·refine⟨⟨x+1,by omega,(by trivial)⟩,by simp only;omega,Imp.auto hX (by simp only [go_sem,simprocAttr,←e1])⟩
  ·obtain rfl:x=f.shape.ob.toNat:=by omega
   have e1:oY f f.shape.ob.toNat 0=rK f:=by rw [←aIi,←szl,Int.toNat_natCast]
   repeat'(first|refine wkQ ?_|refine Tw.f ?_ ?_|(refine fun(hc:(_:Bool)=_)=>?_;try simp only [hcS]at hc))
   all_goals try exact om_
   (first|refine aB ?_|refine aA ?_);simp only [go_sem,simprocAttr,Tryz.f19]
   simp only [e1]
theorem jE {f:SF} (s:¬IsSF f) (hb:SFB f):Spec Tryz.prog 19 [sfV f] [] (.tup [.v (.slice none 0 0),iv 1]) []:=by
 refine aD (E:=TE) 0 Tryz.func19 rfl (by simp [Tryz.f19]) fun X hn hX=>?_
 repeat'(first|refine wkQ ?_|refine Tw.f ?_ ?_|(refine kcQ aBb ?_;refine krQ (aEd (f:=f) ?_) ?_)|(refine fun(hc:(_:Bool)=_)=>?_;try simp only [hcS]at hc))
 all_goals try exact om_
 all_goals try(exact absurd (by assumption) s)
 all_goals((first|refine aB ?_|refine aA ?_);simp only [go_sem,simprocAttr,Tryz.f19])
end Go.Eng
