/- Several texts in one: Z08, Z09. -/
import Derived.Test.YthgijhnmcglppaaGreatKccx
import Derived.Test.YthgijhnmcglppaaGreatEngPhq
set_option linter.unusedSimpArgs false
set_option linter.unusedVariables false
set_option maxRecDepth 100000
set_option maxHeartbeats 16000000
section
namespace Go.Eng
open Go Go.Proofs Go.Cats
attribute [local go_sem] List.set_cons_zero List.set_cons_succ aMO
theorem aKU:bf0 0=[]:=rfl
theorem aKT {x:Nat}:bf0 (x+1)=bf0 x++[((x:Int),(x:Int),[])]:=by unfold bf0;rw [List.range_succ,List.map_append];rfl
theorem aHZ {x:Nat}:(bf0 x).length=x:=by unfold bf0;rw [List.length_map,List.length_range]
theorem aKS {x i:Nat}:((bf0 x).getD i bC).2.2=[]:=by
 rcases Nat.lt_or_ge i x with h|h
 ·unfold bf0
  rw [List.getD_eq_getElem?_getD,List.getElem?_map,List.getElem?_range h];rfl
 ·rw [List.getD_eq_getElem?_getD,List.getElem?_eq_none (by rw [aHZ];exact h)];rfl
section
variable {fr to:List Int} {p:Pth} {e k q:Nat} {L:List Pth}
theorem aKV:bfE fr to p 0=[]:=rfl
theorem aDT:∀e,(bfE fr to p e).length≤e
 |0=>Nat.le_refl 0
 |e+1=>by
  have:=aDT e
  unfold bfE
  split
  ·rw [List.length_append,List.length_singleton];omega
  ·omega
theorem aN2 (h:fr.getD e 0=p.2.1):bfE fr to p (e+1)=bfE fr to p e++[(p.1,to.getD e 0,p.2.2++[(e:Int)])]:=by rw [bfE,if_pos h]
theorem aQy (h:¬fr.getD e 0=p.2.1):bfE fr to p (e+1)=bfE fr to p e:=by rw [bfE,if_neg h]
theorem aAO:∀e,∀y∈bfE fr to p e,y.2.2.length=p.2.2.length+1
 |0,y,h=>by cases h
 |e+1,y,h=>by
  unfold bfE at h
  split at h
  ·rcases List.mem_append.1 h with h|h
   ·exact aAO e y h
   ·rw [List.mem_singleton]at h
    subst h
    simp
  ·exact aAO e y h
theorem aN3 (h:k<L.length∧L.length≤40):bfK fr to (q+1) L k=bfK fr to q (L++bfE fr to (L.getD k bC) fr.length) (k+1):=by rw [bfK,if_pos h]
theorem aQz (h:¬(k<L.length∧L.length≤40)):bfK fr to q L k=L:=by
 cases q with
 |zero=>rfl
 |succ q=>rw [bfK,if_neg h]
theorem aJ4 (h:∀i,i<L.length→(L.getD i bC).2.2.length≤k) (hk:k<L.length):∀i,i<(L++bfE fr to (L.getD k bC) e).length→((L++bfE fr to (L.getD k bC) e).getD i bC).2.2.length≤k+1:=fun i hi=>by
 have h0:=h k hk
 rcases Nat.lt_or_ge i L.length with h1|h1
 ·rw [List.getD_eq_getElem?_getD,List.getElem?_append_left h1,←List.getD_eq_getElem?_getD]
  have:=h i h1
  omega
 ·rw [List.length_append]at hi
  rw [List.getD_eq_getElem?_getD,List.getElem?_append_right h1,List.getElem?_eq_getElem (by omega),Option.getD_some]
  rw [aAO e _ (List.getElem_mem _)];omega
theorem aQq (hk:k<L.length) (M:List Pth):(L++M).getD k bC=L.getD k bC:=by
 rw [List.getD_eq_getElem?_getD,List.getElem?_append_left hk,←List.getD_eq_getElem?_getD]
end
theorem uI (U:Zq) (k:Nat):(U.map (·.1)).getD k bC=(U.getD k (bC,default)).1:=by
 simp only [List.getD_eq_getElem?_getD,List.getElem?_map];cases U[k]? <;>rfl
theorem aDo (U:Zq) (k:Nat) (h:k<U.length):(U.map (·.1)).getD k bC=(U[k]).1:=by
 simp only [List.getD_eq_getElem?_getD,List.getElem?_map,List.getElem?_eq_getElem h,Option.map_some,Option.getD_some]
def swQ (U:Zq) (k:Nat):Zq:=(U.set (k+1) (U.getD k (bC,default))).set k (U.getD (k+1) (bC,default))
theorem aIO (U:Zq) (k:Nat):(swQ U k).map (·.1)=swP (U.map (·.1)) k:=by
 unfold swQ swP
 rw [List.map_set,List.map_set,uI,uI]
theorem aGr {Y:Zq} {k:Nat} (h:k+1<Y.length):Y.Perm (swQ Y k):=by
 have e1:Y.drop k=Y[k]::Y[k+1]::Y.drop (k+2):=by rw [List.drop_eq_getElem_cons (by omega),List.drop_eq_getElem_cons h]
 have e0:Y=Y.take k++Y[k]::Y[k+1]::Y.drop (k+2):=by rw [←e1,List.take_append_drop]
 have l1:(Y.take k).length=k:=by rw [List.length_take];omega
 unfold swQ
 rw [List.getD_eq_getElem?_getD,List.getElem?_eq_getElem (show k<Y.length by omega),List.getD_eq_getElem?_getD,List.getElem?_eq_getElem h]
 simp only [Option.getD_some]
 generalize Y[k]=a at *
 generalize Y[k+1]=b at *
 generalize Y.take k=T at *
 generalize Y.drop (k+2)=R at *
 subst e0
 rw [List.set_append_right _ _ (by omega),l1,show k+1-k=1 by omega]
 simp only [List.set_cons_succ,List.set_cons_zero]
 rw [List.set_append_right _ _ (by omega),l1,Nat.sub_self,List.set_cons_zero]
 exact List.Perm.append_left T (List.Perm.swap ..)
theorem aGM:aE Tryz.prog 348:=⟨_,Tryz.func348,rfl,rfl⟩
theorem aKl {n:Nat} {fr to:List Int} (hg:GrOk n fr to):Spec Tryz.prog 348 [iv n, .bor [] (ints fr), .bor [] (ints to)] [] (.sl 0) [(0,⟨1, .arr (cI (iO n fr to))⟩)]:=by
 have g2:=hg.n2
 have glen:=hg.len
 have gtol:=hg.tol
 refine aD (E:=TE) 0 Tryz.func348 rfl (by simp [Tryz.f348]) fun X hn hX=>?_
 obtain⟨F,hF⟩:∃F,bfK fr to 64 (bf0 n) 0=F:=⟨_,rfl⟩
 repeat'(first|(with_reducible first|refine St.f ?_|refine V_c ?_|refine eDn ?_|refine And.intro ?_ ?_|refine aH ?_ ?_|refine aK ?_)|((refine aN ?_);intro K hK)|((with_reducible refine So.f ?_);intro K hK;simp(contextual:=true)only [go_sem,simprocAttr])|((with_reducible refine hK _ ?_);clear hK K)|(refine fun(hc:(_:Bool)=_)=>?_;try simp only [hcS]at hc))
 all_goals try exact om_
 all_goals try(exfalso;omega)
 refine aG (G:={x:Nat//x≤n∧(True)}) (fun⟨x,_⟩=>[(8,iv x),(0,iv n),(1, .bor [] (ints fr)),(2, .bor [] (ints to)),(7, .sl 0)]) [6] (fun⟨x,_⟩=>[(0,⟨1, .arr (cI (bf0 x))⟩)]) [0] (fun zz=>n-zz.1) ⟨0,Nat.zero_le _,by trivial⟩ ?_ ?_
 ·exact Imp.auto hX (by simp [go_sem,simprocAttr,aKU])
 rintro⟨x,hix,hwx⟩
 simp only [go_sem,simprocAttr]
 have l0:=aHZ (x:=x)
 rcases Nat.lt_or_ge x n with hx1|hx1
 ·repeat'(first|(with_reducible first|refine St.f ?_|refine V_c ?_|refine eDn ?_|refine And.intro ?_ ?_|refine aH ?_ ?_|refine aK ?_)|((refine aN ?_);intro K hK)|((with_reducible refine So.f ?_);intro K hK;simp(contextual:=true)only [go_sem,simprocAttr])|((with_reducible refine hK _ ?_);clear hK K)|(refine fun(hc:(_:Bool)=_)=>?_;try simp only [hcS]at hc))
  all_goals try exact om_
  all_goals try(exfalso;omega)
  refine⟨⟨x+1,by omega,(by(trivial))⟩,by simp only;omega,Imp.auto hX (by simp only [go_sem,simprocAttr,aKT])⟩
 ·obtain rfl:x=n:=by omega
  repeat'(first|(with_reducible first|refine St.f ?_|refine V_c ?_|refine eDn ?_|refine And.intro ?_ ?_|refine aH ?_ ?_|refine aK ?_)|((refine aN ?_);intro K hK)|((with_reducible refine So.f ?_);intro K hK;simp(contextual:=true)only [go_sem,simprocAttr])|((with_reducible refine hK _ ?_);clear hK K)|(refine fun(hc:(_:Bool)=_)=>?_;try simp only [hcS]at hc))
  all_goals try exact om_
  all_goals try(exfalso;omega)
  refine aG (G:={p:List Pth×Nat//bfK fr to (64-p.2) p.1 p.2=F∧p.2≤41∧0<p.1.length∧p.1.length≤43∧(∀i,i<p.1.length→(p.1.getD i bC).2.2.length≤p.2)}) (fun p=>[(9,iv p.1.2),(1, .bor [] (ints fr)),(2, .bor [] (ints to)),(7, .sl 0)]) [6] (fun p=>[(0,⟨1, .arr (cI p.1.1)⟩)]) [0] (fun p=>64-p.1.2) ⟨(bf0 x,0),hF,by simp,by simp only;omega,by simp only;omega,fun i _=>by simp only [aKS];exact Nat.le_refl 0⟩ ?_ ?_
  ·exact Imp.au hX
  rintro⟨⟨L,k⟩,hb,hk,hl0,hl,hr⟩
  simp only at hb hk hl0 hl hr
  simp only [go_sem,simprocAttr]
  by_cases hc:k<L.length∧L.length≤40
  ·obtain⟨hc1,hc2⟩:=hc
   have hb2:bfK fr to (64-(k+1)) (L++bfE fr to (L.getD k bC) fr.length) (k+1)=F:=by
    rw [←hb,show 64-k=(64-(k+1))+1 by omega,aN3 ⟨hc1,hc2⟩]
   have hbl:=aDT (fr:=fr) (to:=to) (p:=L.getD k bC) fr.length
   have hrr:=hr k hc1
   repeat'(first|(with_reducible first|refine St.f ?_|refine V_c ?_|refine eDn ?_|refine And.intro ?_ ?_|refine aH ?_ ?_|refine aK ?_)|((refine aN ?_);intro K hK)|((with_reducible refine So.f ?_);intro K hK;simp(contextual:=true)only [go_sem,simprocAttr])|((with_reducible refine hK _ ?_);clear hK K)|(refine fun(hc:(_:Bool)=_)=>?_;try simp only [hcS]at hc))
   all_goals try exact om_
   all_goals try(exfalso;omega)
   refine aG (G:={e:Nat//e≤fr.length∧(True)}) (fun⟨e,_⟩=>[(10,iv e),(9,iv k),(1, .bor [] (ints fr)),(2, .bor [] (ints to)),(7, .sl 0)]) [6] (fun⟨e,_⟩=>[(0,⟨1, .arr (cI (L++bfE fr to (L.getD k bC) e))⟩)]) [0] (fun zz=>fr.length-zz.1) ⟨0,Nat.zero_le _,by trivial⟩ ?_ ?_
   ·exact Imp.auto hX (by simp [go_sem,simprocAttr,aKV,List.append_nil])
   rintro⟨e,hie,hwe⟩
   simp only [go_sem,simprocAttr]
   have hbe:=aDT (fr:=fr) (to:=to) (p:=L.getD k bC) e
   have hla:(L++bfE fr to (L.getD k bC) e).length=L.length+(bfE fr to (L.getD k bC) e).length:=List.length_append
   have hat:=aQq hc1 (bfE fr to (L.getD k bC) e)
   have pa0:(cI (L++bfE fr to (L.getD k bC) e)).at (k*3+0)= .v (.int .i64 (L.getD k bC).1):=(sO _ k 0 (by omega) (by decide)).trans (by rw [hat];rfl)
   have pa1:(cI (L++bfE fr to (L.getD k bC) e)).at (k*3+1)= .v (.int .i64 (L.getD k bC).2.1):=(sO _ k 1 (by omega) (by decide)).trans (by rw [hat];rfl)
   have pa2:(cI (L++bfE fr to (L.getD k bC) e)).at (k*3+2)=ints (L.getD k bC).2.2:=(sO _ k 2 (by omega) (by decide)).trans (by rw [hat];rfl)
   have hown:=cP (l:=(L.getD k bC).2.2) (by omega)
   rcases Nat.lt_or_ge e fr.length with he1|he1
   ·by_cases h1:fr.getD e 0=(L.getD k bC).2.1
    ·have e1:=aN2 (to:=to) h1
     repeat'(first|(rw [pa0];simp only [go_sem,simprocAttr])|(rw [pa1];simp only [go_sem,simprocAttr])|(rw [pa2];simp only [go_sem,simprocAttr])|(with_reducible first|refine St.f ?_|refine V_c ?_|refine eDn ?_|refine And.intro ?_ ?_|refine aH ?_ ?_|refine aK ?_)|((refine aN ?_);intro K hK)|((with_reducible refine So.f ?_);intro K hK;simp(contextual:=true)only [go_sem,simprocAttr])|((with_reducible refine hK _ ?_);clear hK K)|((with_reducible refine aC 194 ?_);refine EvCall.mr (hown) bZ [(0,1)] [0] ?_)|(refine fun(hc:(_:Bool)=_)=>?_;try simp only [hcS]at hc))
     all_goals try exact om_
     all_goals try(exfalso;omega)
     refine⟨⟨e+1,by omega,(by(trivial))⟩,by simp only;omega,Imp.auto hX (by simp only [go_sem,simprocAttr,e1,List.append_assoc])⟩
    ·have e1:=aQy (to:=to) h1
     repeat'(first|(rw [pa0];simp only [go_sem,simprocAttr])|(rw [pa1];simp only [go_sem,simprocAttr])|(rw [pa2];simp only [go_sem,simprocAttr])|(with_reducible first|refine St.f ?_|refine V_c ?_|refine eDn ?_|refine And.intro ?_ ?_|refine aH ?_ ?_|refine aK ?_)|((refine aN ?_);intro K hK)|((with_reducible refine So.f ?_);intro K hK;simp(contextual:=true)only [go_sem,simprocAttr])|((with_reducible refine hK _ ?_);clear hK K)|(refine fun(hc:(_:Bool)=_)=>?_;try simp only [hcS]at hc))
     all_goals try exact om_
     all_goals try(exfalso;omega)
     refine⟨⟨e+1,by omega,(by(trivial))⟩,by simp only;omega,Imp.auto hX (by simp only [go_sem,simprocAttr,e1])⟩
   ·obtain rfl:e=fr.length:=by omega
    repeat'(first|(with_reducible first|refine St.f ?_|refine V_c ?_|refine eDn ?_|refine And.intro ?_ ?_|refine aH ?_ ?_|refine aK ?_)|((refine aN ?_);intro K hK)|((with_reducible refine So.f ?_);intro K hK;simp(contextual:=true)only [go_sem,simprocAttr])|((with_reducible refine hK _ ?_);clear hK K)|(refine fun(hc:(_:Bool)=_)=>?_;try simp only [hcS]at hc))
    all_goals try exact om_
    all_goals try(exfalso;omega)
    exact⟨⟨(L++bfE fr to (L.getD k bC) fr.length,k+1),hb2,by omega,by simp only;omega,by simp only;omega,aJ4 hr hc1⟩,by simp only;omega,Imp.au hX⟩
  ·rw [aQz hc]at hb
   subst hb
   have hr2:∀i,i<L.length→(L.getD i bC).2.2.length≤1048576:=fun i hi=>by have:=hr i hi;omega
   by_cases h1:k<L.length
   ·have h2:¬L.length≤40:=fun h=>hc ⟨h1,h⟩
    repeat'(first|(with_reducible first|refine St.f ?_|refine V_c ?_|refine eDn ?_|refine And.intro ?_ ?_|refine aH ?_ ?_|refine aK ?_)|((refine aN ?_);intro K hK)|((with_reducible refine So.f ?_);intro K hK;simp(contextual:=true)only [go_sem,simprocAttr])|((with_reducible refine hK _ ?_);clear hK K)|(refine fun(hc:(_:Bool)=_)=>?_;try simp only [hcS]at hc))
    all_goals try exact om_
    all_goals try(exfalso;omega)
    refine aKN 0 1 L rfl (Nat.le_refl 1) rfl fun Z hZ=>?_
    simp only [go_sem,simprocAttr]
    have hZl:Z.length=L.length:=by rw [←hZ,List.length_map]
    have hrZ:∀p∈Z,p.1.2.2.length≤1048576:=fun p hp=>by
     obtain⟨j,hj,e⟩:=List.getElem_of_mem hp
     have h9:=hr2 j (by omega)
     rw [←hZ,aDo Z j hj,e]at h9
     exact h9
    refine aG (G:={p:Nat×Zq//1≤p.1∧p.1≤L.length∧Z.Perm p.2∧p.2.map (·.1)=stP L p.1}) (fun p=>[(11,iv p.1.1),(7, .sl 0)]) [6] (fun p=>[(0,⟨1, .arr (dD p.1.2)⟩),(1,⟨1, .arr (oE (zsq Z))⟩)]) [0,1] (fun p=>L.length-p.1.1) ⟨(1,Z),Nat.le_refl 1,by simp only;omega,List.Perm.refl _,by rw [hZ];rfl⟩ ?_ ?_
    ·exact Imp.sub hX [(0,0),(1,1)] (by simp [go_sem,simprocAttr])
    rintro⟨⟨i,Y⟩,hi1,hi2,hY,hYs⟩
    simp only at hi1 hi2 hY hYs
    have hYl:Y.length=L.length:=by rw [←hY.length_eq];exact hZl
    simp only [go_sem,simprocAttr]
    rcases Nat.lt_or_ge i L.length with hlt|hge
    ·repeat'(first|(with_reducible first|refine St.f ?_|refine V_c ?_|refine eDn ?_|refine And.intro ?_ ?_|refine aH ?_ ?_|refine aK ?_)|((refine aN ?_);intro K hK)|((with_reducible refine So.f ?_);intro K hK;simp(contextual:=true)only [go_sem,simprocAttr])|((with_reducible refine hK _ ?_);clear hK K)|(refine fun(hc:(_:Bool)=_)=>?_;try simp only [hcS]at hc))
     all_goals try exact om_
     all_goals try(exfalso;omega)
     refine aG (G:={q:Nat×Zq//q.1≤i∧Z.Perm q.2∧dnP (q.2.map (·.1)) q.1=stP L (i+1)}) (fun q=>[(12,iv q.1.1),(11,iv i),(7, .sl 0)]) [6] (fun q=>[(0,⟨1, .arr (dD q.1.2)⟩),(1,⟨1, .arr (oE (zsq Z))⟩)]) [0,1] (fun q=>q.1.1) ⟨(i,Y),Nat.le_refl i,hY,by simp only;rw [hYs];rfl⟩ ?_ ?_
     ·exact Imp.sub hX [(0,0),(1,1)] (by simp [go_sem,simprocAttr])
     rintro⟨⟨k,U⟩,hk1,hU,hUs⟩
     simp only at hk1 hU hUs
     have hUl:U.length=L.length:=by rw [←hU.length_eq];exact hZl
     simp only [go_sem,simprocAttr]
     cases k with
     |zero=>
      repeat'(first|((refine jO (id:=18) aCq (by rw [hn];rfl) ?_);intro K hK)|((with_reducible refine fF ?_ ?_);kernel_rfl)|(rw [e1k])|(rw [e0k])|(rw [pa1];simp only [go_sem,simprocAttr])|(rw [pa0];simp only [go_sem,simprocAttr])|(refine jH (b:=true) rfl (by simp only [go_sem,simprocAttr]) rfl ?_;intro K hK;refine HkX.callS (f:=359) hless fR [1] (by simp only [go_sem,simprocAttr]) (by simp [go_sem]) ⟨dQ (n:=1) rfl (by simp) m1,dQ (n:=1) rfl (by simp) m0,trivial⟩ ?_;simp only [go_sem,simprocAttr])|(((with_reducible apply jG);rfl);intro K hK;simp(contextual:=true)only [go_sem,simprocAttr])|((with_reducible refine iJ ?_);intro K hK;simp(contextual:=true)only [go_sem,simprocAttr])|(with_reducible first|refine St.f ?_|refine V_c ?_|refine eDn ?_|refine And.intro ?_ ?_|refine aH ?_ ?_|refine aK ?_)|((refine aN ?_);intro K hK)|((with_reducible refine So.f ?_);intro K hK;simp(contextual:=true)only [go_sem,simprocAttr])|((with_reducible refine hK _ ?_);clear hK K)|(refine fun(hc:(_:Bool)=_)=>?_;try simp only [hcS]at hc))
      all_goals try exact om_
      exact⟨⟨(i+1,U),by simp only;omega,by simp only;omega,hU,hUs⟩,by simp only;omega,Imp.sub hX [(0,0),(1,1)] (by simp [go_sem,simprocAttr])⟩
     |succ k=>
      obtain⟨b,hb0⟩:∃b,U.getD k (bC,default)=b:=⟨_,rfl⟩
      obtain⟨a,ha0⟩:∃a,U.getD (k+1) (bC,default)=a:=⟨_,rfl⟩
      have e1k:((k:Int)+1).toNat=k+1:=by omega
      have e0k:((k:Int)+1-1).toNat=k:=by omega
      have ma:a∈U:=by rw [←ha0];exact bI (by omega)
      have mb:b∈U:=by rw [←hb0];exact bI (by omega)
      have m1:=hU.mem_iff.2 ma
      have m0:=hU.mem_iff.2 mb
      have la:=hrZ a m1
      have lb:=hrZ b m0
      have hless:=xE (a:=a.1) (b:=b.1) la lb
      have pa1:(dD U).part ((k+1)*3) 3=[.v (.int .i64 a.1.1), .v (.int .i64 a.1.2.1), .v a.2.x]:=by rw [←ha0];exact oV U (k+1) (by omega)
      have pa0:(dD U).part (k*3) 3=[.v (.int .i64 b.1.1), .v (.int .i64 b.1.2.1), .v b.2.x]:=by rw [←hb0];exact oV U k (by omega)
      have qa:(U.map (·.1)).getD (k+1) bC=a.1:=by rw [←ha0];exact uI U (k+1)
      have qb:(U.map (·.1)).getD k bC=b.1:=by rw [←hb0];exact uI U k
      rw [dnP,qa,qb]at hUs
      cases hg:aFL a.1 b.1 with
      |false=>
       rw [hg]at hless hUs
       rw [if_neg (by decide)]at hUs
       repeat'(first|((refine jO (id:=18) aCq (by rw [hn];rfl) ?_);intro K hK)|((with_reducible refine fF ?_ ?_);kernel_rfl)|(rw [e1k])|(rw [e0k])|(rw [pa1];simp only [go_sem,simprocAttr])|(rw [pa0];simp only [go_sem,simprocAttr])|(refine jH (b:=true) rfl (by simp only [go_sem,simprocAttr]) rfl ?_;intro K hK;refine HkX.callS (f:=359) hless fR [1] (by simp only [go_sem,simprocAttr]) (by simp [go_sem]) ⟨dQ (n:=1) rfl (by simp) m1,dQ (n:=1) rfl (by simp) m0,trivial⟩ ?_;simp only [go_sem,simprocAttr])|(((with_reducible apply jG);rfl);intro K hK;simp(contextual:=true)only [go_sem,simprocAttr])|((with_reducible refine iJ ?_);intro K hK;simp(contextual:=true)only [go_sem,simprocAttr])|(with_reducible first|refine St.f ?_|refine V_c ?_|refine eDn ?_|refine And.intro ?_ ?_|refine aH ?_ ?_|refine aK ?_)|((refine aN ?_);intro K hK)|((with_reducible refine So.f ?_);intro K hK;simp(contextual:=true)only [go_sem,simprocAttr])|((with_reducible refine hK _ ?_);clear hK K)|(refine fun(hc:(_:Bool)=_)=>?_;try simp only [hcS]at hc))
       all_goals try exact om_
       exact⟨⟨(i+1,U),by simp only;omega,by simp only;omega,hU,hUs⟩,by simp only;omega,Imp.sub hX [(0,0),(1,1)] (by simp [go_sem,simprocAttr])⟩
      |true=>
       rw [hg]at hless hUs
       rw [if_pos rfl]at hUs
       have hsw:(U.set (k+1) b).set k a=swQ U k:=by unfold swQ;rw [ha0,hb0]
       have lsw:(U.set (k+1) b).length=L.length:=by rw [List.length_set];exact hUl
       have pm:=aGr (Y:=U) (k:=k) (by omega)
       have hmp:=aIO U k
       repeat'(first|(refine(id ?_:V _ _ (Code.region 21 _ _) _ _);refine iC 21 (by rw [hn];rfl) ?_;intro K hK)|(refine(id ?_:V _ _ (Code.region 22 _ _) _ _);refine iC 22 (by rw [hn];rfl) ?_;intro K hK)|(refine dC ?_;refine jM (x:= .tmp 110) (y:= .tmp 109) (i:=0) (j:=k+1) (Z:=U) (q:=b) rfl (by kernel_rfl) (by kernel_rfl) (by simp only [go_sem,simprocAttr,e1k]) rfl (by omega) (by simp only [go_sem,simprocAttr]) ?_;simp only [go_sem,simprocAttr])|(refine dC ?_;refine jM (x:= .tmp 115) (y:= .tmp 114) (i:=0) (j:=k) (Z:=U.set (k+1) b) (q:=a) rfl (by kernel_rfl) (by kernel_rfl) (by simp only [go_sem,simprocAttr,e0k]) rfl (by omega) (by simp only [go_sem,simprocAttr]) ?_;simp only [go_sem,simprocAttr])|((with_reducible refine nK ?_);simp only [go_sem,simprocAttr])|(with_reducible refine nJ ?_)|((refine jO (id:=18) aCq (by rw [hn];rfl) ?_);intro K hK)|((with_reducible refine fF ?_ ?_);kernel_rfl)|(rw [e1k])|(rw [e0k])|(rw [pa1];simp only [go_sem,simprocAttr])|(rw [pa0];simp only [go_sem,simprocAttr])|(refine jH (b:=true) rfl (by simp only [go_sem,simprocAttr]) rfl ?_;intro K hK;refine HkX.callS (f:=359) hless fR [1] (by simp only [go_sem,simprocAttr]) (by simp [go_sem]) ⟨dQ (n:=1) rfl (by simp) m1,dQ (n:=1) rfl (by simp) m0,trivial⟩ ?_;simp only [go_sem,simprocAttr])|(((with_reducible apply jG);rfl);intro K hK;simp(contextual:=true)only [go_sem,simprocAttr])|((with_reducible refine iJ ?_);intro K hK;simp(contextual:=true)only [go_sem,simprocAttr])|(with_reducible first|refine St.f ?_|refine V_c ?_|refine eDn ?_|refine And.intro ?_ ?_|refine aH ?_ ?_|refine aK ?_)|((refine aN ?_);intro K hK)|((with_reducible refine So.f ?_);intro K hK;simp(contextual:=true)only [go_sem,simprocAttr])|((with_reducible refine hK _ ?_);clear hK K)|(refine fun(hc:(_:Bool)=_)=>?_;try simp only [hcS]at hc))
       all_goals try exact om_
       exact⟨⟨(k,swQ U k),by simp only;omega,hU.trans pm,by simp only;rw [hmp];exact hUs⟩,by simp only;omega,Imp.sub hX [(0,0),(1,1)] (by simp only [hsw];simp [go_sem,simprocAttr])⟩
    ·obtain rfl:i=L.length:=by omega
     have hYe:Y.map (·.1)=iO x fr to:=by unfold iO;rw [hF];exact hYs
     repeat'(first|(refine bU 23 (Imp.unbagP 0 1 1 1 Z Y rfl rfl (Nat.le_refl 1) (by decide) hY) ?_;rw [hYe];simp only [go_sem,simprocAttr])|(with_reducible first|refine St.f ?_|refine V_c ?_|refine eDn ?_|refine And.intro ?_ ?_|refine aH ?_ ?_|refine aK ?_)|((refine aN ?_);intro K hK)|((with_reducible refine So.f ?_);intro K hK;simp(contextual:=true)only [go_sem,simprocAttr])|((with_reducible refine hK _ ?_);clear hK K)|(refine fun(hc:(_:Bool)=_)=>?_;try simp only [hcS]at hc))
     all_goals try exact om_
     (first|refine aB ?_|refine aA ?_);simp only [go_sem,simprocAttr,Tryz.f348]
   ·repeat'(first|(with_reducible first|refine St.f ?_|refine V_c ?_|refine eDn ?_|refine And.intro ?_ ?_|refine aH ?_ ?_|refine aK ?_)|((refine aN ?_);intro K hK)|((with_reducible refine So.f ?_);intro K hK;simp(contextual:=true)only [go_sem,simprocAttr])|((with_reducible refine hK _ ?_);clear hK K)|(refine fun(hc:(_:Bool)=_)=>?_;try simp only [hcS]at hc))
    all_goals try exact om_
    all_goals try(exfalso;omega)
    refine aKN 0 1 L rfl (Nat.le_refl 1) rfl fun Z hZ=>?_
    simp only [go_sem,simprocAttr]
    have hZl:Z.length=L.length:=by rw [←hZ,List.length_map]
    have hrZ:∀p∈Z,p.1.2.2.length≤1048576:=fun p hp=>by
     obtain⟨j,hj,e⟩:=List.getElem_of_mem hp
     have h9:=hr2 j (by omega)
     rw [←hZ,aDo Z j hj,e]at h9
     exact h9
    refine aG (G:={p:Nat×Zq//1≤p.1∧p.1≤L.length∧Z.Perm p.2∧p.2.map (·.1)=stP L p.1}) (fun p=>[(11,iv p.1.1),(7, .sl 0)]) [6] (fun p=>[(0,⟨1, .arr (dD p.1.2)⟩),(1,⟨1, .arr (oE (zsq Z))⟩)]) [0,1] (fun p=>L.length-p.1.1) ⟨(1,Z),Nat.le_refl 1,by simp only;omega,List.Perm.refl _,by rw [hZ];rfl⟩ ?_ ?_
    ·exact Imp.sub hX [(0,0),(1,1)] (by simp [go_sem,simprocAttr])
    rintro⟨⟨i,Y⟩,hi1,hi2,hY,hYs⟩
    simp only at hi1 hi2 hY hYs
    have hYl:Y.length=L.length:=by rw [←hY.length_eq];exact hZl
    simp only [go_sem,simprocAttr]
    rcases Nat.lt_or_ge i L.length with hlt|hge
    ·repeat'(first|(with_reducible first|refine St.f ?_|refine V_c ?_|refine eDn ?_|refine And.intro ?_ ?_|refine aH ?_ ?_|refine aK ?_)|((refine aN ?_);intro K hK)|((with_reducible refine So.f ?_);intro K hK;simp(contextual:=true)only [go_sem,simprocAttr])|((with_reducible refine hK _ ?_);clear hK K)|(refine fun(hc:(_:Bool)=_)=>?_;try simp only [hcS]at hc))
     all_goals try exact om_
     all_goals try(exfalso;omega)
     refine aG (G:={q:Nat×Zq//q.1≤i∧Z.Perm q.2∧dnP (q.2.map (·.1)) q.1=stP L (i+1)}) (fun q=>[(12,iv q.1.1),(11,iv i),(7, .sl 0)]) [6] (fun q=>[(0,⟨1, .arr (dD q.1.2)⟩),(1,⟨1, .arr (oE (zsq Z))⟩)]) [0,1] (fun q=>q.1.1) ⟨(i,Y),Nat.le_refl i,hY,by simp only;rw [hYs];rfl⟩ ?_ ?_
     ·exact Imp.sub hX [(0,0),(1,1)] (by simp [go_sem,simprocAttr])
     rintro⟨⟨k,U⟩,hk1,hU,hUs⟩
     simp only at hk1 hU hUs
     have hUl:U.length=L.length:=by rw [←hU.length_eq];exact hZl
     simp only [go_sem,simprocAttr]
     cases k with
     |zero=>
      repeat'(first|((refine jO (id:=18) aCq (by rw [hn];rfl) ?_);intro K hK)|((with_reducible refine fF ?_ ?_);kernel_rfl)|(rw [e1k])|(rw [e0k])|(rw [pa1];simp only [go_sem,simprocAttr])|(rw [pa0];simp only [go_sem,simprocAttr])|(refine jH (b:=true) rfl (by simp only [go_sem,simprocAttr]) rfl ?_;intro K hK;refine HkX.callS (f:=359) hless fR [1] (by simp only [go_sem,simprocAttr]) (by simp [go_sem]) ⟨dQ (n:=1) rfl (by simp) m1,dQ (n:=1) rfl (by simp) m0,trivial⟩ ?_;simp only [go_sem,simprocAttr])|(((with_reducible apply jG);rfl);intro K hK;simp(contextual:=true)only [go_sem,simprocAttr])|((with_reducible refine iJ ?_);intro K hK;simp(contextual:=true)only [go_sem,simprocAttr])|(with_reducible first|refine St.f ?_|refine V_c ?_|refine eDn ?_|refine And.intro ?_ ?_|refine aH ?_ ?_|refine aK ?_)|((refine aN ?_);intro K hK)|((with_reducible refine So.f ?_);intro K hK;simp(contextual:=true)only [go_sem,simprocAttr])|((with_reducible refine hK _ ?_);clear hK K)|(refine fun(hc:(_:Bool)=_)=>?_;try simp only [hcS]at hc))
      all_goals try exact om_
      exact⟨⟨(i+1,U),by simp only;omega,by simp only;omega,hU,hUs⟩,by simp only;omega,Imp.sub hX [(0,0),(1,1)] (by simp [go_sem,simprocAttr])⟩
     |succ k=>
      obtain⟨b,hb0⟩:∃b,U.getD k (bC,default)=b:=⟨_,rfl⟩
      obtain⟨a,ha0⟩:∃a,U.getD (k+1) (bC,default)=a:=⟨_,rfl⟩
      have e1k:((k:Int)+1).toNat=k+1:=by omega
      have e0k:((k:Int)+1-1).toNat=k:=by omega
      have ma:a∈U:=by rw [←ha0];exact bI (by omega)
      have mb:b∈U:=by rw [←hb0];exact bI (by omega)
      have m1:=hU.mem_iff.2 ma
      have m0:=hU.mem_iff.2 mb
      have la:=hrZ a m1
      have lb:=hrZ b m0
      have hless:=xE (a:=a.1) (b:=b.1) la lb
      have pa1:(dD U).part ((k+1)*3) 3=[.v (.int .i64 a.1.1), .v (.int .i64 a.1.2.1), .v a.2.x]:=by rw [←ha0];exact oV U (k+1) (by omega)
      have pa0:(dD U).part (k*3) 3=[.v (.int .i64 b.1.1), .v (.int .i64 b.1.2.1), .v b.2.x]:=by rw [←hb0];exact oV U k (by omega)
      have qa:(U.map (·.1)).getD (k+1) bC=a.1:=by rw [←ha0];exact uI U (k+1)
      have qb:(U.map (·.1)).getD k bC=b.1:=by rw [←hb0];exact uI U k
      rw [dnP,qa,qb]at hUs
      cases hg:aFL a.1 b.1 with
      |false=>
       rw [hg]at hless hUs
       rw [if_neg (by decide)]at hUs
       repeat'(first|((refine jO (id:=18) aCq (by rw [hn];rfl) ?_);intro K hK)|((with_reducible refine fF ?_ ?_);kernel_rfl)|(rw [e1k])|(rw [e0k])|(rw [pa1];simp only [go_sem,simprocAttr])|(rw [pa0];simp only [go_sem,simprocAttr])|(refine jH (b:=true) rfl (by simp only [go_sem,simprocAttr]) rfl ?_;intro K hK;refine HkX.callS (f:=359) hless fR [1] (by simp only [go_sem,simprocAttr]) (by simp [go_sem]) ⟨dQ (n:=1) rfl (by simp) m1,dQ (n:=1) rfl (by simp) m0,trivial⟩ ?_;simp only [go_sem,simprocAttr])|(((with_reducible apply jG);rfl);intro K hK;simp(contextual:=true)only [go_sem,simprocAttr])|((with_reducible refine iJ ?_);intro K hK;simp(contextual:=true)only [go_sem,simprocAttr])|(with_reducible first|refine St.f ?_|refine V_c ?_|refine eDn ?_|refine And.intro ?_ ?_|refine aH ?_ ?_|refine aK ?_)|((refine aN ?_);intro K hK)|((with_reducible refine So.f ?_);intro K hK;simp(contextual:=true)only [go_sem,simprocAttr])|((with_reducible refine hK _ ?_);clear hK K)|(refine fun(hc:(_:Bool)=_)=>?_;try simp only [hcS]at hc))
       all_goals try exact om_
       exact⟨⟨(i+1,U),by simp only;omega,by simp only;omega,hU,hUs⟩,by simp only;omega,Imp.sub hX [(0,0),(1,1)] (by simp [go_sem,simprocAttr])⟩
      |true=>
       rw [hg]at hless hUs
       rw [if_pos rfl]at hUs
       have hsw:(U.set (k+1) b).set k a=swQ U k:=by unfold swQ;rw [ha0,hb0]
       have lsw:(U.set (k+1) b).length=L.length:=by rw [List.length_set];exact hUl
       have pm:=aGr (Y:=U) (k:=k) (by omega)
       have hmp:=aIO U k
       repeat'(first|(refine(id ?_:V _ _ (Code.region 21 _ _) _ _);refine iC 21 (by rw [hn];rfl) ?_;intro K hK)|(refine(id ?_:V _ _ (Code.region 22 _ _) _ _);refine iC 22 (by rw [hn];rfl) ?_;intro K hK)|(refine dC ?_;refine jM (x:= .tmp 110) (y:= .tmp 109) (i:=0) (j:=k+1) (Z:=U) (q:=b) rfl (by kernel_rfl) (by kernel_rfl) (by simp only [go_sem,simprocAttr,e1k]) rfl (by omega) (by simp only [go_sem,simprocAttr]) ?_;simp only [go_sem,simprocAttr])|(refine dC ?_;refine jM (x:= .tmp 115) (y:= .tmp 114) (i:=0) (j:=k) (Z:=U.set (k+1) b) (q:=a) rfl (by kernel_rfl) (by kernel_rfl) (by simp only [go_sem,simprocAttr,e0k]) rfl (by omega) (by simp only [go_sem,simprocAttr]) ?_;simp only [go_sem,simprocAttr])|((with_reducible refine nK ?_);simp only [go_sem,simprocAttr])|(with_reducible refine nJ ?_)|((refine jO (id:=18) aCq (by rw [hn];rfl) ?_);intro K hK)|((with_reducible refine fF ?_ ?_);kernel_rfl)|(rw [e1k])|(rw [e0k])|(rw [pa1];simp only [go_sem,simprocAttr])|(rw [pa0];simp only [go_sem,simprocAttr])|(refine jH (b:=true) rfl (by simp only [go_sem,simprocAttr]) rfl ?_;intro K hK;refine HkX.callS (f:=359) hless fR [1] (by simp only [go_sem,simprocAttr]) (by simp [go_sem]) ⟨dQ (n:=1) rfl (by simp) m1,dQ (n:=1) rfl (by simp) m0,trivial⟩ ?_;simp only [go_sem,simprocAttr])|(((with_reducible apply jG);rfl);intro K hK;simp(contextual:=true)only [go_sem,simprocAttr])|((with_reducible refine iJ ?_);intro K hK;simp(contextual:=true)only [go_sem,simprocAttr])|(with_reducible first|refine St.f ?_|refine V_c ?_|refine eDn ?_|refine And.intro ?_ ?_|refine aH ?_ ?_|refine aK ?_)|((refine aN ?_);intro K hK)|((with_reducible refine So.f ?_);intro K hK;simp(contextual:=true)only [go_sem,simprocAttr])|((with_reducible refine hK _ ?_);clear hK K)|(refine fun(hc:(_:Bool)=_)=>?_;try simp only [hcS]at hc))
       all_goals try exact om_
       exact⟨⟨(k,swQ U k),by simp only;omega,hU.trans pm,by simp only;rw [hmp];exact hUs⟩,by simp only;omega,Imp.sub hX [(0,0),(1,1)] (by simp only [hsw];simp [go_sem,simprocAttr])⟩
    ·obtain rfl:i=L.length:=by omega
     have hYe:Y.map (·.1)=iO x fr to:=by unfold iO;rw [hF];exact hYs
     repeat'(first|(refine bU 23 (Imp.unbagP 0 1 1 1 Z Y rfl rfl (Nat.le_refl 1) (by decide) hY) ?_;rw [hYe];simp only [go_sem,simprocAttr])|(with_reducible first|refine St.f ?_|refine V_c ?_|refine eDn ?_|refine And.intro ?_ ?_|refine aH ?_ ?_|refine aK ?_)|((refine aN ?_);intro K hK)|((with_reducible refine So.f ?_);intro K hK;simp(contextual:=true)only [go_sem,simprocAttr])|((with_reducible refine hK _ ?_);clear hK K)|(refine fun(hc:(_:Bool)=_)=>?_;try simp only [hcS]at hc))
     all_goals try exact om_
     (first|refine aB ?_|refine aA ?_);simp only [go_sem,simprocAttr,Tryz.f348]
end Go.Eng
end
section
namespace Go.Cats
theorem aJo:((List.range 4).all fun k=>(grs 2 k).all fun g=>(iO 2 g.1 g.2).all fun p=>decide (p.2.2.length≤64))=true:=by decide+kernel
theorem aJp:((List.range 4).all fun k=>(grs 3 k).all fun g=>(iO 3 g.1 g.2).all fun p=>decide (p.2.2.length≤64))=true:=by decide+kernel
theorem GrOk.rows {n:Nat} {fr to:List Int} (h:GrOk n fr to):∀p∈iO n fr to,p.2.2.length≤64:=fun p hp=>by
 have hm:=aAx h.n2 fr.length fr to rfl h.tol h.edge
 have hl:=h.len
 rcases h.n2 with rfl|rfl
 ·have:=List.all_eq_true.1 (List.all_eq_true.1 (List.all_eq_true.1 aJo fr.length (List.mem_range.2 (by omega))) _ hm) p hp
  simpa using this
 ·have:=List.all_eq_true.1 (List.all_eq_true.1 (List.all_eq_true.1 aJp fr.length (List.mem_range.2 (by omega))) _ hm) p hp
  simpa using this
end Go.Cats
namespace Go.Eng
open Go Go.Proofs Go.Cats
attribute [local go_sem] List.set_cons_zero List.set_cons_succ
namespace Zp
theorem fD:aE Tryz.prog 269:=⟨_,Tryz.func269,rfl,rfl⟩
theorem sp_l02Fits {c:Cat} (hl:c.fr.length≤1048576):Spec Tryz.prog 269 [bK c] [] (bv (dec (c.ob≤8∧c.fr.length≤40))) []:=by
 refine aD (E:=TE) 0 Tryz.func269 rfl (by simp [Tryz.f269]) fun X hn hX=>?_
 repeat'(first|refine wkQ ?_|refine Tw.f ?_ ?_|(refine fun(hc:(_:Bool)=_)=>?_;try simp only [hcS]at hc))
 all_goals try exact om_
 ·(first|refine aB ?_|refine aA ?_);simp only [go_sem,simprocAttr,Tryz.f269]
  exact congrArg (fun b=>Sv.v (.bool b)) (by rw [mU];simp [hc];omega)
 ·(first|refine aB ?_|refine aA ?_);simp only [go_sem,simprocAttr,Tryz.f269]
  exact fH fun h=>by omega
end Zp
open Zp (fD)
def ptF (A:List Pth) (k:Nat):List Int:=(A.take k).map (·.1)
def ptT (A:List Pth) (k:Nat):List Int:=(A.take k).map (·.2.1)
def ptR (A:List Pth) (i:Nat):List (List Int):=(List.range i).map fun i=>cwP A i A.length
section
variable {A:List Pth} {n k i j:Nat} {f:Int} {b:List Int}
theorem aIC (h:k<A.length):A.take (k+1)=A.take k++[A.getD k bC]:=by
 rw [List.take_succ_eq_append_getElem h,List.getD_eq_getElem?_getD,List.getElem?_eq_getElem h];rfl
theorem aMG (h:k<A.length):ptF A (k+1)=ptF A k++[(A.getD k bC).1]:=by unfold ptF;rw [aIC h,List.map_append];rfl
theorem aMK (h:k<A.length):ptT A (k+1)=ptT A k++[(A.getD k bC).2.1]:=by unfold ptT;rw [aIC h,List.map_append];rfl
theorem aMH:ptF A 0=[]:=rfl
theorem aML:ptT A 0=[]:=rfl
theorem aO7 (h:k≤A.length):(ptF A k).length=k:=by unfold ptF;rw [List.length_map,List.length_take];omega
theorem aO9 (h:k≤A.length):(ptT A k).length=k:=by unfold ptT;rw [List.length_map,List.length_take];omega
theorem aFz:idP n A 0=List.replicate n 0:=rfl
theorem aOC (h:(A.getD k bC).2.2.length=0):idP n A (k+1)=(idP n A k).set (A.getD k bC).1.toNat (k:Int):=by rw [idP,if_pos (List.length_eq_zero_iff.1 h)]
theorem aQR (h:¬(A.getD k bC).2.2.length=0):idP n A (k+1)=idP n A k:=by rw [idP,if_neg fun q=>h (by rw [q];rfl)]
theorem aIl:∀k,(idP n A k).length=n
 |0=>by rw [aFz,List.length_replicate]
 |k+1=>by
  have:=aIl k
  unfold idP
  split
  ·rw [List.length_set];exact this
  ·exact this
theorem aMJ:ptR A 0=[]:=rfl
theorem aMI:ptR A (i+1)=ptR A i++[cwP A i A.length]:=by unfold ptR;rw [List.range_succ,List.map_append];rfl
theorem aO8:(ptR A i).length=i:=by unfold ptR;rw [List.length_map,List.length_range]
theorem aLd:cwP A i 0=[]:=rfl
theorem aLc:cwP A i (j+1)=cwP A i j++[coP A i j]:=by unfold cwP;rw [List.range_succ,List.map_append];rfl
theorem aN9:(cwP A i j).length=j:=by unfold cwP;rw [List.length_map,List.length_range]
theorem aHc:wH A f b 0= -1:=rfl
theorem aJC (h:(A.getD k bC).1=f) (g:(A.getD k bC).2.2=b):wH A f b (k+1)=(k:Int):=by rw [wH,if_pos ⟨h,g⟩]
theorem aFF (h:¬((A.getD k bC).1=f∧(A.getD k bC).2.2=b)):wH A f b (k+1)=wH A f b k:=by rw [wH,if_neg h]
end
theorem oH:aE Tryz.prog 321:=⟨_,Tryz.func321,rfl,rfl⟩
theorem rQ {n:Nat} {fr to:List Int} (hg:GrOk n fr to):Spec Tryz.prog 321 [iv n, .bor [] (ints fr), .bor [] (ints to)] [] (.agg [iv (ptC n (iO n fr to)).ob, .sl 0, .sl 1, .sl 2, .sl 3]) [(0,⟨1, .arr (ints (ptC n (iO n fr to)).fr)⟩),(1,⟨1, .arr (ints (ptC n (iO n fr to)).to)⟩),(2,⟨1, .arr (ints (ptC n (iO n fr to)).id)⟩),(3,⟨1, .arr (aF (ptC n (iO n fr to)).co)⟩)]:=by
 have g2:=hg.n2
 have glen:=hg.len
 have gtol:=hg.tol
 have hall:=aKl hg
 have hcat:=hg.cat
 have hrow:=hg.rows
 obtain⟨A,hA⟩:∃A,iO n fr to=A:=⟨_,rfl⟩
 rw [hA]at hall hcat hrow⊢
 have sh:=hcat.toShape
 have lA:A.length≤40:=by have:=sh.m40;simpa [ptC]using this
 have hw:∀i,i<A.length→0≤(A.getD i bC).1∧(A.getD i bC).1<n:=fun i hi=>by
  have:=sh.frw i (by simpa [ptC]using hi)
  have e:(ptC n A).fr.getD i 0=(A.getD i bC).1:=by
   show(A.map (·.1)).getD i 0=_
   simp only [List.getD_eq_getElem?_getD,List.getElem?_map,List.getElem?_eq_getElem hi,Option.map_some,Option.getD_some]
  rw [e]at this
  exact this
 have hr:∀i,i<A.length→(A.getD i bC).2.2.length≤64:=fun i hi=>hrow _ (bI hi)
 have at0:∀i,i<A.length→(cI A).at (i*3+0)= .v (.int .i64 (A.getD i bC).1):=fun i hi=>sO A i 0 hi (by decide)
 have at1:∀i,i<A.length→(cI A).at (i*3+1)= .v (.int .i64 (A.getD i bC).2.1):=fun i hi=>sO A i 1 hi (by decide)
 have at2:∀i,i<A.length→(cI A).at (i*3+2)=ints (A.getD i bC).2.2:=fun i hi=>sO A i 2 hi (by decide)
 refine aD (E:=TE) 0 Tryz.func321 rfl (by simp [Tryz.f321]) fun X hn hX=>?_
 repeat'(first|refine wkQ ?_|refine Tw.f ?_ ?_|(refine kcQ aGM ?_;refine kwQ (hall) [(0,1)] [] ?_)|(refine fun(hc:(_:Bool)=_)=>?_;try simp only [hcS]at hc))
 all_goals try exact om_
 all_goals try(exfalso;omega)
 refine aG (G:={k:Nat//k≤A.length∧(True)}) (fun⟨k,_⟩=>[(9,iv k),(6, .ptr 0 0),(8, .ptr 6 0),(7, .sl 1)]) [] (fun⟨k,_⟩=>[(6,⟨1, .box [iv n, .sl 2, .sl 3, .sl 4, .sl 5]⟩),(1,⟨1, .arr (cI A)⟩),(2,⟨1, .arr (ints (ptF A k))⟩),(3,⟨1, .arr (ints (ptT A k))⟩),(4,⟨1, .arr (ints (idP n A k))⟩),(5,⟨1, .arr (aF ([]))⟩)]) [1,2,3,4,5,6] (fun zz=>A.length-zz.1) ⟨0,Nat.zero_le _,by trivial⟩ ?_ ?_
 ·exact Imp.auto hX (by simp [go_sem,simprocAttr,aMH,aML,aFz])
 rintro⟨k,hik,hwk⟩
 simp only [go_sem,simprocAttr]
 have lF:=aO7 (A:=A) hik
 have lT:=aO9 (A:=A) hik
 have lI:=aIl (A:=A) (n:=n) k
 rcases Nat.lt_or_ge k A.length with hk1|hk1
 ·have e1:=aMG hk1
  have e2:=aMK hk1
  have w0:=hw k hk1
  have r0:=hr k hk1
  have pa0:=at0 k hk1
  have pa1:=at1 k hk1
  have pa2:=at2 k hk1
  by_cases hz:(A.getD k bC).2.2.length=0
  ·have e3:=aOC (n:=n) hz
   repeat'(first|(rw [pa0];simp only [go_sem,simprocAttr])|(rw [pa1];simp only [go_sem,simprocAttr])|(rw [pa2];simp only [go_sem,simprocAttr])|(with_reducible first|refine St.f ?_|refine V_c ?_|refine eDn ?_|refine And.intro ?_ ?_|refine aH ?_ ?_|refine aK ?_)|((refine aN ?_);intro K hK)|((with_reducible refine So.f ?_);intro K hK;simp(contextual:=true)only [go_sem,simprocAttr])|((with_reducible refine hK _ ?_);clear hK K)|(refine fun(hc:(_:Bool)=_)=>?_;try simp only [hcS]at hc))
   all_goals try exact om_
   all_goals try(exfalso;omega)
   refine⟨⟨k+1,by omega,(by(trivial))⟩,by simp only;omega,Imp.auto hX (by simp only [go_sem,simprocAttr,e1,e2,e3])⟩
  ·have e3:=aQR (n:=n) hz
   repeat'(first|(rw [pa0];simp only [go_sem,simprocAttr])|(rw [pa1];simp only [go_sem,simprocAttr])|(rw [pa2];simp only [go_sem,simprocAttr])|(with_reducible first|refine St.f ?_|refine V_c ?_|refine eDn ?_|refine And.intro ?_ ?_|refine aH ?_ ?_|refine aK ?_)|((refine aN ?_);intro K hK)|((with_reducible refine So.f ?_);intro K hK;simp(contextual:=true)only [go_sem,simprocAttr])|((with_reducible refine hK _ ?_);clear hK K)|(refine fun(hc:(_:Bool)=_)=>?_;try simp only [hcS]at hc))
   all_goals try exact om_
   all_goals try(exfalso;omega)
   refine⟨⟨k+1,by omega,(by(trivial))⟩,by simp only;omega,Imp.auto hX (by simp only [go_sem,simprocAttr,e1,e2,e3])⟩
 ·obtain rfl:k=A.length:=by omega
  have hf:=Zp.sp_l02Fits (c:=⟨(n:Int),ptF A A.length,ptT A A.length,idP n A A.length,[]⟩) (by show(ptF A A.length).length≤_;omega)
  rw [bH (show(n:Int)≤8∧(ptF A A.length).length≤40 by omega)]at hf
  repeat'(first|refine wkQ ?_|refine Tw.f ?_ ?_|(refine kcQ fD ?_;refine kwQ (hf) [] [2,3,4,5] ?_)|(refine fun(hc:(_:Bool)=_)=>?_;try simp only [hcS]at hc))
  all_goals try exact om_
  all_goals try(exfalso;omega)
  refine aG (G:={i:Nat//i≤A.length∧(True)}) (fun⟨i,_⟩=>[(10,iv i),(6, .ptr 0 0),(8, .ptr 6 0),(7, .sl 1)]) [] (fun⟨i,_⟩=>[(6,⟨1, .box [iv n, .sl 2, .sl 3, .sl 4, .sl 5]⟩),(1,⟨1, .arr (cI A)⟩),(2,⟨1, .arr (ints (ptF A A.length))⟩),(3,⟨1, .arr (ints (ptT A A.length))⟩),(4,⟨1, .arr (ints (idP n A A.length))⟩),(5,⟨1, .arr (aF (ptR A i))⟩)]) [1,2,3,4,5,6] (fun zz=>A.length-zz.1) ⟨0,Nat.zero_le _,by trivial⟩ ?_ ?_
  ·exact Imp.auto hX (by simp [go_sem,simprocAttr,aMJ])
  rintro⟨i,hii,hwi⟩
  simp only [go_sem,simprocAttr]
  have lR:=aO8 (A:=A) (i:=i)
  rcases Nat.lt_or_ge i A.length with hi1|hi1
  ·have pi0:=at0 i hi1
   have pi1:=at1 i hi1
   have pi2:=at2 i hi1
   have ri:=hr i hi1
   have eR:=aMI (A:=A) (i:=i)
   repeat'(first|refine wkQ ?_|refine Tw.f ?_ ?_|(refine fun(hc:(_:Bool)=_)=>?_;try simp only [hcS]at hc))
   all_goals try exact om_
   all_goals try(exfalso;omega)
   refine aG (G:={j:Nat//j≤A.length∧(True)}) (fun⟨j,_⟩=>[(12,iv j),(10,iv i),(6, .ptr 0 0),(8, .ptr 6 0),(7, .sl 1),(11, .sl 7)]) [] (fun⟨j,_⟩=>[(6,⟨1, .box [iv n, .sl 2, .sl 3, .sl 4, .sl 5]⟩),(1,⟨1, .arr (cI A)⟩),(2,⟨1, .arr (ints (ptF A A.length))⟩),(3,⟨1, .arr (ints (ptT A A.length))⟩),(4,⟨1, .arr (ints (idP n A A.length))⟩),(5,⟨1, .arr (aF (ptR A i))⟩),(7,⟨1, .arr (ints (cwP A i j))⟩)]) [1,2,3,4,5,6,7] (fun zz=>A.length-zz.1) ⟨0,Nat.zero_le _,by trivial⟩ ?_ ?_
   ·exact Imp.auto hX (by simp [go_sem,simprocAttr,aLd])
   rintro⟨j,hij,hwj⟩
   simp only [go_sem,simprocAttr]
   have lW:=aN9 (A:=A) (i:=i) (j:=j)
   rcases Nat.lt_or_ge j A.length with hj1|hj1
   ·have pj0:=at0 j hj1
    have pj2:=at2 j hj1
    have rj:=hr j hj1
    have eW:=aLc (A:=A) (i:=i) (j:=j)
    have hown:=cP (l:=(A.getD i bC).2.2) (by omega)
    by_cases hm:(A.getD i bC).2.1=(A.getD j bC).1
    ·rw [coP,if_pos hm]at eW
     repeat'(first|(rw [pi0];simp only [go_sem,simprocAttr])|(rw [pi1];simp only [go_sem,simprocAttr])|(rw [pi2];simp only [go_sem,simprocAttr])|(rw [pj0];simp only [go_sem,simprocAttr])|(rw [pj2];simp only [go_sem,simprocAttr])|(with_reducible first|refine St.f ?_|refine V_c ?_|refine eDn ?_|refine And.intro ?_ ?_|refine aH ?_ ?_|refine aK ?_)|((refine aN ?_);intro K hK)|((with_reducible refine So.f ?_);intro K hK;simp(contextual:=true)only [go_sem,simprocAttr])|((with_reducible refine hK _ ?_);clear hK K)|((with_reducible refine aC 194 ?_);refine EvCall.mr (hown) bZ [(0,8)] [1] ?_)|(refine fun(hc:(_:Bool)=_)=>?_;try simp only [hcS]at hc))
     all_goals try exact om_
     all_goals try(exfalso;omega)
     refine aG (G:={k:Nat//k≤A.length∧(True)}) (fun⟨k,_⟩=>[(15,iv k),(12,iv j),(10,iv i),(6, .ptr 0 0),(8, .ptr 6 0),(7, .sl 1),(11, .sl 7),(14, .sl 9),(13,iv (wH A (A.getD i bC).1 ((A.getD i bC).2.2++(A.getD j bC).2.2) k))]) [] (fun⟨k,_⟩=>[(6,⟨1, .box [iv n, .sl 2, .sl 3, .sl 4, .sl 5]⟩),(1,⟨1, .arr (cI A)⟩),(2,⟨1, .arr (ints (ptF A A.length))⟩),(3,⟨1, .arr (ints (ptT A A.length))⟩),(4,⟨1, .arr (ints (idP n A A.length))⟩),(5,⟨1, .arr (aF (ptR A i))⟩),(7,⟨1, .arr (ints (cwP A i j))⟩),(9,⟨1, .arr (ints ((A.getD i bC).2.2++(A.getD j bC).2.2))⟩)]) [1,2,3,4,5,6,7,9] (fun zz=>A.length-zz.1) ⟨0,Nat.zero_le _,by trivial⟩ ?_ ?_
     ·exact Imp.auto hX (by simp [go_sem,simprocAttr,aHc])
     rintro⟨k,hik,hwk⟩
     simp only [go_sem,simprocAttr]
     rcases Nat.lt_or_ge k A.length with hk1|hk1
     ·have pk0:=at0 k hk1
      have pk2:=at2 k hk1
      have rk:=hr k hk1
      have hs:=pG (a:=(A.getD k bC).2.2) (b:=(A.getD i bC).2.2++(A.getD j bC).2.2) (by omega) (by rw [List.length_append];omega)
      by_cases h1:(A.getD k bC).1=(A.getD i bC).1
      ·by_cases h2:(A.getD k bC).2.2=(A.getD i bC).2.2++(A.getD j bC).2.2
       ·have e5:=aJC h1 h2
        rw [bH h2]at hs
        repeat'(first|(rw [pk0];simp only [go_sem,simprocAttr])|(rw [pk2];simp only [go_sem,simprocAttr])|(rw [pi0];simp only [go_sem,simprocAttr])|(rw [pi1];simp only [go_sem,simprocAttr])|(rw [pi2];simp only [go_sem,simprocAttr])|(rw [pj0];simp only [go_sem,simprocAttr])|(rw [pj2];simp only [go_sem,simprocAttr])|(with_reducible first|refine St.f ?_|refine V_c ?_|refine eDn ?_|refine And.intro ?_ ?_|refine aH ?_ ?_|refine aK ?_)|((refine aN ?_);intro K hK)|((with_reducible refine So.f ?_);intro K hK;simp(contextual:=true)only [go_sem,simprocAttr])|((with_reducible refine hK _ ?_);clear hK K)|((with_reducible refine aC 144 ?_);refine EvCall.mr (hs) iE [] [1,9] ?_)|(refine fun(hc:(_:Bool)=_)=>?_;try simp only [hcS]at hc))
        all_goals try exact om_
        all_goals try(exfalso;omega)
        refine⟨⟨k+1,by omega,(by(trivial))⟩,by simp only;omega,Imp.auto hX (by simp only [go_sem,simprocAttr,e5])⟩
       ·have e5:=aFF (f:=(A.getD i bC).1) (b:=(A.getD i bC).2.2++(A.getD j bC).2.2) fun q=>h2 q.2
        rw [eD h2]at hs
        repeat'(first|(rw [pk0];simp only [go_sem,simprocAttr])|(rw [pk2];simp only [go_sem,simprocAttr])|(rw [pi0];simp only [go_sem,simprocAttr])|(rw [pi1];simp only [go_sem,simprocAttr])|(rw [pi2];simp only [go_sem,simprocAttr])|(rw [pj0];simp only [go_sem,simprocAttr])|(rw [pj2];simp only [go_sem,simprocAttr])|(with_reducible first|refine St.f ?_|refine V_c ?_|refine eDn ?_|refine And.intro ?_ ?_|refine aH ?_ ?_|refine aK ?_)|((refine aN ?_);intro K hK)|((with_reducible refine So.f ?_);intro K hK;simp(contextual:=true)only [go_sem,simprocAttr])|((with_reducible refine hK _ ?_);clear hK K)|((with_reducible refine aC 144 ?_);refine EvCall.mr (hs) iE [] [1,9] ?_)|(refine fun(hc:(_:Bool)=_)=>?_;try simp only [hcS]at hc))
        all_goals try exact om_
        all_goals try(exfalso;omega)
        refine⟨⟨k+1,by omega,(by(trivial))⟩,by simp only;omega,Imp.auto hX (by simp only [go_sem,simprocAttr,e5])⟩
      ·have e5:=aFF (f:=(A.getD i bC).1) (b:=(A.getD i bC).2.2++(A.getD j bC).2.2) fun q=>h1 q.1
       repeat'(first|(rw [pk0];simp only [go_sem,simprocAttr])|(rw [pk2];simp only [go_sem,simprocAttr])|(rw [pi0];simp only [go_sem,simprocAttr])|(rw [pi1];simp only [go_sem,simprocAttr])|(rw [pi2];simp only [go_sem,simprocAttr])|(rw [pj0];simp only [go_sem,simprocAttr])|(rw [pj2];simp only [go_sem,simprocAttr])|(with_reducible first|refine St.f ?_|refine V_c ?_|refine eDn ?_|refine And.intro ?_ ?_|refine aH ?_ ?_|refine aK ?_)|((refine aN ?_);intro K hK)|((with_reducible refine So.f ?_);intro K hK;simp(contextual:=true)only [go_sem,simprocAttr])|((with_reducible refine hK _ ?_);clear hK K)|((with_reducible refine aC 144 ?_);refine EvCall.mr (hs) iE [] [1,9] ?_)|(refine fun(hc:(_:Bool)=_)=>?_;try simp only [hcS]at hc))
       all_goals try exact om_
       all_goals try(exfalso;omega)
       refine⟨⟨k+1,by omega,(by(trivial))⟩,by simp only;omega,Imp.auto hX (by simp only [go_sem,simprocAttr,e5])⟩
     ·obtain rfl:k=A.length:=by omega
      repeat'(first|refine wkQ ?_|refine Tw.f ?_ ?_|(refine fun(hc:(_:Bool)=_)=>?_;try simp only [hcS]at hc))
      all_goals try exact om_
      all_goals try(exfalso;omega)
      refine⟨⟨j+1,by omega,(by(trivial))⟩,by simp only;omega,Imp.auto hX (by simp only [go_sem,simprocAttr,eW])⟩
    ·rw [coP,if_neg hm]at eW
     repeat'(first|(rw [pi0];simp only [go_sem,simprocAttr])|(rw [pi1];simp only [go_sem,simprocAttr])|(rw [pi2];simp only [go_sem,simprocAttr])|(rw [pj0];simp only [go_sem,simprocAttr])|(rw [pj2];simp only [go_sem,simprocAttr])|(with_reducible first|refine St.f ?_|refine V_c ?_|refine eDn ?_|refine And.intro ?_ ?_|refine aH ?_ ?_|refine aK ?_)|((refine aN ?_);intro K hK)|((with_reducible refine So.f ?_);intro K hK;simp(contextual:=true)only [go_sem,simprocAttr])|((with_reducible refine hK _ ?_);clear hK K)|(refine fun(hc:(_:Bool)=_)=>?_;try simp only [hcS]at hc))
     all_goals try exact om_
     all_goals try(exfalso;omega)
     refine⟨⟨j+1,by omega,(by(trivial))⟩,by simp only;omega,Imp.auto hX (by simp only [go_sem,simprocAttr,eW])⟩
   ·obtain rfl:j=A.length:=by omega
    repeat'(first|refine wkQ ?_|refine Tw.f ?_ ?_|(refine fun(hc:(_:Bool)=_)=>?_;try simp only [hcS]at hc))
    all_goals try exact om_
    all_goals try(exfalso;omega)
    refine⟨⟨i+1,by omega,(by(trivial))⟩,by simp only;omega,Imp.auto hX (by simp only [go_sem,simprocAttr,eR])⟩
  ·obtain rfl:i=A.length:=by omega
   repeat'(first|refine wkQ ?_|refine Tw.f ?_ ?_|(refine fun(hc:(_:Bool)=_)=>?_;try simp only [hcS]at hc))
   all_goals try exact om_
   all_goals try(exfalso;omega)
   (first|refine aB ?_|refine aA ?_);simp only [go_sem,simprocAttr,Tryz.f321]
   simp only [show(ptC n A).ob=n from rfl,show(ptC n A).fr=ptF A A.length by unfold ptF;rw [List.take_length];rfl,show(ptC n A).to=ptT A A.length by unfold ptT;rw [List.take_length];rfl,show(ptC n A).id=idP n A A.length from rfl,show(ptC n A).co=ptR A A.length from rfl,and_self]
end Go.Eng
end
