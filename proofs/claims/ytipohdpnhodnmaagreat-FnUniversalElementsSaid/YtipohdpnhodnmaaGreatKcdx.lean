/- Several texts in one: Z08, Z09. -/
import Derived.Test.YtipohdpnhodnmaaGreatKccx
import Derived.Test.YtipohdpnhodnmaaGreatEngPhq
set_option linter.unusedSimpArgs false
set_option linter.unusedVariables false
set_option maxRecDepth 100000
set_option maxHeartbeats 16000000
section
namespace Go.Eng
open Go Go.Proofs Go.Cats
attribute [local go_sem] List.set_cons_zero List.set_cons_succ aKv
theorem aIA:bf0 0=[]:=rfl
theorem aIz {x:Nat}:bf0 (x+1)=bf0 x++[((x:Int),(x:Int),[])]:=by unfold bf0;rw [List.range_succ,List.map_append];rfl
theorem aFX {x:Nat}:(bf0 x).length=x:=by unfold bf0;rw [List.length_map,List.length_range]
theorem aIy {x i:Nat}:((bf0 x).getD i aZ).2.2=[]:=by
 rcases Nat.lt_or_ge i x with h|h
 ·unfold bf0
  rw [List.getD_eq_getElem?_getD,List.getElem?_map,List.getElem?_range h];rfl
 ·rw [List.getD_eq_getElem?_getD,List.getElem?_eq_none (by rw [aFX];exact h)];rfl
section
variable {fr to:List Int} {p:Pth} {e k q:Nat} {L:List Pth}
theorem aIB:bfE fr to p 0=[]:=rfl
theorem aB0:∀e,(bfE fr to p e).length≤e
 |0=>Nat.le_refl 0
 |e+1=>by
  have:=aB0 e
  unfold bfE
  split
  ·rw [List.length_append,List.length_singleton];omega
  ·omega
theorem aLK (h:fr.getD e 0=p.2.1):bfE fr to p (e+1)=bfE fr to p e++[(p.1,to.getD e 0,p.2.2++[(e:Int)])]:=by rw [bfE,if_pos h]
theorem aOd (h:¬fr.getD e 0=p.2.1):bfE fr to p (e+1)=bfE fr to p e:=by rw [bfE,if_neg h]
theorem xU:∀e,∀y∈bfE fr to p e,y.2.2.length=p.2.2.length+1
 |0,y,h=>by cases h
 |e+1,y,h=>by
  unfold bfE at h
  split at h
  ·rcases List.mem_append.1 h with h|h
   ·exact xU e y h
   ·rw [List.mem_singleton]at h
    subst h
    simp
  ·exact xU e y h
theorem aLL (h:k<L.length∧L.length≤40):bfK fr to (q+1) L k=bfK fr to q (L++bfE fr to (L.getD k aZ) fr.length) (k+1):=by rw [bfK,if_pos h]
theorem aOe (h:¬(k<L.length∧L.length≤40)):bfK fr to q L k=L:=by
 cases q with
 |zero=>rfl
 |succ q=>rw [bfK,if_neg h]
theorem aHN (h:∀i,i<L.length→(L.getD i aZ).2.2.length≤k) (hk:k<L.length):∀i,i<(L++bfE fr to (L.getD k aZ) e).length→((L++bfE fr to (L.getD k aZ) e).getD i aZ).2.2.length≤k+1:=fun i hi=>by
 have h0:=h k hk
 rcases Nat.lt_or_ge i L.length with h1|h1
 ·rw [List.getD_eq_getElem?_getD,List.getElem?_append_left h1,←List.getD_eq_getElem?_getD]
  have:=h i h1
  omega
 ·rw [List.length_append]at hi
  rw [List.getD_eq_getElem?_getD,List.getElem?_append_right h1,List.getElem?_eq_getElem (by omega),Option.getD_some]
  rw [xU e _ (List.getElem_mem _)];omega
theorem aN4 (hk:k<L.length) (M:List Pth):(L++M).getD k aZ=L.getD k aZ:=by
 rw [List.getD_eq_getElem?_getD,List.getElem?_append_left hk,←List.getD_eq_getElem?_getD]
end
theorem qY (U:Zq) (k:Nat):(U.map (·.1)).getD k aZ=(U.getD k (aZ,default)).1:=by
 simp only [List.getD_eq_getElem?_getD,List.getElem?_map];cases U[k]? <;>rfl
theorem aBt (U:Zq) (k:Nat) (h:k<U.length):(U.map (·.1)).getD k aZ=(U[k]).1:=by
 simp only [List.getD_eq_getElem?_getD,List.getElem?_map,List.getElem?_eq_getElem h,Option.map_some,Option.getD_some]
def swQ (U:Zq) (k:Nat):Zq:=(U.set (k+1) (U.getD k (aZ,default))).set k (U.getD (k+1) (aZ,default))
theorem aGN (U:Zq) (k:Nat):(swQ U k).map (·.1)=swP (U.map (·.1)) k:=by
 unfold swQ swP
 rw [List.map_set,List.map_set,qY,qY]
theorem aEr {Y:Zq} {k:Nat} (h:k+1<Y.length):Y.Perm (swQ Y k):=by
 have e1:Y.drop k=Y[k]::Y[k+1]::Y.drop (k+2):=by rw [List.drop_eq_getElem_cons (by omega),List.drop_eq_getElem_cons h]
 have e0:Y=Y.take k++Y[k]::Y[k+1]::Y.drop (k+2):=by rw [←e1,List.take_append_drop]
 have l1:(Y.take k).length=k:=by rw [List.length_take];omega
 unfold swQ
 rw [List.getD_eq_getElem?_getD,List.getElem?_eq_getElem (show k<Y.length by omega),List.getD_eq_getElem?_getD,List.getElem?_eq_getElem h]
 simp only [Option.getD_some]
 generalize Y[k]=a at *
 generalize Y[k+1]=b at *
 generalize Y.take k=T at *
 generalize Y.drop (k+2)=R at *
 subst e0
 rw [List.set_append_right _ _ (by omega),l1,show k+1-k=1 by omega]
 simp only [List.set_cons_succ,List.set_cons_zero]
 rw [List.set_append_right _ _ (by omega),l1,Nat.sub_self,List.set_cons_zero]
 exact List.Perm.append_left T (List.Perm.swap ..)
theorem aEL:aF Tryz.prog 273:=⟨_,Tryz.func273,rfl,rfl⟩
theorem aH3 {n:Nat} {fr to:List Int} (hg:GrOk n fr to):Spec Tryz.prog 273 [iv n, .bor [] (ints fr), .bor [] (ints to)] [] (.sl 0) [(0,⟨1, .arr (bQ (gJ n fr to))⟩)]:=by
 have g2:=hg.n2
 have glen:=hg.len
 have gtol:=hg.tol
 refine aD (E:=TE) 0 Tryz.func273 rfl (by simp [Tryz.f273]) fun X hn hX=>?_
 obtain⟨F,hF⟩:∃F,bfK fr to 64 (bf0 n) 0=F:=⟨_,rfl⟩
 repeat'(first|(with_reducible first|refine St.f ?_|refine V_c ?_|refine eDn ?_|refine And.intro ?_ ?_|refine aI ?_ ?_|refine aN ?_)|((refine aQ ?_);intro K hK)|((with_reducible refine So.f ?_);intro K hK;simp(contextual:=true)only [go_sem,simprocAttr])|((with_reducible refine hK _ ?_);clear hK K)|(refine fun(hc:(_:Bool)=_)=>?_;try simp only [hcS]at hc))
 all_goals try exact om_
 all_goals try(exfalso;omega)
 refine aG (G:={x:Nat//x≤n∧(True)}) (fun⟨x,_⟩=>[(8,iv x),(0,iv n),(1, .bor [] (ints fr)),(2, .bor [] (ints to)),(7, .sl 0)]) [6] (fun⟨x,_⟩=>[(0,⟨1, .arr (bQ (bf0 x))⟩)]) [0] (fun zz=>n-zz.1) ⟨0,Nat.zero_le _,by trivial⟩ ?_ ?_
 ·exact Imp.auto hX (by simp [go_sem,simprocAttr,aIA])
 rintro⟨x,hix,hwx⟩
 simp only [go_sem,simprocAttr]
 have l0:=aFX (x:=x)
 rcases Nat.lt_or_ge x n with hx1|hx1
 ·repeat'(first|(with_reducible first|refine St.f ?_|refine V_c ?_|refine eDn ?_|refine And.intro ?_ ?_|refine aI ?_ ?_|refine aN ?_)|((refine aQ ?_);intro K hK)|((with_reducible refine So.f ?_);intro K hK;simp(contextual:=true)only [go_sem,simprocAttr])|((with_reducible refine hK _ ?_);clear hK K)|(refine fun(hc:(_:Bool)=_)=>?_;try simp only [hcS]at hc))
  all_goals try exact om_
  all_goals try(exfalso;omega)
  refine⟨⟨x+1,by omega,(by(trivial))⟩,by simp only;omega,Imp.auto hX (by simp only [go_sem,simprocAttr,aIz])⟩
 ·obtain rfl:x=n:=by omega
  repeat'(first|(with_reducible first|refine St.f ?_|refine V_c ?_|refine eDn ?_|refine And.intro ?_ ?_|refine aI ?_ ?_|refine aN ?_)|((refine aQ ?_);intro K hK)|((with_reducible refine So.f ?_);intro K hK;simp(contextual:=true)only [go_sem,simprocAttr])|((with_reducible refine hK _ ?_);clear hK K)|(refine fun(hc:(_:Bool)=_)=>?_;try simp only [hcS]at hc))
  all_goals try exact om_
  all_goals try(exfalso;omega)
  refine aG (G:={p:List Pth×Nat//bfK fr to (64-p.2) p.1 p.2=F∧p.2≤41∧0<p.1.length∧p.1.length≤43∧(∀i,i<p.1.length→(p.1.getD i aZ).2.2.length≤p.2)}) (fun p=>[(9,iv p.1.2),(1, .bor [] (ints fr)),(2, .bor [] (ints to)),(7, .sl 0)]) [6] (fun p=>[(0,⟨1, .arr (bQ p.1.1)⟩)]) [0] (fun p=>64-p.1.2) ⟨(bf0 x,0),hF,by simp,by simp only;omega,by simp only;omega,fun i _=>by simp only [aIy];exact Nat.le_refl 0⟩ ?_ ?_
  ·exact Imp.au hX
  rintro⟨⟨L,k⟩,hb,hk,hl0,hl,hr⟩
  simp only at hb hk hl0 hl hr
  simp only [go_sem,simprocAttr]
  by_cases hc:k<L.length∧L.length≤40
  ·obtain⟨hc1,hc2⟩:=hc
   have hb2:bfK fr to (64-(k+1)) (L++bfE fr to (L.getD k aZ) fr.length) (k+1)=F:=by
    rw [←hb,show 64-k=(64-(k+1))+1 by omega,aLL ⟨hc1,hc2⟩]
   have hbl:=aB0 (fr:=fr) (to:=to) (p:=L.getD k aZ) fr.length
   have hrr:=hr k hc1
   repeat'(first|(with_reducible first|refine St.f ?_|refine V_c ?_|refine eDn ?_|refine And.intro ?_ ?_|refine aI ?_ ?_|refine aN ?_)|((refine aQ ?_);intro K hK)|((with_reducible refine So.f ?_);intro K hK;simp(contextual:=true)only [go_sem,simprocAttr])|((with_reducible refine hK _ ?_);clear hK K)|(refine fun(hc:(_:Bool)=_)=>?_;try simp only [hcS]at hc))
   all_goals try exact om_
   all_goals try(exfalso;omega)
   refine aG (G:={e:Nat//e≤fr.length∧(True)}) (fun⟨e,_⟩=>[(10,iv e),(9,iv k),(1, .bor [] (ints fr)),(2, .bor [] (ints to)),(7, .sl 0)]) [6] (fun⟨e,_⟩=>[(0,⟨1, .arr (bQ (L++bfE fr to (L.getD k aZ) e))⟩)]) [0] (fun zz=>fr.length-zz.1) ⟨0,Nat.zero_le _,by trivial⟩ ?_ ?_
   ·exact Imp.auto hX (by simp [go_sem,simprocAttr,aIB,List.append_nil])
   rintro⟨e,hie,hwe⟩
   simp only [go_sem,simprocAttr]
   have hbe:=aB0 (fr:=fr) (to:=to) (p:=L.getD k aZ) e
   have hla:(L++bfE fr to (L.getD k aZ) e).length=L.length+(bfE fr to (L.getD k aZ) e).length:=List.length_append
   have hat:=aN4 hc1 (bfE fr to (L.getD k aZ) e)
   have pa0:(bQ (L++bfE fr to (L.getD k aZ) e)).at (k*3+0)= .v (.int .i64 (L.getD k aZ).1):=(pK _ k 0 (by omega) (by decide)).trans (by rw [hat];rfl)
   have pa1:(bQ (L++bfE fr to (L.getD k aZ) e)).at (k*3+1)= .v (.int .i64 (L.getD k aZ).2.1):=(pK _ k 1 (by omega) (by decide)).trans (by rw [hat];rfl)
   have pa2:(bQ (L++bfE fr to (L.getD k aZ) e)).at (k*3+2)=ints (L.getD k aZ).2.2:=(pK _ k 2 (by omega) (by decide)).trans (by rw [hat];rfl)
   have hown:=gA (l:=(L.getD k aZ).2.2) (by omega)
   rcases Nat.lt_or_ge e fr.length with he1|he1
   ·by_cases h1:fr.getD e 0=(L.getD k aZ).2.1
    ·have e1:=aLK (to:=to) h1
     repeat'(first|(rw [pa0];simp only [go_sem,simprocAttr])|(rw [pa1];simp only [go_sem,simprocAttr])|(rw [pa2];simp only [go_sem,simprocAttr])|(with_reducible first|refine St.f ?_|refine V_c ?_|refine eDn ?_|refine And.intro ?_ ?_|refine aI ?_ ?_|refine aN ?_)|((refine aQ ?_);intro K hK)|((with_reducible refine So.f ?_);intro K hK;simp(contextual:=true)only [go_sem,simprocAttr])|((with_reducible refine hK _ ?_);clear hK K)|((with_reducible refine aE 181 ?_);refine EvCall.mr (hown) eU [(0,1)] [0] ?_)|(refine fun(hc:(_:Bool)=_)=>?_;try simp only [hcS]at hc))
     all_goals try exact om_
     all_goals try(exfalso;omega)
     refine⟨⟨e+1,by omega,(by(trivial))⟩,by simp only;omega,Imp.auto hX (by simp only [go_sem,simprocAttr,e1,List.append_assoc])⟩
    ·have e1:=aOd (to:=to) h1
     repeat'(first|(rw [pa0];simp only [go_sem,simprocAttr])|(rw [pa1];simp only [go_sem,simprocAttr])|(rw [pa2];simp only [go_sem,simprocAttr])|(with_reducible first|refine St.f ?_|refine V_c ?_|refine eDn ?_|refine And.intro ?_ ?_|refine aI ?_ ?_|refine aN ?_)|((refine aQ ?_);intro K hK)|((with_reducible refine So.f ?_);intro K hK;simp(contextual:=true)only [go_sem,simprocAttr])|((with_reducible refine hK _ ?_);clear hK K)|(refine fun(hc:(_:Bool)=_)=>?_;try simp only [hcS]at hc))
     all_goals try exact om_
     all_goals try(exfalso;omega)
     refine⟨⟨e+1,by omega,(by(trivial))⟩,by simp only;omega,Imp.auto hX (by simp only [go_sem,simprocAttr,e1])⟩
   ·obtain rfl:e=fr.length:=by omega
    repeat'(first|(with_reducible first|refine St.f ?_|refine V_c ?_|refine eDn ?_|refine And.intro ?_ ?_|refine aI ?_ ?_|refine aN ?_)|((refine aQ ?_);intro K hK)|((with_reducible refine So.f ?_);intro K hK;simp(contextual:=true)only [go_sem,simprocAttr])|((with_reducible refine hK _ ?_);clear hK K)|(refine fun(hc:(_:Bool)=_)=>?_;try simp only [hcS]at hc))
    all_goals try exact om_
    all_goals try(exfalso;omega)
    exact⟨⟨(L++bfE fr to (L.getD k aZ) fr.length,k+1),hb2,by omega,by simp only;omega,by simp only;omega,aHN hr hc1⟩,by simp only;omega,Imp.au hX⟩
  ·rw [aOe hc]at hb
   subst hb
   have hr2:∀i,i<L.length→(L.getD i aZ).2.2.length≤1048576:=fun i hi=>by have:=hr i hi;omega
   by_cases h1:k<L.length
   ·have h2:¬L.length≤40:=fun h=>hc ⟨h1,h⟩
    repeat'(first|(with_reducible first|refine St.f ?_|refine V_c ?_|refine eDn ?_|refine And.intro ?_ ?_|refine aI ?_ ?_|refine aN ?_)|((refine aQ ?_);intro K hK)|((with_reducible refine So.f ?_);intro K hK;simp(contextual:=true)only [go_sem,simprocAttr])|((with_reducible refine hK _ ?_);clear hK K)|(refine fun(hc:(_:Bool)=_)=>?_;try simp only [hcS]at hc))
    all_goals try exact om_
    all_goals try(exfalso;omega)
    refine aIp 0 1 L rfl (Nat.le_refl 1) rfl fun Z hZ=>?_
    simp only [go_sem,simprocAttr]
    have hZl:Z.length=L.length:=by rw [←hZ,List.length_map]
    have hrZ:∀p∈Z,p.1.2.2.length≤1048576:=fun p hp=>by
     obtain⟨j,hj,e⟩:=List.getElem_of_mem hp
     have h9:=hr2 j (by omega)
     rw [←hZ,aBt Z j hj,e]at h9
     exact h9
    refine aG (G:={p:Nat×Zq//1≤p.1∧p.1≤L.length∧Z.Perm p.2∧p.2.map (·.1)=stP L p.1}) (fun p=>[(11,iv p.1.1),(7, .sl 0)]) [6] (fun p=>[(0,⟨1, .arr (cK p.1.2)⟩),(1,⟨1, .arr (mP (zsq Z))⟩)]) [0,1] (fun p=>L.length-p.1.1) ⟨(1,Z),Nat.le_refl 1,by simp only;omega,List.Perm.refl _,by rw [hZ];rfl⟩ ?_ ?_
    ·exact Imp.sub hX [(0,0),(1,1)] (by simp [go_sem,simprocAttr])
    rintro⟨⟨i,Y⟩,hi1,hi2,hY,hYs⟩
    simp only at hi1 hi2 hY hYs
    have hYl:Y.length=L.length:=by rw [←hY.length_eq];exact hZl
    simp only [go_sem,simprocAttr]
    rcases Nat.lt_or_ge i L.length with hlt|hge
    ·repeat'(first|(with_reducible first|refine St.f ?_|refine V_c ?_|refine eDn ?_|refine And.intro ?_ ?_|refine aI ?_ ?_|refine aN ?_)|((refine aQ ?_);intro K hK)|((with_reducible refine So.f ?_);intro K hK;simp(contextual:=true)only [go_sem,simprocAttr])|((with_reducible refine hK _ ?_);clear hK K)|(refine fun(hc:(_:Bool)=_)=>?_;try simp only [hcS]at hc))
     all_goals try exact om_
     all_goals try(exfalso;omega)
     refine aG (G:={q:Nat×Zq//q.1≤i∧Z.Perm q.2∧dnP (q.2.map (·.1)) q.1=stP L (i+1)}) (fun q=>[(12,iv q.1.1),(11,iv i),(7, .sl 0)]) [6] (fun q=>[(0,⟨1, .arr (cK q.1.2)⟩),(1,⟨1, .arr (mP (zsq Z))⟩)]) [0,1] (fun q=>q.1.1) ⟨(i,Y),Nat.le_refl i,hY,by simp only;rw [hYs];rfl⟩ ?_ ?_
     ·exact Imp.sub hX [(0,0),(1,1)] (by simp [go_sem,simprocAttr])
     rintro⟨⟨k,U⟩,hk1,hU,hUs⟩
     simp only at hk1 hU hUs
     have hUl:U.length=L.length:=by rw [←hU.length_eq];exact hZl
     simp only [go_sem,simprocAttr]
     cases k with
     |zero=>
      repeat'(first|((refine jS (id:=18) aCk (by rw [hn];rfl) ?_);intro K hK)|((with_reducible refine eY ?_ ?_);kernel_rfl)|(rw [e1k])|(rw [e0k])|(rw [pa1];simp only [go_sem,simprocAttr])|(rw [pa0];simp only [go_sem,simprocAttr])|(refine iE (b:=true) rfl (by simp only [go_sem,simprocAttr]) rfl ?_;intro K hK;refine HkX.callS (f:=281) hless dX [1] (by simp only [go_sem,simprocAttr]) (by simp [go_sem]) ⟨cY (n:=1) rfl (by simp) m1,cY (n:=1) rfl (by simp) m0,trivial⟩ ?_;simp only [go_sem,simprocAttr])|(((with_reducible apply jO);rfl);intro K hK;simp(contextual:=true)only [go_sem,simprocAttr])|((with_reducible refine iF ?_);intro K hK;simp(contextual:=true)only [go_sem,simprocAttr])|(with_reducible first|refine St.f ?_|refine V_c ?_|refine eDn ?_|refine And.intro ?_ ?_|refine aI ?_ ?_|refine aN ?_)|((refine aQ ?_);intro K hK)|((with_reducible refine So.f ?_);intro K hK;simp(contextual:=true)only [go_sem,simprocAttr])|((with_reducible refine hK _ ?_);clear hK K)|(refine fun(hc:(_:Bool)=_)=>?_;try simp only [hcS]at hc))
      all_goals try exact om_
      exact⟨⟨(i+1,U),by simp only;omega,by simp only;omega,hU,hUs⟩,by simp only;omega,Imp.sub hX [(0,0),(1,1)] (by simp [go_sem,simprocAttr])⟩
     |succ k=>
      obtain⟨b,hb0⟩:∃b,U.getD k (aZ,default)=b:=⟨_,rfl⟩
      obtain⟨a,ha0⟩:∃a,U.getD (k+1) (aZ,default)=a:=⟨_,rfl⟩
      have e1k:((k:Int)+1).toNat=k+1:=by omega
      have e0k:((k:Int)+1-1).toNat=k:=by omega
      have ma:a∈U:=by rw [←ha0];exact aT (by omega)
      have mb:b∈U:=by rw [←hb0];exact aT (by omega)
      have m1:=hU.mem_iff.2 ma
      have m0:=hU.mem_iff.2 mb
      have la:=hrZ a m1
      have lb:=hrZ b m0
      have hless:=sW (a:=a.1) (b:=b.1) la lb
      have pa1:(cK U).part ((k+1)*3) 3=[.v (.int .i64 a.1.1), .v (.int .i64 a.1.2.1), .v a.2.x]:=by rw [←ha0];exact nA U (k+1) (by omega)
      have pa0:(cK U).part (k*3) 3=[.v (.int .i64 b.1.1), .v (.int .i64 b.1.2.1), .v b.2.x]:=by rw [←hb0];exact nA U k (by omega)
      have qa:(U.map (·.1)).getD (k+1) aZ=a.1:=by rw [←ha0];exact qY U (k+1)
      have qb:(U.map (·.1)).getD k aZ=b.1:=by rw [←hb0];exact qY U k
      rw [dnP,qa,qb]at hUs
      cases hg:aDQ a.1 b.1 with
      |false=>
       rw [hg]at hless hUs
       rw [if_neg (by decide)]at hUs
       repeat'(first|((refine jS (id:=18) aCk (by rw [hn];rfl) ?_);intro K hK)|((with_reducible refine eY ?_ ?_);kernel_rfl)|(rw [e1k])|(rw [e0k])|(rw [pa1];simp only [go_sem,simprocAttr])|(rw [pa0];simp only [go_sem,simprocAttr])|(refine iE (b:=true) rfl (by simp only [go_sem,simprocAttr]) rfl ?_;intro K hK;refine HkX.callS (f:=281) hless dX [1] (by simp only [go_sem,simprocAttr]) (by simp [go_sem]) ⟨cY (n:=1) rfl (by simp) m1,cY (n:=1) rfl (by simp) m0,trivial⟩ ?_;simp only [go_sem,simprocAttr])|(((with_reducible apply jO);rfl);intro K hK;simp(contextual:=true)only [go_sem,simprocAttr])|((with_reducible refine iF ?_);intro K hK;simp(contextual:=true)only [go_sem,simprocAttr])|(with_reducible first|refine St.f ?_|refine V_c ?_|refine eDn ?_|refine And.intro ?_ ?_|refine aI ?_ ?_|refine aN ?_)|((refine aQ ?_);intro K hK)|((with_reducible refine So.f ?_);intro K hK;simp(contextual:=true)only [go_sem,simprocAttr])|((with_reducible refine hK _ ?_);clear hK K)|(refine fun(hc:(_:Bool)=_)=>?_;try simp only [hcS]at hc))
       all_goals try exact om_
       exact⟨⟨(i+1,U),by simp only;omega,by simp only;omega,hU,hUs⟩,by simp only;omega,Imp.sub hX [(0,0),(1,1)] (by simp [go_sem,simprocAttr])⟩
      |true=>
       rw [hg]at hless hUs
       rw [if_pos rfl]at hUs
       have hsw:(U.set (k+1) b).set k a=swQ U k:=by unfold swQ;rw [ha0,hb0]
       have lsw:(U.set (k+1) b).length=L.length:=by rw [List.length_set];exact hUl
       have pm:=aEr (Y:=U) (k:=k) (by omega)
       have hmp:=aGN U k
       repeat'(first|(refine(id ?_:V _ _ (Code.region 21 _ _) _ _);refine jL 21 (by rw [hn];rfl) ?_;intro K hK)|(refine(id ?_:V _ _ (Code.region 22 _ _) _ _);refine jL 22 (by rw [hn];rfl) ?_;intro K hK)|(refine fM ?_;refine iT (x:= .tmp 110) (y:= .tmp 109) (i:=0) (j:=k+1) (Z:=U) (q:=b) rfl (by kernel_rfl) (by kernel_rfl) (by simp only [go_sem,simprocAttr,e1k]) rfl (by omega) (by simp only [go_sem,simprocAttr]) ?_;simp only [go_sem,simprocAttr])|(refine fM ?_;refine iT (x:= .tmp 115) (y:= .tmp 114) (i:=0) (j:=k) (Z:=U.set (k+1) b) (q:=a) rfl (by kernel_rfl) (by kernel_rfl) (by simp only [go_sem,simprocAttr,e0k]) rfl (by omega) (by simp only [go_sem,simprocAttr]) ?_;simp only [go_sem,simprocAttr])|((with_reducible refine rY ?_);simp only [go_sem,simprocAttr])|(with_reducible refine rX ?_)|((refine jS (id:=18) aCk (by rw [hn];rfl) ?_);intro K hK)|((with_reducible refine eY ?_ ?_);kernel_rfl)|(rw [e1k])|(rw [e0k])|(rw [pa1];simp only [go_sem,simprocAttr])|(rw [pa0];simp only [go_sem,simprocAttr])|(refine iE (b:=true) rfl (by simp only [go_sem,simprocAttr]) rfl ?_;intro K hK;refine HkX.callS (f:=281) hless dX [1] (by simp only [go_sem,simprocAttr]) (by simp [go_sem]) ⟨cY (n:=1) rfl (by simp) m1,cY (n:=1) rfl (by simp) m0,trivial⟩ ?_;simp only [go_sem,simprocAttr])|(((with_reducible apply jO);rfl);intro K hK;simp(contextual:=true)only [go_sem,simprocAttr])|((with_reducible refine iF ?_);intro K hK;simp(contextual:=true)only [go_sem,simprocAttr])|(with_reducible first|refine St.f ?_|refine V_c ?_|refine eDn ?_|refine And.intro ?_ ?_|refine aI ?_ ?_|refine aN ?_)|((refine aQ ?_);intro K hK)|((with_reducible refine So.f ?_);intro K hK;simp(contextual:=true)only [go_sem,simprocAttr])|((with_reducible refine hK _ ?_);clear hK K)|(refine fun(hc:(_:Bool)=_)=>?_;try simp only [hcS]at hc))
       all_goals try exact om_
       exact⟨⟨(k,swQ U k),by simp only;omega,hU.trans pm,by simp only;rw [hmp];exact hUs⟩,by simp only;omega,Imp.sub hX [(0,0),(1,1)] (by simp only [hsw];simp [go_sem,simprocAttr])⟩
    ·obtain rfl:i=L.length:=by omega
     have hYe:Y.map (·.1)=gJ x fr to:=by unfold gJ;rw [hF];exact hYs
     repeat'(first|(refine dG 23 (Imp.unbagP 0 1 1 1 Z Y rfl rfl (Nat.le_refl 1) (by decide) hY) ?_;rw [hYe];simp only [go_sem,simprocAttr])|(with_reducible first|refine St.f ?_|refine V_c ?_|refine eDn ?_|refine And.intro ?_ ?_|refine aI ?_ ?_|refine aN ?_)|((refine aQ ?_);intro K hK)|((with_reducible refine So.f ?_);intro K hK;simp(contextual:=true)only [go_sem,simprocAttr])|((with_reducible refine hK _ ?_);clear hK K)|(refine fun(hc:(_:Bool)=_)=>?_;try simp only [hcS]at hc))
     all_goals try exact om_
     (first|refine aB ?_|refine aA ?_);simp only [go_sem,simprocAttr,Tryz.f273]
   ·repeat'(first|(with_reducible first|refine St.f ?_|refine V_c ?_|refine eDn ?_|refine And.intro ?_ ?_|refine aI ?_ ?_|refine aN ?_)|((refine aQ ?_);intro K hK)|((with_reducible refine So.f ?_);intro K hK;simp(contextual:=true)only [go_sem,simprocAttr])|((with_reducible refine hK _ ?_);clear hK K)|(refine fun(hc:(_:Bool)=_)=>?_;try simp only [hcS]at hc))
    all_goals try exact om_
    all_goals try(exfalso;omega)
    refine aIp 0 1 L rfl (Nat.le_refl 1) rfl fun Z hZ=>?_
    simp only [go_sem,simprocAttr]
    have hZl:Z.length=L.length:=by rw [←hZ,List.length_map]
    have hrZ:∀p∈Z,p.1.2.2.length≤1048576:=fun p hp=>by
     obtain⟨j,hj,e⟩:=List.getElem_of_mem hp
     have h9:=hr2 j (by omega)
     rw [←hZ,aBt Z j hj,e]at h9
     exact h9
    refine aG (G:={p:Nat×Zq//1≤p.1∧p.1≤L.length∧Z.Perm p.2∧p.2.map (·.1)=stP L p.1}) (fun p=>[(11,iv p.1.1),(7, .sl 0)]) [6] (fun p=>[(0,⟨1, .arr (cK p.1.2)⟩),(1,⟨1, .arr (mP (zsq Z))⟩)]) [0,1] (fun p=>L.length-p.1.1) ⟨(1,Z),Nat.le_refl 1,by simp only;omega,List.Perm.refl _,by rw [hZ];rfl⟩ ?_ ?_
    ·exact Imp.sub hX [(0,0),(1,1)] (by simp [go_sem,simprocAttr])
    rintro⟨⟨i,Y⟩,hi1,hi2,hY,hYs⟩
    simp only at hi1 hi2 hY hYs
    have hYl:Y.length=L.length:=by rw [←hY.length_eq];exact hZl
    simp only [go_sem,simprocAttr]
    rcases Nat.lt_or_ge i L.length with hlt|hge
    ·repeat'(first|(with_reducible first|refine St.f ?_|refine V_c ?_|refine eDn ?_|refine And.intro ?_ ?_|refine aI ?_ ?_|refine aN ?_)|((refine aQ ?_);intro K hK)|((with_reducible refine So.f ?_);intro K hK;simp(contextual:=true)only [go_sem,simprocAttr])|((with_reducible refine hK _ ?_);clear hK K)|(refine fun(hc:(_:Bool)=_)=>?_;try simp only [hcS]at hc))
     all_goals try exact om_
     all_goals try(exfalso;omega)
     refine aG (G:={q:Nat×Zq//q.1≤i∧Z.Perm q.2∧dnP (q.2.map (·.1)) q.1=stP L (i+1)}) (fun q=>[(12,iv q.1.1),(11,iv i),(7, .sl 0)]) [6] (fun q=>[(0,⟨1, .arr (cK q.1.2)⟩),(1,⟨1, .arr (mP (zsq Z))⟩)]) [0,1] (fun q=>q.1.1) ⟨(i,Y),Nat.le_refl i,hY,by simp only;rw [hYs];rfl⟩ ?_ ?_
     ·exact Imp.sub hX [(0,0),(1,1)] (by simp [go_sem,simprocAttr])
     rintro⟨⟨k,U⟩,hk1,hU,hUs⟩
     simp only at hk1 hU hUs
     have hUl:U.length=L.length:=by rw [←hU.length_eq];exact hZl
     simp only [go_sem,simprocAttr]
     cases k with
     |zero=>
      repeat'(first|((refine jS (id:=18) aCk (by rw [hn];rfl) ?_);intro K hK)|((with_reducible refine eY ?_ ?_);kernel_rfl)|(rw [e1k])|(rw [e0k])|(rw [pa1];simp only [go_sem,simprocAttr])|(rw [pa0];simp only [go_sem,simprocAttr])|(refine iE (b:=true) rfl (by simp only [go_sem,simprocAttr]) rfl ?_;intro K hK;refine HkX.callS (f:=281) hless dX [1] (by simp only [go_sem,simprocAttr]) (by simp [go_sem]) ⟨cY (n:=1) rfl (by simp) m1,cY (n:=1) rfl (by simp) m0,trivial⟩ ?_;simp only [go_sem,simprocAttr])|(((with_reducible apply jO);rfl);intro K hK;simp(contextual:=true)only [go_sem,simprocAttr])|((with_reducible refine iF ?_);intro K hK;simp(contextual:=true)only [go_sem,simprocAttr])|(with_reducible first|refine St.f ?_|refine V_c ?_|refine eDn ?_|refine And.intro ?_ ?_|refine aI ?_ ?_|refine aN ?_)|((refine aQ ?_);intro K hK)|((with_reducible refine So.f ?_);intro K hK;simp(contextual:=true)only [go_sem,simprocAttr])|((with_reducible refine hK _ ?_);clear hK K)|(refine fun(hc:(_:Bool)=_)=>?_;try simp only [hcS]at hc))
      all_goals try exact om_
      exact⟨⟨(i+1,U),by simp only;omega,by simp only;omega,hU,hUs⟩,by simp only;omega,Imp.sub hX [(0,0),(1,1)] (by simp [go_sem,simprocAttr])⟩
     |succ k=>
      obtain⟨b,hb0⟩:∃b,U.getD k (aZ,default)=b:=⟨_,rfl⟩
      obtain⟨a,ha0⟩:∃a,U.getD (k+1) (aZ,default)=a:=⟨_,rfl⟩
      have e1k:((k:Int)+1).toNat=k+1:=by omega
      have e0k:((k:Int)+1-1).toNat=k:=by omega
      have ma:a∈U:=by rw [←ha0];exact aT (by omega)
      have mb:b∈U:=by rw [←hb0];exact aT (by omega)
      have m1:=hU.mem_iff.2 ma
      have m0:=hU.mem_iff.2 mb
      have la:=hrZ a m1
      have lb:=hrZ b m0
      have hless:=sW (a:=a.1) (b:=b.1) la lb
      have pa1:(cK U).part ((k+1)*3) 3=[.v (.int .i64 a.1.1), .v (.int .i64 a.1.2.1), .v a.2.x]:=by rw [←ha0];exact nA U (k+1) (by omega)
      have pa0:(cK U).part (k*3) 3=[.v (.int .i64 b.1.1), .v (.int .i64 b.1.2.1), .v b.2.x]:=by rw [←hb0];exact nA U k (by omega)
      have qa:(U.map (·.1)).getD (k+1) aZ=a.1:=by rw [←ha0];exact qY U (k+1)
      have qb:(U.map (·.1)).getD k aZ=b.1:=by rw [←hb0];exact qY U k
      rw [dnP,qa,qb]at hUs
      cases hg:aDQ a.1 b.1 with
      |false=>
       rw [hg]at hless hUs
       rw [if_neg (by decide)]at hUs
       repeat'(first|((refine jS (id:=18) aCk (by rw [hn];rfl) ?_);intro K hK)|((with_reducible refine eY ?_ ?_);kernel_rfl)|(rw [e1k])|(rw [e0k])|(rw [pa1];simp only [go_sem,simprocAttr])|(rw [pa0];simp only [go_sem,simprocAttr])|(refine iE (b:=true) rfl (by simp only [go_sem,simprocAttr]) rfl ?_;intro K hK;refine HkX.callS (f:=281) hless dX [1] (by simp only [go_sem,simprocAttr]) (by simp [go_sem]) ⟨cY (n:=1) rfl (by simp) m1,cY (n:=1) rfl (by simp) m0,trivial⟩ ?_;simp only [go_sem,simprocAttr])|(((with_reducible apply jO);rfl);intro K hK;simp(contextual:=true)only [go_sem,simprocAttr])|((with_reducible refine iF ?_);intro K hK;simp(contextual:=true)only [go_sem,simprocAttr])|(with_reducible first|refine St.f ?_|refine V_c ?_|refine eDn ?_|refine And.intro ?_ ?_|refine aI ?_ ?_|refine aN ?_)|((refine aQ ?_);intro K hK)|((with_reducible refine So.f ?_);intro K hK;simp(contextual:=true)only [go_sem,simprocAttr])|((with_reducible refine hK _ ?_);clear hK K)|(refine fun(hc:(_:Bool)=_)=>?_;try simp only [hcS]at hc))
       all_goals try exact om_
       exact⟨⟨(i+1,U),by simp only;omega,by simp only;omega,hU,hUs⟩,by simp only;omega,Imp.sub hX [(0,0),(1,1)] (by simp [go_sem,simprocAttr])⟩
      |true=>
       rw [hg]at hless hUs
       rw [if_pos rfl]at hUs
       have hsw:(U.set (k+1) b).set k a=swQ U k:=by unfold swQ;rw [ha0,hb0]
       have lsw:(U.set (k+1) b).length=L.length:=by rw [List.length_set];exact hUl
       have pm:=aEr (Y:=U) (k:=k) (by omega)
       have hmp:=aGN U k
       repeat'(first|(refine(id ?_:V _ _ (Code.region 21 _ _) _ _);refine jL 21 (by rw [hn];rfl) ?_;intro K hK)|(refine(id ?_:V _ _ (Code.region 22 _ _) _ _);refine jL 22 (by rw [hn];rfl) ?_;intro K hK)|(refine fM ?_;refine iT (x:= .tmp 110) (y:= .tmp 109) (i:=0) (j:=k+1) (Z:=U) (q:=b) rfl (by kernel_rfl) (by kernel_rfl) (by simp only [go_sem,simprocAttr,e1k]) rfl (by omega) (by simp only [go_sem,simprocAttr]) ?_;simp only [go_sem,simprocAttr])|(refine fM ?_;refine iT (x:= .tmp 115) (y:= .tmp 114) (i:=0) (j:=k) (Z:=U.set (k+1) b) (q:=a) rfl (by kernel_rfl) (by kernel_rfl) (by simp only [go_sem,simprocAttr,e0k]) rfl (by omega) (by simp only [go_sem,simprocAttr]) ?_;simp only [go_sem,simprocAttr])|((with_reducible refine rY ?_);simp only [go_sem,simprocAttr])|(with_reducible refine rX ?_)|((refine jS (id:=18) aCk (by rw [hn];rfl) ?_);intro K hK)|((with_reducible refine eY ?_ ?_);kernel_rfl)|(rw [e1k])|(rw [e0k])|(rw [pa1];simp only [go_sem,simprocAttr])|(rw [pa0];simp only [go_sem,simprocAttr])|(refine iE (b:=true) rfl (by simp only [go_sem,simprocAttr]) rfl ?_;intro K hK;refine HkX.callS (f:=281) hless dX [1] (by simp only [go_sem,simprocAttr]) (by simp [go_sem]) ⟨cY (n:=1) rfl (by simp) m1,cY (n:=1) rfl (by simp) m0,trivial⟩ ?_;simp only [go_sem,simprocAttr])|(((with_reducible apply jO);rfl);intro K hK;simp(contextual:=true)only [go_sem,simprocAttr])|((with_reducible refine iF ?_);intro K hK;simp(contextual:=true)only [go_sem,simprocAttr])|(with_reducible first|refine St.f ?_|refine V_c ?_|refine eDn ?_|refine And.intro ?_ ?_|refine aI ?_ ?_|refine aN ?_)|((refine aQ ?_);intro K hK)|((with_reducible refine So.f ?_);intro K hK;simp(contextual:=true)only [go_sem,simprocAttr])|((with_reducible refine hK _ ?_);clear hK K)|(refine fun(hc:(_:Bool)=_)=>?_;try simp only [hcS]at hc))
       all_goals try exact om_
       exact⟨⟨(k,swQ U k),by simp only;omega,hU.trans pm,by simp only;rw [hmp];exact hUs⟩,by simp only;omega,Imp.sub hX [(0,0),(1,1)] (by simp only [hsw];simp [go_sem,simprocAttr])⟩
    ·obtain rfl:i=L.length:=by omega
     have hYe:Y.map (·.1)=gJ x fr to:=by unfold gJ;rw [hF];exact hYs
     repeat'(first|(refine dG 23 (Imp.unbagP 0 1 1 1 Z Y rfl rfl (Nat.le_refl 1) (by decide) hY) ?_;rw [hYe];simp only [go_sem,simprocAttr])|(with_reducible first|refine St.f ?_|refine V_c ?_|refine eDn ?_|refine And.intro ?_ ?_|refine aI ?_ ?_|refine aN ?_)|((refine aQ ?_);intro K hK)|((with_reducible refine So.f ?_);intro K hK;simp(contextual:=true)only [go_sem,simprocAttr])|((with_reducible refine hK _ ?_);clear hK K)|(refine fun(hc:(_:Bool)=_)=>?_;try simp only [hcS]at hc))
     all_goals try exact om_
     (first|refine aB ?_|refine aA ?_);simp only [go_sem,simprocAttr,Tryz.f273]
end Go.Eng
end
section
namespace Go.Cats
theorem aHk:((List.range 4).all fun k=>(grs 2 k).all fun g=>(gJ 2 g.1 g.2).all fun p=>decide (p.2.2.length≤64))=true:=by decide+kernel
theorem aHl:((List.range 4).all fun k=>(grs 3 k).all fun g=>(gJ 3 g.1 g.2).all fun p=>decide (p.2.2.length≤64))=true:=by decide+kernel
theorem GrOk.rows {n:Nat} {fr to:List Int} (h:GrOk n fr to):∀p∈gJ n fr to,p.2.2.length≤64:=fun p hp=>by
 have hm:=wX h.n2 fr.length fr to rfl h.tol h.edge
 have hl:=h.len
 rcases h.n2 with rfl|rfl
 ·have:=List.all_eq_true.1 (List.all_eq_true.1 (List.all_eq_true.1 aHk fr.length (List.mem_range.2 (by omega))) _ hm) p hp
  simpa using this
 ·have:=List.all_eq_true.1 (List.all_eq_true.1 (List.all_eq_true.1 aHl fr.length (List.mem_range.2 (by omega))) _ hm) p hp
  simpa using this
end Go.Cats
namespace Go.Eng
open Go Go.Proofs Go.Cats
attribute [local go_sem] List.set_cons_zero List.set_cons_succ
namespace Zp
theorem dO:aF Tryz.prog 234:=⟨_,Tryz.func234,rfl,rfl⟩
theorem sp_l02Fits {c:Cat} (hl:c.fr.length≤1048576):Spec Tryz.prog 234 [jX c] [] (bv (dec (c.ob≤8∧c.fr.length≤40))) []:=by
 refine aD (E:=TE) 0 Tryz.func234 rfl (by simp [Tryz.f234]) fun X hn hX=>?_
 repeat'(first|refine wkQ ?_|refine Tw.f ?_ ?_|(refine fun(hc:(_:Bool)=_)=>?_;try simp only [hcS]at hc))
 all_goals try exact om_
 ·(first|refine aB ?_|refine aA ?_);simp only [go_sem,simprocAttr,Tryz.f234]
  exact congrArg (fun b=>Sv.v (.bool b)) (by rw [jC];simp [hc];omega)
 ·(first|refine aB ?_|refine aA ?_);simp only [go_sem,simprocAttr,Tryz.f234]
  exact cW fun h=>by omega
end Zp
open Zp (dO)
def ptF (A:List Pth) (k:Nat):List Int:=(A.take k).map (·.1)
def ptT (A:List Pth) (k:Nat):List Int:=(A.take k).map (·.2.1)
def ptR (A:List Pth) (i:Nat):List (List Int):=(List.range i).map fun i=>cwP A i A.length
section
variable {A:List Pth} {n k i j:Nat} {f:Int} {b:List Int}
theorem aGy (h:k<A.length):A.take (k+1)=A.take k++[A.getD k aZ]:=by
 rw [List.take_succ_eq_append_getElem h,List.getD_eq_getElem?_getD,List.getElem?_eq_getElem h];rfl
theorem aKn (h:k<A.length):ptF A (k+1)=ptF A k++[(A.getD k aZ).1]:=by unfold ptF;rw [aGy h,List.map_append];rfl
theorem aKr (h:k<A.length):ptT A (k+1)=ptT A k++[(A.getD k aZ).2.1]:=by unfold ptT;rw [aGy h,List.map_append];rfl
theorem aKo:ptF A 0=[]:=rfl
theorem aKs:ptT A 0=[]:=rfl
theorem aMR (h:k≤A.length):(ptF A k).length=k:=by unfold ptF;rw [List.length_map,List.length_take];omega
theorem aMT (h:k≤A.length):(ptT A k).length=k:=by unfold ptT;rw [List.length_map,List.length_take];omega
theorem aDA:idP n A 0=List.replicate n 0:=rfl
theorem aMn (h:(A.getD k aZ).2.2.length=0):idP n A (k+1)=(idP n A k).set (A.getD k aZ).1.toNat (k:Int):=by rw [idP,if_pos (List.length_eq_zero_iff.1 h)]
theorem aOw (h:¬(A.getD k aZ).2.2.length=0):idP n A (k+1)=idP n A k:=by rw [idP,if_neg fun q=>h (by rw [q];rfl)]
theorem aGg:∀k,(idP n A k).length=n
 |0=>by rw [aDA,List.length_replicate]
 |k+1=>by
  have:=aGg k
  unfold idP
  split
  ·rw [List.length_set];exact this
  ·exact this
theorem aKq:ptR A 0=[]:=rfl
theorem aKp:ptR A (i+1)=ptR A i++[cwP A i A.length]:=by unfold ptR;rw [List.range_succ,List.map_append];rfl
theorem aMS:(ptR A i).length=i:=by unfold ptR;rw [List.length_map,List.length_range]
theorem aIP:cwP A i 0=[]:=rfl
theorem aIO:cwP A i (j+1)=cwP A i j++[coP A i j]:=by unfold cwP;rw [List.range_succ,List.map_append];rfl
theorem aLP:(cwP A i j).length=j:=by unfold cwP;rw [List.length_map,List.length_range]
theorem aE6:sD A f b 0= -1:=rfl
theorem aHw (h:(A.getD k aZ).1=f) (g:(A.getD k aZ).2.2=b):sD A f b (k+1)=(k:Int):=by rw [sD,if_pos ⟨h,g⟩]
theorem aDF (h:¬((A.getD k aZ).1=f∧(A.getD k aZ).2.2=b)):sD A f b (k+1)=sD A f b k:=by rw [sD,if_neg h]
end
theorem mS:aF Tryz.prog 259:=⟨_,Tryz.func259,rfl,rfl⟩
theorem oU {n:Nat} {fr to:List Int} (hg:GrOk n fr to):Spec Tryz.prog 259 [iv n, .bor [] (ints fr), .bor [] (ints to)] [] (.agg [iv (ptC n (gJ n fr to)).ob, .sl 0, .sl 1, .sl 2, .sl 3]) [(0,⟨1, .arr (ints (ptC n (gJ n fr to)).fr)⟩),(1,⟨1, .arr (ints (ptC n (gJ n fr to)).to)⟩),(2,⟨1, .arr (ints (ptC n (gJ n fr to)).id)⟩),(3,⟨1, .arr (aC (ptC n (gJ n fr to)).co)⟩)]:=by
 have g2:=hg.n2
 have glen:=hg.len
 have gtol:=hg.tol
 have hall:=aH3 hg
 have hcat:=hg.cat
 have hrow:=hg.rows
 obtain⟨A,hA⟩:∃A,gJ n fr to=A:=⟨_,rfl⟩
 rw [hA]at hall hcat hrow⊢
 have sh:=hcat.toShape
 have lA:A.length≤40:=by have:=sh.m40;simpa [ptC]using this
 have hw:∀i,i<A.length→0≤(A.getD i aZ).1∧(A.getD i aZ).1<n:=fun i hi=>by
  have:=sh.frw i (by simpa [ptC]using hi)
  have e:(ptC n A).fr.getD i 0=(A.getD i aZ).1:=by
   show(A.map (·.1)).getD i 0=_
   simp only [List.getD_eq_getElem?_getD,List.getElem?_map,List.getElem?_eq_getElem hi,Option.map_some,Option.getD_some]
  rw [e]at this
  exact this
 have hr:∀i,i<A.length→(A.getD i aZ).2.2.length≤64:=fun i hi=>hrow _ (aT hi)
 have at0:∀i,i<A.length→(bQ A).at (i*3+0)= .v (.int .i64 (A.getD i aZ).1):=fun i hi=>pK A i 0 hi (by decide)
 have at1:∀i,i<A.length→(bQ A).at (i*3+1)= .v (.int .i64 (A.getD i aZ).2.1):=fun i hi=>pK A i 1 hi (by decide)
 have at2:∀i,i<A.length→(bQ A).at (i*3+2)=ints (A.getD i aZ).2.2:=fun i hi=>pK A i 2 hi (by decide)
 refine aD (E:=TE) 0 Tryz.func259 rfl (by simp [Tryz.f259]) fun X hn hX=>?_
 repeat'(first|refine wkQ ?_|refine Tw.f ?_ ?_|(refine kcQ aEL ?_;refine kwQ (hall) [(0,1)] [] ?_)|(refine fun(hc:(_:Bool)=_)=>?_;try simp only [hcS]at hc))
 all_goals try exact om_
 all_goals try(exfalso;omega)
 refine aG (G:={k:Nat//k≤A.length∧(True)}) (fun⟨k,_⟩=>[(9,iv k),(6, .ptr 0 0),(8, .ptr 6 0),(7, .sl 1)]) [] (fun⟨k,_⟩=>[(6,⟨1, .box [iv n, .sl 2, .sl 3, .sl 4, .sl 5]⟩),(1,⟨1, .arr (bQ A)⟩),(2,⟨1, .arr (ints (ptF A k))⟩),(3,⟨1, .arr (ints (ptT A k))⟩),(4,⟨1, .arr (ints (idP n A k))⟩),(5,⟨1, .arr (aC ([]))⟩)]) [1,2,3,4,5,6] (fun zz=>A.length-zz.1) ⟨0,Nat.zero_le _,by trivial⟩ ?_ ?_
 ·exact Imp.auto hX (by simp [go_sem,simprocAttr,aKo,aKs,aDA])
 rintro⟨k,hik,hwk⟩
 simp only [go_sem,simprocAttr]
 have lF:=aMR (A:=A) hik
 have lT:=aMT (A:=A) hik
 have lI:=aGg (A:=A) (n:=n) k
 rcases Nat.lt_or_ge k A.length with hk1|hk1
 ·have e1:=aKn hk1
  have e2:=aKr hk1
  have w0:=hw k hk1
  have r0:=hr k hk1
  have pa0:=at0 k hk1
  have pa1:=at1 k hk1
  have pa2:=at2 k hk1
  by_cases hz:(A.getD k aZ).2.2.length=0
  ·have e3:=aMn (n:=n) hz
   repeat'(first|(rw [pa0];simp only [go_sem,simprocAttr])|(rw [pa1];simp only [go_sem,simprocAttr])|(rw [pa2];simp only [go_sem,simprocAttr])|(with_reducible first|refine St.f ?_|refine V_c ?_|refine eDn ?_|refine And.intro ?_ ?_|refine aI ?_ ?_|refine aN ?_)|((refine aQ ?_);intro K hK)|((with_reducible refine So.f ?_);intro K hK;simp(contextual:=true)only [go_sem,simprocAttr])|((with_reducible refine hK _ ?_);clear hK K)|(refine fun(hc:(_:Bool)=_)=>?_;try simp only [hcS]at hc))
   all_goals try exact om_
   all_goals try(exfalso;omega)
   refine⟨⟨k+1,by omega,(by(trivial))⟩,by simp only;omega,Imp.auto hX (by simp only [go_sem,simprocAttr,e1,e2,e3])⟩
  ·have e3:=aOw (n:=n) hz
   repeat'(first|(rw [pa0];simp only [go_sem,simprocAttr])|(rw [pa1];simp only [go_sem,simprocAttr])|(rw [pa2];simp only [go_sem,simprocAttr])|(with_reducible first|refine St.f ?_|refine V_c ?_|refine eDn ?_|refine And.intro ?_ ?_|refine aI ?_ ?_|refine aN ?_)|((refine aQ ?_);intro K hK)|((with_reducible refine So.f ?_);intro K hK;simp(contextual:=true)only [go_sem,simprocAttr])|((with_reducible refine hK _ ?_);clear hK K)|(refine fun(hc:(_:Bool)=_)=>?_;try simp only [hcS]at hc))
   all_goals try exact om_
   all_goals try(exfalso;omega)
   refine⟨⟨k+1,by omega,(by(trivial))⟩,by simp only;omega,Imp.auto hX (by simp only [go_sem,simprocAttr,e1,e2,e3])⟩
 ·obtain rfl:k=A.length:=by omega
  have hf:=Zp.sp_l02Fits (c:=⟨(n:Int),ptF A A.length,ptT A A.length,idP n A A.length,[]⟩) (by show(ptF A A.length).length≤_;omega)
  rw [lE (show(n:Int)≤8∧(ptF A A.length).length≤40 by omega)]at hf
  repeat'(first|refine wkQ ?_|refine Tw.f ?_ ?_|(refine kcQ dO ?_;refine kwQ (hf) [] [2,3,4,5] ?_)|(refine fun(hc:(_:Bool)=_)=>?_;try simp only [hcS]at hc))
  all_goals try exact om_
  all_goals try(exfalso;omega)
  refine aG (G:={i:Nat//i≤A.length∧(True)}) (fun⟨i,_⟩=>[(10,iv i),(6, .ptr 0 0),(8, .ptr 6 0),(7, .sl 1)]) [] (fun⟨i,_⟩=>[(6,⟨1, .box [iv n, .sl 2, .sl 3, .sl 4, .sl 5]⟩),(1,⟨1, .arr (bQ A)⟩),(2,⟨1, .arr (ints (ptF A A.length))⟩),(3,⟨1, .arr (ints (ptT A A.length))⟩),(4,⟨1, .arr (ints (idP n A A.length))⟩),(5,⟨1, .arr (aC (ptR A i))⟩)]) [1,2,3,4,5,6] (fun zz=>A.length-zz.1) ⟨0,Nat.zero_le _,by trivial⟩ ?_ ?_
  ·exact Imp.auto hX (by simp [go_sem,simprocAttr,aKq])
  rintro⟨i,hii,hwi⟩
  simp only [go_sem,simprocAttr]
  have lR:=aMS (A:=A) (i:=i)
  rcases Nat.lt_or_ge i A.length with hi1|hi1
  ·have pi0:=at0 i hi1
   have pi1:=at1 i hi1
   have pi2:=at2 i hi1
   have ri:=hr i hi1
   have eR:=aKp (A:=A) (i:=i)
   repeat'(first|refine wkQ ?_|refine Tw.f ?_ ?_|(refine fun(hc:(_:Bool)=_)=>?_;try simp only [hcS]at hc))
   all_goals try exact om_
   all_goals try(exfalso;omega)
   refine aG (G:={j:Nat//j≤A.length∧(True)}) (fun⟨j,_⟩=>[(12,iv j),(10,iv i),(6, .ptr 0 0),(8, .ptr 6 0),(7, .sl 1),(11, .sl 7)]) [] (fun⟨j,_⟩=>[(6,⟨1, .box [iv n, .sl 2, .sl 3, .sl 4, .sl 5]⟩),(1,⟨1, .arr (bQ A)⟩),(2,⟨1, .arr (ints (ptF A A.length))⟩),(3,⟨1, .arr (ints (ptT A A.length))⟩),(4,⟨1, .arr (ints (idP n A A.length))⟩),(5,⟨1, .arr (aC (ptR A i))⟩),(7,⟨1, .arr (ints (cwP A i j))⟩)]) [1,2,3,4,5,6,7] (fun zz=>A.length-zz.1) ⟨0,Nat.zero_le _,by trivial⟩ ?_ ?_
   ·exact Imp.auto hX (by simp [go_sem,simprocAttr,aIP])
   rintro⟨j,hij,hwj⟩
   simp only [go_sem,simprocAttr]
   have lW:=aLP (A:=A) (i:=i) (j:=j)
   rcases Nat.lt_or_ge j A.length with hj1|hj1
   ·have pj0:=at0 j hj1
    have pj2:=at2 j hj1
    have rj:=hr j hj1
    have eW:=aIO (A:=A) (i:=i) (j:=j)
    have hown:=gA (l:=(A.getD i aZ).2.2) (by omega)
    by_cases hm:(A.getD i aZ).2.1=(A.getD j aZ).1
    ·rw [coP,if_pos hm]at eW
     repeat'(first|(rw [pi0];simp only [go_sem,simprocAttr])|(rw [pi1];simp only [go_sem,simprocAttr])|(rw [pi2];simp only [go_sem,simprocAttr])|(rw [pj0];simp only [go_sem,simprocAttr])|(rw [pj2];simp only [go_sem,simprocAttr])|(with_reducible first|refine St.f ?_|refine V_c ?_|refine eDn ?_|refine And.intro ?_ ?_|refine aI ?_ ?_|refine aN ?_)|((refine aQ ?_);intro K hK)|((with_reducible refine So.f ?_);intro K hK;simp(contextual:=true)only [go_sem,simprocAttr])|((with_reducible refine hK _ ?_);clear hK K)|((with_reducible refine aE 181 ?_);refine EvCall.mr (hown) eU [(0,8)] [1] ?_)|(refine fun(hc:(_:Bool)=_)=>?_;try simp only [hcS]at hc))
     all_goals try exact om_
     all_goals try(exfalso;omega)
     refine aG (G:={k:Nat//k≤A.length∧(True)}) (fun⟨k,_⟩=>[(15,iv k),(12,iv j),(10,iv i),(6, .ptr 0 0),(8, .ptr 6 0),(7, .sl 1),(11, .sl 7),(14, .sl 9),(13,iv (sD A (A.getD i aZ).1 ((A.getD i aZ).2.2++(A.getD j aZ).2.2) k))]) [] (fun⟨k,_⟩=>[(6,⟨1, .box [iv n, .sl 2, .sl 3, .sl 4, .sl 5]⟩),(1,⟨1, .arr (bQ A)⟩),(2,⟨1, .arr (ints (ptF A A.length))⟩),(3,⟨1, .arr (ints (ptT A A.length))⟩),(4,⟨1, .arr (ints (idP n A A.length))⟩),(5,⟨1, .arr (aC (ptR A i))⟩),(7,⟨1, .arr (ints (cwP A i j))⟩),(9,⟨1, .arr (ints ((A.getD i aZ).2.2++(A.getD j aZ).2.2))⟩)]) [1,2,3,4,5,6,7,9] (fun zz=>A.length-zz.1) ⟨0,Nat.zero_le _,by trivial⟩ ?_ ?_
     ·exact Imp.auto hX (by simp [go_sem,simprocAttr,aE6])
     rintro⟨k,hik,hwk⟩
     simp only [go_sem,simprocAttr]
     rcases Nat.lt_or_ge k A.length with hk1|hk1
     ·have pk0:=at0 k hk1
      have pk2:=at2 k hk1
      have rk:=hr k hk1
      have hs:=zY (a:=(A.getD k aZ).2.2) (b:=(A.getD i aZ).2.2++(A.getD j aZ).2.2) (by omega) (by rw [List.length_append];omega)
      by_cases h1:(A.getD k aZ).1=(A.getD i aZ).1
      ·by_cases h2:(A.getD k aZ).2.2=(A.getD i aZ).2.2++(A.getD j aZ).2.2
       ·have e5:=aHw h1 h2
        rw [lE h2]at hs
        repeat'(first|(rw [pk0];simp only [go_sem,simprocAttr])|(rw [pk2];simp only [go_sem,simprocAttr])|(rw [pi0];simp only [go_sem,simprocAttr])|(rw [pi1];simp only [go_sem,simprocAttr])|(rw [pi2];simp only [go_sem,simprocAttr])|(rw [pj0];simp only [go_sem,simprocAttr])|(rw [pj2];simp only [go_sem,simprocAttr])|(with_reducible first|refine St.f ?_|refine V_c ?_|refine eDn ?_|refine And.intro ?_ ?_|refine aI ?_ ?_|refine aN ?_)|((refine aQ ?_);intro K hK)|((with_reducible refine So.f ?_);intro K hK;simp(contextual:=true)only [go_sem,simprocAttr])|((with_reducible refine hK _ ?_);clear hK K)|((with_reducible refine aE 48 ?_);refine EvCall.mr (hs) lC [] [1,9] ?_)|(refine fun(hc:(_:Bool)=_)=>?_;try simp only [hcS]at hc))
        all_goals try exact om_
        all_goals try(exfalso;omega)
        refine⟨⟨k+1,by omega,(by(trivial))⟩,by simp only;omega,Imp.auto hX (by simp only [go_sem,simprocAttr,e5])⟩
       ·have e5:=aDF (f:=(A.getD i aZ).1) (b:=(A.getD i aZ).2.2++(A.getD j aZ).2.2) fun q=>h2 q.2
        rw [mF h2]at hs
        repeat'(first|(rw [pk0];simp only [go_sem,simprocAttr])|(rw [pk2];simp only [go_sem,simprocAttr])|(rw [pi0];simp only [go_sem,simprocAttr])|(rw [pi1];simp only [go_sem,simprocAttr])|(rw [pi2];simp only [go_sem,simprocAttr])|(rw [pj0];simp only [go_sem,simprocAttr])|(rw [pj2];simp only [go_sem,simprocAttr])|(with_reducible first|refine St.f ?_|refine V_c ?_|refine eDn ?_|refine And.intro ?_ ?_|refine aI ?_ ?_|refine aN ?_)|((refine aQ ?_);intro K hK)|((with_reducible refine So.f ?_);intro K hK;simp(contextual:=true)only [go_sem,simprocAttr])|((with_reducible refine hK _ ?_);clear hK K)|((with_reducible refine aE 48 ?_);refine EvCall.mr (hs) lC [] [1,9] ?_)|(refine fun(hc:(_:Bool)=_)=>?_;try simp only [hcS]at hc))
        all_goals try exact om_
        all_goals try(exfalso;omega)
        refine⟨⟨k+1,by omega,(by(trivial))⟩,by simp only;omega,Imp.auto hX (by simp only [go_sem,simprocAttr,e5])⟩
      ·have e5:=aDF (f:=(A.getD i aZ).1) (b:=(A.getD i aZ).2.2++(A.getD j aZ).2.2) fun q=>h1 q.1
       repeat'(first|(rw [pk0];simp only [go_sem,simprocAttr])|(rw [pk2];simp only [go_sem,simprocAttr])|(rw [pi0];simp only [go_sem,simprocAttr])|(rw [pi1];simp only [go_sem,simprocAttr])|(rw [pi2];simp only [go_sem,simprocAttr])|(rw [pj0];simp only [go_sem,simprocAttr])|(rw [pj2];simp only [go_sem,simprocAttr])|(with_reducible first|refine St.f ?_|refine V_c ?_|refine eDn ?_|refine And.intro ?_ ?_|refine aI ?_ ?_|refine aN ?_)|((refine aQ ?_);intro K hK)|((with_reducible refine So.f ?_);intro K hK;simp(contextual:=true)only [go_sem,simprocAttr])|((with_reducible refine hK _ ?_);clear hK K)|((with_reducible refine aE 48 ?_);refine EvCall.mr (hs) lC [] [1,9] ?_)|(refine fun(hc:(_:Bool)=_)=>?_;try simp only [hcS]at hc))
       all_goals try exact om_
       all_goals try(exfalso;omega)
       refine⟨⟨k+1,by omega,(by(trivial))⟩,by simp only;omega,Imp.auto hX (by simp only [go_sem,simprocAttr,e5])⟩
     ·obtain rfl:k=A.length:=by omega
      repeat'(first|refine wkQ ?_|refine Tw.f ?_ ?_|(refine fun(hc:(_:Bool)=_)=>?_;try simp only [hcS]at hc))
      all_goals try exact om_
      all_goals try(exfalso;omega)
      refine⟨⟨j+1,by omega,(by(trivial))⟩,by simp only;omega,Imp.auto hX (by simp only [go_sem,simprocAttr,eW])⟩
    ·rw [coP,if_neg hm]at eW
     repeat'(first|(rw [pi0];simp only [go_sem,simprocAttr])|(rw [pi1];simp only [go_sem,simprocAttr])|(rw [pi2];simp only [go_sem,simprocAttr])|(rw [pj0];simp only [go_sem,simprocAttr])|(rw [pj2];simp only [go_sem,simprocAttr])|(with_reducible first|refine St.f ?_|refine V_c ?_|refine eDn ?_|refine And.intro ?_ ?_|refine aI ?_ ?_|refine aN ?_)|((refine aQ ?_);intro K hK)|((with_reducible refine So.f ?_);intro K hK;simp(contextual:=true)only [go_sem,simprocAttr])|((with_reducible refine hK _ ?_);clear hK K)|(refine fun(hc:(_:Bool)=_)=>?_;try simp only [hcS]at hc))
     all_goals try exact om_
     all_goals try(exfalso;omega)
     refine⟨⟨j+1,by omega,(by(trivial))⟩,by simp only;omega,Imp.auto hX (by simp only [go_sem,simprocAttr,eW])⟩
   ·obtain rfl:j=A.length:=by omega
    repeat'(first|refine wkQ ?_|refine Tw.f ?_ ?_|(refine fun(hc:(_:Bool)=_)=>?_;try simp only [hcS]at hc))
    all_goals try exact om_
    all_goals try(exfalso;omega)
    refine⟨⟨i+1,by omega,(by(trivial))⟩,by simp only;omega,Imp.auto hX (by simp only [go_sem,simprocAttr,eR])⟩
  ·obtain rfl:i=A.length:=by omega
   repeat'(first|refine wkQ ?_|refine Tw.f ?_ ?_|(refine fun(hc:(_:Bool)=_)=>?_;try simp only [hcS]at hc))
   all_goals try exact om_
   all_goals try(exfalso;omega)
   (first|refine aB ?_|refine aA ?_);simp only [go_sem,simprocAttr,Tryz.f259]
   simp only [show(ptC n A).ob=n from rfl,show(ptC n A).fr=ptF A A.length by unfold ptF;rw [List.take_length];rfl,show(ptC n A).to=ptT A A.length by unfold ptT;rw [List.take_length];rfl,show(ptC n A).id=idP n A A.length from rfl,show(ptC n A).co=ptR A A.length from rfl,and_self]
end Go.Eng
end
