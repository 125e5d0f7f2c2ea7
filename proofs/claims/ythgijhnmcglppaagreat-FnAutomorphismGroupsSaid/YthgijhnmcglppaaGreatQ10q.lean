/- The reference sorts lists. -/
import Derived.Test.YthgijhnmcglppaaGreatQ09y
set_option linter.unusedSimpArgs false
set_option linter.unusedVariables false
set_option maxRecDepth 100000
set_option maxHeartbeats 16000000
namespace Go.Eng
open Go Go.Proofs Go.Cats
attribute [local go_sem] List.set_cons_zero List.set_cons_succ
def swZ (Y:Zs) (k:Nat):Zs:=(Y.set (k+1) (Y.getD k (.slice none 0 0,[]))).set k (Y.getD (k+1) (.slice none 0 0,[]))
theorem aRW {Y:Zs} {k:Nat} (h:k+1<Y.length):∃T a b R,Y=T++a::b::R∧T.length=k∧swZ Y k=T++b::a::R:=by
 refine⟨Y.take k,Y[k],Y[k+1],Y.drop (k+2),?_,by rw [List.length_take];omega,?_⟩
 ·have e1:Y.drop k=Y[k]::Y[k+1]::Y.drop (k+2):=by rw [List.drop_eq_getElem_cons (by omega),List.drop_eq_getElem_cons h]
  rw [←e1,List.take_append_drop]
 ·have e0:Y=Y.take k++Y[k]::Y[k+1]::Y.drop (k+2):=by
   have e1:Y.drop k=Y[k]::Y[k+1]::Y.drop (k+2):=by rw [List.drop_eq_getElem_cons (by omega),List.drop_eq_getElem_cons h]
   rw [←e1,List.take_append_drop]
  have l1:(Y.take k).length=k:=by rw [List.length_take];omega
  unfold swZ
  rw [List.getD_eq_getElem?_getD,List.getElem?_eq_getElem (show k<Y.length by omega),List.getD_eq_getElem?_getD,List.getElem?_eq_getElem h]
  simp only [Option.getD_some]
  generalize Y[k]=a at *
  generalize Y[k+1]=b at *
  generalize Y.take k=T at *
  generalize Y.drop (k+2)=R at *
  subst e0
  rw [List.set_append_right _ _ (by omega),l1,show k+1-k=1 by omega]
  simp only [List.set_cons_succ,List.set_cons_zero]
  rw [List.set_append_right _ _ (by omega),l1,Nat.sub_self,List.set_cons_zero]
theorem aNV {Y:Zs} {k:Nat} (h:k+1<Y.length):Y.Perm (swZ Y k):=by
 obtain⟨T,a,b,R,e1,_,e2⟩:=aRW h
 rw [e2,e1]
 exact List.Perm.append_left T (List.Perm.swap ..)
theorem aPF (Y:Zs) (k:Nat):(swZ Y k).map (·.1)=((Y.map (·.1)).set (k+1) ((Y.map (·.1)).getD k (.slice none 0 0))).set k ((Y.map (·.1)).getD (k+1) (.slice none 0 0)):=by
 unfold swZ
 rw [List.map_set,List.map_set]
 have g:∀j,(Y.getD j (.slice none 0 0,[])).1=(Y.map (·.1)).getD j (.slice none 0 0):=fun j=>by
  simp only [List.getD_eq_getElem?_getD,List.getElem?_map];cases Y[j]? <;>rfl
 rw [g,g]
theorem aPG (Y:Zs) (k:Nat):(swZ Y k).map (·.2)=((Y.map (·.2)).set (k+1) ((Y.map (·.2)).getD k [])).set k ((Y.map (·.2)).getD (k+1) []):=by
 unfold swZ
 rw [List.map_set,List.map_set]
 have g:∀j,(Y.getD j (.slice none 0 0,[])).2=(Y.map (·.2)).getD j []:=fun j=>by
  simp only [List.getD_eq_getElem?_getD,List.getElem?_map];cases Y[j]? <;>rfl
 rw [g,g]
theorem aHd {Y:Zs} {k:Nat} (h:k<Y.length):((Y.map (·.1)).getD k (.slice none 0 0),(Y.map (·.2)).getD k [])∈Y:=by
 have:((Y.map (·.1)).getD k (.slice none 0 0),(Y.map (·.2)).getD k [])=Y[k]:=by
  simp only [List.getD_eq_getElem?_getD,List.getElem?_map,List.getElem?_eq_getElem h,Option.map_some,Option.getD_some]
 rw [this]
 exact List.getElem_mem h
theorem aPD (L:List (List Int)):srt (L.take 1)++L.drop 1=L:=by
 cases L with
 |nil=>simp [aPC]
 |cons x L=>rw [show(x::L).take 1=[x] from rfl,aFa (List.Perm.refl [x]) (List.pairwise_singleton ..)];rfl
theorem aC1:aD Tryz.prog 344:=⟨_,Tryz.func344,rfl,rfl⟩
theorem aE6 {L:List (List Int)} (hl:L.length≤1048576) (hr:∀i,i<L.length→(L.getD i []).length≤1048576):Spec Tryz.prog 344 [.sl 0] [(0,⟨1, .arr (aF L)⟩)] (.sl 1) [(0,⟨1, .gone⟩),(1,⟨1, .arr (aF (srt L))⟩)]:=by
 refine aC (E:=TE) 1 Tryz.func344 rfl (by simp [Tryz.f344]) fun X hn hX=>?_
 refine aLj 0 1 L rfl (Nat.le_refl 1) rfl fun Z hZ hZ1=>?_
 simp only [go_sem,simprocAttr]
 have hZl:Z.length=L.length:=by rw [←hZ,List.length_map]
 have hbl:(Z.map (·.1)).length=L.length:=by rw [List.length_map];exact hZl
 have h1s:∀Y:Zs,Z.Perm Y→(bY (Y.map (·.1))).ones=true:=fun Y hY=>aCe fun x hx=>by
  obtain⟨p,hp,rfl⟩:=List.mem_map.1 hx
  exact hZ1 p (hY.mem_iff.2 hp)
 have h1z:=h1s Z (List.Perm.refl _)
 repeat'(first|(exact h1z)|(refine dM 2 (Imp.dropL 0 _ _ rfl (Nat.succ_le_succ (Nat.zero_le _))) ?_;simp only [go_sem,simprocAttr])|(with_reducible first|refine St.f ?_|refine V_c ?_|refine eDn ?_|refine And.intro ?_ ?_|refine aJ ?_ ?_|refine aO ?_)|((refine aV ?_);intro K hK)|((with_reducible refine So.f ?_);intro K hK;simp(contextual:=true)only [go_sem,simprocAttr])|((with_reducible refine hK _ ?_);clear hK K)|(refine fun(hc:(_:Bool)=_)=>?_;try simp only [hcS]at hc))
 all_goals try exact om_
 refine aG (G:={p:Nat×Zs//1≤p.1∧(p.1≤L.length∨L.length=0)∧Z.Perm p.2∧p.2.map (·.2)=srt (L.take p.1)++L.drop p.1}) (fun p=>[(4,iv p.1.1),(3, .sl 3)]) [2] (fun p=>[(0,⟨3, .gone⟩),(1,⟨1, .arr (lG Z)⟩),(3,⟨1, .arr (bY (p.1.2.map (·.1)))⟩)]) [0,1,3] (fun p=>L.length-p.1.1) ⟨(1,Z),Nat.le_refl 1,by omega,List.Perm.refl _,by rw [hZ];exact(aPD L).symm⟩ ?_ ?_
 ·exact Imp.sub hX [(0,0),(1,1),(3,3)] (by simp [go_sem,simprocAttr])
 rintro⟨⟨i,Y⟩,hi1,hi2,hY,hYs⟩
 simp only at hi1 hi2 hY hYs
 have hYl:Y.length=L.length:=by rw [←hY.length_eq];exact hZl
 have hYm:(Y.map (·.1)).length=L.length:=by rw [List.length_map];exact hYl
 simp only [go_sem,simprocAttr]
 rcases Nat.lt_or_ge i L.length with hlt|hge
 ·have hSl:(srt (L.take i)).length=i:=by rw [aBf,List.length_take];omega
  have hst:L.drop i=L.getD i []::L.drop (i+1):=by
   rw [List.drop_eq_getElem_cons hlt,List.getD_eq_getElem?_getD,List.getElem?_eq_getElem hlt];rfl
  obtain⟨x,hx⟩:∃x,L.getD i []=x:=⟨_,rfl⟩
  obtain⟨T,hT⟩:∃T,srt (L.take i)=T:=⟨_,rfl⟩
  rw [hT]at hSl
  rw [hst,hx,hT]at hYs
  repeat'(first|(with_reducible first|refine St.f ?_|refine V_c ?_|refine eDn ?_|refine And.intro ?_ ?_|refine aJ ?_ ?_|refine aO ?_)|((refine aV ?_);intro K hK)|((with_reducible refine So.f ?_);intro K hK;simp(contextual:=true)only [go_sem,simprocAttr])|((with_reducible refine hK _ ?_);clear hK K)|(refine fun(hc:(_:Bool)=_)=>?_;try simp only [hcS]at hc))
  all_goals try exact om_
  refine aG (G:={q:Nat×Zs//q.1≤i∧Z.Perm q.2∧q.2.map (·.2)=oS T x q.1 (L.drop (i+1))∧∀y∈T.drop q.1,dB x y=true}) (fun q=>[(5,iv q.1.1)]) [2,3,4] (fun q=>[(3,⟨1, .arr (bY (q.1.2.map (·.1)))⟩)]) [3] (fun q=>q.1.1) ⟨(i,Y),Nat.le_refl i,hY,by rw [hYs,←hSl,aKe],fun y hy=>by rw [←hSl,List.drop_length]at hy;cases hy⟩ ?_ ?_
  ·exact Imp.sub hX [(0,0),(1,1),(3,3)] (by simp [go_sem,simprocAttr])
  rintro⟨⟨k,W⟩,hk1,hW,hWs,hWl⟩
  simp only at hk1 hW hWs hWl
  have hWn:W.length=L.length:=by rw [←hW.length_eq];exact hZl
  have hWm:(W.map (·.1)).length=L.length:=by rw [List.length_map];exact hWn
  simp only [go_sem,simprocAttr]
  cases k with
  |zero=>
   have hfin:W.map (·.2)=srt (L.take (i+1))++L.drop (i+1):=by
    rw [hWs,←hx,←hT]
    exact aJv hlt (Nat.zero_le _) (by rw [hT,hx];exact hWl) (.inl rfl)
   repeat'(first|((refine jH (id:=6) aBX (by rw [hn];rfl) ?_);intro K hK)|((with_reducible refine fC ?_ ?_);kernel_rfl)|(rw [e1k])|(rw [e0k])|(rw [ha1];simp only [go_sem,simprocAttr])|(rw [ha0];simp only [go_sem,simprocAttr])|(refine fV (b:=true) rfl (by simp only [go_sem,simprocAttr]) rfl ?_;intro K hK;refine HkX.callS (f:=357) hless iX [1] (by simp only [go_sem,simprocAttr]) (by simp [go_sem]) ⟨fN (n:=1) rfl (by simp) m1 rfl rfl,fN (n:=1) rfl (by simp) m0 rfl rfl,trivial⟩ ?_;simp only [go_sem,simprocAttr])|(((with_reducible apply gY);rfl);intro K hK;simp(contextual:=true)only [go_sem,simprocAttr])|((with_reducible refine gZ ?_);intro K hK;simp(contextual:=true)only [go_sem,simprocAttr])|(with_reducible first|refine St.f ?_|refine V_c ?_|refine eDn ?_|refine And.intro ?_ ?_|refine aJ ?_ ?_|refine aO ?_)|((refine aV ?_);intro K hK)|((with_reducible refine So.f ?_);intro K hK;simp(contextual:=true)only [go_sem,simprocAttr])|((with_reducible refine hK _ ?_);clear hK K)|(refine fun(hc:(_:Bool)=_)=>?_;try simp only [hcS]at hc))
   all_goals try exact om_
   exact⟨⟨(i+1,W),by omega,by omega,hW,hfin⟩,by simp only;omega,Imp.sub hX [(0,0),(1,1),(3,3)] (by simp [go_sem,simprocAttr])⟩
  |succ k=>
   have h1:(W.map (·.2)).getD (k+1) []=x:=by rw [hWs,aQX (by omega)]
   have h0:(W.map (·.2)).getD k []=T.getD k []:=by rw [hWs,aHD (by omega)]
   have e1k:((k:Int)+1).toNat=k+1:=by omega
   have e0k:((k:Int)+1-1).toNat=k:=by omega
   have ha1:=rN (l:=W.map (·.1)) (k:=k+1) (by omega) (.slice none 0 0)
   have ha0:=rN (l:=W.map (·.1)) (k:=k) (by omega) (.slice none 0 0)
   have m1:=hW.mem_iff.2 (aHd (Y:=W) (k:=k+1) (by omega))
   have m0:=hW.mem_iff.2 (aHd (Y:=W) (k:=k) (by omega))
   rw [h1]at m1
   have o1:=hZ1 _ m1
   rw [h0]at m0
   have o0:=hZ1 _ m0
   have hless:=sp_l01Less (a:=x) (b:=T.getD k []) (by rw [←hx];exact hr i hlt) (by
    obtain⟨j,hj,e⟩:=fX (d:=[]) ((mY (L.take i)).mem_iff.1 (by rw [hT];exact aX (d:=[]) (by omega:k<T.length)))
    rw [List.length_take]at hj
    rw [←e,List.getD_eq_getElem?_getD,List.getElem?_take,if_pos (by omega),←List.getD_eq_getElem?_getD]
    exact hr j (by omega))
   cases hg:dB x (T.getD k [])with
   |false=>
    rw [hg]at hless
    have hfin:W.map (·.2)=srt (L.take (i+1))++L.drop (i+1):=by
     rw [hWs,←hx,←hT]
     exact aJv hlt hk1 (by rw [hT,hx];exact hWl) (.inr (by rw [hT,hx];exact hg))
    repeat'(first|((refine jH (id:=6) aBX (by rw [hn];rfl) ?_);intro K hK)|((with_reducible refine fC ?_ ?_);kernel_rfl)|(rw [e1k])|(rw [e0k])|(rw [ha1];simp only [go_sem,simprocAttr])|(rw [ha0];simp only [go_sem,simprocAttr])|(refine fV (b:=true) rfl (by simp only [go_sem,simprocAttr]) rfl ?_;intro K hK;refine HkX.callS (f:=357) hless iX [1] (by simp only [go_sem,simprocAttr]) (by simp [go_sem]) ⟨fN (n:=1) rfl (by simp) m1 rfl rfl,fN (n:=1) rfl (by simp) m0 rfl rfl,trivial⟩ ?_;simp only [go_sem,simprocAttr])|(((with_reducible apply gY);rfl);intro K hK;simp(contextual:=true)only [go_sem,simprocAttr])|((with_reducible refine gZ ?_);intro K hK;simp(contextual:=true)only [go_sem,simprocAttr])|(with_reducible first|refine St.f ?_|refine V_c ?_|refine eDn ?_|refine And.intro ?_ ?_|refine aJ ?_ ?_|refine aO ?_)|((refine aV ?_);intro K hK)|((with_reducible refine So.f ?_);intro K hK;simp(contextual:=true)only [go_sem,simprocAttr])|((with_reducible refine hK _ ?_);clear hK K)|(refine fun(hc:(_:Bool)=_)=>?_;try simp only [hcS]at hc))
    all_goals try exact om_
    exact⟨⟨(i+1,W),by omega,by omega,hW,hfin⟩,by simp only;omega,Imp.sub hX [(0,0),(1,1),(3,3)] (by simp [go_sem,simprocAttr])⟩
   |true=>
    rw [hg]at hless
    have hfst:=aPF W k
    have hsnd:(swZ W k).map (·.2)=oS T x k (L.drop (i+1)):=by
     rw [aPG,h1,h0,hWs]
     exact aMc (by omega)
    have hwl:∀y∈T.drop k,dB x y=true:=fun y hy=>by
     rw [List.drop_eq_getElem_cons (by omega)]at hy
     rcases List.mem_cons.1 hy with rfl|hy
     ·rw [List.getD_eq_getElem?_getD,List.getElem?_eq_getElem (by omega)]at hg;exact hg
     ·exact hWl y hy
    repeat'(first|(exact o1)|(exact o0)|((refine jH (id:=6) aBX (by rw [hn];rfl) ?_);intro K hK)|((with_reducible refine fC ?_ ?_);kernel_rfl)|(rw [e1k])|(rw [e0k])|(rw [ha1];simp only [go_sem,simprocAttr])|(rw [ha0];simp only [go_sem,simprocAttr])|(refine fV (b:=true) rfl (by simp only [go_sem,simprocAttr]) rfl ?_;intro K hK;refine HkX.callS (f:=357) hless iX [1] (by simp only [go_sem,simprocAttr]) (by simp [go_sem]) ⟨fN (n:=1) rfl (by simp) m1 rfl rfl,fN (n:=1) rfl (by simp) m0 rfl rfl,trivial⟩ ?_;simp only [go_sem,simprocAttr])|(((with_reducible apply gY);rfl);intro K hK;simp(contextual:=true)only [go_sem,simprocAttr])|((with_reducible refine gZ ?_);intro K hK;simp(contextual:=true)only [go_sem,simprocAttr])|(with_reducible first|refine St.f ?_|refine V_c ?_|refine eDn ?_|refine And.intro ?_ ?_|refine aJ ?_ ?_|refine aO ?_)|((refine aV ?_);intro K hK)|((with_reducible refine So.f ?_);intro K hK;simp(contextual:=true)only [go_sem,simprocAttr])|((with_reducible refine hK _ ?_);clear hK K)|(refine fun(hc:(_:Bool)=_)=>?_;try simp only [hcS]at hc))
    all_goals try exact om_
    exact⟨⟨(k,swZ W k),by omega,hW.trans (aNV (by omega)),hsnd,hwl⟩,by simp only;omega,Imp.sub hX [(0,0),(1,1),(3,3)] (by simp only [hfst];simp [go_sem,simprocAttr])⟩
 ·have hend:i=L.length∨L=[]:=by
   rcases hi2 with q|q
   ·exact .inl (by omega)
   ·exact .inr (List.length_eq_zero_iff.1 q)
  have hYe:Y.map (·.2)=srt L:=by
   rcases hend with rfl|rfl
   ·rw [hYs,List.take_length,List.drop_length,List.append_nil]
   ·rw [hYs];simp
  repeat'(first|(refine dM 11 (Imp.unbag 3 1 1 1 Z Y rfl rfl (Nat.le_refl 1) (by decide) hY) ?_;rw [hYe];simp only [go_sem,simprocAttr])|(with_reducible first|refine St.f ?_|refine V_c ?_|refine eDn ?_|refine And.intro ?_ ?_|refine aJ ?_ ?_|refine aO ?_)|((refine aV ?_);intro K hK)|((with_reducible refine So.f ?_);intro K hK;simp(contextual:=true)only [go_sem,simprocAttr])|((with_reducible refine hK _ ?_);clear hK K)|(refine fun(hc:(_:Bool)=_)=>?_;try simp only [hcS]at hc))
  all_goals try exact om_
  (first|refine aB ?_|refine aA ?_);simp only [go_sem,simprocAttr,Tryz.f344]
end Go.Eng
