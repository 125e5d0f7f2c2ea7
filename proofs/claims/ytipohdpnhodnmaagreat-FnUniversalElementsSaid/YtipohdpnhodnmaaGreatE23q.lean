/- The category of elements, by the program. -/
import Derived.Test.YtipohdpnhodnmaaGreatE22q
set_option linter.unusedSimpArgs false
set_option linter.unusedVariables false
set_option maxRecDepth 100000
set_option maxHeartbeats 16000000
namespace Go.Eng
open Go Go.Proofs Go.Cats
attribute [local go_sem] List.set_cons_zero List.set_cons_succ
theorem aG8 {f:SF} (s:IsSF f):f.elems=((elO f).length:Int):=by
 have key:∀{n:Nat},n≤f.sizes.length→((elP f n).length:Int)=uM f.sizes n:=by
  intro n
  induction n with
  |zero=>intro _;rfl
  |succ n ih=>
   intro h
   have h1:=ih (by omega)
   have h2:=s.szw n (by omega)
   rw [yD,List.length_append,wR]
   show _=uM f.sizes n+f.sizes.getD n 0
   omega
 exact(key (Nat.le_refl _)).symm
def ElY (f:SF):Prop:=(elO f).length≤8∧(elA f).length≤40
theorem aIS {f:SF} (s:IsSF f) {O:List (List Int)} {i j:Nat}:(elH f O i j).length≤40:=by
 refine Nat.le_trans (List.length_filter_le _ _) ?_
 have:=Cat.hom_len f.shape (rw' O i 0) (rw' O j 0)
 have:=s.cat.toShape.m40
 omega
theorem aF6 {f:SF} {O:List (List Int)} {i j:Nat}:(elE f O i j).length=(elH f O i j).length:=by unfold elE;rw [List.length_map]
theorem aGa {f:SF} (s:IsSF f) {O:List (List Int)} {i j:Nat} (hO:O.length≤8) (hi:i≤8) (hj:j≤8):(elQ f O i j).length≤2880:=by
 unfold elQ
 rw [List.length_append]
 have h1:=dK (n:=i) (k:=320) (f:=fun i=>dR O.length fun j=>elE f O i j) fun i _=>by
  have:=dK (n:=O.length) (k:=40) (f:=fun j=>elE f O i j) fun j _=>by rw [aF6];exact aIS s
  omega
 have h2:=dK (n:=j) (k:=40) (f:=fun j=>elE f O i j) fun j _=>by rw [aF6];exact aIS s
 omega
theorem aQ1 (f:SF):fH (gK (elA f) 0 (elA f).length) (gK (elA f) 1 (elA f).length) (fun a b=>fnd (elA f) (elC f ((elA f).getD a []) ((elA f).getD b []))) (elA f).length=(elK f).co:=by
 unfold fH elK fN pW
 have hl:(gK (elA f) 0 (elA f).length).length=(elA f).length:=by simp [cJ]
 rw [hl]
 refine List.map_congr_left fun i hi=>List.map_congr_left fun j hj=>?_
 have hi':=List.mem_range.1 hi
 have hj':=List.mem_range.1 hj
 unfold aCP
 rw [wP hi' (Nat.le_refl _),wP hj' (Nat.le_refl _)]
def elF (f:SF) (O:List (List Int)) (i j:Nat) (H:List Int) (k:Nat):List (List Int):=elQ f O i j++((H.take k).filter fun a=>decide (f.acE a (rw' O i 1)=rw' O j 1)).map fun a=>[(i:Int),(j:Int),a]
section
variable {f:SF} {O:List (List Int)} {i j k:Nat} {H:List Int}
theorem aIR:elF f O i j H 0=elQ f O i j:=by unfold elF;rw [List.take_zero,List.filter_nil,List.map_nil,List.append_nil]
theorem aLT (hk:k<H.length) (h:f.acE (H.getD k 0) (rw' O i 1)=rw' O j 1):elF f O i j H (k+1)=elF f O i j H k++[[(i:Int),(j:Int),H.getD k 0]]:=by
 have e:H[k]=H.getD k 0:=by rw [List.getD_eq_getElem?_getD,List.getElem?_eq_getElem hk];rfl
 unfold elF
 rw [List.take_succ_eq_append_getElem hk,List.filter_append,List.map_append,List.append_assoc,e,List.filter_cons_of_pos (by rw [decide_eq_true_iff];exact h),List.filter_nil];rfl
theorem aOo (hk:k<H.length) (h:¬f.acE (H.getD k 0) (rw' O i 1)=rw' O j 1):elF f O i j H (k+1)=elF f O i j H k:=by
 have e:H[k]=H.getD k 0:=by rw [List.getD_eq_getElem?_getD,List.getElem?_eq_getElem hk];rfl
 unfold elF
 rw [List.take_succ_eq_append_getElem hk,List.filter_append,List.map_append,e,List.filter_cons_of_neg (by rw [decide_eq_true_iff];exact h),List.filter_nil,List.map_nil,List.append_nil]
theorem aIQ (hH:f.shape.hom (rw' O i 0) (rw' O j 0)=H):elF f O i j H H.length=elQ f O i (j+1):=by
 unfold elF
 rw [List.take_length,aIU]
 unfold elE elH
 rw [hH]
theorem aLS:(elF f O i j H k).length≤(elQ f O i j).length+H.length:=by
 unfold elF
 rw [List.length_append,List.length_map]
 have:=List.length_filter_le (fun a=>decide (f.acE a (rw' O i 1)=rw' O j 1)) (H.take k)
 rw [List.length_take]at this
 omega
end
def aQw (f:SF) (r:Sv) (L1:List (Nat×Rs)):Prop:=
 (ElY f∧r= .tup [.ptr 0 0, .v (.bool true)]∧L1=[(0,⟨1, .box [iv (elO f).length, .sl 1, .sl 2, .sl 3, .sl 4, .sl 5, .sl 6, .sl 7, .sl 8]⟩),(1,⟨1, .arr (ints (elK f).fr)⟩),(2,⟨1, .arr (ints (elK f).to)⟩),(3,⟨1, .arr (ints (elK f).id)⟩),(4,⟨1, .arr (aC (elK f).co)⟩),(5,⟨1, .arr (aC (elO f))⟩),(6,⟨1, .arr (aC (elA f))⟩),(7,⟨1, .arr (mapD Tryz.prog 9 2 (elO f).length (pm (elO f) (elO f).length))⟩),(8,⟨1, .arr (mapD Tryz.prog 9 2 (elA f).length (pm (elA f) (elA f).length))⟩)])∨
 (¬ElY f∧r= .tup [.v (.pointer none), .v (.bool false)]∧L1=[])
theorem dE:aF Tryz.prog 67:=⟨_,Tryz.func67,rfl,rfl⟩
theorem dA {f:SF} {r:Sv} {L1:List (Nat×Rs)} (s:IsSF f) (hb:SFB f) (ho:aQw f r L1):Spec Tryz.prog 67 [.bptr [] (sfD f)] [] r L1:=by
 have hel:=aG8 s
 obtain⟨O,hO⟩:∃O,elO f=O:=⟨_,rfl⟩
 have hEP:=fF s hb
 rw [hO]at hEP hel
 refine aD (E:=TE) 0 Tryz.func67 rfl (by simp [Tryz.f67]) fun X hn hX=>?_
 repeat'(first|(refine dG 5 (Imp.adoptBs 3 6 _ _ rfl rfl rfl (by rw [hX];rfl)) ?_;simp only [List.set_cons_succ,List.set_cons_zero])|(with_reducible first|refine St.f ?_|refine V_c ?_|refine eDn ?_|refine And.intro ?_ ?_|refine aI ?_ ?_|refine aN ?_)|((refine aQ ?_);intro K hK)|((with_reducible refine So.f ?_);intro K hK;simp(contextual:=true)only [go_sem,simprocAttr])|((with_reducible refine hK _ ?_);clear hK K)|((with_reducible refine aE 45 ?_);refine EvCall.rr (nG (f:=f) ?_) lZ ?_)|((with_reducible refine aE 64 ?_);refine EvCall.mr (hEP) eD [(0,2)] [] ?_)|(refine fun(hc:(_:Bool)=_)=>?_;try simp only [hcS]at hc))
 all_goals try exact om_
 ·rcases ho with⟨hy,_,_⟩|⟨_,rfl,rfl⟩
  ·exact absurd hy.1 (by rw [hO];omega)
  ·(first|refine aB ?_|refine aA ?_);simp only [go_sem,simprocAttr,Tryz.f67]
 ·rfl
 have hOl:O.length≤8:=by omega
 have hcol:=s.cat.toShape.tol
 have hm40:=s.cat.toShape.m40
 have hacl:=s.acl
 refine aG (G:={i:Nat//i≤O.length∧(True)}) (fun⟨i,_⟩=>[(29,iv i),(28,iv O.length),(27, .sl 2),(5, .ptr 4 0),(4, .ptr 0 0)]) [0,2,3] (fun⟨i,_⟩=>[(0,⟨1, .box [.bptr [] (dJ f.shape)]⟩),(2,⟨1, .arr (aC O)⟩),(3,⟨1, .box [iv 0, .v (.slice none 0 0), .v (.slice none 0 0), .v (.slice none 0 0), .v (.slice none 0 0), .sl 2, .sl 5, .v (.map none), .v (.map none)]⟩),(4,⟨1, .box [.ptr 3 0]⟩),(5,⟨1, .arr (aC (elQ f O i 0))⟩)]) [0,2,3,4,5] (fun zz=>O.length-zz.1) ⟨0,Nat.zero_le _,by first|trivial|simp⟩ ?_ ?_
 ·exact Imp.auto hX (by simp [go_sem,simprocAttr,aIV])
 rintro⟨i,hii,hwi⟩
 simp only [go_sem,simprocAttr]
 rcases Nat.lt_or_ge i O.length with hi|hi
 ·have hOi:O.getD i []=[rw' O i 0,rw' O i 1]:=by have:=(s.elem_of (show O.getD i []∈elO f by rw [hO];exact aT hi)).2;exact this
  have hEi:f.Elem (rw' O i 0) (rw' O i 1):=by have:=tO s (i:=i) (by rw [hO];exact hi);rwa [hO]at this
  have hOl1:(O.getD i []).length=2:=by rw [hOi];rfl
  repeat'(first|(with_reducible first|refine St.f ?_|refine V_c ?_|refine eDn ?_|refine And.intro ?_ ?_|refine aI ?_ ?_|refine aN ?_)|((refine aQ ?_);intro K hK)|((with_reducible refine So.f ?_);intro K hK;simp(contextual:=true)only [go_sem,simprocAttr])|((with_reducible refine hK _ ?_);clear hK K)|(refine fun(hc:(_:Bool)=_)=>?_;try simp only [hcS]at hc))
  all_goals try exact om_
  refine aG (G:={j:Nat//j≤O.length∧(True)}) (fun⟨j,_⟩=>[(39,iv j),(28,iv O.length),(27, .sl 2),(5, .ptr 4 0),(4, .ptr 0 0),(29,iv i),(6,iv i),(7, .bor [(2,1)] (ints (O.getD i []))),(37, .sl 2),(38,iv O.length)]) [0,2,3] (fun⟨j,_⟩=>[(5,⟨1, .arr (aC (elQ f O i j))⟩)]) [5] (fun zz=>O.length-zz.1) ⟨0,Nat.zero_le _,by first|trivial|simp⟩ ?_ ?_
  ·exact Imp.au hX
  rintro⟨j,hij,hwj⟩
  simp only [go_sem,simprocAttr]
  rcases Nat.lt_or_ge j O.length with hj|hj
  ·have hOj:O.getD j []=[rw' O j 0,rw' O j 1]:=by have:=(s.elem_of (show O.getD j []∈elO f by rw [hO];exact aT hj)).2;exact this
   have hOl2:(O.getD j []).length=2:=by rw [hOj];rfl
   have hH:=fO (c:=f.shape) (x:=rw' O i 0) (y:=rw' O j 0) (by omega) hcol
   have hHl:=Cat.hom_len f.shape (rw' O i 0) (rw' O j 0)
   obtain⟨H,hHd⟩:∃H,f.shape.hom (rw' O i 0) (rw' O j 0)=H:=⟨_,rfl⟩
   rw [hHd]at hH hHl
   repeat'(first|(with_reducible first|refine St.f ?_|refine V_c ?_|refine eDn ?_|refine And.intro ?_ ?_|refine aI ?_ ?_|refine aN ?_)|((refine aQ ?_);intro K hK)|((with_reducible refine So.f ?_);intro K hK;simp(contextual:=true)only [go_sem,simprocAttr])|((with_reducible refine hK _ ?_);clear hK K)|((with_reducible refine aE 126 ?_);refine EvCall.mr (hH) fI [(0,6)] [] ?_)|(refine fun(hc:(_:Bool)=_)=>?_;try simp only [hcS]at hc))
   all_goals try exact om_
   have hQl:=aGa (f:=f) (i:=i) (j:=j) s hOl (by omega) (by omega)
   refine aG (G:={k:Nat//k≤H.length∧(True)}) (fun⟨k,_⟩=>[(53,iv k),(28,iv O.length),(27, .sl 2),(5, .ptr 4 0),(4, .ptr 0 0),(29,iv i),(6,iv i),(7, .bor [(2,1)] (ints (O.getD i []))),(37, .sl 2),(38,iv O.length),(39,iv j),(8,iv j),(9, .bor [(2,1)] (ints (O.getD j []))),(51, .sl 6),(52,iv H.length)]) [0,2,3] (fun⟨k,_⟩=>[(5,⟨1, .arr (aC (elF f O i j H k))⟩)]) [5] (fun zz=>H.length-zz.1) ⟨0,Nat.zero_le _,by first|trivial|simp⟩ ?_ ?_
   ·exact Imp.auto hX (by simp [go_sem,simprocAttr,aIR])
   rintro⟨k,hik,hwk⟩
   simp only [go_sem,simprocAttr]
   have hFl:=aLS (f:=f) (O:=O) (i:=i) (j:=j) (H:=H) (k:=k)
   rcases Nat.lt_or_ge k H.length with hk|hk
   ·have hmem:H.getD k 0∈f.shape.hom (rw' O i 0) (rw' O j 0):=by rw [hHd];exact aT hk
    obtain⟨q0,q1,q2⟩:=SF.elem_act s hEi hmem
    obtain⟨p0,p1⟩:=hEi.2
    have r1:(O.getD i []).getD 1 0=rw' O i 1:=rfl
    have r2:(O.getD j []).getD 1 0=rw' O j 1:=rfl
    repeat'(first|(with_reducible first|refine St.f ?_|refine V_c ?_|refine eDn ?_|refine And.intro ?_ ?_|refine aI ?_ ?_|refine aN ?_)|((refine aQ ?_);intro K hK)|((with_reducible refine So.f ?_);intro K hK;simp(contextual:=true)only [go_sem,simprocAttr])|((with_reducible refine hK _ ?_);clear hK K)|(refine fun(hc:(_:Bool)=_)=>?_;try simp only [hcS]at hc))
    all_goals try exact om_
    ·have e1:=aLT (f:=f) (O:=O) (i:=i) (j:=j) hk hc
     refine⟨⟨k+1,by omega,(by trivial)⟩,by simp only;omega,Imp.auto hX (by simp only [go_sem,simprocAttr,e1])⟩
    ·have e1:=aOo (f:=f) (O:=O) (i:=i) (j:=j) hk hc
     refine⟨⟨k+1,by omega,(by trivial)⟩,by simp only;omega,Imp.auto hX (by simp only [go_sem,simprocAttr,e1])⟩
   ·obtain rfl:k=H.length:=by omega
    have eF:=aIQ hHd
    repeat'(first|(with_reducible first|refine St.f ?_|refine V_c ?_|refine eDn ?_|refine And.intro ?_ ?_|refine aI ?_ ?_|refine aN ?_)|((refine aQ ?_);intro K hK)|((with_reducible refine So.f ?_);intro K hK;simp(contextual:=true)only [go_sem,simprocAttr])|((with_reducible refine hK _ ?_);clear hK K)|(refine fun(hc:(_:Bool)=_)=>?_;try simp only [hcS]at hc))
    all_goals try exact om_
    ·refine⟨⟨j+1,by omega,(by trivial)⟩,by simp only;omega,Imp.auto hX (by simp only [go_sem,simprocAttr,eF])⟩
  ·obtain rfl:j=O.length:=by omega
   repeat'(first|(with_reducible first|refine St.f ?_|refine V_c ?_|refine eDn ?_|refine And.intro ?_ ?_|refine aI ?_ ?_|refine aN ?_)|((refine aQ ?_);intro K hK)|((with_reducible refine So.f ?_);intro K hK;simp(contextual:=true)only [go_sem,simprocAttr])|((with_reducible refine hK _ ?_);clear hK K)|(refine fun(hc:(_:Bool)=_)=>?_;try simp only [hcS]at hc))
   all_goals try exact om_
   ·refine⟨⟨i+1,by omega,(by trivial)⟩,by simp only;omega,Imp.auto hX (by simp only [go_sem,simprocAttr,←aLV])⟩
 ·obtain rfl:i=O.length:=by omega
  have eA:elQ f O O.length 0=elA f:=by unfold elA;rw [hO]
  obtain⟨A,hA⟩:∃A,elA f=A:=⟨_,rfl⟩
  rw [eA,hA]
  have hQl:A.length≤2880:=by rw [←hA,←eA];exact aGa s hOl hOl (by omega)
  by_cases h40:A.length≤40
  ·have pO:=aBJ (A:=O) (by omega) (fun i hi=>by have:=(s.elem_of (show O.getD i []∈elO f by rw [hO];exact aT hi)).2;rw [this];simp) (fun i hi x hx=>by
    have h1:=s.elem_of (show O.getD i []∈elO f by rw [hO];exact aT hi)
    have h2:=s.cat.toShape.ob8
    have h3:=s.szw ((O.getD i []).getD 0 0).toNat (by have:=s.szl;have:=h1.1.1;omega)
    rw [h1.2]at hx
    have h4:=h1.1
    unfold SF.Elem at h4
    simp only [List.mem_cons,List.not_mem_nil,or_false]at hx
    rcases hx with rfl|rfl<;>omega)
   have ok:=aIW s (by rw [hO];exact hOl) (by rw [hA];exact h40)
   have hk:=aF9 s (by rw [hO];exact hOl)
   rw [hA]at hk ok
   have pA:=aBJ (A:=A) (by omega) (fun i hi=>by
    obtain⟨_,_,_,_,_,_,e⟩:=mem_elA.1 (show A.getD i []∈elA f by rw [hA];exact aT hi)
    rw [e];simp) (fun i hi=>hk.b _ (aT hi))
   have l3:∀i,i<A.length→(A.getD i []).length=3:=fun i hi=>by
    obtain⟨_,_,_,_,_,_,e⟩:=mem_elA.1 (show A.getD i []∈elA f by rw [hA];exact aT hi)
    rw [e];rfl
   have c0:=aBH (l:=A) (k:=0) (by omega) (fun i hi=>by have:=l3 i hi;omega)
   have c1:=aBH (l:=A) (k:=1) (by omega) (fun i hi=>by have:=l3 i hi;omega)
   repeat'(first|(refine dG 23 (Imp.adoptI 3 3 _ _ rfl rfl rfl (by rw [hX];rfl)) ?_;simp only [List.set_cons_succ,List.set_cons_zero])|(with_reducible first|refine St.f ?_|refine V_c ?_|refine eDn ?_|refine And.intro ?_ ?_|refine aI ?_ ?_|refine aN ?_)|((refine aQ ?_);intro K hK)|((with_reducible refine So.f ?_);intro K hK;simp(contextual:=true)only [go_sem,simprocAttr])|((with_reducible refine hK _ ?_);clear hK K)|((with_reducible refine aE 127 ?_);refine EvCall.mr (pO) xZ [(0,7)] [2] ?_;clear pO)|((with_reducible refine aE 127 ?_);refine EvCall.mr (pA) xZ [(0,8)] [5] ?_)|((with_reducible refine aE 128 ?_);refine EvCall.mr (c0) xW [(0,9)] [5] ?_;clear c0)|((with_reducible refine aE 128 ?_);refine EvCall.mr (c1) xW [(0,10)] [5] ?_)|(refine fun(hc:(_:Bool)=_)=>?_;try simp only [hcS]at hc))
   all_goals try exact om_
   refine aG (G:={p:Nat//p≤O.length∧(True)}) (fun⟨p,_⟩=>[(135,iv p),(134,iv O.length),(133, .sl 2),(5, .ptr 4 0),(4, .ptr 0 0)]) [2,3] (fun⟨p,_⟩=>[(3,⟨1, .box [iv O.length, .sl 9, .sl 10, .sl 11, .v (.slice none 0 0), .sl 2, .sl 5, .sl 7, .sl 8]⟩),(11,⟨1, .arr (ints ((List.range p).map fun i=>fnd A (elU f i)))⟩)]) [3,11] (fun zz=>O.length-zz.1) ⟨0,Nat.zero_le _,by first|trivial|simp⟩ ?_ ?_
   ·exact Imp.au hX
   rintro⟨p,hip,hwp⟩
   simp only [go_sem,simprocAttr]
   have hil:((List.range p).map fun i=>fnd A (elU f i)).length=p:=by rw [List.length_map,List.length_range]
   rcases Nat.lt_or_ge p O.length with hp|hp
   ·have hOp:O.getD p []=[rw' O p 0,rw' O p 1]:=by have:=(s.elem_of (show O.getD p []∈elO f by rw [hO];exact aT hp)).2;exact this
    have hEp:f.Elem (rw' O p 0) (rw' O p 1):=by have:=tO s (i:=p) (by rw [hO];exact hp);rwa [hO]at this
    have hOlp:(O.getD p []).length=2:=by rw [hOp];rfl
    obtain⟨⟨p0,p1⟩,_⟩:=hEp
    have il:=s.cat.toShape.idl
    have r1:(O.getD p []).getD 0 0=rw' O p 0:=rfl
    have um:elU f p∈A:=(ok.um p (by rw [hO];exact hp)).1
    have uE:elU f p=[(p:Int),(p:Int),f.shape.id.getD ((O.getD p []).getD 0 0).toNat 0]:=by unfold elU;rw [hO]
    have p0':0≤(O.getD p []).getD 0 0:=p0
    have p1':(O.getD p []).getD 0 0<f.shape.ob:=p1
    have n3:(elU f p).length≤64:=by rw [uE];simp
    have n4:=hk.b _ um
    have n5:=yY n3
    have n6:=aJ5 hk (.lit (.int .i64 0)) um
    rw [uE]at n3 n4 n5 n6
    repeat'(first|(with_reducible first|refine St.f ?_|refine V_c ?_|refine eDn ?_|refine And.intro ?_ ?_|refine aI ?_ ?_|refine aN ?_)|((refine aQ ?_);intro K hK)|((with_reducible refine So.f ?_);intro K hK;simp(contextual:=true)only [go_sem,simprocAttr])|((with_reducible refine hK _ ?_);clear hK K)|((with_reducible refine aE 129 ?_);refine EvCall.rq (a:=(rI (r:=[(p:Int),(p:Int),f.shape.id.getD ((O.getD p []).getD 0 0).toNat 0]) (by first|omega|assumption|rfl) (by first|omega|assumption|rfl))) (b:=aB3) (c:=?_);all_goals try simp only [go_sem,simprocAttr])|(refine aDx (i:=8) (cv:=1) (n:=A.length) aOJ (by simp only [go_sem,simprocAttr]) (by simp only [go_sem,simprocAttr]) (by simp only [go_sem,simprocAttr]) n5 n6 ?_;simp only [go_sem,simprocAttr])|(refine fun(hc:(_:Bool)=_)=>?_;try simp only [hcS]at hc))
    all_goals try exact om_
    ·have e1:((List.range p).map fun i=>fnd A (elU f i))++[fnd A [(p:Int),(p:Int),f.shape.id.getD ((O.getD p []).getD 0 0).toNat 0]]=(List.range (p+1)).map fun i=>fnd A (elU f i):=by rw [←uE,List.range_succ,List.map_append];rfl
     refine⟨⟨p+1,by omega,(by trivial)⟩,by simp only;omega,Imp.auto hX (by simp only [go_sem,simprocAttr,e1])⟩
   ·obtain rfl:p=O.length:=by omega
    have T:=oQ (ob:=(O.length:Int)) (fr:=gK A 0 A.length) (to:=gK A 1 A.length) (id:=(List.range O.length).map fun i=>fnd A (elU f i)) (d:=f.shape) (O:=O) (A:=A) (h:=fun a b=>fnd A (elC f (A.getD a []) (A.getD b [])))
     (fun a b ha hb hc=>aK2 s (by rw [hO];exact hOl) (by rw [hA];exact h40) hA (by rw [cJ]at ha;omega) (by rw [cJ]at hb;omega) (by rw [cJ]at ha hb;rw [wP (by omega) (Nat.le_refl _),wP (by omega) (Nat.le_refl _)]at hc;exact hc)) (by rw [cJ];omega) (by rw [cJ,cJ]) (Int.natCast_nonneg _)
    repeat'(first|(with_reducible first|refine St.f ?_|refine V_c ?_|refine eDn ?_|refine And.intro ?_ ?_|refine aI ?_ ?_|refine aN ?_)|((refine aQ ?_);intro K hK)|((with_reducible refine So.f ?_);intro K hK;simp(contextual:=true)only [go_sem,simprocAttr])|((with_reducible refine hK _ ?_);clear hK K)|((with_reducible refine aE 130 ?_);refine EvCall.mr (T) jV [(0,3),(1,9),(2,10),(3,11),(4,2),(5,5),(6,7),(7,8),(8,4),(9,0),(10,12)] [] ?_)|(refine fun(hc:(_:Bool)=_)=>?_;try simp only [hcS]at hc))
    all_goals try exact om_
    ·rcases ho with⟨_,rfl,rfl⟩|⟨hy,_,_⟩
     ·have g1:(elK f).fr=gK A 0 A.length:=by rw [aDe,←hA];rfl
      have g2:(elK f).to=gK A 1 A.length:=by rw [aDe,←hA];rfl
      have g3:(elK f).id=(List.range O.length).map fun i=>fnd A (elU f i):=by rw [←hA,←hO];rfl
      have g4:(elK f).co=fH (gK A 0 A.length) (gK A 1 A.length) (fun a b=>fnd A (elC f (A.getD a []) (A.getD b []))) A.length:=by
       rw [←hA];exact(aQ1 f).symm
      rw [g1,g2,g3,g4,hO,hA]
      (first|refine aB ?_|refine aA ?_);simp only [go_sem,simprocAttr,Tryz.f67]
      simp only [Nat.min_self]
     ·exact absurd ⟨by rw [hO];exact hOl,by rw [hA];exact h40⟩ hy
  ·repeat'(first|(with_reducible first|refine St.f ?_|refine V_c ?_|refine eDn ?_|refine And.intro ?_ ?_|refine aI ?_ ?_|refine aN ?_)|((refine aQ ?_);intro K hK)|((with_reducible refine So.f ?_);intro K hK;simp(contextual:=true)only [go_sem,simprocAttr])|((with_reducible refine hK _ ?_);clear hK K)|(refine fun(hc:(_:Bool)=_)=>?_;try simp only [hcS]at hc))
   all_goals try exact om_
   ·rcases ho with⟨hy,_,_⟩|⟨_,rfl,rfl⟩
    ·exact absurd hy.2 (by rw [hA];exact h40)
    ·(first|refine aB ?_|refine aA ?_);simp only [go_sem,simprocAttr,Tryz.f67]
end Go.Eng
