/- The category of elements, by the program: composites, and the table of them. -/
import Derived.Test.YtipohdpnhodnmaaGreatE21q
import Derived.Test.YtipohdpnhodnmaaGreatKbey
set_option linter.unusedSimpArgs false
set_option linter.unusedVariables false
set_option maxRecDepth 100000
set_option maxHeartbeats 16000000
namespace Go.Eng
open Go Go.Proofs Go.Cats
attribute [local go_sem] List.set_cons_zero List.set_cons_succ
theorem aF9 {f:SF} (s:IsSF f) (h8:(elO f).length≤8):KeyOK (elA f):=by
 refine⟨fun r hr x hx=>?_,tN f⟩
 obtain⟨i,j,a,hi,hj,ha,rfl⟩:=mem_elA.1 hr
 obtain⟨a0,a1,_⟩:=Cat.mem_hom.1 (mem_elH.1 ha).1
 have:=s.cat.toShape.m40
 simp only [List.mem_cons,List.not_mem_nil,or_false]at hx
 rcases hx with rfl|rfl|rfl<;>omega
noncomputable def gkD (A:List (List Int)):List Dt:=[unD,unD,unD,unD,unD,unD,aC A,unD,mapD Tryz.prog 9 2 A.length (pm A A.length)]
section
variable {A:List (List Int)}
@[go_sem] theorem aXD:((gkD A).drop 6).take 1=[aC A]:=rfl
@[go_sem] theorem aXE:((gkD A).drop 8).take 1=[mapD Tryz.prog 9 2 A.length (pm A A.length)]:=rfl
@[go_sem] theorem aXG:(gkD A).length=9:=rfl
@[go_sem] theorem aXF:(gkD A).take 9=gkD A:=rfl
end
theorem aK2 {f:SF} {A:List (List Int)} {a b:Nat} (s:IsSF f) (h8:(elO f).length≤8) (h40:(elA f).length≤40) (hA:elA f=A) (ha:a<A.length) (hb:b<A.length) (hc:(A.getD a []).getD 1 0=(A.getD b []).getD 0 0):Spec Tryz.prog 131 [iv a,iv b, .bptr [] [.pt (gkD A)], .bptr [] [.pt (dJ f.shape)]] [] (iv (fnd A (elC f (A.getD a []) (A.getD b [])))) []:=by
 have hk:=aF9 s h8
 have ok:=aIW s h8 h40
 rw [hA]at hk ok h40
 have km:=(ok.cm _ (aT ha) _ (aT hb) hc).1
 have ma:A.getD a []∈elA f:=by rw [hA];exact aT ha
 have mb:A.getD b []∈elA f:=by rw [hA];exact aT hb
 obtain⟨i,j,u,hi,hj,hu,e1⟩:=mem_elA.1 ma
 obtain⟨i',j',v,hi',hj',hv,e2⟩:=mem_elA.1 mb
 obtain⟨u0,u1,u2,u3⟩:=Cat.mem_hom.1 (mem_elH.1 hu).1
 obtain⟨v0,v1,v2,v3⟩:=Cat.mem_hom.1 (mem_elH.1 hv).1
 have al:(A.getD a []).length=3:=by rw [e1];rfl
 have bl:(A.getD b []).length=3:=by rw [e2];rfl
 have a2:(A.getD a []).getD 2 0=u:=by rw [e1];rfl
 have b2:(A.getD b []).getD 2 0=v:=by rw [e2];rfl
 have f6:=s.cat.toShape.col
 have f7:=s.cat.toShape.comp_row u0 u1
 rw [←a2]at u0 u1 f7
 rw [←b2]at v0 v1
 have k1:(elC f (A.getD a []) (A.getD b [])).length≤64:=by simp [elC]
 have k2:=hk.b _ km
 have k3:=yY k1
 have k4:=aJ5 hk (.lit (.int .i64 0)) km
 refine aD (E:=TE) 0 Tryz.func131 rfl (by simp [Tryz.f131]) fun X hn hX=>?_
 repeat'(first|(with_reducible first|refine St.f ?_|refine V_c ?_|refine eDn ?_|refine And.intro ?_ ?_|refine aI ?_ ?_)|((refine aQ ?_);intro K hK)|((with_reducible refine So.f ?_);intro K hK;simp(contextual:=true)only [go_sem,simprocAttr])|((with_reducible refine hK _ ?_);clear hK K)|((with_reducible refine aE 132 ?_);refine EvCall.rr (cN (c:=f.shape) ?_ ?_ ?_ ?_) bZ ?_)|((with_reducible refine aE 129 ?_);refine EvCall.rq (a:=(rI (r:=elC f (A.getD a []) (A.getD b [])) (by first|omega|assumption|rfl) (by first|omega|assumption|rfl))) (b:=aB3) (c:=?_);all_goals try simp only [go_sem,simprocAttr])|(refine aAO aOJ (by simp only [go_sem,simprocAttr];rfl) (by simp only [go_sem,simprocAttr]) (by simp only [go_sem,simprocAttr]) k3 k4 ?_;simp only [go_sem,simprocAttr])|(refine fun(hc:(_:Bool)=_)=>?_;try simp only [hcS]at hc))
 all_goals try exact om_
 (first|refine aB ?_|refine aA ?_);simp only [go_sem,simprocAttr,Tryz.f131]
theorem gE:aF Tryz.prog 131:=⟨_,Tryz.func131,rfl,rfl⟩
theorem oQ {ob:Int} {fr to id:List Int} {d:Cat} {O A:List (List Int)} {h:Nat→Nat→Int} (hS:∀a b:Nat,a<fr.length→b<fr.length→to.getD a 0=fr.getD b 0→Spec Tryz.prog 131 [iv a,iv b, .bptr [] [.pt (gkD A)], .bptr [] [.pt (dJ d)]] [] (iv (h a b)) []) (hlen:fr.length≤1048576) (hto:to.length=fr.length) (hob:0≤ob):
  Spec Tryz.prog 130 [.ptr 0 0, .fn 131 [.ptr 8 0, .ptr 9 0]] [(0,⟨1, .box [iv ob, .sl 1, .sl 2, .sl 3, .v (.slice none 0 0), .sl 4, .sl 5, .sl 6, .sl 7]⟩),(1,⟨1, .arr (ints fr)⟩),(2,⟨1, .arr (ints to)⟩),(3,⟨1, .arr (ints id)⟩),(4,⟨1, .arr (aC O)⟩),(5,⟨1, .arr (aC A)⟩),(6,⟨1, .arr (mapD Tryz.prog 9 2 O.length (pm O O.length))⟩),(7,⟨1, .arr (mapD Tryz.prog 9 2 A.length (pm A A.length))⟩),(8,⟨1, .box [.ptr 0 0]⟩),(9,⟨1, .box [.bptr [] (dJ d)]⟩)] (.tup []) [(0,⟨1, .box [iv ob, .sl 1, .sl 2, .sl 3, .sl 10, .sl 4, .sl 5, .sl 6, .sl 7]⟩),(1,⟨1, .arr (ints fr)⟩),(2,⟨1, .arr (ints to)⟩),(3,⟨1, .arr (ints id)⟩),(4,⟨1, .arr (aC O)⟩),(5,⟨1, .arr (aC A)⟩),(6,⟨1, .arr (mapD Tryz.prog 9 2 O.length (pm O O.length))⟩),(7,⟨1, .arr (mapD Tryz.prog 9 2 A.length (pm A A.length))⟩),(8,⟨1, .box [.ptr 0 0]⟩),(9,⟨1, .box [.bptr [] (dJ d)]⟩),(10,⟨1, .arr (aC (fH fr to h fr.length))⟩)]:=by
 refine aD (E:=TE) 10 Tryz.func130 rfl (by simp [Tryz.f130]) fun X hn hX=>?_
 repeat'(first|(with_reducible first|refine St.f ?_|refine V_c ?_|refine eDn ?_|refine And.intro ?_ ?_|refine aI ?_ ?_|refine aN ?_)|((refine aQ ?_);intro K hK)|((with_reducible refine So.f ?_);intro K hK;simp(contextual:=true)only [go_sem,simprocAttr])|((with_reducible refine hK _ ?_);clear hK K)|((with_reducible refine aE 84 ?_);refine EvCall.mr (gX (ob:=ob) (fr:=fr) (to:=to) (id:=id)) bJ [] [0,1,2,3] ?_)|(refine fun(hc:(_:Bool)=_)=>?_;try simp only [hcS]at hc))
 all_goals try exact om_
 refine aG (G:={i:Nat//i≤fr.length∧(True)}) (fun⟨i,_⟩=>[(19,iv i)]) [0,1,4,18] (fun⟨i,_⟩=>[(0,⟨1, .box [iv ob, .sl 1, .sl 2, .sl 3, .sl 10, .sl 4, .sl 5, .sl 6, .sl 7]⟩),(1,⟨1, .arr (ints fr)⟩),(2,⟨1, .arr (ints to)⟩),(3,⟨1, .arr (ints id)⟩),(4,⟨1, .arr (aC O)⟩),(5,⟨1, .arr (aC A)⟩),(6,⟨1, .arr (mapD Tryz.prog 9 2 O.length (pm O O.length))⟩),(7,⟨1, .arr (mapD Tryz.prog 9 2 A.length (pm A A.length))⟩),(8,⟨1, .box [.ptr 0 0]⟩),(9,⟨1, .box [.bptr [] (dJ d)]⟩),(10,⟨1, .arr (cV (fH fr to h i) (fr.length-i))⟩)]) [0,1,2,3,4,5,6,7,8,9,10] (fun zz=>fr.length-zz.1) ⟨0,Nat.zero_le _,by simp⟩ ?_ ?_
 ·exact Imp.au hX
 rintro⟨i,hii,hwi⟩
 simp only [go_sem,simprocAttr]
 have l1:=gD (fr:=fr) (to:=to) (h:=h) (i:=i)
 have e3:=fun h0=>aLe (fr:=fr) (to:=to) (h:=h) (i:=i) h0
 have e4:=tb_at (fr:=fr) (to:=to) (h:=h) (i:=i) (m:=fr.length-(i+1)) (x:=gS fr to h i 0)
 repeat'(first|(refine dG 6 (Imp.refl _ _) ?_;rw [e3 (by omega)])|(with_reducible first|refine St.f ?_|refine V_c ?_|refine eDn ?_|refine And.intro ?_ ?_|refine aI ?_ ?_|refine aN ?_)|((refine aQ ?_);intro K hK)|((with_reducible refine So.f ?_);intro K hK;simp(contextual:=true)only [go_sem,simprocAttr])|((with_reducible refine hK _ ?_);clear hK K)|(rw [e4];simp only [go_sem,simprocAttr])|(refine fun(hc:(_:Bool)=_)=>?_;try simp only [hcS]at hc))
 all_goals try exact om_
 ·refine aG (G:={j:Nat//j≤fr.length∧(True)}) (fun⟨j,_⟩=>[(38,iv j)]) [0,1,4,5,18,19,37] (fun⟨j,_⟩=>[(0,⟨1, .box [iv ob, .sl 1, .sl 2, .sl 3, .sl 10, .sl 4, .sl 5, .sl 6, .sl 7]⟩),(1,⟨1, .arr (ints fr)⟩),(2,⟨1, .arr (ints to)⟩),(3,⟨1, .arr (ints id)⟩),(4,⟨1, .arr (aC O)⟩),(5,⟨1, .arr (aC A)⟩),(6,⟨1, .arr (mapD Tryz.prog 9 2 O.length (pm O O.length))⟩),(7,⟨1, .arr (mapD Tryz.prog 9 2 A.length (pm A A.length))⟩),(8,⟨1, .box [.ptr 0 0]⟩),(9,⟨1, .box [.bptr [] (dJ d)]⟩),(10,⟨1, .arr (cV (fH fr to h i++[gS fr to h i j]) (fr.length-(i+1)))⟩)]) [0,1,2,3,4,5,6,7,8,9,10] (fun zz=>fr.length-zz.1) ⟨0,Nat.zero_le _,by first|trivial|simp⟩ ?_ ?_
  ·exact Imp.au hX
  rintro⟨j,hij,hwj⟩
  simp only [go_sem,simprocAttr]
  have l0:=tE (fr:=fr) (to:=to) (h:=h) (i:=i) (j:=0) (Nat.zero_le _)
  have l2:=tE (fr:=fr) (to:=to) (h:=h) (i:=i) (j:=j) (by omega)
  have e2:=tb_at (fr:=fr) (to:=to) (h:=h) (i:=i) (m:=fr.length-(i+1)) (x:=gS fr to h i j)
  repeat'(first|(refine dG 9 (Imp.open_ 10 i _ [] (.inr ⟨rfl,rfl⟩) (by simp [go_sem,simprocAttr]) (by simp [go_sem,simprocAttr,l1];omega) rfl (by rw [e2];rfl) rfl) ?_;rw [e2])|refine dG 12 (Imp.closeA 10 12 i _ _ rfl rfl (by decide) (by simp [go_sem,simprocAttr,l1];omega)) ?_|((refine jS (id:=11) aCk (by rw [hn];rfl) ?_);intro K hK)|((with_reducible refine eY ?_ ?_);kernel_rfl)|(refine aG9 ?_;intro K hK;refine(HkX.callC (E:=TE) (f:=131) (caps:=[.ptr 8 0, .ptr 9 0]) (hS i j ?_ ?_ ?_) gE [8,0,5,7,9] ?_ ?_ ?_ ?_ ?_))|((with_reducible refine iF ?_);intro K hK;simp(contextual:=true)only [go_sem,simprocAttr])|(with_reducible first|refine St.f ?_|refine V_c ?_|refine eDn ?_|refine And.intro ?_ ?_|refine aI ?_ ?_|refine aN ?_)|((refine aQ ?_);intro K hK)|((with_reducible refine So.f ?_);intro K hK;simp(contextual:=true)only [go_sem,simprocAttr])|((with_reducible refine hK _ ?_);clear hK K)|(refine fun(hc:(_:Bool)=_)=>?_;try simp only [hcS]at hc))
  all_goals try exact om_
  ·simp only [go_sem,simprocAttr]
  ·simp [go_sem]
  ·simp [go_sem,bL]
  ·exact⟨xJ _,xJ _,aHR (i:=8) (m:=0) rfl rfl (by simp) (by simp) (iP rfl (iP rfl (iP rfl (iP rfl (iP rfl (iP rfl (aEA (by simp) rfl (iP rfl (aEA (by simp) rfl aBV))))))))),aHQ (i:=9) rfl (by simp) (aLu ⟨_,rfl,List.take_length,fun p hp=>(nomatch hp),fun p hp=>(nomatch hp)⟩ aBV),trivial⟩
  ·have e5:=aEt (fr:=fr) (to:=to) (h:=h) (i:=i) (j:=j) (by omega) (by assumption)
   have e6:=aCT (fr:=fr) (to:=to) (h:=h) (i:=i) (m:=fr.length-(i+1)) (x:=gS fr to h i j) (r:=gS fr to h i (j+1))
   refine⟨⟨j+1,by omega,(by trivial)⟩,by simp only;omega,Imp.auto hX (by simp only [go_sem,simprocAttr,e5,e6])⟩
  ·have e5:=aGO (fr:=fr) (to:=to) (h:=h) (i:=i) (j:=j) (by omega) (by assumption)
   have e6:=aCT (fr:=fr) (to:=to) (h:=h) (i:=i) (m:=fr.length-(i+1)) (x:=gS fr to h i j) (r:=gS fr to h i (j+1))
   refine⟨⟨j+1,by omega,(by trivial)⟩,by simp only;omega,Imp.auto hX (by simp only [go_sem,simprocAttr,e5,e6])⟩
  ·have e:j=fr.length:=by omega
   subst e
   have e5:=aAB (fr:=fr) (to:=to) (h:=h) (i:=i)
   refine⟨⟨i+1,by omega,(by trivial)⟩,by simp only;omega,Imp.auto hX (by simp only [go_sem,simprocAttr,e5])⟩
 ·have e:i=fr.length:=by omega
  subst e
  (first|refine aB ?_|refine aA ?_);simp only [go_sem,simprocAttr,Tryz.f130]
  simp [go_sem,simprocAttr]
end Go.Eng
