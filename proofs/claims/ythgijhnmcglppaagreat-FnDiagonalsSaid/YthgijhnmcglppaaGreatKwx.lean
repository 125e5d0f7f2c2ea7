/- Several texts in one: R12, R13. -/
import Derived.Test.YthgijhnmcglppaaGreatKasx
import Derived.Test.YthgijhnmcglppaaGreatR01q
import Derived.Test.YthgijhnmcglppaaGreatKzx
set_option linter.unusedSimpArgs false
set_option linter.unusedVariables false
set_option maxRecDepth 100000
set_option maxHeartbeats 16000000
section
namespace Go.Eng
open Go Go.Proofs Go.Cats
theorem aK5 {d:Cat} {s t:List Int} {x:Nat} (hx:x<s.length):((cmpL d s t).take x++List.replicate (s.length-x) 0).set x (d.C (s.getD x 0) (t.getD x 0))=(cmpL d s t).take (x+1)++List.replicate (s.length-(x+1)) 0:=by
 have h3:=aDb (cmpL d s t) x
 rw [bS]at h3
 rw [←gK hx,h3 hx]
theorem aK6 (d:Cat) (s t:List Int):(cmpL d s t).take s.length++List.replicate (s.length-s.length) 0=cmpL d s t:=by
 rw [List.take_of_length_le (by rw [bS];exact Nat.le_refl _),Nat.sub_self,List.replicate_zero,List.append_nil]
theorem aK7 (d:Cat) (s t:List Int):(cmpL d s t).take 0++List.replicate (s.length-0) 0=List.replicate s.length 0:=by
 rw [List.take_zero,Nat.sub_zero,List.nil_append]
attribute [local go_sem] List.set_cons_zero List.set_cons_succ aK7
theorem pZ:aE Tryz.prog 181:=⟨_,Tryz.func181,rfl,rfl⟩
theorem rI {d:Cat} {s t:List Int} (sd:Shape d) (hs:Within s d.fr.length) (ht:Within t d.fr.length) (hl:s.length≤4096) (hst:t.length=s.length):Spec Tryz.prog 181 [.bptr [] (aU d), .bor [] (ints s), .bor [] (ints t)] [] (.sl 0) [(0,⟨1, .arr (ints (cmpL d s t))⟩)]:=by
 refine aD (E:=TE) 0 Tryz.func181 rfl (by simp [Tryz.f181]) fun X hn hX=>?_
 have col:=sd.col
 have m40:=sd.m40
 repeat'(first|refine wkQ ?_|refine Tw.f ?_ ?_|(refine fun(hc:(_:Bool)=_)=>?_;try simp only [hcS]at hc))
 all_goals try exact om_
 refine aG (G:={x:Nat//x≤s.length∧(True)}) (fun⟨x,_⟩=>[(14,iv x),(7, .sl 0)]) [0,1,2,6,13] (fun⟨x,_⟩=>[(0,⟨1, .arr (ints ((cmpL d s t).take x++List.replicate (s.length-x) 0))⟩)]) [0] (fun zz=>s.length-zz.1) ⟨0,Nat.zero_le _,by first|trivial|simp⟩ ?_ ?_
 ·exact Imp.au hX
 rintro⟨x,hix,hwx⟩
 simp only [go_sem,simprocAttr]
 have hcl2:=bS (d:=d) (s:=s) (t:=t)
 have hcl:((cmpL d s t).take x++List.replicate (s.length-x) 0).length=s.length:=by rw [List.length_append,List.length_take,bS,List.length_replicate];omega
 rcases Nat.lt_or_ge x s.length with hlt|hge
 ·have h1:=hs x hlt
  have h2:=ht x (by omega)
  have r1:=nT sd h1.1 h1.2
  have e1:=aK5 (d:=d) (t:=t) hlt
  repeat'(first|refine wkQ ?_|refine Tw.f ?_ ?_|(refine kcQ cG ?_;refine krQ (cN (c:=d) ?_ ?_ ?_ ?_) ?_)|(refine fun(hc:(_:Bool)=_)=>?_;try simp only [hcS]at hc))
  all_goals try exact om_
  ·refine⟨⟨x+1,by omega,(by trivial)⟩,by simp only;omega,Imp.auto hX (by simp only [go_sem,simprocAttr,e1])⟩
 ·have ex:x=s.length:=by omega
  subst ex
  repeat'(first|refine wkQ ?_|refine Tw.f ?_ ?_|(refine fun(hc:(_:Bool)=_)=>?_;try simp only [hcS]at hc))
  all_goals try exact om_
  ·(first|refine aB ?_|refine aA ?_);simp only [go_sem,simprocAttr,Tryz.f181]
   rw [aK6]
theorem dO:aE Tryz.prog 83:=⟨_,Tryz.func83,rfl,rfl⟩
theorem dZ {a0 a1 a2 a3 a4 a5 a6:Dt} {A:List (List Int)} {i j:Int} {t:List Int} (hk:KeyOK A) (hm:i::j::t∈A) (ht:t.length≤60):Spec Tryz.prog 83 [.bptr [] [a0,a1,a2,a3,a4,a5,a6,mapD Tryz.prog 9 2 A.length (pm A A.length)],iv i,iv j, .bor [] (ints t)] [] (iv (fnd A (i::j::t))) []:=by
 refine aD (E:=TE) 0 Tryz.func83 rfl (by simp [Tryz.f83]) fun X hn hX=>?_
 have hb:=hk.b _ hm
 have hl:(i::j::t).length≤64:=by simp;omega
 have k3:=aFE hl
 have k4:=aRg hk (.lit (.int .i64 0)) hm
 have hky:=aBC hl hb
 repeat'(first|(with_reducible first|refine St.f ?_|refine V_c ?_|refine eDn ?_|refine And.intro ?_ ?_|refine aH ?_ ?_)|((refine aN ?_);intro K hK)|((with_reducible refine So.f ?_);intro K hK;simp(contextual:=true)only [go_sem,simprocAttr])|((with_reducible refine hK _ ?_);clear hK K)|((with_reducible refine aC 182 ?_);refine EvCall.mr (hky) aAv [] [2] ?_)|(refine aCr aJF (by simp only [go_sem,simprocAttr];rfl) (by simp only [go_sem,simprocAttr]) (by simp only [go_sem,simprocAttr]) k3 k4 ?_;simp only [go_sem,simprocAttr])|(refine fun(hc:(_:Bool)=_)=>?_;try simp only [hcS]at hc))
 all_goals try exact om_
 (first|refine aB ?_|refine aA ?_);simp only [go_sem,simprocAttr,Tryz.f83]
theorem aMq {A B:List (List Int)}:∀{i:Nat},i≤A.length→pm (A++B) i=pm A i
 |0,_=>rfl
 |i+1,h=>by
  have e:(A++B).getD i []=A.getD i []:=by
   rw [List.getD_eq_getElem?_getD,List.getElem?_append_left (by omega),←List.getD_eq_getElem?_getD]
  rw [pm,pm,aMq (by omega),e]
theorem aOZ {A:List (List Int)} {r:List Int}:pm (A++[r]) (A.length+1)=(pm A A.length).put (.string (tC [r]).data.toList) (.lit (.int .i64 A.length)):=by
 have e:(A++[r]).getD A.length []=r:=by
  rw [List.getD_eq_getElem?_getD,List.getElem?_append_right (Nat.le_refl _),Nat.sub_self];rfl
 rw [pm,aMq (Nat.le_refl _),e];rfl
theorem nF:aE Tryz.prog 177:=⟨_,Tryz.func177,rfl,rfl⟩
theorem pF {n:Int} {L:List Fun} {F T I t:List Int} {A:List (List Int)} {i j:Int} (hl:t.length≤60) (hb:∀x∈i::j::t,0≤x∧x<256) (hA:A.length≤4096) (hF:F.length≤4096) (hT:T.length≤4096):Spec Tryz.prog 177 [.ptr 0 0,iv i,iv j, .bor [] (ints t)] [(0,⟨1, .box [iv n, .sl 1, .sl 2, .sl 3, .v (.slice none 0 0), .sl 4, .sl 5, .sl 6]⟩),(1,⟨1, .arr (ints F)⟩),(2,⟨1, .arr (ints T)⟩),(3,⟨1, .arr (ints I)⟩),(4,⟨1, .arr (aS L)⟩),(5,⟨1, .arr (aF A)⟩),(6,⟨1, .arr (mapD Tryz.prog 9 2 A.length (pm A A.length))⟩)] (.tup []) [(0,⟨1, .box [iv n, .sl 7, .sl 8, .sl 3, .v (.slice none 0 0), .sl 4, .sl 9, .sl 6]⟩),(1,⟨1, .gone⟩),(2,⟨1, .gone⟩),(5,⟨1, .gone⟩),(7,⟨1, .arr (ints (F++[i]))⟩),(8,⟨1, .arr (ints (T++[j]))⟩),(3,⟨1, .arr (ints I)⟩),(4,⟨1, .arr (aS L)⟩),(9,⟨1, .arr (aF (A++[i::j::t]))⟩),(6,⟨1, .arr (mapD Tryz.prog 9 2 (A.length+1) (pm (A++[i::j::t]) (A.length+1)))⟩)]:=by
 refine aD (E:=TE) 7 Tryz.func177 rfl (by simp [Tryz.f177]) fun X hn hX=>?_
 have hl2:(i::j::t).length≤64:=by simp;omega
 have k3:=aFE hl2
 have hky:=aBC hl2 hb
 have e9:=aOZ (A:=A) (r:=i::j::t)
 repeat'(first|((refine jO (id:=1) aCq (by rw [hn];rfl) ?_);intro K hK)|((with_reducible refine fF ?_ ?_);kernel_rfl)|(refine aC3 ?_;intro K hK;refine HkX.bsl (t:=25) rfl (by decide) rfl (by simp [go_sem,simprocAttr]) (by simp only [go_sem,simprocAttr]) ?_;simp only [go_sem,simprocAttr])|((with_reducible refine iJ ?_);intro K hK;simp(contextual:=true)only [go_sem,simprocAttr])|(with_reducible first|refine St.f ?_|refine V_c ?_|refine eDn ?_|refine And.intro ?_ ?_|refine aH ?_ ?_)|((refine aN ?_);intro K hK)|((with_reducible refine So.f ?_);intro K hK;simp(contextual:=true)only [go_sem,simprocAttr])|((with_reducible refine hK _ ?_);clear hK K)|((with_reducible refine aC 182 ?_);refine EvCall.mr (hky) aAv [] [9,8] ?_)|(refine qU (i:=6) (cv:=1) (n:=A.length) (z:=(A.length:Int)) (D:=pm A A.length) aJF rfl (by simp only [go_sem,simprocAttr]) (by simp only [go_sem,simprocAttr]) (by simp only [go_sem,simprocAttr]) k3 (by simp only [go_sem,simprocAttr]) ⟨by omega,by omega⟩ (by unfold maxLen;omega) ?_;simp only [go_sem,simprocAttr])|(refine fun(hc:(_:Bool)=_)=>?_;try simp only [hcS]at hc))
 all_goals try exact om_
 ·(first|refine aB ?_|refine aA ?_);simp only [go_sem,simprocAttr,Tryz.f177]
  rw [e9]
noncomputable def fcD (A:List (List Int)):List Dt:=[unD,unD,unD,unD,unD,unD,aF A,mapD Tryz.prog 9 2 A.length (pm A A.length)]
section
variable {A:List (List Int)}
@[go_sem] theorem bAx:((fcD A).drop 6).take 1=[aF A]:=rfl
@[go_sem] theorem bAz:(fcD A).length=8:=rfl
@[go_sem] theorem bAy:(fcD A).take 8=fcD A:=rfl
end
structure TwoA (d:Cat) (A:List (List Int)) (a b:Nat):Prop where
 a1:a<A.length
 b1:b<A.length
 la:2≤(A.getD a []).length
 l6:(A.getD a []).length≤60
 lb:(A.getD b []).length=(A.getD a []).length
 wa:Within ((A.getD a []).drop 2) d.fr.length
 wb:Within ((A.getD b []).drop 2) d.fr.length
 mem:fcC d (A.getD a []) (A.getD b [])∈A
theorem aCz {d:Cat} {A:List (List Int)} {a b:Nat} (sd:Shape d) (hk:KeyOK A) (hA:A.length≤4096) (h:TwoA d A a b):Spec Tryz.prog 180 [iv a,iv b, .bptr [] [.pt (fcD A)], .bptr [] [.pt (aU d)]] [] (iv (fnd A (fcC d (A.getD a []) (A.getD b [])))) []:=by
 obtain⟨a1,b1,la,l6,lb,wa,wb,mem⟩:=h
 have m40:=sd.m40
 obtain⟨r,hr⟩:∃r,A.getD a []=r:=⟨_,rfl⟩
 obtain⟨s,hs⟩:∃s,A.getD b []=s:=⟨_,rfl⟩
 rw [hr]at la l6 lb wa mem
 rw [hs]at lb wb mem
 rw [hr,hs]
 have l1:(r.drop 2).length=r.length-2:=List.length_drop
 have l2:(s.drop 2).length=r.length-2:=by rw [List.length_drop];omega
 have hco:=rI sd wa wb (by omega) (by omega)
 have hcl:=bS (d:=d) (s:=r.drop 2) (t:=s.drop 2)
 have har:=dZ (a0:=unD) (a1:=unD) (a2:=unD) (a3:=unD) (a4:=unD) (a5:=unD) (a6:=aF A) hk mem (by omega)
 refine aD (E:=TE) 0 Tryz.func180 rfl (by simp [Tryz.f180]) fun X hn hX=>?_
 repeat'(first|(rw [hr])|(rw [hs])|(with_reducible first|refine St.f ?_|refine V_c ?_|refine eDn ?_|refine And.intro ?_ ?_|refine aH ?_ ?_)|((refine aN ?_);intro K hK)|((with_reducible refine So.f ?_);intro K hK;simp(contextual:=true)only [go_sem,simprocAttr])|((with_reducible refine hK _ ?_);clear hK K)|((with_reducible refine aC 181 ?_);refine EvCall.mr (hco) pZ [(0,0)] [] ?_)|((with_reducible refine aC 83 ?_);refine EvCall.mr (har) dO [] [0] ?_)|(refine aDg (n:=2) rfl rfl (by simp [go_sem,simprocAttr]) rfl (by omega) ?_;simp only [go_sem,simprocAttr])|(refine fun(hc:(_:Bool)=_)=>?_;try simp only [hcS]at hc))
 all_goals try exact om_
 (first|refine aB ?_|refine aA ?_);simp only [go_sem,simprocAttr,Tryz.f180]
 rfl
end Go.Eng
end
section
namespace Go.Eng
open Go Go.Proofs Go.Cats
attribute [local go_sem] List.set_cons_zero List.set_cons_succ
theorem aAS:aE Tryz.prog 180:=⟨_,Tryz.func180,rfl,rfl⟩
theorem rJ {ob:Int} {fr to id:List Int} {d:Cat} {L:List Fun} {A:List (List Int)} {h:Nat→Nat→Int} (hS:∀a b:Nat,a<fr.length→b<fr.length→to.getD a 0=fr.getD b 0→Spec Tryz.prog 180 [iv a,iv b, .bptr [] [.pt (fcD A)], .bptr [] [.pt (aU d)]] [] (iv (h a b)) []) (hlen:fr.length≤1048576) (hto:to.length=fr.length) (hob:0≤ob):
  Spec Tryz.prog 179 [.ptr 0 0, .fn 180 [.ptr 7 0, .ptr 8 0]] [(0,⟨1, .box [iv ob, .sl 1, .sl 2, .sl 3, .v (.slice none 0 0), .sl 4, .sl 5, .sl 6]⟩),(1,⟨1, .arr (ints fr)⟩),(2,⟨1, .arr (ints to)⟩),(3,⟨1, .arr (ints id)⟩),(4,⟨1, .arr (aS L)⟩),(5,⟨1, .arr (aF A)⟩),(6,⟨1, .arr (mapD Tryz.prog 9 2 A.length (pm A A.length))⟩),(7,⟨1, .box [.ptr 0 0]⟩),(8,⟨1, .box [.bptr [] (aU d)]⟩)] (.tup []) [(0,⟨1, .box [iv ob, .sl 1, .sl 2, .sl 3, .sl 9, .sl 4, .sl 5, .sl 6]⟩),(1,⟨1, .arr (ints fr)⟩),(2,⟨1, .arr (ints to)⟩),(3,⟨1, .arr (ints id)⟩),(4,⟨1, .arr (aS L)⟩),(5,⟨1, .arr (aF A)⟩),(6,⟨1, .arr (mapD Tryz.prog 9 2 A.length (pm A A.length))⟩),(7,⟨1, .box [.ptr 0 0]⟩),(8,⟨1, .box [.bptr [] (aU d)]⟩),(9,⟨1, .arr (aF (jC fr to h fr.length))⟩)]:=by
 refine aD (E:=TE) 9 Tryz.func179 rfl (by simp [Tryz.f179]) fun X hn hX=>?_
 repeat'(first|(with_reducible first|refine St.f ?_|refine V_c ?_|refine eDn ?_|refine And.intro ?_ ?_|refine aH ?_ ?_|refine aK ?_)|((refine aN ?_);intro K hK)|((with_reducible refine So.f ?_);intro K hK;simp(contextual:=true)only [go_sem,simprocAttr])|((with_reducible refine hK _ ?_);clear hK K)|((with_reducible refine aC 82 ?_);refine EvCall.mr (qC (ob:=ob) (fr:=fr) (to:=to) (id:=id)) aT [] [0,1,2,3] ?_)|(refine fun(hc:(_:Bool)=_)=>?_;try simp only [hcS]at hc))
 all_goals try exact om_
 refine aG (G:={i:Nat//i≤fr.length∧(True)}) (fun⟨i,_⟩=>[(19,iv i)]) [0,1,4,18] (fun⟨i,_⟩=>[(0,⟨1, .box [iv ob, .sl 1, .sl 2, .sl 3, .sl 9, .sl 4, .sl 5, .sl 6]⟩),(1,⟨1, .arr (ints fr)⟩),(2,⟨1, .arr (ints to)⟩),(3,⟨1, .arr (ints id)⟩),(4,⟨1, .arr (aS L)⟩),(5,⟨1, .arr (aF A)⟩),(6,⟨1, .arr (mapD Tryz.prog 9 2 A.length (pm A A.length))⟩),(7,⟨1, .box [.ptr 0 0]⟩),(8,⟨1, .box [.bptr [] (aU d)]⟩),(9,⟨1, .arr (eH (jC fr to h i) (fr.length-i))⟩)]) [0,1,2,3,4,5,6,7,8,9] (fun zz=>fr.length-zz.1) ⟨0,Nat.zero_le _,by simp⟩ ?_ ?_
 ·exact Imp.au hX
 rintro⟨i,hii,hwi⟩
 simp only [go_sem,simprocAttr]
 have l1:=jK (fr:=fr) (to:=to) (h:=h) (i:=i)
 have e3:=fun h0=>aRR (fr:=fr) (to:=to) (h:=h) (i:=i) h0
 have e4:=tb_at (fr:=fr) (to:=to) (h:=h) (i:=i) (m:=fr.length-(i+1)) (x:=lZ fr to h i 0)
 repeat'(first|(refine bU 6 (Imp.refl _ _) ?_;rw [e3 (by omega)])|(with_reducible first|refine St.f ?_|refine V_c ?_|refine eDn ?_|refine And.intro ?_ ?_|refine aH ?_ ?_|refine aK ?_)|((refine aN ?_);intro K hK)|((with_reducible refine So.f ?_);intro K hK;simp(contextual:=true)only [go_sem,simprocAttr])|((with_reducible refine hK _ ?_);clear hK K)|(rw [e4];simp only [go_sem,simprocAttr])|(refine fun(hc:(_:Bool)=_)=>?_;try simp only [hcS]at hc))
 all_goals try exact om_
 ·refine aG (G:={j:Nat//j≤fr.length∧(True)}) (fun⟨j,_⟩=>[(38,iv j)]) [0,1,4,5,18,19,37] (fun⟨j,_⟩=>[(0,⟨1, .box [iv ob, .sl 1, .sl 2, .sl 3, .sl 9, .sl 4, .sl 5, .sl 6]⟩),(1,⟨1, .arr (ints fr)⟩),(2,⟨1, .arr (ints to)⟩),(3,⟨1, .arr (ints id)⟩),(4,⟨1, .arr (aS L)⟩),(5,⟨1, .arr (aF A)⟩),(6,⟨1, .arr (mapD Tryz.prog 9 2 A.length (pm A A.length))⟩),(7,⟨1, .box [.ptr 0 0]⟩),(8,⟨1, .box [.bptr [] (aU d)]⟩),(9,⟨1, .arr (eH (jC fr to h i++[lZ fr to h i j]) (fr.length-(i+1)))⟩)]) [0,1,2,3,4,5,6,7,8,9] (fun zz=>fr.length-zz.1) ⟨0,Nat.zero_le _,by first|trivial|simp⟩ ?_ ?_
  ·exact Imp.au hX
  rintro⟨j,hij,hwj⟩
  simp only [go_sem,simprocAttr]
  have l0:=aGt (fr:=fr) (to:=to) (h:=h) (i:=i) (j:=0) (Nat.zero_le _)
  have l2:=aGt (fr:=fr) (to:=to) (h:=h) (i:=i) (j:=j) (by omega)
  have e2:=tb_at (fr:=fr) (to:=to) (h:=h) (i:=i) (m:=fr.length-(i+1)) (x:=lZ fr to h i j)
  repeat'(first|(refine bU 9 (Imp.open_ 9 i _ [] (.inr ⟨rfl,rfl⟩) (by simp [go_sem,simprocAttr]) (by simp [go_sem,simprocAttr,l1];omega) rfl (by rw [e2];rfl) rfl) ?_;rw [e2])|refine bU 12 (Imp.closeA 9 11 i _ _ rfl rfl (by decide) (by simp [go_sem,simprocAttr,l1];omega)) ?_|((refine jO (id:=11) aCq (by rw [hn];rfl) ?_);intro K hK)|((with_reducible refine fF ?_ ?_);kernel_rfl)|(refine aC3 ?_;intro K hK;refine(HkX.callC (E:=TE) (f:=180) (caps:=[.ptr 7 0, .ptr 8 0]) (hS i j ?_ ?_ ?_) aAS [7,0,5,6,8] ?_ ?_ ?_ ?_ ?_))|(((with_reducible apply jG);rfl);intro K hK;simp(contextual:=true)only [go_sem,simprocAttr])|((with_reducible refine iJ ?_);intro K hK;simp(contextual:=true)only [go_sem,simprocAttr])|(with_reducible first|refine St.f ?_|refine V_c ?_|refine eDn ?_|refine And.intro ?_ ?_|refine aH ?_ ?_|refine aK ?_)|((refine aN ?_);intro K hK)|((with_reducible refine So.f ?_);intro K hK;simp(contextual:=true)only [go_sem,simprocAttr])|((with_reducible refine hK _ ?_);clear hK K)|(refine fun(hc:(_:Bool)=_)=>?_;try simp only [hcS]at hc))
  all_goals try exact om_
  ·simp only [go_sem,simprocAttr]
  ·simp [go_sem]
  ·simp [go_sem,bW]
  ·exact⟨aAH _,aAH _,aJ9 (i:=7) (m:=0) rfl rfl (by simp) (by simp) (kU rfl (kU rfl (kU rfl (kU rfl (kU rfl (kU rfl (aGC (by simp) rfl (aGC (by simp) rfl aDO)))))))),aJ8 (i:=8) rfl (by simp) (aNN ⟨_,rfl,List.take_length,fun p hp=>(nomatch hp),fun p hp=>(nomatch hp)⟩ aDO),trivial⟩
  ·have e5:=aNE (fr:=fr) (to:=to) (h:=h) (i:=i) (j:=j) (by omega) (by assumption)
   have e6:=aNH (fr:=fr) (to:=to) (h:=h) (i:=i) (m:=fr.length-(i+1)) (x:=lZ fr to h i j) (r:=lZ fr to h i (j+1))
   refine⟨⟨j+1,by omega,(by trivial)⟩,by simp only;omega,Imp.auto hX (by simp only [go_sem,simprocAttr,e5,e6])⟩
  ·have e5:=aPA (fr:=fr) (to:=to) (h:=h) (i:=i) (j:=j) (by omega) (by assumption)
   have e6:=aNH (fr:=fr) (to:=to) (h:=h) (i:=i) (m:=fr.length-(i+1)) (x:=lZ fr to h i j) (r:=lZ fr to h i (j+1))
   refine⟨⟨j+1,by omega,(by trivial)⟩,by simp only;omega,Imp.auto hX (by simp only [go_sem,simprocAttr,e5,e6])⟩
  ·have e:j=fr.length:=by omega
   subst e
   have e5:=aHL (fr:=fr) (to:=to) (h:=h) (i:=i)
   refine⟨⟨i+1,by omega,(by trivial)⟩,by simp only;omega,Imp.auto hX (by simp only [go_sem,simprocAttr,e5])⟩
 ·have e:i=fr.length:=by omega
  subst e
  (first|refine aB ?_|refine aA ?_);simp only [go_sem,simprocAttr,Tryz.f179]
  simp [go_sem,simprocAttr]
end Go.Eng
end
