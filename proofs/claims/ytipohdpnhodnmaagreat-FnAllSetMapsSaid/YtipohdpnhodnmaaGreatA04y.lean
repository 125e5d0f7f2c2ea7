/- Several texts in one: A04, A06. -/
import Derived.Test.YtipohdpnhodnmaaGreatA02y
set_option linter.unusedSimpArgs false
set_option linter.unusedVariables false
set_option maxRecDepth 100000
set_option maxHeartbeats 16000000
section
namespace Go.Eng
open Go Go.Proofs Go.Cats
def srD (f g:SF) (b:Bool) (m:Int) (F:List (List (List Int))):List Dt:=sfD f++sfD g++[.v (.bool b), .v (.int .i64 m),aU F]
section
variable (f g:SF) (b:Bool) (m:Int) (F:List (List (List Int)))
@[go_sem] theorem aXn:(srD f g b m F).take 7=sfD f:=rfl
@[go_sem] theorem aXo:((srD f g b m F).drop 7).take 7=sfD g:=rfl
@[go_sem] theorem aXm:((srD f g b m F).drop 14).take 1=[.v (.bool b)]:=rfl
@[go_sem] theorem aXq:((srD f g b m F).drop 15).take 1=[.v (.int .i64 m)]:=rfl
@[go_sem] theorem aXl:((srD f g b m F).drop 16).take 1=[aU F]:=rfl
@[go_sem] theorem aT7:(srD f g b m F).take 17=srD f g b m F:=rfl
@[go_sem] theorem aXp:(srD f g b m F).length=17:=rfl
end
attribute [local go_sem] aIw
theorem rO:aF Tryz.prog 187:=⟨_,Tryz.func187,rfl,rfl⟩
theorem aDl {f g:SF} {b:Bool} {m:Int} {F:List (List (List Int))} {P:List (List Int)} {x e u:Nat} (h:SPair f g) (hP:P.length=f.sizes.length) (hR:∀y,y<P.length→((P.getD y []).length:Int)=f.sizes.getD y 0) (he:(e:Int)<f.sizes.getD x 0) (hu:(u:Int)<g.sizes.getD x 0)
  (hN:gP f g b x e u P=none):Spec Tryz.prog 187 [.bptr [] (srD f g b m F), .bor [] (aD P),iv x,iv e,iv u] [] (.tup [.v (.slice none 0 0), .v (.bool false)]) []:=by
 refine aE (E:=TE) 0 Tryz.func187 rfl (by simp [Tryz.f187]) fun X hn hX=>?_
 have acl:=h.src.acl
 have c40:=h.src.cat.m40
 have t2:=h.src.szl
 have t3:=h.src.cat.ob8
 have hrow:∀i,i<P.length→(P.getD i []).length≤1048576:=fun i hi=>by
  have h1:=hR i hi
  have h2:=h.src.szw i (by omega)
  omega
 rcases b with _|_
 ·repeat'(first|refine wkQ ?_|refine Tw.f ?_ ?_|(refine kcQ fI ?_;refine krQ (gG ?_ ?_) ?_)|(refine fun(hc:(_:Bool)=_)=>?_;try simp only [hcS]at hc))
  all_goals try exact om_
  refine aH (G:={a:Nat//a≤f.acts.length∧(eV f g false x e u P a=some (cP f g false x e u P a))}) (fun⟨a,_⟩=>[(13,iv a),(12, .sl 0)]) [0,2,3,4] (fun⟨a,_⟩=>[(0,⟨1, .arr (aD (cP f g false x e u P a))⟩)]) [0] (fun zz=>f.acts.length-zz.1) ⟨0,Nat.zero_le _,by rfl⟩ ?_ ?_
  ·exact Imp.au hX
  rintro⟨a,hia,hwa⟩
  simp only [go_sem,simprocAttr]
  have a0:=fun q1 q2=>qP (a:=a) h hP hR he hu hwa q1 q2
  repeat'(first|(refine bH 11 (Imp.open_ 0 (f.shape.to.getD a 0).toNat _ [] (.inr ⟨rfl,rfl⟩) (by simp [go_sem,simprocAttr]) (by simp only [go_sem,simprocAttr];omega) rfl (by simp only [go_sem,simprocAttr]) rfl) ?_;simp only [go_sem,simprocAttr])|refine bH 4 (Imp.closeA 0 1 (f.shape.to.getD a 0).toNat _ _ rfl rfl (by decide) (by simp only [go_sem,simprocAttr];omega)) ?_|(with_reducible first|refine St.f ?_|refine V_c ?_|refine eDn ?_|refine And.intro ?_ ?_|refine aI ?_ ?_|refine aL ?_)|((refine aQ ?_);intro K hK)|((with_reducible refine So.f ?_);intro K hK;simp(contextual:=true)only [go_sem,simprocAttr])|((with_reducible refine hK _ ?_);clear hK K)|((with_reducible refine aC 194 ?_);refine EvCall.rr (qR ?_) nI ?_)|(refine fun(hc:(_:Bool)=_)=>?_;try simp only [hcS]at hc))
  all_goals try exact om_
  ·have e1:=qO hwa hc
   refine⟨⟨a+1,by omega,(by exact e1.1)⟩,by simp only;omega,Imp.auto hX (by simp only [go_sem,simprocAttr,e1.2])⟩
  ·(first|refine aB ?_|refine aA ?_);simp only [go_sem,simprocAttr,Tryz.f187]
  ·have a1:=a0 (by omega) (by assumption)
   have e1:=yN hwa (by omega) (by assumption) (by assumption) (by assumption) a1.2.1.2 a1.2.2.2.1.2
   refine⟨⟨a+1,by omega,(by exact e1.1)⟩,by simp only;omega,Imp.auto hX (by simp only [go_sem,simprocAttr,e1.2])⟩
  ·have e1:=uA hwa (by omega) (by assumption) (by assumption) (fun q=>by cases q.1)
   refine⟨⟨a+1,by omega,(by exact e1.1)⟩,by simp only;omega,Imp.auto hX (by simp only [go_sem,simprocAttr,e1.2])⟩
  ·exact absurd (tZ hwa (by omega)) (by rw [hN];simp)
 ·repeat'(first|refine wkQ ?_|refine Tw.f ?_ ?_|(refine kcQ fI ?_;refine krQ (gG ?_ ?_) ?_)|(refine fun(hc:(_:Bool)=_)=>?_;try simp only [hcS]at hc))
  all_goals try exact om_
  refine aH (G:={a:Nat//a≤f.acts.length∧(eV f g true x e u P a=some (cP f g true x e u P a))}) (fun⟨a,_⟩=>[(13,iv a),(12, .sl 0)]) [0,2,3,4] (fun⟨a,_⟩=>[(0,⟨1, .arr (aD (cP f g true x e u P a))⟩)]) [0] (fun zz=>f.acts.length-zz.1) ⟨0,Nat.zero_le _,by rfl⟩ ?_ ?_
  ·exact Imp.au hX
  rintro⟨a,hia,hwa⟩
  simp only [go_sem,simprocAttr]
  have a0:=fun q1 q2=>qP (a:=a) h hP hR he hu hwa q1 q2
  repeat'(first|(refine bH 11 (Imp.open_ 0 (f.shape.to.getD a 0).toNat _ [] (.inr ⟨rfl,rfl⟩) (by simp [go_sem,simprocAttr]) (by simp only [go_sem,simprocAttr];omega) rfl (by simp only [go_sem,simprocAttr]) rfl) ?_;simp only [go_sem,simprocAttr])|refine bH 4 (Imp.closeA 0 1 (f.shape.to.getD a 0).toNat _ _ rfl rfl (by decide) (by simp only [go_sem,simprocAttr];omega)) ?_|(with_reducible first|refine St.f ?_|refine V_c ?_|refine eDn ?_|refine And.intro ?_ ?_|refine aI ?_ ?_|refine aL ?_)|((refine aQ ?_);intro K hK)|((with_reducible refine So.f ?_);intro K hK;simp(contextual:=true)only [go_sem,simprocAttr])|((with_reducible refine hK _ ?_);clear hK K)|((with_reducible refine aC 194 ?_);refine EvCall.rr (qR ?_) nI ?_)|(refine fun(hc:(_:Bool)=_)=>?_;try simp only [hcS]at hc))
  all_goals try exact om_
  ·have e1:=qO hwa hc
   refine⟨⟨a+1,by omega,(by exact e1.1)⟩,by simp only;omega,Imp.auto hX (by simp only [go_sem,simprocAttr,e1.2])⟩
  ·(first|refine aB ?_|refine aA ?_);simp only [go_sem,simprocAttr,Tryz.f187]
  ·have a1:=a0 (by omega) (by assumption)
   have e1:=yN hwa (by omega) (by assumption) (by assumption) (by assumption) a1.2.1.2 a1.2.2.2.1.2
   refine⟨⟨a+1,by omega,(by exact e1.1)⟩,by simp only;omega,Imp.auto hX (by simp only [go_sem,simprocAttr,e1.2])⟩
  ·(first|refine aB ?_|refine aA ?_);simp only [go_sem,simprocAttr,Tryz.f187]
  ·have e1:=uA hwa (by omega) (by assumption) (by assumption) (fun q=>hc q.2)
   refine⟨⟨a+1,by omega,(by exact e1.1)⟩,by simp only;omega,Imp.auto hX (by simp only [go_sem,simprocAttr,e1.2])⟩
  ·exact absurd (tZ hwa (by omega)) (by rw [hN];simp)
theorem rH {f g:SF} {b:Bool} {m:Int} {F:List (List (List Int))} {P:List (List Int)} {Q:List (List Int)} {x e u:Nat} (h:SPair f g) (hP:P.length=f.sizes.length) (hR:∀y,y<P.length→((P.getD y []).length:Int)=f.sizes.getD y 0) (he:(e:Int)<f.sizes.getD x 0) (hu:(u:Int)<g.sizes.getD x 0)
  (hN:gP f g b x e u P=some Q):Spec Tryz.prog 187 [.bptr [] (srD f g b m F), .bor [] (aD P),iv x,iv e,iv u] [] (.tup [.sl 0, .v (.bool true)]) [(0,⟨1, .arr (aD Q)⟩)]:=by
 refine aE (E:=TE) 0 Tryz.func187 rfl (by simp [Tryz.f187]) fun X hn hX=>?_
 have acl:=h.src.acl
 have c40:=h.src.cat.m40
 have t2:=h.src.szl
 have t3:=h.src.cat.ob8
 have hrow:∀i,i<P.length→(P.getD i []).length≤1048576:=fun i hi=>by
  have h1:=hR i hi
  have h2:=h.src.szw i (by omega)
  omega
 rcases b with _|_
 ·repeat'(first|refine wkQ ?_|refine Tw.f ?_ ?_|(refine kcQ fI ?_;refine krQ (gG ?_ ?_) ?_)|(refine fun(hc:(_:Bool)=_)=>?_;try simp only [hcS]at hc))
  all_goals try exact om_
  refine aH (G:={a:Nat//a≤f.acts.length∧(eV f g false x e u P a=some (cP f g false x e u P a))}) (fun⟨a,_⟩=>[(13,iv a),(12, .sl 0)]) [0,2,3,4] (fun⟨a,_⟩=>[(0,⟨1, .arr (aD (cP f g false x e u P a))⟩)]) [0] (fun zz=>f.acts.length-zz.1) ⟨0,Nat.zero_le _,by rfl⟩ ?_ ?_
  ·exact Imp.au hX
  rintro⟨a,hia,hwa⟩
  simp only [go_sem,simprocAttr]
  have a0:=fun q1 q2=>qP (a:=a) h hP hR he hu hwa q1 q2
  repeat'(first|(refine bH 11 (Imp.open_ 0 (f.shape.to.getD a 0).toNat _ [] (.inr ⟨rfl,rfl⟩) (by simp [go_sem,simprocAttr]) (by simp only [go_sem,simprocAttr];omega) rfl (by simp only [go_sem,simprocAttr]) rfl) ?_;simp only [go_sem,simprocAttr])|refine bH 4 (Imp.closeA 0 1 (f.shape.to.getD a 0).toNat _ _ rfl rfl (by decide) (by simp only [go_sem,simprocAttr];omega)) ?_|(with_reducible first|refine St.f ?_|refine V_c ?_|refine eDn ?_|refine And.intro ?_ ?_|refine aI ?_ ?_|refine aL ?_)|((refine aQ ?_);intro K hK)|((with_reducible refine So.f ?_);intro K hK;simp(contextual:=true)only [go_sem,simprocAttr])|((with_reducible refine hK _ ?_);clear hK K)|((with_reducible refine aC 194 ?_);refine EvCall.rr (qR ?_) nI ?_)|(refine fun(hc:(_:Bool)=_)=>?_;try simp only [hcS]at hc))
  all_goals try exact om_
  ·have e1:=qO hwa hc
   refine⟨⟨a+1,by omega,(by exact e1.1)⟩,by simp only;omega,Imp.auto hX (by simp only [go_sem,simprocAttr,e1.2])⟩
  ·exact absurd (aHf hwa (by omega) (by assumption) (by assumption) hc) (by rw [hN];simp)
  ·have a1:=a0 (by omega) (by assumption)
   have e1:=yN hwa (by omega) (by assumption) (by assumption) (by assumption) a1.2.1.2 a1.2.2.2.1.2
   refine⟨⟨a+1,by omega,(by exact e1.1)⟩,by simp only;omega,Imp.auto hX (by simp only [go_sem,simprocAttr,e1.2])⟩
  ·have e1:=uA hwa (by omega) (by assumption) (by assumption) (fun q=>by cases q.1)
   refine⟨⟨a+1,by omega,(by exact e1.1)⟩,by simp only;omega,Imp.auto hX (by simp only [go_sem,simprocAttr,e1.2])⟩
  ·have e1:=tZ hwa (by omega)
   rw [hN]at e1
   have e2:=Option.some.inj e1
   (first|refine aB ?_|refine aA ?_);simp only [go_sem,simprocAttr,Tryz.f187]
   rw [e2]
 ·repeat'(first|refine wkQ ?_|refine Tw.f ?_ ?_|(refine kcQ fI ?_;refine krQ (gG ?_ ?_) ?_)|(refine fun(hc:(_:Bool)=_)=>?_;try simp only [hcS]at hc))
  all_goals try exact om_
  refine aH (G:={a:Nat//a≤f.acts.length∧(eV f g true x e u P a=some (cP f g true x e u P a))}) (fun⟨a,_⟩=>[(13,iv a),(12, .sl 0)]) [0,2,3,4] (fun⟨a,_⟩=>[(0,⟨1, .arr (aD (cP f g true x e u P a))⟩)]) [0] (fun zz=>f.acts.length-zz.1) ⟨0,Nat.zero_le _,by rfl⟩ ?_ ?_
  ·exact Imp.au hX
  rintro⟨a,hia,hwa⟩
  simp only [go_sem,simprocAttr]
  have a0:=fun q1 q2=>qP (a:=a) h hP hR he hu hwa q1 q2
  repeat'(first|(refine bH 11 (Imp.open_ 0 (f.shape.to.getD a 0).toNat _ [] (.inr ⟨rfl,rfl⟩) (by simp [go_sem,simprocAttr]) (by simp only [go_sem,simprocAttr];omega) rfl (by simp only [go_sem,simprocAttr]) rfl) ?_;simp only [go_sem,simprocAttr])|refine bH 4 (Imp.closeA 0 1 (f.shape.to.getD a 0).toNat _ _ rfl rfl (by decide) (by simp only [go_sem,simprocAttr];omega)) ?_|(with_reducible first|refine St.f ?_|refine V_c ?_|refine eDn ?_|refine And.intro ?_ ?_|refine aI ?_ ?_|refine aL ?_)|((refine aQ ?_);intro K hK)|((with_reducible refine So.f ?_);intro K hK;simp(contextual:=true)only [go_sem,simprocAttr])|((with_reducible refine hK _ ?_);clear hK K)|((with_reducible refine aC 194 ?_);refine EvCall.rr (qR ?_) nI ?_)|(refine fun(hc:(_:Bool)=_)=>?_;try simp only [hcS]at hc))
  all_goals try exact om_
  ·have e1:=qO hwa hc
   refine⟨⟨a+1,by omega,(by exact e1.1)⟩,by simp only;omega,Imp.auto hX (by simp only [go_sem,simprocAttr,e1.2])⟩
  ·exact absurd (aHf hwa (by omega) (by assumption) (by assumption) hc) (by rw [hN];simp)
  ·have a1:=a0 (by omega) (by assumption)
   have e1:=yN hwa (by omega) (by assumption) (by assumption) (by assumption) a1.2.1.2 a1.2.2.2.1.2
   refine⟨⟨a+1,by omega,(by exact e1.1)⟩,by simp only;omega,Imp.auto hX (by simp only [go_sem,simprocAttr,e1.2])⟩
  ·exact absurd (aKW hwa (by omega) (by assumption) (by assumption) rfl hc) (by rw [hN];simp)
  ·have e1:=uA hwa (by omega) (by assumption) (by assumption) (fun q=>hc q.2)
   refine⟨⟨a+1,by omega,(by exact e1.1)⟩,by simp only;omega,Imp.auto hX (by simp only [go_sem,simprocAttr,e1.2])⟩
  ·have e1:=tZ hwa (by omega)
   rw [hN]at e1
   have e2:=Option.some.inj e1
   (first|refine aB ?_|refine aA ?_);simp only [go_sem,simprocAttr,Tryz.f187]
   rw [e2]
end Go.Eng
end
section
namespace Go.Eng
open Go Go.Proofs Go.Cats
attribute [local go_sem] aJo
theorem kK:aF Tryz.prog 186:=⟨_,Tryz.func186,rfl,rfl⟩
theorem aBo {f g:SF} {b:Bool} {m:Int} {F:List (List (List Int))} {P:List (List Int)} {x e:Nat} (h:SPair f g) (hP:P.length=f.sizes.length) (hR:∀y,y<P.length→((P.getD y []).length:Int)=f.sizes.getD y 0) (hx:x<f.sizes.length) (he:(e:Int)<f.sizes.getD x 0):Spec Tryz.prog 186 [.bptr [] (srD f g b m F), .bor [] (aD P),iv x,iv e] [] (.sl 0) [(0,⟨1, .arr (ints (chI f g b x e P (g.sizes.getD x 0).toNat))⟩)]:=by
 refine aE (E:=TE) 0 Tryz.func186 rfl (by simp [Tryz.f186]) fun X hn hX=>?_
 have hs:f.shape.ob=g.shape.ob:=by rw [h.one]
 have t1:=h.src.szl
 have t2:=h.tgt.szl
 have w:=h.tgt.szw x (by omega)
 obtain⟨K,hK⟩:∃K:Nat,(g.sizes.getD x 0).toNat=K:=⟨_,rfl⟩
 rw [hK]
 repeat'(first|(with_reducible first|refine St.f ?_|refine V_c ?_|refine And.intro ?_ ?_|refine aI ?_ ?_|refine aL ?_)|((refine aQ ?_);intro K hK)|((with_reducible refine So.f ?_);intro K hK;simp(contextual:=true)only [go_sem,simprocAttr])|((with_reducible refine hK _ ?_);clear hK K)|(refine fun(hc:(_:Bool)=_)=>?_;try simp only [hcS]at hc))
 all_goals try exact om_
 refine aH (G:={u:Nat//u≤K∧(True)}) (fun⟨u,_⟩=>[(10,iv u),(9, .sl 0)]) [0,1,2,3,8] (fun⟨u,_⟩=>[(0,⟨1, .arr (ints (chI f g b x e P u))⟩)]) [0] (fun zz=>K-zz.1) ⟨0,Nat.zero_le _,by first|trivial|simp⟩ ?_ ?_
 ·exact Imp.au hX
 rintro⟨u,hiu,hwu⟩
 simp only [go_sem,simprocAttr]
 have l1:=aGI f g b x e P u
 rcases Nat.lt_or_ge u K with hlt|hge
 ·cases hs:gP f g b x e u P with
  |none=>
   repeat'(first|(with_reducible first|refine St.f ?_|refine V_c ?_|refine And.intro ?_ ?_|refine aI ?_ ?_|refine aL ?_)|((refine aQ ?_);intro K hK)|((with_reducible refine So.f ?_);intro K hK;simp(contextual:=true)only [go_sem,simprocAttr])|((with_reducible refine hK _ ?_);clear hK K)|((with_reducible refine aC 187 ?_);refine EvCall.mr ((aDl h hP hR he (by omega) hs)) rO [] [] ?_)|(refine fun(hc:(_:Bool)=_)=>?_;try simp only [hcS]at hc))
   all_goals try exact om_
   ·refine⟨⟨u+1,by omega,(by trivial)⟩,by simp only;omega,Imp.auto hX (by simp only [go_sem,simprocAttr,aJm hs])⟩
  |some Q=>
   repeat'(first|(with_reducible first|refine St.f ?_|refine V_c ?_|refine And.intro ?_ ?_|refine aI ?_ ?_|refine aL ?_)|((refine aQ ?_);intro K hK)|((with_reducible refine So.f ?_);intro K hK;simp(contextual:=true)only [go_sem,simprocAttr])|((with_reducible refine hK _ ?_);clear hK K)|((with_reducible refine aC 187 ?_);refine EvCall.mr ((rH h hP hR he (by omega) hs)) rO [] [] ?_)|(refine fun(hc:(_:Bool)=_)=>?_;try simp only [hcS]at hc))
   all_goals try exact om_
   ·refine⟨⟨u+1,by omega,(by trivial)⟩,by simp only;omega,Imp.auto hX (by simp only [go_sem,simprocAttr,aGJ hs])⟩
 ·repeat'(first|(with_reducible first|refine St.f ?_|refine V_c ?_|refine And.intro ?_ ?_|refine aI ?_ ?_|refine aL ?_)|((refine aQ ?_);intro K hK)|((with_reducible refine So.f ?_);intro K hK;simp(contextual:=true)only [go_sem,simprocAttr])|((with_reducible refine hK _ ?_);clear hK K)|(refine fun(hc:(_:Bool)=_)=>?_;try simp only [hcS]at hc))
  all_goals try exact om_
  (first|refine aB ?_|refine aA ?_);simp only [go_sem,simprocAttr,Tryz.f186]
  rw [show u=K by omega]
end Go.Eng
end
