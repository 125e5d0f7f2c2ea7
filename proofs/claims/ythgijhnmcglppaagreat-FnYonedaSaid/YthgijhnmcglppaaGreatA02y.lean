/- Several texts in one: A02, A03, A08, A09, A04, A06, A07, A11, A12, A05. -/
import Derived.Test.YthgijhnmcglppaaGreatKjx
set_option linter.unusedSimpArgs false
set_option linter.unusedVariables false
set_option maxRecDepth 100000
set_option maxHeartbeats 16000000
section
namespace Go.Eng
open Go Go.Proofs Go.Cats
theorem iK:(Value.slice none 0 0).oneCell'=true:=rfl
attribute [local go_sem] iK
theorem mW:aE Tryz.prog 136:=⟨_,Tryz.func136,rfl,rfl⟩
theorem oV {f g:SF} {c:Int} (hf:SFB f) (hg:SFB g) (h:SCo f g c):Spec Tryz.prog 136 [.bptr [] (sfD f), .bptr [] (sfD g)] [] (iv c) []:=by
 refine aD (E:=TE) 0 Tryz.func136 rfl (by simp [Tryz.f136]) fun X hn hX=>?_
 have f1:=hf.shape
 have g1:=hg.shape
 rcases h with⟨h6,rfl⟩|⟨h6,h7,rfl⟩|⟨h6,h7,rfl⟩
 ·repeat'(first|refine wkQ ?_|refine Tw.f ?_ ?_|(refine kcQ dU ?_;refine ksQ (a:=cX (by first|omega|assumption|rfl) (by first|omega|assumption|rfl)) (c:=?_))|(refine fun(hc:(_:Bool)=_)=>?_;try simp only [hcS]at hc))
  all_goals try exact om_
  ·(first|refine aB ?_|refine aA ?_);simp only [go_sem,simprocAttr,Tryz.f136]
  all_goals exact absurd (by assumption) h6
 ·repeat'(first|refine wkQ ?_|refine Tw.f ?_ ?_|(refine kcQ dU ?_;refine ksQ (a:=cX (by first|omega|assumption|rfl) (by first|omega|assumption|rfl)) (c:=?_))|(refine kcQ fH ?_;refine krQ (fU (c:=f.shape) (d:=g.shape) ?_ ?_) ?_)|(refine fun(hc:(_:Bool)=_)=>?_;try simp only [hcS]at hc))
  all_goals try exact om_
  all_goals try((first|refine aB ?_|refine aA ?_);simp only [go_sem,simprocAttr,Tryz.f136])
  all_goals first|contradiction|exact absurd (by assumption) h7
 ·repeat'(first|refine wkQ ?_|refine Tw.f ?_ ?_|(refine kcQ dU ?_;refine ksQ (a:=cX (by first|omega|assumption|rfl) (by first|omega|assumption|rfl)) (c:=?_))|(refine kcQ fH ?_;refine krQ (fU (c:=f.shape) (d:=g.shape) ?_ ?_) ?_)|(refine fun(hc:(_:Bool)=_)=>?_;try simp only [hcS]at hc))
  all_goals try exact om_
  all_goals try((first|refine aB ?_|refine aA ?_);simp only [go_sem,simprocAttr,Tryz.f136])
  all_goals contradiction
theorem aEP:fC []=[]:=rfl
attribute [go_sem] aEP
end Go.Eng
end
section
namespace Go.Eng
open Go Go.Proofs Go.Cats
attribute [local go_sem] aFv aBq zI
end Go.Eng
end
section
namespace Go.Eng
open Go Go.Proofs Go.Cats
theorem aQs (o q):(stA o q).1=false:=rfl
theorem aQt (o q):(stA o q).2=q:=rfl
theorem aQu (M o q):(stB M o q).1=decide (o.length+1≤M):=rfl
theorem aQv (M o q):(stB M o q).2=o++[q]:=rfl
attribute [local go_sem] List.set_cons_zero aQs aQt aQu aQv
theorem lD:aE Tryz.prog 334:=⟨_,Tryz.func334,rfl,rfl⟩
theorem lC:aE Tryz.prog 284:=⟨_,Tryz.func284,rfl,rfl⟩
theorem tM:aE Tryz.prog 224:=⟨_,Tryz.func224,rfl,rfl⟩
theorem vW {q:List (List Int)} {O:List (List (List Int))} {M:Nat} (hM:M≤4096) (hO:O.length≤M) (hl:q.length≤1048576) (hr:∀i,i<q.length→(q.getD i []).length≤1048576):Spec Tryz.prog 224 [.bor [] (aC q), .ptr 0 0, .ptr 1 0] [(0,⟨1, .bx [.dead] 0 (aU O)⟩),(1,⟨1, .box [iv M]⟩)] (bv (stB M O q).1) [(0,⟨1, .bx [.dead] 0 (aU (stB M O q).2)⟩),(1,⟨1, .box [iv M]⟩)]:=by
 refine aD (E:=TE) 2 Tryz.func224 rfl (by simp [Tryz.f224]) fun X hn hX=>?_
 refine aMO ?_
 repeat'(first|(refine cZ 1 (Imp.openB 0 0 _ _ rfl (Nat.le_refl 1) rfl rfl) ?_;simp only [List.set_cons_zero])|(with_reducible first|refine St.f ?_|refine V_c ?_|refine eDn ?_|refine And.intro ?_ ?_|refine aJ ?_ ?_)|((refine aT ?_);intro K hK)|((with_reducible refine So.f ?_);intro K hK;simp(contextual:=true)only [go_sem,simprocAttr])|((with_reducible refine hK _ ?_);clear hK K)|((with_reducible refine aG 211 ?_);refine EvCall.rr (pM ?_ ?_) mR ?_)|(refine fun(hc:(_:Bool)=_)=>?_;try simp only [hcS]at hc))
 all_goals try exact om_
 refine aKM (Imp.closeB 0 5 0 _ _ rfl rfl rfl (by decide)) ?_
 (first|refine aB ?_|refine aA ?_);simp only [go_sem,simprocAttr,Tryz.f224]
 rw [show decide ((O.length:Int)+1≤(M:Int))=decide (O.length+1≤M) from by rw [decide_eq_decide];omega]
end Go.Eng
end
section
namespace Go.Eng
open Go Go.Proofs Go.Cats
theorem aEm {f g:SF} {n x e:Nat} {P:List (List Int)}:dH f g true n x e P 0=[]:=rfl
theorem aGz {O:List (List Int)}:eat stA O []=(true,O):=rfl
theorem aKl {Q:List (List Int)}:lZ Q []=Q:=rfl
attribute [local go_sem] aEm aGz aKl
end Go.Eng
end
section
namespace Go.Eng
open Go Go.Proofs Go.Cats
section
variable (f g:SF) (b:Bool) (m:Int) (F:List (List (List Int)))
end
attribute [local go_sem] aG7
end Go.Eng
end
section
namespace Go.Eng
open Go Go.Proofs Go.Cats
attribute [local go_sem] aHW
end Go.Eng
end
section
namespace Go.Eng
open Go Go.Proofs Go.Cats
theorem aFl (n i:Nat):((n:Int)-1-(i:Int)).toNat=n-1-i:=by omega
theorem aLz:pX none= -1:=rfl
theorem aLx:pE none= -1:=rfl
theorem aLA (x e:Nat):pX (some (x,e))=x:=rfl
theorem aLy (x e:Nat):pE (some (x,e))=e:=rfl
attribute [local go_sem] aFl aLz aLx aLA aLy aHT aHS List.set_cons_succ List.set_cons_zero
end Go.Eng
end
section
namespace Go.Eng
open Go Go.Proofs Go.Cats
attribute [local go_sem] List.set_cons_succ List.set_cons_zero iK
def _root_.Go.Cats.allM (f g:SF) (b:Bool):List (List (List Int)):=dfs f g b (nu (fC f.sizes)+1) (fC f.sizes)
end Go.Eng
end
section
namespace Go.Eng
open Go Go.Proofs Go.Cats
attribute [local go_sem] List.set_cons_succ List.set_cons_zero iK
theorem aCQ:aE Tryz.prog 223:=⟨_,Tryz.func223,rfl,rfl⟩
end Go.Eng
end
section
namespace Go.Eng
open Go Go.Proofs Go.Cats
attribute [local go_sem] aFv aBq zI
theorem rE {f g:SF} {O:List (List (List Int))} {M:Nat} {P:List (List Int)} {N:List (Int×Int)} {x e u:Nat} (h:SPair f g) (hP:P.length=f.sizes.length) (hR:∀y,y<P.length→((P.getD y []).length:Int)=f.sizes.getD y 0) (hN:N.length≤4096) (he:(e:Int)<f.sizes.getD x 0) (hu:(u:Int)<g.sizes.getD x 0):Spec Tryz.prog 334 [.ptr 0 0,iv x,iv e,iv u, .ptr 2 0] [(0,⟨1, .box [.bptr [] (sfD f), .bptr [] (sfD g), .v (.bool false), .sl 1, .fn 224 [.ptr 4 0, .ptr 5 0]]⟩),(1,⟨1, .arr (aC P)⟩),(2,⟨1, .bx [.dead] 0 (prs N)⟩),(4,⟨1, .bx [.dead] 0 (aU O)⟩),(5,⟨1, .box [iv M]⟩)] (bv (zE f g false x e u P N).1) [(0,⟨1, .box [.bptr [] (sfD f), .bptr [] (sfD g), .v (.bool false), .sl 1, .fn 224 [.ptr 4 0, .ptr 5 0]]⟩),(1,⟨1, .arr (aC (zE f g false x e u P N).2.1)⟩),(2,⟨1, .bx [.dead] 0 (prs (zE f g false x e u P N).2.2)⟩),(4,⟨1, .bx [.dead] 0 (aU O)⟩),(5,⟨1, .box [iv M]⟩)]:=by
 refine aD (E:=TE) 6 Tryz.func334 rfl (by simp [Tryz.f334]) fun X hn hX=>?_
 have c40:=h.src.cat.m40
 repeat'(first|refine wkQ ?_|refine Tw.f ?_ ?_|(refine kcQ qH ?_;refine krQ (sW ?_) ?_)|(refine fun(hc:(_:Bool)=_)=>?_;try simp only [hcS]at hc))
 all_goals try exact om_
 refine aH (G:={j:Nat//j≤(jA f.shape x f.shape.fr.length).length∧((sR f g false x e u P N j).1=true)}) (fun⟨j,_⟩=>[(27,iv j)]) [0,2,3,4,11,25,26] (fun⟨j,_⟩=>[(0,⟨1, .box [.bptr [] (sfD f), .bptr [] (sfD g), .v (.bool false), .sl 1, .fn 224 [.ptr 4 0, .ptr 5 0]]⟩),(1,⟨1, .arr (aC (gZ f g false x e u P N j))⟩),(2,⟨1, .bx [.dead] 0 (prs (lK f g false x e u P N j))⟩),(4,⟨1, .bx [.dead] 0 (aU O)⟩),(5,⟨1, .box [iv M]⟩)]) [0,1,2,4,5] (fun zz=>(jA f.shape x f.shape.fr.length).length-zz.1) ⟨0,Nat.zero_le _,by rfl⟩ ?_ ?_
 ·exact Imp.au hX
 rintro⟨j,hij,hwj⟩
 simp only [go_sem,simprocAttr]
 have a0:=aHc h hP hR he hu false N j
 repeat'(first|(refine cZ 11 (Imp.open_ 1 (f.shape.to.getD (bG f x j) 0).toNat _ [] (.inr ⟨rfl,rfl⟩) (by simp [go_sem,simprocAttr]) (by simp only [go_sem,simprocAttr];omega) rfl (by simp only [go_sem,simprocAttr]) rfl) ?_;simp only [go_sem,simprocAttr])|refine cZ 12 (Imp.closeA 1 7 (f.shape.to.getD (bG f x j) 0).toNat _ _ rfl rfl (by decide) (by simp only [go_sem,simprocAttr];omega)) ?_|(refine cZ 12 (Imp.openB 2 0 _ _ rfl (Nat.le_refl 1) rfl rfl) ?_;simp only [List.set_cons_zero])|(refine cZ 13 (Imp.closeB 2 10 0 _ _ rfl rfl rfl (by decide)) ?_;simp only [List.set_cons_zero])|(with_reducible first|refine St.f ?_|refine V_c ?_|refine eDn ?_|refine And.intro ?_ ?_|refine aJ ?_ ?_|refine aQ ?_)|((refine aT ?_);intro K hK)|((with_reducible refine So.f ?_);intro K hK;simp(contextual:=true)only [go_sem,simprocAttr])|((with_reducible refine hK _ ?_);clear hK K)|((with_reducible refine aG 305 ?_);refine EvCall.rr (aN5 ?_) aKE ?_)|(refine fun(hc:(_:Bool)=_)=>?_;try simp only [hcS]at hc))
 all_goals try exact om_
 ·(first|refine aB ?_|refine aA ?_);simp only [go_sem,simprocAttr,Tryz.f334]
  have e1:=aLR (f:=f) (g:=g) (by omega) hwj (by assumption) hc;rw [e1];exact⟨⟨rfl,rfl⟩,rfl⟩
 ·have e1:=aLS (f:=f) (g:=g) (by omega) hwj (by assumption) hc
  have e2:gZ f g false x e u P N (j+1)=gZ f g false x e u P N j:=congrArg (fun t=>t.2.1) e1
  have e3:lK f g false x e u P N (j+1)=lK f g false x e u P N j:=congrArg (fun t=>t.2.2) e1
  refine⟨⟨j+1,by omega,(by exact congrArg Prod.fst e1)⟩,by simp only;omega,Imp.auto hX (by simp only [go_sem,simprocAttr,e2,e3])⟩
 ·have e1:=aLT (f:=f) (g:=g) (P:=P) (N:=N) (once:=false) (u:=u) (e:=e) (by omega) hwj (Int.not_le.2 (by assumption)) (fun q=>by cases q.1)
  have e2:gZ f g false x e u P N (j+1)=(gZ f g false x e u P N j).set (f.shape.to.getD (bG f x j) 0).toNat (((gZ f g false x e u P N j).getD (f.shape.to.getD (bG f x j) 0).toNat []).set ((f.acts.getD (bG f x j) []).getD e 0).toNat ((g.acts.getD (bG f x j) []).getD u 0)):=congrArg (fun t=>t.2.1) e1
  have e3:lK f g false x e u P N (j+1)=lK f g false x e u P N j++[(f.shape.to.getD (bG f x j) 0,(f.acts.getD (bG f x j) []).getD e 0)]:=by
   have e4:=congrArg (fun t=>t.2.2) e1
   have e5:((f.ty (bG f x j):Nat):Int)=f.shape.to.getD (bG f x j) 0:=by
    have:=(a0 (by omega)).2.1.1
    simp only [SF.ty];omega
   rw [e5]at e4
   exact e4
  refine⟨⟨j+1,by omega,(by exact congrArg Prod.fst e1)⟩,by simp only;omega,Imp.auto hX (by simp only [go_sem,simprocAttr,e2,e3])⟩
 ·have e1:=aJN (f:=f) (g:=g) (P:=P) (N:=N) (once:=false) (u:=u) (e:=e) (x:=x) (j:=j) (by omega)
  (first|refine aB ?_|refine aA ?_);simp only [go_sem,simprocAttr,Tryz.f334]
  rw [←e1];exact⟨⟨rfl,rfl⟩,congrArg bv hwj.symm⟩
end Go.Eng
end
