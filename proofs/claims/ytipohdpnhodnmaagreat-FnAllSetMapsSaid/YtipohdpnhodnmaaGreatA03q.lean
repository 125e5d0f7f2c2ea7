/- The search of natural maps: one choice, by the program. -/
import Derived.Test.YtipohdpnhodnmaaGreatKjy
set_option linter.unusedSimpArgs false
set_option linter.unusedVariables false
set_option maxRecDepth 100000
set_option maxHeartbeats 16000000
namespace Go.Eng
open Go Go.Proofs Go.Cats
attribute [local go_sem] aGz aCb aAv
theorem sQ {f g:SF} {O:List (List Int)} {P:List (List Int)} {N:List (Int×Int)} {x e u:Nat} (h:SPair f g) (hP:P.length=f.sizes.length) (hR:∀y,y<P.length→((P.getD y []).length:Int)=f.sizes.getD y 0) (hN:N.length≤4096) (he:(e:Int)<f.sizes.getD x 0) (hu:(u:Int)<g.sizes.getD x 0):Spec Tryz.prog 236 [.ptr 0 0,iv x,iv e,iv u, .ptr 2 0] [(0,⟨1, .box [.bptr [] (sfD f), .bptr [] (sfD g), .v (.bool true), .sl 1, .fn 107 [.ptr 4 0]]⟩),(1,⟨1, .arr (aD P)⟩),(2,⟨1, .bx [.dead] 0 (prs N)⟩),(4,⟨1, .bx [.dead] 0 (aD O)⟩)] (bv (pM f g true x e u P N).1) [(0,⟨1, .box [.bptr [] (sfD f), .bptr [] (sfD g), .v (.bool true), .sl 1, .fn 107 [.ptr 4 0]]⟩),(1,⟨1, .arr (aD (pM f g true x e u P N).2.1)⟩),(2,⟨1, .bx [.dead] 0 (prs (pM f g true x e u P N).2.2)⟩),(4,⟨1, .bx [.dead] 0 (aD O)⟩)]:=by
 refine aE (E:=TE) 5 Tryz.func236 rfl (by simp [Tryz.f236]) fun X hn hX=>?_
 have c40:=h.src.cat.m40
 repeat'(first|refine wkQ ?_|refine Tw.f ?_ ?_|(refine kcQ kI ?_;refine krQ (lX ?_) ?_)|(refine fun(hc:(_:Bool)=_)=>?_;try simp only [hcS]at hc))
 all_goals try exact om_
 refine aH (G:={j:Nat//j≤(gZ f.shape x f.shape.fr.length).length∧((rA f g true x e u P N j).1=true)}) (fun⟨j,_⟩=>[(27,iv j)]) [0,2,3,4,11,25,26] (fun⟨j,_⟩=>[(0,⟨1, .box [.bptr [] (sfD f), .bptr [] (sfD g), .v (.bool true), .sl 1, .fn 107 [.ptr 4 0]]⟩),(1,⟨1, .arr (aD (eY f g true x e u P N j))⟩),(2,⟨1, .bx [.dead] 0 (prs (gN f g true x e u P N j))⟩),(4,⟨1, .bx [.dead] 0 (aD O)⟩)]) [0,1,2,4] (fun zz=>(gZ f.shape x f.shape.fr.length).length-zz.1) ⟨0,Nat.zero_le _,by rfl⟩ ?_ ?_
 ·exact Imp.au hX
 rintro⟨j,hij,hwj⟩
 simp only [go_sem,simprocAttr]
 have a0:=aCe h hP hR he hu true N j
 repeat'(first|(refine bH 11 (Imp.open_ 1 (f.shape.to.getD (aY f x j) 0).toNat _ [] (.inr ⟨rfl,rfl⟩) (by simp [go_sem,simprocAttr]) (by simp only [go_sem,simprocAttr];omega) rfl (by simp only [go_sem,simprocAttr]) rfl) ?_;simp only [go_sem,simprocAttr])|refine bH 12 (Imp.closeA 1 6 (f.shape.to.getD (aY f x j) 0).toNat _ _ rfl rfl (by decide) (by simp only [go_sem,simprocAttr];omega)) ?_|(refine bH 12 (Imp.openB 2 0 _ _ rfl (Nat.le_refl 1) rfl rfl) ?_;simp only [List.set_cons_zero])|(refine bH 13 (Imp.closeB 2 9 0 _ _ rfl rfl rfl (by decide)) ?_;simp only [List.set_cons_zero])|(with_reducible first|refine St.f ?_|refine V_c ?_|refine eDn ?_|refine And.intro ?_ ?_|refine aI ?_ ?_|refine aL ?_)|((refine aQ ?_);intro K hK)|((with_reducible refine So.f ?_);intro K hK;simp(contextual:=true)only [go_sem,simprocAttr])|((with_reducible refine hK _ ?_);clear hK K)|((with_reducible refine aC 225 ?_);refine EvCall.rr (aLu ?_) aGG ?_)|(refine fun(hc:(_:Bool)=_)=>?_;try simp only [hcS]at hc))
 all_goals try exact om_
 ·(first|refine aB ?_|refine aA ?_);simp only [go_sem,simprocAttr,Tryz.f236]
  have e1:=aHs (f:=f) (g:=g) (by omega) hwj (by assumption) hc;rw [e1];exact⟨⟨rfl,rfl⟩,rfl⟩
 ·have e1:=aHt (f:=f) (g:=g) (by omega) hwj (by assumption) hc
  have e2:eY f g true x e u P N (j+1)=eY f g true x e u P N j:=congrArg (fun t=>t.2.1) e1
  have e3:gN f g true x e u P N (j+1)=gN f g true x e u P N j:=congrArg (fun t=>t.2.2) e1
  refine⟨⟨j+1,by omega,(by exact congrArg Prod.fst e1)⟩,by simp only;omega,Imp.auto hX (by simp only [go_sem,simprocAttr,e2,e3])⟩
 ·(first|refine aB ?_|refine aA ?_);simp only [go_sem,simprocAttr,Tryz.f236]
  have e1:=aNg (f:=f) (g:=g) (by omega) hwj (Int.not_le.2 (by assumption)) rfl hc;rw [e1];exact⟨⟨rfl,rfl⟩,rfl⟩
 ·have e1:=aHu (f:=f) (g:=g) (P:=P) (N:=N) (once:=true) (u:=u) (e:=e) (by omega) hwj (Int.not_le.2 (by assumption)) (fun q=>hc q.2)
  have e2:eY f g true x e u P N (j+1)=(eY f g true x e u P N j).set (f.shape.to.getD (aY f x j) 0).toNat (((eY f g true x e u P N j).getD (f.shape.to.getD (aY f x j) 0).toNat []).set ((f.acts.getD (aY f x j) []).getD e 0).toNat ((g.acts.getD (aY f x j) []).getD u 0)):=congrArg (fun t=>t.2.1) e1
  have e3:gN f g true x e u P N (j+1)=gN f g true x e u P N j++[(f.shape.to.getD (aY f x j) 0,(f.acts.getD (aY f x j) []).getD e 0)]:=by
   have e4:=congrArg (fun t=>t.2.2) e1
   have e5:((f.ty (aY f x j):Nat):Int)=f.shape.to.getD (aY f x j) 0:=by
    have:=(a0 (by omega)).2.1.1
    simp only [SF.ty];omega
   rw [e5]at e4
   exact e4
  refine⟨⟨j+1,by omega,(by exact congrArg Prod.fst e1)⟩,by simp only;omega,Imp.auto hX (by simp only [go_sem,simprocAttr,e2,e3])⟩
 ·have e1:=aEO (f:=f) (g:=g) (P:=P) (N:=N) (once:=true) (u:=u) (e:=e) (x:=x) (j:=j) (by omega)
  (first|refine aB ?_|refine aA ?_);simp only [go_sem,simprocAttr,Tryz.f236]
  rw [←e1];exact⟨⟨rfl,rfl⟩,congrArg bv hwj.symm⟩
end Go.Eng
