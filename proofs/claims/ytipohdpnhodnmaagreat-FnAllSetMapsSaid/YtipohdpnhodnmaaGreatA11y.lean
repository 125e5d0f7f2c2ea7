/- Several texts in one: A11, A12, A13, A14. -/
import Derived.Test.YtipohdpnhodnmaaGreatA07q
import Derived.Test.YtipohdpnhodnmaaGreatA09q
import Derived.Test.YtipohdpnhodnmaaGreatA10q
set_option linter.unusedSimpArgs false
set_option linter.unusedVariables false
set_option maxRecDepth 100000
set_option maxHeartbeats 16000000
section
namespace Go.Eng
open Go Go.Proofs Go.Cats
attribute [local go_sem] List.set_cons_succ List.set_cons_zero iO
def _root_.Go.Cats.allM (f g:SF) (b:Bool):List (List (List Int)):=dfs f g b (nu (dD f.sizes)+1) (dD f.sizes)
theorem wX:aF Tryz.prog 49:=⟨_,Tryz.func49,rfl,rfl⟩
theorem aAT {f g:SF} {b:Bool} {m:Nat} (h:SPair f g) (h0:0<m) (hm:m≤4096):Spec Tryz.prog 49 [sfV f,sfV g, .v (.bool b),iv m] [] (.sl 0) [(0,⟨1, .arr (aU ((allM f g b).take m))⟩)]:=by
 refine aE (E:=TE) 0 Tryz.func49 rfl (by simp [Tryz.f49]) fun X hn hX=>?_
 have h1:=h.src
 have hgo:=aAS (b:=b) h hm (nu (dD f.sizes)+1) [] (dD f.sizes) (iM b h) (by omega) (by simpa using h0)
 rw [List.nil_append]at hgo
 repeat'(first|(refine bH 2 (Imp.trans (Imp.adoptBsss 2 16 1 _ rfl rfl rfl (by rw [hX];rfl)) (Imp.closeB 2 3 16 _ _ rfl rfl rfl (by decide))) ?_;simp only [go_sem,simprocAttr])|(refine bH 3 (Imp.openB 2 16 _ _ rfl (Nat.succ_le_succ (Nat.zero_le _)) rfl rfl) ?_;simp only [go_sem,simprocAttr])|(with_reducible first|refine St.f ?_|refine V_c ?_|refine And.intro ?_ ?_|refine aI ?_ ?_)|((refine aQ ?_);intro K hK)|((with_reducible refine So.f ?_);intro K hK;simp(contextual:=true)only [go_sem,simprocAttr])|((with_reducible refine hK _ ?_);clear hK K)|((with_reducible refine aC 112 ?_);refine EvCall.rr (aGe (f:=f) ?_) aDS ?_)|((with_reducible refine aC 111 ?_);refine EvCall.mr (hgo) aBD [(0,2),(1,4)] [] ?_)|(refine fun(hc:(_:Bool)=_)=>?_;try simp only [hcS]at hc))
 all_goals try exact om_
 (first|refine aB ?_|refine aA ?_);simp only [go_sem,simprocAttr,Tryz.f49]
 rfl
end Go.Eng
end
section
namespace Go.Eng
open Go Go.Proofs Go.Cats
attribute [local go_sem] List.set_cons_succ List.set_cons_zero iO
theorem wZ:aF Tryz.prog 106:=⟨_,Tryz.func106,rfl,rfl⟩
theorem aDo {f g:SF} {O:List (List Int)} (h:SPair f g):Spec Tryz.prog 106 [.bptr [] (sfD f), .bptr [] (sfD g), .v (.bool true), .fn 107 [.ptr 4 0]] [(4,⟨1, .bx [.dead] 0 (aD O)⟩)] (bv (eat stA O (allM f g true)).1) [(4,⟨1, .bx [.dead] 0 (aD ((eat stA O (allM f g true)).2))⟩)]:=by
 refine aE (E:=TE) 5 Tryz.func106 rfl (by simp [Tryz.f106]) fun X hn hX=>?_
 have h1:=h.src.szl
 have h2:=h.src.cat.ob8
 have hrun:=kZ h (nu (dD f.sizes)+1) O (dD f.sizes) (iM true h) (by omega)
 repeat'(first|(refine bH 2 (Imp.adoptBs 5 3 1 _ rfl rfl rfl (by rw [hX];rfl)) ?_;simp only [go_sem,simprocAttr])|(with_reducible first|refine St.f ?_|refine V_c ?_|refine eDn ?_|refine And.intro ?_ ?_|refine aI ?_ ?_|refine aL ?_)|((refine aQ ?_);intro K hK)|((with_reducible refine So.f ?_);intro K hK;simp(contextual:=true)only [go_sem,simprocAttr])|((with_reducible refine hK _ ?_);clear hK K)|(refine fun(hc:(_:Bool)=_)=>?_;try simp only [hcS]at hc))
 all_goals try exact om_
 refine aH (G:={x:Nat//x≤f.sizes.length∧(True)}) (fun⟨x,_⟩=>[(23,iv x),(9, .ptr 5 0)]) [8,21,22] (fun⟨x,_⟩=>[(5,⟨1, .box [.bptr [] (sfD f), .bptr [] (sfD g), .v (.bool true), .sl 6, .fn 107 [.ptr 4 0]]⟩),(6,⟨1, .arr (aD (dD (f.sizes.take x)))⟩)]) [5,6] (fun zz=>f.sizes.length-zz.1) ⟨0,Nat.zero_le _,by first|trivial|simp⟩ ?_ ?_
 ·exact Imp.au hX
 rintro⟨x,hix,hwx⟩
 simp only [go_sem,simprocAttr]
 have h3:=h.src.szw x
 have h4:=qM (f.sizes.take x)
 have h5:=List.length_take_le x f.sizes
 rcases Nat.lt_or_ge x f.sizes.length with hlt|hge
 ·repeat'(first|refine wkQ ?_|refine Tw.f ?_ ?_|(refine kcQ tC ?_;refine krQ (xI (x:=-1) (n:=f.sizes.getD x 0) ?_ ?_) ?_)|(refine fun(hc:(_:Bool)=_)=>?_;try simp only [hcS]at hc))
  all_goals try exact om_
  ·refine⟨⟨x+1,by omega,(by trivial)⟩,by simp only;omega,Imp.auto hX (by simp only [go_sem,simprocAttr,sD hlt])⟩
 ·repeat'(first|(refine bH 7 (Imp.refl _ _) ?_;rw [show f.sizes.take x=f.sizes from List.take_of_length_le hge])|(with_reducible first|refine St.f ?_|refine V_c ?_|refine eDn ?_|refine And.intro ?_ ?_|refine aI ?_ ?_|refine aL ?_)|((refine aQ ?_);intro K hK)|((with_reducible refine So.f ?_);intro K hK;simp(contextual:=true)only [go_sem,simprocAttr])|((with_reducible refine hK _ ?_);clear hK K)|((with_reducible refine aC 184 ?_);refine EvCall.mr (hrun) fB [(0,5),(1,6),(4,4)] [] ?_)|(refine fun(hc:(_:Bool)=_)=>?_;try simp only [hcS]at hc))
  all_goals try exact om_
  ·(first|refine aB ?_|refine aA ?_);simp only [go_sem,simprocAttr,Tryz.f106]
   exact⟨rfl,rfl⟩
end Go.Eng
end
section
namespace Go.Eng
open Go Go.Proofs Go.Cats
attribute [local go_sem] List.set_cons_succ List.set_cons_zero iO
theorem aDp {f g:SF} {O:List (List (List Int))} {M:Nat} (hM:M≤4096) (h:SPair f g) (hO:O.length≤M):Spec Tryz.prog 106 [.bptr [] (sfD f), .bptr [] (sfD g), .v (.bool false), .fn 113 [.ptr 4 0, .ptr 5 0]] [(4,⟨1, .bx [.dead] 0 (aU O)⟩),(5,⟨1, .box [iv M]⟩)] (bv (eat (stB M) O (allM f g false)).1) [(4,⟨1, .bx [.dead] 0 (aU ((eat (stB M) O (allM f g false)).2))⟩),(5,⟨1, .box [iv M]⟩)]:=by
 refine aE (E:=TE) 6 Tryz.func106 rfl (by simp [Tryz.f106]) fun X hn hX=>?_
 have h1:=h.src.szl
 have h2:=h.src.cat.ob8
 have hrun:=lB hM h (nu (dD f.sizes)+1) O (dD f.sizes) (iM false h) (by omega) hO
 repeat'(first|(refine bH 2 (Imp.adoptBs 6 3 1 _ rfl rfl rfl (by rw [hX];rfl)) ?_;simp only [go_sem,simprocAttr])|(with_reducible first|refine St.f ?_|refine V_c ?_|refine eDn ?_|refine And.intro ?_ ?_|refine aI ?_ ?_|refine aL ?_)|((refine aQ ?_);intro K hK)|((with_reducible refine So.f ?_);intro K hK;simp(contextual:=true)only [go_sem,simprocAttr])|((with_reducible refine hK _ ?_);clear hK K)|(refine fun(hc:(_:Bool)=_)=>?_;try simp only [hcS]at hc))
 all_goals try exact om_
 refine aH (G:={x:Nat//x≤f.sizes.length∧(True)}) (fun⟨x,_⟩=>[(23,iv x),(9, .ptr 6 0)]) [8,21,22] (fun⟨x,_⟩=>[(6,⟨1, .box [.bptr [] (sfD f), .bptr [] (sfD g), .v (.bool false), .sl 7, .fn 113 [.ptr 4 0, .ptr 5 0]]⟩),(7,⟨1, .arr (aD (dD (f.sizes.take x)))⟩)]) [6,7] (fun zz=>f.sizes.length-zz.1) ⟨0,Nat.zero_le _,by first|trivial|simp⟩ ?_ ?_
 ·exact Imp.au hX
 rintro⟨x,hix,hwx⟩
 simp only [go_sem,simprocAttr]
 have h3:=h.src.szw x
 have h4:=qM (f.sizes.take x)
 have h5:=List.length_take_le x f.sizes
 rcases Nat.lt_or_ge x f.sizes.length with hlt|hge
 ·repeat'(first|refine wkQ ?_|refine Tw.f ?_ ?_|(refine kcQ tC ?_;refine krQ (xI (x:=-1) (n:=f.sizes.getD x 0) ?_ ?_) ?_)|(refine fun(hc:(_:Bool)=_)=>?_;try simp only [hcS]at hc))
  all_goals try exact om_
  ·refine⟨⟨x+1,by omega,(by trivial)⟩,by simp only;omega,Imp.auto hX (by simp only [go_sem,simprocAttr,sD hlt])⟩
 ·repeat'(first|(refine bH 7 (Imp.refl _ _) ?_;rw [show f.sizes.take x=f.sizes from List.take_of_length_le hge])|(with_reducible first|refine St.f ?_|refine V_c ?_|refine eDn ?_|refine And.intro ?_ ?_|refine aI ?_ ?_|refine aL ?_)|((refine aQ ?_);intro K hK)|((with_reducible refine So.f ?_);intro K hK;simp(contextual:=true)only [go_sem,simprocAttr])|((with_reducible refine hK _ ?_);clear hK K)|((with_reducible refine aC 184 ?_);refine EvCall.mr (hrun) fB [(0,6),(1,7),(4,4),(5,5)] [] ?_)|(refine fun(hc:(_:Bool)=_)=>?_;try simp only [hcS]at hc))
  all_goals try exact om_
  ·(first|refine aB ?_|refine aA ?_);simp only [go_sem,simprocAttr,Tryz.f106]
   exact⟨rfl,rfl⟩
end Go.Eng
end
section
namespace Go.Eng
open Go Go.Proofs Go.Cats
attribute [local go_sem] List.set_cons_succ List.set_cons_zero iO
theorem rP:aF Tryz.prog 46:=⟨_,Tryz.func46,rfl,rfl⟩
theorem aDn {f g:SF} (hf:IsSF f) (hg:IsSF g) (hs:f.sizes≠g.sizes):Spec Tryz.prog 46 [.bptr [] (sfD f), .bptr [] (sfD g)] [] (.tup [.v (.slice none 0 0), .v (.bool false)]) []:=by
 have f1:=hf.szl
 have f2:=hf.cat.ob8
 have g1:=hg.szl
 have g2:=hg.cat.ob8
 refine aE (E:=TE) 0 Tryz.func46 rfl (by simp [Tryz.f46]) fun X hn hX=>?_
 repeat'(first|refine wkQ ?_|refine Tw.f ?_ ?_|(refine kcQ mM ?_;refine krQ (qS ?_ ?_) ?_)|(refine fun(hc:(_:Bool)=_)=>?_;try simp only [hcS]at hc))
 all_goals try exact om_
 ·(first|refine aB ?_|refine aA ?_);simp only [go_sem,simprocAttr,Tryz.f46]
 all_goals exact absurd (by assumption) hs
theorem uP {f g:SF} (h:SPair f g) (hs:f.sizes=g.sizes):Spec Tryz.prog 46 [.bptr [] (sfD f), .bptr [] (sfD g)] [] (.tup [.sl 0,bv (!(eat stA [] (allM f g true)).1)]) [(0,⟨1, .arr (aD (eat stA [] (allM f g true)).2)⟩)]:=by
 have f1:=h.src.szl
 have f2:=h.src.cat.ob8
 have g1:=h.tgt.szl
 have g2:=h.tgt.cat.ob8
 have hset:=aDo (O:=[]) h
 refine aE (E:=TE) 0 Tryz.func46 rfl (by simp [Tryz.f46]) fun X hn hX=>?_
 repeat'(first|(refine bH 4 (Imp.closeB 1 0 0 _ _ rfl rfl rfl (by decide)) ?_;simp only [go_sem,simprocAttr])|(refine bH 5 (Imp.openB 1 0 _ _ rfl (Nat.succ_le_succ (Nat.zero_le _)) rfl rfl) ?_;simp only [go_sem,simprocAttr])|(with_reducible first|refine St.f ?_|refine V_c ?_|refine eDn ?_|refine And.intro ?_ ?_|refine aI ?_ ?_)|((refine aQ ?_);intro K hK)|((with_reducible refine So.f ?_);intro K hK;simp(contextual:=true)only [go_sem,simprocAttr])|((with_reducible refine hK _ ?_);clear hK K)|((with_reducible refine aC 105 ?_);refine EvCall.rr (qS ?_ ?_) mM ?_)|((with_reducible refine aC 106 ?_);refine EvCall.mr (hset) wZ [(4,1)] [] ?_)|(refine fun(hc:(_:Bool)=_)=>?_;try simp only [hcS]at hc))
 all_goals try exact om_
 ·exact absurd hs (by assumption)
 ·(first|refine aB ?_|refine aA ?_);simp only [go_sem,simprocAttr,Tryz.f46]
theorem oZ:aF Tryz.prog 50:=⟨_,Tryz.func50,rfl,rfl⟩
theorem rG {f g:SF} {M:Nat} (hM:M≤4096) (h:SPair f g):Spec Tryz.prog 50 [.bptr [] (sfD f), .bptr [] (sfD g),iv M] [] (.tup [.sl 0,bv (eat (stB M) [] (allM f g false)).1]) [(0,⟨1, .arr (aU (eat (stB M) [] (allM f g false)).2)⟩)]:=by
 refine aE (E:=TE) 0 Tryz.func50 rfl (by simp [Tryz.f50]) fun X hn hX=>?_
 have hset:=aDp (O:=[]) hM h (by simp)
 repeat'(first|(refine bH 2 (Imp.closeB 2 1 0 _ _ rfl rfl rfl (by decide)) ?_;simp only [go_sem,simprocAttr])|(refine bH 3 (Imp.openB 2 0 _ _ rfl (Nat.succ_le_succ (Nat.zero_le _)) rfl rfl) ?_;simp only [go_sem,simprocAttr])|(with_reducible first|refine St.f ?_|refine V_c ?_|refine And.intro ?_ ?_|refine aI ?_ ?_)|((refine aQ ?_);intro K hK)|((with_reducible refine So.f ?_);intro K hK;simp(contextual:=true)only [go_sem,simprocAttr])|((with_reducible refine hK _ ?_);clear hK K)|((with_reducible refine aC 106 ?_);refine EvCall.mr (hset) wZ [(4,2),(5,0)] [] ?_)|(refine fun(hc:(_:Bool)=_)=>?_;try simp only [hcS]at hc))
 all_goals try exact om_
 (first|refine aB ?_|refine aA ?_);simp only [go_sem,simprocAttr,Tryz.f50]
end Go.Eng
end
