/- Several texts in one: A02, Z15, A08, P42b. -/
import Derived.Test.YtipohdpnhodnmaaGreatKcfx
import Derived.Test.YtipohdpnhodnmaaGreatRows
import Derived.JoinedOf
import Derived.ProofKit
set_option linter.unusedSimpArgs false
set_option linter.unusedVariables false
set_option maxRecDepth 100000
set_option maxHeartbeats 16000000
section
namespace Go.Eng
open Go Go.Proofs Go.Cats
theorem iO:(Value.slice none 0 0).oneCell'=true:=rfl
attribute [local go_sem] iO
theorem dZ:aF Tryz.prog 44:=⟨_,Tryz.func44,rfl,rfl⟩
theorem fO {f g:SF} {c:Int} (hf:SFB f) (hg:SFB g) (h:SCo f g c):Spec Tryz.prog 44 [.bptr [] (sfD f), .bptr [] (sfD g)] [] (iv c) []:=by
 refine aE (E:=TE) 0 Tryz.func44 rfl (by simp [Tryz.f44]) fun X hn hX=>?_
 have f1:=hf.shape
 have g1:=hg.shape
 rcases h with⟨h6,rfl⟩|⟨h6,h7,rfl⟩|⟨h6,h7,rfl⟩
 ·repeat'(first|refine wkQ ?_|refine Tw.f ?_ ?_|(refine kcQ dY ?_;refine ksQ (a:=dG (by first|omega|assumption|rfl) (by first|omega|assumption|rfl)) (c:=?_))|(refine fun(hc:(_:Bool)=_)=>?_;try simp only [hcS]at hc))
  all_goals try exact om_
  ·(first|refine aB ?_|refine aA ?_);simp only [go_sem,simprocAttr,Tryz.f44]
  all_goals exact absurd (by assumption) h6
 ·repeat'(first|refine wkQ ?_|refine Tw.f ?_ ?_|(refine kcQ dY ?_;refine ksQ (a:=dG (by first|omega|assumption|rfl) (by first|omega|assumption|rfl)) (c:=?_))|(refine kcQ fR ?_;refine krQ (gB (c:=f.shape) (d:=g.shape) ?_ ?_) ?_)|(refine fun(hc:(_:Bool)=_)=>?_;try simp only [hcS]at hc))
  all_goals try exact om_
  all_goals try((first|refine aB ?_|refine aA ?_);simp only [go_sem,simprocAttr,Tryz.f44])
  all_goals first|contradiction|exact absurd (by assumption) h7
 ·repeat'(first|refine wkQ ?_|refine Tw.f ?_ ?_|(refine kcQ dY ?_;refine ksQ (a:=dG (by first|omega|assumption|rfl) (by first|omega|assumption|rfl)) (c:=?_))|(refine kcQ fR ?_;refine krQ (gB (c:=f.shape) (d:=g.shape) ?_ ?_) ?_)|(refine fun(hc:(_:Bool)=_)=>?_;try simp only [hcS]at hc))
  all_goals try exact om_
  all_goals try((first|refine aB ?_|refine aA ?_);simp only [go_sem,simprocAttr,Tryz.f44])
  all_goals contradiction
theorem lL:aF Tryz.prog 47:=⟨_,Tryz.func47,rfl,rfl⟩
theorem oD {f g:SF} {c:Int} (hf:SFB f) (hg:SFB g) (h:LCo f g c):Spec Tryz.prog 47 [sfV f,sfV g] [] (iv c) []:=by
 refine aE (E:=TE) 0 Tryz.func47 rfl (by simp [Tryz.f47]) fun X hn hX=>?_
 have f1:=hf.shape
 have g1:=hg.shape
 rcases h with⟨h6,rfl⟩|⟨h6,h7,rfl⟩|⟨h6,h7,h8,rfl⟩|⟨h6,h7,h8,rfl⟩
 ·repeat'(first|refine wkQ ?_|refine Tw.f ?_ ?_|(refine kcQ dJ ?_;refine krQ (eD (f:=f) ?_) ?_)|(refine kcQ dJ ?_;refine krQ (eD (f:=g) ?_) ?_)|(refine fun(hc:(_:Bool)=_)=>?_;try simp only [hcS]at hc))
  all_goals try exact om_
  all_goals try((first|refine aB ?_|refine aA ?_);simp only [go_sem,simprocAttr,Tryz.f47])
  all_goals exact absurd ⟨by assumption,by assumption⟩ h6
 ·have h61:=h6.1
  have h62:=h6.2
  repeat'(first|refine wkQ ?_|refine Tw.f ?_ ?_|(refine kcQ dJ ?_;refine krQ (eD (f:=f) ?_) ?_)|(refine kcQ dJ ?_;refine krQ (eD (f:=g) ?_) ?_)|(refine kcQ pA ?_;refine krQ (sP (a:=f.shape) (b:=g.shape) ?_ ?_) ?_)|(refine fun(hc:(_:Bool)=_)=>?_;try simp only [hcS]at hc))
  all_goals try exact om_
  all_goals try((first|refine aB ?_|refine aA ?_);simp only [go_sem,simprocAttr,Tryz.f47])
  all_goals first|contradiction|exact absurd h61 (by assumption)|exact absurd h62 (by assumption)
 ·have h61:=h6.1
  have h62:=h6.2
  repeat'(first|refine wkQ ?_|refine Tw.f ?_ ?_|(refine kcQ dJ ?_;refine krQ (eD (f:=f) ?_) ?_)|(refine kcQ dJ ?_;refine krQ (eD (f:=g) ?_) ?_)|(refine kcQ pA ?_;refine krQ (sP (a:=f.shape) (b:=g.shape) ?_ ?_) ?_)|(refine kcQ tB ?_;refine krQ (xH ?_) ?_)|(refine fun(hc:(_:Bool)=_)=>?_;try simp only [hcS]at hc))
  all_goals try exact om_
  all_goals try((first|refine aB ?_|refine aA ?_);simp only [go_sem,simprocAttr,Tryz.f47])
  all_goals first|contradiction|omega|exact absurd h61 (by assumption)|exact absurd h62 (by assumption)
 ·have h61:=h6.1
  have h62:=h6.2
  repeat'(first|refine wkQ ?_|refine Tw.f ?_ ?_|(refine kcQ dJ ?_;refine krQ (eD (f:=f) ?_) ?_)|(refine kcQ dJ ?_;refine krQ (eD (f:=g) ?_) ?_)|(refine kcQ pA ?_;refine krQ (sP (a:=f.shape) (b:=g.shape) ?_ ?_) ?_)|(refine kcQ tB ?_;refine krQ (xH ?_) ?_)|(refine fun(hc:(_:Bool)=_)=>?_;try simp only [hcS]at hc))
  all_goals try exact om_
  all_goals try((first|refine aB ?_|refine aA ?_);simp only [go_sem,simprocAttr,Tryz.f47])
  all_goals first|contradiction|omega|exact absurd h61 (by assumption)|exact absurd h62 (by assumption)
theorem aFV:dD []=[]:=rfl
attribute [go_sem] aFV
theorem aDS:aF Tryz.prog 112:=⟨_,Tryz.func112,rfl,rfl⟩
theorem aGe {f:SF} (h:IsSF f):Spec Tryz.prog 112 [sfV f] [] (.sl 0) [(0,⟨1, .arr (aD (dD f.sizes))⟩)]:=by
 refine aE (E:=TE) 0 Tryz.func112 rfl (by simp [Tryz.f112]) fun X hn hX=>?_
 have h1:=h.szl
 have h2:=h.cat.ob8
 repeat'(first|refine wkQ ?_|refine Tw.f ?_ ?_|(refine fun(hc:(_:Bool)=_)=>?_;try simp only [hcS]at hc))
 all_goals try exact om_
 refine aH (G:={x:Nat//x≤f.sizes.length∧(True)}) (fun⟨x,_⟩=>[(4,iv x),(3, .sl 1)]) [1,2] (fun⟨x,_⟩=>[(1,⟨1, .arr (aD (dD (f.sizes.take x)))⟩)]) [1] (fun zz=>f.sizes.length-zz.1) ⟨0,Nat.zero_le _,by first|trivial|simp⟩ ?_ ?_
 ·exact Imp.au hX
 rintro⟨x,hix,hwx⟩
 simp only [go_sem,simprocAttr]
 have h3:=h.szw x
 have h4:=qM (f.sizes.take x)
 repeat'(first|refine wkQ ?_|refine Tw.f ?_ ?_|(refine fun(hc:(_:Bool)=_)=>?_;try simp only [hcS]at hc))
 all_goals try exact om_
 ·refine aH (G:={e:Nat//e≤(f.sizes.getD x 0).toNat∧(True)}) (fun⟨e,_⟩=>[(6,iv e),(3, .sl 1),(5, .sl 2)]) [1,2,4] (fun⟨e,_⟩=>[(1,⟨1, .arr (aD (dD (f.sizes.take x)))⟩),(2,⟨1, .arr (ints (List.replicate e (-1)))⟩)]) [1,2] (fun zz=>(f.sizes.getD x 0).toNat-zz.1) ⟨0,Nat.zero_le _,by first|trivial|simp⟩ ?_ ?_
  ·exact Imp.au hX
  rintro⟨e,hie,hwe⟩
  simp only [go_sem,simprocAttr]
  have h5:=List.length_take_le x f.sizes
  repeat'(first|refine wkQ ?_|refine Tw.f ?_ ?_|(refine fun(hc:(_:Bool)=_)=>?_;try simp only [hcS]at hc))
  all_goals try exact om_
  ·refine⟨⟨e+1,by omega,(by trivial)⟩,by simp only;omega,Imp.auto hX (by simp only [go_sem,simprocAttr,aK1])⟩
  ·refine⟨⟨x+1,by omega,(by trivial)⟩,by simp only;omega,Imp.auto hX (by simp only [go_sem,simprocAttr,sD (show x<f.sizes.length by omega),show e=(f.sizes.getD x 0).toNat by omega])⟩
 ·(first|refine aB ?_|refine aA ?_);simp only [go_sem,simprocAttr,Tryz.f112]
  rw [List.take_of_length_le (by omega)]
end Go.Eng
end
section
namespace Go.Eng
open Go Go.Proofs Go.Cats
attribute [local go_sem] List.set_cons_zero List.set_cons_succ
structure CodeOk (l:List Int):Prop where
 len:l.length≤4096
 b:∀i,i<l.length→0≤l.getD i 0∧l.getD i 0<256
theorem CodeOk.src {l:List Int} (h:CodeOk l):RnOk (from_ l):=aMw h.len h.b
end Go.Eng
end
section
namespace Go.Eng
open Go Go.Proofs Go.Cats
theorem aRS (o q):(stA o q).1=false:=rfl
theorem aRT (o q):(stA o q).2=q:=rfl
theorem aRU (M o q):(stB M o q).1=decide (o.length+1≤M):=rfl
theorem aRV (M o q):(stB M o q).2=o++[q]:=rfl
attribute [local go_sem] List.set_cons_zero aRS aRT aRU aRV
theorem fC:aF Tryz.prog 236:=⟨_,Tryz.func236,rfl,rfl⟩
theorem fB:aF Tryz.prog 184:=⟨_,Tryz.func184,rfl,rfl⟩
theorem aCI:aF Tryz.prog 107:=⟨_,Tryz.func107,rfl,rfl⟩
theorem aE2 {q O:List (List Int)} (hl:q.length≤1048576) (hr:∀i,i<q.length→(q.getD i []).length≤1048576):Spec Tryz.prog 107 [.bor [] (aD q), .ptr 0 0] [(0,⟨1, .bx [.dead] 0 (aD O)⟩)] (bv (stA O q).1) [(0,⟨1, .bx [.dead] 0 (aD (stA O q).2)⟩)]:=by
 refine aE (E:=TE) 1 Tryz.func107 rfl (by simp [Tryz.f107]) fun X hn hX=>?_
 repeat'(first|(refine bH 1 (Imp.openB 0 0 _ _ rfl (Nat.le_refl 1) rfl rfl) ?_;simp only [List.set_cons_zero])|(refine bH 2 (Imp.closeB 0 2 0 _ _ rfl rfl rfl (by decide)) ?_;simp only [List.set_cons_zero])|(with_reducible first|refine St.f ?_|refine V_c ?_|refine And.intro ?_ ?_|refine aI ?_ ?_)|((refine aQ ?_);intro K hK)|((with_reducible refine So.f ?_);intro K hK;simp(contextual:=true)only [go_sem,simprocAttr])|((with_reducible refine hK _ ?_);clear hK K)|((with_reducible refine aC 108 ?_);refine EvCall.rr (mY ?_ ?_) kJ ?_)|(refine fun(hc:(_:Bool)=_)=>?_;try simp only [hcS]at hc))
 all_goals try exact om_
 (first|refine aB ?_|refine aA ?_);simp only [go_sem,simprocAttr,Tryz.f107]
theorem vD:aF Tryz.prog 113:=⟨_,Tryz.func113,rfl,rfl⟩
theorem xT {q:List (List Int)} {O:List (List (List Int))} {M:Nat} (hM:M≤4096) (hO:O.length≤M) (hl:q.length≤1048576) (hr:∀i,i<q.length→(q.getD i []).length≤1048576):Spec Tryz.prog 113 [.bor [] (aD q), .ptr 0 0, .ptr 1 0] [(0,⟨1, .bx [.dead] 0 (aU O)⟩),(1,⟨1, .box [iv M]⟩)] (bv (stB M O q).1) [(0,⟨1, .bx [.dead] 0 (aU (stB M O q).2)⟩),(1,⟨1, .box [iv M]⟩)]:=by
 refine aE (E:=TE) 2 Tryz.func113 rfl (by simp [Tryz.f113]) fun X hn hX=>?_
 refine aI1 ?_
 repeat'(first|(refine bH 1 (Imp.openB 0 0 _ _ rfl (Nat.le_refl 1) rfl rfl) ?_;simp only [List.set_cons_zero])|(with_reducible first|refine St.f ?_|refine V_c ?_|refine eDn ?_|refine And.intro ?_ ?_|refine aI ?_ ?_)|((refine aQ ?_);intro K hK)|((with_reducible refine So.f ?_);intro K hK;simp(contextual:=true)only [go_sem,simprocAttr])|((with_reducible refine hK _ ?_);clear hK K)|((with_reducible refine aC 108 ?_);refine EvCall.rr (mY ?_ ?_) kJ ?_)|(refine fun(hc:(_:Bool)=_)=>?_;try simp only [hcS]at hc))
 all_goals try exact om_
 refine tI (Imp.closeB 0 5 0 _ _ rfl rfl rfl (by decide)) ?_
 (first|refine aB ?_|refine aA ?_);simp only [go_sem,simprocAttr,Tryz.f113]
 rw [show decide ((O.length:Int)+1≤(M:Int))=decide (O.length+1≤M) from by rw [decide_eq_decide];omega]
end Go.Eng
end
section
namespace Go.Proofs.YtipohdpnhodnmaaGreat
open Go Go.Eng Go.Cats Go.ChangeShapes Go.WideShapes Go.RowKit
theorem aHO:joinedFacts Tryz.pinned.checked.prog 3 Tryz.f3 Rows.fnAllSetMapsSpec Rows.fnAllSetMapsRow=true:=by
 unfold joinedFacts
 simp only [Bool.and_eq_true]
 repeat' with_reducible apply And.intro
 all_goals(as_aux_lemma=>kernel_rfl)
end Go.Proofs.YtipohdpnhodnmaaGreat
end
