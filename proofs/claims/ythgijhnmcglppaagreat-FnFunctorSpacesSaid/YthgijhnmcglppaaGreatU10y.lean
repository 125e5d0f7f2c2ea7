/- Several texts in one: U10, J04. -/
import Derived.Test.YthgijhnmcglppaaGreatL06y
set_option linter.unusedSimpArgs false
set_option linter.unusedVariables false
set_option maxRecDepth 100000
set_option maxHeartbeats 16000000
section
namespace Go.Eng
open Go Go.Proofs Go.Cats
attribute [local go_sem] List.set_cons_zero List.set_cons_succ
def AfO (c d:Cat) (r:Sv) (L1:List (Nat×Rs)):Prop:=
 ((sX c d∧(fcL c d).length≤200)∧r= .tup [.sl 0,iv 0]∧L1=[(0,⟨1, .arr (aS (fcL c d))⟩)])∨(¬(sX c d∧(fcL c d).length≤200)∧r= .tup [.v (.slice none 0 0),iv 3]∧L1=[])
theorem zY:aE Tryz.prog 68:=⟨_,Tryz.func68,rfl,rfl⟩
theorem yJ {c d:Cat} {r:Sv} {L1:List (Nat×Rs)} (sc:IsCat c) (sd:IsCat d) (bc:CatB c) (bd:CatB d) (ho:AfO c d r L1):Spec Tryz.prog 68 [bK c,bK d] [] r L1:=by
 have hmo:=aBV bc bd sc.toShape sd.toShape
 have hall:=rN (b:=false) (M:=200) sc sd bc bd (by decide)
 rw [aCT (M:=200) _ _ (Nat.zero_le _),List.nil_append,show dU c d false c.ob.toNat []=fcL c d from rfl]at hall
 have ar:=bA bc bd
 rw [bH (And.intro sc sd)]at ar
 by_cases hM:sX c d
 ·rw [bH hM]at hmo
  by_cases hL:(fcL c d).length≤200
  ·rw [decide_eq_true hL,List.take_of_length_le (by omega)]at hall
   rcases ho with⟨_,rfl,rfl⟩|⟨ho,_,_⟩
   ·refine aD (E:=TE) 0 Tryz.func68 rfl (by simp [Tryz.f68]) fun X hn hX=>?_
    repeat'(first|(refine bU 1 (Imp.trans (Imp.lendCat 2 0 1 c rfl rfl (Nat.le_refl 1)) (Imp.lendCat 3 1 1 d rfl rfl (Nat.le_refl 1))) ?_;simp only [go_sem,simprocAttr])|(with_reducible first|refine St.f ?_|refine V_c ?_|refine And.intro ?_ ?_|refine aH ?_ ?_)|((refine aN ?_);intro K hK)|((with_reducible refine So.f ?_);intro K hK;simp(contextual:=true)only [go_sem,simprocAttr])|((with_reducible refine hK _ ?_);clear hK K)|((with_reducible refine aC 78 ?_);refine EvCall.mr (ar) bB [] [2,0,1] ?_)|((with_reducible refine aC 162 ?_);refine EvCall.mr (hmo) iH [] [0,1] ?_)|((with_reducible refine aC 163 ?_);refine EvCall.mr (hall) gT [(0,3)] [0,1] ?_)|(refine fun(hc:(_:Bool)=_)=>?_;try simp only [hcS]at hc))
    all_goals try exact om_
    all_goals((first|refine aB ?_|refine aA ?_);simp only [go_sem,simprocAttr,Tryz.f68])
   ·exact absurd ⟨hM,hL⟩ ho
  ·rw [decide_eq_false hL]at hall
   rcases ho with⟨ho,_,_⟩|⟨_,rfl,rfl⟩
   ·exact absurd ho.2 hL
   ·refine aD (E:=TE) 0 Tryz.func68 rfl (by simp [Tryz.f68]) fun X hn hX=>?_
    repeat'(first|(refine bU 1 (Imp.trans (Imp.lendCat 2 0 1 c rfl rfl (Nat.le_refl 1)) (Imp.lendCat 3 1 1 d rfl rfl (Nat.le_refl 1))) ?_;simp only [go_sem,simprocAttr])|(with_reducible first|refine St.f ?_|refine V_c ?_|refine And.intro ?_ ?_|refine aH ?_ ?_)|((refine aN ?_);intro K hK)|((with_reducible refine So.f ?_);intro K hK;simp(contextual:=true)only [go_sem,simprocAttr])|((with_reducible refine hK _ ?_);clear hK K)|((with_reducible refine aC 78 ?_);refine EvCall.mr (ar) bB [] [2,0,1] ?_)|((with_reducible refine aC 162 ?_);refine EvCall.mr (hmo) iH [] [0,1] ?_)|((with_reducible refine aC 163 ?_);refine EvCall.mr (hall) gT [(0,3)] [0,1] ?_)|(refine fun(hc:(_:Bool)=_)=>?_;try simp only [hcS]at hc))
    all_goals try exact om_
    all_goals((first|refine aB ?_|refine aA ?_);simp only [go_sem,simprocAttr,Tryz.f68])
 ·rw [eD hM]at hmo
  rcases ho with⟨ho,_,_⟩|⟨_,rfl,rfl⟩
  ·exact absurd ho.1 hM
  ·refine aD (E:=TE) 0 Tryz.func68 rfl (by simp [Tryz.f68]) fun X hn hX=>?_
   repeat'(first|(refine bU 1 (Imp.trans (Imp.lendCat 2 0 1 c rfl rfl (Nat.le_refl 1)) (Imp.lendCat 3 1 1 d rfl rfl (Nat.le_refl 1))) ?_;simp only [go_sem,simprocAttr])|(with_reducible first|refine St.f ?_|refine V_c ?_|refine And.intro ?_ ?_|refine aH ?_ ?_)|((refine aN ?_);intro K hK)|((with_reducible refine So.f ?_);intro K hK;simp(contextual:=true)only [go_sem,simprocAttr])|((with_reducible refine hK _ ?_);clear hK K)|((with_reducible refine aC 78 ?_);refine EvCall.mr (ar) bB [] [2,0,1] ?_)|((with_reducible refine aC 162 ?_);refine EvCall.mr (hmo) iH [] [0,1] ?_)|(refine fun(hc:(_:Bool)=_)=>?_;try simp only [hcS]at hc))
   all_goals try exact om_
   all_goals((first|refine aB ?_|refine aA ?_);simp only [go_sem,simprocAttr,Tryz.f68])
end Go.Eng
end
section
namespace Go.Eng
open Go Go.Proofs Go.Cats
attribute [local go_sem] List.set_cons_zero List.set_cons_succ
theorem vH:aE Tryz.prog 31:=⟨_,Tryz.func31,rfl,rfl⟩
theorem rK {c d:Cat} (sc:IsCat c) (sd:IsCat d) (bc:CatB c) (bd:CatB d) (h:sX c d∧(fcL c d).length≤200):Spec Tryz.prog 31 [bK c,bK d] [] (.tup [iv (fcL c d).length,iv 0]) []:=by
 refine aD (E:=TE) 0 Tryz.func31 rfl (by simp [Tryz.f31]) fun X hn hX=>?_
 have hA:=yJ sc sd bc bd (.inl ⟨h,rfl,rfl⟩)
 have h2:=h.2
 repeat'(first|refine wkQ ?_|refine Tw.f ?_ ?_|(refine kcQ zY ?_;refine kwQ (hA) [(0,2)] [] ?_)|(refine fun(hc:(_:Bool)=_)=>?_;try simp only [hcS]at hc))
 all_goals try exact om_
 (first|refine aB ?_|refine aA ?_);simp only [go_sem,simprocAttr,Tryz.f31]
theorem xW:aE Tryz.prog 108:=⟨_,Tryz.func108,rfl,rfl⟩
theorem tG {f g:Fun} (h:Par f g) (hf:IsFun f) (hg:IsFun g) (bf:FunB f) (bg:FunB g):Spec Tryz.prog 108 [.bptr [] (dX f), .bptr [] (dX g)] [] (iv 0) []:=by
 refine aD (E:=TE) 0 Tryz.func108 rfl (by simp [Tryz.f108]) fun X hn hX=>?_
 have hA:=lN bf bg
 rw [bH (And.intro hf hg)]at hA
 have hP:=nW bf bg h.es h.et
 repeat'(first|refine wkQ ?_|refine Tw.f ?_ ?_|(refine kcQ pQ ?_;refine kwQ (hA) [] [0] ?_)|(refine kcQ qL ?_;refine kwQ (hP) [] [] ?_)|(refine fun(hc:(_:Bool)=_)=>?_;try simp only [hcS]at hc))
 all_goals try exact om_
 (first|refine aB ?_|refine aA ?_);simp only [go_sem,simprocAttr,Tryz.f108]
theorem oF:aE Tryz.prog 35:=⟨_,Tryz.func35,rfl,rfl⟩
theorem lX {f g:Fun} (h:Par f g) (hf:IsFun f) (hg:IsFun g) (bf:FunB f) (bg:FunB g) (hl:(gQ f g).length≤200):Spec Tryz.prog 35 [qS f,qS g] [] (.tup [.sl 0,iv 0]) [(0,⟨1, .arr (aF (gQ f g))⟩)]:=by
 refine aD (E:=TE) 0 Tryz.func35 rfl (by simp [Tryz.f35]) fun X hn hX=>?_
 have hP:=tG h hf hg bf bg
 have hN:=tN (M:=200) h (by decide)
 rw [aCT (M:=200) _ _ (Nat.zero_le _),List.nil_append,decide_eq_true hl,List.take_of_length_le (by omega)]at hN
 repeat'(first|(refine bU 1 (Imp.trans (Imp.lendFn 2 0 1 f rfl rfl (Nat.le_refl 1)) (Imp.lendFn 3 1 1 g rfl rfl (Nat.le_refl 1))) ?_;simp only [go_sem,simprocAttr])|(with_reducible first|refine St.f ?_|refine V_c ?_|refine And.intro ?_ ?_|refine aH ?_ ?_)|((refine aN ?_);intro K hK)|((with_reducible refine So.f ?_);intro K hK;simp(contextual:=true)only [go_sem,simprocAttr])|((with_reducible refine hK _ ?_);clear hK K)|((with_reducible refine aC 108 ?_);refine EvCall.mr (hP) xW [] [0,1] ?_)|((with_reducible refine aC 109 ?_);refine EvCall.mr (hN) kX [(0,2)] [0,1] ?_)|(refine fun(hc:(_:Bool)=_)=>?_;try simp only [hcS]at hc))
 all_goals try exact om_
 (first|refine aB ?_|refine aA ?_);simp only [go_sem,simprocAttr,Tryz.f35]
end Go.Eng
end
