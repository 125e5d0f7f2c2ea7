/- The law FnUniversalElements: its body. -/
import Derived.Test.YtipohdpnhodnmaaGreatE24y
set_option linter.unusedSimpArgs false
set_option linter.unusedVariables false
set_option maxRecDepth 100000
set_option maxHeartbeats 32000000
namespace Go.Eng
open Go Go.Proofs Go.Cats
attribute [local go_sem] List.set_cons_zero List.set_cons_succ List.take_succ_cons List.take_zero
theorem aSa {f:SF} {x e:Int} (s:IsSF f) (hu:kW f x e):(f.eMap x e).src.sizes=(f.eMap x e).tgt.sizes:=by
 have szl:=s.szl
 have o0:=s.cat.toShape.ob0
 show(f.shape.rep x).sizes=f.sizes
 refine List.ext_getElem (by rw [sL];omega) fun i h1 h2=>?_
 have hi:i<f.shape.ob.toNat:=by rw [sL]at h1;exact h1
 have e1:=zJ (c:=f.shape) (x:=x) hi
 have e2:=(hu i hi).len
 have e3:=s.szw i h2
 rw [SF.eParts_row _ _ _ _ _ hi]at e2
 rw [List.getD_eq_getElem?_getD,List.getElem?_eq_getElem h1]at e1
 rw [List.getD_eq_getElem?_getD,List.getElem?_eq_getElem h2]at e2 e3
 simp only [Option.getD_some]at e1 e2 e3
 omega
theorem zQ {f:SF} {x e:Int} (s:IsSF f) (hu:kW f x e):f.shape.small x:=fun y hy=>by
 have hi:y<f.shape.ob.toNat:=by omega
 have e2:=(hu y hi).len
 have szl:=s.szl
 have e3:=s.szw y (by omega)
 rw [SF.eParts_row _ _ _ _ _ hi]at e2
 omega
theorem aEv {f:SF} {x e:Int} (s:IsSF f) (h:f.Elem x e) (hu:kW f x e):IsoM (f.eMap x e):=by
 refine⟨SF.eMap_nat s h (zQ s hu),aSa s hu,fun y hy=>?_⟩
 have hy:y<(f.eParts x e f.shape.ob.toNat).length:=hy
 rw [SF.eParts_len]at hy
 exact hu y hy
theorem dZ:aF Tryz.prog 18:=⟨_,Tryz.func18,rfl,rfl⟩
theorem cQ:aF Tryz.prog 19:=⟨_,Tryz.func19,rfl,rfl⟩
def aNo (f:SF) (U:List (List Int)) (code:Int):Prop:=(IsSF f∧U=rK f∧code=0)∨(¬IsSF f∧U=[]∧code=1)
theorem fZ {f:SF} {U:List (List Int)} {code:Int} (hb:SFB f) (h:aNo f U code):Spec Tryz.prog 18 [sfV f] [] (.tup [.sl 0,iv code]) [(0,⟨1, .arr (aC U)⟩)]:=by
 rcases h with⟨s,rfl,rfl⟩|⟨s,rfl,rfl⟩
 ·exact lU s hb
 ·exact aFT (mM s hb)
theorem dW {f:SF} {U:List (List Int)} {code:Int} (hb:SFB f) (h:aNo f U code):Spec Tryz.prog 19 [sfV f] [] (.tup [.sl 0,iv code]) [(0,⟨1, .arr (aC U)⟩)]:=by
 rcases h with⟨s,rfl,rfl⟩|⟨s,rfl,rfl⟩
 ·exact jB s hb
 ·exact aFT (jE s hb)
theorem nF {l:List Int} (hl:(l.length:Int)≤9223372036854775807) (hb:∀i,i<l.length→0≤l.getD i 0∧l.getD i 0<256):Spec Tryz.prog 4 [.bor [] (bys l)] [] (bv true) []:=by
 refine aD (E:=TE) 0 Tryz.func4 rfl (by simp [Tryz.f4]) fun X hn hX=>?_
 by_cases h4:4096<l.length
 ·repeat'(first|(with_reducible first|refine St.f ?_|refine V_c ?_|refine eDn ?_|refine And.intro ?_ ?_|refine aI ?_ ?_|refine aN ?_)|((refine aQ ?_);intro K hK)|((with_reducible refine So.f ?_);intro K hK;simp(contextual:=true)only [go_sem,simprocAttr])|((with_reducible refine hK _ ?_);clear hK K)|((with_reducible refine aE 7 ?_);refine EvCall.rr (aK1 (l:=l) ?_) aFZ ?_)|(refine fun(hc:(_:Bool)=_)=>?_;try simp only [hcS]at hc))
  all_goals try exact om_
  all_goals try(exfalso;omega)
  (first|refine aB ?_|refine aA ?_);simp only [go_sem,simprocAttr,Tryz.f4]
 ·have hk:CodeOk l:=⟨by omega,hb⟩
  have hD:=gV hk
  repeat'(first|(refine kC hD iA [(0,0),(1,1),(2,2),(3,3),(4,4),(5,5)] [] (by simp only [go_sem,simprocAttr];rfl) (by simp [go_sem]) (by simp [go_sem]<;>(repeat'(first|rfl|constructor))) ?_;intro z hz;simp only [go_sem,simprocAttr])|((with_reducible refine(id ?_:V _ _ (Code.region 3 _ _) _ _));refine gY 3 (by rw [hn];rfl) ?_;intro K hK)|((with_reducible refine iW ?_);intro K hK;simp(contextual:=true)only [go_sem,simprocAttr])|(with_reducible refine eZ ?_)|(with_reducible first|refine St.f ?_|refine V_c ?_|refine eDn ?_|refine And.intro ?_ ?_|refine aI ?_ ?_|refine aN ?_)|((refine aQ ?_);intro K hK)|((with_reducible refine So.f ?_);intro K hK;simp(contextual:=true)only [go_sem,simprocAttr])|((with_reducible refine hK _ ?_);clear hK K)|((with_reducible refine aE 7 ?_);refine EvCall.rr (aK1 (l:=l) ?_) aFZ ?_)|(refine fun(hc:(_:Bool)=_)=>?_;try simp only [hcS]at hc))
  all_goals try exact om_
  all_goals try(exfalso;omega)
  by_cases s:IsSF z
  ·have sp_UniversalElements_loc:=fZ hz (.inl ⟨s,rfl,rfl⟩)
   have sp_spec_UniversalElements_loc:=dW hz (.inl ⟨s,rfl,rfl⟩)
   obtain⟨U,hU⟩:∃U,rK z=U:=⟨_,rfl⟩
   have hUm:∀i,i<U.length→z.Elem ((U.getD i []).getD 0 0) ((U.getD i []).getD 1 0)∧U.getD i []=[(U.getD i []).getD 0 0,(U.getD i []).getD 1 0]∧kW z ((U.getD i []).getD 0 0) ((U.getD i []).getD 1 0):=fun i hi=>by
    have hm:U.getD i []∈rK z:=by rw [hU];exact aT hi
    obtain⟨m1,m2⟩:=List.mem_filter.1 hm
    have:=s.elem_of m1
    exact⟨this.1,this.2,@of_decide_eq_true _ (Classical.propDecidable _) m2⟩
   have hUl:U.length≤128:=by
    rw [←hU]
    have h1:=aEu (f:=z) (elO z).length
    rw [aBS]at h1
    have h2:=wQ s (n:=z.sizes.length) (Nat.le_refl _)
    have h3:=s.szl
    have h4:=s.cat.toShape.ob8
    exact Nat.le_trans h1 (Nat.le_trans h2 (by omega))
   have hU2:∀i,i<U.length→(U.getD i []).length≤1048576:=fun i hi=>by rw [(hUm i hi).2.1];simp
   rw [hU]at sp_UniversalElements_loc sp_spec_UniversalElements_loc
   by_cases hy:ElY z
   ·have hT:=aNg s hy.1 hy.2
    rw [hU]at hT
    have hTl:=hT.1
    have sp_ElementsCategory_loc:=nT s hz hy
    have hKc:=aF8 s hy.1 hy.2
    have hKb:=xI hKc.toShape
    have sp_InitialObjects_loc:=sS hKc hKb
    repeat'(first|(with_reducible first|refine St.f ?_|refine V_c ?_|refine eDn ?_|refine And.intro ?_ ?_|refine aI ?_ ?_|refine aN ?_)|((refine aQ ?_);intro K hK)|((with_reducible refine So.f ?_);intro K hK;simp(contextual:=true)only [go_sem,simprocAttr])|((with_reducible refine hK _ ?_);clear hK K)|((with_reducible refine aE 18 ?_);refine EvCall.rr (sp_UniversalElements_loc) dZ ?_)|((with_reducible refine aE 19 ?_);refine EvCall.rr (sp_spec_UniversalElements_loc) cQ ?_)|((with_reducible refine aE 11 ?_);refine EvCall.rr (uG (a:=U) (b:=U) ?_ ?_ ?_ ?_) qM ?_)|((with_reducible refine aE 20 ?_);refine EvCall.rr (sp_ElementsCategory_loc) iV ?_)|((with_reducible refine aE 21 ?_);refine EvCall.rr (sp_InitialObjects_loc) qH ?_)|(refine fun(hc:(_:Bool)=_)=>?_;try simp only [hcS]at hc))
    all_goals try exact om_
    refine aG (G:={i:Nat//i≤U.length∧(True)}) (fun⟨i,_⟩=>[(14,iv i),(4, .sl 7),(6, .sl 8),(8, .ptr 15 0),(9, .sl 13),(10, .sl 14),(12, .sl 16),(3, .ptr 6 0)]) [] (fun⟨i,_⟩=>[]) [] (fun zz=>U.length-zz.1) ⟨0,Nat.zero_le _,by first|trivial|simp⟩ ?_ ?_
    ·exact Imp.au hX
    rintro⟨i,hii,hwi⟩
    simp only [go_sem,simprocAttr]
    rcases Nat.lt_or_ge i U.length with hi|hi
    ·obtain⟨k,k1,k2,k3⟩:=hT.2 i hi
     have hOl:(elO z).length≤8:=hy.1
     have hI1:=vL (a:=(elO z).getD k []) (b:=U.getD i []) (by rw [k3];exact hU2 i hi) (hU2 i hi)
     repeat'(first|(rw [k1])|(with_reducible first|refine St.f ?_|refine V_c ?_|refine eDn ?_|refine And.intro ?_ ?_|refine aI ?_ ?_|refine aN ?_)|((refine aQ ?_);intro K hK)|((with_reducible refine So.f ?_);intro K hK;simp(contextual:=true)only [go_sem,simprocAttr])|((with_reducible refine hK _ ?_);clear hK K)|((with_reducible refine aE 22 ?_);refine EvCall.mr (hI1) rS [] [13,7] ?_)|(refine fun(hc:(_:Bool)=_)=>?_;try simp only [hcS]at hc))
     all_goals try exact om_
     all_goals try(exfalso;omega)
     all_goals try exact absurd k3 (by assumption)
     refine⟨⟨i+1,by omega,(by trivial)⟩,by simp only;omega,Imp.ao hX⟩
    ·obtain rfl:i=U.length:=by omega
     repeat'(first|(with_reducible first|refine St.f ?_|refine V_c ?_|refine eDn ?_|refine And.intro ?_ ?_|refine aI ?_ ?_|refine aN ?_)|((refine aQ ?_);intro K hK)|((with_reducible refine So.f ?_);intro K hK;simp(contextual:=true)only [go_sem,simprocAttr])|((with_reducible refine hK _ ?_);clear hK K)|(refine fun(hc:(_:Bool)=_)=>?_;try simp only [hcS]at hc))
     all_goals try exact om_
     refine aG (G:={i:Nat//i≤U.length∧(True)}) (fun⟨i,_⟩=>[(15,iv i),(4, .sl 7),(6, .sl 8),(8, .ptr 15 0),(9, .sl 13),(10, .sl 14),(12, .sl 16),(3, .ptr 6 0)]) [] (fun⟨i,_⟩=>[]) [] (fun zz=>U.length-zz.1) ⟨0,Nat.zero_le _,by first|trivial|simp⟩ ?_ ?_
     ·exact Imp.au hX
     rintro⟨i,hii,hwi⟩
     simp only [go_sem,simprocAttr]
     rcases Nat.lt_or_ge i U.length with hi|hi
     ·obtain⟨hel,hp2,hun⟩:=hUm i hi
      have hp3:(U.getD i []).length=2:=by rw [hp2];rfl
      have sp_ElementMap_lo2:=lK s hz hel (zQ s hun)
      have hiso:=aEv s hel hun
      have bm:=SF.eMap_smb s.cat.toShape hz ((U.getD i []).getD 0 0) ((U.getD i []).getD 1 0)
      have sp_InverseSetMap_lo2:=jA hiso bm
      repeat'(first|(with_reducible first|refine St.f ?_|refine V_c ?_|refine eDn ?_|refine And.intro ?_ ?_|refine aI ?_ ?_|refine aN ?_)|((refine aQ ?_);intro K hK)|((with_reducible refine So.f ?_);intro K hK;simp(contextual:=true)only [go_sem,simprocAttr])|((with_reducible refine hK _ ?_);clear hK K)|((with_reducible refine aE 23 ?_);refine EvCall.rr (sp_ElementMap_lo2) nZ ?_)|((with_reducible refine aE 13 ?_);refine EvCall.rr (sp_InverseSetMap_lo2) kZ ?_)|(refine fun(hc:(_:Bool)=_)=>?_;try simp only [hcS]at hc))
      all_goals try exact om_
      refine⟨⟨i+1,by omega,(by trivial)⟩,by simp only;omega,Imp.ao hX⟩
     ·obtain rfl:i=U.length:=by omega
      repeat'(first|(with_reducible first|refine St.f ?_|refine V_c ?_|refine eDn ?_|refine And.intro ?_ ?_|refine aI ?_ ?_|refine aN ?_)|((refine aQ ?_);intro K hK)|((with_reducible refine So.f ?_);intro K hK;simp(contextual:=true)only [go_sem,simprocAttr])|((with_reducible refine hK _ ?_);clear hK K)|(refine fun(hc:(_:Bool)=_)=>?_;try simp only [hcS]at hc))
      all_goals try exact om_
      (first|refine aB ?_|refine aA ?_);simp only [go_sem,simprocAttr,Tryz.f4]
   ·have sp_ElementsCategory_loc:=nS s hz hy
    repeat'(first|(with_reducible first|refine St.f ?_|refine V_c ?_|refine eDn ?_|refine And.intro ?_ ?_|refine aI ?_ ?_|refine aN ?_)|((refine aQ ?_);intro K hK)|((with_reducible refine So.f ?_);intro K hK;simp(contextual:=true)only [go_sem,simprocAttr])|((with_reducible refine hK _ ?_);clear hK K)|((with_reducible refine aE 18 ?_);refine EvCall.rr (sp_UniversalElements_loc) dZ ?_)|((with_reducible refine aE 19 ?_);refine EvCall.rr (sp_spec_UniversalElements_loc) cQ ?_)|((with_reducible refine aE 11 ?_);refine EvCall.rr (uG (a:=U) (b:=U) ?_ ?_ ?_ ?_) qM ?_)|((with_reducible refine aE 20 ?_);refine EvCall.rr (sp_ElementsCategory_loc) iV ?_)|(refine fun(hc:(_:Bool)=_)=>?_;try simp only [hcS]at hc))
    all_goals try exact om_
    refine aG (G:={i:Nat//i≤U.length∧(True)}) (fun⟨i,_⟩=>[(15,iv i),(4, .sl 7),(6, .sl 8),(8, .ptr 9 0),(3, .ptr 6 0)]) [] (fun⟨i,_⟩=>[]) [] (fun zz=>U.length-zz.1) ⟨0,Nat.zero_le _,by first|trivial|simp⟩ ?_ ?_
    ·exact Imp.au hX
    rintro⟨i,hii,hwi⟩
    simp only [go_sem,simprocAttr]
    rcases Nat.lt_or_ge i U.length with hi|hi
    ·obtain⟨hel,hp2,hun⟩:=hUm i hi
     have hp3:(U.getD i []).length=2:=by rw [hp2];rfl
     have sp_ElementMap_lo2:=lK s hz hel (zQ s hun)
     have hiso:=aEv s hel hun
     have bm:=SF.eMap_smb s.cat.toShape hz ((U.getD i []).getD 0 0) ((U.getD i []).getD 1 0)
     have sp_InverseSetMap_lo2:=jA hiso bm
     repeat'(first|(with_reducible first|refine St.f ?_|refine V_c ?_|refine eDn ?_|refine And.intro ?_ ?_|refine aI ?_ ?_|refine aN ?_)|((refine aQ ?_);intro K hK)|((with_reducible refine So.f ?_);intro K hK;simp(contextual:=true)only [go_sem,simprocAttr])|((with_reducible refine hK _ ?_);clear hK K)|((with_reducible refine aE 23 ?_);refine EvCall.rr (sp_ElementMap_lo2) nZ ?_)|((with_reducible refine aE 13 ?_);refine EvCall.rr (sp_InverseSetMap_lo2) kZ ?_)|(refine fun(hc:(_:Bool)=_)=>?_;try simp only [hcS]at hc))
     all_goals try exact om_
     refine⟨⟨i+1,by omega,(by trivial)⟩,by simp only;omega,Imp.ao hX⟩
    ·obtain rfl:i=U.length:=by omega
     repeat'(first|(with_reducible first|refine St.f ?_|refine V_c ?_|refine eDn ?_|refine And.intro ?_ ?_|refine aI ?_ ?_|refine aN ?_)|((refine aQ ?_);intro K hK)|((with_reducible refine So.f ?_);intro K hK;simp(contextual:=true)only [go_sem,simprocAttr])|((with_reducible refine hK _ ?_);clear hK K)|(refine fun(hc:(_:Bool)=_)=>?_;try simp only [hcS]at hc))
     all_goals try exact om_
     (first|refine aB ?_|refine aA ?_);simp only [go_sem,simprocAttr,Tryz.f4]
  ·have sp_UniversalElements_loc:=fZ hz (.inr ⟨s,rfl,rfl⟩)
   have sp_spec_UniversalElements_loc:=dW hz (.inr ⟨s,rfl,rfl⟩)
   repeat'(first|(with_reducible first|refine St.f ?_|refine V_c ?_|refine eDn ?_|refine And.intro ?_ ?_|refine aI ?_ ?_|refine aN ?_)|((refine aQ ?_);intro K hK)|((with_reducible refine So.f ?_);intro K hK;simp(contextual:=true)only [go_sem,simprocAttr])|((with_reducible refine hK _ ?_);clear hK K)|((with_reducible refine aE 18 ?_);refine EvCall.rr (sp_UniversalElements_loc) dZ ?_)|((with_reducible refine aE 19 ?_);refine EvCall.rr (sp_spec_UniversalElements_loc) cQ ?_)|((with_reducible refine aE 11 ?_);refine EvCall.rr (uG (a:=[]) (b:=[]) ?_ ?_ ?_ ?_) qM ?_)|(refine fun(hc:(_:Bool)=_)=>?_;try simp only [hcS]at hc))
   all_goals try exact om_
   all_goals try exact fun i hi=>absurd hi (Nat.not_lt_zero i)
   (first|refine aB ?_|refine aA ?_);simp only [go_sem,simprocAttr,Tryz.f4]
   exact congrArg (fun b=>Sv.v (.bool b)) (decide_eq_true trivial)
end Go.Eng
