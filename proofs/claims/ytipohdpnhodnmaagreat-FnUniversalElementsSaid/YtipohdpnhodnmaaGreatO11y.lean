/- Several texts in one: E09, O11, K03, H06, E10, E13, E14. -/
import Derived.Test.YtipohdpnhodnmaaGreatQ41y
import Derived.Test.YtipohdpnhodnmaaGreatKbey
set_option linter.unusedSimpArgs false
set_option linter.unusedVariables false
set_option maxRecDepth 100000
set_option maxHeartbeats 32000000
section
namespace Go.Eng
open Go Go.Proofs Go.Cats
attribute [local go_sem] List.set_cons_zero List.set_cons_succ
end Go.Eng
end
section
namespace Go.Eng
open Go Go.Proofs Go.Cats
attribute [go_sem] List.set_cons_zero List.set_cons_succ
@[go_sem] theorem aQZ (f:SF) (x e:Int):(f.eMap x e).src=f.shape.rep x:=rfl
@[go_sem] theorem aQ0 (f:SF) (x e:Int):(f.eMap x e).tgt=f:=rfl
@[go_sem] theorem aOn (f:SF) (x e:Int):(f.eMap x e).parts=f.eParts x e f.shape.ob.toNat:=rfl
def _root_.Go.Cats.SF.ENo (f:SF) (x e code:Int):Prop:=(¬IsSF f∧code=1)∨(IsSF f∧¬f.Elem x e∧code=2)∨(IsSF f∧f.Elem x e∧¬f.shape.small x∧code=3)
theorem nZ:aF Tryz.prog 23:=⟨_,Tryz.func23,rfl,rfl⟩
theorem lK {f:SF} {x e:Int} (s:IsSF f) (hb:SFB f) (h:f.Elem x e) (hsm:f.shape.small x):Spec Tryz.prog 23 [sfV f,iv x,iv e] []
  (.tup [.agg [iv f.shape.ob, .sl 0, .sl 1, .sl 2, .sl 3, .sl 4, .sl 5,iv f.shape.ob, .sl 6, .sl 7, .sl 8, .sl 9, .sl 10, .sl 11, .sl 12],iv 0]) [(0,⟨1, .arr (ints f.shape.fr)⟩),(1,⟨1, .arr (ints f.shape.to)⟩),(2,⟨1, .arr (ints f.shape.id)⟩),(3,⟨1, .arr (aC f.shape.co)⟩),(4,⟨1, .arr (ints (f.shape.rep x).sizes)⟩),(5,⟨1, .arr (aC (f.shape.rep x).acts)⟩),(6,⟨1, .arr (ints f.shape.fr)⟩),(7,⟨1, .arr (ints f.shape.to)⟩),(8,⟨1, .arr (ints f.shape.id)⟩),(9,⟨1, .arr (aC f.shape.co)⟩),(10,⟨1, .arr (ints f.sizes)⟩),(11,⟨1, .arr (aC f.acts)⟩),(12,⟨1, .arr (aC (f.eParts x e f.shape.ob.toNat))⟩)]:=by
 refine aD (E:=TE) 0 Tryz.func23 rfl (by simp [Tryz.f23]) fun X hn hX=>?_
 have hbc:=hb.shape
 have hS:=s.cat.toShape
 have hM:=SF.eMap_smb hS hb x e
 have hR:=hM.src
 have hp:=hM.parts
 have hrow:=hM.row
 have hd:=lE h
 repeat'(first|refine wkQ ?_|refine Tw.f ?_ ?_|(refine kcQ jW ?_;refine krQ (kU ?_ ?_) ?_)|(refine kcQ jU ?_;refine kwQ (iZ (x:=x) hS hbc hsm) [(0,2),(1,3),(2,4),(3,5),(4,6),(5,7)] [0] ?_)|(refine kcQ eH ?_;refine krQ (fG ?_ ?_ ?_) ?_)|(refine kcQ yA ?_;refine kwQ (aBK (f:=f.shape.rep x) (g:=f) (p:=f.eParts x e f.shape.ob.toNat) hR hb hp hrow) [(0,10),(1,11),(2,12),(3,13),(4,14),(5,15),(6,16),(7,17),(8,18),(9,19),(10,20),(11,21),(12,22)] [8,2,3,4,5,6,7,0,9] ?_)|(refine fun(hc:(_:Bool)=_)=>?_;try simp only [hcS]at hc))
 all_goals try exact om_
 ·rw [hd]at hc;exact absurd rfl hc
 ·(first|refine aB ?_|refine aA ?_);simp only [go_sem,simprocAttr,Tryz.f23]
end Go.Eng
end
section
namespace Go.Eng
open Go Go.Proofs Go.Cats
attribute [local go_sem] List.set_cons_zero List.set_cons_succ
abbrev smO (n:Nat) (m:SM):Sv:= .agg [iv m.src.shape.ob, .sl n, .sl (n+1), .sl (n+2), .sl (n+3), .sl (n+4), .sl (n+5),iv m.tgt.shape.ob, .sl (n+6), .sl (n+7), .sl (n+8), .sl (n+9), .sl (n+10), .sl (n+11), .sl (n+12)]
abbrev smQ (n:Nat) (m:SM):List (Nat×Rs):=[(n,⟨1, .arr (ints m.src.shape.fr)⟩),(n+1,⟨1, .arr (ints m.src.shape.to)⟩),(n+2,⟨1, .arr (ints m.src.shape.id)⟩),(n+3,⟨1, .arr (aC m.src.shape.co)⟩),(n+4,⟨1, .arr (ints m.src.sizes)⟩),(n+5,⟨1, .arr (aC m.src.acts)⟩),(n+6,⟨1, .arr (ints m.tgt.shape.fr)⟩),(n+7,⟨1, .arr (ints m.tgt.shape.to)⟩),(n+8,⟨1, .arr (ints m.tgt.shape.id)⟩),(n+9,⟨1, .arr (aC m.tgt.shape.co)⟩),(n+10,⟨1, .arr (ints m.tgt.sizes)⟩),(n+11,⟨1, .arr (aC m.tgt.acts)⟩),(n+12,⟨1, .arr (aC m.parts)⟩)]
attribute [go_sem] smQ
end Go.Eng
end
section
namespace Go.Eng
open Go Go.Proofs Go.Cats
theorem aMz:SMB aJT:=by
 have hnil:SFB aDL:=⟨⟨by decide,by decide,by decide,by decide,by decide,by decide,fun f h=>by simp [aDL]at h⟩,by decide,by decide,fun a h=>by simp [aDL]at h⟩
 exact⟨hnil,hnil,by decide,fun a h=>by simp [aJT]at h⟩
end Go.Eng
end
section
namespace Go.Eng
open Go Go.Proofs Go.Cats
attribute [local go_sem] List.set_cons_zero List.set_cons_succ
def ElOut (f:SF) (x e:Int) (m:SM) (code:Int):Prop:=(m=aJT∧f.ENo x e code)∨(IsSF f∧f.Elem x e∧f.shape.small x∧m=f.eMap x e∧code=0)
theorem ElOut.ex (f:SF) (x e:Int):∃m code,ElOut f x e m code:=by
 by_cases s:IsSF f
 ·by_cases h:f.Elem x e
  ·by_cases n:f.shape.small x
   ·exact⟨_,_, .inr ⟨s,h,n,rfl,rfl⟩⟩
   ·exact⟨_,_, .inl ⟨rfl, .inr (.inr ⟨s,h,n,rfl⟩)⟩⟩
  ·exact⟨_,_, .inl ⟨rfl, .inr (.inl ⟨s,h,rfl⟩)⟩⟩
 ·exact⟨_,_, .inl ⟨rfl, .inl ⟨s,rfl⟩⟩⟩
theorem ElOut.b {f:SF} {x e code:Int} {m:SM} (ho:ElOut f x e m code) (hb:SFB f):SMB m:=by
 rcases ho with⟨rfl,_⟩|⟨s,_,_,rfl,_⟩
 ·exact aMz
 ·exact SF.eMap_smb s.cat.toShape hb x e
theorem ElOut.zero {f:SF} {x e:Int} {m:SM} (ho:ElOut f x e m 0):IsSF f∧f.Elem x e∧f.shape.small x∧m=f.eMap x e:=by
 rcases ho with⟨_,⟨_,q⟩|⟨_,_,q⟩|⟨_,_,_,q⟩⟩|⟨s,h,n,e,_⟩
 ·exact absurd q (by decide)
 ·exact absurd q (by decide)
 ·exact absurd q (by decide)
 ·exact⟨s,h,n,e⟩
attribute [local go_sem] aBM
end Go.Eng
end
section
namespace Go.Eng
open Go Go.Proofs Go.Cats
attribute [local go_sem] List.set_cons_zero List.set_cons_succ yW aC1
end Go.Eng
end
section
namespace Go.Eng
open Go Go.Proofs Go.Cats
attribute [local go_sem] List.set_cons_zero List.set_cons_succ yW aC1
structure IsoM (m:SM):Prop where
 nat:IsSM m
 szs:m.src.sizes=m.tgt.sizes
 bij:∀x,x<m.parts.length→Bij (m.tgt.sizes.getD x 0).toNat (m.parts.getD x [])
def bwM (m:SM):SM:=⟨m.tgt,m.src,bwP m.parts m.parts.length⟩
theorem aQO {m:SM} (h:IsoM m) (hb:SMB m):SMB (bwM m):=by
 refine⟨hb.tgt,hb.src,?_,fun z hz=>?_⟩
 ·show(bwP m.parts m.parts.length).length≤_;rw [aB1];exact hb.parts
 ·have hz:z<m.parts.length:=by
   have:z<(bwP m.parts m.parts.length).length:=hz
   rwa [aB1]at this
  show((bwP m.parts m.parts.length).getD z []).length≤_
  rw [aOf hz,iR]
  exact hb.row z hz
theorem mR:aF Tryz.prog 52:=⟨_,Tryz.func52,rfl,rfl⟩
theorem kV {m:SM} (h:IsoM m):Spec Tryz.prog 52 [.bptr [] (smD m)] [] (bv true) []:=by
 refine aD (E:=TE) 0 Tryz.func52 rfl (by simp [Tryz.f52]) fun X hn hX=>?_
 have hm:=h.nat
 have ml:=hm.fits.len
 have ss:=congrArg List.length h.szs
 have szl:=hm.tgt.szl
 have o8:=hm.tgt.cat.toShape.ob8
 repeat'(first|refine wkQ ?_|refine Tw.f ?_ ?_|(refine fun(hc:(_:Bool)=_)=>?_;try simp only [hcS]at hc))
 all_goals try exact om_
 refine aG (G:={x:Nat//x≤m.parts.length∧(True)}) (fun⟨x,_⟩=>[(10,iv x)]) [0,8,9] (fun⟨x,_⟩=>[]) [] (fun zz=>m.parts.length-zz.1) ⟨0,Nat.zero_le _,by first|trivial|simp⟩ ?_ ?_
 ·exact Imp.au hX
 rintro⟨x,hix,hwx⟩
 simp only [go_sem,simprocAttr]
 rcases Nat.lt_or_ge x m.parts.length with hx|hx
 ·have b:=h.bij x hx
  have sz:=hm.tgt.szw x (by omega)
  have bl:=b.len
  have hI:=zT (l:=m.parts.getD x []) (n:=m.tgt.sizes.getD x 0) (m:=(m.tgt.sizes.getD x 0).toNat) (by omega) (by omega) b.win (by omega)
  have hg:=b.img
  generalize mrk (mkA (m.parts.getD x []) (m.tgt.sizes.getD x 0).toNat (m.parts.getD x []).length) (m.tgt.sizes.getD x 0).toNat=I at hI hg
  repeat'(first|refine wkQ ?_|refine Tw.f ?_ ?_|(refine kcQ tJ ?_;refine kwQ (hI) [(0,0)] [] ?_)|(refine fun(hc:(_:Bool)=_)=>?_;try simp only [hcS]at hc))
  all_goals try exact om_
  all_goals try(exfalso;omega)
  refine⟨⟨x+1,by omega,(by trivial)⟩,by simp only;omega,Imp.ao hX⟩
 obtain rfl:x=m.parts.length:=by omega
 repeat'(first|refine wkQ ?_|refine Tw.f ?_ ?_|(refine fun(hc:(_:Bool)=_)=>?_;try simp only [hcS]at hc))
 all_goals try exact om_
 all_goals try(exfalso;omega)
 (first|refine aB ?_|refine aA ?_);simp only [go_sem,simprocAttr,Tryz.f52]
theorem mA:aF Tryz.prog 53:=⟨_,Tryz.func53,rfl,rfl⟩
theorem kN {m:SM} (h:IsoM m):Spec Tryz.prog 53 [.bptr [] (smD m)] [] (bv true) []:=by
 refine aD (E:=TE) 0 Tryz.func53 rfl (by simp [Tryz.f53]) fun X hn hX=>?_
 have hm:=h.nat
 have ml:=hm.fits.len
 have ss:=congrArg List.length h.szs
 have szl:=hm.tgt.szl
 have o8:=hm.tgt.cat.toShape.ob8
 repeat'(first|refine wkQ ?_|refine Tw.f ?_ ?_|(refine fun(hc:(_:Bool)=_)=>?_;try simp only [hcS]at hc))
 all_goals try exact om_
 refine aG (G:={x:Nat//x≤m.parts.length∧(True)}) (fun⟨x,_⟩=>[(10,iv x)]) [0,8,9] (fun⟨x,_⟩=>[]) [] (fun zz=>m.parts.length-zz.1) ⟨0,Nat.zero_le _,by first|trivial|simp⟩ ?_ ?_
 ·exact Imp.au hX
 rintro⟨x,hix,hwx⟩
 simp only [go_sem,simprocAttr]
 rcases Nat.lt_or_ge x m.parts.length with hx|hx
 ·have b:=h.bij x hx
  have sz:=hm.tgt.szw x (by omega)
  have bl:=b.len
  have hI:=zT (l:=m.parts.getD x []) (n:=m.tgt.sizes.getD x 0) (m:=(m.tgt.sizes.getD x 0).toNat) (by omega) (by omega) b.win (by omega)
  have hg:=b.img
  generalize mrk (mkA (m.parts.getD x []) (m.tgt.sizes.getD x 0).toNat (m.parts.getD x []).length) (m.tgt.sizes.getD x 0).toNat=I at hI hg
  repeat'(first|refine wkQ ?_|refine Tw.f ?_ ?_|(refine kcQ tJ ?_;refine kwQ (hI) [(0,0)] [] ?_)|(refine fun(hc:(_:Bool)=_)=>?_;try simp only [hcS]at hc))
  all_goals try exact om_
  all_goals try(exfalso;omega)
  refine⟨⟨x+1,by omega,(by trivial)⟩,by simp only;omega,Imp.ao hX⟩
 obtain rfl:x=m.parts.length:=by omega
 repeat'(first|refine wkQ ?_|refine Tw.f ?_ ?_|(refine fun(hc:(_:Bool)=_)=>?_;try simp only [hcS]at hc))
 all_goals try exact om_
 all_goals try(exfalso;omega)
 (first|refine aB ?_|refine aA ?_);simp only [go_sem,simprocAttr,Tryz.f53]
theorem kZ:aF Tryz.prog 13:=⟨_,Tryz.func13,rfl,rfl⟩
theorem jA {m:SM} (h:IsoM m) (hb:SMB m):Spec Tryz.prog 13 [smV m] [] (.tup [smO 0 (bwM m),iv 0]) (smQ 0 (bwM m)):=by
 have hm:=h.nat
 have ml:=hm.fits.len
 have ss:=congrArg List.length h.szs
 have szl:=hm.tgt.szl
 have o8:=hm.tgt.cat.toShape.ob8
 have hM:=aQO h hb
 have hp:=hb.parts
 have hsm:=aBK (f:=m.tgt) (g:=m.src) (p:=bwP m.parts m.parts.length) hM.src hM.tgt hM.parts hM.row
 have hJ:=kV h
 have hK1:=kN h
 unfold bwM
 refine aD (E:=TE) 0 Tryz.func13 rfl (by simp [Tryz.f13]) fun X hn hX=>?_
 repeat'(first|(with_reducible first|refine St.f ?_|refine V_c ?_|refine And.intro ?_ ?_|refine aI ?_ ?_|refine aN ?_)|((refine aQ ?_);intro K hK)|((with_reducible refine So.f ?_);intro K hK;simp(contextual:=true)only [go_sem,simprocAttr])|((with_reducible refine hK _ ?_);clear hK K)|((with_reducible refine aE 51 ?_);refine EvCall.rr (pT (m:=m) ?_) oB ?_)|((with_reducible refine aE 52 ?_);refine EvCall.mr (hJ) mR [] [0] ?_)|((with_reducible refine aE 53 ?_);refine EvCall.mr (hK1) mA [] [0] ?_)|(refine fun(hc:(_:Bool)=_)=>?_;try simp only [hcS]at hc))
 all_goals try exact om_
 all_goals try exact absurd hm (by assumption)
 refine aG (G:={i:Nat//i≤m.parts.length∧(True)}) (fun⟨i,_⟩=>[(21,iv i),(4, .sl 2)]) [1,2,3,19,20] (fun⟨i,_⟩=>[(2,⟨1, .arr (aC (bwP m.parts i))⟩)]) [2] (fun zz=>m.parts.length-zz.1) ⟨0,Nat.zero_le _,by first|trivial|simp⟩ ?_ ?_
 ·exact Imp.au hX
 rintro⟨i,hii,hwi⟩
 simp only [go_sem,simprocAttr]
 have il:=aB1 (P:=m.parts) (i:=i)
 rcases Nat.lt_or_ge i m.parts.length with hi|hi
 ·have sz:=hm.tgt.szw i (by omega)
  have b:=h.bij i hi
  have hN:=aCE b (by omega)
  have e1:=aIG (P:=m.parts) (i:=i)
  repeat'(first|(with_reducible first|refine St.f ?_|refine V_c ?_|refine And.intro ?_ ?_|refine aI ?_ ?_|refine aN ?_)|((refine aQ ?_);intro K hK)|((with_reducible refine So.f ?_);intro K hK;simp(contextual:=true)only [go_sem,simprocAttr])|((with_reducible refine hK _ ?_);clear hK K)|((with_reducible refine aE 54 ?_);refine EvCall.mr (hN) aAL [(0,3)] [] ?_)|(refine fun(hc:(_:Bool)=_)=>?_;try simp only [hcS]at hc))
  all_goals try exact om_
  all_goals try(exfalso;omega)
  refine⟨⟨i+1,by omega,(by trivial)⟩,by simp only;omega,Imp.auto hX (by simp only [go_sem,simprocAttr,e1])⟩
 obtain rfl:i=m.parts.length:=by omega
 repeat'(first|(with_reducible first|refine St.f ?_|refine V_c ?_|refine And.intro ?_ ?_|refine aI ?_ ?_|refine aN ?_)|((refine aQ ?_);intro K hK)|((with_reducible refine So.f ?_);intro K hK;simp(contextual:=true)only [go_sem,simprocAttr])|((with_reducible refine hK _ ?_);clear hK K)|((with_reducible refine aE 55 ?_);refine EvCall.mr (hsm) yA [(0,3),(1,4),(2,5),(3,6),(4,7),(5,8),(6,9),(7,10),(8,11),(9,12),(10,13),(11,14),(12,15)] [0,2] ?_)|(refine fun(hc:(_:Bool)=_)=>?_;try simp only [hcS]at hc))
 all_goals try exact om_
 all_goals try(exfalso;omega)
 (first|refine aB ?_|refine aA ?_);simp only [go_sem,simprocAttr,Tryz.f13]
 all_goals repeat'(first|rfl|constructor)
end Go.Eng
end
