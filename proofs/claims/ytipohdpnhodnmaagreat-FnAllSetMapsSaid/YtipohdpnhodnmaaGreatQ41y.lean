/- Several texts in one: Q41, E13, E14. -/
import Derived.Test.YtipohdpnhodnmaaGreatE09y
set_option linter.unusedSimpArgs false
set_option linter.unusedVariables false
set_option maxRecDepth 100000
set_option maxHeartbeats 16000000
section
namespace Go.Eng
open Go Go.Proofs Go.Cats
noncomputable def mrk (B:List Bool) (i:Nat):List Int:=aC7 (fun k=>B.getD k false=true) i
theorem aEr (B:List Bool):mrk B 0=[]:=aIA
theorem aG4 {B:List Bool} {i:Nat} (h:B.getD i false=true):mrk B (i+1)=mrk B i++[(i:Int)]:=aEN h
theorem aOS {B:List Bool} {i:Nat} (h:B.getD i false=false):mrk B (i+1)=mrk B i:=aHn (by rw [h];exact Bool.false_ne_true)
theorem aMM (B:List Bool) (i:Nat):(mrk B i).length≤i:=aEM _ i
theorem aG3 {B:List Bool}:∀{n:Nat},(∀k,k<n→B.getD k false=true)→(mrk B n).length=n
 |0,_=>by rw [aEr];rfl
 |n+1,h=>by rw [aG4 (h n (Nat.lt_succ_self n)),List.length_append,aG3 fun k hk=>h k (by omega)];rfl
theorem aKm (A:List Int) (m:Nat):mkA A m 0=List.replicate m false:=rfl
attribute [local go_sem] List.set_cons_zero List.set_cons_succ aEr aKm
theorem aFw:aF Tryz.prog 189:=⟨_,Tryz.func189,rfl,rfl⟩
theorem aIK {B:List Bool} (hB:B.length≤1048576):Spec Tryz.prog 189 [.bor [] (mB B)] [] (.sl 0) [(0,⟨1, .arr (ints (mrk B B.length))⟩)]:=by
 refine aE (E:=TE) 0 Tryz.func189 rfl (by simp [Tryz.f189]) fun X hn hX=>?_
 repeat'(first|refine wkQ ?_|refine Tw.f ?_ ?_|(refine fun(hc:(_:Bool)=_)=>?_;try simp only [hcS]at hc))
 all_goals try exact om_
 refine aH (G:={i:Nat//i≤B.length∧(True)}) (fun⟨i,_⟩=>[(9,iv i),(3, .sl 0)]) [2,7,8] (fun⟨i,_⟩=>[(0,⟨1, .arr (ints (mrk B i))⟩)]) [0] (fun zz=>B.length-zz.1) ⟨0,Nat.zero_le _,by first|trivial|simp⟩ ?_ ?_
 ·exact Imp.au hX
 rintro⟨i,hii,hwi⟩
 simp only [go_sem,simprocAttr]
 have hml:=aMM B i
 repeat'(first|refine wkQ ?_|refine Tw.f ?_ ?_|(refine fun(hc:(_:Bool)=_)=>?_;try simp only [hcS]at hc))
 all_goals try exact om_
 ·refine⟨⟨i+1,by omega,(by trivial)⟩,by simp only;omega,Imp.auto hX (by simp only [go_sem,simprocAttr,aG4 hc])⟩
 ·refine⟨⟨i+1,by omega,(by trivial)⟩,by simp only;omega,Imp.auto hX (by simp only [go_sem,simprocAttr,aOS hc])⟩
 ·obtain rfl:i=B.length:=by omega
  (first|refine aB ?_|refine aA ?_);simp only [go_sem,simprocAttr,Tryz.f189]
theorem aBB:aF Tryz.prog 116:=⟨_,Tryz.func116,rfl,rfl⟩
theorem aEQ {l:List Int} {n:Int} {m:Nat} (e:n=m) (hm:m≤1048576) (hl:Within l m) (hk:l.length≤1048576):Spec Tryz.prog 116 [iv n, .bor [] (ints l)] [] (.sl 0) [(0,⟨1, .arr (ints (mrk (mkA l m l.length) m))⟩)]:=by
 refine aE (E:=TE) 0 Tryz.func116 rfl (by simp [Tryz.f116]) fun X hn hX=>?_
 subst e
 have hlm:=yJ l m l.length
 have hM:=aIK (B:=mkA l m l.length) (by omega)
 rw [hlm]at hM
 repeat'(first|refine wkQ ?_|refine Tw.f ?_ ?_|(refine fun(hc:(_:Bool)=_)=>?_;try simp only [hcS]at hc))
 all_goals try exact om_
 refine aH (G:={i:Nat//i≤l.length∧(True)}) (fun⟨i,_⟩=>[(12,iv i),(5, .sl 0)]) [4,10,11] (fun⟨i,_⟩=>[(0,⟨1, .arr (mB (mkA l m i))⟩)]) [0] (fun zz=>l.length-zz.1) ⟨0,Nat.zero_le _,by first|trivial|simp⟩ ?_ ?_
 ·exact Imp.au hX
 rintro⟨i,hii,hwi⟩
 simp only [go_sem,simprocAttr]
 have hml:=yJ l m i
 rcases Nat.lt_or_ge i l.length with hlt|hge
 ·have h1:=hl i hlt
  have e1:mkA l m (i+1)=(mkA l m i).set (l.getD i 0).toNat true:=rfl
  repeat'(first|refine wkQ ?_|refine Tw.f ?_ ?_|(refine fun(hc:(_:Bool)=_)=>?_;try simp only [hcS]at hc))
  all_goals try exact om_
  ·refine⟨⟨i+1,by omega,(by trivial)⟩,by simp only;omega,Imp.auto hX (by simp only [go_sem,simprocAttr,e1])⟩
 ·obtain rfl:i=l.length:=by omega
  repeat'(first|refine wkQ ?_|refine Tw.f ?_ ?_|(refine kcQ aFw ?_;refine kwQ (hM) [(0,1)] [0] ?_)|(refine fun(hc:(_:Bool)=_)=>?_;try simp only [hcS]at hc))
  all_goals try exact om_
  ·(first|refine aB ?_|refine aA ?_);simp only [go_sem,simprocAttr,Tryz.f116]
theorem _root_.Go.Cats.Bij.img {n:Nat} {l:List Int} (h:Bij n l):(mrk (mkA l n l.length) n).length=n:=aG3 fun k hk=>by
 obtain⟨x,hx,e⟩:=h.surj hk
 have hr:∀f∈l,0≤f∧f<n:=fun f hf=>by
  obtain⟨i,hi,rfl⟩:=mW (d:=0) hf
  exact h.win i hi
 have:=(aKl hr (i:=l.length) (Nat.le_refl _) (k:Int) (by omega) (by omega)).2 (by
  rw [List.take_length,←e]
  exact cD (by rw [h.len];exact hx))
 rw [Int.toNat_natCast]at this
 exact this
theorem aBd:aF Tryz.prog 54:=⟨_,Tryz.func54,rfl,rfl⟩
theorem aDf {l:List Int} {n:Nat} (h:Bij n l) (hm:n≤1048576):Spec Tryz.prog 54 [.bor [] (ints l)] [] (.sl 0) [(0,⟨1, .arr (ints (bwL l l.length))⟩)]:=by
 refine aE (E:=TE) 0 Tryz.func54 rfl (by simp [Tryz.f54]) fun X hn hX=>?_
 have hk:=h.len
 have hw:=h.win
 have hz:=aDK (l:=l)
 repeat'(first|refine wkQ ?_|refine Tw.f ?_ ?_|(refine fun(hc:(_:Bool)=_)=>?_;try simp only [hcS]at hc))
 all_goals try exact om_
 refine aH (G:={i:Nat//i≤l.length∧(True)}) (fun⟨i,_⟩=>[(11,iv i),(3, .sl 0)]) [2,9,10] (fun⟨i,_⟩=>[(0,⟨1, .arr (ints (bwL l i))⟩)]) [0] (fun zz=>l.length-zz.1) ⟨0,Nat.zero_le _,by trivial⟩ ?_ ?_
 ·exact Imp.auto hX (by simp [go_sem,simprocAttr,hz])
 rintro⟨i,hii,hwi⟩
 simp only [go_sem,simprocAttr]
 have hml:=iW (l:=l) i
 have h1:=hw i
 have e1:=zC (l:=l) (i:=i)
 repeat'(first|refine wkQ ?_|refine Tw.f ?_ ?_|(refine fun(hc:(_:Bool)=_)=>?_;try simp only [hcS]at hc))
 all_goals try exact om_
 ·refine⟨⟨i+1,by omega,(by trivial)⟩,by simp only;omega,Imp.auto hX (by simp only [go_sem,simprocAttr,e1])⟩
 ·obtain rfl:i=l.length:=by omega
  (first|refine aB ?_|refine aA ?_);simp only [go_sem,simprocAttr,Tryz.f54]
end Go.Eng
end
section
namespace Go.Eng
open Go Go.Proofs Go.Cats
attribute [local go_sem] List.set_cons_zero List.set_cons_succ aAa aDL
theorem aNS {f:SF} (s:IsSF f) (hb:SFB f):SMB ⟨f,f,iuP f f.sizes.length⟩:=by
 have szl:=s.szl
 have o8:=s.cat.toShape.ob8
 refine⟨hb,hb,?_,fun z hz=>?_⟩
 ·show(iuP f f.sizes.length).length≤_;rw [lO];omega
 ·have hz:z<f.sizes.length:=by
   have:z<(iuP f f.sizes.length).length:=hz
   rwa [lO]at this
  show((iuP f f.sizes.length).getD z []).length≤_
  rw [zZ hz,bR]
  have:=s.szw z hz
  omega
theorem rL:aF Tryz.prog 15:=⟨_,Tryz.func15,rfl,rfl⟩
theorem oO {f:SF} (s:IsSF f) (hb:SFB f):Spec Tryz.prog 15 [sfV f] [] (.tup [smO 0 ⟨f,f,iuP f f.sizes.length⟩,iv 0]) (smQ 0 ⟨f,f,iuP f f.sizes.length⟩):=by
 have szl:=s.szl
 have o8:=s.cat.toShape.ob8
 have hM:=aNS s hb
 have hsm:=vY (f:=f) (g:=f) (p:=iuP f f.sizes.length) hb hb hM.parts hM.row
 refine aE (E:=TE) 0 Tryz.func15 rfl (by simp [Tryz.f15]) fun X hn hX=>?_
 repeat'(first|refine wkQ ?_|refine Tw.f ?_ ?_|(refine kcQ fA ?_;refine krQ (fN (f:=f) ?_) ?_)|(refine fun(hc:(_:Bool)=_)=>?_;try simp only [hcS]at hc))
 all_goals try exact om_
 all_goals try exact absurd s (by assumption)
 refine aH (G:={i:Nat//i≤f.sizes.length∧(True)}) (fun⟨i,_⟩=>[(14,iv i),(4, .sl 2)]) [1,2,3,12,13] (fun⟨i,_⟩=>[(2,⟨1, .arr (aD (iuP f i))⟩)]) [2] (fun zz=>f.sizes.length-zz.1) ⟨0,Nat.zero_le _,by first|trivial|simp⟩ ?_ ?_
 ·exact Imp.au hX
 rintro⟨i,hii,hwi⟩
 simp only [go_sem,simprocAttr]
 have il:=lO (f:=f) (i:=i)
 rcases Nat.lt_or_ge i f.sizes.length with hi|hi
 ·have sz:=s.szw i hi
  have hN:=aDm (n:=f.sizes.getD i 0) (by omega) (by omega)
  have e1:=aEm (f:=f) (i:=i)
  repeat'(first|refine wkQ ?_|refine Tw.f ?_ ?_|(refine kcQ aDU ?_;refine kwQ (hN) [(0,3)] [] ?_)|(refine fun(hc:(_:Bool)=_)=>?_;try simp only [hcS]at hc))
  all_goals try exact om_
  all_goals try(exfalso;omega)
  refine⟨⟨i+1,by omega,(by trivial)⟩,by simp only;omega,Imp.auto hX (by simp only [go_sem,simprocAttr,e1])⟩
 obtain rfl:i=f.sizes.length:=by omega
 repeat'(first|refine wkQ ?_|refine Tw.f ?_ ?_|(refine kcQ rQ ?_;refine kwQ (hsm) [(0,3),(1,4),(2,5),(3,6),(4,7),(5,8),(6,9),(7,10),(8,11),(9,12),(10,13),(11,14),(12,15)] [0,2] ?_)|(refine fun(hc:(_:Bool)=_)=>?_;try simp only [hcS]at hc))
 all_goals try exact om_
 all_goals try(exfalso;omega)
 (first|refine aB ?_|refine aA ?_);simp only [go_sem,simprocAttr,Tryz.f15]
 all_goals repeat'(first|rfl|constructor)
end Go.Eng
end
section
namespace Go.Eng
open Go Go.Proofs Go.Cats
attribute [local go_sem] List.set_cons_zero List.set_cons_succ aAa aDL
structure IsoM (m:SM):Prop where
 nat:IsSM m
 szs:m.src.sizes=m.tgt.sizes
 bij:∀x,x<m.parts.length→Bij (m.tgt.sizes.getD x 0).toNat (m.parts.getD x [])
def bwM (m:SM):SM:=⟨m.tgt,m.src,bwP m.parts m.parts.length⟩
theorem aNC {m:SM} (h:IsoM m) (hb:SMB m):SMB (bwM m):=by
 refine⟨hb.tgt,hb.src,?_,fun z hz=>?_⟩
 ·show(bwP m.parts m.parts.length).length≤_;rw [bwP_len];exact hb.parts
 ·have hz:z<m.parts.length:=by
   have:z<(bwP m.parts m.parts.length).length:=hz
   rwa [bwP_len]at this
  show((bwP m.parts m.parts.length).getD z []).length≤_
  rw [vC hz,iW]
  exact hb.row z hz
theorem nH:aF Tryz.prog 52:=⟨_,Tryz.func52,rfl,rfl⟩
theorem lH {m:SM} (h:IsoM m):Spec Tryz.prog 52 [.bptr [] (smD m)] [] (bv true) []:=by
 refine aE (E:=TE) 0 Tryz.func52 rfl (by simp [Tryz.f52]) fun X hn hX=>?_
 have hm:=h.nat
 have ml:=hm.fits.len
 have ss:=congrArg List.length h.szs
 have szl:=hm.tgt.szl
 have o8:=hm.tgt.cat.toShape.ob8
 repeat'(first|refine wkQ ?_|refine Tw.f ?_ ?_|(refine fun(hc:(_:Bool)=_)=>?_;try simp only [hcS]at hc))
 all_goals try exact om_
 refine aH (G:={x:Nat//x≤m.parts.length∧(True)}) (fun⟨x,_⟩=>[(10,iv x)]) [0,8,9] (fun⟨x,_⟩=>[]) [] (fun zz=>m.parts.length-zz.1) ⟨0,Nat.zero_le _,by first|trivial|simp⟩ ?_ ?_
 ·exact Imp.au hX
 rintro⟨x,hix,hwx⟩
 simp only [go_sem,simprocAttr]
 rcases Nat.lt_or_ge x m.parts.length with hx|hx
 ·have b:=h.bij x hx
  have sz:=hm.tgt.szw x (by omega)
  have bl:=b.len
  have hI:=aEQ (l:=m.parts.getD x []) (n:=m.tgt.sizes.getD x 0) (m:=(m.tgt.sizes.getD x 0).toNat) (by omega) (by omega) b.win (by omega)
  have hg:=b.img
  generalize mrk (mkA (m.parts.getD x []) (m.tgt.sizes.getD x 0).toNat (m.parts.getD x []).length) (m.tgt.sizes.getD x 0).toNat=I at hI hg
  repeat'(first|refine wkQ ?_|refine Tw.f ?_ ?_|(refine kcQ aBB ?_;refine kwQ (hI) [(0,0)] [] ?_)|(refine fun(hc:(_:Bool)=_)=>?_;try simp only [hcS]at hc))
  all_goals try exact om_
  all_goals try(exfalso;omega)
  refine⟨⟨x+1,by omega,(by trivial)⟩,by simp only;omega,Imp.ao hX⟩
 obtain rfl:x=m.parts.length:=by omega
 repeat'(first|refine wkQ ?_|refine Tw.f ?_ ?_|(refine fun(hc:(_:Bool)=_)=>?_;try simp only [hcS]at hc))
 all_goals try exact om_
 all_goals try(exfalso;omega)
 (first|refine aB ?_|refine aA ?_);simp only [go_sem,simprocAttr,Tryz.f52]
theorem mL:aF Tryz.prog 53:=⟨_,Tryz.func53,rfl,rfl⟩
theorem kX {m:SM} (h:IsoM m):Spec Tryz.prog 53 [.bptr [] (smD m)] [] (bv true) []:=by
 refine aE (E:=TE) 0 Tryz.func53 rfl (by simp [Tryz.f53]) fun X hn hX=>?_
 have hm:=h.nat
 have ml:=hm.fits.len
 have ss:=congrArg List.length h.szs
 have szl:=hm.tgt.szl
 have o8:=hm.tgt.cat.toShape.ob8
 repeat'(first|refine wkQ ?_|refine Tw.f ?_ ?_|(refine fun(hc:(_:Bool)=_)=>?_;try simp only [hcS]at hc))
 all_goals try exact om_
 refine aH (G:={x:Nat//x≤m.parts.length∧(True)}) (fun⟨x,_⟩=>[(10,iv x)]) [0,8,9] (fun⟨x,_⟩=>[]) [] (fun zz=>m.parts.length-zz.1) ⟨0,Nat.zero_le _,by first|trivial|simp⟩ ?_ ?_
 ·exact Imp.au hX
 rintro⟨x,hix,hwx⟩
 simp only [go_sem,simprocAttr]
 rcases Nat.lt_or_ge x m.parts.length with hx|hx
 ·have b:=h.bij x hx
  have sz:=hm.tgt.szw x (by omega)
  have bl:=b.len
  have hI:=aEQ (l:=m.parts.getD x []) (n:=m.tgt.sizes.getD x 0) (m:=(m.tgt.sizes.getD x 0).toNat) (by omega) (by omega) b.win (by omega)
  have hg:=b.img
  generalize mrk (mkA (m.parts.getD x []) (m.tgt.sizes.getD x 0).toNat (m.parts.getD x []).length) (m.tgt.sizes.getD x 0).toNat=I at hI hg
  repeat'(first|refine wkQ ?_|refine Tw.f ?_ ?_|(refine kcQ aBB ?_;refine kwQ (hI) [(0,0)] [] ?_)|(refine fun(hc:(_:Bool)=_)=>?_;try simp only [hcS]at hc))
  all_goals try exact om_
  all_goals try(exfalso;omega)
  refine⟨⟨x+1,by omega,(by trivial)⟩,by simp only;omega,Imp.ao hX⟩
 obtain rfl:x=m.parts.length:=by omega
 repeat'(first|refine wkQ ?_|refine Tw.f ?_ ?_|(refine fun(hc:(_:Bool)=_)=>?_;try simp only [hcS]at hc))
 all_goals try exact om_
 all_goals try(exfalso;omega)
 (first|refine aB ?_|refine aA ?_);simp only [go_sem,simprocAttr,Tryz.f53]
theorem tA:aF Tryz.prog 13:=⟨_,Tryz.func13,rfl,rfl⟩
theorem pS {m:SM} (h:IsoM m) (hb:SMB m):Spec Tryz.prog 13 [smV m] [] (.tup [smO 0 (bwM m),iv 0]) (smQ 0 (bwM m)):=by
 have hm:=h.nat
 have ml:=hm.fits.len
 have ss:=congrArg List.length h.szs
 have szl:=hm.tgt.szl
 have o8:=hm.tgt.cat.toShape.ob8
 have hM:=aNC h hb
 have hp:=hb.parts
 have hsm:=vY (f:=m.tgt) (g:=m.src) (p:=bwP m.parts m.parts.length) hM.src hM.tgt hM.parts hM.row
 have hJ:=lH h
 have hK1:=kX h
 unfold bwM
 refine aE (E:=TE) 0 Tryz.func13 rfl (by simp [Tryz.f13]) fun X hn hX=>?_
 repeat'(first|(with_reducible first|refine St.f ?_|refine V_c ?_|refine And.intro ?_ ?_|refine aI ?_ ?_|refine aL ?_)|((refine aQ ?_);intro K hK)|((with_reducible refine So.f ?_);intro K hK;simp(contextual:=true)only [go_sem,simprocAttr])|((with_reducible refine hK _ ?_);clear hK K)|((with_reducible refine aC 51 ?_);refine EvCall.rr (jM (m:=m) ?_) jC ?_)|((with_reducible refine aC 52 ?_);refine EvCall.mr (hJ) nH [] [0] ?_)|((with_reducible refine aC 53 ?_);refine EvCall.mr (hK1) mL [] [0] ?_)|(refine fun(hc:(_:Bool)=_)=>?_;try simp only [hcS]at hc))
 all_goals try exact om_
 all_goals try exact absurd hm (by assumption)
 refine aH (G:={i:Nat//i≤m.parts.length∧(True)}) (fun⟨i,_⟩=>[(21,iv i),(4, .sl 2)]) [1,2,3,19,20] (fun⟨i,_⟩=>[(2,⟨1, .arr (aD (bwP m.parts i))⟩)]) [2] (fun zz=>m.parts.length-zz.1) ⟨0,Nat.zero_le _,by first|trivial|simp⟩ ?_ ?_
 ·exact Imp.au hX
 rintro⟨i,hii,hwi⟩
 simp only [go_sem,simprocAttr]
 have il:=bwP_len (P:=m.parts) (i:=i)
 rcases Nat.lt_or_ge i m.parts.length with hi|hi
 ·have sz:=hm.tgt.szw i (by omega)
  have b:=h.bij i hi
  have hN:=aDf b (by omega)
  have e1:=aJj (P:=m.parts) (i:=i)
  repeat'(first|(with_reducible first|refine St.f ?_|refine V_c ?_|refine And.intro ?_ ?_|refine aI ?_ ?_|refine aL ?_)|((refine aQ ?_);intro K hK)|((with_reducible refine So.f ?_);intro K hK;simp(contextual:=true)only [go_sem,simprocAttr])|((with_reducible refine hK _ ?_);clear hK K)|((with_reducible refine aC 54 ?_);refine EvCall.mr (hN) aBd [(0,3)] [] ?_)|(refine fun(hc:(_:Bool)=_)=>?_;try simp only [hcS]at hc))
  all_goals try exact om_
  all_goals try(exfalso;omega)
  refine⟨⟨i+1,by omega,(by trivial)⟩,by simp only;omega,Imp.auto hX (by simp only [go_sem,simprocAttr,e1])⟩
 obtain rfl:i=m.parts.length:=by omega
 repeat'(first|(with_reducible first|refine St.f ?_|refine V_c ?_|refine And.intro ?_ ?_|refine aI ?_ ?_|refine aL ?_)|((refine aQ ?_);intro K hK)|((with_reducible refine So.f ?_);intro K hK;simp(contextual:=true)only [go_sem,simprocAttr])|((with_reducible refine hK _ ?_);clear hK K)|((with_reducible refine aC 55 ?_);refine EvCall.mr (hsm) rQ [(0,3),(1,4),(2,5),(3,6),(4,7),(5,8),(6,9),(7,10),(8,11),(9,12),(10,13),(11,14),(12,15)] [0,2] ?_)|(refine fun(hc:(_:Bool)=_)=>?_;try simp only [hcS]at hc))
 all_goals try exact om_
 all_goals try(exfalso;omega)
 (first|refine aB ?_|refine aA ?_);simp only [go_sem,simprocAttr,Tryz.f13]
 all_goals repeat'(first|rfl|constructor)
end Go.Eng
end
