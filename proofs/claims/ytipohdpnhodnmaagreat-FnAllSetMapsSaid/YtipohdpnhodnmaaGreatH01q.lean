/- Functions of the program: natural maps. -/
import Derived.Test.YtipohdpnhodnmaaGreatKanx
set_option linter.unusedSimpArgs false
set_option linter.unusedVariables false
set_option maxRecDepth 100000
set_option maxHeartbeats 8000000
namespace Go.Eng
open Go Go.Proofs Go.Cats
def smD (m:SM):List Dt:=sfD m.src++sfD m.tgt++[aD m.parts]
def smS (ts:List (Nat×Nat)) (m:SM):List Sv:=sfS ts m.src++sfS ts m.tgt++[.bor ts (aD m.parts)]
abbrev smV (m:SM):Sv:= .agg (smS [] m)
section
variable (m:SM) (ts:List (Nat×Nat))
@[go_sem] theorem aXj:(smD m).take 7=sfD m.src:=rfl
@[go_sem] theorem aXk:((smD m).drop 7).take 7=sfD m.tgt:=rfl
@[go_sem] theorem aXi:((smD m).drop 14).take 1=[aD m.parts]:=rfl
@[go_sem] theorem aT2:(smD m).take 15=smD m:=rfl
@[go_sem] theorem aXg:(smD m).length=15:=rfl
@[go_sem] theorem aT3:(smD m).map (Sv.ofDt ts)=smS ts m:=rfl
attribute [go_sem] smS
end
theorem xL:aF Tryz.prog 188:=⟨_,Tryz.func188,rfl,rfl⟩
theorem aAy {m:SM} (hb:SMB m) (s1:IsSF m.src) (s2:IsSF m.tgt) (hs:m.src.shape=m.tgt.shape):Spec Tryz.prog 188 [.bptr [] (smD m)] [] (bv (dec (SMFits m))) []:=by
 refine aE (E:=TE) 0 Tryz.func188 rfl (by simp [Tryz.f188]) fun X hn hX=>?_
 obtain⟨b1,b2,b3,b4⟩:=hb
 have hz1:=s1.szl
 have hz2:=s2.szl
 have hw2:=s2.szw
 rw [←hs]at hz2
 repeat'(first|refine wkQ ?_|refine Tw.f ?_ ?_|(refine fun(hc:(_:Bool)=_)=>?_;try simp only [hcS]at hc))
 all_goals try exact om_
 ·(first|refine aB ?_|refine aA ?_);simp only [go_sem,simprocAttr,Tryz.f188]
  exact cR (fun s=>by have:=s.len;omega)
 refine aH (G:={i:Nat//i≤m.parts.length∧(∀x,x<i→((m.parts.getD x []).length:Int)=m.src.sizes.getD x 0∧Within (m.parts.getD x []) (m.tgt.sizes.getD x 0))}) (fun⟨i,_⟩=>[(22,iv i)]) [0,20,21] (fun⟨i,_⟩=>[]) [] (fun zz=>m.parts.length-zz.1) ⟨0,Nat.zero_le _,by omega⟩ ?_ ?_
 ·exact Imp.au hX
 rintro⟨i,hii,hwi⟩
 simp only [go_sem,simprocAttr]
 have h1:=b4 i
 have h2:=hw2 i
 repeat'(first|refine wkQ ?_|refine Tw.f ?_ ?_|(refine kcQ wH ?_;refine krQ (aAA ?_ ?_) ?_)|(refine fun(hc:(_:Bool)=_)=>?_;try simp only [hcS]at hc))
 all_goals try exact om_
 ·(first|refine aB ?_|refine aA ?_);simp only [go_sem,simprocAttr,Tryz.f188]
  exact cR (fun s=>hc (s.map i (by omega)))
 ·refine⟨⟨i+1,by omega,(by exact cB hwi hc)⟩,by simp only;omega,Imp.ao hX⟩
 ·(first|refine aB ?_|refine aA ?_);simp only [go_sem,simprocAttr,Tryz.f188]
  exact qW ⟨by omega,fun a ha=>hwi a (by omega)⟩
theorem rM:aF Tryz.prog 114:=⟨_,Tryz.func114,rfl,rfl⟩
theorem uG {m:SM} (hb:SMB m):Spec Tryz.prog 114 [.bptr [] (smD m)] [] (bv (dec (SMShape m))) []:=by
 refine aE (E:=TE) 0 Tryz.func114 rfl (by simp [Tryz.f114]) fun X hn hX=>?_
 have hb1:=hb.src
 have hb2:=hb.tgt
 have hb3:=hb1.shape
 have hb4:=hb2.shape
 repeat'(first|refine wkQ ?_|refine Tw.f ?_ ?_|(refine kcQ dY ?_;refine ksQ (a:=dG (by first|omega|assumption|rfl|exact(by assumption:SMB _).src|exact(by assumption:SMB _).tgt) (by first|omega|assumption|rfl|exact(by assumption:SMB _).src|exact(by assumption:SMB _).tgt)) (c:=?_))|(refine kcQ fR ?_;refine krQ (gB ?_ ?_) ?_)|(refine kcQ xL ?_;refine krQ (aAy ?_ ?_ ?_ ?_) ?_)|(refine fun(hc:(_:Bool)=_)=>?_;try simp only [hcS]at hc))
 all_goals try exact om_
 ·exact(‹IsSF m.src∧IsSF m.tgt›).1
 ·exact(‹IsSF m.src∧IsSF m.tgt›).2
 ·(first|refine aB ?_|refine aA ?_);simp only [go_sem,simprocAttr,Tryz.f114]
  exact congrArg (fun b=>Sv.v (.bool b)) (cI ⟨fun h=>⟨(‹IsSF m.src∧IsSF m.tgt›).1,(‹IsSF m.src∧IsSF m.tgt›).2,hc,h⟩,fun h=>h.fits⟩)
 ·(first|refine aB ?_|refine aA ?_);simp only [go_sem,simprocAttr,Tryz.f114]
  exact cR (fun s=>hc s.same)
 ·(first|refine aB ?_|refine aA ?_);simp only [go_sem,simprocAttr,Tryz.f114]
  exact cR (fun s=>hc ⟨s.src,s.tgt⟩)
theorem oY:aF Tryz.prog 115:=⟨_,Tryz.func115,rfl,rfl⟩
theorem rD {m:SM} (s:SMShape m):Spec Tryz.prog 115 [.bptr [] (smD m)] [] (.tup [iv m.unnat.1,iv m.unnat.2]) []:=by
 refine aE (E:=TE) 0 Tryz.func115 rfl (by simp [Tryz.f115]) fun X hn hX=>?_
 obtain⟨g1,g2,g3,g4⟩:=s
 obtain⟨g4,g5⟩:=g4
 have hC:=g1.cat
 have hl:=g1.szl
 have hz:=g1.szw
 have ha:=g1.acl
 have hact:=g1.act
 have hl2:=g2.szl
 have ha2:=g2.acl
 have hact2:=g2.act
 rw [←g3]at hl2 ha2 hact2
 obtain⟨s1,s2,s3,s4,s5,s6,s7,s8,s9,s10,s11⟩:=hC.toShape
 repeat'(first|refine wkQ ?_|refine Tw.f ?_ ?_|(refine fun(hc:(_:Bool)=_)=>?_;try simp only [hcS]at hc))
 all_goals try exact om_
 refine aH (G:={a:Nat//a≤m.src.shape.fr.length∧(aV a m.bada=none)}) (fun⟨a,_⟩=>[(17,iv a)]) [0,4,16] (fun⟨a,_⟩=>[]) [] (fun zz=>m.src.shape.fr.length-zz.1) ⟨0,Nat.zero_le _,by rfl⟩ ?_ ?_
 ·exact Imp.au hX
 rintro⟨a,hia,hwa⟩
 simp only [go_sem,simprocAttr]
 have h1:=hact a
 have h2:=s5 a
 have h3:=s6 a
 have h4:=hz (m.src.shape.fr.getD a 0).toNat
 repeat'(first|refine wkQ ?_|refine Tw.f ?_ ?_|(refine fun(hc:(_:Bool)=_)=>?_;try simp only [hcS]at hc))
 all_goals try exact om_
 have k1:=h1 (by omega)
 have k2:=g5 (m.src.shape.fr.getD a 0).toNat (by omega)
 have k3:=g5 (m.src.shape.to.getD a 0).toNat (by omega)
 have k4:=hact2 a (by omega)
 refine aH (G:={e:Nat//e≤(m.src.acts.getD a []).length∧((aV e fun e=>m.bad a e)=none)}) (fun⟨e,_⟩=>[(29,iv e)]) [0,4,5,16,17,27,28] (fun⟨e,_⟩=>[]) [] (fun zz=>(m.src.acts.getD a []).length-zz.1) ⟨0,Nat.zero_le _,by rfl⟩ ?_ ?_
 ·exact Imp.au hX
 rintro⟨e,hie,hwe⟩
 simp only [go_sem,simprocAttr]
 have m1:=k1.2 e
 have m2:=k2.2 e
 repeat'(first|refine wkQ ?_|refine Tw.f ?_ ?_|(refine fun(hc:(_:Bool)=_)=>?_;try simp only [hcS]at hc))
 all_goals try exact om_
 ·(first|refine aB ?_|refine aA ?_);simp only [go_sem,simprocAttr,Tryz.f115]
  rw [SM.unnat_1 hwa (by omega) hwe (by omega) (SM.bad_t hc)]
 ·refine⟨⟨e+1,by omega,(by exact aW hwe (SM.bad_f hc))⟩,by simp only;omega,Imp.ao hX⟩
 ·refine⟨⟨a+1,by omega,(by exact aW hwa (bJ hwe hie (by omega)))⟩,by simp only;omega,Imp.ao hX⟩
 ·(first|refine aB ?_|refine aA ?_);simp only [go_sem,simprocAttr,Tryz.f115]
  rw [SM.unnat_0 (bJ hwa hia (by omega))]
theorem jC:aF Tryz.prog 51:=⟨_,Tryz.func51,rfl,rfl⟩
theorem jM {m:SM} (hb:SMB m):Spec Tryz.prog 51 [.bptr [] (smD m)] [] (bv (dec (IsSM m))) []:=by
 refine aE (E:=TE) 0 Tryz.func51 rfl (by simp [Tryz.f51]) fun X hn hX=>?_
 repeat'(first|refine wkQ ?_|refine Tw.f ?_ ?_|(refine kcQ rM ?_;refine krQ (uG ?_) ?_)|(refine kcQ oY ?_;refine krQ (rD ?_) ?_)|(refine fun(hc:(_:Bool)=_)=>?_;try simp only [hcS]at hc))
 all_goals try exact om_
 ·(first|refine aB ?_|refine aA ?_);simp only [go_sem,simprocAttr,Tryz.f51]
  exact cR (fun s=>hc s.toSMShape)
 ·(first|refine aB ?_|refine aA ?_);simp only [go_sem,simprocAttr,Tryz.f51]
  rw [←mF,cI hc.unnat_neg]
theorem aCH:aF Tryz.prog 57:=⟨_,Tryz.func57,rfl,rfl⟩
theorem aE1 {f g:SF} (hf:SFB f) (hg:SFB g):Spec Tryz.prog 57 [.bptr [] (sfD f), .bptr [] (sfD g)] [] (bv (dec (f=g))) []:=by
 refine aE (E:=TE) 0 Tryz.func57 rfl (by simp [Tryz.f57]) fun X hn hX=>?_
 obtain⟨a1,a2,a3,a4⟩:=hf
 obtain⟨b1,b2,b3,b4⟩:=hg
 repeat'(first|refine wkQ ?_|refine Tw.f ?_ ?_|(refine kcQ fR ?_;refine krQ (gB ?_ ?_) ?_)|(refine kcQ mM ?_;refine krQ (qS ?_ ?_) ?_)|(refine fun(hc:(_:Bool)=_)=>?_;try simp only [hcS]at hc))
 all_goals try exact om_
 all_goals try((first|refine aB ?_|refine aA ?_);simp only [go_sem,simprocAttr,Tryz.f57];exact cR (fun s=>by subst s;first|contradiction|omega))
 refine aH (G:={i:Nat//i≤f.acts.length∧(f.acts.take i=g.acts.take i)}) (fun⟨i,_⟩=>[(44,iv i)]) [0,1,43] (fun⟨i,_⟩=>[]) [] (fun zz=>f.acts.length-zz.1) ⟨0,Nat.zero_le _,by simp⟩ ?_ ?_
 ·exact Imp.au hX
 rintro⟨i,hii,hwi⟩
 simp only [go_sem,simprocAttr]
 have h7:=a4 i
 have h8:=b4 i
 repeat'(first|refine wkQ ?_|refine Tw.f ?_ ?_|(refine kcQ mM ?_;refine krQ (qS ?_ ?_) ?_)|(refine fun(hc:(_:Bool)=_)=>?_;try simp only [hcS]at hc))
 all_goals try exact om_
 ·(first|refine aB ?_|refine aA ?_);simp only [go_sem,simprocAttr,Tryz.f57]
  exact cR (fun s=>by subst s;exact hc rfl)
 ·refine⟨⟨i+1,by omega,(by exact iV hwi (by omega) (by omega) hc)⟩,by simp only;omega,Imp.ao hX⟩
 ·(first|refine aB ?_|refine aA ?_);simp only [go_sem,simprocAttr,Tryz.f57]
  exact qW (SF.eq (by assumption) (by assumption) (nA hwi (by omega) (by omega)))
end Go.Eng
