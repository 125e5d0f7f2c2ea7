/- Functions of the program: natural maps. -/
import Derived.Test.YtipohdpnhodnmaaGreatKany
set_option linter.unusedSimpArgs false
set_option linter.unusedVariables false
set_option maxRecDepth 100000
set_option maxHeartbeats 8000000
namespace Go.Eng
open Go Go.Proofs Go.Cats
def smD (m:SM):List Dt:=sfD m.src++sfD m.tgt++[aC m.parts]
def smS (ts:List (Nat×Nat)) (m:SM):List Sv:=sfS ts m.src++sfS ts m.tgt++[.bor ts (aC m.parts)]
abbrev smV (m:SM):Sv:= .agg (smS [] m)
section
variable (m:SM) (ts:List (Nat×Nat))
@[go_sem] theorem aXN:(smD m).take 7=sfD m.src:=rfl
@[go_sem] theorem aXO:((smD m).drop 7).take 7=sfD m.tgt:=rfl
@[go_sem] theorem aXM:((smD m).drop 14).take 1=[aC m.parts]:=rfl
@[go_sem] theorem aUl:(smD m).take 15=smD m:=rfl
@[go_sem] theorem aXL:(smD m).length=15:=rfl
@[go_sem] theorem aUm:(smD m).map (Sv.ofDt ts)=smS ts m:=rfl
attribute [go_sem] smS
end
theorem vO:aF Tryz.prog 188:=⟨_,Tryz.func188,rfl,rfl⟩
theorem zS {m:SM} (hb:SMB m) (s1:IsSF m.src) (s2:IsSF m.tgt) (hs:m.src.shape=m.tgt.shape):Spec Tryz.prog 188 [.bptr [] (smD m)] [] (bv (dec (SMFits m))) []:=by
 refine aD (E:=TE) 0 Tryz.func188 rfl (by simp [Tryz.f188]) fun X hn hX=>?_
 obtain⟨b1,b2,b3,b4⟩:=hb
 have hz1:=s1.szl
 have hz2:=s2.szl
 have hw2:=s2.szw
 rw [←hs]at hz2
 repeat'(first|refine wkQ ?_|refine Tw.f ?_ ?_|(refine fun(hc:(_:Bool)=_)=>?_;try simp only [hcS]at hc))
 all_goals try exact om_
 ·(first|refine aB ?_|refine aA ?_);simp only [go_sem,simprocAttr,Tryz.f188]
  exact cW (fun s=>by have:=s.len;omega)
 refine aG (G:={i:Nat//i≤m.parts.length∧(∀x,x<i→((m.parts.getD x []).length:Int)=m.src.sizes.getD x 0∧Within (m.parts.getD x []) (m.tgt.sizes.getD x 0))}) (fun⟨i,_⟩=>[(22,iv i)]) [0,20,21] (fun⟨i,_⟩=>[]) [] (fun zz=>m.parts.length-zz.1) ⟨0,Nat.zero_le _,by omega⟩ ?_ ?_
 ·exact Imp.au hX
 rintro⟨i,hii,hwi⟩
 simp only [go_sem,simprocAttr]
 have h1:=b4 i
 have h2:=hw2 i
 repeat'(first|refine wkQ ?_|refine Tw.f ?_ ?_|(refine kcQ uR ?_;refine krQ (zV ?_ ?_) ?_)|(refine fun(hc:(_:Bool)=_)=>?_;try simp only [hcS]at hc))
 all_goals try exact om_
 ·(first|refine aB ?_|refine aA ?_);simp only [go_sem,simprocAttr,Tryz.f188]
  exact cW (fun s=>hc (s.map i (by omega)))
 ·refine⟨⟨i+1,by omega,(by exact bW hwi hc)⟩,by simp only;omega,Imp.ao hX⟩
 ·(first|refine aB ?_|refine aA ?_);simp only [go_sem,simprocAttr,Tryz.f188]
  exact qF ⟨by omega,fun a ha=>hwi a (by omega)⟩
theorem qI:aF Tryz.prog 114:=⟨_,Tryz.func114,rfl,rfl⟩
theorem sT {m:SM} (hb:SMB m):Spec Tryz.prog 114 [.bptr [] (smD m)] [] (bv (dec (SMShape m))) []:=by
 refine aD (E:=TE) 0 Tryz.func114 rfl (by simp [Tryz.f114]) fun X hn hX=>?_
 have hb1:=hb.src
 have hb2:=hb.tgt
 have hb3:=hb1.shape
 have hb4:=hb2.shape
 repeat'(first|refine wkQ ?_|refine Tw.f ?_ ?_|(refine kcQ qJ ?_;refine ksQ (a:=nV (by first|omega|assumption|rfl|exact(by assumption:SMB _).src|exact(by assumption:SMB _).tgt) (by first|omega|assumption|rfl|exact(by assumption:SMB _).src|exact(by assumption:SMB _).tgt)) (c:=?_))|(refine kcQ tM ?_;refine krQ (wA ?_ ?_) ?_)|(refine kcQ vO ?_;refine krQ (zS ?_ ?_ ?_ ?_) ?_)|(refine fun(hc:(_:Bool)=_)=>?_;try simp only [hcS]at hc))
 all_goals try exact om_
 ·exact(‹IsSF m.src∧IsSF m.tgt›).1
 ·exact(‹IsSF m.src∧IsSF m.tgt›).2
 ·(first|refine aB ?_|refine aA ?_);simp only [go_sem,simprocAttr,Tryz.f114]
  exact congrArg (fun b=>Sv.v (.bool b)) (cB ⟨fun h=>⟨(‹IsSF m.src∧IsSF m.tgt›).1,(‹IsSF m.src∧IsSF m.tgt›).2,hc,h⟩,fun h=>h.fits⟩)
 ·(first|refine aB ?_|refine aA ?_);simp only [go_sem,simprocAttr,Tryz.f114]
  exact cW (fun s=>hc s.same)
 ·(first|refine aB ?_|refine aA ?_);simp only [go_sem,simprocAttr,Tryz.f114]
  exact cW (fun s=>hc ⟨s.src,s.tgt⟩)
theorem oC:aF Tryz.prog 115:=⟨_,Tryz.func115,rfl,rfl⟩
theorem pU {m:SM} (s:SMShape m):Spec Tryz.prog 115 [.bptr [] (smD m)] [] (.tup [iv m.unnat.1,iv m.unnat.2]) []:=by
 refine aD (E:=TE) 0 Tryz.func115 rfl (by simp [Tryz.f115]) fun X hn hX=>?_
 obtain⟨g1,g2,g3,g4⟩:=s
 obtain⟨g4,g5⟩:=g4
 have hC:=g1.cat
 have hl:=g1.szl
 have hz:=g1.szw
 have ha:=g1.acl
 have hact:=g1.act
 have hl2:=g2.szl
 have ha2:=g2.acl
 have hact2:=g2.act
 rw [←g3]at hl2 ha2 hact2
 obtain⟨s1,s2,s3,s4,s5,s6,s7,s8,s9,s10,s11⟩:=hC.toShape
 repeat'(first|refine wkQ ?_|refine Tw.f ?_ ?_|(refine fun(hc:(_:Bool)=_)=>?_;try simp only [hcS]at hc))
 all_goals try exact om_
 refine aG (G:={a:Nat//a≤m.src.shape.fr.length∧(aW a m.bada=none)}) (fun⟨a,_⟩=>[(17,iv a)]) [0,4,16] (fun⟨a,_⟩=>[]) [] (fun zz=>m.src.shape.fr.length-zz.1) ⟨0,Nat.zero_le _,by rfl⟩ ?_ ?_
 ·exact Imp.au hX
 rintro⟨a,hia,hwa⟩
 simp only [go_sem,simprocAttr]
 have h1:=hact a
 have h2:=s5 a
 have h3:=s6 a
 have h4:=hz (m.src.shape.fr.getD a 0).toNat
 repeat'(first|refine wkQ ?_|refine Tw.f ?_ ?_|(refine fun(hc:(_:Bool)=_)=>?_;try simp only [hcS]at hc))
 all_goals try exact om_
 have k1:=h1 (by omega)
 have k2:=g5 (m.src.shape.fr.getD a 0).toNat (by omega)
 have k3:=g5 (m.src.shape.to.getD a 0).toNat (by omega)
 have k4:=hact2 a (by omega)
 refine aG (G:={e:Nat//e≤(m.src.acts.getD a []).length∧((aW e fun e=>m.bad a e)=none)}) (fun⟨e,_⟩=>[(29,iv e)]) [0,4,5,16,17,27,28] (fun⟨e,_⟩=>[]) [] (fun zz=>(m.src.acts.getD a []).length-zz.1) ⟨0,Nat.zero_le _,by rfl⟩ ?_ ?_
 ·exact Imp.au hX
 rintro⟨e,hie,hwe⟩
 simp only [go_sem,simprocAttr]
 have m1:=k1.2 e
 have m2:=k2.2 e
 repeat'(first|refine wkQ ?_|refine Tw.f ?_ ?_|(refine fun(hc:(_:Bool)=_)=>?_;try simp only [hcS]at hc))
 all_goals try exact om_
 ·(first|refine aB ?_|refine aA ?_);simp only [go_sem,simprocAttr,Tryz.f115]
  rw [SM.unnat_1 hwa (by omega) hwe (by omega) (SM.bad_t hc)]
 ·refine⟨⟨e+1,by omega,(by exact aX hwe (SM.bad_f hc))⟩,by simp only;omega,Imp.ao hX⟩
 ·refine⟨⟨a+1,by omega,(by exact aX hwa (bK hwe hie (by omega)))⟩,by simp only;omega,Imp.ao hX⟩
 ·(first|refine aB ?_|refine aA ?_);simp only [go_sem,simprocAttr,Tryz.f115]
  rw [SM.unnat_0 (bK hwa hia (by omega))]
theorem oB:aF Tryz.prog 51:=⟨_,Tryz.func51,rfl,rfl⟩
theorem pT {m:SM} (hb:SMB m):Spec Tryz.prog 51 [.bptr [] (smD m)] [] (bv (dec (IsSM m))) []:=by
 refine aD (E:=TE) 0 Tryz.func51 rfl (by simp [Tryz.f51]) fun X hn hX=>?_
 repeat'(first|refine wkQ ?_|refine Tw.f ?_ ?_|(refine kcQ qI ?_;refine krQ (sT ?_) ?_)|(refine kcQ oC ?_;refine krQ (pU ?_) ?_)|(refine fun(hc:(_:Bool)=_)=>?_;try simp only [hcS]at hc))
 all_goals try exact om_
 ·(first|refine aB ?_|refine aA ?_);simp only [go_sem,simprocAttr,Tryz.f51]
  exact cW (fun s=>hc s.toSMShape)
 ·(first|refine aB ?_|refine aA ?_);simp only [go_sem,simprocAttr,Tryz.f51]
  rw [←jC,cB hc.unnat_neg]
end Go.Eng
