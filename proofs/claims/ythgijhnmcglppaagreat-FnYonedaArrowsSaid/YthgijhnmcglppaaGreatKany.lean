/- Several texts in one: G05, G06, G07, H01. -/
import Derived.Test.YthgijhnmcglppaaGreatKgx
set_option linter.unusedSimpArgs false
set_option linter.unusedVariables false
set_option maxRecDepth 100000
set_option maxHeartbeats 8000000
section
namespace Go.Eng
open Go Go.Proofs Go.Cats
theorem aT1 {a b:Int} (h:a=b):iv a=iv b:=by rw [h]
@[go_sem] theorem aQ8 (k:Int):marks k 0=[]:=rfl
theorem aIk:qA []=0:=rfl
attribute [go_sem] aIk Int.add_zero Int.sub_zero Int.natCast_zero Int.ofNat_zero List.take_zero List.drop_zero
theorem aIj (l:List (List Int)) (i:Nat) (h:i<l.length):(l.getD i []).length≤qA l:=by
 have h2:=aG4 l i h
 have h4:=aK7 l (i+1)
 omega
structure CatL (c:Cat):Prop where
 fr:(c.fr.length:Int)≤9223372036854775807
 to:(c.to.length:Int)≤9223372036854775807
 id:(c.id.length:Int)≤9223372036854775807
 co:(c.co.length:Int)≤9223372036854775807
 row:∀f,f<c.co.length→((c.co.getD f []).length:Int)≤9223372036854775807
def aIB (c:Cat):Nat:=c.fr.length+c.to.length+c.id.length+(c.co.length+qA c.co)
end Go.Eng
end
section
namespace Go.Eng
open Go Go.Proofs Go.Cats
end Go.Eng
end
section
namespace Go.Eng
open Go Go.Proofs Go.Cats
theorem zV:aD Tryz.prog 289:=⟨_,Tryz.func289,rfl,rfl⟩
theorem aCr {l:List Int} {m n:Int} (hn':inR (n-1)) (hl:l.length≤1048576):Spec Tryz.prog 289 [.bor [] (ints l),iv m,iv n] [] (bv (dec ((l.length:Int)=m∧Within l n))) []:=by
 refine aC (E:=TE) 0 Tryz.func289 rfl (by simp [Tryz.f289]) fun X hn hX=>?_
 have ⟨q1,q2⟩:=hn'
 repeat'(first|refine wkQ ?_|refine Tw.f ?_ ?_|(refine kcQ cM ?_;refine krQ (dJ ?_ ?_) ?_)|(refine fun(hc:(_:Bool)=_)=>?_;try simp only [hcS]at hc))
 all_goals try exact om_
 ·(first|refine aB ?_|refine aA ?_);simp only [go_sem,simprocAttr,Tryz.f289]
  exact congrArg (fun b=>Sv.v (.bool b)) (bU ⟨fun h=>⟨hc,h⟩,fun h=>h.2⟩)
 ·(first|refine aB ?_|refine aA ?_);simp only [go_sem,simprocAttr,Tryz.f289]
  exact cD (fun h=>hc h.1)
theorem pD:aD Tryz.prog 232:=⟨_,Tryz.func232,rfl,rfl⟩
theorem qL {f:SF} (hb:SFB f):Spec Tryz.prog 232 [.bptr [] (sfD f)] [] (bv (dec (SFShape f))) []:=by
 refine aC (E:=TE) 0 Tryz.func232 rfl (by simp [Tryz.f232]) fun X hn hX=>?_
 obtain⟨b1,b2,b3,b4⟩:=hb
 repeat'(first|refine wkQ ?_|refine Tw.f ?_ ?_|(refine kcQ bH ?_;refine krQ (bL ?_) ?_)|(refine kcQ cM ?_;refine krQ (dJ ?_ ?_) ?_)|(refine kcQ aQ ?_;refine krQ (aS) ?_)|(refine fun(hc:(_:Bool)=_)=>?_;try simp only [hcS]at hc))
 all_goals try exact om_
 all_goals try((first|refine aB ?_|refine aA ?_);simp only [go_sem,simprocAttr,Tryz.f232];exact cD (fun s=>by obtain⟨s1,s2,s3,s4,s5⟩:=s;first|omega|contradiction))
 have hC:IsCat f.shape:=by assumption
 have hS:Within f.sizes 17:=by assumption
 obtain⟨s1,s2,s3,s4,s5,s6,s7,s8,s9,s10,s11⟩:=hC.toShape
 refine aG (G:={i:Nat//i≤f.acts.length∧(∀a,a<i→((f.acts.getD a []).length:Int)=f.sizes.getD (f.shape.fr.getD a 0).toNat 0∧Within (f.acts.getD a []) (f.sizes.getD (f.shape.to.getD a 0).toNat 0))}) (fun⟨i,_⟩=>[(47,iv i)]) [0,3,45,46] (fun⟨i,_⟩=>[]) [] (fun zz=>f.acts.length-zz.1) ⟨0,Nat.zero_le _,by omega⟩ ?_ ?_
 ·exact Imp.au hX
 rintro⟨i,hii,hwi⟩
 simp only [go_sem,simprocAttr]
 have h1:=s5 i
 have h2:=s6 i
 have h3:=hS (f.shape.to.getD i 0).toNat
 have h4:=b4 i
 repeat'(first|refine wkQ ?_|refine Tw.f ?_ ?_|(refine kcQ zV ?_;refine krQ (aCr ?_ ?_) ?_)|(refine fun(hc:(_:Bool)=_)=>?_;try simp only [hcS]at hc))
 all_goals try exact om_
 ·(first|refine aB ?_|refine aA ?_);simp only [go_sem,simprocAttr,Tryz.f232]
  exact cD (fun s=>hc (s.act i (by omega)))
 ·refine⟨⟨i+1,by omega,(by exact bB hwi hc)⟩,by simp only;omega,Imp.ao hX⟩
 ·(first|refine aB ?_|refine aA ?_);simp only [go_sem,simprocAttr,Tryz.f232]
  exact nD ⟨hC,by assumption,hS,by omega,fun a ha=>hwi a (by omega)⟩
theorem qT:aD Tryz.prog 233:=⟨_,Tryz.func233,rfl,rfl⟩
theorem tH {f:SF} (s:SFShape f):Spec Tryz.prog 233 [.bptr [] (sfD f)] [] (.tup [iv f.fault.1,iv f.fault.2.1,iv f.fault.2.2.1,iv f.fault.2.2.2]) []:=by
 refine aC (E:=TE) 0 Tryz.func233 rfl (by simp [Tryz.f233]) fun X hn hX=>?_
 obtain⟨hC,hz1,hS,hz2,hA⟩:=s
 obtain⟨s1,s2,s3,s4,s5,s6,s7,s8,s9,s10,s11⟩:=hC.toShape
 have hlen:∀a,a<f.acts.length→(f.acts.getD a []).length<17:=fun a ha=>by
  have h1:=(hA a ha).1
  have h2:=hS (f.shape.fr.getD a 0).toNat (by have:=s5 a (by omega);omega)
  omega
 repeat'(first|refine wkQ ?_|refine Tw.f ?_ ?_|(refine fun(hc:(_:Bool)=_)=>?_;try simp only [hcS]at hc))
 all_goals try exact om_
 refine aG (G:={x:Nat//x≤f.shape.id.length∧(aZ x f.fault1x=none)}) (fun⟨x,_⟩=>[(25,iv x)]) [0,6,23,24] (fun⟨x,_⟩=>[]) [] (fun zz=>f.shape.id.length-zz.1) ⟨0,Nat.zero_le _,by rfl⟩ ?_ ?_
 ·exact Imp.au hX
 rintro⟨x,hix,hwx⟩
 simp only [go_sem,simprocAttr]
 have h1:=s8 x
 have h2:=hlen (f.shape.id.getD x 0).toNat
 repeat'(first|refine wkQ ?_|refine Tw.f ?_ ?_|(refine fun(hc:(_:Bool)=_)=>?_;try simp only [hcS]at hc))
 all_goals try exact om_
 refine aG (G:={e:Nat//e≤(f.acts.getD (f.shape.id.getD x 0).toNat []).length∧((aZ e fun e=>f.fault1 x e)=none)}) (fun⟨e,_⟩=>[(38,iv e)]) [0,6,7,23,24,25,36,37] (fun⟨e,_⟩=>[]) [] (fun zz=>(f.acts.getD (f.shape.id.getD x 0).toNat []).length-zz.1) ⟨0,Nat.zero_le _,by rfl⟩ ?_ ?_
 ·exact Imp.au hX
 rintro⟨e,hie,hwe⟩
 simp only [go_sem,simprocAttr]
 repeat'(first|refine wkQ ?_|refine Tw.f ?_ ?_|(refine fun(hc:(_:Bool)=_)=>?_;try simp only [hcS]at hc))
 all_goals try exact om_
 ·(first|refine aB ?_|refine aA ?_);simp only [go_sem,simprocAttr,Tryz.f233]
  rw [SF.fault_1 hwx (by omega) hwe (by omega) (SF.fault1_t hc)]
 ·refine⟨⟨e+1,by omega,(by exact bJ hwe (SF.fault1_f (by omega)))⟩,by simp only;omega,Imp.ao hX⟩
 ·refine⟨⟨x+1,by omega,(by exact bJ hwx (cX hwe hie (by omega)))⟩,by simp only;omega,Imp.ao hX⟩
 have h0:aZ f.shape.id.length f.fault1x=none:=cX hwx hix (by omega)
 clear hwx h1 h2
 refine aG (G:={a:Nat//a≤f.shape.co.length∧(aZ a f.fault2a=none)}) (fun⟨a,_⟩=>[(55,iv a)]) [0,53,54] (fun⟨a,_⟩=>[]) [] (fun zz=>f.shape.co.length-zz.1) ⟨0,Nat.zero_le _,by rfl⟩ ?_ ?_
 ·exact Imp.au hX
 rintro⟨a,hia,hwa⟩
 simp only [go_sem,simprocAttr]
 have h1:=fun h=>(s11 a h).1
 have h2:=hlen a
 have h3:=fun h=>(hA a h).1
 have h4:=s6 a
 repeat'(first|refine wkQ ?_|refine Tw.f ?_ ?_|(refine fun(hc:(_:Bool)=_)=>?_;try simp only [hcS]at hc))
 all_goals try exact om_
 refine aG (G:={b:Nat//b≤(f.shape.co.getD a []).length∧((aZ b fun b=>f.fault2b a b)=none)}) (fun⟨b,_⟩=>[(62,iv b)]) [0,11,53,54,55,60,61] (fun⟨b,_⟩=>[]) [] (fun zz=>(f.shape.co.getD a []).length-zz.1) ⟨0,Nat.zero_le _,by rfl⟩ ?_ ?_
 ·exact Imp.au hX
 rintro⟨b,hib,hwb⟩
 simp only [go_sem,simprocAttr]
 have g1:=fun h=>(s11 a h).2 b
 have g2:=s5 b
 repeat'(first|refine wkQ ?_|refine Tw.f ?_ ?_|(refine fun(hc:(_:Bool)=_)=>?_;try simp only [hcS]at hc))
 all_goals try exact om_
 ·refine⟨⟨b+1,by omega,(by exact bJ hwb (SF.fault2b_f hc))⟩,by simp only;omega,Imp.ao hX⟩
 have hb1:0≤(f.shape.co.getD a []).getD b 0:=by assumption
 have hb2:a<f.shape.fr.length:=by omega
 have hb3:b<f.shape.fr.length:=by have:=h1 hb2;omega
 have hE:=g1 hb2 hb3
 have k1:=hA ((f.shape.co.getD a []).getD b 0).toNat
 have k2:=hA b (by omega)
 have k3:=hA a (by omega)
 have k4:(f.acts.getD ((f.shape.co.getD a []).getD b 0).toNat []).length=(f.acts.getD a []).length:=by
  simp only [Cat.Entry,Cat.F,Cat.T,Cat.C,Int.toNat_natCast]at hE
  have:=k1 (by omega)
  rcases hE with⟨_,q1,q2,_⟩|⟨_,q⟩
  ·rw [q2]at this;omega
  ·omega
 have k5:f.shape.to.getD a 0=f.shape.fr.getD b 0:=by
  simp only [Cat.Entry,Cat.F,Cat.T,Cat.C,Int.toNat_natCast]at hE
  rcases hE with⟨q,_⟩|⟨_,q⟩
  ·exact q
  ·omega
 clear g1 g2 k1
 refine aG (G:={e:Nat//e≤(f.acts.getD a []).length∧((aZ e fun e=>f.fault2 a b e)=none)}) (fun⟨e,_⟩=>[(77,iv e)]) [0,11,13,14,53,54,55,60,61,62,75,76] (fun⟨e,_⟩=>[]) [] (fun zz=>(f.acts.getD a []).length-zz.1) ⟨0,Nat.zero_le _,by rfl⟩ ?_ ?_
 ·exact Imp.au hX
 rintro⟨e,hie,hwe⟩
 simp only [go_sem,simprocAttr]
 have m1:=k3.2 e
 rw [k5]at m1
 have m2:=k2.1
 simp only [Cat.Entry,Cat.F,Cat.T,Cat.C,Int.toNat_natCast]at hE
 repeat'(first|refine wkQ ?_|refine Tw.f ?_ ?_|(refine fun(hc:(_:Bool)=_)=>?_;try simp only [hcS]at hc))
 all_goals try exact om_
 ·(first|refine aB ?_|refine aA ?_);simp only [go_sem,simprocAttr,Tryz.f233]
  rw [SF.fault_2 h0 hwa (by omega) hwb (by omega) (by omega) hwe (by omega) (SF.fault2_t hc)]
 ·refine⟨⟨e+1,by omega,(by exact bJ hwe (SF.fault2_f hc))⟩,by simp only;omega,Imp.ao hX⟩
 ·refine⟨⟨b+1,by omega,(by exact bJ hwb (by rw [SF.fault2b_t (by omega)];exact cX hwe hie (by omega)))⟩,by simp only;omega,Imp.ao hX⟩
 ·refine⟨⟨a+1,by omega,(by exact bJ hwa (cX hwb hib (by omega)))⟩,by simp only;omega,Imp.ao hX⟩
 ·(first|refine aB ?_|refine aA ?_);simp only [go_sem,simprocAttr,Tryz.f233]
  rw [SF.fault_0 h0 (cX hwa hia (by omega))]
theorem lH:aD Tryz.prog 148:=⟨_,Tryz.func148,rfl,rfl⟩
theorem mU {f:SF} (hb:SFB f):Spec Tryz.prog 148 [.bptr [] (sfD f)] [] (bv (dec (IsSF f))) []:=by
 refine aC (E:=TE) 0 Tryz.func148 rfl (by simp [Tryz.f148]) fun X hn hX=>?_
 repeat'(first|refine wkQ ?_|refine Tw.f ?_ ?_|(refine kcQ pD ?_;refine krQ (qL ?_) ?_)|(refine kcQ qT ?_;refine krQ (tH ?_) ?_)|(refine fun(hc:(_:Bool)=_)=>?_;try simp only [hcS]at hc))
 all_goals try exact om_
 ·(first|refine aB ?_|refine aA ?_);simp only [go_sem,simprocAttr,Tryz.f148]
  exact cD (fun s=>hc s.toSFShape)
 ·(first|refine aB ?_|refine aA ?_);simp only [go_sem,simprocAttr,Tryz.f148]
  rw [←nZ,bU hc.fault_zero]
def aEX (f0:SF) (l:List SF):Dt:= .sl 1 (.pt (sfD f0)) (l.map fun f=> .pt (sfD f))
@[go_sem] theorem aS3 (f0 l):(aEX f0 l).isSl=true:=rfl
@[go_sem] theorem aXv (f0 l):(aEX f0 l).sz=1:=rfl
@[go_sem] theorem aXu (f0) (l:List SF):(aEX f0 l).nc=l.length:=by simp [aEX,Dt.nc,Dt.cells]
@[go_sem] theorem aUK (f0) (l:List SF):(aEX f0 l).len=l.length:=by simp [aEX,Dt.len,Dt.sz,Dt.nc,Dt.cells]
@[go_sem] theorem aXt (f0) (l:List SF) (k:Nat):(aEX f0 l).at k= .pt (sfD (l.getD k f0)):=by
 simp only [aEX,Dt.at,Dt.cells,Dt.df,List.getD_eq_getElem?_getD,List.getElem?_map]
 cases l[k]? <;>simp
theorem uE:aD Tryz.prog 222:=⟨_,Tryz.func222,rfl,rfl⟩
theorem xM {f0:SF} {l:List SF} (hl:l.length≤1048576) (hb:∀i,i<l.length→SFB (l.getD i f0)):Spec Tryz.prog 222 [.bor [] (aEX f0 l)] [] (bv (dec (∀i,i<l.length→IsSF (l.getD i f0)))) []:=by
 refine aC (E:=TE) 0 Tryz.func222 rfl (by simp [Tryz.f222]) fun X hn hX=>?_
 repeat'(first|refine wkQ ?_|refine Tw.f ?_ ?_|(refine fun(hc:(_:Bool)=_)=>?_;try simp only [hcS]at hc))
 all_goals try exact om_
 refine aG (G:={i:Nat//i≤l.length∧(∀j,j<i→IsSF (l.getD j f0))}) (fun⟨i,_⟩=>[(7,iv i)]) [5,6] (fun⟨i,_⟩=>[]) [] (fun zz=>l.length-zz.1) ⟨0,Nat.zero_le _,by omega⟩ ?_ ?_
 ·exact Imp.au hX
 rintro⟨i,hii,hwi⟩
 simp only [go_sem,simprocAttr]
 have h1:=hb i
 repeat'(first|refine wkQ ?_|refine Tw.f ?_ ?_|(refine kcQ lH ?_;refine krQ (mU ?_) ?_)|(refine fun(hc:(_:Bool)=_)=>?_;try simp only [hcS]at hc))
 all_goals try exact h1 (by omega)
 all_goals try exact om_
 ·(first|refine aB ?_|refine aA ?_);simp only [go_sem,simprocAttr,Tryz.f222]
  exact cD (fun s=>hc (s i (by omega)))
 ·refine⟨⟨i+1,by omega,(by exact bB hwi hc)⟩,by simp only;omega,Imp.ao hX⟩
 ·(first|refine aB ?_|refine aA ?_);simp only [go_sem,simprocAttr,Tryz.f222]
  exact nD (fun j hj=>hwi j (by omega))
theorem qM {f g:SF} (hf:SFB f) (hg:SFB g):Spec Tryz.prog 222 [.bor [] (.sl 1 (.pt (sfD f)) [.pt (sfD f), .pt (sfD g)])] [] (bv (dec (IsSF f∧IsSF g))) []:=by
 have:=xM (f0:=f) (l:=[f,g]) (by simp) (fun i hi=>by
  have:i=0∨i=1:=by simp at hi;omega
  rcases this with rfl|rfl
  ·exact hf
  ·exact hg)
 rw [bU (Q:=IsSF f∧IsSF g)]at this
 ·exact this
 ·constructor
  ·intro h;exact⟨h 0 (by simp),h 1 (by simp)⟩
  ·intro h i hi
   have:i=0∨i=1:=by simp at hi;omega
   rcases this with rfl|rfl
   ·exact h.1
   ·exact h.2
end Go.Eng
end
section
namespace Go.Eng
open Go Go.Proofs Go.Cats
def smD (m:SM):List Dt:=sfD m.src++sfD m.tgt++[aF m.parts]
def smS (ts:List (Nat×Nat)) (m:SM):List Sv:=sfS ts m.src++sfS ts m.tgt++[.bor ts (aF m.parts)]
abbrev smV (m:SM):Sv:= .agg (smS [] m)
section
variable (m:SM) (ts:List (Nat×Nat))
@[go_sem] theorem bBf:(smD m).take 7=sfD m.src:=rfl
@[go_sem] theorem bBg:((smD m).drop 7).take 7=sfD m.tgt:=rfl
@[go_sem] theorem bBe:((smD m).drop 14).take 1=[aF m.parts]:=rfl
@[go_sem] theorem aXw:(smD m).take 15=smD m:=rfl
@[go_sem] theorem bBd:(smD m).length=15:=rfl
@[go_sem] theorem aXx:(smD m).map (Sv.ofDt ts)=smS ts m:=rfl
attribute [go_sem] smS
end
theorem aAt:aD Tryz.prog 281:=⟨_,Tryz.func281,rfl,rfl⟩
theorem aCo {m:SM} (hb:SMB m) (s1:IsSF m.src) (s2:IsSF m.tgt) (hs:m.src.shape=m.tgt.shape):Spec Tryz.prog 281 [.bptr [] (smD m)] [] (bv (dec (SMFits m))) []:=by
 refine aC (E:=TE) 0 Tryz.func281 rfl (by simp [Tryz.f281]) fun X hn hX=>?_
 obtain⟨b1,b2,b3,b4⟩:=hb
 have hz1:=s1.szl
 have hz2:=s2.szl
 have hw2:=s2.szw
 rw [←hs]at hz2
 repeat'(first|refine wkQ ?_|refine Tw.f ?_ ?_|(refine fun(hc:(_:Bool)=_)=>?_;try simp only [hcS]at hc))
 all_goals try exact om_
 ·(first|refine aB ?_|refine aA ?_);simp only [go_sem,simprocAttr,Tryz.f281]
  exact cD (fun s=>by have:=s.len;omega)
 refine aG (G:={i:Nat//i≤m.parts.length∧(∀x,x<i→((m.parts.getD x []).length:Int)=m.src.sizes.getD x 0∧Within (m.parts.getD x []) (m.tgt.sizes.getD x 0))}) (fun⟨i,_⟩=>[(22,iv i)]) [0,20,21] (fun⟨i,_⟩=>[]) [] (fun zz=>m.parts.length-zz.1) ⟨0,Nat.zero_le _,by omega⟩ ?_ ?_
 ·exact Imp.au hX
 rintro⟨i,hii,hwi⟩
 simp only [go_sem,simprocAttr]
 have h1:=b4 i
 have h2:=hw2 i
 repeat'(first|refine wkQ ?_|refine Tw.f ?_ ?_|(refine kcQ zV ?_;refine krQ (aCr ?_ ?_) ?_)|(refine fun(hc:(_:Bool)=_)=>?_;try simp only [hcS]at hc))
 all_goals try exact om_
 ·(first|refine aB ?_|refine aA ?_);simp only [go_sem,simprocAttr,Tryz.f281]
  exact cD (fun s=>hc (s.map i (by omega)))
 ·refine⟨⟨i+1,by omega,(by exact bB hwi hc)⟩,by simp only;omega,Imp.ao hX⟩
 ·(first|refine aB ?_|refine aA ?_);simp only [go_sem,simprocAttr,Tryz.f281]
  exact nD ⟨by omega,fun a ha=>hwi a (by omega)⟩
theorem uD:aD Tryz.prog 215:=⟨_,Tryz.func215,rfl,rfl⟩
theorem xK {m:SM} (hb:SMB m):Spec Tryz.prog 215 [.bptr [] (smD m)] [] (bv (dec (SMShape m))) []:=by
 refine aC (E:=TE) 0 Tryz.func215 rfl (by simp [Tryz.f215]) fun X hn hX=>?_
 have hb1:=hb.src
 have hb2:=hb.tgt
 have hb3:=hb1.shape
 have hb4:=hb2.shape
 repeat'(first|refine wkQ ?_|refine Tw.f ?_ ?_|(refine kcQ uE ?_;refine ksQ (a:=qM (by first|omega|assumption|rfl|exact(by assumption:SMB _).src|exact(by assumption:SMB _).tgt) (by first|omega|assumption|rfl|exact(by assumption:SMB _).src|exact(by assumption:SMB _).tgt)) (c:=?_))|(refine kcQ kF ?_;refine krQ (lC ?_ ?_) ?_)|(refine kcQ aAt ?_;refine krQ (aCo ?_ ?_ ?_ ?_) ?_)|(refine fun(hc:(_:Bool)=_)=>?_;try simp only [hcS]at hc))
 all_goals try exact om_
 ·exact(‹IsSF m.src∧IsSF m.tgt›).1
 ·exact(‹IsSF m.src∧IsSF m.tgt›).2
 ·(first|refine aB ?_|refine aA ?_);simp only [go_sem,simprocAttr,Tryz.f215]
  exact congrArg (fun b=>Sv.v (.bool b)) (bU ⟨fun h=>⟨(‹IsSF m.src∧IsSF m.tgt›).1,(‹IsSF m.src∧IsSF m.tgt›).2,hc,h⟩,fun h=>h.fits⟩)
 ·(first|refine aB ?_|refine aA ?_);simp only [go_sem,simprocAttr,Tryz.f215]
  exact cD (fun s=>hc s.same)
 ·(first|refine aB ?_|refine aA ?_);simp only [go_sem,simprocAttr,Tryz.f215]
  exact cD (fun s=>hc ⟨s.src,s.tgt⟩)
theorem qU:aD Tryz.prog 216:=⟨_,Tryz.func216,rfl,rfl⟩
theorem tI {m:SM} (s:SMShape m):Spec Tryz.prog 216 [.bptr [] (smD m)] [] (.tup [iv m.unnat.1,iv m.unnat.2]) []:=by
 refine aC (E:=TE) 0 Tryz.func216 rfl (by simp [Tryz.f216]) fun X hn hX=>?_
 obtain⟨g1,g2,g3,g4⟩:=s
 obtain⟨g4,g5⟩:=g4
 have hC:=g1.cat
 have hl:=g1.szl
 have hz:=g1.szw
 have ha:=g1.acl
 have hact:=g1.act
 have hl2:=g2.szl
 have ha2:=g2.acl
 have hact2:=g2.act
 rw [←g3]at hl2 ha2 hact2
 obtain⟨s1,s2,s3,s4,s5,s6,s7,s8,s9,s10,s11⟩:=hC.toShape
 repeat'(first|refine wkQ ?_|refine Tw.f ?_ ?_|(refine fun(hc:(_:Bool)=_)=>?_;try simp only [hcS]at hc))
 all_goals try exact om_
 refine aG (G:={a:Nat//a≤m.src.shape.fr.length∧(aZ a m.bada=none)}) (fun⟨a,_⟩=>[(17,iv a)]) [0,4,16] (fun⟨a,_⟩=>[]) [] (fun zz=>m.src.shape.fr.length-zz.1) ⟨0,Nat.zero_le _,by rfl⟩ ?_ ?_
 ·exact Imp.au hX
 rintro⟨a,hia,hwa⟩
 simp only [go_sem,simprocAttr]
 have h1:=hact a
 have h2:=s5 a
 have h3:=s6 a
 have h4:=hz (m.src.shape.fr.getD a 0).toNat
 repeat'(first|refine wkQ ?_|refine Tw.f ?_ ?_|(refine fun(hc:(_:Bool)=_)=>?_;try simp only [hcS]at hc))
 all_goals try exact om_
 have k1:=h1 (by omega)
 have k2:=g5 (m.src.shape.fr.getD a 0).toNat (by omega)
 have k3:=g5 (m.src.shape.to.getD a 0).toNat (by omega)
 have k4:=hact2 a (by omega)
 refine aG (G:={e:Nat//e≤(m.src.acts.getD a []).length∧((aZ e fun e=>m.bad a e)=none)}) (fun⟨e,_⟩=>[(29,iv e)]) [0,4,5,16,17,27,28] (fun⟨e,_⟩=>[]) [] (fun zz=>(m.src.acts.getD a []).length-zz.1) ⟨0,Nat.zero_le _,by rfl⟩ ?_ ?_
 ·exact Imp.au hX
 rintro⟨e,hie,hwe⟩
 simp only [go_sem,simprocAttr]
 have m1:=k1.2 e
 have m2:=k2.2 e
 repeat'(first|refine wkQ ?_|refine Tw.f ?_ ?_|(refine fun(hc:(_:Bool)=_)=>?_;try simp only [hcS]at hc))
 all_goals try exact om_
 ·(first|refine aB ?_|refine aA ?_);simp only [go_sem,simprocAttr,Tryz.f216]
  rw [SM.unnat_1 hwa (by omega) hwe (by omega) (SM.bad_t hc)]
 ·refine⟨⟨e+1,by omega,(by exact bJ hwe (SM.bad_f hc))⟩,by simp only;omega,Imp.ao hX⟩
 ·refine⟨⟨a+1,by omega,(by exact bJ hwa (cX hwe hie (by omega)))⟩,by simp only;omega,Imp.ao hX⟩
 ·(first|refine aB ?_|refine aA ?_);simp only [go_sem,simprocAttr,Tryz.f216]
  rw [SM.unnat_0 (cX hwa hia (by omega))]
theorem eV:aD Tryz.prog 121:=⟨_,Tryz.func121,rfl,rfl⟩
theorem fJ {m:SM} (hb:SMB m):Spec Tryz.prog 121 [.bptr [] (smD m)] [] (bv (dec (IsSM m))) []:=by
 refine aC (E:=TE) 0 Tryz.func121 rfl (by simp [Tryz.f121]) fun X hn hX=>?_
 repeat'(first|refine wkQ ?_|refine Tw.f ?_ ?_|(refine kcQ uD ?_;refine krQ (xK ?_) ?_)|(refine kcQ qU ?_;refine krQ (tI ?_) ?_)|(refine fun(hc:(_:Bool)=_)=>?_;try simp only [hcS]at hc))
 all_goals try exact om_
 ·(first|refine aB ?_|refine aA ?_);simp only [go_sem,simprocAttr,Tryz.f121]
  exact cD (fun s=>hc s.toSMShape)
 ·(first|refine aB ?_|refine aA ?_);simp only [go_sem,simprocAttr,Tryz.f121]
  rw [←nZ,bU hc.unnat_neg]
theorem vV:aD Tryz.prog 122:=⟨_,Tryz.func122,rfl,rfl⟩
theorem aAp {f g:SF} (hf:SFB f) (hg:SFB g):Spec Tryz.prog 122 [.bptr [] (sfD f), .bptr [] (sfD g)] [] (bv (dec (f=g))) []:=by
 refine aC (E:=TE) 0 Tryz.func122 rfl (by simp [Tryz.f122]) fun X hn hX=>?_
 obtain⟨a1,a2,a3,a4⟩:=hf
 obtain⟨b1,b2,b3,b4⟩:=hg
 repeat'(first|refine wkQ ?_|refine Tw.f ?_ ?_|(refine kcQ kF ?_;refine krQ (lC ?_ ?_) ?_)|(refine kcQ vT ?_;refine krQ (aBe ?_ ?_) ?_)|(refine fun(hc:(_:Bool)=_)=>?_;try simp only [hcS]at hc))
 all_goals try exact om_
 all_goals try((first|refine aB ?_|refine aA ?_);simp only [go_sem,simprocAttr,Tryz.f122];exact cD (fun s=>by subst s;first|contradiction|omega))
 refine aG (G:={i:Nat//i≤f.acts.length∧(f.acts.take i=g.acts.take i)}) (fun⟨i,_⟩=>[(44,iv i)]) [0,1,43] (fun⟨i,_⟩=>[]) [] (fun zz=>f.acts.length-zz.1) ⟨0,Nat.zero_le _,by simp⟩ ?_ ?_
 ·exact Imp.au hX
 rintro⟨i,hii,hwi⟩
 simp only [go_sem,simprocAttr]
 have h7:=a4 i
 have h8:=b4 i
 repeat'(first|refine wkQ ?_|refine Tw.f ?_ ?_|(refine kcQ vT ?_;refine krQ (aBe ?_ ?_) ?_)|(refine fun(hc:(_:Bool)=_)=>?_;try simp only [hcS]at hc))
 all_goals try exact om_
 ·(first|refine aB ?_|refine aA ?_);simp only [go_sem,simprocAttr,Tryz.f122]
  exact cD (fun s=>by subst s;exact hc rfl)
 ·refine⟨⟨i+1,by omega,(by exact kN hwi (by omega) (by omega) hc)⟩,by simp only;omega,Imp.ao hX⟩
 ·(first|refine aB ?_|refine aA ?_);simp only [go_sem,simprocAttr,Tryz.f122]
  exact nD (SF.eq (by assumption) (by assumption) (sM hwi (by omega) (by omega)))
end Go.Eng
end
