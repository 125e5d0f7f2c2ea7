/- Several texts in one: G05, G06, G07. -/
import Derived.Test.YtipohdpnhodnmaaGreatKgx
set_option linter.unusedSimpArgs false
set_option linter.unusedVariables false
set_option maxRecDepth 100000
set_option maxHeartbeats 8000000
section
namespace Go.Eng
open Go Go.Proofs Go.Cats
@[go_sem] theorem aOP (k:Int):marks k 0=[]:=rfl
theorem aGn:oF []=0:=rfl
attribute [go_sem] aGn Int.add_zero Int.sub_zero Int.natCast_zero Int.ofNat_zero List.take_zero List.drop_zero
theorem aGm (l:List (List Int)) (i:Nat) (h:i<l.length):(l.getD i []).length≤oF l:=by
 have h2:=aFc l i h
 have h4:=aIR l (i+1)
 omega
structure CatL (c:Cat):Prop where
 fr:(c.fr.length:Int)≤9223372036854775807
 to:(c.to.length:Int)≤9223372036854775807
 id:(c.id.length:Int)≤9223372036854775807
 co:(c.co.length:Int)≤9223372036854775807
 row:∀f,f<c.co.length→((c.co.getD f []).length:Int)≤9223372036854775807
def aGH (c:Cat):Nat:=c.fr.length+c.to.length+c.id.length+(c.co.length+oF c.co)
end Go.Eng
end
section
namespace Go.Eng
open Go Go.Proofs Go.Cats
end Go.Eng
end
section
namespace Go.Eng
open Go Go.Proofs Go.Cats
theorem wH:aF Tryz.prog 190:=⟨_,Tryz.func190,rfl,rfl⟩
theorem aAA {l:List Int} {m n:Int} (hn':inR (n-1)) (hl:l.length≤1048576):Spec Tryz.prog 190 [.bor [] (ints l),iv m,iv n] [] (bv (dec ((l.length:Int)=m∧Within l n))) []:=by
 refine aE (E:=TE) 0 Tryz.func190 rfl (by simp [Tryz.f190]) fun X hn hX=>?_
 have ⟨q1,q2⟩:=hn'
 repeat'(first|refine wkQ ?_|refine Tw.f ?_ ?_|(refine kcQ iG ?_;refine krQ (kF ?_ ?_) ?_)|(refine fun(hc:(_:Bool)=_)=>?_;try simp only [hcS]at hc))
 all_goals try exact om_
 ·(first|refine aB ?_|refine aA ?_);simp only [go_sem,simprocAttr,Tryz.f190]
  exact congrArg (fun b=>Sv.v (.bool b)) (cI ⟨fun h=>⟨hc,h⟩,fun h=>h.2⟩)
 ·(first|refine aB ?_|refine aA ?_);simp only [go_sem,simprocAttr,Tryz.f190]
  exact cR (fun h=>hc h.1)
theorem nG:aF Tryz.prog 119:=⟨_,Tryz.func119,rfl,rfl⟩
theorem oP {f:SF} (hb:SFB f):Spec Tryz.prog 119 [.bptr [] (sfD f)] [] (bv (dec (SFShape f))) []:=by
 refine aE (E:=TE) 0 Tryz.func119 rfl (by simp [Tryz.f119]) fun X hn hX=>?_
 obtain⟨b1,b2,b3,b4⟩:=hb
 repeat'(first|refine wkQ ?_|refine Tw.f ?_ ?_|(refine kcQ mK ?_;refine krQ (oA ?_) ?_)|(refine kcQ iG ?_;refine krQ (kF ?_ ?_) ?_)|(refine kcQ bW ?_;refine krQ (cK) ?_)|(refine fun(hc:(_:Bool)=_)=>?_;try simp only [hcS]at hc))
 all_goals try exact om_
 all_goals try((first|refine aB ?_|refine aA ?_);simp only [go_sem,simprocAttr,Tryz.f119];exact cR (fun s=>by obtain⟨s1,s2,s3,s4,s5⟩:=s;first|omega|contradiction))
 have hC:IsCat f.shape:=by assumption
 have hS:Within f.sizes 17:=by assumption
 obtain⟨s1,s2,s3,s4,s5,s6,s7,s8,s9,s10,s11⟩:=hC.toShape
 refine aH (G:={i:Nat//i≤f.acts.length∧(∀a,a<i→((f.acts.getD a []).length:Int)=f.sizes.getD (f.shape.fr.getD a 0).toNat 0∧Within (f.acts.getD a []) (f.sizes.getD (f.shape.to.getD a 0).toNat 0))}) (fun⟨i,_⟩=>[(47,iv i)]) [0,3,45,46] (fun⟨i,_⟩=>[]) [] (fun zz=>f.acts.length-zz.1) ⟨0,Nat.zero_le _,by omega⟩ ?_ ?_
 ·exact Imp.au hX
 rintro⟨i,hii,hwi⟩
 simp only [go_sem,simprocAttr]
 have h1:=s5 i
 have h2:=s6 i
 have h3:=hS (f.shape.to.getD i 0).toNat
 have h4:=b4 i
 repeat'(first|refine wkQ ?_|refine Tw.f ?_ ?_|(refine kcQ wH ?_;refine krQ (aAA ?_ ?_) ?_)|(refine fun(hc:(_:Bool)=_)=>?_;try simp only [hcS]at hc))
 all_goals try exact om_
 ·(first|refine aB ?_|refine aA ?_);simp only [go_sem,simprocAttr,Tryz.f119]
  exact cR (fun s=>hc (s.act i (by omega)))
 ·refine⟨⟨i+1,by omega,(by exact cB hwi hc)⟩,by simp only;omega,Imp.ao hX⟩
 ·(first|refine aB ?_|refine aA ?_);simp only [go_sem,simprocAttr,Tryz.f119]
  exact qW ⟨hC,by assumption,hS,by omega,fun a ha=>hwi a (by omega)⟩
theorem oX:aF Tryz.prog 120:=⟨_,Tryz.func120,rfl,rfl⟩
theorem rC {f:SF} (s:SFShape f):Spec Tryz.prog 120 [.bptr [] (sfD f)] [] (.tup [iv f.fault.1,iv f.fault.2.1,iv f.fault.2.2.1,iv f.fault.2.2.2]) []:=by
 refine aE (E:=TE) 0 Tryz.func120 rfl (by simp [Tryz.f120]) fun X hn hX=>?_
 obtain⟨hC,hz1,hS,hz2,hA⟩:=s
 obtain⟨s1,s2,s3,s4,s5,s6,s7,s8,s9,s10,s11⟩:=hC.toShape
 have hlen:∀a,a<f.acts.length→(f.acts.getD a []).length<17:=fun a ha=>by
  have h1:=(hA a ha).1
  have h2:=hS (f.shape.fr.getD a 0).toNat (by have:=s5 a (by omega);omega)
  omega
 repeat'(first|refine wkQ ?_|refine Tw.f ?_ ?_|(refine fun(hc:(_:Bool)=_)=>?_;try simp only [hcS]at hc))
 all_goals try exact om_
 refine aH (G:={x:Nat//x≤f.shape.id.length∧(aV x f.fault1x=none)}) (fun⟨x,_⟩=>[(25,iv x)]) [0,6,23,24] (fun⟨x,_⟩=>[]) [] (fun zz=>f.shape.id.length-zz.1) ⟨0,Nat.zero_le _,by rfl⟩ ?_ ?_
 ·exact Imp.au hX
 rintro⟨x,hix,hwx⟩
 simp only [go_sem,simprocAttr]
 have h1:=s8 x
 have h2:=hlen (f.shape.id.getD x 0).toNat
 repeat'(first|refine wkQ ?_|refine Tw.f ?_ ?_|(refine fun(hc:(_:Bool)=_)=>?_;try simp only [hcS]at hc))
 all_goals try exact om_
 refine aH (G:={e:Nat//e≤(f.acts.getD (f.shape.id.getD x 0).toNat []).length∧((aV e fun e=>f.fault1 x e)=none)}) (fun⟨e,_⟩=>[(38,iv e)]) [0,6,7,23,24,25,36,37] (fun⟨e,_⟩=>[]) [] (fun zz=>(f.acts.getD (f.shape.id.getD x 0).toNat []).length-zz.1) ⟨0,Nat.zero_le _,by rfl⟩ ?_ ?_
 ·exact Imp.au hX
 rintro⟨e,hie,hwe⟩
 simp only [go_sem,simprocAttr]
 repeat'(first|refine wkQ ?_|refine Tw.f ?_ ?_|(refine fun(hc:(_:Bool)=_)=>?_;try simp only [hcS]at hc))
 all_goals try exact om_
 ·(first|refine aB ?_|refine aA ?_);simp only [go_sem,simprocAttr,Tryz.f120]
  rw [SF.fault_1 hwx (by omega) hwe (by omega) (SF.fault1_t hc)]
 ·refine⟨⟨e+1,by omega,(by exact aW hwe (SF.fault1_f (by omega)))⟩,by simp only;omega,Imp.ao hX⟩
 ·refine⟨⟨x+1,by omega,(by exact aW hwx (bJ hwe hie (by omega)))⟩,by simp only;omega,Imp.ao hX⟩
 have h0:aV f.shape.id.length f.fault1x=none:=bJ hwx hix (by omega)
 clear hwx h1 h2
 refine aH (G:={a:Nat//a≤f.shape.co.length∧(aV a f.fault2a=none)}) (fun⟨a,_⟩=>[(55,iv a)]) [0,53,54] (fun⟨a,_⟩=>[]) [] (fun zz=>f.shape.co.length-zz.1) ⟨0,Nat.zero_le _,by rfl⟩ ?_ ?_
 ·exact Imp.au hX
 rintro⟨a,hia,hwa⟩
 simp only [go_sem,simprocAttr]
 have h1:=fun h=>(s11 a h).1
 have h2:=hlen a
 have h3:=fun h=>(hA a h).1
 have h4:=s6 a
 repeat'(first|refine wkQ ?_|refine Tw.f ?_ ?_|(refine fun(hc:(_:Bool)=_)=>?_;try simp only [hcS]at hc))
 all_goals try exact om_
 refine aH (G:={b:Nat//b≤(f.shape.co.getD a []).length∧((aV b fun b=>f.fault2b a b)=none)}) (fun⟨b,_⟩=>[(62,iv b)]) [0,11,53,54,55,60,61] (fun⟨b,_⟩=>[]) [] (fun zz=>(f.shape.co.getD a []).length-zz.1) ⟨0,Nat.zero_le _,by rfl⟩ ?_ ?_
 ·exact Imp.au hX
 rintro⟨b,hib,hwb⟩
 simp only [go_sem,simprocAttr]
 have g1:=fun h=>(s11 a h).2 b
 have g2:=s5 b
 repeat'(first|refine wkQ ?_|refine Tw.f ?_ ?_|(refine fun(hc:(_:Bool)=_)=>?_;try simp only [hcS]at hc))
 all_goals try exact om_
 ·refine⟨⟨b+1,by omega,(by exact aW hwb (SF.fault2b_f hc))⟩,by simp only;omega,Imp.ao hX⟩
 have hb1:0≤(f.shape.co.getD a []).getD b 0:=by assumption
 have hb2:a<f.shape.fr.length:=by omega
 have hb3:b<f.shape.fr.length:=by have:=h1 hb2;omega
 have hE:=g1 hb2 hb3
 have k1:=hA ((f.shape.co.getD a []).getD b 0).toNat
 have k2:=hA b (by omega)
 have k3:=hA a (by omega)
 have k4:(f.acts.getD ((f.shape.co.getD a []).getD b 0).toNat []).length=(f.acts.getD a []).length:=by
  simp only [Cat.Entry,Cat.F,Cat.T,Cat.C,Int.toNat_natCast]at hE
  have:=k1 (by omega)
  rcases hE with⟨_,q1,q2,_⟩|⟨_,q⟩
  ·rw [q2]at this;omega
  ·omega
 have k5:f.shape.to.getD a 0=f.shape.fr.getD b 0:=by
  simp only [Cat.Entry,Cat.F,Cat.T,Cat.C,Int.toNat_natCast]at hE
  rcases hE with⟨q,_⟩|⟨_,q⟩
  ·exact q
  ·omega
 clear g1 g2 k1
 refine aH (G:={e:Nat//e≤(f.acts.getD a []).length∧((aV e fun e=>f.fault2 a b e)=none)}) (fun⟨e,_⟩=>[(77,iv e)]) [0,11,13,14,53,54,55,60,61,62,75,76] (fun⟨e,_⟩=>[]) [] (fun zz=>(f.acts.getD a []).length-zz.1) ⟨0,Nat.zero_le _,by rfl⟩ ?_ ?_
 ·exact Imp.au hX
 rintro⟨e,hie,hwe⟩
 simp only [go_sem,simprocAttr]
 have m1:=k3.2 e
 rw [k5]at m1
 have m2:=k2.1
 simp only [Cat.Entry,Cat.F,Cat.T,Cat.C,Int.toNat_natCast]at hE
 repeat'(first|refine wkQ ?_|refine Tw.f ?_ ?_|(refine fun(hc:(_:Bool)=_)=>?_;try simp only [hcS]at hc))
 all_goals try exact om_
 ·(first|refine aB ?_|refine aA ?_);simp only [go_sem,simprocAttr,Tryz.f120]
  rw [SF.fault_2 h0 hwa (by omega) hwb (by omega) (by omega) hwe (by omega) (SF.fault2_t hc)]
 ·refine⟨⟨e+1,by omega,(by exact aW hwe (SF.fault2_f hc))⟩,by simp only;omega,Imp.ao hX⟩
 ·refine⟨⟨b+1,by omega,(by exact aW hwb (by rw [SF.fault2b_t (by omega)];exact bJ hwe hie (by omega)))⟩,by simp only;omega,Imp.ao hX⟩
 ·refine⟨⟨a+1,by omega,(by exact aW hwa (bJ hwb hib (by omega)))⟩,by simp only;omega,Imp.ao hX⟩
 ·(first|refine aB ?_|refine aA ?_);simp only [go_sem,simprocAttr,Tryz.f120]
  rw [SF.fault_0 h0 (bJ hwa hia (by omega))]
theorem fA:aF Tryz.prog 59:=⟨_,Tryz.func59,rfl,rfl⟩
theorem fN {f:SF} (hb:SFB f):Spec Tryz.prog 59 [.bptr [] (sfD f)] [] (bv (dec (IsSF f))) []:=by
 refine aE (E:=TE) 0 Tryz.func59 rfl (by simp [Tryz.f59]) fun X hn hX=>?_
 repeat'(first|refine wkQ ?_|refine Tw.f ?_ ?_|(refine kcQ nG ?_;refine krQ (oP ?_) ?_)|(refine kcQ oX ?_;refine krQ (rC ?_) ?_)|(refine fun(hc:(_:Bool)=_)=>?_;try simp only [hcS]at hc))
 all_goals try exact om_
 ·(first|refine aB ?_|refine aA ?_);simp only [go_sem,simprocAttr,Tryz.f59]
  exact cR (fun s=>hc s.toSFShape)
 ·(first|refine aB ?_|refine aA ?_);simp only [go_sem,simprocAttr,Tryz.f59]
  rw [←mF,cI hc.fault_zero]
def aC8 (f0:SF) (l:List SF):Dt:= .sl 1 (.pt (sfD f0)) (l.map fun f=> .pt (sfD f))
@[go_sem] theorem aQq (f0 l):(aC8 f0 l).isSl=true:=rfl
@[go_sem] theorem aT1 (f0 l):(aC8 f0 l).sz=1:=rfl
@[go_sem] theorem aT0 (f0) (l:List SF):(aC8 f0 l).nc=l.length:=by simp [aC8,Dt.nc,Dt.cells]
@[go_sem] theorem aRP (f0) (l:List SF):(aC8 f0 l).len=l.length:=by simp [aC8,Dt.len,Dt.sz,Dt.nc,Dt.cells]
@[go_sem] theorem aTZ (f0) (l:List SF) (k:Nat):(aC8 f0 l).at k= .pt (sfD (l.getD k f0)):=by
 simp only [aC8,Dt.at,Dt.cells,Dt.df,List.getD_eq_getElem?_getD,List.getElem?_map]
 cases l[k]? <;>simp
theorem dY:aF Tryz.prog 103:=⟨_,Tryz.func103,rfl,rfl⟩
theorem uI {f0:SF} {l:List SF} (hl:l.length≤1048576) (hb:∀i,i<l.length→SFB (l.getD i f0)):Spec Tryz.prog 103 [.bor [] (aC8 f0 l)] [] (bv (dec (∀i,i<l.length→IsSF (l.getD i f0)))) []:=by
 refine aE (E:=TE) 0 Tryz.func103 rfl (by simp [Tryz.f103]) fun X hn hX=>?_
 repeat'(first|refine wkQ ?_|refine Tw.f ?_ ?_|(refine fun(hc:(_:Bool)=_)=>?_;try simp only [hcS]at hc))
 all_goals try exact om_
 refine aH (G:={i:Nat//i≤l.length∧(∀j,j<i→IsSF (l.getD j f0))}) (fun⟨i,_⟩=>[(7,iv i)]) [5,6] (fun⟨i,_⟩=>[]) [] (fun zz=>l.length-zz.1) ⟨0,Nat.zero_le _,by omega⟩ ?_ ?_
 ·exact Imp.au hX
 rintro⟨i,hii,hwi⟩
 simp only [go_sem,simprocAttr]
 have h1:=hb i
 repeat'(first|refine wkQ ?_|refine Tw.f ?_ ?_|(refine kcQ fA ?_;refine krQ (fN ?_) ?_)|(refine fun(hc:(_:Bool)=_)=>?_;try simp only [hcS]at hc))
 all_goals try exact h1 (by omega)
 all_goals try exact om_
 ·(first|refine aB ?_|refine aA ?_);simp only [go_sem,simprocAttr,Tryz.f103]
  exact cR (fun s=>hc (s i (by omega)))
 ·refine⟨⟨i+1,by omega,(by exact cB hwi hc)⟩,by simp only;omega,Imp.ao hX⟩
 ·(first|refine aB ?_|refine aA ?_);simp only [go_sem,simprocAttr,Tryz.f103]
  exact qW (fun j hj=>hwi j (by omega))
theorem dG {f g:SF} (hf:SFB f) (hg:SFB g):Spec Tryz.prog 103 [.bor [] (.sl 1 (.pt (sfD f)) [.pt (sfD f), .pt (sfD g)])] [] (bv (dec (IsSF f∧IsSF g))) []:=by
 have:=uI (f0:=f) (l:=[f,g]) (by simp) (fun i hi=>by
  have:i=0∨i=1:=by simp at hi;omega
  rcases this with rfl|rfl
  ·exact hf
  ·exact hg)
 rw [cI (Q:=IsSF f∧IsSF g)]at this
 ·exact this
 ·constructor
  ·intro h;exact⟨h 0 (by simp),h 1 (by simp)⟩
  ·intro h i hi
   have:i=0∨i=1:=by simp at hi;omega
   rcases this with rfl|rfl
   ·exact h.1
   ·exact h.2
end Go.Eng
end
