/- Several texts in one: G07, G05, G06, C01, C02, D01, D03. -/
import Derived.Test.YtipohdpnhodnmaaGreatKhx
set_option linter.unusedSimpArgs false
set_option linter.unusedVariables false
set_option maxRecDepth 100000
set_option maxHeartbeats 8000000
section
namespace Go.Eng
open Go Go.Proofs Go.Cats
theorem uR:aF Tryz.prog 190:=⟨_,Tryz.func190,rfl,rfl⟩
theorem zV {l:List Int} {m n:Int} (hn':inR (n-1)) (hl:l.length≤1048576):Spec Tryz.prog 190 [.bor [] (ints l),iv m,iv n] [] (bv (dec ((l.length:Int)=m∧Within l n))) []:=by
 refine aD (E:=TE) 0 Tryz.func190 rfl (by simp [Tryz.f190]) fun X hn hX=>?_
 have ⟨q1,q2⟩:=hn'
 repeat'(first|refine wkQ ?_|refine Tw.f ?_ ?_|(refine kcQ eV ?_;refine krQ (gB ?_ ?_) ?_)|(refine fun(hc:(_:Bool)=_)=>?_;try simp only [hcS]at hc))
 all_goals try exact om_
 ·(first|refine aB ?_|refine aA ?_);simp only [go_sem,simprocAttr,Tryz.f190]
  exact congrArg (fun b=>Sv.v (.bool b)) (cB ⟨fun h=>⟨hc,h⟩,fun h=>h.2⟩)
 ·(first|refine aB ?_|refine aA ?_);simp only [go_sem,simprocAttr,Tryz.f190]
  exact cW (fun h=>hc h.1)
theorem mQ:aF Tryz.prog 119:=⟨_,Tryz.func119,rfl,rfl⟩
theorem nU {f:SF} (hb:SFB f):Spec Tryz.prog 119 [.bptr [] (sfD f)] [] (bv (dec (SFShape f))) []:=by
 refine aD (E:=TE) 0 Tryz.func119 rfl (by simp [Tryz.f119]) fun X hn hX=>?_
 obtain⟨b1,b2,b3,b4⟩:=hb
 repeat'(first|refine wkQ ?_|refine Tw.f ?_ ?_|(refine kcQ fW ?_;refine krQ (gP ?_) ?_)|(refine kcQ eV ?_;refine krQ (gB ?_ ?_) ?_)|(refine kcQ bJ ?_;refine krQ (bS) ?_)|(refine fun(hc:(_:Bool)=_)=>?_;try simp only [hcS]at hc))
 all_goals try exact om_
 all_goals try((first|refine aB ?_|refine aA ?_);simp only [go_sem,simprocAttr,Tryz.f119];exact cW (fun s=>by obtain⟨s1,s2,s3,s4,s5⟩:=s;first|omega|contradiction))
 have hC:IsCat f.shape:=by assumption
 have hS:Within f.sizes 17:=by assumption
 obtain⟨s1,s2,s3,s4,s5,s6,s7,s8,s9,s10,s11⟩:=hC.toShape
 refine aG (G:={i:Nat//i≤f.acts.length∧(∀a,a<i→((f.acts.getD a []).length:Int)=f.sizes.getD (f.shape.fr.getD a 0).toNat 0∧Within (f.acts.getD a []) (f.sizes.getD (f.shape.to.getD a 0).toNat 0))}) (fun⟨i,_⟩=>[(47,iv i)]) [0,3,45,46] (fun⟨i,_⟩=>[]) [] (fun zz=>f.acts.length-zz.1) ⟨0,Nat.zero_le _,by omega⟩ ?_ ?_
 ·exact Imp.au hX
 rintro⟨i,hii,hwi⟩
 simp only [go_sem,simprocAttr]
 have h1:=s5 i
 have h2:=s6 i
 have h3:=hS (f.shape.to.getD i 0).toNat
 have h4:=b4 i
 repeat'(first|refine wkQ ?_|refine Tw.f ?_ ?_|(refine kcQ uR ?_;refine krQ (zV ?_ ?_) ?_)|(refine fun(hc:(_:Bool)=_)=>?_;try simp only [hcS]at hc))
 all_goals try exact om_
 ·(first|refine aB ?_|refine aA ?_);simp only [go_sem,simprocAttr,Tryz.f119]
  exact cW (fun s=>hc (s.act i (by omega)))
 ·refine⟨⟨i+1,by omega,(by exact bW hwi hc)⟩,by simp only;omega,Imp.ao hX⟩
 ·(first|refine aB ?_|refine aA ?_);simp only [go_sem,simprocAttr,Tryz.f119]
  exact qF ⟨hC,by assumption,hS,by omega,fun a ha=>hwi a (by omega)⟩
theorem oA:aF Tryz.prog 120:=⟨_,Tryz.func120,rfl,rfl⟩
theorem pS {f:SF} (s:SFShape f):Spec Tryz.prog 120 [.bptr [] (sfD f)] [] (.tup [iv f.fault.1,iv f.fault.2.1,iv f.fault.2.2.1,iv f.fault.2.2.2]) []:=by
 refine aD (E:=TE) 0 Tryz.func120 rfl (by simp [Tryz.f120]) fun X hn hX=>?_
 obtain⟨hC,hz1,hS,hz2,hA⟩:=s
 obtain⟨s1,s2,s3,s4,s5,s6,s7,s8,s9,s10,s11⟩:=hC.toShape
 have hlen:∀a,a<f.acts.length→(f.acts.getD a []).length<17:=fun a ha=>by
  have h1:=(hA a ha).1
  have h2:=hS (f.shape.fr.getD a 0).toNat (by have:=s5 a (by omega);omega)
  omega
 repeat'(first|refine wkQ ?_|refine Tw.f ?_ ?_|(refine fun(hc:(_:Bool)=_)=>?_;try simp only [hcS]at hc))
 all_goals try exact om_
 refine aG (G:={x:Nat//x≤f.shape.id.length∧(aW x f.fault1x=none)}) (fun⟨x,_⟩=>[(25,iv x)]) [0,6,23,24] (fun⟨x,_⟩=>[]) [] (fun zz=>f.shape.id.length-zz.1) ⟨0,Nat.zero_le _,by rfl⟩ ?_ ?_
 ·exact Imp.au hX
 rintro⟨x,hix,hwx⟩
 simp only [go_sem,simprocAttr]
 have h1:=s8 x
 have h2:=hlen (f.shape.id.getD x 0).toNat
 repeat'(first|refine wkQ ?_|refine Tw.f ?_ ?_|(refine fun(hc:(_:Bool)=_)=>?_;try simp only [hcS]at hc))
 all_goals try exact om_
 refine aG (G:={e:Nat//e≤(f.acts.getD (f.shape.id.getD x 0).toNat []).length∧((aW e fun e=>f.fault1 x e)=none)}) (fun⟨e,_⟩=>[(38,iv e)]) [0,6,7,23,24,25,36,37] (fun⟨e,_⟩=>[]) [] (fun zz=>(f.acts.getD (f.shape.id.getD x 0).toNat []).length-zz.1) ⟨0,Nat.zero_le _,by rfl⟩ ?_ ?_
 ·exact Imp.au hX
 rintro⟨e,hie,hwe⟩
 simp only [go_sem,simprocAttr]
 repeat'(first|refine wkQ ?_|refine Tw.f ?_ ?_|(refine fun(hc:(_:Bool)=_)=>?_;try simp only [hcS]at hc))
 all_goals try exact om_
 ·(first|refine aB ?_|refine aA ?_);simp only [go_sem,simprocAttr,Tryz.f120]
  rw [SF.fault_1 hwx (by omega) hwe (by omega) (SF.fault1_t hc)]
 ·refine⟨⟨e+1,by omega,(by exact aX hwe (SF.fault1_f (by omega)))⟩,by simp only;omega,Imp.ao hX⟩
 ·refine⟨⟨x+1,by omega,(by exact aX hwx (bK hwe hie (by omega)))⟩,by simp only;omega,Imp.ao hX⟩
 have h0:aW f.shape.id.length f.fault1x=none:=bK hwx hix (by omega)
 clear hwx h1 h2
 refine aG (G:={a:Nat//a≤f.shape.co.length∧(aW a f.fault2a=none)}) (fun⟨a,_⟩=>[(55,iv a)]) [0,53,54] (fun⟨a,_⟩=>[]) [] (fun zz=>f.shape.co.length-zz.1) ⟨0,Nat.zero_le _,by rfl⟩ ?_ ?_
 ·exact Imp.au hX
 rintro⟨a,hia,hwa⟩
 simp only [go_sem,simprocAttr]
 have h1:=fun h=>(s11 a h).1
 have h2:=hlen a
 have h3:=fun h=>(hA a h).1
 have h4:=s6 a
 repeat'(first|refine wkQ ?_|refine Tw.f ?_ ?_|(refine fun(hc:(_:Bool)=_)=>?_;try simp only [hcS]at hc))
 all_goals try exact om_
 refine aG (G:={b:Nat//b≤(f.shape.co.getD a []).length∧((aW b fun b=>f.fault2b a b)=none)}) (fun⟨b,_⟩=>[(62,iv b)]) [0,11,53,54,55,60,61] (fun⟨b,_⟩=>[]) [] (fun zz=>(f.shape.co.getD a []).length-zz.1) ⟨0,Nat.zero_le _,by rfl⟩ ?_ ?_
 ·exact Imp.au hX
 rintro⟨b,hib,hwb⟩
 simp only [go_sem,simprocAttr]
 have g1:=fun h=>(s11 a h).2 b
 have g2:=s5 b
 repeat'(first|refine wkQ ?_|refine Tw.f ?_ ?_|(refine fun(hc:(_:Bool)=_)=>?_;try simp only [hcS]at hc))
 all_goals try exact om_
 ·refine⟨⟨b+1,by omega,(by exact aX hwb (SF.fault2b_f hc))⟩,by simp only;omega,Imp.ao hX⟩
 have hb1:0≤(f.shape.co.getD a []).getD b 0:=by assumption
 have hb2:a<f.shape.fr.length:=by omega
 have hb3:b<f.shape.fr.length:=by have:=h1 hb2;omega
 have hE:=g1 hb2 hb3
 have k1:=hA ((f.shape.co.getD a []).getD b 0).toNat
 have k2:=hA b (by omega)
 have k3:=hA a (by omega)
 have k4:(f.acts.getD ((f.shape.co.getD a []).getD b 0).toNat []).length=(f.acts.getD a []).length:=by
  simp only [Cat.Entry,Cat.F,Cat.T,Cat.C,Int.toNat_natCast]at hE
  have:=k1 (by omega)
  rcases hE with⟨_,q1,q2,_⟩|⟨_,q⟩
  ·rw [q2]at this;omega
  ·omega
 have k5:f.shape.to.getD a 0=f.shape.fr.getD b 0:=by
  simp only [Cat.Entry,Cat.F,Cat.T,Cat.C,Int.toNat_natCast]at hE
  rcases hE with⟨q,_⟩|⟨_,q⟩
  ·exact q
  ·omega
 clear g1 g2 k1
 refine aG (G:={e:Nat//e≤(f.acts.getD a []).length∧((aW e fun e=>f.fault2 a b e)=none)}) (fun⟨e,_⟩=>[(77,iv e)]) [0,11,13,14,53,54,55,60,61,62,75,76] (fun⟨e,_⟩=>[]) [] (fun zz=>(f.acts.getD a []).length-zz.1) ⟨0,Nat.zero_le _,by rfl⟩ ?_ ?_
 ·exact Imp.au hX
 rintro⟨e,hie,hwe⟩
 simp only [go_sem,simprocAttr]
 have m1:=k3.2 e
 rw [k5]at m1
 have m2:=k2.1
 simp only [Cat.Entry,Cat.F,Cat.T,Cat.C,Int.toNat_natCast]at hE
 repeat'(first|refine wkQ ?_|refine Tw.f ?_ ?_|(refine fun(hc:(_:Bool)=_)=>?_;try simp only [hcS]at hc))
 all_goals try exact om_
 ·(first|refine aB ?_|refine aA ?_);simp only [go_sem,simprocAttr,Tryz.f120]
  rw [SF.fault_2 h0 hwa (by omega) hwb (by omega) (by omega) hwe (by omega) (SF.fault2_t hc)]
 ·refine⟨⟨e+1,by omega,(by exact aX hwe (SF.fault2_f hc))⟩,by simp only;omega,Imp.ao hX⟩
 ·refine⟨⟨b+1,by omega,(by exact aX hwb (by rw [SF.fault2b_t (by omega)];exact bK hwe hie (by omega)))⟩,by simp only;omega,Imp.ao hX⟩
 ·refine⟨⟨a+1,by omega,(by exact aX hwa (bK hwb hib (by omega)))⟩,by simp only;omega,Imp.ao hX⟩
 ·(first|refine aB ?_|refine aA ?_);simp only [go_sem,simprocAttr,Tryz.f120]
  rw [SF.fault_0 h0 (bK hwa hia (by omega))]
theorem bC:aF Tryz.prog 59:=⟨_,Tryz.func59,rfl,rfl⟩
theorem bI {f:SF} (hb:SFB f):Spec Tryz.prog 59 [.bptr [] (sfD f)] [] (bv (dec (IsSF f))) []:=by
 refine aD (E:=TE) 0 Tryz.func59 rfl (by simp [Tryz.f59]) fun X hn hX=>?_
 repeat'(first|refine wkQ ?_|refine Tw.f ?_ ?_|(refine kcQ mQ ?_;refine krQ (nU ?_) ?_)|(refine kcQ oA ?_;refine krQ (pS ?_) ?_)|(refine fun(hc:(_:Bool)=_)=>?_;try simp only [hcS]at hc))
 all_goals try exact om_
 ·(first|refine aB ?_|refine aA ?_);simp only [go_sem,simprocAttr,Tryz.f59]
  exact cW (fun s=>hc s.toSFShape)
 ·(first|refine aB ?_|refine aA ?_);simp only [go_sem,simprocAttr,Tryz.f59]
  rw [←jC,cB hc.fault_zero]
def aCA (f0:SF) (l:List SF):Dt:= .sl 1 (.pt (sfD f0)) (l.map fun f=> .pt (sfD f))
@[go_sem] theorem aQv (f0 l):(aCA f0 l).isSl=true:=rfl
@[go_sem] theorem aUk (f0 l):(aCA f0 l).sz=1:=rfl
@[go_sem] theorem aUj (f0) (l:List SF):(aCA f0 l).nc=l.length:=by simp [aCA,Dt.nc,Dt.cells]
@[go_sem] theorem aR1 (f0) (l:List SF):(aCA f0 l).len=l.length:=by simp [aCA,Dt.len,Dt.sz,Dt.nc,Dt.cells]
@[go_sem] theorem aUi (f0) (l:List SF) (k:Nat):(aCA f0 l).at k= .pt (sfD (l.getD k f0)):=by
 simp only [aCA,Dt.at,Dt.cells,Dt.df,List.getD_eq_getElem?_getD,List.getElem?_map]
 cases l[k]? <;>simp
theorem qJ:aF Tryz.prog 103:=⟨_,Tryz.func103,rfl,rfl⟩
theorem sU {f0:SF} {l:List SF} (hl:l.length≤1048576) (hb:∀i,i<l.length→SFB (l.getD i f0)):Spec Tryz.prog 103 [.bor [] (aCA f0 l)] [] (bv (dec (∀i,i<l.length→IsSF (l.getD i f0)))) []:=by
 refine aD (E:=TE) 0 Tryz.func103 rfl (by simp [Tryz.f103]) fun X hn hX=>?_
 repeat'(first|refine wkQ ?_|refine Tw.f ?_ ?_|(refine fun(hc:(_:Bool)=_)=>?_;try simp only [hcS]at hc))
 all_goals try exact om_
 refine aG (G:={i:Nat//i≤l.length∧(∀j,j<i→IsSF (l.getD j f0))}) (fun⟨i,_⟩=>[(7,iv i)]) [5,6] (fun⟨i,_⟩=>[]) [] (fun zz=>l.length-zz.1) ⟨0,Nat.zero_le _,by omega⟩ ?_ ?_
 ·exact Imp.au hX
 rintro⟨i,hii,hwi⟩
 simp only [go_sem,simprocAttr]
 have h1:=hb i
 repeat'(first|refine wkQ ?_|refine Tw.f ?_ ?_|(refine kcQ bC ?_;refine krQ (bI ?_) ?_)|(refine fun(hc:(_:Bool)=_)=>?_;try simp only [hcS]at hc))
 all_goals try exact h1 (by omega)
 all_goals try exact om_
 ·(first|refine aB ?_|refine aA ?_);simp only [go_sem,simprocAttr,Tryz.f103]
  exact cW (fun s=>hc (s i (by omega)))
 ·refine⟨⟨i+1,by omega,(by exact bW hwi hc)⟩,by simp only;omega,Imp.ao hX⟩
 ·(first|refine aB ?_|refine aA ?_);simp only [go_sem,simprocAttr,Tryz.f103]
  exact qF (fun j hj=>hwi j (by omega))
theorem nV {f g:SF} (hf:SFB f) (hg:SFB g):Spec Tryz.prog 103 [.bor [] (.sl 1 (.pt (sfD f)) [.pt (sfD f), .pt (sfD g)])] [] (bv (dec (IsSF f∧IsSF g))) []:=by
 have:=sU (f0:=f) (l:=[f,g]) (by simp) (fun i hi=>by
  have:i=0∨i=1:=by simp at hi;omega
  rcases this with rfl|rfl
  ·exact hf
  ·exact hg)
 rw [cB (Q:=IsSF f∧IsSF g)]at this
 ·exact this
 ·constructor
  ·intro h;exact⟨h 0 (by simp),h 1 (by simp)⟩
  ·intro h i hi
   have:i=0∨i=1:=by simp at hi;omega
   rcases this with rfl|rfl
   ·exact h.1
   ·exact h.2
end Go.Eng
end
section
namespace Go.Eng
open Go Go.Proofs Go.Cats
@[go_sem] theorem aOK (k:Int):marks k 0=[]:=rfl
theorem aFJ:nJ []=0:=rfl
attribute [go_sem] aFJ Int.add_zero Int.sub_zero Int.natCast_zero Int.ofNat_zero List.take_zero List.drop_zero
theorem aFI (l:List (List Int)) (i:Nat) (h:i<l.length):(l.getD i []).length≤nJ l:=by
 have h2:=aEq l i h
 have h4:=aIb l (i+1)
 omega
structure CatL (c:Cat):Prop where
 fr:(c.fr.length:Int)≤9223372036854775807
 to:(c.to.length:Int)≤9223372036854775807
 id:(c.id.length:Int)≤9223372036854775807
 co:(c.co.length:Int)≤9223372036854775807
 row:∀f,f<c.co.length→((c.co.getD f []).length:Int)≤9223372036854775807
def aF0 (c:Cat):Nat:=c.fr.length+c.to.length+c.id.length+(c.co.length+nJ c.co)
end Go.Eng
end
section
namespace Go.Eng
open Go Go.Proofs Go.Cats
end Go.Eng
end
section
namespace Go.Eng
open Go Go.Proofs Go.Cats
structure FunB (f:Fun):Prop where
 src:CatB f.src
 tgt:CatB f.tgt
 obs:f.obs.length≤1048576
 ars:f.ars.length≤1048576
end Go.Eng
end
section
namespace Go.Eng
open Go Go.Proofs Go.Cats
theorem _root_.Go.Cats.Fun.eq {f g:Fun} (h1:f.src=g.src) (h2:f.tgt=g.tgt) (h3:f.obs=g.obs) (h4:f.ars=g.ars):f=g:=by cases f;cases g;simp_all
def aNG (f:Fun):Nat:=aF0 f.src+aF0 f.tgt+f.obs.length+f.ars.length
structure FunL (f:Fun):Prop where
 src:CatL f.src
 tgt:CatL f.tgt
 obs:(f.obs.length:Int)≤9223372036854775807
 ars:(f.ars.length:Int)≤9223372036854775807
end Go.Eng
end
section
namespace Go.Eng
open Go Go.Proofs Go.Cats Go.ChangeShapes
structure CatT (c:Cat):Prop where
 len:CatL c
 ob:In64 c.ob
 fr:∀n∈c.fr,In64 n
 to:∀n∈c.to,In64 n
 id:∀n∈c.id,In64 n
 co:∀r∈c.co,∀n∈r,In64 n
section
variable {H:Type} {enc:TypeId×Value→H} {w:World} {held:Bool} {cn:Nat→Cn} {rs:Nat→Rs}
structure SFT (f:SF):Prop where
 shape:CatT f.shape
 bsz:(f.sizes.length:Int)≤9223372036854775807
 bac:(f.acts.length:Int)≤9223372036854775807
 row:∀a,a<f.acts.length→((f.acts.getD a []).length:Int)≤9223372036854775807
 sizes:∀n∈f.sizes,In64 n
 acts:∀r∈f.acts,∀n∈r,In64 n
end
end Go.Eng
end
section
namespace Go.Eng
open Go Go.Proofs Go.Cats Go.ChangeShapes
structure FunT (f:Fun):Prop where
 src:CatT f.src
 tgt:CatT f.tgt
 bob:(f.obs.length:Int)≤9223372036854775807
 bar:(f.ars.length:Int)≤9223372036854775807
 obs:∀n∈f.obs,In64 n
 ars:∀n∈f.ars,In64 n
theorem CatT.b1 {c:Cat} (h:CatT c) (k:aF0 c≤1048576):CatB c:=by
 unfold aF0 at k
 have h0:=h.ob
 unfold In64 at h0
 exact⟨h0.1,h0.2,by omega,by omega,by omega,by omega,fun f hf=>by have:=aFI c.co f hf;omega⟩
theorem FunT.b {f:Fun} (h:FunT f) (k:aNG f≤1048576):FunB f:=by
 unfold aNG at k
 exact⟨h.src.b1 (by omega),h.tgt.b1 (by omega),by omega,by omega⟩
theorem FunT.l {f:Fun} (h:FunT f):FunL f:=⟨h.src.len,h.tgt.len,h.bob,h.bar⟩
section
variable {H:Type} {enc:TypeId×Value→H} {w:World} {held:Bool} {cn:Nat→Cn} {rs:Nat→Rs}
end
end Go.Eng
end
