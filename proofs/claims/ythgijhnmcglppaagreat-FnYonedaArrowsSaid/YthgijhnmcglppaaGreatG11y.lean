/- Several texts in one: C04, C09, C08, C12, C13, C10, C11, G12, G11, C05, C06, A01, H02. -/
import Derived.Test.YthgijhnmcglppaaGreatC01y
import Derived.Test.YthgijhnmcglppaaGreatKex
set_option linter.unusedSimpArgs false
set_option linter.unusedVariables false
set_option maxRecDepth 100000
set_option maxHeartbeats 16000000
section
namespace Go.Eng
open Go Go.Proofs Go.Cats
attribute [go_sem] aIA sQ jO
end Go.Eng
end
section
namespace Go.Eng
open Go Go.Proofs Go.Cats
abbrev cmK (f e:Fun) (h:Value) (d:Dt):Rk:= .bx [.bptr [] (lO f), .bptr [] (lO e), .v h, .dead] 3 d
abbrev cmL (f e:Fun) (h:Value) (s t:Nat) (p q:List Int) (A:List (List Int)):List (Nat×Rs):=
 [(3,⟨1,cmK f e h (aF A)⟩),(8,⟨1, .box [.ptr 3 0]⟩),(9,⟨1, .box [.bor [] (ints p)]⟩),(10,⟨1, .box [.bor [] (ints q)]⟩),(7,⟨1, .box [iv t]⟩),(4,⟨1, .box [.ptr 3 0]⟩),(0,⟨1, .box [.v (.pointer none)]⟩),(1,⟨1, .box [.v (.bool false)]⟩),(6,⟨1, .box [iv s]⟩)]
abbrev cmI:List Nat:=[3,8,9,10,7,4,0,1,6]
attribute [local go_sem] cmK cmL
end Go.Eng
end
section
namespace Go.Eng
open Go Go.Proofs Go.Cats
attribute [local go_sem] aEw cmK
@[go_sem] theorem iR:(Value.slice none 0 0).oneCell'=true:=rfl
@[go_sem] theorem iS:(Value.pointer none).oneCell'=true:=rfl
attribute [local go_sem] cmL aTO cmI
end Go.Eng
end
section
namespace Go.Eng
open Go Go.Proofs Go.Cats
attribute [local go_sem] cmK cmL
end Go.Eng
end
section
namespace Go.Eng
open Go Go.Proofs Go.Cats
attribute [local go_sem] aEw cmK cmL aTO cmI
end Go.Eng
end
section
namespace Go.Eng
open Go Go.Proofs Go.Cats
@[go_sem] theorem aTn (l):(bys l).isSl=true:=rfl
@[go_sem] theorem aZo (l):(bys l).sz=1:=rfl
@[go_sem] theorem aZn (l:List Int):(bys l).nc=l.length:=by simp [bys,Dt.nc,Dt.cells]
@[go_sem] theorem aWH (l:List Int):(bys l).len=l.length:=by simp [bys,Dt.len,Dt.sz,Dt.nc,Dt.cells]
@[go_sem] theorem aTo (l:List Int):(bys l).ones=true:=by simp [bys,Dt.ones,Dt.cells,Dt.one,Value.oneCell']
@[go_sem] theorem aTm (l:List Int):(bys l).flat=true:=by simp [bys,Dt.flat,Dt.cells,Dt.isV]
@[go_sem] theorem aWG (l m:List Int):Dt.app 1 (.v (.int .u8 0)) (bys l) (bys m)=bys (l++m):=by simp [bys,Dt.app,Dt.cells]
@[go_sem] theorem aWI:Dt.sl 1 (.v (.int .u8 0)) []=bys []:=rfl
@[go_sem] theorem aWJ (n:Int):Dt.sl 1 (.v (.int .u8 0)) [.v (.int .u8 n)]=bys [n]:=rfl
def aT5 (ls:List (List Int)):List Int:=ls.flatMap fun l=>l++[255]
@[go_sem] theorem aT6:aT5 []=[]:=rfl
def aZE (ls:List (List Int)):ByteArray:=strOfNums (aT5 ls)
end Go.Eng
end
section
namespace Go.Eng
open Go Go.Proofs Go.Cats
def aZ1 (fr to:List Int) (h:Nat→Nat→Int) (i j:Nat):Int:=if to.getD i 0=fr.getD j 0 then h i j else-1
def aJx (fr to:List Int) (h:Nat→Nat→Int) (i:Nat):List (List Int):=(List.range i).map fun k=>(List.range fr.length).map (aZ1 fr to h k)
section
variable {fr to:List Int} {h:Nat→Nat→Int} {i j m:Nat}
@[go_sem] theorem aRX:aJx fr to h 0=[]:=rfl
theorem aEj:(aJx fr to h i).length=i:=by simp [aJx]
theorem tb_at {x:List Int}:(lE (aJx fr to h i++[x]) m).at i=ints x:=by
 rw [aMe (by simp [aEj])]
 simp [List.getD_eq_getElem?_getD,aEj]
end
end Go.Eng
end
section
namespace Go.Eng
open Go Go.Proofs Go.Cats
theorem kE:aD Tryz.prog 116:=⟨_,Tryz.func116,rfl,rfl⟩
theorem mB {c:Cat} {x y:Int} (hl:c.fr.length≤1048576) (ht:c.to.length=c.fr.length):Spec Tryz.prog 116 [cK c,iv x,iv y] [] (.sl 0) [(0,⟨1, .arr (ints (c.hom x y))⟩)]:=by
 refine aC (E:=TE) 0 Tryz.func116 rfl (by simp [Tryz.f116]) fun X hn hX=>?_
 repeat'(first|refine wkQ ?_|refine Tw.f ?_ ?_|(refine fun(hc:(_:Bool)=_)=>?_;try simp only [hcS]at hc))
 all_goals try exact om_
 refine aG (G:={i:Nat//i≤c.fr.length∧(True)}) (fun⟨i,_⟩=>[(8,iv i),(7, .sl 1)]) [1,2,3,6] (fun⟨i,_⟩=>[(1,⟨1, .arr (ints (c.homI x y i))⟩)]) [1] (fun zz=>c.fr.length-zz.1) ⟨0,Nat.zero_le _,by first|trivial|simp⟩ ?_ ?_
 ·exact Imp.au hX
 rintro⟨i,hii,hwi⟩
 simp only [go_sem,simprocAttr]
 have hlen:=c.homI_len x y i
 repeat'(first|refine wkQ ?_|refine Tw.f ?_ ?_|(refine fun(hc:(_:Bool)=_)=>?_;try simp only [hcS]at hc))
 all_goals try exact om_
 all_goals try(refine⟨⟨i+1,by omega,(by trivial)⟩,by simp only;omega,Imp.auto hX (by simp only [go_sem,simprocAttr,Cat.homI_succ, *])⟩)
 ·(first|refine aB ?_|refine aA ?_);simp only [go_sem,simprocAttr,Tryz.f116]
  have:i=c.fr.length:=by omega
  subst this
  simp [Cat.hom]
theorem gG:aD Tryz.prog 183:=⟨_,Tryz.func183,rfl,rfl⟩
theorem iA {c:Cat} (hb:CatB c):Spec Tryz.prog 183 [.bptr [] (aW c)] [] (.agg [iv c.ob, .sl 0, .sl 1, .sl 2, .sl 3]) [(0,⟨1, .arr (ints c.fr)⟩),(1,⟨1, .arr (ints c.to)⟩),(2,⟨1, .arr (ints c.id)⟩),(3,⟨1, .arr (aF c.co)⟩)]:=by
 refine aC (E:=TE) 0 Tryz.func183 rfl (by simp [Tryz.f183]) fun X hn hX=>?_
 obtain⟨b1,b2,b3,b4,b5,b6,b7⟩:=hb
 repeat'(first|refine wkQ ?_|refine Tw.f ?_ ?_|(refine kcQ oI ?_;refine krQ (rV ?_) ?_)|(refine kcQ uF ?_;refine krQ (zG ?_ ?_) ?_)|(refine fun(hc:(_:Bool)=_)=>?_;try simp only [hcS]at hc))
 all_goals try exact om_
 (first|refine aB ?_|refine aA ?_);simp only [go_sem,simprocAttr,Tryz.f183]
end Go.Eng
end
section
namespace Go.Eng
open Go Go.Proofs Go.Cats
theorem qJ:aD Tryz.prog 217:=⟨_,Tryz.func217,rfl,rfl⟩
theorem rS {l:List Int} {n:Int} (hl:l.length≤1048576):Spec Tryz.prog 217 [.bor [] (ints l),iv n] [] (iv (idxOf l n)) []:=by
 refine aC (E:=TE) 0 Tryz.func217 rfl (by simp [Tryz.f217]) fun X hn hX=>?_
 repeat'(first|refine wkQ ?_|refine Tw.f ?_ ?_|(refine fun(hc:(_:Bool)=_)=>?_;try simp only [hcS]at hc))
 refine aG (G:={i:Nat//i≤l.length∧(aZ i (iO l n)=none)}) (fun⟨i,_⟩=>[(8,iv i)]) [0,1,7] (fun⟨i,_⟩=>[]) [] (fun zz=>l.length-zz.1) ⟨0,Nat.zero_le _,by rfl⟩ ?_ ?_
 ·exact Imp.au hX
 rintro⟨i,hii,hwi⟩
 simp only [go_sem,simprocAttr]
 repeat'(first|refine wkQ ?_|refine Tw.f ?_ ?_|(refine fun(hc:(_:Bool)=_)=>?_;try simp only [hcS]at hc))
 all_goals try exact om_
 ·(first|refine aB ?_|refine aA ?_);simp only [go_sem,simprocAttr,Tryz.f217]
  rw [idxOf_hit hwi (by omega) hc.symm]
 ·refine⟨⟨i+1,by omega,(by exact bJ hwi (aHC fun q=>hc q.symm))⟩,by simp only;omega,Imp.ao hX⟩
 ·(first|refine aB ?_|refine aA ?_);simp only [go_sem,simprocAttr,Tryz.f217]
  rw [pJ (cX hwi hii (by omega))]
theorem fW:aD Tryz.prog 123:=⟨_,Tryz.func123,rfl,rfl⟩
theorem jU {l:List Int} {n:Int} (hl:l.length≤1048576):Spec Tryz.prog 123 [.bor [] (ints l),iv n] [] (iv (idxOf l n)) []:=by
 refine aC (E:=TE) 0 Tryz.func123 rfl (by simp [Tryz.f123]) fun X hn hX=>?_
 repeat'(first|refine wkQ ?_|refine Tw.f ?_ ?_|(refine kcQ qJ ?_;refine krQ (rS ?_) ?_)|(refine fun(hc:(_:Bool)=_)=>?_;try simp only [hcS]at hc))
 all_goals try exact om_
 (first|refine aB ?_|refine aA ?_);simp only [go_sem,simprocAttr,Tryz.f123]
theorem dK:aD Tryz.prog 194:=⟨_,Tryz.func194,rfl,rfl⟩
theorem eQ {l:List Int} (hl:l.length≤1048576):Spec Tryz.prog 194 [.bor [] (ints l)] [] (.sl 0) [(0,⟨1, .arr (ints l)⟩)]:=by
 refine aC (E:=TE) 0 Tryz.func194 rfl (by simp [Tryz.f194]) fun X hn hX=>?_
 repeat'(first|refine wkQ ?_|refine Tw.f ?_ ?_|(refine fun(hc:(_:Bool)=_)=>?_;try simp only [hcS]at hc))
 all_goals try exact om_
 (first|refine aB ?_|refine aA ?_);simp only [go_sem,simprocAttr,Tryz.f194]
theorem nL:aD Tryz.prog 213:=⟨_,Tryz.func213,rfl,rfl⟩
theorem pV {l:List (List Int)} (hl:l.length≤1048576) (hr:∀i,i<l.length→(l.getD i []).length≤1048576):Spec Tryz.prog 213 [.bor [] (aF l)] [] (.sl 0) [(0,⟨1, .arr (aF l)⟩)]:=by
 refine aC (E:=TE) 0 Tryz.func213 rfl (by simp [Tryz.f213]) fun X hn hX=>?_
 repeat'(first|refine wkQ ?_|refine Tw.f ?_ ?_|(refine fun(hc:(_:Bool)=_)=>?_;try simp only [hcS]at hc))
 all_goals try exact om_
 refine aG (G:={i:Nat//i≤l.length∧(True)}) (fun⟨i,_⟩=>[(4,iv i),(3, .sl 0)]) [0,2] (fun⟨i,_⟩=>[(0,⟨1, .arr (aF (l.take i))⟩)]) [0] (fun zz=>l.length-zz.1) ⟨0,Nat.zero_le _,by first|trivial|simp⟩ ?_ ?_
 ·exact Imp.au hX
 rintro⟨i,hii,hwi⟩
 simp only [go_sem,simprocAttr]
 have h1:=hr i
 have h2:(l.take i).length≤i:=by simp;omega
 repeat'(first|refine wkQ ?_|refine Tw.f ?_ ?_|(refine kcQ dK ?_;refine krQ (eQ ?_) ?_)|(refine fun(hc:(_:Bool)=_)=>?_;try simp only [hcS]at hc))
 all_goals try exact om_
 ·refine⟨⟨i+1,by omega,(by trivial)⟩,by simp only;omega,Imp.auto hX (by simp only [go_sem,simprocAttr,aEm (d:=[]) (show i<l.length by omega)])⟩
 ·(first|refine aB ?_|refine aA ?_);simp only [go_sem,simprocAttr,Tryz.f213]
  rw [List.take_of_length_le (by omega)]
theorem mG:aD Tryz.prog 193:=⟨_,Tryz.func193,rfl,rfl⟩
theorem oW {c:Cat} (hb:CatB c):Spec Tryz.prog 193 [cK c] [] (.agg [iv c.ob, .sl 0, .sl 1, .sl 2, .sl 3]) [(0,⟨1, .arr (ints c.fr)⟩),(1,⟨1, .arr (ints c.to)⟩),(2,⟨1, .arr (ints c.id)⟩),(3,⟨1, .arr (aF c.co)⟩)]:=by
 refine aC (E:=TE) 0 Tryz.func193 rfl (by simp [Tryz.f193]) fun X hn hX=>?_
 obtain⟨b1,b2,b3,b4,b5,b6,b7⟩:=hb
 repeat'(first|refine wkQ ?_|refine Tw.f ?_ ?_|(refine kcQ dK ?_;refine krQ (eQ ?_) ?_)|(refine kcQ nL ?_;refine krQ (pV ?_ ?_) ?_)|(refine fun(hc:(_:Bool)=_)=>?_;try simp only [hcS]at hc))
 all_goals try exact om_
 (first|refine aB ?_|refine aA ?_);simp only [go_sem,simprocAttr,Tryz.f193]
theorem aAa:aD Tryz.prog 118:=⟨_,Tryz.func118,rfl,rfl⟩
theorem aCG {c:Cat} {f g:Int} (h0:0≤f) (h1:f<c.co.length) (h2:0≤g) (h3:g<(c.co.getD f.toNat []).length):Spec Tryz.prog 118 [cK c,iv f,iv g] [] (iv (c.C f g)) []:=by
 refine aC (E:=TE) 0 Tryz.func118 rfl (by simp [Tryz.f118]) fun X hn hX=>?_
 repeat'(first|refine wkQ ?_|refine Tw.f ?_ ?_|(refine fun(hc:(_:Bool)=_)=>?_;try simp only [hcS]at hc))
 all_goals try exact om_
 (first|refine aB ?_|refine aA ?_);simp only [go_sem,simprocAttr,Tryz.f118]
structure SFL (f:SF):Prop where
 shape:CatL f.shape
 sizes:(f.sizes.length:Int)≤9223372036854775807
 acts:(f.acts.length:Int)≤9223372036854775807
 row:∀a,a<f.acts.length→((f.acts.getD a []).length:Int)≤9223372036854775807
end Go.Eng
end
section
namespace Go.Eng
open Go Go.Proofs Go.Cats
attribute [local go_sem] aIA sQ jO aEw
theorem fR:aD Tryz.prog 269:=⟨_,Tryz.func269,rfl,rfl⟩
theorem sp_l02Fits {c:Cat} (hl:c.fr.length≤1048576):Spec Tryz.prog 269 [cK c] [] (bv (dec (c.ob≤8∧c.fr.length≤40))) []:=by
 refine aC (E:=TE) 0 Tryz.func269 rfl (by simp [Tryz.f269]) fun X hn hX=>?_
 repeat'(first|refine wkQ ?_|refine Tw.f ?_ ?_|(refine fun(hc:(_:Bool)=_)=>?_;try simp only [hcS]at hc))
 all_goals try exact om_
 ·(first|refine aB ?_|refine aA ?_);simp only [go_sem,simprocAttr,Tryz.f269]
  exact congrArg (fun b=>Sv.v (.bool b)) (by rw [nZ];simp [hc];omega)
 ·(first|refine aB ?_|refine aA ?_);simp only [go_sem,simprocAttr,Tryz.f269]
  exact cD fun h=>by omega
end Go.Eng
end
section
namespace Go.Eng
open Go Go.Proofs Go.Cats
attribute [local go_sem] sQ jO aJz aCW
end Go.Eng
end
section
namespace Go.Eng
open Go Go.Proofs Go.Cats
attribute [go_sem] aKt aK6
theorem aAV:aD Tryz.prog 305:=⟨_,Tryz.func305,rfl,rfl⟩
theorem aRS {l:List Int} {n:Int} (hl:l.length≤1048576):Spec Tryz.prog 305 [.bor [] (ints l),iv n] [] (bv (dec (n∈l))) []:=by
 refine aC (E:=TE) 0 Tryz.func305 rfl (by simp [Tryz.f305]) fun X hn hX=>?_
 repeat'(first|refine wkQ ?_|refine Tw.f ?_ ?_|(refine fun(hc:(_:Bool)=_)=>?_;try simp only [hcS]at hc))
 refine aG (G:={i:Nat//i≤l.length∧(∀j,j<i→¬l.getD j 0=n)}) (fun⟨i,_⟩=>[(9,iv i)]) [1,7,8] (fun⟨i,_⟩=>[]) [] (fun zz=>l.length-zz.1) ⟨0,Nat.zero_le _,by omega⟩ ?_ ?_
 ·exact Imp.au hX
 rintro⟨i,hii,hwi⟩
 simp only [go_sem,simprocAttr]
 repeat'(first|refine wkQ ?_|refine Tw.f ?_ ?_|(refine fun(hc:(_:Bool)=_)=>?_;try simp only [hcS]at hc))
 all_goals try exact om_
 ·(first|refine aB ?_|refine aA ?_);simp only [go_sem,simprocAttr,Tryz.f305]
  exact nD (aIK (by omega) hc)
 ·refine⟨⟨i+1,by omega,(by exact bB hwi hc)⟩,by simp only;omega,Imp.ao hX⟩
 ·(first|refine aB ?_|refine aA ?_);simp only [go_sem,simprocAttr,Tryz.f305]
  exact cD (aF1 hwi (by omega))
theorem kD:aD Tryz.prog 290:=⟨_,Tryz.func290,rfl,rfl⟩
theorem aKP {l:List Int} {n:Int} (hl:l.length≤1048576):Spec Tryz.prog 290 [.bor [] (ints l),iv n] [] (bv (dec (n∈l))) []:=by
 refine aC (E:=TE) 0 Tryz.func290 rfl (by simp [Tryz.f290]) fun X hn hX=>?_
 repeat'(first|refine wkQ ?_|refine Tw.f ?_ ?_|(refine fun(hc:(_:Bool)=_)=>?_;try simp only [hcS]at hc))
 refine aG (G:={i:Nat//i≤l.length∧(∀j,j<i→¬l.getD j 0=n)}) (fun⟨i,_⟩=>[(5,iv i)]) [0,1] (fun⟨i,_⟩=>[]) [] (fun zz=>l.length-zz.1) ⟨0,Nat.zero_le _,by omega⟩ ?_ ?_
 ·exact Imp.au hX
 rintro⟨i,hii,hwi⟩
 simp only [go_sem,simprocAttr]
 repeat'(first|refine wkQ ?_|refine Tw.f ?_ ?_|(refine fun(hc:(_:Bool)=_)=>?_;try simp only [hcS]at hc))
 all_goals try exact om_
 ·(first|refine aB ?_|refine aA ?_);simp only [go_sem,simprocAttr,Tryz.f290]
  exact nD (aIK (by omega) hc)
 ·refine⟨⟨i+1,by omega,(by exact bB hwi hc)⟩,by simp only;omega,Imp.ao hX⟩
 ·(first|refine aB ?_|refine aA ?_);simp only [go_sem,simprocAttr,Tryz.f290]
  exact cD (aF1 hwi (by omega))
end Go.Eng
end
section
namespace Go.Eng
open Go Go.Proofs Go.Cats
theorem pE:aD Tryz.prog 117:=⟨_,Tryz.func117,rfl,rfl⟩
theorem rX {l:List Int} {n:Int} (hl:l.length≤1048576):Spec Tryz.prog 117 [.bor [] (ints l),iv n] [] (iv (idxOf l n)) []:=by
 refine aC (E:=TE) 0 Tryz.func117 rfl (by simp [Tryz.f117]) fun X hn hX=>?_
 repeat'(first|refine wkQ ?_|refine Tw.f ?_ ?_|(refine fun(hc:(_:Bool)=_)=>?_;try simp only [hcS]at hc))
 refine aG (G:={i:Nat//i≤l.length∧(aZ i (iO l n)=none)}) (fun⟨i,_⟩=>[(5,iv i)]) [0,1] (fun⟨i,_⟩=>[]) [] (fun zz=>l.length-zz.1) ⟨0,Nat.zero_le _,by rfl⟩ ?_ ?_
 ·exact Imp.au hX
 rintro⟨i,hii,hwi⟩
 simp only [go_sem,simprocAttr]
 repeat'(first|refine wkQ ?_|refine Tw.f ?_ ?_|(refine fun(hc:(_:Bool)=_)=>?_;try simp only [hcS]at hc))
 all_goals try exact om_
 ·(first|refine aB ?_|refine aA ?_);simp only [go_sem,simprocAttr,Tryz.f117]
  rw [idxOf_hit hwi (by omega) hc]
 ·refine⟨⟨i+1,by omega,(by exact bJ hwi (aHC hc))⟩,by simp only;omega,Imp.ao hX⟩
 ·(first|refine aB ?_|refine aA ?_);simp only [go_sem,simprocAttr,Tryz.f117]
  rw [pJ (cX hwi hii (by omega))]
theorem lK:aD Tryz.prog 115:=⟨_,Tryz.func115,rfl,rfl⟩
theorem nT {c:Cat} {x:Int} (hs:Shape c):Spec Tryz.prog 115 [cK c,iv x] [] (bv (dec (c.small x))) []:=by
 refine aC (E:=TE) 0 Tryz.func115 rfl (by simp [Tryz.f115]) fun X hn hX=>?_
 have ⟨s1,s2,s3,s4,s5,s6,s7,s8,s9,s10,s11⟩:=hs
 repeat'(first|refine wkQ ?_|refine Tw.f ?_ ?_|(refine fun(hc:(_:Bool)=_)=>?_;try simp only [hcS]at hc))
 refine aG (G:={i:Nat//i≤c.id.length∧(∀y:Nat,y<i→(c.hom x y).length≤16)}) (fun⟨i,_⟩=>[(5,iv i)]) [1,2] (fun⟨i,_⟩=>[]) [] (fun zz=>c.id.length-zz.1) ⟨0,Nat.zero_le _,by omega⟩ ?_ ?_
 ·exact Imp.au hX
 rintro⟨i,hii,hwi⟩
 simp only [go_sem,simprocAttr]
 have hlen:=c.hom_len x i
 repeat'(first|refine wkQ ?_|refine Tw.f ?_ ?_|(refine kcQ kE ?_;refine krQ (mB ?_ ?_) ?_)|(refine fun(hc:(_:Bool)=_)=>?_;try simp only [hcS]at hc))
 all_goals try exact om_
 ·(first|refine aB ?_|refine aA ?_);simp only [go_sem,simprocAttr,Tryz.f115]
  exact cD (fun s=>by have:=s i (by omega);omega)
 ·refine⟨⟨i+1,by omega,(by exact bB hwi (by omega))⟩,by simp only;omega,Imp.ao hX⟩
 ·(first|refine aB ?_|refine aA ?_);simp only [go_sem,simprocAttr,Tryz.f115]
  exact nD (fun y hy=>hwi y (by omega))
end Go.Eng
end
