/- Several texts in one: C01, C02, D01, D03, A01. -/
import Derived.Test.YthgijhnmcglppaaGreatG12y
set_option linter.unusedSimpArgs false
set_option linter.unusedVariables false
set_option maxRecDepth 100000
set_option maxHeartbeats 8000000
section
namespace Go.Eng
open Go Go.Proofs Go.Cats
structure FunB (f:Fun):Prop where
 src:CatB f.src
 tgt:CatB f.tgt
 obs:f.obs.length≤1048576
 ars:f.ars.length≤1048576
end Go.Eng
end
section
namespace Go.Eng
open Go Go.Proofs Go.Cats
theorem _root_.Go.Cats.Fun.eq {f g:Fun} (h1:f.src=g.src) (h2:f.tgt=g.tgt) (h3:f.obs=g.obs) (h4:f.ars=g.ars):f=g:=by cases f;cases g;simp_all
def aMr (f:Fun):Nat:=aAR f.src+aAR f.tgt+f.obs.length+f.ars.length
structure FunL (f:Fun):Prop where
 src:CatL f.src
 tgt:CatL f.tgt
 obs:(f.obs.length:Int)≤9223372036854775807
 ars:(f.ars.length:Int)≤9223372036854775807
end Go.Eng
end
section
namespace Go.Eng
open Go Go.Proofs Go.Cats Go.ChangeShapes
structure CatT (c:Cat):Prop where
 len:CatL c
 ob:In64 c.ob
 fr:∀n∈c.fr,In64 n
 to:∀n∈c.to,In64 n
 id:∀n∈c.id,In64 n
 co:∀r∈c.co,∀n∈r,In64 n
section
variable {H:Type} {enc:TypeId×Value→H} {w:World} {held:Bool} {cn:Nat→Cn} {rs:Nat→Rs}
structure SFT (f:SF):Prop where
 shape:CatT f.shape
 bsz:(f.sizes.length:Int)≤9223372036854775807
 bac:(f.acts.length:Int)≤9223372036854775807
 row:∀a,a<f.acts.length→((f.acts.getD a []).length:Int)≤9223372036854775807
 sizes:∀n∈f.sizes,In64 n
 acts:∀r∈f.acts,∀n∈r,In64 n
end
end Go.Eng
end
section
namespace Go.Eng
open Go Go.Proofs Go.Cats Go.ChangeShapes
structure FunT (f:Fun):Prop where
 src:CatT f.src
 tgt:CatT f.tgt
 bob:(f.obs.length:Int)≤9223372036854775807
 bar:(f.ars.length:Int)≤9223372036854775807
 obs:∀n∈f.obs,In64 n
 ars:∀n∈f.ars,In64 n
theorem CatT.b1 {c:Cat} (h:CatT c) (k:aAR c≤1048576):CatB c:=by
 unfold aAR at k
 have h0:=h.ob
 unfold In64 at h0
 exact⟨h0.1,h0.2,by omega,by omega,by omega,by omega,fun f hf=>by have:=rG c.co f hf;omega⟩
theorem FunT.b {f:Fun} (h:FunT f) (k:aMr f≤1048576):FunB f:=by
 unfold aMr at k
 exact⟨h.src.b1 (by omega),h.tgt.b1 (by omega),by omega,by omega⟩
theorem FunT.l {f:Fun} (h:FunT f):FunL f:=⟨h.src.len,h.tgt.len,h.bob,h.bar⟩
section
variable {H:Type} {enc:TypeId×Value→H} {w:World} {held:Bool} {cn:Nat→Cn} {rs:Nat→Rs}
end
end Go.Eng
end
section
namespace Go.Eng
open Go Go.Proofs Go.Cats
attribute [go_sem] aGW aBu
theorem aKE:aE Tryz.prog 305:=⟨_,Tryz.func305,rfl,rfl⟩
theorem aN5 {l:List Int} {n:Int} (hl:l.length≤1048576):Spec Tryz.prog 305 [.bor [] (ints l),iv n] [] (bv (dec (n∈l))) []:=by
 refine aD (E:=TE) 0 Tryz.func305 rfl (by simp [Tryz.f305]) fun X hn hX=>?_
 repeat'(first|refine wkQ ?_|refine Tw.f ?_ ?_|(refine fun(hc:(_:Bool)=_)=>?_;try simp only [hcS]at hc))
 refine aH (G:={i:Nat//i≤l.length∧(∀j,j<i→¬l.getD j 0=n)}) (fun⟨i,_⟩=>[(9,iv i)]) [1,7,8] (fun⟨i,_⟩=>[]) [] (fun zz=>l.length-zz.1) ⟨0,Nat.zero_le _,by omega⟩ ?_ ?_
 ·exact Imp.au hX
 rintro⟨i,hii,hwi⟩
 simp only [go_sem,simprocAttr]
 repeat'(first|refine wkQ ?_|refine Tw.f ?_ ?_|(refine fun(hc:(_:Bool)=_)=>?_;try simp only [hcS]at hc))
 all_goals try exact om_
 ·(first|refine aB ?_|refine aA ?_);simp only [go_sem,simprocAttr,Tryz.f305]
  exact rK (aLb (by omega) hc)
 ·refine⟨⟨i+1,by omega,(by exact bU hwi hc)⟩,by simp only;omega,Imp.ao hX⟩
 ·(first|refine aB ?_|refine aA ?_);simp only [go_sem,simprocAttr,Tryz.f305]
  exact cK (aIv hwi (by omega))
theorem aBP:aE Tryz.prog 81:=⟨_,Tryz.func81,rfl,rfl⟩
theorem aDV {x n:Int} (h0:0≤n) (h1:n≤64):Spec Tryz.prog 81 [iv x,iv n] [] (.sl 0) [(0,⟨1, .arr (ints (List.replicate n.toNat x))⟩)]:=by
 refine aD (E:=TE) 0 Tryz.func81 rfl (by simp [Tryz.f81]) fun X hn hX=>?_
 repeat'(first|refine wkQ ?_|refine Tw.f ?_ ?_|(refine fun(hc:(_:Bool)=_)=>?_;try simp only [hcS]at hc))
 all_goals try exact om_
 refine aH (G:={i:Nat//i≤n.toNat∧(True)}) (fun⟨i,_⟩=>[(11,iv i)]) [0,4,5,10] (fun⟨i,_⟩=>[(0,⟨1, .arr (ints (List.replicate i x++List.replicate (n.toNat-i) 0))⟩)]) [0] (fun zz=>n.toNat-zz.1) ⟨0,Nat.zero_le _,by first|trivial|simp⟩ ?_ ?_
 ·exact Imp.au hX
 rintro⟨i,hii,hwi⟩
 simp only [go_sem,simprocAttr]
 repeat'(first|refine wkQ ?_|refine Tw.f ?_ ?_|(refine fun(hc:(_:Bool)=_)=>?_;try simp only [hcS]at hc))
 all_goals try exact om_
 ·refine⟨⟨i+1,by omega,(by trivial)⟩,by simp only;omega,Imp.auto hX (by simp only [go_sem,simprocAttr,aJE x (show i<n.toNat by omega)])⟩
 ·(first|refine aB ?_|refine aA ?_);simp only [go_sem,simprocAttr,Tryz.f81]
  rw [show i=n.toNat by omega];simp
theorem qH:aE Tryz.prog 356:=⟨_,Tryz.func356,rfl,rfl⟩
theorem sW {c:Cat} {x:Nat} (hl:c.fr.length≤1048576):Spec Tryz.prog 356 [.bptr [] (fP c),iv x] [] (.sl 0) [(0,⟨1, .arr (ints (jA c x c.fr.length))⟩)]:=by
 refine aD (E:=TE) 0 Tryz.func356 rfl (by simp [Tryz.f356]) fun X hn hX=>?_
 repeat'(first|refine wkQ ?_|refine Tw.f ?_ ?_|(refine fun(hc:(_:Bool)=_)=>?_;try simp only [hcS]at hc))
 all_goals try exact om_
 refine aH (G:={i:Nat//i≤c.fr.length∧(True)}) (fun⟨i,_⟩=>[(14,iv i),(5, .sl 0)]) [1,4,12,13] (fun⟨i,_⟩=>[(0,⟨1, .arr (ints (jA c x i))⟩)]) [0] (fun zz=>c.fr.length-zz.1) ⟨0,Nat.zero_le _,by first|trivial|simp⟩ ?_ ?_
 ·exact Imp.au hX
 rintro⟨i,hii,hwi⟩
 simp only [go_sem,simprocAttr]
 have h1:=aDt c x i
 repeat'(first|refine wkQ ?_|refine Tw.f ?_ ?_|(refine fun(hc:(_:Bool)=_)=>?_;try simp only [hcS]at hc))
 all_goals try exact om_
 ·refine⟨⟨i+1,by omega,(by trivial)⟩,by simp only;omega,Imp.auto hX (by simp only [go_sem,simprocAttr,aI8 (n:=i) hc])⟩
 ·refine⟨⟨i+1,by omega,(by trivial)⟩,by simp only;omega,Imp.auto hX (by simp only [go_sem,simprocAttr,aLu (n:=i) hc])⟩
 ·(first|refine aB ?_|refine aA ?_);simp only [go_sem,simprocAttr,Tryz.f356]
  rw [show i=c.fr.length by omega]
theorem gC:aE Tryz.prog 137:=⟨_,Tryz.func137,rfl,rfl⟩
theorem gV {f:SF} (h:IsSF f):Spec Tryz.prog 137 [.bptr [] (sfD f)] [] (iv f.elems) []:=by
 refine aD (E:=TE) 0 Tryz.func137 rfl (by simp [Tryz.f137]) fun X hn hX=>?_
 have h1:=h.szl
 have h2:=h.cat.ob8
 repeat'(first|refine wkQ ?_|refine Tw.f ?_ ?_|(refine fun(hc:(_:Bool)=_)=>?_;try simp only [hcS]at hc))
 all_goals try exact om_
 refine aH (G:={i:Nat//i≤f.sizes.length∧(True)}) (fun⟨i,_⟩=>[(11,iv i),(3,iv (rF f.sizes i))]) [2,9,10] (fun⟨i,_⟩=>[]) [] (fun zz=>f.sizes.length-zz.1) ⟨0,Nat.zero_le _,by first|trivial|simp⟩ ?_ ?_
 ·exact Imp.au hX
 rintro⟨i,hii,hwi⟩
 simp only [go_sem,simprocAttr]
 have h3:=h.sum_le (n:=i) (by omega)
 have h4:=h.szw i
 repeat'(first|refine wkQ ?_|refine Tw.f ?_ ?_|(refine fun(hc:(_:Bool)=_)=>?_;try simp only [hcS]at hc))
 all_goals try exact om_
 ·refine⟨⟨i+1,by omega,(by trivial)⟩,by simp only;omega,Imp.auto hX (by simp only [go_sem,simprocAttr,pQ])⟩
 ·(first|refine aB ?_|refine aA ?_);simp only [go_sem,simprocAttr,Tryz.f137]
  rw [show i=f.sizes.length by omega];rfl
end Go.Eng
end
