/- Several texts in one: C10, C01, C02, C04, C09, C08, C12, C13, C11, C05, C06, D01, D03, A01. -/
import Derived.Test.YtipohdpnhodnmaaGreatG11y
set_option linter.unusedSimpArgs false
set_option linter.unusedVariables false
set_option maxRecDepth 100000
set_option maxHeartbeats 16000000
section
namespace Go.Eng
open Go Go.Proofs Go.Cats
@[go_sem] theorem aQL (l):(bys l).isSl=true:=rfl
@[go_sem] theorem aVB (l):(bys l).sz=1:=rfl
@[go_sem] theorem aVA (l:List Int):(bys l).nc=l.length:=by simp [bys,Dt.nc,Dt.cells]
@[go_sem] theorem aTq (l:List Int):(bys l).len=l.length:=by simp [bys,Dt.len,Dt.sz,Dt.nc,Dt.cells]
@[go_sem] theorem aQM (l:List Int):(bys l).ones=true:=by simp [bys,Dt.ones,Dt.cells,Dt.one,Value.oneCell']
@[go_sem] theorem aQK (l:List Int):(bys l).flat=true:=by simp [bys,Dt.flat,Dt.cells,Dt.isV]
@[go_sem] theorem aTp (l m:List Int):Dt.app 1 (.v (.int .u8 0)) (bys l) (bys m)=bys (l++m):=by simp [bys,Dt.app,Dt.cells]
@[go_sem] theorem aTr:Dt.sl 1 (.v (.int .u8 0)) []=bys []:=rfl
@[go_sem] theorem aTs (n:Int):Dt.sl 1 (.v (.int .u8 0)) [.v (.int .u8 n)]=bys [n]:=rfl
def aRm (ls:List (List Int)):List Int:=ls.flatMap fun l=>l++[255]
@[go_sem] theorem aRn:aRm []=[]:=rfl
def aVR (ls:List (List Int)):ByteArray:=strOfNums (aRm ls)
end Go.Eng
end
section
namespace Go.Eng
open Go Go.Proofs Go.Cats
structure FunB (f:Fun):Prop where
 src:CatB f.src
 tgt:CatB f.tgt
 obs:f.obs.length≤1048576
 ars:f.ars.length≤1048576
end Go.Eng
end
section
namespace Go.Eng
open Go Go.Proofs Go.Cats
theorem _root_.Go.Cats.Fun.eq {f g:Fun} (h1:f.src=g.src) (h2:f.tgt=g.tgt) (h3:f.obs=g.obs) (h4:f.ars=g.ars):f=g:=by cases f;cases g;simp_all
def aNR (f:Fun):Nat:=aGH f.src+aGH f.tgt+f.obs.length+f.ars.length
structure FunL (f:Fun):Prop where
 src:CatL f.src
 tgt:CatL f.tgt
 obs:(f.obs.length:Int)≤9223372036854775807
 ars:(f.ars.length:Int)≤9223372036854775807
end Go.Eng
end
section
namespace Go.Eng
open Go Go.Proofs Go.Cats
attribute [go_sem] aGE qF gW
end Go.Eng
end
section
namespace Go.Eng
open Go Go.Proofs Go.Cats
abbrev cmK (f e:Fun) (h:Value) (d:Dt):Rk:= .bx [.bptr [] (aBg f), .bptr [] (aBg e), .v h, .dead] 3 d
abbrev cmL (f e:Fun) (h:Value) (s t:Nat) (p q:List Int) (A:List (List Int)):List (Nat×Rs):=
 [(3,⟨1,cmK f e h (aD A)⟩),(8,⟨1, .box [.ptr 3 0]⟩),(9,⟨1, .box [.bor [] (ints p)]⟩),(10,⟨1, .box [.bor [] (ints q)]⟩),(7,⟨1, .box [iv t]⟩),(4,⟨1, .box [.ptr 3 0]⟩),(0,⟨1, .box [.v (.pointer none)]⟩),(1,⟨1, .box [.v (.bool false)]⟩),(6,⟨1, .box [iv s]⟩)]
abbrev cmI:List Nat:=[3,8,9,10,7,4,0,1,6]
attribute [local go_sem] cmK cmL
end Go.Eng
end
section
namespace Go.Eng
open Go Go.Proofs Go.Cats
attribute [local go_sem] aCw cmK
@[go_sem] theorem iP:(Value.slice none 0 0).oneCell'=true:=rfl
@[go_sem] theorem iQ:(Value.pointer none).oneCell'=true:=rfl
attribute [local go_sem] cmL aQ7 cmI
end Go.Eng
end
section
namespace Go.Eng
open Go Go.Proofs Go.Cats
attribute [local go_sem] cmK cmL
end Go.Eng
end
section
namespace Go.Eng
open Go Go.Proofs Go.Cats
attribute [local go_sem] aCw cmK cmL aQ7 cmI
end Go.Eng
end
section
namespace Go.Eng
open Go Go.Proofs Go.Cats
def aV0 (fr to:List Int) (h:Nat→Nat→Int) (i j:Nat):Int:=if to.getD i 0=fr.getD j 0 then h i j else-1
def aHB (fr to:List Int) (h:Nat→Nat→Int) (i:Nat):List (List Int):=(List.range i).map fun k=>(List.range fr.length).map (aV0 fr to h k)
section
variable {fr to:List Int} {h:Nat→Nat→Int} {i j m:Nat}
@[go_sem] theorem aPw:aHB fr to h 0=[]:=rfl
theorem aCi:(aHB fr to h i).length=i:=by simp [aHB]
theorem tb_at {x:List Int}:(jL (aHB fr to h i++[x]) m).at i=ints x:=by
 rw [aJ1 (by simp [aCi])]
 simp [List.getD_eq_getElem?_getD,aCi]
end
end Go.Eng
end
section
namespace Go.Eng
open Go Go.Proofs Go.Cats
attribute [local go_sem] aGE qF gW aCw
theorem dV:aF Tryz.prog 234:=⟨_,Tryz.func234,rfl,rfl⟩
theorem sp_l02Fits {c:Cat} (hl:c.fr.length≤1048576):Spec Tryz.prog 234 [jQ c] [] (bv (dec (c.ob≤8∧c.fr.length≤40))) []:=by
 refine aE (E:=TE) 0 Tryz.func234 rfl (by simp [Tryz.f234]) fun X hn hX=>?_
 repeat'(first|refine wkQ ?_|refine Tw.f ?_ ?_|(refine fun(hc:(_:Bool)=_)=>?_;try simp only [hcS]at hc))
 all_goals try exact om_
 ·(first|refine aB ?_|refine aA ?_);simp only [go_sem,simprocAttr,Tryz.f234]
  exact congrArg (fun b=>Sv.v (.bool b)) (by rw [mF];simp [hc];omega)
 ·(first|refine aB ?_|refine aA ?_);simp only [go_sem,simprocAttr,Tryz.f234]
  exact cR fun h=>by omega
end Go.Eng
end
section
namespace Go.Eng
open Go Go.Proofs Go.Cats
attribute [local go_sem] qF gW aHD aA8
end Go.Eng
end
section
namespace Go.Eng
open Go Go.Proofs Go.Cats Go.ChangeShapes
structure CatT (c:Cat):Prop where
 len:CatL c
 ob:In64 c.ob
 fr:∀n∈c.fr,In64 n
 to:∀n∈c.to,In64 n
 id:∀n∈c.id,In64 n
 co:∀r∈c.co,∀n∈r,In64 n
section
variable {H:Type} {enc:TypeId×Value→H} {w:World} {held:Bool} {cn:Nat→Cn} {rs:Nat→Rs}
structure SFT (f:SF):Prop where
 shape:CatT f.shape
 bsz:(f.sizes.length:Int)≤9223372036854775807
 bac:(f.acts.length:Int)≤9223372036854775807
 row:∀a,a<f.acts.length→((f.acts.getD a []).length:Int)≤9223372036854775807
 sizes:∀n∈f.sizes,In64 n
 acts:∀r∈f.acts,∀n∈r,In64 n
end
end Go.Eng
end
section
namespace Go.Eng
open Go Go.Proofs Go.Cats Go.ChangeShapes
structure FunT (f:Fun):Prop where
 src:CatT f.src
 tgt:CatT f.tgt
 bob:(f.obs.length:Int)≤9223372036854775807
 bar:(f.ars.length:Int)≤9223372036854775807
 obs:∀n∈f.obs,In64 n
 ars:∀n∈f.ars,In64 n
theorem CatT.b1 {c:Cat} (h:CatT c) (k:aGH c≤1048576):CatB c:=by
 unfold aGH at k
 have h0:=h.ob
 unfold In64 at h0
 exact⟨h0.1,h0.2,by omega,by omega,by omega,by omega,fun f hf=>by have:=aGm c.co f hf;omega⟩
theorem FunT.b {f:Fun} (h:FunT f) (k:aNR f≤1048576):FunB f:=by
 unfold aNR at k
 exact⟨h.src.b1 (by omega),h.tgt.b1 (by omega),by omega,by omega⟩
theorem FunT.l {f:Fun} (h:FunT f):FunL f:=⟨h.src.len,h.tgt.len,h.bob,h.bar⟩
section
variable {H:Type} {enc:TypeId×Value→H} {w:World} {held:Bool} {cn:Nat→Cn} {rs:Nat→Rs}
end
end Go.Eng
end
section
namespace Go.Eng
open Go Go.Proofs Go.Cats
attribute [go_sem] aIl aIQ
theorem aGG:aF Tryz.prog 225:=⟨_,Tryz.func225,rfl,rfl⟩
theorem aLu {l:List Int} {n:Int} (hl:l.length≤1048576):Spec Tryz.prog 225 [.bor [] (ints l),iv n] [] (bv (dec (n∈l))) []:=by
 refine aE (E:=TE) 0 Tryz.func225 rfl (by simp [Tryz.f225]) fun X hn hX=>?_
 repeat'(first|refine wkQ ?_|refine Tw.f ?_ ?_|(refine fun(hc:(_:Bool)=_)=>?_;try simp only [hcS]at hc))
 refine aH (G:={i:Nat//i≤l.length∧(∀j,j<i→¬l.getD j 0=n)}) (fun⟨i,_⟩=>[(9,iv i)]) [1,7,8] (fun⟨i,_⟩=>[]) [] (fun zz=>l.length-zz.1) ⟨0,Nat.zero_le _,by omega⟩ ?_ ?_
 ·exact Imp.au hX
 rintro⟨i,hii,hwi⟩
 simp only [go_sem,simprocAttr]
 repeat'(first|refine wkQ ?_|refine Tw.f ?_ ?_|(refine fun(hc:(_:Bool)=_)=>?_;try simp only [hcS]at hc))
 all_goals try exact om_
 ·(first|refine aB ?_|refine aA ?_);simp only [go_sem,simprocAttr,Tryz.f225]
  exact qW (aGV (by omega) hc)
 ·refine⟨⟨i+1,by omega,(by exact cB hwi hc)⟩,by simp only;omega,Imp.ao hX⟩
 ·(first|refine aB ?_|refine aA ?_);simp only [go_sem,simprocAttr,Tryz.f225]
  exact cR (aEc hwi (by omega))
theorem nI:aF Tryz.prog 194:=⟨_,Tryz.func194,rfl,rfl⟩
theorem qR {l:List Int} {n:Int} (hl:l.length≤1048576):Spec Tryz.prog 194 [.bor [] (ints l),iv n] [] (bv (dec (n∈l))) []:=by
 refine aE (E:=TE) 0 Tryz.func194 rfl (by simp [Tryz.f194]) fun X hn hX=>?_
 repeat'(first|refine wkQ ?_|refine Tw.f ?_ ?_|(refine fun(hc:(_:Bool)=_)=>?_;try simp only [hcS]at hc))
 refine aH (G:={i:Nat//i≤l.length∧(∀j,j<i→¬l.getD j 0=n)}) (fun⟨i,_⟩=>[(5,iv i)]) [0,1] (fun⟨i,_⟩=>[]) [] (fun zz=>l.length-zz.1) ⟨0,Nat.zero_le _,by omega⟩ ?_ ?_
 ·exact Imp.au hX
 rintro⟨i,hii,hwi⟩
 simp only [go_sem,simprocAttr]
 repeat'(first|refine wkQ ?_|refine Tw.f ?_ ?_|(refine fun(hc:(_:Bool)=_)=>?_;try simp only [hcS]at hc))
 all_goals try exact om_
 ·(first|refine aB ?_|refine aA ?_);simp only [go_sem,simprocAttr,Tryz.f194]
  exact qW (aGV (by omega) hc)
 ·refine⟨⟨i+1,by omega,(by exact cB hwi hc)⟩,by simp only;omega,Imp.ao hX⟩
 ·(first|refine aB ?_|refine aA ?_);simp only [go_sem,simprocAttr,Tryz.f194]
  exact cR (aEc hwi (by omega))
theorem tC:aF Tryz.prog 183:=⟨_,Tryz.func183,rfl,rfl⟩
theorem xI {x n:Int} (h0:0≤n) (h1:n≤64):Spec Tryz.prog 183 [iv x,iv n] [] (.sl 0) [(0,⟨1, .arr (ints (List.replicate n.toNat x))⟩)]:=by
 refine aE (E:=TE) 0 Tryz.func183 rfl (by simp [Tryz.f183]) fun X hn hX=>?_
 repeat'(first|refine wkQ ?_|refine Tw.f ?_ ?_|(refine fun(hc:(_:Bool)=_)=>?_;try simp only [hcS]at hc))
 all_goals try exact om_
 refine aH (G:={i:Nat//i≤n.toNat∧(True)}) (fun⟨i,_⟩=>[(11,iv i)]) [0,4,5,10] (fun⟨i,_⟩=>[(0,⟨1, .arr (ints (List.replicate i x++List.replicate (n.toNat-i) 0))⟩)]) [0] (fun zz=>n.toNat-zz.1) ⟨0,Nat.zero_le _,by first|trivial|simp⟩ ?_ ?_
 ·exact Imp.au hX
 rintro⟨i,hii,hwi⟩
 simp only [go_sem,simprocAttr]
 repeat'(first|refine wkQ ?_|refine Tw.f ?_ ?_|(refine fun(hc:(_:Bool)=_)=>?_;try simp only [hcS]at hc))
 all_goals try exact om_
 ·refine⟨⟨i+1,by omega,(by trivial)⟩,by simp only;omega,Imp.auto hX (by simp only [go_sem,simprocAttr,aK0 x (show i<n.toNat by omega)])⟩
 ·(first|refine aB ?_|refine aA ?_);simp only [go_sem,simprocAttr,Tryz.f183]
  rw [show i=n.toNat by omega];simp
theorem kI:aF Tryz.prog 264:=⟨_,Tryz.func264,rfl,rfl⟩
theorem lX {c:Cat} {x:Nat} (hl:c.fr.length≤1048576):Spec Tryz.prog 264 [.bptr [] (jE c),iv x] [] (.sl 0) [(0,⟨1, .arr (ints (gZ c x c.fr.length))⟩)]:=by
 refine aE (E:=TE) 0 Tryz.func264 rfl (by simp [Tryz.f264]) fun X hn hX=>?_
 repeat'(first|refine wkQ ?_|refine Tw.f ?_ ?_|(refine fun(hc:(_:Bool)=_)=>?_;try simp only [hcS]at hc))
 all_goals try exact om_
 refine aH (G:={i:Nat//i≤c.fr.length∧(True)}) (fun⟨i,_⟩=>[(14,iv i),(5, .sl 0)]) [1,4,12,13] (fun⟨i,_⟩=>[(0,⟨1, .arr (ints (gZ c x i))⟩)]) [0] (fun zz=>c.fr.length-zz.1) ⟨0,Nat.zero_le _,by first|trivial|simp⟩ ?_ ?_
 ·exact Imp.au hX
 rintro⟨i,hii,hwi⟩
 simp only [go_sem,simprocAttr]
 have h1:=aEt c x i
 repeat'(first|refine wkQ ?_|refine Tw.f ?_ ?_|(refine fun(hc:(_:Bool)=_)=>?_;try simp only [hcS]at hc))
 all_goals try exact om_
 ·refine⟨⟨i+1,by omega,(by trivial)⟩,by simp only;omega,Imp.auto hX (by simp only [go_sem,simprocAttr,aKu (n:=i) hc])⟩
 ·refine⟨⟨i+1,by omega,(by trivial)⟩,by simp only;omega,Imp.auto hX (by simp only [go_sem,simprocAttr,aMV (n:=i) hc])⟩
 ·(first|refine aB ?_|refine aA ?_);simp only [go_sem,simprocAttr,Tryz.f264]
  rw [show i=c.fr.length by omega]
theorem bL:aF Tryz.prog 45:=⟨_,Tryz.func45,rfl,rfl⟩
theorem bO {f:SF} (h:IsSF f):Spec Tryz.prog 45 [.bptr [] (sfD f)] [] (iv f.elems) []:=by
 refine aE (E:=TE) 0 Tryz.func45 rfl (by simp [Tryz.f45]) fun X hn hX=>?_
 have h1:=h.szl
 have h2:=h.cat.ob8
 repeat'(first|refine wkQ ?_|refine Tw.f ?_ ?_|(refine fun(hc:(_:Bool)=_)=>?_;try simp only [hcS]at hc))
 all_goals try exact om_
 refine aH (G:={i:Nat//i≤f.sizes.length∧(True)}) (fun⟨i,_⟩=>[(11,iv i),(3,iv (yC f.sizes i))]) [2,9,10] (fun⟨i,_⟩=>[]) [] (fun zz=>f.sizes.length-zz.1) ⟨0,Nat.zero_le _,by first|trivial|simp⟩ ?_ ?_
 ·exact Imp.au hX
 rintro⟨i,hii,hwi⟩
 simp only [go_sem,simprocAttr]
 have h3:=h.sum_le (n:=i) (by omega)
 have h4:=h.szw i
 repeat'(first|refine wkQ ?_|refine Tw.f ?_ ?_|(refine fun(hc:(_:Bool)=_)=>?_;try simp only [hcS]at hc))
 all_goals try exact om_
 ·refine⟨⟨i+1,by omega,(by trivial)⟩,by simp only;omega,Imp.auto hX (by simp only [go_sem,simprocAttr,wD])⟩
 ·(first|refine aB ?_|refine aA ?_);simp only [go_sem,simprocAttr,Tryz.f45]
  rw [show i=f.sizes.length by omega];rfl
theorem tB:aF Tryz.prog 110:=⟨_,Tryz.func110,rfl,rfl⟩
theorem xH {f:SF} (h:IsSF f):Spec Tryz.prog 110 [sfV f] [] (iv f.elems) []:=by
 refine aE (E:=TE) 0 Tryz.func110 rfl (by simp [Tryz.f110]) fun X hn hX=>?_
 have h1:=h.szl
 have h2:=h.cat.ob8
 repeat'(first|refine wkQ ?_|refine Tw.f ?_ ?_|(refine fun(hc:(_:Bool)=_)=>?_;try simp only [hcS]at hc))
 all_goals try exact om_
 refine aH (G:={i:Nat//i≤f.sizes.length∧(True)}) (fun⟨i,_⟩=>[(4,iv i),(3,iv (yC f.sizes i))]) [1,2] (fun⟨i,_⟩=>[]) [] (fun zz=>f.sizes.length-zz.1) ⟨0,Nat.zero_le _,by first|trivial|simp⟩ ?_ ?_
 ·exact Imp.au hX
 rintro⟨i,hii,hwi⟩
 simp only [go_sem,simprocAttr]
 have h3:=h.sum_le (n:=i) (by omega)
 have h4:=h.szw i
 repeat'(first|refine wkQ ?_|refine Tw.f ?_ ?_|(refine fun(hc:(_:Bool)=_)=>?_;try simp only [hcS]at hc))
 all_goals try exact om_
 ·refine⟨⟨i+1,by omega,(by trivial)⟩,by simp only;omega,Imp.auto hX (by simp only [go_sem,simprocAttr,wD])⟩
 ·(first|refine aB ?_|refine aA ?_);simp only [go_sem,simprocAttr,Tryz.f110]
  rw [show i=f.sizes.length by omega];rfl
end Go.Eng
end
