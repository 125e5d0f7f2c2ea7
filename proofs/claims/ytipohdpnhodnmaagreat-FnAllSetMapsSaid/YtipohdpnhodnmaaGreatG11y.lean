/- Several texts in one: G11, G12, H02, O05, O01, O02, O03, O04, O06, O07, O08. -/
import Derived.Test.YtipohdpnhodnmaaGreatKhx
import Derived.Test.YtipohdpnhodnmaaGreatKex
import Derived.Test.YtipohdpnhodnmaaGreatH01q
import Derived.Tactics
import Derived.Tactics2
import Derived.Defers
import Derived.Laws.Pointers
import Derived.Laws.LoneSync
import Derived.RegionTactic
import Derived.RegionCalls
import Derived.ChangeAlike
set_option linter.unusedSimpArgs false
set_option linter.unusedVariables false
set_option maxRecDepth 100000
set_option maxHeartbeats 16000000
section
namespace Go.Eng
open Go Go.Proofs Go.Cats
theorem oM:aF Tryz.prog 198:=⟨_,Tryz.func198,rfl,rfl⟩
theorem pR {l:List Int} {n:Int} (hl:l.length≤1048576):Spec Tryz.prog 198 [.bor [] (ints l),iv n] [] (iv (idxOf l n)) []:=by
 refine aE (E:=TE) 0 Tryz.func198 rfl (by simp [Tryz.f198]) fun X hn hX=>?_
 repeat'(first|refine wkQ ?_|refine Tw.f ?_ ?_|(refine fun(hc:(_:Bool)=_)=>?_;try simp only [hcS]at hc))
 refine aH (G:={i:Nat//i≤l.length∧(aV i (jH l n)=none)}) (fun⟨i,_⟩=>[(8,iv i)]) [0,1,7] (fun⟨i,_⟩=>[]) [] (fun zz=>l.length-zz.1) ⟨0,Nat.zero_le _,by rfl⟩ ?_ ?_
 ·exact Imp.au hX
 rintro⟨i,hii,hwi⟩
 simp only [go_sem,simprocAttr]
 repeat'(first|refine wkQ ?_|refine Tw.f ?_ ?_|(refine fun(hc:(_:Bool)=_)=>?_;try simp only [hcS]at hc))
 all_goals try exact om_
 ·(first|refine aB ?_|refine aA ?_);simp only [go_sem,simprocAttr,Tryz.f198]
  rw [idxOf_hit hwi (by omega) hc.symm]
 ·refine⟨⟨i+1,by omega,(by exact aW hwi (aFM fun q=>hc q.symm))⟩,by simp only;omega,Imp.ao hX⟩
 ·(first|refine aB ?_|refine aA ?_);simp only [go_sem,simprocAttr,Tryz.f198]
  rw [rZ (bJ hwi hii (by omega))]
theorem fZ:aF Tryz.prog 140:=⟨_,Tryz.func140,rfl,rfl⟩
theorem pT {l:List Int} {n:Int} (hl:l.length≤1048576):Spec Tryz.prog 140 [.bor [] (ints l),iv n] [] (iv (idxOf l n)) []:=by
 refine aE (E:=TE) 0 Tryz.func140 rfl (by simp [Tryz.f140]) fun X hn hX=>?_
 repeat'(first|refine wkQ ?_|refine Tw.f ?_ ?_|(refine kcQ oM ?_;refine krQ (pR ?_) ?_)|(refine fun(hc:(_:Bool)=_)=>?_;try simp only [hcS]at hc))
 all_goals try exact om_
 (first|refine aB ?_|refine aA ?_);simp only [go_sem,simprocAttr,Tryz.f140]
theorem fH:aF Tryz.prog 181:=⟨_,Tryz.func181,rfl,rfl⟩
theorem gO {l:List Int} (hl:l.length≤1048576):Spec Tryz.prog 181 [.bor [] (ints l)] [] (.sl 0) [(0,⟨1, .arr (ints l)⟩)]:=by
 refine aE (E:=TE) 0 Tryz.func181 rfl (by simp [Tryz.f181]) fun X hn hX=>?_
 repeat'(first|refine wkQ ?_|refine Tw.f ?_ ?_|(refine fun(hc:(_:Bool)=_)=>?_;try simp only [hcS]at hc))
 all_goals try exact om_
 (first|refine aB ?_|refine aA ?_);simp only [go_sem,simprocAttr,Tryz.f181]
theorem fI:aF Tryz.prog 182:=⟨_,Tryz.func182,rfl,rfl⟩
theorem gG {l:List (List Int)} (hl:l.length≤1048576) (hr:∀i,i<l.length→(l.getD i []).length≤1048576):Spec Tryz.prog 182 [.bor [] (aD l)] [] (.sl 0) [(0,⟨1, .arr (aD l)⟩)]:=by
 refine aE (E:=TE) 0 Tryz.func182 rfl (by simp [Tryz.f182]) fun X hn hX=>?_
 repeat'(first|refine wkQ ?_|refine Tw.f ?_ ?_|(refine fun(hc:(_:Bool)=_)=>?_;try simp only [hcS]at hc))
 all_goals try exact om_
 refine aH (G:={i:Nat//i≤l.length∧(True)}) (fun⟨i,_⟩=>[(4,iv i),(3, .sl 0)]) [0,2] (fun⟨i,_⟩=>[(0,⟨1, .arr (aD (l.take i))⟩)]) [0] (fun zz=>l.length-zz.1) ⟨0,Nat.zero_le _,by first|trivial|simp⟩ ?_ ?_
 ·exact Imp.au hX
 rintro⟨i,hii,hwi⟩
 simp only [go_sem,simprocAttr]
 have h1:=hr i
 have h2:(l.take i).length≤i:=by simp;omega
 repeat'(first|refine wkQ ?_|refine Tw.f ?_ ?_|(refine kcQ fH ?_;refine krQ (gO ?_) ?_)|(refine fun(hc:(_:Bool)=_)=>?_;try simp only [hcS]at hc))
 all_goals try exact om_
 ·refine⟨⟨i+1,by omega,(by trivial)⟩,by simp only;omega,Imp.auto hX (by simp only [go_sem,simprocAttr,aCj (d:=[]) (show i<l.length by omega)])⟩
 ·(first|refine aB ?_|refine aA ?_);simp only [go_sem,simprocAttr,Tryz.f182]
  rw [List.take_of_length_le (by omega)]
theorem iF:aF Tryz.prog 180:=⟨_,Tryz.func180,rfl,rfl⟩
theorem kE {c:Cat} (hb:CatB c):Spec Tryz.prog 180 [jQ c] [] (.agg [iv c.ob, .sl 0, .sl 1, .sl 2, .sl 3]) [(0,⟨1, .arr (ints c.fr)⟩),(1,⟨1, .arr (ints c.to)⟩),(2,⟨1, .arr (ints c.id)⟩),(3,⟨1, .arr (aD c.co)⟩)]:=by
 refine aE (E:=TE) 0 Tryz.func180 rfl (by simp [Tryz.f180]) fun X hn hX=>?_
 obtain⟨b1,b2,b3,b4,b5,b6,b7⟩:=hb
 repeat'(first|refine wkQ ?_|refine Tw.f ?_ ?_|(refine kcQ fH ?_;refine krQ (gO ?_) ?_)|(refine kcQ fI ?_;refine krQ (gG ?_ ?_) ?_)|(refine fun(hc:(_:Bool)=_)=>?_;try simp only [hcS]at hc))
 all_goals try exact om_
 (first|refine aB ?_|refine aA ?_);simp only [go_sem,simprocAttr,Tryz.f180]
theorem aDP:aF Tryz.prog 163:=⟨_,Tryz.func163,rfl,rfl⟩
theorem aGc {c:Cat} {f g:Int} (h0:0≤f) (h1:f<c.co.length) (h2:0≤g) (h3:g<(c.co.getD f.toNat []).length):Spec Tryz.prog 163 [jQ c,iv f,iv g] [] (iv (c.C f g)) []:=by
 refine aE (E:=TE) 0 Tryz.func163 rfl (by simp [Tryz.f163]) fun X hn hX=>?_
 repeat'(first|refine wkQ ?_|refine Tw.f ?_ ?_|(refine fun(hc:(_:Bool)=_)=>?_;try simp only [hcS]at hc))
 all_goals try exact om_
 (first|refine aB ?_|refine aA ?_);simp only [go_sem,simprocAttr,Tryz.f163]
structure SFL (f:SF):Prop where
 shape:CatL f.shape
 sizes:(f.sizes.length:Int)≤9223372036854775807
 acts:(f.acts.length:Int)≤9223372036854775807
 row:∀a,a<f.acts.length→((f.acts.getD a []).length:Int)≤9223372036854775807
end Go.Eng
end
section
namespace Go.Eng
open Go Go.Proofs Go.Cats
theorem sZ:aF Tryz.prog 138:=⟨_,Tryz.func138,rfl,rfl⟩
theorem vV {c:Cat} (hb:CatB c):Spec Tryz.prog 138 [.bptr [] (jE c)] [] (.agg [iv c.ob, .sl 0, .sl 1, .sl 2, .sl 3]) [(0,⟨1, .arr (ints c.fr)⟩),(1,⟨1, .arr (ints c.to)⟩),(2,⟨1, .arr (ints c.id)⟩),(3,⟨1, .arr (aD c.co)⟩)]:=by
 refine aE (E:=TE) 0 Tryz.func138 rfl (by simp [Tryz.f138]) fun X hn hX=>?_
 obtain⟨b1,b2,b3,b4,b5,b6,b7⟩:=hb
 repeat'(first|refine wkQ ?_|refine Tw.f ?_ ?_|(refine kcQ vE ?_;refine krQ (aAz ?_) ?_)|(refine kcQ kJ ?_;refine krQ (mY ?_ ?_) ?_)|(refine fun(hc:(_:Bool)=_)=>?_;try simp only [hcS]at hc))
 all_goals try exact om_
 (first|refine aB ?_|refine aA ?_);simp only [go_sem,simprocAttr,Tryz.f138]
end Go.Eng
end
section
namespace Go.Eng
open Go Go.Proofs Go.Cats
theorem jP:aF Tryz.prog 257:=⟨_,Tryz.func257,rfl,rfl⟩
theorem lZ {l:List Int} {n:Int} (hl:l.length≤1048576):Spec Tryz.prog 257 [.bor [] (ints l),iv n] [] (iv (idxOf l n)) []:=by
 refine aE (E:=TE) 0 Tryz.func257 rfl (by simp [Tryz.f257]) fun X hn hX=>?_
 repeat'(first|refine wkQ ?_|refine Tw.f ?_ ?_|(refine fun(hc:(_:Bool)=_)=>?_;try simp only [hcS]at hc))
 refine aH (G:={i:Nat//i≤l.length∧(aV i (jH l n)=none)}) (fun⟨i,_⟩=>[(5,iv i)]) [0,1] (fun⟨i,_⟩=>[]) [] (fun zz=>l.length-zz.1) ⟨0,Nat.zero_le _,by rfl⟩ ?_ ?_
 ·exact Imp.au hX
 rintro⟨i,hii,hwi⟩
 simp only [go_sem,simprocAttr]
 repeat'(first|refine wkQ ?_|refine Tw.f ?_ ?_|(refine fun(hc:(_:Bool)=_)=>?_;try simp only [hcS]at hc))
 all_goals try exact om_
 ·(first|refine aB ?_|refine aA ?_);simp only [go_sem,simprocAttr,Tryz.f257]
  rw [idxOf_hit hwi (by omega) hc]
 ·refine⟨⟨i+1,by omega,(by exact aW hwi (aFM hc))⟩,by simp only;omega,Imp.ao hX⟩
 ·(first|refine aB ?_|refine aA ?_);simp only [go_sem,simprocAttr,Tryz.f257]
  rw [rZ (bJ hwi hii (by omega))]
end Go.Eng
end
section
namespace Go.Eng
open Go Go.Proofs Go.Cats
theorem SM.same {f g:SM} (h1:f.src=g.src) (h2:f.tgt=g.tgt) (h3:f.parts=g.parts):f=g:=by cases f;cases g;simp_all
structure SML (m:SM):Prop where
 src:SFL m.src
 tgt:SFL m.tgt
 parts:(m.parts.length:Int)≤9223372036854775807
 row:∀a,a<m.parts.length→((m.parts.getD a []).length:Int)≤9223372036854775807
def tO (l:List (List Int)) (x:List Int) (i:Nat):Option Int:=if l.getD i []=x then some (i:Int)else none
def tN (l:List (List Int)) (x:List Int):Int:=(aV l.length (tO l x)).getD (-1)
theorem aJX {l:List (List Int)} {x:List Int} {i:Nat} (h:aV i (tO l x)=none) (hi:i<l.length) (k:l.getD i []=x):tN l x=i:=by
 unfold tN
 rw [dM hi h (show tO l x i=some (i:Int) from if_pos k)];rfl
theorem aIa {l:List (List Int)} {x:List Int} (h:aV l.length (tO l x)=none):tN l x= -1:=by
 unfold tN
 rw [h];rfl
theorem aMF {l:List (List Int)} {x:List Int} {i:Nat} (k:¬l.getD i []=x):tO l x i=none:=if_neg k
theorem aCB:aF Tryz.prog 192:=⟨_,Tryz.func192,rfl,rfl⟩
theorem aEW {l:List (List Int)} {x:List Int} (hl:l.length≤1048576) (hr:∀i,i<l.length→(l.getD i []).length≤1048576) (hx:x.length≤1048576):Spec Tryz.prog 192 [.bor [] (aD l), .bor [] (ints x)] [] (iv (tN l x)) []:=by
 refine aE (E:=TE) 0 Tryz.func192 rfl (by simp [Tryz.f192]) fun X hn hX=>?_
 repeat'(first|refine wkQ ?_|refine Tw.f ?_ ?_|(refine fun(hc:(_:Bool)=_)=>?_;try simp only [hcS]at hc))
 refine aH (G:={i:Nat//i≤l.length∧(aV i (tO l x)=none)}) (fun⟨i,_⟩=>[(5,iv i)]) [0,1] (fun⟨i,_⟩=>[]) [] (fun zz=>l.length-zz.1) ⟨0,Nat.zero_le _,by rfl⟩ ?_ ?_
 ·exact Imp.au hX
 rintro⟨i,hii,hwi⟩
 simp only [go_sem,simprocAttr]
 have h1:=hr i
 repeat'(first|refine wkQ ?_|refine Tw.f ?_ ?_|(refine kcQ dL ?_;refine krQ (gH ?_ ?_) ?_)|(refine fun(hc:(_:Bool)=_)=>?_;try simp only [hcS]at hc))
 all_goals try exact om_
 ·(first|refine aB ?_|refine aA ?_);simp only [go_sem,simprocAttr,Tryz.f192]
  rw [aJX hwi (by omega) hc]
 ·refine⟨⟨i+1,by omega,(by exact aW hwi (aMF hc))⟩,by simp only;omega,Imp.ao hX⟩
 ·(first|refine aB ?_|refine aA ?_);simp only [go_sem,simprocAttr,Tryz.f192]
  rw [aIa (bJ hwi hii (by omega))]
end Go.Eng
end
section
namespace Go.Eng.Once
open Go Go.Proofs
end Go.Eng.Once
end
section
namespace Go.Eng
open Go Go.Proofs Go.Cats
@[go_sem] theorem Cat.homs_zero (c:Cat) (x:Int):c.homs x 0=[]:=rfl
@[go_sem] theorem Cat.homs_len (c:Cat) (x:Int) (n:Nat):(c.homs x n).length=n:=by simp [Cat.homs]
def onc (c:Cat) (x:Int) (d s:Int) (rows:Sv):List Sv:=[.bptr [] (jE c),iv x, .v (.int .u32 d), .v (.int .i32 s), .v (.int .u32 0),rows]
attribute [go_sem] onc
end Go.Eng
end
section
namespace Go.Eng
open Go Go.Proofs Go.Cats
theorem Hp.back {w0 w w':World} {U S:Nat→Prop} {c c':Nat→Cn} {rs rs':Nat→Rs} (hp:Hp w0 U S c rs w) (hq:Hp w U S c' rs' w'):Hp w0 U S c' rs' w':=
 ⟨hq.os.trans hp.os,hq.tape.trans hp.tape,hq.output.trans hp.output,Nat.le_trans hp.size hq.size,hp.unch.trans hq.unch,hq.sub,hp.ult,hq.res,hq.flt,hq.fu,hq.dis,hq.one⟩
section
variable {c:Cat} {x:Int}
def aRz (c:Cat) (x:Int):List (Nat×Rs):=[(0,⟨1, .box (onc c x 0 0 (.v (.slice none 0 0)))⟩),(1,⟨1, .box [.ptr 0 0]⟩)]
def aRA (c:Cat) (x:Int) (k:Nat) (d s:Int):List (Nat×Rs):=[(0,⟨k, .box (onc c x d s (.sl 2))⟩),(1,⟨1, .box [.ptr 0 0]⟩),(2,⟨1, .arr (aD (c.homs x c.ob.toNat))⟩)]
end
end Go.Eng
end
section
namespace Go.Eng
open Go Go.Proofs Go.Cats
attribute [go_sem] aRz aRA
section
variable (c:Cat) (x:Int) (rows:List (List Int))
end
end Go.Eng
end
section
namespace Go.Eng
open Go Go.Proofs Go.Cats
def _root_.Go.Cats.Cat.szs (c:Cat) (x:Int) (i:Nat):List Int:=(List.range i).map fun y:Nat=>((c.hom x y).length:Int)
@[go_sem] theorem _root_.Go.Cats.Cat.szs_zero (c:Cat) (x:Int):c.szs x 0=[]:=rfl
@[go_sem] theorem _root_.Go.Cats.Cat.szs_len (c:Cat) (x:Int) (i:Nat):(c.szs x i).length=i:=by simp [Cat.szs]
theorem Imp.adoptBi {X:Cx} {tm:List (Nat×Sv)} {rs:List (Nat×Rs)} {nx:Nat} (i k cv:Nat) (cells:List Sv) (hi:rsL rs i=⟨cv, .box cells⟩) (hk:cells[k]? =some (.v (.slice none 0 0))) (hf:rsL rs nx=⟨0, .gone⟩) (hx:(X.rs0 nx).cv=0):
  Imp X ⟨tm,rs,nx⟩ ⟨tm,(i,⟨cv, .box (cells.set k (.sl nx))⟩)::(nx,⟨1, .arr (ints [])⟩)::rs,nx+1⟩:=by
 have h:=Imp.adoptB (X:=X) (σ:=⟨tm,rs,nx⟩) i k 1 (.v (.int .i64 0)) cells (by decide) (by unfold Ss.get;rw [hi]) hk hf hx
 have e:((⟨tm,rs,nx⟩:Ss).get i).cv=cv:=by unfold Ss.get;rw [hi]
 rw [e]at h
 exact h
@[go_sem] theorem aTN:(Value.slice none 0 0).oneCell'=true:=rfl
section
variable (c:Cat) (x:Int) (rows:List (List Int))
end
end Go.Eng
end
section
namespace Go.Eng
open Go Go.Proofs Go.Cats
theorem Imp.nilsR {X:Cx} {tm:List (Nat×Sv)} {rs:List (Nat×Rs)} {nx:Nat} (i n cv:Nat) (hi:rsL rs i=⟨cv, .arr (.sl 1 (aD []) (List.replicate n (.v (.slice none 0 0))))⟩):
  Imp X ⟨tm,rs,nx⟩ ⟨tm,(i,⟨cv, .arr (aU (List.replicate n []))⟩)::rs,nx⟩:=by
 have h:=Imp.nilsss (X:=X) (σ:=⟨tm,rs,nx⟩) i n (by unfold Ss.get;rw [hi];rfl)
 have e:((⟨tm,rs,nx⟩:Ss).get i).cv=cv:=by unfold Ss.get;rw [hi]
 rw [e]at h
 exact h
attribute [go_sem] Nat.zero_mul Nat.one_mul
theorem aDQ:aF Tryz.prog 123:=⟨_,Tryz.func123,rfl,rfl⟩
end Go.Eng
end
section
namespace Go.Eng
open Go Go.Proofs Go.Cats
section
variable (c:Cat) (x:Int)
end
end Go.Eng
end
