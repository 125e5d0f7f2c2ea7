/- Several texts in one: A01, B01, B02, B03, B12, A02, A04, A06, A07, A11, E12, A03, A08, A09, A12, A05, A10, A13, A14, A15. -/
import Derived.Test.YtipohdpnhodnmaaGreatKfx
import Derived.Test.YtipohdpnhodnmaaGreatKciy
set_option linter.unusedSimpArgs false
set_option linter.unusedVariables false
set_option maxRecDepth 100000
set_option maxHeartbeats 16000000
section
namespace Go.Eng
open Go Go.Proofs Go.Cats
attribute [go_sem] aHC aBM
theorem aEJ:aF Tryz.prog 194:=⟨_,Tryz.func194,rfl,rfl⟩
theorem aH1 {l:List Int} {n:Int} (hl:l.length≤1048576):Spec Tryz.prog 194 [.bor [] (ints l),iv n] [] (bv (dec (n∈l))) []:=by
 refine aD (E:=TE) 0 Tryz.func194 rfl (by simp [Tryz.f194]) fun X hn hX=>?_
 repeat'(first|refine wkQ ?_|refine Tw.f ?_ ?_|(refine fun(hc:(_:Bool)=_)=>?_;try simp only [hcS]at hc))
 refine aG (G:={i:Nat//i≤l.length∧(∀j,j<i→¬l.getD j 0=n)}) (fun⟨i,_⟩=>[(5,iv i)]) [0,1] (fun⟨i,_⟩=>[]) [] (fun zz=>l.length-zz.1) ⟨0,Nat.zero_le _,by omega⟩ ?_ ?_
 ·exact Imp.au hX
 rintro⟨i,hii,hwi⟩
 simp only [go_sem,simprocAttr]
 repeat'(first|refine wkQ ?_|refine Tw.f ?_ ?_|(refine fun(hc:(_:Bool)=_)=>?_;try simp only [hcS]at hc))
 all_goals try exact om_
 ·(first|refine aB ?_|refine aA ?_);simp only [go_sem,simprocAttr,Tryz.f194]
  exact qF (aMk (by omega) hc)
 ·refine⟨⟨i+1,by omega,(by exact bW hwi hc)⟩,by simp only;omega,Imp.ao hX⟩
 ·(first|refine aB ?_|refine aA ?_);simp only [go_sem,simprocAttr,Tryz.f194]
  exact cW (aJl hwi (by omega))
theorem lZ:aF Tryz.prog 45:=⟨_,Tryz.func45,rfl,rfl⟩
theorem nG {f:SF} (h:IsSF f):Spec Tryz.prog 45 [.bptr [] (sfD f)] [] (iv f.elems) []:=by
 refine aD (E:=TE) 0 Tryz.func45 rfl (by simp [Tryz.f45]) fun X hn hX=>?_
 have h1:=h.szl
 have h2:=h.cat.ob8
 repeat'(first|refine wkQ ?_|refine Tw.f ?_ ?_|(refine fun(hc:(_:Bool)=_)=>?_;try simp only [hcS]at hc))
 all_goals try exact om_
 refine aG (G:={i:Nat//i≤f.sizes.length∧(True)}) (fun⟨i,_⟩=>[(11,iv i),(3,iv (uM f.sizes i))]) [2,9,10] (fun⟨i,_⟩=>[]) [] (fun zz=>f.sizes.length-zz.1) ⟨0,Nat.zero_le _,by first|trivial|simp⟩ ?_ ?_
 ·exact Imp.au hX
 rintro⟨i,hii,hwi⟩
 simp only [go_sem,simprocAttr]
 have h3:=h.sum_le (n:=i) (by omega)
 have h4:=h.szw i
 repeat'(first|refine wkQ ?_|refine Tw.f ?_ ?_|(refine fun(hc:(_:Bool)=_)=>?_;try simp only [hcS]at hc))
 all_goals try exact om_
 ·refine⟨⟨i+1,by omega,(by trivial)⟩,by simp only;omega,Imp.auto hX (by simp only [go_sem,simprocAttr,aBL])⟩
 ·(first|refine aB ?_|refine aA ?_);simp only [go_sem,simprocAttr,Tryz.f45]
  rw [show i=f.sizes.length by omega];rfl
end Go.Eng
end
section
namespace Go.Eng
open Go Go.Proofs Go.Cats
theorem aR7 {β:Type} (M) (o:List β) (q):(stL M o q).1=decide (o.length+1≤M):=rfl
theorem aR8 {β:Type} (M) (o:List β) (q):(stL M o q).2=o++[q]:=rfl
attribute [local go_sem] List.set_cons_zero aR7 aR8
theorem aMt {f:Nat→Int→List Int→List Int→Go.Cats.St} {e:Int} {A N:List Int}:aNM f e [] A N=(true,A,N):=rfl
attribute [local go_sem] aMt
end Go.Eng
end
section
namespace Go.Eng
open Go Go.Proofs Go.Cats
theorem aIv {W:List Int→Bool} {S:List Nat} {A:List Int} {i:Nat}:aN6 W S A i 0=[]:=rfl
theorem aG7 {M:Nat} {O:List (List Int)}:eat (stL M) O []=(true,O):=rfl
theorem aNd {Q:List Int}:aGU Q []=Q:=rfl
attribute [local go_sem] aIv aG7 aNd List.set_cons_zero
end Go.Eng
end
section
namespace Go.Eng
open Go Go.Proofs Go.Cats
theorem aDN:Value.nilFunc.oneCell'=true:=rfl
theorem aFe:(Value.map none).oneCell'=true:=rfl
theorem aFg:(Value.slice none 0 0).oneCell'=true:=rfl
attribute [local go_sem] List.set_cons_zero List.set_cons_succ aVK aDN aFe aFg
end Go.Eng
end
section
namespace Go.Eng
open Go Go.Proofs Go.Cats
attribute [local go_sem] aDW List.getD_cons_zero List.getD_cons_succ
theorem xZ:aF Tryz.prog 127:=⟨_,Tryz.func127,rfl,rfl⟩
theorem aBJ {A:List (List Int)} (hl:A.length≤1048576) (hb:∀i,i<A.length→(A.getD i []).length≤64) (hx:∀i,i<A.length→∀x∈A.getD i [],0≤x∧x<256):Spec Tryz.prog 127 [.bor [] (aC A)] [] (.sl 0) [(0,⟨1, .arr (mapD Tryz.prog 9 2 A.length (pm A A.length))⟩)]:=by
 refine aD (E:=TE) 0 Tryz.func127 rfl (by simp [Tryz.f127]) fun X hn hX=>?_
 repeat'(first|(with_reducible first|refine St.f ?_|refine V_c ?_|refine And.intro ?_ ?_|refine aI ?_ ?_|refine aN ?_)|((refine aQ ?_);intro K hK)|((with_reducible refine So.f ?_);intro K hK;simp(contextual:=true)only [go_sem,simprocAttr])|((with_reducible refine hK _ ?_);clear hK K)|(refine aCl (k:=9) (e:=2) (by simp only [go_sem,simprocAttr]) ?_;simp only [go_sem,simprocAttr])|(refine fun(hc:(_:Bool)=_)=>?_;try simp only [hcS]at hc))
 all_goals try exact om_
 refine aG (G:={i:Nat//i≤A.length∧(True)}) (fun⟨i,_⟩=>[(9,iv i),(3, .sl 0)]) [2,7,8] (fun⟨i,_⟩=>[(0,⟨1, .arr (mapD Tryz.prog 9 2 i (pm A i))⟩)]) [0] (fun zz=>A.length-zz.1) ⟨0,Nat.zero_le _,by first|trivial|simp⟩ ?_ ?_
 ·exact Imp.au hX
 rintro⟨i,hii,hwi⟩
 simp only [go_sem,simprocAttr]
 rcases Nat.lt_or_ge i A.length with hlt|hge
 ·have m3:=hb i hlt
  have m4:=hx i hlt
  have m5:=yY m3
  have m6:i<maxLen:=by unfold maxLen;omega
  repeat'(first|(with_reducible first|refine St.f ?_|refine V_c ?_|refine And.intro ?_ ?_|refine aI ?_ ?_|refine aN ?_)|((refine aQ ?_);intro K hK)|((with_reducible refine So.f ?_);intro K hK;simp(contextual:=true)only [go_sem,simprocAttr])|((with_reducible refine hK _ ?_);clear hK K)|((with_reducible refine aE 129 ?_);refine EvCall.rq (a:=(rI (r:=A.getD i []) (by first|omega|assumption|rfl) (by first|omega|assumption|rfl))) (b:=aB3) (c:=?_);all_goals try simp only [go_sem,simprocAttr])|(refine yU (i:=0) (cv:=1) (n:=i) (z:=(i:Int)) (D:=pm A i) aOJ rfl (by simp only [go_sem,simprocAttr]) (by simp only [go_sem,simprocAttr]) (by simp only [go_sem,simprocAttr]) m5 (by simp only [go_sem,simprocAttr]) ⟨by omega,by omega⟩ m6 ?_;simp only [go_sem,simprocAttr])|(refine fun(hc:(_:Bool)=_)=>?_;try simp only [hcS]at hc))
  all_goals try exact om_
  ·have e9:pm A (i+1)=(pm A i).put (.string (aE5 [A.getD i []]).data.toList) (.lit (.int .i64 i)):=rfl
   refine⟨⟨i+1,by omega,(by trivial)⟩,by simp only;omega,Imp.auto hX (by simp only [go_sem,simprocAttr,e9])⟩
 ·obtain rfl:i=A.length:=by omega
  repeat'(first|(with_reducible first|refine St.f ?_|refine V_c ?_|refine And.intro ?_ ?_|refine aI ?_ ?_|refine aN ?_)|((refine aQ ?_);intro K hK)|((with_reducible refine So.f ?_);intro K hK;simp(contextual:=true)only [go_sem,simprocAttr])|((with_reducible refine hK _ ?_);clear hK K)|(refine fun(hc:(_:Bool)=_)=>?_;try simp only [hcS]at hc))
  all_goals try exact om_
  ·(first|refine aB ?_|refine aA ?_);simp only [go_sem,simprocAttr,Tryz.f127]
theorem aDO:(Value.map none).oneCell'=true:=rfl
theorem aFf:(Value.slice none 0 0).oneCell'=true:=rfl
theorem aHO {A:List (List Int)} {xs:List RawV}:aRX A xs []=[]:=rfl
attribute [local go_sem] aHi aLb aHO aDO aFf List.set_cons_zero List.set_cons_succ
end Go.Eng
end
section
namespace Go.Eng
open Go Go.Proofs Go.Cats
theorem iI:(Value.slice none 0 0).oneCell'=true:=rfl
attribute [local go_sem] iI
theorem aFi:aRJ []=[]:=rfl
attribute [go_sem] aFi
end Go.Eng
end
section
namespace Go.Eng
open Go Go.Proofs Go.Cats
section
variable (f g:SF) (b:Bool) (m:Int) (F:List (List (List Int)))
end
attribute [local go_sem] aHL
end Go.Eng
end
section
namespace Go.Eng
open Go Go.Proofs Go.Cats
attribute [local go_sem] aIJ
end Go.Eng
end
section
namespace Go.Eng
open Go Go.Proofs Go.Cats
theorem aFL (n i:Nat):((n:Int)-1-(i:Int)).toNat=n-1-i:=by omega
theorem aMJ:pX none= -1:=rfl
theorem aMH:pE none= -1:=rfl
theorem aMK (x e:Nat):pX (some (x,e))=x:=rfl
theorem aMI (x e:Nat):pE (some (x,e))=e:=rfl
attribute [local go_sem] aFL aMJ aMH aMK aMI aID aIC List.set_cons_succ List.set_cons_zero
end Go.Eng
end
section
namespace Go.Eng
open Go Go.Proofs Go.Cats
attribute [local go_sem] List.set_cons_succ List.set_cons_zero iI
end Go.Eng
end
section
namespace Go.Eng
open Go Go.Proofs Go.Cats
def iuP (f:SF) (i:Nat):List (List Int):=(List.range i).map fun x=>nums (f.sizes.getD x 0).toNat
def bwP (P:List (List Int)) (i:Nat):List (List Int):=(List.range i).map fun x=>bwL (P.getD x []) (P.getD x []).length
section
variable {f g h:SF} {P Q R:List (List Int)} {i x:Nat}
theorem aKC {F:Nat→List Int} (h:x<i):((List.range i).map F).getD x []=F x:=by
 rw [List.getD_eq_getElem?_getD,List.getElem?_map,List.getElem?_range h];rfl
theorem yW:iuP f 0=[]:=rfl
theorem aJx:iuP f (i+1)=iuP f i++[nums (f.sizes.getD i 0).toNat]:=by unfold iuP;rw [List.range_succ,List.map_append];rfl
theorem aCm:(iuP f i).length=i:=by unfold iuP;rw [List.length_map,List.length_range]
theorem aOG (h:x<i):(iuP f i).getD x []=nums (f.sizes.getD x 0).toNat:=aKC h
theorem aC1:bwP P 0=[]:=rfl
theorem aIG:bwP P (i+1)=bwP P i++[bwL (P.getD i []) (P.getD i []).length]:=by unfold bwP;rw [List.range_succ,List.map_append];rfl
theorem aB1:(bwP P i).length=i:=by unfold bwP;rw [List.length_map,List.length_range]
theorem aOf (h:x<i):(bwP P i).getD x []=bwL (P.getD x []) (P.getD x []).length:=aKC h
end
end Go.Eng
end
section
namespace Go.Eng
open Go Go.Proofs Go.Cats
attribute [local go_sem] aFW aBG zN
end Go.Eng
end
section
namespace Go.Eng
open Go Go.Proofs Go.Cats
theorem aR3 (o q):(stA o q).1=false:=rfl
theorem aR4 (o q):(stA o q).2=q:=rfl
theorem aR5 (M o q):(stB M o q).1=decide (o.length+1≤M):=rfl
theorem aR6 (M o q):(stB M o q).2=o++[q]:=rfl
attribute [local go_sem] List.set_cons_zero aR3 aR4 aR5 aR6
end Go.Eng
end
section
namespace Go.Eng
open Go Go.Proofs Go.Cats
theorem aEG {f g:SF} {n x e:Nat} {P:List (List Int)}:aIw f g true n x e P 0=[]:=rfl
theorem aG5 {O:List (List Int)}:eat stA O []=(true,O):=rfl
theorem aLm {Q:List (List Int)}:aPz Q []=Q:=rfl
attribute [local go_sem] aEG aG5 aLm
end Go.Eng
end
section
namespace Go.Eng
open Go Go.Proofs Go.Cats
attribute [local go_sem] List.set_cons_succ List.set_cons_zero iI
end Go.Eng
end
section
namespace Go.Eng
open Go Go.Proofs Go.Cats
attribute [local go_sem] aFW aBG zN
end Go.Eng
end
section
namespace Go.Eng
open Go Go.Proofs Go.Cats
theorem aEH {f g:SF} {n x e:Nat} {P:List (List Int)}:aIw f g false n x e P 0=[]:=rfl
theorem aG6 {O:List (List (List Int))} {M:Nat}:eat (stB M) O []=(true,O):=rfl
theorem aLn {Q:List (List Int)}:aPz Q []=Q:=rfl
attribute [local go_sem] aEH aG6 aLn
end Go.Eng
end
section
namespace Go.Eng
open Go Go.Proofs Go.Cats
attribute [local go_sem] List.set_cons_succ List.set_cons_zero iI
end Go.Eng
end
section
namespace Go.Eng
open Go Go.Proofs Go.Cats
attribute [local go_sem] List.set_cons_succ List.set_cons_zero iI
end Go.Eng
end
section
namespace Go.Eng
open Go Go.Proofs Go.Cats
attribute [local go_sem] List.set_cons_succ List.set_cons_zero iI
theorem aFT {P:Program} {F:FuncId} {args:List Sv} {y:Value} (h:Spec P F args [] (.tup [.v (.slice none 0 0), .v y]) []):Spec P F args [] (.tup [.sl 0, .v y]) [(0,⟨1, .arr (aC [])⟩)]:=by
 refine Spec.adopt h (aAM aET) fun w S v cn h=>?_
 simp only [Sv.ok,Sv.okL]at h⊢
 obtain⟨vs,rfl,x,r,rfl,e,hr⟩:=h
 exact⟨_,rfl,_,_,rfl,⟨Nat.le_refl 1,e⟩,hr⟩
def _root_.Go.Cats.SF.bad (f g:SF) (c:Int):Prop:=(SCo f g c∧c≠0)∨(SPair f g∧12<f.elems∧c=3)
end Go.Eng
end
