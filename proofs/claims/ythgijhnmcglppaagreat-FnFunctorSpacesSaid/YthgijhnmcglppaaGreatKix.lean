/- Several texts in one: C04, C09, C08, C12, C13, C10, C11, C05, C06. -/
import Derived.Test.YthgijhnmcglppaaGreatC01y
import Derived.Test.YthgijhnmcglppaaGreatEngDby
set_option linter.unusedSimpArgs false
set_option linter.unusedVariables false
set_option maxRecDepth 100000
set_option maxHeartbeats 16000000
section
namespace Go.Eng
open Go Go.Proofs Go.Cats
attribute [go_sem] aH1 sD iR
end Go.Eng
end
section
namespace Go.Eng
open Go Go.Proofs Go.Cats
abbrev cmK (f e:Fun) (h:Value) (d:Dt):Rk:= .bx [.bptr [] (dX f), .bptr [] (dX e), .v h, .dead] 3 d
abbrev cmL (f e:Fun) (h:Value) (s t:Nat) (p q:List Int) (A:List (List Int)):List (Nat×Rs):=
 [(3,⟨1,cmK f e h (aF A)⟩),(8,⟨1, .box [.ptr 3 0]⟩),(9,⟨1, .box [.bor [] (ints p)]⟩),(10,⟨1, .box [.bor [] (ints q)]⟩),(7,⟨1, .box [iv t]⟩),(4,⟨1, .box [.ptr 3 0]⟩),(0,⟨1, .box [.v (.pointer none)]⟩),(1,⟨1, .box [.v (.bool false)]⟩),(6,⟨1, .box [iv s]⟩)]
abbrev cmI:List Nat:=[3,8,9,10,7,4,0,1,6]
attribute [local go_sem] cmK cmL
end Go.Eng
end
section
namespace Go.Eng
open Go Go.Proofs Go.Cats
attribute [local go_sem] aDU cmK
@[go_sem] theorem gY:(Value.slice none 0 0).oneCell'=true:=rfl
@[go_sem] theorem gZ:(Value.pointer none).oneCell'=true:=rfl
attribute [local go_sem] cmL aTO cmI
end Go.Eng
end
section
namespace Go.Eng
open Go Go.Proofs Go.Cats
attribute [local go_sem] cmK cmL
end Go.Eng
end
section
namespace Go.Eng
open Go Go.Proofs Go.Cats
attribute [local go_sem] aDU cmK cmL aTO cmI
end Go.Eng
end
section
namespace Go.Eng
open Go Go.Proofs Go.Cats
@[go_sem] theorem aTd (l):(bys l).isSl=true:=rfl
@[go_sem] theorem aYV (l):(bys l).sz=1:=rfl
@[go_sem] theorem aYU (l:List Int):(bys l).nc=l.length:=by simp [bys,Dt.nc,Dt.cells]
@[go_sem] theorem aWr (l:List Int):(bys l).len=l.length:=by simp [bys,Dt.len,Dt.sz,Dt.nc,Dt.cells]
@[go_sem] theorem aTe (l:List Int):(bys l).ones=true:=by simp [bys,Dt.ones,Dt.cells,Dt.one,Value.oneCell']
@[go_sem] theorem aTc (l:List Int):(bys l).flat=true:=by simp [bys,Dt.flat,Dt.cells,Dt.isV]
@[go_sem] theorem aWq (l m:List Int):Dt.app 1 (.v (.int .u8 0)) (bys l) (bys m)=bys (l++m):=by simp [bys,Dt.app,Dt.cells]
@[go_sem] theorem aWs:Dt.sl 1 (.v (.int .u8 0)) []=bys []:=rfl
@[go_sem] theorem aWt (n:Int):Dt.sl 1 (.v (.int .u8 0)) [.v (.int .u8 n)]=bys [n]:=rfl
def uF (ls:List (List Int)):List Int:=ls.flatMap fun l=>l++[255]
@[go_sem] theorem aT2:uF []=[]:=rfl
def tC (ls:List (List Int)):ByteArray:=strOfNums (uF ls)
theorem aDk (ls:List (List Int)) (i:Nat) (h:i<ls.length):uF (ls.take (i+1))=uF (ls.take i)++ls.getD i []++[255]:=by
 unfold uF
 rw [List.take_succ_eq_append_getElem h,iV h,List.flatMap_append,List.flatMap_cons,List.flatMap_nil,List.append_nil,List.append_assoc]
theorem aOG (ls:List (List Int)) (i j:Nat) (h:j<(ls.getD i []).length):uF (ls.take i)++(ls.getD i []).take j++[(ls.getD i []).getD j 0]=uF (ls.take i)++(ls.getD i []).take (j+1):=by
 rw [List.take_succ_eq_append_getElem h,iV h,List.append_assoc]
theorem aLZ (ls:List (List Int)) (i:Nat) (hb:∀i,i<ls.length→(ls.getD i []).length≤64):(uF (ls.take i)).length≤65*i:=by
 induction i with
 |zero=>simp [uF]
 |succ i ih=>
  by_cases h:i<ls.length
  ·rw [aDk ls i h];have:=hb i h;simp only [List.length_append,List.length_cons,List.length_nil];omega
  ·rw [List.take_of_length_le (by omega)];rw [List.take_of_length_le (by omega)]at ih;omega
theorem ty_u8:(Tryz.prog.underlying 2).isSome=true∧Tryz.prog.underlying 5=some (.int .u8):=⟨by rw [Tryz.underlying2];rfl,Tryz.underlying5⟩
theorem aAv:aE Tryz.prog 182:=⟨_,Tryz.func182,rfl,rfl⟩
theorem aNo {ls:List (List Int)} (hl:ls.length≤64) (hb:∀i,i<ls.length→(ls.getD i []).length≤64) (hr:∀i j,i<ls.length→j<(ls.getD i []).length→0≤(ls.getD i []).getD j 0∧(ls.getD i []).getD j 0<256):Spec Tryz.prog 182 [.bor [] (aF ls)] [] (.v (.string (tC ls))) []:=by
 refine aD (E:=TE) 0 Tryz.func182 rfl (by simp [Tryz.f182]) fun X hn hX=>?_
 repeat'(first|(with_reducible first|refine St.f ?_|refine V_c ?_|refine And.intro ?_ ?_|refine aH ?_ ?_|refine aK ?_)|((refine aN ?_);intro K hK)|((with_reducible refine So.f ?_);intro K hK;simp(contextual:=true)only [go_sem,simprocAttr])|((with_reducible refine hK _ ?_);clear hK K)|(refine fun(hc:(_:Bool)=_)=>?_;try simp only [hcS]at hc))
 all_goals try exact om_
 refine aG (G:={i:Nat//i≤ls.length∧(True)}) (fun⟨i,_⟩=>[(11,iv i),(3, .sl 0)]) [2,9,10] (fun⟨i,_⟩=>[(0,⟨1, .arr (bys (uF (ls.take i)))⟩)]) [0] (fun zz=>ls.length-zz.1) ⟨0,Nat.zero_le _,by first|trivial|simp⟩ ?_ ?_
 ·exact Imp.au hX
 rintro⟨i,hii,hwi⟩
 simp only [go_sem,simprocAttr]
 have hli:=fun h:i<ls.length=>hb i h
 have hlk:=aLZ ls i hb
 repeat'(first|(with_reducible first|refine St.f ?_|refine V_c ?_|refine And.intro ?_ ?_|refine aH ?_ ?_|refine aK ?_)|((refine aN ?_);intro K hK)|((with_reducible refine So.f ?_);intro K hK;simp(contextual:=true)only [go_sem,simprocAttr])|((with_reducible refine hK _ ?_);clear hK K)|(refine fun(hc:(_:Bool)=_)=>?_;try simp only [hcS]at hc))
 all_goals try exact om_
 ·refine aG (G:={j:Nat//j≤(ls.getD i []).length∧(True)}) (fun⟨j,_⟩=>[(17,iv j),(3, .sl 0)]) [2,9,10,11,15,16] (fun⟨j,_⟩=>[(0,⟨1, .arr (bys (uF (ls.take i)++(ls.getD i []).take j))⟩)]) [0] (fun zz=>(ls.getD i []).length-zz.1) ⟨0,Nat.zero_le _,by simp⟩ ?_ ?_
  ·exact Imp.au hX
  rintro⟨j,hij,hwj⟩
  simp only [go_sem,simprocAttr]
  have hrj:=fun h:j<(ls.getD i []).length=>hr i j (by omega) h
  repeat'(first|(refine aOA ty_u8.1 ty_u8.2 (by simp only [go_sem,simprocAttr];rfl) ?_ ?_ ?_;all_goals try simp only [go_sem,simprocAttr])|(with_reducible first|refine St.f ?_|refine V_c ?_|refine And.intro ?_ ?_|refine aH ?_ ?_|refine aK ?_)|((refine aN ?_);intro K hK)|((with_reducible refine So.f ?_);intro K hK;simp(contextual:=true)only [go_sem,simprocAttr])|((with_reducible refine hK _ ?_);clear hK K)|(refine fun(hc:(_:Bool)=_)=>?_;try simp only [hcS]at hc))
  all_goals try exact om_
  ·have e1:=aOG ls i j (by omega)
   refine⟨⟨j+1,by omega,(by trivial)⟩,by simp only;omega,Imp.auto hX (by simp only [go_sem,simprocAttr,e1])⟩
  ·have e1:=aDk ls i (by omega)
   have e:j=(ls.getD i []).length:=by omega
   subst e
   refine⟨⟨i+1,by omega,(by trivial)⟩,by simp only;omega,Imp.auto hX (by simp only [go_sem,simprocAttr,e1,List.take_length])⟩
 ·have e:i=ls.length:=by omega
  subst e
  repeat'(first|(refine aLG Tryz.underlying22 Tryz.underlying5 Tryz.underlying9 (by simp only [go_sem,simprocAttr];rfl) (by simp only [go_sem,simprocAttr];rfl) ?_;all_goals try simp only [go_sem,simprocAttr])|(with_reducible first|refine St.f ?_|refine V_c ?_|refine And.intro ?_ ?_|refine aH ?_ ?_|refine aK ?_)|((refine aN ?_);intro K hK)|((with_reducible refine So.f ?_);intro K hK;simp(contextual:=true)only [go_sem,simprocAttr])|((with_reducible refine hK _ ?_);clear hK K)|(refine fun(hc:(_:Bool)=_)=>?_;try simp only [hcS]at hc))
  (first|refine aB ?_|refine aA ?_);simp only [go_sem,simprocAttr,Tryz.f182]
  rw [List.take_length];rfl
end Go.Eng
end
section
namespace Go.Eng
open Go Go.Proofs Go.Cats
def aGs (fr to:List Int) (h:Nat→Nat→Int) (i j:Nat):Int:=if to.getD i 0=fr.getD j 0 then h i j else-1
def lZ (fr to:List Int) (h:Nat→Nat→Int) (i j:Nat):List Int:=(List.range j).map (aGs fr to h i)++List.replicate (fr.length-j) 0
def jC (fr to:List Int) (h:Nat→Nat→Int) (i:Nat):List (List Int):=(List.range i).map fun k=>(List.range fr.length).map (aGs fr to h k)
section
variable {fr to:List Int} {h:Nat→Nat→Int} {i j m:Nat}
@[go_sem] theorem aRQ:jC fr to h 0=[]:=rfl
theorem jK:(jC fr to h i).length=i:=by simp [jC]
theorem aGt (hj:j≤fr.length):(lZ fr to h i j).length=fr.length:=by simp [lZ];omega
theorem aKC:List.replicate fr.length 0=lZ fr to h i 0:=by simp [lZ]
theorem aGu (hj:j<fr.length) (x:Int):(lZ fr to h i j).set j x=(List.range j).map (aGs fr to h i)++x::List.replicate (fr.length-(j+1)) 0:=by
 have e:fr.length-j=fr.length-(j+1)+1:=by omega
 unfold lZ
 rw [List.set_append_right _ _ (by simp),e]
 simp [List.replicate_succ]
theorem aDJ (hj:j<fr.length):lZ fr to h i (j+1)=(List.range j).map (aGs fr to h i)++aGs fr to h i j::List.replicate (fr.length-(j+1)) 0:=by
 simp [lZ,List.range_succ]
theorem aPA (hj:j<fr.length) (hc:¬to.getD i 0=fr.getD j 0):(lZ fr to h i j).set j (-1)=lZ fr to h i (j+1):=by
 rw [aGu hj,aDJ hj,aGs,if_neg hc]
theorem aNE (hj:j<fr.length) (hc:to.getD i 0=fr.getD j 0):((lZ fr to h i j).set j (-1)).set j (h i j)=lZ fr to h i (j+1):=by
 rw [List.set_set,aGu hj,aDJ hj,aGs,if_pos hc]
theorem aHL:jC fr to h i++[lZ fr to h i fr.length]=jC fr to h (i+1):=by
 simp [jC,lZ,List.range_succ]
theorem tb_at {x:List Int}:(eH (jC fr to h i++[x]) m).at i=ints x:=by
 rw [aLM (by simp [jK])]
 simp [List.getD_eq_getElem?_getD,jK]
theorem aNH {x r:List Int}:(eH (jC fr to h i++[x]) m).put i (ints r)=eH (jC fr to h i++[r]) m:=by
 rw [aJz (by simp [jK]),List.set_append_right _ _ (by rw [jK];omega),jK,Nat.sub_self]
 rfl
theorem aRR (hi:i<fr.length):(eH (jC fr to h i) (fr.length-i)).put i (ints (List.replicate fr.length 0))=eH (jC fr to h i++[lZ fr to h i 0]) (fr.length-(i+1)):=by
 have e:fr.length-i=fr.length-(i+1)+1:=by omega
 have e2:=aJy (jC fr to h i) (fr.length-(i+1)) (List.replicate fr.length 0)
 rw [jK]at e2
 rw [e,e2,aKC]
end
theorem qC {ob:Int} {fr to id:List Int}:Spec Tryz.prog 82 [.bptr [] [.v (.int .i64 ob),ints fr,ints to,ints id, .v (.slice none 0 0)]] [] (iv fr.length) []:=by
 refine aD (E:=TE) 0 Tryz.func82 rfl (by simp [Tryz.f82]) fun X hn hX=>?_
 repeat'(first|refine wkQ ?_|refine Tw.f ?_ ?_|(refine fun(hc:(_:Bool)=_)=>?_;try simp only [hcS]at hc))
 (first|refine aB ?_|refine aA ?_);simp only [go_sem,simprocAttr,Tryz.f82]
theorem tS:aE Tryz.prog 179:=⟨_,Tryz.func179,rfl,rfl⟩
end Go.Eng
end
section
namespace Go.Eng
open Go Go.Proofs Go.Cats
attribute [local go_sem] aH1 sD iR aDU
theorem fD:aE Tryz.prog 269:=⟨_,Tryz.func269,rfl,rfl⟩
theorem sp_l02Fits {c:Cat} (hl:c.fr.length≤1048576):Spec Tryz.prog 269 [bK c] [] (bv (dec (c.ob≤8∧c.fr.length≤40))) []:=by
 refine aD (E:=TE) 0 Tryz.func269 rfl (by simp [Tryz.f269]) fun X hn hX=>?_
 repeat'(first|refine wkQ ?_|refine Tw.f ?_ ?_|(refine fun(hc:(_:Bool)=_)=>?_;try simp only [hcS]at hc))
 all_goals try exact om_
 ·(first|refine aB ?_|refine aA ?_);simp only [go_sem,simprocAttr,Tryz.f269]
  exact congrArg (fun b=>Sv.v (.bool b)) (by rw [mU];simp [hc];omega)
 ·(first|refine aB ?_|refine aA ?_);simp only [go_sem,simprocAttr,Tryz.f269]
  exact fH fun h=>by omega
end Go.Eng
end
section
namespace Go.Eng
open Go Go.Proofs Go.Cats
attribute [local go_sem] sD iR aIR aCe
end Go.Eng
end
