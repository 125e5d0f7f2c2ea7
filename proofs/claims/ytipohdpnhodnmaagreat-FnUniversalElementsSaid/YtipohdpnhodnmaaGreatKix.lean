/- Several texts in one: C10, C11, C05, C06, C04, C09, C08, C12, C13. -/
import Derived.Test.YtipohdpnhodnmaaGreatG11y
set_option linter.unusedSimpArgs false
set_option linter.unusedVariables false
set_option maxRecDepth 100000
set_option maxHeartbeats 16000000
section
namespace Go.Eng
open Go Go.Proofs Go.Cats
@[go_sem] theorem aQQ (l):(bys l).isSl=true:=rfl
@[go_sem] theorem aVR (l):(bys l).sz=1:=rfl
@[go_sem] theorem aVQ (l:List Int):(bys l).nc=l.length:=by simp [bys,Dt.nc,Dt.cells]
@[go_sem] theorem aTF (l:List Int):(bys l).len=l.length:=by simp [bys,Dt.len,Dt.sz,Dt.nc,Dt.cells]
@[go_sem] theorem aQR (l:List Int):(bys l).ones=true:=by simp [bys,Dt.ones,Dt.cells,Dt.one,Value.oneCell']
@[go_sem] theorem aQP (l:List Int):(bys l).flat=true:=by simp [bys,Dt.flat,Dt.cells,Dt.isV]
@[go_sem] theorem aTE (l m:List Int):Dt.app 1 (.v (.int .u8 0)) (bys l) (bys m)=bys (l++m):=by simp [bys,Dt.app,Dt.cells]
@[go_sem] theorem aTG:Dt.sl 1 (.v (.int .u8 0)) []=bys []:=rfl
@[go_sem] theorem aTH (n:Int):Dt.sl 1 (.v (.int .u8 0)) [.v (.int .u8 n)]=bys [n]:=rfl
def tX (ls:List (List Int)):List Int:=ls.flatMap fun l=>l++[255]
@[go_sem] theorem aRs:tX []=[]:=rfl
def aE5 (ls:List (List Int)):ByteArray:=strOfNums (tX ls)
theorem aBs (ls:List (List Int)) (i:Nat) (h:i<ls.length):tX (ls.take (i+1))=tX (ls.take i)++ls.getD i []++[255]:=by
 unfold tX
 rw [List.take_succ_eq_append_getElem h,gL h,List.flatMap_append,List.flatMap_cons,List.flatMap_nil,List.append_nil,List.append_assoc]
theorem aMs (ls:List (List Int)) (i j:Nat) (h:j<(ls.getD i []).length):tX (ls.take i)++(ls.getD i []).take j++[(ls.getD i []).getD j 0]=tX (ls.take i)++(ls.getD i []).take (j+1):=by
 rw [List.take_succ_eq_append_getElem h,gL h,List.append_assoc]
theorem aJL (ls:List (List Int)) (i:Nat) (hb:∀i,i<ls.length→(ls.getD i []).length≤64):(tX (ls.take i)).length≤65*i:=by
 induction i with
 |zero=>simp [tX]
 |succ i ih=>
  by_cases h:i<ls.length
  ·rw [aBs ls i h];have:=hb i h;simp only [List.length_append,List.length_cons,List.length_nil];omega
  ·rw [List.take_of_length_le (by omega)];rw [List.take_of_length_le (by omega)]at ih;omega
theorem ty_u8:(Tryz.prog.underlying 2).isSome=true∧Tryz.prog.underlying 5=some (.int .u8):=⟨by rw [Tryz.underlying2];rfl,Tryz.underlying5⟩
theorem aB3:aF Tryz.prog 129:=⟨_,Tryz.func129,rfl,rfl⟩
theorem aPr {ls:List (List Int)} (hl:ls.length≤64) (hb:∀i,i<ls.length→(ls.getD i []).length≤64) (hr:∀i j,i<ls.length→j<(ls.getD i []).length→0≤(ls.getD i []).getD j 0∧(ls.getD i []).getD j 0<256):Spec Tryz.prog 129 [.bor [] (aC ls)] [] (.v (.string (aE5 ls))) []:=by
 refine aD (E:=TE) 0 Tryz.func129 rfl (by simp [Tryz.f129]) fun X hn hX=>?_
 repeat'(first|(with_reducible first|refine St.f ?_|refine V_c ?_|refine And.intro ?_ ?_|refine aI ?_ ?_|refine aN ?_)|((refine aQ ?_);intro K hK)|((with_reducible refine So.f ?_);intro K hK;simp(contextual:=true)only [go_sem,simprocAttr])|((with_reducible refine hK _ ?_);clear hK K)|(refine fun(hc:(_:Bool)=_)=>?_;try simp only [hcS]at hc))
 all_goals try exact om_
 refine aG (G:={i:Nat//i≤ls.length∧(True)}) (fun⟨i,_⟩=>[(11,iv i),(3, .sl 0)]) [2,9,10] (fun⟨i,_⟩=>[(0,⟨1, .arr (bys (tX (ls.take i)))⟩)]) [0] (fun zz=>ls.length-zz.1) ⟨0,Nat.zero_le _,by first|trivial|simp⟩ ?_ ?_
 ·exact Imp.au hX
 rintro⟨i,hii,hwi⟩
 simp only [go_sem,simprocAttr]
 have hli:=fun h:i<ls.length=>hb i h
 have hlk:=aJL ls i hb
 repeat'(first|(with_reducible first|refine St.f ?_|refine V_c ?_|refine And.intro ?_ ?_|refine aI ?_ ?_|refine aN ?_)|((refine aQ ?_);intro K hK)|((with_reducible refine So.f ?_);intro K hK;simp(contextual:=true)only [go_sem,simprocAttr])|((with_reducible refine hK _ ?_);clear hK K)|(refine fun(hc:(_:Bool)=_)=>?_;try simp only [hcS]at hc))
 all_goals try exact om_
 ·refine aG (G:={j:Nat//j≤(ls.getD i []).length∧(True)}) (fun⟨j,_⟩=>[(17,iv j),(3, .sl 0)]) [2,9,10,11,15,16] (fun⟨j,_⟩=>[(0,⟨1, .arr (bys (tX (ls.take i)++(ls.getD i []).take j))⟩)]) [0] (fun zz=>(ls.getD i []).length-zz.1) ⟨0,Nat.zero_le _,by simp⟩ ?_ ?_
  ·exact Imp.au hX
  rintro⟨j,hij,hwj⟩
  simp only [go_sem,simprocAttr]
  have hrj:=fun h:j<(ls.getD i []).length=>hr i j (by omega) h
  repeat'(first|(refine aMm ty_u8.1 ty_u8.2 (by simp only [go_sem,simprocAttr];rfl) ?_ ?_ ?_;all_goals try simp only [go_sem,simprocAttr])|(with_reducible first|refine St.f ?_|refine V_c ?_|refine And.intro ?_ ?_|refine aI ?_ ?_|refine aN ?_)|((refine aQ ?_);intro K hK)|((with_reducible refine So.f ?_);intro K hK;simp(contextual:=true)only [go_sem,simprocAttr])|((with_reducible refine hK _ ?_);clear hK K)|(refine fun(hc:(_:Bool)=_)=>?_;try simp only [hcS]at hc))
  all_goals try exact om_
  ·have e1:=aMs ls i j (by omega)
   refine⟨⟨j+1,by omega,(by trivial)⟩,by simp only;omega,Imp.auto hX (by simp only [go_sem,simprocAttr,e1])⟩
  ·have e1:=aBs ls i (by omega)
   have e:j=(ls.getD i []).length:=by omega
   subst e
   refine⟨⟨i+1,by omega,(by trivial)⟩,by simp only;omega,Imp.auto hX (by simp only [go_sem,simprocAttr,e1,List.take_length])⟩
 ·have e:i=ls.length:=by omega
  subst e
  repeat'(first|(refine aJp Tryz.underlying22 Tryz.underlying5 Tryz.underlying9 (by simp only [go_sem,simprocAttr];rfl) (by simp only [go_sem,simprocAttr];rfl) ?_;all_goals try simp only [go_sem,simprocAttr])|(with_reducible first|refine St.f ?_|refine V_c ?_|refine And.intro ?_ ?_|refine aI ?_ ?_|refine aN ?_)|((refine aQ ?_);intro K hK)|((with_reducible refine So.f ?_);intro K hK;simp(contextual:=true)only [go_sem,simprocAttr])|((with_reducible refine hK _ ?_);clear hK K)|(refine fun(hc:(_:Bool)=_)=>?_;try simp only [hcS]at hc))
  (first|refine aB ?_|refine aA ?_);simp only [go_sem,simprocAttr,Tryz.f129]
  rw [List.take_length];rfl
end Go.Eng
end
section
namespace Go.Eng
open Go Go.Proofs Go.Cats
def aCP (fr to:List Int) (h:Nat→Nat→Int) (i j:Nat):Int:=if to.getD i 0=fr.getD j 0 then h i j else-1
def gS (fr to:List Int) (h:Nat→Nat→Int) (i j:Nat):List Int:=(List.range j).map (aCP fr to h i)++List.replicate (fr.length-j) 0
def fH (fr to:List Int) (h:Nat→Nat→Int) (i:Nat):List (List Int):=(List.range i).map fun k=>(List.range fr.length).map (aCP fr to h k)
section
variable {fr to:List Int} {h:Nat→Nat→Int} {i j m:Nat}
@[go_sem] theorem aPt:fH fr to h 0=[]:=rfl
theorem gD:(fH fr to h i).length=i:=by simp [fH]
theorem tE (hj:j≤fr.length):(gS fr to h i j).length=fr.length:=by simp [gS];omega
theorem aIc:List.replicate fr.length 0=gS fr to h i 0:=by simp [gS]
theorem aEs (hj:j<fr.length) (x:Int):(gS fr to h i j).set j x=(List.range j).map (aCP fr to h i)++x::List.replicate (fr.length-(j+1)) 0:=by
 have e:fr.length-j=fr.length-(j+1)+1:=by omega
 unfold gS
 rw [List.set_append_right _ _ (by simp),e]
 simp [List.replicate_succ]
theorem aBN (hj:j<fr.length):gS fr to h i (j+1)=(List.range j).map (aCP fr to h i)++aCP fr to h i j::List.replicate (fr.length-(j+1)) 0:=by
 simp [gS,List.range_succ]
theorem aGO (hj:j<fr.length) (hc:¬to.getD i 0=fr.getD j 0):(gS fr to h i j).set j (-1)=gS fr to h i (j+1):=by
 rw [aEs hj,aBN hj,aCP,if_neg hc]
theorem aEt (hj:j<fr.length) (hc:to.getD i 0=fr.getD j 0):((gS fr to h i j).set j (-1)).set j (h i j)=gS fr to h i (j+1):=by
 rw [List.set_set,aEs hj,aBN hj,aCP,if_pos hc]
theorem aAB:fH fr to h i++[gS fr to h i fr.length]=fH fr to h (i+1):=by
 simp [fH,gS,List.range_succ]
theorem tb_at {x:List Int}:(cV (fH fr to h i++[x]) m).at i=ints x:=by
 rw [aJw (by simp [gD])]
 simp [List.getD_eq_getElem?_getD,gD]
theorem aCT {x r:List Int}:(cV (fH fr to h i++[x]) m).put i (ints r)=cV (fH fr to h i++[r]) m:=by
 rw [aHt (by simp [gD]),List.set_append_right _ _ (by rw [gD];omega),gD,Nat.sub_self]
 rfl
theorem aLe (hi:i<fr.length):(cV (fH fr to h i) (fr.length-i)).put i (ints (List.replicate fr.length 0))=cV (fH fr to h i++[gS fr to h i 0]) (fr.length-(i+1)):=by
 have e:fr.length-i=fr.length-(i+1)+1:=by omega
 have e2:=aHs (fH fr to h i) (fr.length-(i+1)) (List.replicate fr.length 0)
 rw [gD]at e2
 rw [e,e2,aIc]
end
theorem gX {ob:Int} {fr to id:List Int}:Spec Tryz.prog 84 [.bptr [] [.v (.int .i64 ob),ints fr,ints to,ints id, .v (.slice none 0 0)]] [] (iv fr.length) []:=by
 refine aD (E:=TE) 0 Tryz.func84 rfl (by simp [Tryz.f84]) fun X hn hX=>?_
 repeat'(first|refine wkQ ?_|refine Tw.f ?_ ?_|(refine fun(hc:(_:Bool)=_)=>?_;try simp only [hcS]at hc))
 (first|refine aB ?_|refine aA ?_);simp only [go_sem,simprocAttr,Tryz.f84]
theorem jV:aF Tryz.prog 130:=⟨_,Tryz.func130,rfl,rfl⟩
theorem sR {ob:Int} {fr to id:List Int} {F:FuncId} {cp:LC} {h:Nat→Nat→Int} (hF:aF Tryz.prog F) (hS:∀a b:Nat,a<fr.length→b<fr.length→to.getD a 0=fr.getD b 0→Spec Tryz.prog F ([iv a,iv b]++cp.l) [] (iv (h a b)) []) (hlen:fr.length≤1048576) (hto:to.length=fr.length) (hob:0≤ob):Spec Tryz.prog 130 [.ptr 0 0, .fn F cp.l] [(0,⟨1, .box [iv ob, .sl 1, .sl 2, .sl 3, .v (.slice none 0 0)]⟩),(1,⟨1, .arr (ints fr)⟩),(2,⟨1, .arr (ints to)⟩),(3,⟨1, .arr (ints id)⟩)] (.tup []) [(0,⟨1, .box [iv ob, .sl 1, .sl 2, .sl 3, .sl 4]⟩),(1,⟨1, .arr (ints fr)⟩),(2,⟨1, .arr (ints to)⟩),(3,⟨1, .arr (ints id)⟩),(4,⟨1, .arr (aC (fH fr to h fr.length))⟩)]:=by
 refine aD (E:=TE) 4 Tryz.func130 rfl (by simp [Tryz.f130]) fun X hn hX=>?_
 repeat'(first|refine wkQ ?_|refine Tw.f ?_ ?_|(refine kcQ bJ ?_;refine kwQ (gX (ob:=ob) (fr:=fr) (to:=to) (id:=id)) [] [0,1,2,3] ?_)|(refine fun(hc:(_:Bool)=_)=>?_;try simp only [hcS]at hc))
 all_goals try exact om_
 refine aG (G:={i:Nat//i≤fr.length∧(True)}) (fun⟨i,_⟩=>[(19,iv i)]) [0,1,4,18] (fun⟨i,_⟩=>[(0,⟨1, .box [iv ob, .sl 1, .sl 2, .sl 3, .sl 4]⟩),(1,⟨1, .arr (ints fr)⟩),(2,⟨1, .arr (ints to)⟩),(3,⟨1, .arr (ints id)⟩),(4,⟨1, .arr (cV (fH fr to h i) (fr.length-i))⟩)]) [0,1,2,3,4] (fun zz=>fr.length-zz.1) ⟨0,Nat.zero_le _,by simp⟩ ?_ ?_
 ·exact Imp.au hX
 rintro⟨i,hii,hwi⟩
 simp only [go_sem,simprocAttr]
 have l1:=gD (fr:=fr) (to:=to) (h:=h) (i:=i)
 have e3:=fun h0=>aLe (fr:=fr) (to:=to) (h:=h) (i:=i) h0
 have e4:=tb_at (fr:=fr) (to:=to) (h:=h) (i:=i) (m:=fr.length-(i+1)) (x:=gS fr to h i 0)
 repeat'(first|(refine dG 6 (Imp.refl _ _) ?_;rw [e3 (by omega)])|(with_reducible first|refine St.f ?_|refine V_c ?_|refine eDn ?_|refine And.intro ?_ ?_|refine aI ?_ ?_|refine aN ?_)|((refine aQ ?_);intro K hK)|((with_reducible refine So.f ?_);intro K hK;simp(contextual:=true)only [go_sem,simprocAttr])|((with_reducible refine hK _ ?_);clear hK K)|(rw [e4];simp only [go_sem,simprocAttr])|(refine fun(hc:(_:Bool)=_)=>?_;try simp only [hcS]at hc))
 all_goals try exact om_
 ·refine aG (G:={j:Nat//j≤fr.length∧(True)}) (fun⟨j,_⟩=>[(38,iv j)]) [0,1,4,5,18,19,37] (fun⟨j,_⟩=>[(0,⟨1, .box [iv ob, .sl 1, .sl 2, .sl 3, .sl 4]⟩),(1,⟨1, .arr (ints fr)⟩),(2,⟨1, .arr (ints to)⟩),(3,⟨1, .arr (ints id)⟩),(4,⟨1, .arr (cV (fH fr to h i++[gS fr to h i j]) (fr.length-(i+1)))⟩)]) [0,1,2,3,4] (fun zz=>fr.length-zz.1) ⟨0,Nat.zero_le _,by first|trivial|simp⟩ ?_ ?_
  ·exact Imp.au hX
  rintro⟨j,hij,hwj⟩
  simp only [go_sem,simprocAttr]
  have l0:=tE (fr:=fr) (to:=to) (h:=h) (i:=i) (j:=0) (Nat.zero_le _)
  have l2:=tE (fr:=fr) (to:=to) (h:=h) (i:=i) (j:=j) (by omega)
  have e2:=tb_at (fr:=fr) (to:=to) (h:=h) (i:=i) (m:=fr.length-(i+1)) (x:=gS fr to h i j)
  repeat'(first|(refine dG 9 (Imp.open_ 4 i _ [] (.inr ⟨rfl,rfl⟩) (by simp [go_sem,simprocAttr]) (by simp [go_sem,simprocAttr,l1];omega) rfl (by rw [e2];rfl) rfl) ?_;rw [e2])|refine dG 12 (Imp.closeA 4 6 i _ _ rfl rfl (by decide) (by simp [go_sem,simprocAttr,l1];omega)) ?_|(with_reducible first|refine St.f ?_|refine V_c ?_|refine eDn ?_|refine And.intro ?_ ?_|refine aI ?_ ?_|refine aN ?_)|((refine aQ ?_);intro K hK)|((with_reducible refine So.f ?_);intro K hK;simp(contextual:=true)only [go_sem,simprocAttr])|((with_reducible refine hK _ ?_);clear hK K)|((with_reducible refine aE F ?_);refine EvCall.lc rfl (hS i j (by omega) (by omega) (by assumption)) hF ?_;all_goals try simp only [go_sem,simprocAttr])|(refine fun(hc:(_:Bool)=_)=>?_;try simp only [hcS]at hc))
  all_goals try exact om_
  ·have e5:=aEt (fr:=fr) (to:=to) (h:=h) (i:=i) (j:=j) (by omega) (by assumption)
   have e6:=aCT (fr:=fr) (to:=to) (h:=h) (i:=i) (m:=fr.length-(i+1)) (x:=gS fr to h i j) (r:=gS fr to h i (j+1))
   refine⟨⟨j+1,by omega,(by trivial)⟩,by simp only;omega,Imp.auto hX (by simp only [go_sem,simprocAttr,e5,e6])⟩
  ·have e5:=aGO (fr:=fr) (to:=to) (h:=h) (i:=i) (j:=j) (by omega) (by assumption)
   have e6:=aCT (fr:=fr) (to:=to) (h:=h) (i:=i) (m:=fr.length-(i+1)) (x:=gS fr to h i j) (r:=gS fr to h i (j+1))
   refine⟨⟨j+1,by omega,(by trivial)⟩,by simp only;omega,Imp.auto hX (by simp only [go_sem,simprocAttr,e5,e6])⟩
  ·have e:j=fr.length:=by omega
   subst e
   have e5:=aAB (fr:=fr) (to:=to) (h:=h) (i:=i)
   refine⟨⟨i+1,by omega,(by trivial)⟩,by simp only;omega,Imp.auto hX (by simp only [go_sem,simprocAttr,e5])⟩
 ·have e:i=fr.length:=by omega
  subst e
  (first|refine aB ?_|refine aA ?_);simp only [go_sem,simprocAttr,Tryz.f130]
  simp [go_sem,simprocAttr]
end Go.Eng
end
section
namespace Go.Eng
open Go Go.Proofs Go.Cats
attribute [local go_sem] aFY pB cJ aB2
theorem xW:aF Tryz.prog 128:=⟨_,Tryz.func128,rfl,rfl⟩
theorem aBH {l:List (List Int)} {k:Nat} (hl:l.length≤1048576) (hk:∀i,i<l.length→k<(l.getD i []).length):Spec Tryz.prog 128 [.bor [] (aC l),iv k] [] (.sl 0) [(0,⟨1, .arr (ints (gK l k l.length))⟩)]:=by
 refine aD (E:=TE) 0 Tryz.func128 rfl (by simp [Tryz.f128]) fun X hn hX=>?_
 repeat'(first|refine wkQ ?_|refine Tw.f ?_ ?_|(refine fun(hc:(_:Bool)=_)=>?_;try simp only [hcS]at hc))
 all_goals try exact om_
 refine aG (G:={i:Nat//i≤l.length∧(True)}) (fun⟨i,_⟩=>[(11,iv i),(5, .sl 0)]) [1,4,9,10] (fun⟨i,_⟩=>[(0,⟨1, .arr (ints (gK l k i))⟩)]) [0] (fun zz=>l.length-zz.1) ⟨0,Nat.zero_le _,by first|trivial|simp⟩ ?_ ?_
 ·exact Imp.au hX
 rintro⟨i,hii,hwi⟩
 simp only [go_sem,simprocAttr]
 have h1:=hk i
 repeat'(first|refine wkQ ?_|refine Tw.f ?_ ?_|(refine fun(hc:(_:Bool)=_)=>?_;try simp only [hcS]at hc))
 all_goals try exact om_
 ·refine⟨⟨i+1,by omega,(by trivial)⟩,by simp only;omega,Imp.auto hX (by simp only [go_sem,simprocAttr,aG3 (show i<l.length by omega)])⟩
 ·(first|refine aB ?_|refine aA ?_);simp only [go_sem,simprocAttr,Tryz.f128]
  rw [show l.length=i by omega]
theorem dO:aF Tryz.prog 234:=⟨_,Tryz.func234,rfl,rfl⟩
theorem sp_l02Fits {c:Cat} (hl:c.fr.length≤1048576):Spec Tryz.prog 234 [jX c] [] (bv (dec (c.ob≤8∧c.fr.length≤40))) []:=by
 refine aD (E:=TE) 0 Tryz.func234 rfl (by simp [Tryz.f234]) fun X hn hX=>?_
 repeat'(first|refine wkQ ?_|refine Tw.f ?_ ?_|(refine fun(hc:(_:Bool)=_)=>?_;try simp only [hcS]at hc))
 all_goals try exact om_
 ·(first|refine aB ?_|refine aA ?_);simp only [go_sem,simprocAttr,Tryz.f234]
  exact congrArg (fun b=>Sv.v (.bool b)) (by rw [jC];simp [hc];omega)
 ·(first|refine aB ?_|refine aA ?_);simp only [go_sem,simprocAttr,Tryz.f234]
  exact cW fun h=>by omega
end Go.Eng
end
section
namespace Go.Eng
open Go Go.Proofs Go.Cats
attribute [local go_sem] pB cJ aGR aAE
end Go.Eng
end
section
namespace Go.Eng
open Go Go.Proofs Go.Cats
attribute [go_sem] aFY pB cJ
end Go.Eng
end
section
namespace Go.Eng
open Go Go.Proofs Go.Cats
abbrev cmK (f e:Fun) (h:Value) (d:Dt):Rk:= .bx [.bptr [] (aAN f), .bptr [] (aAN e), .v h, .dead] 3 d
abbrev cmL (f e:Fun) (h:Value) (s t:Nat) (p q:List Int) (A:List (List Int)):List (Nat×Rs):=
 [(3,⟨1,cmK f e h (aC A)⟩),(8,⟨1, .box [.ptr 3 0]⟩),(9,⟨1, .box [.bor [] (ints p)]⟩),(10,⟨1, .box [.bor [] (ints q)]⟩),(7,⟨1, .box [iv t]⟩),(4,⟨1, .box [.ptr 3 0]⟩),(0,⟨1, .box [.v (.pointer none)]⟩),(1,⟨1, .box [.v (.bool false)]⟩),(6,⟨1, .box [iv s]⟩)]
abbrev cmI:List Nat:=[3,8,9,10,7,4,0,1,6]
attribute [local go_sem] cmK cmL
end Go.Eng
end
section
namespace Go.Eng
open Go Go.Proofs Go.Cats
attribute [local go_sem] aB2 cmK
@[go_sem] theorem fC:(Value.slice none 0 0).oneCell'=true:=rfl
@[go_sem] theorem fD:(Value.pointer none).oneCell'=true:=rfl
attribute [local go_sem] cmL aRe cmI
end Go.Eng
end
section
namespace Go.Eng
open Go Go.Proofs Go.Cats
attribute [local go_sem] cmK cmL
end Go.Eng
end
section
namespace Go.Eng
open Go Go.Proofs Go.Cats
attribute [local go_sem] aB2 cmK cmL aRe cmI
end Go.Eng
end
