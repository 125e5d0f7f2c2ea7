/- Several texts in one: C04, C09, C08, C12, C13, C10, C11, C05, C06. -/
import Derived.Test.YthgijhnmcglppaaGreatC01y
set_option linter.unusedSimpArgs false
set_option linter.unusedVariables false
set_option maxRecDepth 100000
set_option maxHeartbeats 16000000
section
namespace Go.Eng
open Go Go.Proofs Go.Cats
attribute [go_sem] aFx pC gO
end Go.Eng
end
section
namespace Go.Eng
open Go Go.Proofs Go.Cats
abbrev cmK (f e:Fun) (h:Value) (d:Dt):Rk:= .bx [.bptr [] (aAy f), .bptr [] (aAy e), .v h, .dead] 3 d
abbrev cmL (f e:Fun) (h:Value) (s t:Nat) (p q:List Int) (A:List (List Int)):List (Nat×Rs):=
 [(3,⟨1,cmK f e h (aC A)⟩),(8,⟨1, .box [.ptr 3 0]⟩),(9,⟨1, .box [.bor [] (ints p)]⟩),(10,⟨1, .box [.bor [] (ints q)]⟩),(7,⟨1, .box [iv t]⟩),(4,⟨1, .box [.ptr 3 0]⟩),(0,⟨1, .box [.v (.pointer none)]⟩),(1,⟨1, .box [.v (.bool false)]⟩),(6,⟨1, .box [iv s]⟩)]
abbrev cmI:List Nat:=[3,8,9,10,7,4,0,1,6]
attribute [local go_sem] cmK cmL
end Go.Eng
end
section
namespace Go.Eng
open Go Go.Proofs Go.Cats
attribute [local go_sem] aBI cmK
@[go_sem] theorem iL:(Value.slice none 0 0).oneCell'=true:=rfl
@[go_sem] theorem iM:(Value.pointer none).oneCell'=true:=rfl
attribute [local go_sem] cmL aPJ cmI
end Go.Eng
end
section
namespace Go.Eng
open Go Go.Proofs Go.Cats
attribute [local go_sem] cmK cmL
end Go.Eng
end
section
namespace Go.Eng
open Go Go.Proofs Go.Cats
attribute [local go_sem] aBI cmK cmL aPJ cmI
end Go.Eng
end
section
namespace Go.Eng
open Go Go.Proofs Go.Cats
@[go_sem] theorem aPm (l):(bys l).isSl=true:=rfl
@[go_sem] theorem aUN (l):(bys l).sz=1:=rfl
@[go_sem] theorem aUM (l:List Int):(bys l).nc=l.length:=by simp [bys,Dt.nc,Dt.cells]
@[go_sem] theorem aSm (l:List Int):(bys l).len=l.length:=by simp [bys,Dt.len,Dt.sz,Dt.nc,Dt.cells]
@[go_sem] theorem aPn (l:List Int):(bys l).ones=true:=by simp [bys,Dt.ones,Dt.cells,Dt.one,Value.oneCell']
@[go_sem] theorem aPl (l:List Int):(bys l).flat=true:=by simp [bys,Dt.flat,Dt.cells,Dt.isV]
@[go_sem] theorem aSl (l m:List Int):Dt.app 1 (.v (.int .u8 0)) (bys l) (bys m)=bys (l++m):=by simp [bys,Dt.app,Dt.cells]
@[go_sem] theorem aSn:Dt.sl 1 (.v (.int .u8 0)) []=bys []:=rfl
@[go_sem] theorem aSo (n:Int):Dt.sl 1 (.v (.int .u8 0)) [.v (.int .u8 n)]=bys [n]:=rfl
def aPW (ls:List (List Int)):List Int:=ls.flatMap fun l=>l++[255]
@[go_sem] theorem aPX:aPW []=[]:=rfl
def aU3 (ls:List (List Int)):ByteArray:=strOfNums (aPW ls)
end Go.Eng
end
section
namespace Go.Eng
open Go Go.Proofs Go.Cats
def aVf (fr to:List Int) (h:Nat→Nat→Int) (i j:Nat):Int:=if to.getD i 0=fr.getD j 0 then h i j else-1
def aGi (fr to:List Int) (h:Nat→Nat→Int) (i:Nat):List (List Int):=(List.range i).map fun k=>(List.range fr.length).map (aVf fr to h k)
section
variable {fr to:List Int} {h:Nat→Nat→Int} {i j m:Nat}
@[go_sem] theorem aN8:aGi fr to h 0=[]:=rfl
theorem aBv:(aGi fr to h i).length=i:=by simp [aGi]
theorem tb_at {x:List Int}:(jE (aGi fr to h i++[x]) m).at i=ints x:=by
 rw [aIF (by simp [aBv])]
 simp [List.getD_eq_getElem?_getD,aBv]
end
end Go.Eng
end
section
namespace Go.Eng
open Go Go.Proofs Go.Cats
attribute [local go_sem] aFx pC gO aBI
theorem dR:aE Tryz.prog 269:=⟨_,Tryz.func269,rfl,rfl⟩
theorem sp_l02Fits {c:Cat} (hl:c.fr.length≤1048576):Spec Tryz.prog 269 [iE c] [] (bv (dec (c.ob≤8∧c.fr.length≤40))) []:=by
 refine aD (E:=TE) 0 Tryz.func269 rfl (by simp [Tryz.f269]) fun X hn hX=>?_
 repeat'(first|refine wkQ ?_|refine Tw.f ?_ ?_|(refine fun(hc:(_:Bool)=_)=>?_;try simp only [hcS]at hc))
 all_goals try exact om_
 ·(first|refine aB ?_|refine aA ?_);simp only [go_sem,simprocAttr,Tryz.f269]
  exact congrArg (fun b=>Sv.v (.bool b)) (by rw [jC];simp [hc];omega)
 ·(first|refine aB ?_|refine aA ?_);simp only [go_sem,simprocAttr,Tryz.f269]
  exact cK fun h=>by omega
end Go.Eng
end
section
namespace Go.Eng
open Go Go.Proofs Go.Cats
attribute [local go_sem] pC gO aGk aAu
end Go.Eng
end
