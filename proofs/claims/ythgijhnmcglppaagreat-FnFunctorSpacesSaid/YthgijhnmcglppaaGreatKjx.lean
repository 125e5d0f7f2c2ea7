/- Several texts in one: S01, S02, S03, S05. -/
import Derived.Test.YthgijhnmcglppaaGreatKpy
set_option linter.unusedSimpArgs false
set_option linter.unusedVariables false
set_option maxRecDepth 100000
set_option maxHeartbeats 16000000
section
namespace Go.Eng
open Go Go.Proofs Go.Cats
attribute [local go_sem] gY gZ
def prs (l:List (Int×Int)):Dt:= .sl 2 (.v (.int .i64 0)) (l.flatMap fun p=>[.v (.int .i64 p.1), .v (.int .i64 p.2)])
theorem aRn (l:List (Int×Int)):(l.flatMap fun p=>([.v (.int .i64 p.1), .v (.int .i64 p.2)]:List Dt)).length=l.length*2:=by
 induction l with
 |nil=>rfl
 |cons p l ih=>simp only [List.flatMap_cons,List.length_append,ih,List.length_cons,List.length_nil];omega
@[go_sem] theorem aUm (l):(prs l).isSl=true:=rfl
@[go_sem] theorem aRp (l):(prs l).sz=2:=rfl
@[go_sem] theorem aRo (l:List (Int×Int)):(prs l).nc=l.length*2:=by simp only [prs,Dt.nc,Dt.cells];exact aRn l
@[go_sem] theorem aWS (l:List (Int×Int)):(prs l).len=l.length:=by
 have:=aRo l
 unfold Dt.len
 rw [this,aRp];omega
@[go_sem] theorem aUn (l:List (Int×Int)):(prs l).ones=true:=by
 simp only [prs,Dt.ones,Dt.cells,List.all_eq_true,List.mem_flatMap,forall_exists_index,and_imp]
 intro x p _ hx
 simp only [List.mem_cons,List.not_mem_nil,or_false]at hx
 rcases hx with rfl|rfl<;>rfl
@[go_sem] theorem aUl (l:List (Int×Int)):(prs l).flat=true:=by
 simp only [prs,Dt.flat,Dt.cells,List.all_eq_true,List.mem_flatMap,forall_exists_index,and_imp]
 intro x p _ hx
 simp only [List.mem_cons,List.not_mem_nil,or_false]at hx
 rcases hx with rfl|rfl<;>rfl
@[go_sem] theorem aWR (l m:List (Int×Int)):Dt.app 2 (.v (.int .i64 0)) (prs l) (prs m)=prs (l++m):=by simp [prs,Dt.app,Dt.cells,List.flatMap_append]
@[go_sem] theorem aWT:Dt.sl 2 (.v (.int .i64 0)) []=prs []:=rfl
@[go_sem] theorem aWU (a b:Int):Dt.sl 2 (.v (.int .i64 0)) [.v (.int .i64 a), .v (.int .i64 b)]=prs [(a,b)]:=rfl
@[go_sem] theorem aSF (a b:Int) (l:List (Int×Int)):(prs ((a,b)::l)).part 0 2=[.v (.int .i64 a), .v (.int .i64 b)]:=rfl
@[go_sem] theorem aUe (ts) (l:List (Int×Int)):Sv.ofDt ts (prs l)= .bor ts (prs l):=rfl
theorem aOV (r:List Int):(eH [] 1).put 0 (ints r)=aF [r]:=rfl
theorem aRM (r q:List Int):(aF [r]).put 0 (ints q)=aF [q]:=rfl
theorem aPf:List.replicate 1 (0:Int)=[0]:=rfl
attribute [local go_sem] List.getD_cons_zero aOV aRM aPf List.set_cons_zero
section
variable (x:Value) (l:List Int)
theorem aIJ:(Dt.sl 1 (ints []) [Dt.v x]).isSl=true:=rfl
theorem aQf:(Dt.sl 1 (ints []) [Dt.v x]).sz=1:=rfl
theorem aQe:(Dt.sl 1 (ints []) [Dt.v x]).nc=1:=rfl
theorem aM4:(Dt.sl 1 (ints []) [Dt.v x]).len=1:=by simp [Dt.len,Dt.sz,Dt.nc,Dt.cells]
theorem aQd:(Dt.sl 1 (ints []) [Dt.v x]).at 0= .v x:=rfl
theorem aM5:(Dt.sl 1 (ints []) [Dt.v x]).put 0 (ints l)=aF [l]:=rfl
attribute [local go_sem] aIJ aQf aQe aM4 aQd aM5
end
attribute [local go_sem] aIJ aQf aQe aM4 aQd aM5
end Go.Eng
end
section
namespace Go.Eng
open Go Go.Proofs Go.Cats
attribute [local go_sem] gY gZ List.getD_cons_zero yF eV
namespace Zo
theorem bX:aE Tryz.prog 176:=⟨_,Tryz.func176,rfl,rfl⟩
theorem cS:Spec Tryz.prog 176 [.bor [] (aF [[1]])] [] (.agg [iv 1, .sl 0, .sl 1, .sl 2, .sl 3]) [(0,⟨1, .arr (ints [0])⟩),(1,⟨1, .arr (ints [0])⟩),(2,⟨1, .arr (ints [0])⟩),(3,⟨1, .arr (aF [[0]])⟩)]:=by
 refine aD (E:=TE) 0 Tryz.func176 rfl (by simp [Tryz.f176]) fun X hn hX=>?_
 repeat'(first|(exfalso;first|omega|(simp at hc;done))|(with_reducible first|refine St.f ?_|refine V_c ?_|refine eDn ?_|refine And.intro ?_ ?_|refine aH ?_ ?_|refine aK ?_)|((refine aN ?_);intro K hK)|((with_reducible refine So.f ?_);intro K hK;simp(contextual:=true)only [go_sem,simprocAttr])|((with_reducible refine hK _ ?_);clear hK K)|(with_reducible refine aKP 2 ?_)|(with_reducible refine aYQ ?_)|(with_reducible refine aYP ?_)|(refine fun(hc:(_:Bool)=_)=>?_;try simp only [hcS]at hc))
 all_goals try exact om_
 (first|refine aB ?_|refine aA ?_);simp only [go_sem,simprocAttr,Tryz.f176]
end Zo
open Zo (cS bX)
theorem aRf:CatB oneC:=⟨by decide,by decide,by decide,by decide,by decide,by decide,fun f hf=>by
 have h:f=0:=by
  have h2:f<1:=hf
  omega
 subst h;decide⟩
theorem aOU:oneC.ob=1:=rfl
theorem aOT:oneC.fr=[0]:=rfl
attribute [local go_sem] aOU aOT
theorem zZ:aE Tryz.prog 88:=⟨_,Tryz.func88,rfl,rfl⟩
def OC (c:Cat) (l:List Int) (code:Int):Prop:=(¬IsCat c∧code=1)∨(IsCat c∧¬Within l c.ob∧code=2)∨(IsCat c∧Within l c.ob∧code=0)
theorem aP7 (c:Cat) (l:List Int):∃code,OC c l code:=by
 by_cases h1:IsCat c
 ·by_cases h2:Within l c.ob
  ·exact⟨0, .inr (.inr ⟨h1,h2,rfl⟩)⟩
  ·exact⟨2, .inr (.inl ⟨h1,h2,rfl⟩)⟩
 ·exact⟨1, .inl ⟨h1,rfl⟩⟩
theorem aIt {c:Cat} {x:Int} (h:OC c [x] 0):IsCat c∧0≤x∧x<c.ob:=by
 rcases h with⟨_,h⟩|⟨_,_,h⟩|⟨h1,h2,_⟩
 ·cases h
 ·cases h
 ·have:=h2 0 (by simp)
  exact⟨h1,by simpa using this⟩
theorem aEr {c:Cat} (hb:CatB c) (h:IsCat c):FunB (cX c):=⟨hb,hb,by have:=h.ob8;simp only [cX,eV];omega,by have:=hb.fr;simp only [cX,eV];omega⟩
theorem aFO {c:Cat} (x:Int) (hb:CatB c):FunB (uM c x):=⟨aRf,hb,by simp [uM],by simp [uM]⟩
end Go.Eng
end
section
namespace Go.Eng
open Go Go.Proofs Go.Cats
attribute [local go_sem] gY gZ List.getD_cons_zero yF eV
theorem aJP {n i:Nat} (h:i<n):(nums i++List.replicate (n-i) 0).set i (i:Int)=nums (i+1)++List.replicate (n-(i+1)) 0:=by
 have e:n-i=n-(i+1)+1:=by omega
 rw [List.set_append_right _ _ (by rw [eV];omega),eV,Nat.sub_self,e,aDq]
 simp [List.replicate_succ]
theorem zM:aE Tryz.prog 149:=⟨_,Tryz.func149,rfl,rfl⟩
theorem aBW {n:Nat} (h:n≤1048576):Spec Tryz.prog 149 [iv n] [] (.sl 0) [(0,⟨1, .arr (ints (nums n))⟩)]:=by
 refine aD (E:=TE) 0 Tryz.func149 rfl (by simp [Tryz.f149]) fun X hn hX=>?_
 repeat'(first|refine wkQ ?_|refine Tw.f ?_ ?_|(refine fun(hc:(_:Bool)=_)=>?_;try simp only [hcS]at hc))
 all_goals try exact om_
 refine aG (G:={i:Nat//i≤n∧(True)}) (fun⟨i,_⟩=>[(9,iv i),(3, .sl 0)]) [2,8] (fun⟨i,_⟩=>[(0,⟨1, .arr (ints (nums i++List.replicate (n-i) 0))⟩)]) [0] (fun zz=>n-zz.1) ⟨0,Nat.zero_le _,by first|trivial|simp⟩ ?_ ?_
 ·exact Imp.au hX
 rintro⟨i,hii,hwi⟩
 simp only [go_sem,simprocAttr]
 have l1:(nums i++List.replicate (n-i) 0).length=n:=by rw [List.length_append,eV,List.length_replicate];omega
 repeat'(first|refine wkQ ?_|refine Tw.f ?_ ?_|(refine fun(hc:(_:Bool)=_)=>?_;try simp only [hcS]at hc))
 all_goals try exact om_
 ·have e1:=aJP (n:=n) (i:=i) (by omega)
  refine⟨⟨i+1,by omega,(by trivial)⟩,by simp only;omega,Imp.auto hX (by simp only [go_sem,simprocAttr,e1])⟩
 ·have e:i=n:=by omega
  subst e
  (first|refine aB ?_|refine aA ?_);simp only [go_sem,simprocAttr,Tryz.f149]
  rw [Nat.sub_self,List.replicate_zero,List.append_nil]
theorem aEB {n:Int} (h0:0≤n) (h:n≤1048576):Spec Tryz.prog 149 [iv n] [] (.sl 0) [(0,⟨1, .arr (ints (nums n.toNat))⟩)]:=by
 have:=aBW (n:=n.toNat) (by omega)
 rwa [Int.toNat_of_nonneg h0]at this
theorem aDX:aE Tryz.prog 96:=⟨_,Tryz.func96,rfl,rfl⟩
theorem aF9 {c:Cat} (hb:CatB c) (h0:0≤c.ob) (h8:c.ob≤1048576):Spec Tryz.prog 96 [.bptr [] (aU c)] [] (.agg [iv (cX c).src.ob, .sl 0, .sl 1, .sl 2, .sl 3,iv (cX c).tgt.ob, .sl 4, .sl 5, .sl 6, .sl 7, .sl 8, .sl 9]) [(0,⟨1, .arr (ints (cX c).src.fr)⟩),(1,⟨1, .arr (ints (cX c).src.to)⟩),(2,⟨1, .arr (ints (cX c).src.id)⟩),(3,⟨1, .arr (aF (cX c).src.co)⟩),(4,⟨1, .arr (ints (cX c).tgt.fr)⟩),(5,⟨1, .arr (ints (cX c).tgt.to)⟩),(6,⟨1, .arr (ints (cX c).tgt.id)⟩),(7,⟨1, .arr (aF (cX c).tgt.co)⟩),(8,⟨1, .arr (ints (cX c).obs)⟩),(9,⟨1, .arr (ints (cX c).ars)⟩)]:=by
 refine aD (E:=TE) 0 Tryz.func96 rfl (by simp [Tryz.f96]) fun X hn hX=>?_
 have b:=hb.fr
 have l1:=eV c.ob.toNat
 have l2:=eV c.fr.length
 repeat'(first|refine wkQ ?_|refine Tw.f ?_ ?_|(refine kcQ aT ?_;refine krQ (aX) ?_)|(refine kcQ zM ?_;refine krQ (aEB (n:=c.ob) h0 h8) ?_)|(refine kcQ zM ?_;refine krQ (aBW (n:=c.fr.length) ?_) ?_)|(refine kcQ jP ?_;refine krQ (lO (c:=c) (d:=c) (p:=nums c.ob.toNat) (q:=nums c.fr.length) ?_ ?_ ?_ ?_) ?_)|(refine fun(hc:(_:Bool)=_)=>?_;try simp only [hcS]at hc))
 all_goals try exact om_
 (first|refine aB ?_|refine aA ?_);simp only [go_sem,simprocAttr,Tryz.f96]
 exact⟨⟨rfl,rfl,rfl,rfl,rfl,rfl,rfl,rfl,rfl,rfl⟩,rfl⟩
end Go.Eng
end
section
namespace Go.Eng
open Go Go.Proofs Go.Cats
attribute [local go_sem] gY gZ List.getD_cons_zero
def FnSliceFunctorOut (c:Cat) (x:Int) (g:Fun) (code:Int):Prop:=(OC c [x] code∧code≠0∧g=nilF)∨(OC c [x] 0∧CommaLeftOut (cX c) (uM c x) g code)
theorem FnSliceFunctorOut.ex (c:Cat) (x:Int):∃g code,FnSliceFunctorOut c x g code:=by
 obtain⟨code,h⟩:=aP7 c [x]
 by_cases h0:code=0
 ·subst h0
  obtain⟨g,code,h2⟩:=CommaLeftOut.ex (cX c) (uM c x)
  exact⟨g,code, .inr ⟨h,h2⟩⟩
 ·exact⟨_,code, .inl ⟨h,h0,rfl⟩⟩
theorem FnSliceFunctorOut.b {c:Cat} {x:Int} {g:Fun} {code:Int} (hb:CatB c) (h:FnSliceFunctorOut c x g code):FunB g:=by
 rcases h with⟨_,_,rfl⟩|⟨h0,h⟩
 ·exact oU
 ·have b1:=aEr hb (aIt h0).1
  have b2:=aFO x hb
  exact h.b b1 b2
def FnCosliceFunctorOut (c:Cat) (x:Int) (g:Fun) (code:Int):Prop:=(OC c [x] code∧code≠0∧g=nilF)∨(OC c [x] 0∧CommaRightOut (uM c x) (cX c) g code)
theorem FnCosliceFunctorOut.ex (c:Cat) (x:Int):∃g code,FnCosliceFunctorOut c x g code:=by
 obtain⟨code,h⟩:=aP7 c [x]
 by_cases h0:code=0
 ·subst h0
  obtain⟨g,code,h2⟩:=CommaRightOut.ex (uM c x) (cX c)
  exact⟨g,code, .inr ⟨h,h2⟩⟩
 ·exact⟨_,code, .inl ⟨h,h0,rfl⟩⟩
theorem FnCosliceFunctorOut.b {c:Cat} {x:Int} {g:Fun} {code:Int} (hb:CatB c) (h:FnCosliceFunctorOut c x g code):FunB g:=by
 rcases h with⟨_,_,rfl⟩|⟨h0,h⟩
 ·exact oU
 ·have b1:=aEr hb (aIt h0).1
  have b2:=aFO x hb
  exact h.b b2 b1
end Go.Eng
end
