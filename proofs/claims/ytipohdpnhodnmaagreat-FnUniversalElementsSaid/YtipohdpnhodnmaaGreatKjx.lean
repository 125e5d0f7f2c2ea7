/- Several texts in one: S01, S02, S03, S05. -/
import Derived.Test.YtipohdpnhodnmaaGreatC07y
set_option linter.unusedSimpArgs false
set_option linter.unusedVariables false
set_option maxRecDepth 100000
set_option maxHeartbeats 16000000
section
namespace Go.Eng
open Go Go.Proofs Go.Cats
attribute [local go_sem] fC fD
def prs (l:List (Int×Int)):Dt:= .sl 2 (.v (.int .i64 0)) (l.flatMap fun p=>[.v (.int .i64 p.1), .v (.int .i64 p.2)])
theorem aO2 (l:List (Int×Int)):(l.flatMap fun p=>([.v (.int .i64 p.1), .v (.int .i64 p.2)]:List Dt)).length=l.length*2:=by
 induction l with
 |nil=>rfl
 |cons p l ih=>simp only [List.flatMap_cons,List.length_append,ih,List.length_cons,List.length_nil];omega
@[go_sem] theorem aRN (l):(prs l).isSl=true:=rfl
@[go_sem] theorem aO4 (l):(prs l).sz=2:=rfl
@[go_sem] theorem aO3 (l:List (Int×Int)):(prs l).nc=l.length*2:=by simp only [prs,Dt.nc,Dt.cells];exact aO2 l
@[go_sem] theorem aT7 (l:List (Int×Int)):(prs l).len=l.length:=by
 have:=aO3 l
 unfold Dt.len
 rw [this,aO4];omega
@[go_sem] theorem aRO (l:List (Int×Int)):(prs l).ones=true:=by
 simp only [prs,Dt.ones,Dt.cells,List.all_eq_true,List.mem_flatMap,forall_exists_index,and_imp]
 intro x p _ hx
 simp only [List.mem_cons,List.not_mem_nil,or_false]at hx
 rcases hx with rfl|rfl<;>rfl
@[go_sem] theorem aRM (l:List (Int×Int)):(prs l).flat=true:=by
 simp only [prs,Dt.flat,Dt.cells,List.all_eq_true,List.mem_flatMap,forall_exists_index,and_imp]
 intro x p _ hx
 simp only [List.mem_cons,List.not_mem_nil,or_false]at hx
 rcases hx with rfl|rfl<;>rfl
@[go_sem] theorem aT6 (l m:List (Int×Int)):Dt.app 2 (.v (.int .i64 0)) (prs l) (prs m)=prs (l++m):=by simp [prs,Dt.app,Dt.cells,List.flatMap_append]
@[go_sem] theorem aT8:Dt.sl 2 (.v (.int .i64 0)) []=prs []:=rfl
@[go_sem] theorem aT9 (a b:Int):Dt.sl 2 (.v (.int .i64 0)) [.v (.int .i64 a), .v (.int .i64 b)]=prs [(a,b)]:=rfl
@[go_sem] theorem aQj (a b:Int) (l:List (Int×Int)):(prs ((a,b)::l)).part 0 2=[.v (.int .i64 a), .v (.int .i64 b)]:=rfl
@[go_sem] theorem aRE (ts) (l:List (Int×Int)):Sv.ofDt ts (prs l)= .bor ts (prs l):=rfl
theorem aMD (r:List Int):(cV [] 1).put 0 (ints r)=aC [r]:=rfl
theorem aPs (r q:List Int):(aC [r]).put 0 (ints q)=aC [q]:=rfl
theorem aMW:List.replicate 1 (0:Int)=[0]:=rfl
attribute [local go_sem] List.getD_cons_zero aMD aPs aMW List.set_cons_zero
section
variable (x:Value) (l:List Int)
theorem aGG:(Dt.sl 1 (ints []) [Dt.v x]).isSl=true:=rfl
theorem aNU:(Dt.sl 1 (ints []) [Dt.v x]).sz=1:=rfl
theorem aNT:(Dt.sl 1 (ints []) [Dt.v x]).nc=1:=rfl
theorem aKI:(Dt.sl 1 (ints []) [Dt.v x]).len=1:=by simp [Dt.len,Dt.sz,Dt.nc,Dt.cells]
theorem aNS:(Dt.sl 1 (ints []) [Dt.v x]).at 0= .v x:=rfl
theorem aKJ:(Dt.sl 1 (ints []) [Dt.v x]).put 0 (ints l)=aC [l]:=rfl
attribute [local go_sem] aGG aNU aNT aKI aNS aKJ
end
attribute [local go_sem] aGG aNU aNT aKI aNS aKJ
end Go.Eng
end
section
namespace Go.Eng
open Go Go.Proofs Go.Cats
attribute [local go_sem] fC fD List.getD_cons_zero mK dS
namespace Zo
theorem bU:aF Tryz.prog 235:=⟨_,Tryz.func235,rfl,rfl⟩
theorem cM:Spec Tryz.prog 235 [.bor [] (aC [[1]])] [] (.agg [iv 1, .sl 0, .sl 1, .sl 2, .sl 3]) [(0,⟨1, .arr (ints [0])⟩),(1,⟨1, .arr (ints [0])⟩),(2,⟨1, .arr (ints [0])⟩),(3,⟨1, .arr (aC [[0]])⟩)]:=by
 refine aD (E:=TE) 0 Tryz.func235 rfl (by simp [Tryz.f235]) fun X hn hX=>?_
 repeat'(first|(exfalso;first|omega|(simp at hc;done))|(with_reducible first|refine St.f ?_|refine V_c ?_|refine eDn ?_|refine And.intro ?_ ?_|refine aI ?_ ?_|refine aN ?_)|((refine aQ ?_);intro K hK)|((with_reducible refine So.f ?_);intro K hK;simp(contextual:=true)only [go_sem,simprocAttr])|((with_reducible refine hK _ ?_);clear hK K)|(with_reducible refine aIr 2 ?_)|(with_reducible refine aVM ?_)|(with_reducible refine aVL ?_)|(refine fun(hc:(_:Bool)=_)=>?_;try simp only [hcS]at hc))
 all_goals try exact om_
 (first|refine aB ?_|refine aA ?_);simp only [go_sem,simprocAttr,Tryz.f235]
end Zo
open Zo (cM bU)
theorem aOU:CatB oneC:=⟨by decide,by decide,by decide,by decide,by decide,by decide,fun f hf=>by
 have h:f=0:=by
  have h2:f<1:=hf
  omega
 subst h;decide⟩
theorem aMB:oneC.ob=1:=rfl
theorem aMA:oneC.fr=[0]:=rfl
attribute [local go_sem] aMB aMA
def OC (c:Cat) (l:List Int) (code:Int):Prop:=(¬IsCat c∧code=1)∨(IsCat c∧¬Within l c.ob∧code=2)∨(IsCat c∧Within l c.ob∧code=0)
theorem aNN (c:Cat) (l:List Int):∃code,OC c l code:=by
 by_cases h1:IsCat c
 ·by_cases h2:Within l c.ob
  ·exact⟨0, .inr (.inr ⟨h1,h2,rfl⟩)⟩
  ·exact⟨2, .inr (.inl ⟨h1,h2,rfl⟩)⟩
 ·exact⟨1, .inl ⟨h1,rfl⟩⟩
theorem aGq {c:Cat} {x:Int} (h:OC c [x] 0):IsCat c∧0≤x∧x<c.ob:=by
 rcases h with⟨_,h⟩|⟨_,_,h⟩|⟨h1,h2,_⟩
 ·cases h
 ·cases h
 ·have:=h2 0 (by simp)
  exact⟨h1,by simpa using this⟩
theorem aGI {c:Cat} (hb:CatB c) (h:IsCat c):FunB (sO c):=⟨hb,hb,by have:=h.ob8;simp only [sO,dS];omega,by have:=hb.fr;simp only [sO,dS];omega⟩
theorem aDU {c:Cat} (x:Int) (hb:CatB c):FunB (qZ c x):=⟨aOU,hb,by simp [qZ],by simp [qZ]⟩
end Go.Eng
end
section
namespace Go.Eng
open Go Go.Proofs Go.Cats
attribute [local go_sem] fC fD List.getD_cons_zero mK dS
end Go.Eng
end
section
namespace Go.Eng
open Go Go.Proofs Go.Cats
attribute [local go_sem] fC fD List.getD_cons_zero
def FnSliceFunctorOut (c:Cat) (x:Int) (g:Fun) (code:Int):Prop:=(OC c [x] code∧code≠0∧g=aFd)∨(OC c [x] 0∧CommaLeftOut (sO c) (qZ c x) g code)
theorem FnSliceFunctorOut.ex (c:Cat) (x:Int):∃g code,FnSliceFunctorOut c x g code:=by
 obtain⟨code,h⟩:=aNN c [x]
 by_cases h0:code=0
 ·subst h0
  obtain⟨g,code,h2⟩:=CommaLeftOut.ex (sO c) (qZ c x)
  exact⟨g,code, .inr ⟨h,h2⟩⟩
 ·exact⟨_,code, .inl ⟨h,h0,rfl⟩⟩
theorem FnSliceFunctorOut.b {c:Cat} {x:Int} {g:Fun} {code:Int} (hb:CatB c) (h:FnSliceFunctorOut c x g code):FunB g:=by
 rcases h with⟨_,_,rfl⟩|⟨h0,h⟩
 ·exact aCr
 ·have b1:=aGI hb (aGq h0).1
  have b2:=aDU x hb
  exact h.b b1 b2
def FnCosliceFunctorOut (c:Cat) (x:Int) (g:Fun) (code:Int):Prop:=(OC c [x] code∧code≠0∧g=aFd)∨(OC c [x] 0∧CommaRightOut (qZ c x) (sO c) g code)
theorem FnCosliceFunctorOut.ex (c:Cat) (x:Int):∃g code,FnCosliceFunctorOut c x g code:=by
 obtain⟨code,h⟩:=aNN c [x]
 by_cases h0:code=0
 ·subst h0
  obtain⟨g,code,h2⟩:=CommaRightOut.ex (qZ c x) (sO c)
  exact⟨g,code, .inr ⟨h,h2⟩⟩
 ·exact⟨_,code, .inl ⟨h,h0,rfl⟩⟩
theorem FnCosliceFunctorOut.b {c:Cat} {x:Int} {g:Fun} {code:Int} (hb:CatB c) (h:FnCosliceFunctorOut c x g code):FunB g:=by
 rcases h with⟨_,_,rfl⟩|⟨h0,h⟩
 ·exact aCr
 ·have b1:=aGI hb (aGq h0).1
  have b2:=aDU x hb
  exact h.b b2 b1
end Go.Eng
end
