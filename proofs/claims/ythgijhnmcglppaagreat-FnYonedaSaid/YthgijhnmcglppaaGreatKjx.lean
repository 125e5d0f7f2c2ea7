/- Several texts in one: S01, S02, S03, S05. -/
import Derived.Test.YthgijhnmcglppaaGreatC07y
set_option linter.unusedSimpArgs false
set_option linter.unusedVariables false
set_option maxRecDepth 100000
set_option maxHeartbeats 16000000
section
namespace Go.Eng
open Go Go.Proofs Go.Cats
attribute [local go_sem] iL iM
def prs (l:List (Int×Int)):Dt:= .sl 2 (.v (.int .i64 0)) (l.flatMap fun p=>[.v (.int .i64 p.1), .v (.int .i64 p.2)])
theorem aNG (l:List (Int×Int)):(l.flatMap fun p=>([.v (.int .i64 p.1), .v (.int .i64 p.2)]:List Dt)).length=l.length*2:=by
 induction l with
 |nil=>rfl
 |cons p l ih=>simp only [List.flatMap_cons,List.length_append,ih,List.length_cons,List.length_nil];omega
@[go_sem] theorem aQe (l):(prs l).isSl=true:=rfl
@[go_sem] theorem aNI (l):(prs l).sz=2:=rfl
@[go_sem] theorem aNH (l:List (Int×Int)):(prs l).nc=l.length*2:=by simp only [prs,Dt.nc,Dt.cells];exact aNG l
@[go_sem] theorem aSO (l:List (Int×Int)):(prs l).len=l.length:=by
 have:=aNH l
 unfold Dt.len
 rw [this,aNI];omega
@[go_sem] theorem aQf (l:List (Int×Int)):(prs l).ones=true:=by
 simp only [prs,Dt.ones,Dt.cells,List.all_eq_true,List.mem_flatMap,forall_exists_index,and_imp]
 intro x p _ hx
 simp only [List.mem_cons,List.not_mem_nil,or_false]at hx
 rcases hx with rfl|rfl<;>rfl
@[go_sem] theorem aQd (l:List (Int×Int)):(prs l).flat=true:=by
 simp only [prs,Dt.flat,Dt.cells,List.all_eq_true,List.mem_flatMap,forall_exists_index,and_imp]
 intro x p _ hx
 simp only [List.mem_cons,List.not_mem_nil,or_false]at hx
 rcases hx with rfl|rfl<;>rfl
@[go_sem] theorem aSN (l m:List (Int×Int)):Dt.app 2 (.v (.int .i64 0)) (prs l) (prs m)=prs (l++m):=by simp [prs,Dt.app,Dt.cells,List.flatMap_append]
@[go_sem] theorem aSP:Dt.sl 2 (.v (.int .i64 0)) []=prs []:=rfl
@[go_sem] theorem aSQ (a b:Int):Dt.sl 2 (.v (.int .i64 0)) [.v (.int .i64 a), .v (.int .i64 b)]=prs [(a,b)]:=rfl
@[go_sem] theorem aOQ (a b:Int) (l:List (Int×Int)):(prs ((a,b)::l)).part 0 2=[.v (.int .i64 a), .v (.int .i64 b)]:=rfl
@[go_sem] theorem aP8 (ts) (l:List (Int×Int)):Sv.ofDt ts (prs l)= .bor ts (prs l):=rfl
theorem aLr (r:List Int):(jE [] 1).put 0 (ints r)=aC [r]:=rfl
theorem aN7 (r q:List Int):(aC [r]).put 0 (ints q)=aC [q]:=rfl
theorem aLM:List.replicate 1 (0:Int)=[0]:=rfl
attribute [local go_sem] List.getD_cons_zero aLr aN7 aLM List.set_cons_zero
section
variable (x:Value) (l:List Int)
theorem aF8:(Dt.sl 1 (ints []) [Dt.v x]).isSl=true:=rfl
theorem aMF:(Dt.sl 1 (ints []) [Dt.v x]).sz=1:=rfl
theorem aME:(Dt.sl 1 (ints []) [Dt.v x]).nc=1:=rfl
theorem aJL:(Dt.sl 1 (ints []) [Dt.v x]).len=1:=by simp [Dt.len,Dt.sz,Dt.nc,Dt.cells]
theorem aMD:(Dt.sl 1 (ints []) [Dt.v x]).at 0= .v x:=rfl
theorem aJM:(Dt.sl 1 (ints []) [Dt.v x]).put 0 (ints l)=aC [l]:=rfl
attribute [local go_sem] aF8 aMF aME aJL aMD aJM
end
attribute [local go_sem] aF8 aMF aME aJL aMD aJM
end Go.Eng
end
section
namespace Go.Eng
open Go Go.Proofs Go.Cats
attribute [local go_sem] iL iM List.getD_cons_zero pJ gR
namespace Zo
theorem bY:aE Tryz.prog 176:=⟨_,Tryz.func176,rfl,rfl⟩
theorem cR:Spec Tryz.prog 176 [.bor [] (aC [[1]])] [] (.agg [iv 1, .sl 0, .sl 1, .sl 2, .sl 3]) [(0,⟨1, .arr (ints [0])⟩),(1,⟨1, .arr (ints [0])⟩),(2,⟨1, .arr (ints [0])⟩),(3,⟨1, .arr (aC [[0]])⟩)]:=by
 refine aD (E:=TE) 0 Tryz.func176 rfl (by simp [Tryz.f176]) fun X hn hX=>?_
 repeat'(first|(exfalso;first|omega|(simp at hc;done))|(with_reducible first|refine St.f ?_|refine V_c ?_|refine eDn ?_|refine And.intro ?_ ?_|refine aJ ?_ ?_|refine aQ ?_)|((refine aT ?_);intro K hK)|((with_reducible refine So.f ?_);intro K hK;simp(contextual:=true)only [go_sem,simprocAttr])|((with_reducible refine hK _ ?_);clear hK K)|(with_reducible refine aHH 2 ?_)|(with_reducible refine aUI ?_)|(with_reducible refine aUH ?_)|(refine fun(hc:(_:Bool)=_)=>?_;try simp only [hcS]at hc))
 all_goals try exact om_
 (first|refine aB ?_|refine aA ?_);simp only [go_sem,simprocAttr,Tryz.f176]
end Zo
open Zo (cR bY)
theorem aNA:CatB oneC:=⟨by decide,by decide,by decide,by decide,by decide,by decide,fun f hf=>by
 have h:f=0:=by
  have h2:f<1:=hf
  omega
 subst h;decide⟩
theorem aLq:oneC.ob=1:=rfl
theorem aLp:oneC.fr=[0]:=rfl
attribute [local go_sem] aLq aLp
def OC (c:Cat) (l:List Int) (code:Int):Prop:=(¬IsCat c∧code=1)∨(IsCat c∧¬Within l c.ob∧code=2)∨(IsCat c∧Within l c.ob∧code=0)
theorem aMz (c:Cat) (l:List Int):∃code,OC c l code:=by
 by_cases h1:IsCat c
 ·by_cases h2:Within l c.ob
  ·exact⟨0, .inr (.inr ⟨h1,h2,rfl⟩)⟩
  ·exact⟨2, .inr (.inl ⟨h1,h2,rfl⟩)⟩
 ·exact⟨1, .inl ⟨h1,rfl⟩⟩
theorem aFS {c:Cat} {x:Int} (h:OC c [x] 0):IsCat c∧0≤x∧x<c.ob:=by
 rcases h with⟨_,h⟩|⟨_,_,h⟩|⟨h1,h2,_⟩
 ·cases h
 ·cases h
 ·have:=h2 0 (by simp)
  exact⟨h1,by simpa using this⟩
theorem aF9 {c:Cat} (hb:CatB c) (h:IsCat c):FunB (zD c):=⟨hb,hb,by have:=h.ob8;simp only [zD,gR];omega,by have:=hb.fr;simp only [zD,gR];omega⟩
theorem aDA {c:Cat} (x:Int) (hb:CatB c):FunB (qT c x):=⟨aNA,hb,by simp [qT],by simp [qT]⟩
end Go.Eng
end
section
namespace Go.Eng
open Go Go.Proofs Go.Cats
attribute [local go_sem] iL iM List.getD_cons_zero pJ gR
theorem xP:aE Tryz.prog 125:=⟨_,Tryz.func125,rfl,rfl⟩
theorem uI {c:Cat} {l:List Int} {code:Int} (hb:CatB c) (hl:l.length≤1048576) (h:OC c l code):Spec Tryz.prog 125 [.bptr [] (fP c), .bor [] (ints l)] [] (iv code) []:=by
 refine aD (E:=TE) 0 Tryz.func125 rfl (by simp [Tryz.f125]) fun X hn hX=>?_
 rcases h with⟨h1,rfl⟩|⟨h1,h2,rfl⟩|⟨h1,h2,rfl⟩
 ·repeat'(first|refine wkQ ?_|refine Tw.f ?_ ?_|(refine kcQ cI ?_;refine krQ (cQ ?_) ?_)|(refine kcQ dW ?_;refine krQ (fM ?_ ?_) ?_)|(refine fun(hc:(_:Bool)=_)=>?_;try simp only [hcS]at hc))
  all_goals try exact om_
  ·(first|refine aB ?_|refine aA ?_);simp only [go_sem,simprocAttr,Tryz.f125]
  all_goals exact absurd (by assumption) h1
 ·have o1:=h1.ob0
  have o2:=h1.ob8
  have o3:inR (c.ob-1):=⟨by omega,by omega⟩
  repeat'(first|refine wkQ ?_|refine Tw.f ?_ ?_|(refine kcQ cI ?_;refine krQ (cQ ?_) ?_)|(refine kcQ dW ?_;refine krQ (fM ?_ ?_) ?_)|(refine fun(hc:(_:Bool)=_)=>?_;try simp only [hcS]at hc))
  all_goals try exact om_
  ·exact absurd h1 (by assumption)
  ·(first|refine aB ?_|refine aA ?_);simp only [go_sem,simprocAttr,Tryz.f125]
  all_goals exact absurd (by assumption) h2
 ·have o1:=h1.ob0
  have o2:=h1.ob8
  have o3:inR (c.ob-1):=⟨by omega,by omega⟩
  repeat'(first|refine wkQ ?_|refine Tw.f ?_ ?_|(refine kcQ cI ?_;refine krQ (cQ ?_) ?_)|(refine kcQ dW ?_;refine krQ (fM ?_ ?_) ?_)|(refine fun(hc:(_:Bool)=_)=>?_;try simp only [hcS]at hc))
  all_goals try exact om_
  ·exact absurd h1 (by assumption)
  ·exact absurd h2 (by assumption)
  ·(first|refine aB ?_|refine aA ?_);simp only [go_sem,simprocAttr,Tryz.f125]
end Go.Eng
end
section
namespace Go.Eng
open Go Go.Proofs Go.Cats
attribute [local go_sem] iL iM List.getD_cons_zero
def FnSliceFunctorOut (c:Cat) (x:Int) (g:Fun) (code:Int):Prop:=(OC c [x] code∧code≠0∧g=aEM)∨(OC c [x] 0∧CommaLeftOut (zD c) (qT c x) g code)
theorem FnSliceFunctorOut.ex (c:Cat) (x:Int):∃g code,FnSliceFunctorOut c x g code:=by
 obtain⟨code,h⟩:=aMz c [x]
 by_cases h0:code=0
 ·subst h0
  obtain⟨g,code,h2⟩:=CommaLeftOut.ex (zD c) (qT c x)
  exact⟨g,code, .inr ⟨h,h2⟩⟩
 ·exact⟨_,code, .inl ⟨h,h0,rfl⟩⟩
theorem FnSliceFunctorOut.b {c:Cat} {x:Int} {g:Fun} {code:Int} (hb:CatB c) (h:FnSliceFunctorOut c x g code):FunB g:=by
 rcases h with⟨_,_,rfl⟩|⟨h0,h⟩
 ·exact aB5
 ·have b1:=aF9 hb (aFS h0).1
  have b2:=aDA x hb
  exact h.b b1 b2
def FnCosliceFunctorOut (c:Cat) (x:Int) (g:Fun) (code:Int):Prop:=(OC c [x] code∧code≠0∧g=aEM)∨(OC c [x] 0∧CommaRightOut (qT c x) (zD c) g code)
theorem FnCosliceFunctorOut.ex (c:Cat) (x:Int):∃g code,FnCosliceFunctorOut c x g code:=by
 obtain⟨code,h⟩:=aMz c [x]
 by_cases h0:code=0
 ·subst h0
  obtain⟨g,code,h2⟩:=CommaRightOut.ex (qT c x) (zD c)
  exact⟨g,code, .inr ⟨h,h2⟩⟩
 ·exact⟨_,code, .inl ⟨h,h0,rfl⟩⟩
theorem FnCosliceFunctorOut.b {c:Cat} {x:Int} {g:Fun} {code:Int} (hb:CatB c) (h:FnCosliceFunctorOut c x g code):FunB g:=by
 rcases h with⟨_,_,rfl⟩|⟨h0,h⟩
 ·exact aB5
 ·have b1:=aF9 hb (aFS h0).1
  have b2:=aDA x hb
  exact h.b b2 b1
end Go.Eng
end
