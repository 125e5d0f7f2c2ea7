/- Several texts in one: S01, S02, S03, S05. -/
import Derived.Test.YtbflkfamigcncaaGreatC18q
set_option linter.unusedSimpArgs false
set_option linter.unusedVariables false
set_option maxRecDepth 100000
set_option maxHeartbeats 16000000
section
namespace Go.Eng
open Go Go.Proofs Go.Cats
attribute [local go_sem] gS gT
def prs (l:List (Int×Int)):Dt:= .sl 2 (.v (.int .i64 0)) (l.flatMap fun p=>[.v (.int .i64 p.1), .v (.int .i64 p.2)])
theorem aNQ (l:List (Int×Int)):(l.flatMap fun p=>([.v (.int .i64 p.1), .v (.int .i64 p.2)]:List Dt)).length=l.length*2:=by
 induction l with
 |nil=>rfl
 |cons p l ih=>simp only [List.flatMap_cons,List.length_append,ih,List.length_cons,List.length_nil];omega
@[go_sem] theorem aQG (l):(prs l).isSl=true:=rfl
@[go_sem] theorem aNS (l):(prs l).sz=2:=rfl
@[go_sem] theorem aNR (l:List (Int×Int)):(prs l).nc=l.length*2:=by simp only [prs,Dt.nc,Dt.cells];exact aNQ l
@[go_sem] theorem aSV (l:List (Int×Int)):(prs l).len=l.length:=by
 have:=aNR l
 unfold Dt.len
 rw [this,aNS];omega
@[go_sem] theorem aQH (l:List (Int×Int)):(prs l).ones=true:=by
 simp only [prs,Dt.ones,Dt.cells,List.all_eq_true,List.mem_flatMap,forall_exists_index,and_imp]
 intro x p _ hx
 simp only [List.mem_cons,List.not_mem_nil,or_false]at hx
 rcases hx with rfl|rfl<;>rfl
@[go_sem] theorem aQF (l:List (Int×Int)):(prs l).flat=true:=by
 simp only [prs,Dt.flat,Dt.cells,List.all_eq_true,List.mem_flatMap,forall_exists_index,and_imp]
 intro x p _ hx
 simp only [List.mem_cons,List.not_mem_nil,or_false]at hx
 rcases hx with rfl|rfl<;>rfl
@[go_sem] theorem aSU (l m:List (Int×Int)):Dt.app 2 (.v (.int .i64 0)) (prs l) (prs m)=prs (l++m):=by simp [prs,Dt.app,Dt.cells,List.flatMap_append]
@[go_sem] theorem aSW:Dt.sl 2 (.v (.int .i64 0)) []=prs []:=rfl
@[go_sem] theorem aSX (a b:Int):Dt.sl 2 (.v (.int .i64 0)) [.v (.int .i64 a), .v (.int .i64 b)]=prs [(a,b)]:=rfl
@[go_sem] theorem aO9 (a b:Int) (l:List (Int×Int)):(prs ((a,b)::l)).part 0 2=[.v (.int .i64 a), .v (.int .i64 b)]:=rfl
@[go_sem] theorem aQz (ts) (l:List (Int×Int)):Sv.ofDt ts (prs l)= .bor ts (prs l):=rfl
theorem aLl (r:List Int):(eU [] 1).put 0 (ints r)=aE [r]:=rfl
theorem aOi (r q:List Int):(aE [r]).put 0 (ints q)=aE [q]:=rfl
theorem aLC:List.replicate 1 (0:Int)=[0]:=rfl
attribute [local go_sem] List.getD_cons_zero aLl aOi aLC List.set_cons_zero
section
variable (x:Value) (l:List Int)
theorem aGA:(Dt.sl 1 (ints []) [Dt.v x]).isSl=true:=rfl
theorem aMy:(Dt.sl 1 (ints []) [Dt.v x]).sz=1:=rfl
theorem aMx:(Dt.sl 1 (ints []) [Dt.v x]).nc=1:=rfl
theorem aJU:(Dt.sl 1 (ints []) [Dt.v x]).len=1:=by simp [Dt.len,Dt.sz,Dt.nc,Dt.cells]
theorem aMw:(Dt.sl 1 (ints []) [Dt.v x]).at 0= .v x:=rfl
theorem aJV:(Dt.sl 1 (ints []) [Dt.v x]).put 0 (ints l)=aE [l]:=rfl
attribute [local go_sem] aGA aMy aMx aJU aMw aJV
end
attribute [local go_sem] aGA aMy aMx aJU aMw aJV
end Go.Eng
end
section
namespace Go.Eng
open Go Go.Proofs Go.Cats
attribute [local go_sem] gS gT List.getD_cons_zero wD iK
namespace Zo
theorem cG:aF Tryz.prog 153:=⟨_,Tryz.func153,rfl,rfl⟩
theorem cZ:Spec Tryz.prog 153 [.bor [] (aE [[1]])] [] (.agg [iv 1, .sl 0, .sl 1, .sl 2, .sl 3]) [(0,⟨1, .arr (ints [0])⟩),(1,⟨1, .arr (ints [0])⟩),(2,⟨1, .arr (ints [0])⟩),(3,⟨1, .arr (aE [[0]])⟩)]:=by
 refine aD (E:=TE) 0 Tryz.func153 rfl (by simp [Tryz.f153]) fun X hn hX=>?_
 repeat'(first|(exfalso;first|omega|(simp at hc;done))|(with_reducible first|refine St.f ?_|refine V_c ?_|refine eDn ?_|refine And.intro ?_ ?_|refine aM ?_ ?_|refine aP ?_)|((refine aY ?_);intro K hK)|((with_reducible refine So.f ?_);intro K hK;simp(contextual:=true)only [go_sem,simprocAttr])|((with_reducible refine hK _ ?_);clear hK K)|(with_reducible refine aDq 2 ?_)|(with_reducible refine aPv ?_)|(with_reducible refine aPu ?_)|(refine fun(hc:(_:Bool)=_)=>?_;try simp only [hcS]at hc))
 all_goals try exact om_
 (first|refine aB ?_|refine aA ?_);simp only [go_sem,simprocAttr,Tryz.f153]
end Zo
open Zo (cZ cG)
theorem aEV:aF Tryz.prog 141:=⟨_,Tryz.func141,rfl,rfl⟩
theorem aHQ:Spec Tryz.prog 141 [] [] (.agg [iv 1, .sl 0, .sl 1, .sl 2, .sl 3]) [(0,⟨1, .arr (ints [0])⟩),(1,⟨1, .arr (ints [0])⟩),(2,⟨1, .arr (ints [0])⟩),(3,⟨1, .arr (aE [[0]])⟩)]:=by
 refine aD (E:=TE) 0 Tryz.func141 rfl (by simp [Tryz.f141]) fun X hn hX=>?_
 repeat'(first|refine wkQ ?_|refine Tw.f ?_ ?_|(refine kcQ cG ?_;refine krQ (cZ) ?_)|(refine fun(hc:(_:Bool)=_)=>?_;try simp only [hcS]at hc))
 all_goals try exact om_
 (first|refine aB ?_|refine aA ?_);simp only [go_sem,simprocAttr,Tryz.f141]
theorem dL:aF Tryz.prog 67:=⟨_,Tryz.func67,rfl,rfl⟩
theorem tC {c:Cat} (hb:CatB c) (h0:0≤c.ob) (h8:c.ob≤1048576):Spec Tryz.prog 67 [dN c] [] (.agg [iv (cB c).src.ob, .sl 0, .sl 1, .sl 2, .sl 3,iv (cB c).tgt.ob, .sl 4, .sl 5, .sl 6, .sl 7, .sl 8, .sl 9]) [(0,⟨1, .arr (ints (cB c).src.fr)⟩),(1,⟨1, .arr (ints (cB c).src.to)⟩),(2,⟨1, .arr (ints (cB c).src.id)⟩),(3,⟨1, .arr (aE (cB c).src.co)⟩),(4,⟨1, .arr (ints (cB c).tgt.fr)⟩),(5,⟨1, .arr (ints (cB c).tgt.to)⟩),(6,⟨1, .arr (ints (cB c).tgt.id)⟩),(7,⟨1, .arr (aE (cB c).tgt.co)⟩),(8,⟨1, .arr (ints (cB c).obs)⟩),(9,⟨1, .arr (ints (cB c).ars)⟩)]:=by
 refine aD (E:=TE) 0 Tryz.func67 rfl (by simp [Tryz.f67]) fun X hn hX=>?_
 have b:=hb.fr
 repeat'(first|refine wkQ ?_|refine Tw.f ?_ ?_|(refine fun(hc:(_:Bool)=_)=>?_;try simp only [hcS]at hc))
 all_goals try exact om_
 refine aH (G:={i:Nat//i≤c.ob.toNat∧(True)}) (fun⟨i,_⟩=>[(5,iv i),(3, .sl 2)]) [1,2,4] (fun⟨i,_⟩=>[(2,⟨1, .arr (ints (nums i))⟩)]) [2] (fun zz=>c.ob.toNat-zz.1) ⟨0,Nat.zero_le _,by first|trivial|simp⟩ ?_ ?_
 ·exact Imp.au hX
 rintro⟨i,hii,hwi⟩
 simp only [go_sem,simprocAttr]
 repeat'(first|refine wkQ ?_|refine Tw.f ?_ ?_|(refine fun(hc:(_:Bool)=_)=>?_;try simp only [hcS]at hc))
 all_goals try exact om_
 ·refine⟨⟨i+1,by omega,(by trivial)⟩,by simp only;omega,Imp.auto hX (by simp only [go_sem,simprocAttr,aB7])⟩
 ·have e:i=c.ob.toNat:=by omega
  subst e
  refine aH (G:={a:Nat//a≤c.fr.length∧(True)}) (fun⟨a,_⟩=>[(6,iv a),(4, .sl 3)]) [1,2,3] (fun⟨a,_⟩=>[(3,⟨1, .arr (ints (nums a))⟩)]) [3] (fun zz=>c.fr.length-zz.1) ⟨0,Nat.zero_le _,by first|trivial|simp⟩ ?_ ?_
  ·exact Imp.au hX
  rintro⟨a,hia,hwa⟩
  simp only [go_sem,simprocAttr]
  have l1:=iK c.ob.toNat
  have l2:=iK a
  repeat'(first|refine wkQ ?_|refine Tw.f ?_ ?_|(refine kcQ iA ?_;refine krQ (jJ (c:=c) (d:=c) (p:=nums c.ob.toNat) (q:=nums a) ?_ ?_ ?_ ?_) ?_)|(refine fun(hc:(_:Bool)=_)=>?_;try simp only [hcS]at hc))
  all_goals try exact om_
  ·refine⟨⟨a+1,by omega,(by trivial)⟩,by simp only;omega,Imp.auto hX (by simp only [go_sem,simprocAttr,aB7])⟩
  ·have e:a=c.fr.length:=by omega
   subst e
   (first|refine aB ?_|refine aA ?_);simp only [go_sem,simprocAttr,Tryz.f67]
   exact⟨⟨rfl,rfl,rfl,rfl,rfl,rfl,rfl,rfl,rfl,rfl⟩,rfl⟩
theorem aI6:CatB oneC:=⟨by decide,by decide,by decide,by decide,by decide,by decide,fun f hf=>by
 have h:f=0:=by
  have h2:f<1:=hf
  omega
 subst h;decide⟩
theorem aLk:oneC.ob=1:=rfl
theorem aLj:oneC.fr=[0]:=rfl
attribute [local go_sem] aLk aLj
theorem jX:aF Tryz.prog 89:=⟨_,Tryz.func89,rfl,rfl⟩
theorem sp_l06Constant {d:Cat} {y:Int} (hb:CatB d) (h0:0≤y) (h1:y<d.id.length):Spec Tryz.prog 89 [dN oneC,dN d,iv y] [] (.agg [iv (bN d y).src.ob, .sl 0, .sl 1, .sl 2, .sl 3,iv (bN d y).tgt.ob, .sl 4, .sl 5, .sl 6, .sl 7, .sl 8, .sl 9]) [(0,⟨1, .arr (ints (bN d y).src.fr)⟩),(1,⟨1, .arr (ints (bN d y).src.to)⟩),(2,⟨1, .arr (ints (bN d y).src.id)⟩),(3,⟨1, .arr (aE (bN d y).src.co)⟩),(4,⟨1, .arr (ints (bN d y).tgt.fr)⟩),(5,⟨1, .arr (ints (bN d y).tgt.to)⟩),(6,⟨1, .arr (ints (bN d y).tgt.id)⟩),(7,⟨1, .arr (aE (bN d y).tgt.co)⟩),(8,⟨1, .arr (ints (bN d y).obs)⟩),(9,⟨1, .arr (ints (bN d y).ars)⟩)]:=by
 refine aD (E:=TE) 0 Tryz.func89 rfl (by simp [Tryz.f89]) fun X hn hX=>?_
 have b1:=aI6
 repeat'(first|(exfalso;first|omega|(simp at hc;done))|(with_reducible first|refine St.f ?_|refine V_c ?_|refine And.intro ?_ ?_|refine aM ?_ ?_|refine aP ?_)|((refine aY ?_);intro K hK)|((with_reducible refine So.f ?_);intro K hK;simp(contextual:=true)only [go_sem,simprocAttr])|((with_reducible refine hK _ ?_);clear hK K)|((with_reducible refine aC 91 ?_);refine EvCall.rr (jJ (c:=oneC) (d:=d) (p:=[y]) (q:=[d.I y]) ?_ ?_ ?_ ?_) iA ?_)|(with_reducible refine aDq 2 ?_)|(with_reducible refine aPv ?_)|(with_reducible refine aPu ?_)|(refine fun(hc:(_:Bool)=_)=>?_;try simp only [hcS]at hc))
 all_goals try exact om_
 (first|refine aB ?_|refine aA ?_);simp only [go_sem,simprocAttr,Tryz.f89]
 exact⟨⟨rfl,rfl,rfl,rfl,rfl,rfl,rfl,rfl,rfl,rfl⟩,rfl⟩
theorem tO:aF Tryz.prog 68:=⟨_,Tryz.func68,rfl,rfl⟩
theorem xT {c:Cat} {x:Int} (hb:CatB c) (h0:0≤x) (h1:x<c.id.length):Spec Tryz.prog 68 [dN c,iv x] [] (.agg [iv (bN c x).src.ob, .sl 0, .sl 1, .sl 2, .sl 3,iv (bN c x).tgt.ob, .sl 4, .sl 5, .sl 6, .sl 7, .sl 8, .sl 9]) [(0,⟨1, .arr (ints (bN c x).src.fr)⟩),(1,⟨1, .arr (ints (bN c x).src.to)⟩),(2,⟨1, .arr (ints (bN c x).src.id)⟩),(3,⟨1, .arr (aE (bN c x).src.co)⟩),(4,⟨1, .arr (ints (bN c x).tgt.fr)⟩),(5,⟨1, .arr (ints (bN c x).tgt.to)⟩),(6,⟨1, .arr (ints (bN c x).tgt.id)⟩),(7,⟨1, .arr (aE (bN c x).tgt.co)⟩),(8,⟨1, .arr (ints (bN c x).obs)⟩),(9,⟨1, .arr (ints (bN c x).ars)⟩)]:=by
 refine aD (E:=TE) 0 Tryz.func68 rfl (by simp [Tryz.f68]) fun X hn hX=>?_
 repeat'(first|refine wkQ ?_|refine Tw.f ?_ ?_|(refine kcQ aEV ?_;refine krQ (aHQ) ?_)|(refine kcQ jX ?_;refine krQ (sp_l06Constant (d:=c) (y:=x) ?_ ?_ ?_) ?_)|(refine fun(hc:(_:Bool)=_)=>?_;try simp only [hcS]at hc))
 all_goals try exact om_
 (first|refine aB ?_|refine aA ?_);simp only [go_sem,simprocAttr,Tryz.f68]
def OC (c:Cat) (l:List Int) (code:Int):Prop:=(¬IsCat c∧code=1)∨(IsCat c∧¬Within l c.ob∧code=2)∨(IsCat c∧Within l c.ob∧code=0)
theorem aMr (c:Cat) (l:List Int):∃code,OC c l code:=by
 by_cases h1:IsCat c
 ·by_cases h2:Within l c.ob
  ·exact⟨0, .inr (.inr ⟨h1,h2,rfl⟩)⟩
  ·exact⟨2, .inr (.inl ⟨h1,h2,rfl⟩)⟩
 ·exact⟨1, .inl ⟨h1,rfl⟩⟩
theorem aGl {c:Cat} {x:Int} (h:OC c [x] 0):IsCat c∧0≤x∧x<c.ob:=by
 rcases h with⟨_,h⟩|⟨_,_,h⟩|⟨h1,h2,_⟩
 ·cases h
 ·cases h
 ·have:=h2 0 (by simp)
  exact⟨h1,by simpa using this⟩
theorem aC7 {c:Cat} (hb:CatB c) (h:IsCat c):FunB (cB c):=⟨hb,hb,by have:=h.ob8;simp only [cB,iK];omega,by have:=hb.fr;simp only [cB,iK];omega⟩
theorem uN {c:Cat} (x:Int) (hb:CatB c):FunB (bN c x):=⟨aI6,hb,by simp [bN],by simp [bN]⟩
end Go.Eng
end
section
namespace Go.Eng
open Go Go.Proofs Go.Cats
attribute [local go_sem] gS gT List.getD_cons_zero wD iK
end Go.Eng
end
section
namespace Go.Eng
open Go Go.Proofs Go.Cats
attribute [local go_sem] gS gT List.getD_cons_zero
def FnSliceFunctorOut (c:Cat) (x:Int) (g:Fun) (code:Int):Prop:=(OC c [x] code∧code≠0∧g=nilF)∨(OC c [x] 0∧CommaLeftOut (cB c) (bN c x) g code)
theorem FnSliceFunctorOut.ex (c:Cat) (x:Int):∃g code,FnSliceFunctorOut c x g code:=by
 obtain⟨code,h⟩:=aMr c [x]
 by_cases h0:code=0
 ·subst h0
  obtain⟨g,code,h2⟩:=CommaLeftOut.ex (cB c) (bN c x)
  exact⟨g,code, .inr ⟨h,h2⟩⟩
 ·exact⟨_,code, .inl ⟨h,h0,rfl⟩⟩
theorem FnSliceFunctorOut.b {c:Cat} {x:Int} {g:Fun} {code:Int} (hb:CatB c) (h:FnSliceFunctorOut c x g code):FunB g:=by
 rcases h with⟨_,_,rfl⟩|⟨h0,h⟩
 ·exact aCT
 ·have b1:=aC7 hb (aGl h0).1
  have b2:=uN x hb
  exact h.b b1 b2
def FnCosliceFunctorOut (c:Cat) (x:Int) (g:Fun) (code:Int):Prop:=(OC c [x] code∧code≠0∧g=nilF)∨(OC c [x] 0∧CommaRightOut (bN c x) (cB c) g code)
theorem FnCosliceFunctorOut.ex (c:Cat) (x:Int):∃g code,FnCosliceFunctorOut c x g code:=by
 obtain⟨code,h⟩:=aMr c [x]
 by_cases h0:code=0
 ·subst h0
  obtain⟨g,code,h2⟩:=CommaRightOut.ex (bN c x) (cB c)
  exact⟨g,code, .inr ⟨h,h2⟩⟩
 ·exact⟨_,code, .inl ⟨h,h0,rfl⟩⟩
theorem FnCosliceFunctorOut.b {c:Cat} {x:Int} {g:Fun} {code:Int} (hb:CatB c) (h:FnCosliceFunctorOut c x g code):FunB g:=by
 rcases h with⟨_,_,rfl⟩|⟨h0,h⟩
 ·exact aCT
 ·have b1:=aC7 hb (aGl h0).1
  have b2:=uN x hb
  exact h.b b2 b1
end Go.Eng
end
