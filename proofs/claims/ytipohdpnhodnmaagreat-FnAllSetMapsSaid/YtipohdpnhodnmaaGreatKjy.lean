/- Several texts in one: S01, S02, S03, S05, A05. -/
import Derived.Test.YtipohdpnhodnmaaGreatA02y
set_option linter.unusedSimpArgs false
set_option linter.unusedVariables false
set_option maxRecDepth 100000
set_option maxHeartbeats 16000000
section
namespace Go.Eng
open Go Go.Proofs Go.Cats
attribute [local go_sem] iP iQ
def prs (l:List (Int×Int)):Dt:= .sl 2 (.v (.int .i64 0)) (l.flatMap fun p=>[.v (.int .i64 p.1), .v (.int .i64 p.2)])
theorem aO5 (l:List (Int×Int)):(l.flatMap fun p=>([.v (.int .i64 p.1), .v (.int .i64 p.2)]:List Dt)).length=l.length*2:=by
 induction l with
 |nil=>rfl
 |cons p l ih=>simp only [List.flatMap_cons,List.length_append,ih,List.length_cons,List.length_nil];omega
@[go_sem] theorem aRG (l):(prs l).isSl=true:=rfl
@[go_sem] theorem aO7 (l):(prs l).sz=2:=rfl
@[go_sem] theorem aO6 (l:List (Int×Int)):(prs l).nc=l.length*2:=by simp only [prs,Dt.nc,Dt.cells];exact aO5 l
@[go_sem] theorem aTS (l:List (Int×Int)):(prs l).len=l.length:=by
 have:=aO6 l
 unfold Dt.len
 rw [this,aO7];omega
@[go_sem] theorem aRH (l:List (Int×Int)):(prs l).ones=true:=by
 simp only [prs,Dt.ones,Dt.cells,List.all_eq_true,List.mem_flatMap,forall_exists_index,and_imp]
 intro x p _ hx
 simp only [List.mem_cons,List.not_mem_nil,or_false]at hx
 rcases hx with rfl|rfl<;>rfl
@[go_sem] theorem aRF (l:List (Int×Int)):(prs l).flat=true:=by
 simp only [prs,Dt.flat,Dt.cells,List.all_eq_true,List.mem_flatMap,forall_exists_index,and_imp]
 intro x p _ hx
 simp only [List.mem_cons,List.not_mem_nil,or_false]at hx
 rcases hx with rfl|rfl<;>rfl
@[go_sem] theorem aTR (l m:List (Int×Int)):Dt.app 2 (.v (.int .i64 0)) (prs l) (prs m)=prs (l++m):=by simp [prs,Dt.app,Dt.cells,List.flatMap_append]
@[go_sem] theorem aTT:Dt.sl 2 (.v (.int .i64 0)) []=prs []:=rfl
@[go_sem] theorem aTU (a b:Int):Dt.sl 2 (.v (.int .i64 0)) [.v (.int .i64 a), .v (.int .i64 b)]=prs [(a,b)]:=rfl
@[go_sem] theorem aQe (a b:Int) (l:List (Int×Int)):(prs ((a,b)::l)).part 0 2=[.v (.int .i64 a), .v (.int .i64 b)]:=rfl
@[go_sem] theorem aRy (ts) (l:List (Int×Int)):Sv.ofDt ts (prs l)= .bor ts (prs l):=rfl
theorem aMS (r:List Int):(jL [] 1).put 0 (ints r)=aD [r]:=rfl
theorem aPv (r q:List Int):(aD [r]).put 0 (ints q)=aD [q]:=rfl
theorem aNd:List.replicate 1 (0:Int)=[0]:=rfl
attribute [local go_sem] List.getD_cons_zero aMS aPv aNd List.set_cons_zero
section
variable (x:Value) (l:List Int)
theorem aHm:(Dt.sl 1 (ints []) [Dt.v x]).isSl=true:=rfl
theorem aN6:(Dt.sl 1 (ints []) [Dt.v x]).sz=1:=rfl
theorem aN5:(Dt.sl 1 (ints []) [Dt.v x]).nc=1:=rfl
theorem aK9:(Dt.sl 1 (ints []) [Dt.v x]).len=1:=by simp [Dt.len,Dt.sz,Dt.nc,Dt.cells]
theorem aN4:(Dt.sl 1 (ints []) [Dt.v x]).at 0= .v x:=rfl
theorem aLa:(Dt.sl 1 (ints []) [Dt.v x]).put 0 (ints l)=aD [l]:=rfl
attribute [local go_sem] aHm aN6 aN5 aK9 aN4 aLa
end
attribute [local go_sem] aHm aN6 aN5 aK9 aN4 aLa
end Go.Eng
end
section
namespace Go.Eng
open Go Go.Proofs Go.Cats
attribute [local go_sem] iP iQ List.getD_cons_zero mX bR
namespace Zo
theorem cL:aF Tryz.prog 235:=⟨_,Tryz.func235,rfl,rfl⟩
theorem dB:Spec Tryz.prog 235 [.bor [] (aD [[1]])] [] (.agg [iv 1, .sl 0, .sl 1, .sl 2, .sl 3]) [(0,⟨1, .arr (ints [0])⟩),(1,⟨1, .arr (ints [0])⟩),(2,⟨1, .arr (ints [0])⟩),(3,⟨1, .arr (aD [[0]])⟩)]:=by
 refine aE (E:=TE) 0 Tryz.func235 rfl (by simp [Tryz.f235]) fun X hn hX=>?_
 repeat'(first|(exfalso;first|omega|(simp at hc;done))|(with_reducible first|refine St.f ?_|refine V_c ?_|refine eDn ?_|refine And.intro ?_ ?_|refine aI ?_ ?_|refine aL ?_)|((refine aQ ?_);intro K hK)|((with_reducible refine So.f ?_);intro K hK;simp(contextual:=true)only [go_sem,simprocAttr])|((with_reducible refine hK _ ?_);clear hK K)|(with_reducible refine aI3 2 ?_)|(with_reducible refine aVw ?_)|(with_reducible refine aVv ?_)|(refine fun(hc:(_:Bool)=_)=>?_;try simp only [hcS]at hc))
 all_goals try exact om_
 (first|refine aB ?_|refine aA ?_);simp only [go_sem,simprocAttr,Tryz.f235]
end Zo
open Zo (dB cL)
theorem aOZ:CatB oneC:=⟨by decide,by decide,by decide,by decide,by decide,by decide,fun f hf=>by
 have h:f=0:=by
  have h2:f<1:=hf
  omega
 subst h;decide⟩
theorem aMR:oneC.ob=1:=rfl
theorem aMQ:oneC.fr=[0]:=rfl
attribute [local go_sem] aMR aMQ
def OC (c:Cat) (l:List Int) (code:Int):Prop:=(¬IsCat c∧code=1)∨(IsCat c∧¬Within l c.ob∧code=2)∨(IsCat c∧Within l c.ob∧code=0)
theorem aN0 (c:Cat) (l:List Int):∃code,OC c l code:=by
 by_cases h1:IsCat c
 ·by_cases h2:Within l c.ob
  ·exact⟨0, .inr (.inr ⟨h1,h2,rfl⟩)⟩
  ·exact⟨2, .inr (.inl ⟨h1,h2,rfl⟩)⟩
 ·exact⟨1, .inl ⟨h1,rfl⟩⟩
theorem aG5 {c:Cat} {x:Int} (h:OC c [x] 0):IsCat c∧0≤x∧x<c.ob:=by
 rcases h with⟨_,h⟩|⟨_,_,h⟩|⟨h1,h2,_⟩
 ·cases h
 ·cases h
 ·have:=h2 0 (by simp)
  exact⟨h1,by simpa using this⟩
theorem aHo {c:Cat} (hb:CatB c) (h:IsCat c):FunB (aAp c):=⟨hb,hb,by have:=h.ob8;simp only [aAp,bR];omega,by have:=hb.fr;simp only [aAp,bR];omega⟩
theorem aEA {c:Cat} (x:Int) (hb:CatB c):FunB (sE c x):=⟨aOZ,hb,by simp [sE],by simp [sE]⟩
end Go.Eng
end
section
namespace Go.Eng
open Go Go.Proofs Go.Cats
attribute [local go_sem] iP iQ List.getD_cons_zero mX bR
theorem aIj {n i:Nat} (h:i<n):(nums i++List.replicate (n-i) 0).set i (i:Int)=nums (i+1)++List.replicate (n-(i+1)) 0:=by
 have e:n-i=n-(i+1)+1:=by omega
 rw [List.set_append_right _ _ (by rw [bR];omega),bR,Nat.sub_self,e,qL]
 simp [List.replicate_succ]
theorem aDU:aF Tryz.prog 60:=⟨_,Tryz.func60,rfl,rfl⟩
theorem aGg {n:Nat} (h:n≤1048576):Spec Tryz.prog 60 [iv n] [] (.sl 0) [(0,⟨1, .arr (ints (nums n))⟩)]:=by
 refine aE (E:=TE) 0 Tryz.func60 rfl (by simp [Tryz.f60]) fun X hn hX=>?_
 repeat'(first|refine wkQ ?_|refine Tw.f ?_ ?_|(refine fun(hc:(_:Bool)=_)=>?_;try simp only [hcS]at hc))
 all_goals try exact om_
 refine aH (G:={i:Nat//i≤n∧(True)}) (fun⟨i,_⟩=>[(9,iv i),(3, .sl 0)]) [2,8] (fun⟨i,_⟩=>[(0,⟨1, .arr (ints (nums i++List.replicate (n-i) 0))⟩)]) [0] (fun zz=>n-zz.1) ⟨0,Nat.zero_le _,by first|trivial|simp⟩ ?_ ?_
 ·exact Imp.au hX
 rintro⟨i,hii,hwi⟩
 simp only [go_sem,simprocAttr]
 have l1:(nums i++List.replicate (n-i) 0).length=n:=by rw [List.length_append,bR,List.length_replicate];omega
 repeat'(first|refine wkQ ?_|refine Tw.f ?_ ?_|(refine fun(hc:(_:Bool)=_)=>?_;try simp only [hcS]at hc))
 all_goals try exact om_
 ·have e1:=aIj (n:=n) (i:=i) (by omega)
  refine⟨⟨i+1,by omega,(by trivial)⟩,by simp only;omega,Imp.auto hX (by simp only [go_sem,simprocAttr,e1])⟩
 ·have e:i=n:=by omega
  subst e
  (first|refine aB ?_|refine aA ?_);simp only [go_sem,simprocAttr,Tryz.f60]
  rw [Nat.sub_self,List.replicate_zero,List.append_nil]
theorem aDm {n:Int} (h0:0≤n) (h:n≤1048576):Spec Tryz.prog 60 [iv n] [] (.sl 0) [(0,⟨1, .arr (ints (nums n.toNat))⟩)]:=by
 have:=aGg (n:=n.toNat) (by omega)
 rwa [Int.toNat_of_nonneg h0]at this
end Go.Eng
end
section
namespace Go.Eng
open Go Go.Proofs Go.Cats
attribute [local go_sem] iP iQ List.getD_cons_zero
def FnSliceFunctorOut (c:Cat) (x:Int) (g:Fun) (code:Int):Prop:=(OC c [x] code∧code≠0∧g=aFT)∨(OC c [x] 0∧CommaLeftOut (aAp c) (sE c x) g code)
theorem FnSliceFunctorOut.ex (c:Cat) (x:Int):∃g code,FnSliceFunctorOut c x g code:=by
 obtain⟨code,h⟩:=aN0 c [x]
 by_cases h0:code=0
 ·subst h0
  obtain⟨g,code,h2⟩:=CommaLeftOut.ex (aAp c) (sE c x)
  exact⟨g,code, .inr ⟨h,h2⟩⟩
 ·exact⟨_,code, .inl ⟨h,h0,rfl⟩⟩
theorem FnSliceFunctorOut.b {c:Cat} {x:Int} {g:Fun} {code:Int} (hb:CatB c) (h:FnSliceFunctorOut c x g code):FunB g:=by
 rcases h with⟨_,_,rfl⟩|⟨h0,h⟩
 ·exact aCZ
 ·have b1:=aHo hb (aG5 h0).1
  have b2:=aEA x hb
  exact h.b b1 b2
def FnCosliceFunctorOut (c:Cat) (x:Int) (g:Fun) (code:Int):Prop:=(OC c [x] code∧code≠0∧g=aFT)∨(OC c [x] 0∧CommaRightOut (sE c x) (aAp c) g code)
theorem FnCosliceFunctorOut.ex (c:Cat) (x:Int):∃g code,FnCosliceFunctorOut c x g code:=by
 obtain⟨code,h⟩:=aN0 c [x]
 by_cases h0:code=0
 ·subst h0
  obtain⟨g,code,h2⟩:=CommaRightOut.ex (sE c x) (aAp c)
  exact⟨g,code, .inr ⟨h,h2⟩⟩
 ·exact⟨_,code, .inl ⟨h,h0,rfl⟩⟩
theorem FnCosliceFunctorOut.b {c:Cat} {x:Int} {g:Fun} {code:Int} (hb:CatB c) (h:FnCosliceFunctorOut c x g code):FunB g:=by
 rcases h with⟨_,_,rfl⟩|⟨h0,h⟩
 ·exact aCZ
 ·have b1:=aHo hb (aG5 h0).1
  have b2:=aEA x hb
  exact h.b b2 b1
end Go.Eng
end
section
namespace Go.Eng
open Go Go.Proofs Go.Cats
attribute [local go_sem] aGz aCb aAv
theorem sR {f g:SF} {O:List (List (List Int))} {M:Nat} {P:List (List Int)} {N:List (Int×Int)} {x e u:Nat} (h:SPair f g) (hP:P.length=f.sizes.length) (hR:∀y,y<P.length→((P.getD y []).length:Int)=f.sizes.getD y 0) (hN:N.length≤4096) (he:(e:Int)<f.sizes.getD x 0) (hu:(u:Int)<g.sizes.getD x 0):Spec Tryz.prog 236 [.ptr 0 0,iv x,iv e,iv u, .ptr 2 0] [(0,⟨1, .box [.bptr [] (sfD f), .bptr [] (sfD g), .v (.bool false), .sl 1, .fn 113 [.ptr 4 0, .ptr 5 0]]⟩),(1,⟨1, .arr (aD P)⟩),(2,⟨1, .bx [.dead] 0 (prs N)⟩),(4,⟨1, .bx [.dead] 0 (aU O)⟩),(5,⟨1, .box [iv M]⟩)] (bv (pM f g false x e u P N).1) [(0,⟨1, .box [.bptr [] (sfD f), .bptr [] (sfD g), .v (.bool false), .sl 1, .fn 113 [.ptr 4 0, .ptr 5 0]]⟩),(1,⟨1, .arr (aD (pM f g false x e u P N).2.1)⟩),(2,⟨1, .bx [.dead] 0 (prs (pM f g false x e u P N).2.2)⟩),(4,⟨1, .bx [.dead] 0 (aU O)⟩),(5,⟨1, .box [iv M]⟩)]:=by
 refine aE (E:=TE) 6 Tryz.func236 rfl (by simp [Tryz.f236]) fun X hn hX=>?_
 have c40:=h.src.cat.m40
 repeat'(first|refine wkQ ?_|refine Tw.f ?_ ?_|(refine kcQ kI ?_;refine krQ (lX ?_) ?_)|(refine fun(hc:(_:Bool)=_)=>?_;try simp only [hcS]at hc))
 all_goals try exact om_
 refine aH (G:={j:Nat//j≤(gZ f.shape x f.shape.fr.length).length∧((rA f g false x e u P N j).1=true)}) (fun⟨j,_⟩=>[(27,iv j)]) [0,2,3,4,11,25,26] (fun⟨j,_⟩=>[(0,⟨1, .box [.bptr [] (sfD f), .bptr [] (sfD g), .v (.bool false), .sl 1, .fn 113 [.ptr 4 0, .ptr 5 0]]⟩),(1,⟨1, .arr (aD (eY f g false x e u P N j))⟩),(2,⟨1, .bx [.dead] 0 (prs (gN f g false x e u P N j))⟩),(4,⟨1, .bx [.dead] 0 (aU O)⟩),(5,⟨1, .box [iv M]⟩)]) [0,1,2,4,5] (fun zz=>(gZ f.shape x f.shape.fr.length).length-zz.1) ⟨0,Nat.zero_le _,by rfl⟩ ?_ ?_
 ·exact Imp.au hX
 rintro⟨j,hij,hwj⟩
 simp only [go_sem,simprocAttr]
 have a0:=aCe h hP hR he hu false N j
 repeat'(first|(refine bH 11 (Imp.open_ 1 (f.shape.to.getD (aY f x j) 0).toNat _ [] (.inr ⟨rfl,rfl⟩) (by simp [go_sem,simprocAttr]) (by simp only [go_sem,simprocAttr];omega) rfl (by simp only [go_sem,simprocAttr]) rfl) ?_;simp only [go_sem,simprocAttr])|refine bH 12 (Imp.closeA 1 7 (f.shape.to.getD (aY f x j) 0).toNat _ _ rfl rfl (by decide) (by simp only [go_sem,simprocAttr];omega)) ?_|(refine bH 12 (Imp.openB 2 0 _ _ rfl (Nat.le_refl 1) rfl rfl) ?_;simp only [List.set_cons_zero])|(refine bH 13 (Imp.closeB 2 10 0 _ _ rfl rfl rfl (by decide)) ?_;simp only [List.set_cons_zero])|(with_reducible first|refine St.f ?_|refine V_c ?_|refine eDn ?_|refine And.intro ?_ ?_|refine aI ?_ ?_|refine aL ?_)|((refine aQ ?_);intro K hK)|((with_reducible refine So.f ?_);intro K hK;simp(contextual:=true)only [go_sem,simprocAttr])|((with_reducible refine hK _ ?_);clear hK K)|((with_reducible refine aC 225 ?_);refine EvCall.rr (aLu ?_) aGG ?_)|(refine fun(hc:(_:Bool)=_)=>?_;try simp only [hcS]at hc))
 all_goals try exact om_
 ·(first|refine aB ?_|refine aA ?_);simp only [go_sem,simprocAttr,Tryz.f236]
  have e1:=aHs (f:=f) (g:=g) (by omega) hwj (by assumption) hc;rw [e1];exact⟨⟨rfl,rfl⟩,rfl⟩
 ·have e1:=aHt (f:=f) (g:=g) (by omega) hwj (by assumption) hc
  have e2:eY f g false x e u P N (j+1)=eY f g false x e u P N j:=congrArg (fun t=>t.2.1) e1
  have e3:gN f g false x e u P N (j+1)=gN f g false x e u P N j:=congrArg (fun t=>t.2.2) e1
  refine⟨⟨j+1,by omega,(by exact congrArg Prod.fst e1)⟩,by simp only;omega,Imp.auto hX (by simp only [go_sem,simprocAttr,e2,e3])⟩
 ·have e1:=aHu (f:=f) (g:=g) (P:=P) (N:=N) (once:=false) (u:=u) (e:=e) (by omega) hwj (Int.not_le.2 (by assumption)) (fun q=>by cases q.1)
  have e2:eY f g false x e u P N (j+1)=(eY f g false x e u P N j).set (f.shape.to.getD (aY f x j) 0).toNat (((eY f g false x e u P N j).getD (f.shape.to.getD (aY f x j) 0).toNat []).set ((f.acts.getD (aY f x j) []).getD e 0).toNat ((g.acts.getD (aY f x j) []).getD u 0)):=congrArg (fun t=>t.2.1) e1
  have e3:gN f g false x e u P N (j+1)=gN f g false x e u P N j++[(f.shape.to.getD (aY f x j) 0,(f.acts.getD (aY f x j) []).getD e 0)]:=by
   have e4:=congrArg (fun t=>t.2.2) e1
   have e5:((f.ty (aY f x j):Nat):Int)=f.shape.to.getD (aY f x j) 0:=by
    have:=(a0 (by omega)).2.1.1
    simp only [SF.ty];omega
   rw [e5]at e4
   exact e4
  refine⟨⟨j+1,by omega,(by exact congrArg Prod.fst e1)⟩,by simp only;omega,Imp.auto hX (by simp only [go_sem,simprocAttr,e2,e3])⟩
 ·have e1:=aEO (f:=f) (g:=g) (P:=P) (N:=N) (once:=false) (u:=u) (e:=e) (x:=x) (j:=j) (by omega)
  (first|refine aB ?_|refine aA ?_);simp only [go_sem,simprocAttr,Tryz.f236]
  rw [←e1];exact⟨⟨rfl,rfl⟩,congrArg bv hwj.symm⟩
end Go.Eng
end
