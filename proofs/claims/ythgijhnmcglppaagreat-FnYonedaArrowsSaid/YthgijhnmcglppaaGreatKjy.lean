/- Several texts in one: S01, S02, S03, S05, B04. -/
import Derived.Test.YthgijhnmcglppaaGreatC07y
import Derived.Test.YthgijhnmcglppaaGreatKfx
set_option linter.unusedSimpArgs false
set_option linter.unusedVariables false
set_option maxRecDepth 100000
set_option maxHeartbeats 16000000
section
namespace Go.Eng
open Go Go.Proofs Go.Cats
attribute [local go_sem] iR iS
def prs (l:List (Int×Int)):Dt:= .sl 2 (.v (.int .i64 0)) (l.flatMap fun p=>[.v (.int .i64 p.1), .v (.int .i64 p.2)])
theorem aRp (l:List (Int×Int)):(l.flatMap fun p=>([.v (.int .i64 p.1), .v (.int .i64 p.2)]:List Dt)).length=l.length*2:=by
 induction l with
 |nil=>rfl
 |cons p l ih=>simp only [List.flatMap_cons,List.length_append,ih,List.length_cons,List.length_nil];omega
@[go_sem] theorem aUw (l):(prs l).isSl=true:=rfl
@[go_sem] theorem aRr (l):(prs l).sz=2:=rfl
@[go_sem] theorem aRq (l:List (Int×Int)):(prs l).nc=l.length*2:=by simp only [prs,Dt.nc,Dt.cells];exact aRp l
@[go_sem] theorem aXb (l:List (Int×Int)):(prs l).len=l.length:=by
 have:=aRq l
 unfold Dt.len
 rw [this,aRr];omega
@[go_sem] theorem aUx (l:List (Int×Int)):(prs l).ones=true:=by
 simp only [prs,Dt.ones,Dt.cells,List.all_eq_true,List.mem_flatMap,forall_exists_index,and_imp]
 intro x p _ hx
 simp only [List.mem_cons,List.not_mem_nil,or_false]at hx
 rcases hx with rfl|rfl<;>rfl
@[go_sem] theorem aUv (l:List (Int×Int)):(prs l).flat=true:=by
 simp only [prs,Dt.flat,Dt.cells,List.all_eq_true,List.mem_flatMap,forall_exists_index,and_imp]
 intro x p _ hx
 simp only [List.mem_cons,List.not_mem_nil,or_false]at hx
 rcases hx with rfl|rfl<;>rfl
@[go_sem] theorem aXa (l m:List (Int×Int)):Dt.app 2 (.v (.int .i64 0)) (prs l) (prs m)=prs (l++m):=by simp [prs,Dt.app,Dt.cells,List.flatMap_append]
@[go_sem] theorem aXc:Dt.sl 2 (.v (.int .i64 0)) []=prs []:=rfl
@[go_sem] theorem aXd (a b:Int):Dt.sl 2 (.v (.int .i64 0)) [.v (.int .i64 a), .v (.int .i64 b)]=prs [(a,b)]:=rfl
@[go_sem] theorem aSN (a b:Int) (l:List (Int×Int)):(prs ((a,b)::l)).part 0 2=[.v (.int .i64 a), .v (.int .i64 b)]:=rfl
@[go_sem] theorem aUp (ts) (l:List (Int×Int)):Sv.ofDt ts (prs l)= .bor ts (prs l):=rfl
theorem aO0 (r:List Int):(lE [] 1).put 0 (ints r)=aF [r]:=rfl
theorem aRT (r q:List Int):(aF [r]).put 0 (ints q)=aF [q]:=rfl
theorem aPj:List.replicate 1 (0:Int)=[0]:=rfl
attribute [local go_sem] List.getD_cons_zero aO0 aRT aPj List.set_cons_zero
section
variable (x:Value) (l:List Int)
theorem aJm:(Dt.sl 1 (ints []) [Dt.v x]).isSl=true:=rfl
theorem aQl:(Dt.sl 1 (ints []) [Dt.v x]).sz=1:=rfl
theorem aQk:(Dt.sl 1 (ints []) [Dt.v x]).nc=1:=rfl
theorem aNo:(Dt.sl 1 (ints []) [Dt.v x]).len=1:=by simp [Dt.len,Dt.sz,Dt.nc,Dt.cells]
theorem aQj:(Dt.sl 1 (ints []) [Dt.v x]).at 0= .v x:=rfl
theorem aNp:(Dt.sl 1 (ints []) [Dt.v x]).put 0 (ints l)=aF [l]:=rfl
attribute [local go_sem] aJm aQl aQk aNo aQj aNp
end
attribute [local go_sem] aJm aQl aQk aNo aQj aNp
end Go.Eng
end
section
namespace Go.Eng
open Go Go.Proofs Go.Cats
attribute [local go_sem] iR iS List.getD_cons_zero yY cW
namespace Zo
theorem dC:aD Tryz.prog 176:=⟨_,Tryz.func176,rfl,rfl⟩
theorem dU:Spec Tryz.prog 176 [.bor [] (aF [[1]])] [] (.agg [iv 1, .sl 0, .sl 1, .sl 2, .sl 3]) [(0,⟨1, .arr (ints [0])⟩),(1,⟨1, .arr (ints [0])⟩),(2,⟨1, .arr (ints [0])⟩),(3,⟨1, .arr (aF [[0]])⟩)]:=by
 refine aC (E:=TE) 0 Tryz.func176 rfl (by simp [Tryz.f176]) fun X hn hX=>?_
 repeat'(first|(exfalso;first|omega|(simp at hc;done))|(with_reducible first|refine St.f ?_|refine V_c ?_|refine eDn ?_|refine And.intro ?_ ?_|refine aJ ?_ ?_|refine aO ?_)|((refine aV ?_);intro K hK)|((with_reducible refine So.f ?_);intro K hK;simp(contextual:=true)only [go_sem,simprocAttr])|((with_reducible refine hK _ ?_);clear hK K)|(with_reducible refine aLm 2 ?_)|(with_reducible refine aZj ?_)|(with_reducible refine aZi ?_)|(refine fun(hc:(_:Bool)=_)=>?_;try simp only [hcS]at hc))
 all_goals try exact om_
 (first|refine aB ?_|refine aA ?_);simp only [go_sem,simprocAttr,Tryz.f176]
end Zo
open Zo (dU dC)
theorem aRj:CatB oneC:=⟨by decide,by decide,by decide,by decide,by decide,by decide,fun f hf=>by
 have h:f=0:=by
  have h2:f<1:=hf
  omega
 subst h;decide⟩
theorem aOZ:oneC.ob=1:=rfl
theorem aOY:oneC.fr=[0]:=rfl
attribute [local go_sem] aOZ aOY
def OC (c:Cat) (l:List Int) (code:Int):Prop:=(¬IsCat c∧code=1)∨(IsCat c∧¬Within l c.ob∧code=2)∨(IsCat c∧Within l c.ob∧code=0)
theorem aQd (c:Cat) (l:List Int):∃code,OC c l code:=by
 by_cases h1:IsCat c
 ·by_cases h2:Within l c.ob
  ·exact⟨0, .inr (.inr ⟨h1,h2,rfl⟩)⟩
  ·exact⟨2, .inr (.inl ⟨h1,h2,rfl⟩)⟩
 ·exact⟨1, .inl ⟨h1,rfl⟩⟩
theorem aIX {c:Cat} {x:Int} (h:OC c [x] 0):IsCat c∧0≤x∧x<c.ob:=by
 rcases h with⟨_,h⟩|⟨_,_,h⟩|⟨h1,h2,_⟩
 ·cases h
 ·cases h
 ·have:=h2 0 (by simp)
  exact⟨h1,by simpa using this⟩
theorem aJp {c:Cat} (hb:CatB c) (h:IsCat c):FunB (jC c):=⟨hb,hb,by have:=h.ob8;simp only [jC,cW];omega,by have:=hb.fr;simp only [jC,cW];omega⟩
theorem aGv {c:Cat} (x:Int) (hb:CatB c):FunB (uT c x):=⟨aRj,hb,by simp [uT],by simp [uT]⟩
end Go.Eng
end
section
namespace Go.Eng
open Go Go.Proofs Go.Cats
attribute [local go_sem] iR iS List.getD_cons_zero yY cW
theorem aBz:aD Tryz.prog 125:=⟨_,Tryz.func125,rfl,rfl⟩
theorem zH {c:Cat} {l:List Int} {code:Int} (hb:CatB c) (hl:l.length≤1048576) (h:OC c l code):Spec Tryz.prog 125 [.bptr [] (aW c), .bor [] (ints l)] [] (iv code) []:=by
 refine aC (E:=TE) 0 Tryz.func125 rfl (by simp [Tryz.f125]) fun X hn hX=>?_
 rcases h with⟨h1,rfl⟩|⟨h1,h2,rfl⟩|⟨h1,h2,rfl⟩
 ·repeat'(first|refine wkQ ?_|refine Tw.f ?_ ?_|(refine kcQ bH ?_;refine krQ (bL ?_) ?_)|(refine kcQ cM ?_;refine krQ (dJ ?_ ?_) ?_)|(refine fun(hc:(_:Bool)=_)=>?_;try simp only [hcS]at hc))
  all_goals try exact om_
  ·(first|refine aB ?_|refine aA ?_);simp only [go_sem,simprocAttr,Tryz.f125]
  all_goals exact absurd (by assumption) h1
 ·have o1:=h1.ob0
  have o2:=h1.ob8
  have o3:inR (c.ob-1):=⟨by omega,by omega⟩
  repeat'(first|refine wkQ ?_|refine Tw.f ?_ ?_|(refine kcQ bH ?_;refine krQ (bL ?_) ?_)|(refine kcQ cM ?_;refine krQ (dJ ?_ ?_) ?_)|(refine fun(hc:(_:Bool)=_)=>?_;try simp only [hcS]at hc))
  all_goals try exact om_
  ·exact absurd h1 (by assumption)
  ·(first|refine aB ?_|refine aA ?_);simp only [go_sem,simprocAttr,Tryz.f125]
  all_goals exact absurd (by assumption) h2
 ·have o1:=h1.ob0
  have o2:=h1.ob8
  have o3:inR (c.ob-1):=⟨by omega,by omega⟩
  repeat'(first|refine wkQ ?_|refine Tw.f ?_ ?_|(refine kcQ bH ?_;refine krQ (bL ?_) ?_)|(refine kcQ cM ?_;refine krQ (dJ ?_ ?_) ?_)|(refine fun(hc:(_:Bool)=_)=>?_;try simp only [hcS]at hc))
  all_goals try exact om_
  ·exact absurd h1 (by assumption)
  ·exact absurd h2 (by assumption)
  ·(first|refine aB ?_|refine aA ?_);simp only [go_sem,simprocAttr,Tryz.f125]
theorem aKq {n i:Nat} (h:i<n):(nums i++List.replicate (n-i) 0).set i (i:Int)=nums (i+1)++List.replicate (n-(i+1)) 0:=by
 have e:n-i=n-(i+1)+1:=by omega
 rw [List.set_append_right _ _ (by rw [cW];omega),cW,Nat.sub_self,e,aKr]
 simp [List.replicate_succ]
theorem aFK:aD Tryz.prog 149:=⟨_,Tryz.func149,rfl,rfl⟩
theorem aId {n:Nat} (h:n≤1048576):Spec Tryz.prog 149 [iv n] [] (.sl 0) [(0,⟨1, .arr (ints (nums n))⟩)]:=by
 refine aC (E:=TE) 0 Tryz.func149 rfl (by simp [Tryz.f149]) fun X hn hX=>?_
 repeat'(first|refine wkQ ?_|refine Tw.f ?_ ?_|(refine fun(hc:(_:Bool)=_)=>?_;try simp only [hcS]at hc))
 all_goals try exact om_
 refine aG (G:={i:Nat//i≤n∧(True)}) (fun⟨i,_⟩=>[(9,iv i),(3, .sl 0)]) [2,8] (fun⟨i,_⟩=>[(0,⟨1, .arr (ints (nums i++List.replicate (n-i) 0))⟩)]) [0] (fun zz=>n-zz.1) ⟨0,Nat.zero_le _,by first|trivial|simp⟩ ?_ ?_
 ·exact Imp.au hX
 rintro⟨i,hii,hwi⟩
 simp only [go_sem,simprocAttr]
 have l1:(nums i++List.replicate (n-i) 0).length=n:=by rw [List.length_append,cW,List.length_replicate];omega
 repeat'(first|refine wkQ ?_|refine Tw.f ?_ ?_|(refine fun(hc:(_:Bool)=_)=>?_;try simp only [hcS]at hc))
 all_goals try exact om_
 ·have e1:=aKq (n:=n) (i:=i) (by omega)
  refine⟨⟨i+1,by omega,(by trivial)⟩,by simp only;omega,Imp.auto hX (by simp only [go_sem,simprocAttr,e1])⟩
 ·have e:i=n:=by omega
  subst e
  (first|refine aB ?_|refine aA ?_);simp only [go_sem,simprocAttr,Tryz.f149]
  rw [Nat.sub_self,List.replicate_zero,List.append_nil]
end Go.Eng
end
section
namespace Go.Eng
open Go Go.Proofs Go.Cats
attribute [local go_sem] iR iS List.getD_cons_zero
def FnSliceFunctorOut (c:Cat) (x:Int) (g:Fun) (code:Int):Prop:=(OC c [x] code∧code≠0∧g=aHL)∨(OC c [x] 0∧CommaLeftOut (jC c) (uT c x) g code)
theorem FnSliceFunctorOut.ex (c:Cat) (x:Int):∃g code,FnSliceFunctorOut c x g code:=by
 obtain⟨code,h⟩:=aQd c [x]
 by_cases h0:code=0
 ·subst h0
  obtain⟨g,code,h2⟩:=CommaLeftOut.ex (jC c) (uT c x)
  exact⟨g,code, .inr ⟨h,h2⟩⟩
 ·exact⟨_,code, .inl ⟨h,h0,rfl⟩⟩
theorem FnSliceFunctorOut.b {c:Cat} {x:Int} {g:Fun} {code:Int} (hb:CatB c) (h:FnSliceFunctorOut c x g code):FunB g:=by
 rcases h with⟨_,_,rfl⟩|⟨h0,h⟩
 ·exact aEJ
 ·have b1:=aJp hb (aIX h0).1
  have b2:=aGv x hb
  exact h.b b1 b2
def FnCosliceFunctorOut (c:Cat) (x:Int) (g:Fun) (code:Int):Prop:=(OC c [x] code∧code≠0∧g=aHL)∨(OC c [x] 0∧CommaRightOut (uT c x) (jC c) g code)
theorem FnCosliceFunctorOut.ex (c:Cat) (x:Int):∃g code,FnCosliceFunctorOut c x g code:=by
 obtain⟨code,h⟩:=aQd c [x]
 by_cases h0:code=0
 ·subst h0
  obtain⟨g,code,h2⟩:=CommaRightOut.ex (uT c x) (jC c)
  exact⟨g,code, .inr ⟨h,h2⟩⟩
 ·exact⟨_,code, .inl ⟨h,h0,rfl⟩⟩
theorem FnCosliceFunctorOut.b {c:Cat} {x:Int} {g:Fun} {code:Int} (hb:CatB c) (h:FnCosliceFunctorOut c x g code):FunB g:=by
 rcases h with⟨_,_,rfl⟩|⟨h0,h⟩
 ·exact aEJ
 ·have b1:=aJp hb (aIX h0).1
  have b2:=aGv x hb
  exact h.b b2 b1
end Go.Eng
end
section
namespace Go.Eng
open Go Go.Proofs Go.Cats
theorem aL5 {E:Env} {d:Option Nat} {σ:Ss} {K:Ss→Prop} {t u:TypeId} {x y:Operand} {k:IntKind} {a b:Int} (hx:σ.opd x= .v (.int k a)) (hy:σ.opd y= .v (.int k b)) (hK:K (σ.ap d (.v (.int k (if b>a then b else a))) [] σ.nx)):
  dV E d (.call {callee:= .builtin .max,args:= #[x,y],argTypes:= #[t,u]}) σ K:=by
 refine⟨[],_,[],_,fun X o _ hd ho hdn tm rs h1 h2=>?_,hK,fun i hi=>by simp at hi⟩
 refine cY (E:=E) (by rw [hd];exact hdn) _ fun ac w c hp h=>?_
 have hx1:=h x
 have hy1:=h y
 rw [h1 x (by rw [ho];simp [Op.operands,Call.operands]),show opd (lk σ.tm) x=σ.opd x from rfl,hx]at hx1
 rw [h1 y (by rw [ho];simp [Op.operands,Call.operands]),show opd (lk σ.tm) y=σ.opd y from rfl,hy]at hy1
 simp only [Sv.ok]at hx1 hy1
 simp [execOp,ho,resolve,invoke,builtin,hx1,hy1,Builtin.max_,Builtin.max2]
namespace B4
theorem pE:aD Tryz.prog 117:=⟨_,Tryz.func117,rfl,rfl⟩
theorem rX {l:List Int} {n:Int} (hl:l.length≤1048576):Spec Tryz.prog 117 [.bor [] (ints l),iv n] [] (iv (idxOf l n)) []:=by
 refine aC (E:=TE) 0 Tryz.func117 rfl (by simp [Tryz.f117]) fun X hn hX=>?_
 repeat'(first|refine wkQ ?_|refine Tw.f ?_ ?_|(refine fun(hc:(_:Bool)=_)=>?_;try simp only [hcS]at hc))
 refine aG (G:={i:Nat//i≤l.length∧(aZ i (iO l n)=none)}) (fun⟨i,_⟩=>[(5,iv i)]) [0,1] (fun⟨i,_⟩=>[]) [] (fun zz=>l.length-zz.1) ⟨0,Nat.zero_le _,by rfl⟩ ?_ ?_
 ·exact Imp.au hX
 rintro⟨i,hii,hwi⟩
 simp only [go_sem,simprocAttr]
 repeat'(first|refine wkQ ?_|refine Tw.f ?_ ?_|(refine fun(hc:(_:Bool)=_)=>?_;try simp only [hcS]at hc))
 all_goals try exact om_
 ·(first|refine aB ?_|refine aA ?_);simp only [go_sem,simprocAttr,Tryz.f117]
  rw [idxOf_hit hwi (by omega) hc]
 ·refine⟨⟨i+1,by omega,(by exact bJ hwi (aHC hc))⟩,by simp only;omega,Imp.ao hX⟩
 ·(first|refine aB ?_|refine aA ?_);simp only [go_sem,simprocAttr,Tryz.f117]
  rw [pJ (cX hwi hii (by omega))]
end B4
open B4 (rX pE)
attribute [local go_sem] yY
def _root_.Go.Cats.topI (l:List Int):Nat→Int
 |0=>0
 |i+1=>if l.getD i 0+1>topI l i then l.getD i 0+1 else topI l i
theorem aLa (l:List Int):topI l 0=0:=rfl
attribute [local go_sem] aLa
def _root_.Go.Cats.clsI (l:List Int):Nat→List Int×List Int
 |0=>([],[])
 |i+1=>if idxOf (clsI l i).2 (l.getD i 0)<0 then((clsI l i).1++[((clsI l i).2.length:Int)],(clsI l i).2++[l.getD i 0])else((clsI l i).1++[idxOf (clsI l i).2 (l.getD i 0)],(clsI l i).2)
theorem mI (l:List Int):∀i,(clsI l i).1.length=i∧(clsI l i).2.length≤i∧∀j,j<i→0≤(clsI l i).1.getD j 0∧(clsI l i).1.getD j 0<i
 |0=>⟨rfl,Nat.le_refl _,fun j hj=>by omega⟩
 |i+1=>by
  obtain⟨h1,h2,h3⟩:=mI l i
  have key:∀v:Int,0≤v∧v<i+1→∀j,j<i+1→0≤((clsI l i).1++[v]).getD j 0∧((clsI l i).1++[v]).getD j 0<i+1:=fun v hv j hj=>by
   by_cases hji:j<i
   ·have:=h3 j hji
    rw [List.getD_eq_getElem?_getD,List.getElem?_append_left (by omega),←List.getD_eq_getElem?_getD]
    omega
   ·rw [show j=i by omega,List.getD_eq_getElem?_getD,List.getElem?_append_right (by omega),h1,Nat.sub_self]
    exact hv
  unfold clsI
  split
  ·refine⟨by simp [h1],by simp;omega,fun j hj=>?_⟩
   have:=key ((clsI l i).2.length:Int) ⟨by omega,by omega⟩ j hj
   simpa using this
  ·rename_i hc
   have:=aF7 (l:=(clsI l i).2) (n:=l.getD i 0) (by omega)
   refine⟨by simp [h1],by simp;omega,fun j hj=>?_⟩
   have:=key (idxOf (clsI l i).2 (l.getD i 0)) ⟨this.1,by omega⟩ j hj
   simpa using this
theorem wB {l:List Int} {i:Nat} (h:idxOf (clsI l i).2 (l.getD i 0)<0):clsI l (i+1)=((clsI l i).1++[((clsI l i).2.length:Int)],(clsI l i).2++[l.getD i 0]):=by rw [clsI,if_pos h]
theorem wC {l:List Int} {i:Nat} (h:¬idxOf (clsI l i).2 (l.getD i 0)<0):clsI l (i+1)=((clsI l i).1++[idxOf (clsI l i).2 (l.getD i 0)],(clsI l i).2):=by rw [clsI,if_neg h]
theorem aDr (l:List Int):clsI l 0=([],[]):=rfl
attribute [local go_sem] aDr
def _root_.Go.Cats.joI (L:List Int) (a b:Int) (i:Nat):List Int:=(L.take i).map (fun v=>if v=b then a else v)++L.drop i
theorem aMn (L:List Int) (a b:Int):joI L a b 0=L:=by simp [joI]
theorem aIP (L:List Int) (a b:Int) (i:Nat):(joI L a b i).length=L.length:=by simp [joI];omega
def _root_.Go.Cats.joK (n:Nat) (ps:List (List Int)):Nat→List Int
 |0=>nums n
 |k+1=>joI (joK n ps k) ((joK n ps k).getD ((ps.getD k []).getD 0 0).toNat 0) ((joK n ps k).getD ((ps.getD k []).getD 1 0).toNat 0) n
theorem aA1 (n:Nat) (ps:List (List Int)):∀k,(joK n ps k).length=n
 |0=>cW n
 |k+1=>by rw [joK,aIP,aA1]
theorem aMp (n:Nat) (ps:List (List Int)):joK n ps 0=nums n:=rfl
theorem aGa (n:Nat) (ps:List (List Int)) (k:Nat):joK n ps (k+1)=joI (joK n ps k) ((joK n ps k).getD ((ps.getD k []).getD 0 0).toNat 0) ((joK n ps k).getD ((ps.getD k []).getD 1 0).toNat 0) n:=rfl
attribute [local go_sem] aMn aIP aA1 aMp
end Go.Eng
end
