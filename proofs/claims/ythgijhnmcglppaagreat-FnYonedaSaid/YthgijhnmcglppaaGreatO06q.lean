/- Representable set functors, by the program. -/
import Derived.Test.YthgijhnmcglppaaGreatG12y
import Derived.Test.YthgijhnmcglppaaGreatO03y
set_option linter.unusedSimpArgs false
set_option linter.unusedVariables false
set_option maxRecDepth 100000
set_option maxHeartbeats 8000000
namespace Go.Eng
open Go Go.Proofs Go.Cats
def _root_.Go.Cats.Cat.szs (c:Cat) (x:Int) (i:Nat):List Int:=(List.range i).map fun y:Nat=>((c.hom x y).length:Int)
@[go_sem] theorem _root_.Go.Cats.Cat.szs_zero (c:Cat) (x:Int):c.szs x 0=[]:=rfl
theorem _root_.Go.Cats.Cat.szs_succ (c:Cat) (x:Int) (i:Nat):c.szs x (i+1)=c.szs x i++[((c.hom x i).length:Int)]:=by simp [Cat.szs,List.range_succ]
@[go_sem] theorem _root_.Go.Cats.Cat.szs_len (c:Cat) (x:Int) (i:Nat):(c.szs x i).length=i:=by simp [Cat.szs]
def _root_.Go.Cats.Cat.acs (c:Cat) (x:Int) (i:Nat):List (List Int):=(List.range i).map (c.repAct x)
@[go_sem] theorem _root_.Go.Cats.Cat.acs_zero (c:Cat) (x:Int):c.acs x 0=[]:=rfl
theorem _root_.Go.Cats.Cat.acs_succ (c:Cat) (x:Int) (i:Nat):c.acs x (i+1)=c.acs x i++[c.repAct x i]:=by simp [Cat.acs,List.range_succ]
@[go_sem] theorem _root_.Go.Cats.Cat.acs_len (c:Cat) (x:Int) (i:Nat):(c.acs x i).length=i:=by simp [Cat.acs]
def _root_.Go.Cats.Cat.repA (c:Cat) (x:Int) (a j:Nat):List Int:=((c.hom x (c.fr.getD a 0)).take j).map fun h=>idxOf (c.hom x (c.to.getD a 0)) ((c.co.getD h.toNat []).getD a 0)
@[go_sem] theorem _root_.Go.Cats.Cat.repA_zero (c:Cat) (x:Int) (a:Nat):c.repA x a 0=[]:=rfl
theorem _root_.Go.Cats.Cat.repA_succ {c:Cat} {x:Int} {a j:Nat} (h:j<(c.hom x (c.fr.getD a 0)).length):c.repA x a (j+1)=c.repA x a j++[idxOf (c.hom x (c.to.getD a 0)) ((c.co.getD ((c.hom x (c.fr.getD a 0)).getD j 0).toNat []).getD a 0)]:=by
 unfold Cat.repA
 rw [List.take_succ_eq_append_getElem h,List.map_append,oF h];rfl
@[go_sem] theorem _root_.Go.Cats.Cat.repA_len (c:Cat) (x:Int) (a j:Nat):(c.repA x a j).length=min j (c.hom x (c.fr.getD a 0)).length:=by simp [Cat.repA]
theorem _root_.Go.Cats.Cat.repA_end (c:Cat) (x:Int) (a j:Nat) (h:(c.hom x (c.fr.getD a 0)).length≤j):c.repA x a j=c.repAct x a:=by
 unfold Cat.repA Cat.repAct;rw [List.take_of_length_le h]
theorem Imp.adoptBi {X:Cx} {tm:List (Nat×Sv)} {rs:List (Nat×Rs)} {nx:Nat} (i k cv:Nat) (cells:List Sv) (hi:rsL rs i=⟨cv, .box cells⟩) (hk:cells[k]? =some (.v (.slice none 0 0))) (hf:rsL rs nx=⟨0, .gone⟩) (hx:(X.rs0 nx).cv=0):
  Imp X ⟨tm,rs,nx⟩ ⟨tm,(i,⟨cv, .box (cells.set k (.sl nx))⟩)::(nx,⟨1, .arr (ints [])⟩)::rs,nx+1⟩:=by
 have h:=Imp.adoptB (X:=X) (σ:=⟨tm,rs,nx⟩) i k 1 (.v (.int .i64 0)) cells (by decide) (by unfold Ss.get;rw [hi]) hk hf hx
 have e:((⟨tm,rs,nx⟩:Ss).get i).cv=cv:=by unfold Ss.get;rw [hi]
 rw [e]at h
 exact h
@[go_sem] theorem aSJ:(Value.slice none 0 0).oneCell'=true:=rfl
section
variable (c:Cat) (x:Int) (rows:List (List Int))
@[go_sem] theorem aU8:(aI0 c x rows).length=6:=rfl
@[go_sem] theorem aOc (V:List Nat) (rs:Nat→Rs) (l:List Sv):dK V rs l (aI0 c x rows)↔dK V rs l [.pt (fP c), .v (.int .i64 x), .v (.int .u32 1), .v (.int .i32 0), .v (.int .u32 0),aC rows]:=Iff.rfl
end
theorem bK:aE Tryz.prog 111:=⟨_,Tryz.func111,rfl,rfl⟩
theorem cG {c:Cat} {x:Int} (hs:Shape c) (hb:CatB c) (hsm:c.small x):Spec Tryz.prog 111 [.bptr [] (fP c),iv x] []
  (.tup [.agg [iv c.ob, .sl 0, .sl 1, .sl 2, .sl 3, .sl 4, .sl 5], .v (.bool true)]) [(0,⟨1, .arr (ints c.fr)⟩),(1,⟨1, .arr (ints c.to)⟩),(2,⟨1, .arr (ints c.id)⟩),(3,⟨1, .arr (aC c.co)⟩),(4,⟨1, .arr (ints (c.rep x).sizes)⟩),(5,⟨1, .arr (aC (c.rep x).acts)⟩)]:=by
 have ⟨s1,s2,s3,s4,s5,s6,s7,s8,s9,s10,s11⟩:=hs
 refine aD (E:=TE) 0 Tryz.func111 rfl (by simp [Tryz.f111]) fun X hn hX=>?_
 repeat'(first|refine wkQ ?_|refine Tw.f ?_ ?_|(refine kcQ gM ?_;refine krQ (iQ ?_) ?_)|(refine kcQ dV ?_;refine kwQ (lM (x:=x) hs) [(0,1),(1,7)] [] ?_)|(refine fun(hc:(_:Bool)=_)=>?_;try simp only [hcS]at hc))
 all_goals try exact om_
 refine dN (Imp.adoptBi 6 5 _ _ rfl rfl rfl (by rw [hX];rfl)) ?_
 refine dN (Imp.adoptBs 6 6 _ _ rfl rfl rfl (by rw [hX];rfl)) ?_
 refine aH (G:={i:Nat//i≤c.ob.toNat∧(True)}) (fun⟨i,_⟩=>[(24,iv i)]) [0,4,6,7,22,23] (fun⟨i,_⟩=>[(1,⟨1, .box (onc c x 1 0 (.sl 7))⟩),(7,⟨1, .arr (aC (c.homs x c.ob.toNat))⟩),(6,⟨1, .box [iv c.ob, .sl 2, .sl 3, .sl 4, .sl 5, .sl 8, .sl 9]⟩),(2,⟨1, .arr (ints c.fr)⟩),(3,⟨1, .arr (ints c.to)⟩),(4,⟨1, .arr (ints c.id)⟩),(5,⟨1, .arr (aC c.co)⟩),(8,⟨1, .arr (ints (c.szs x i))⟩),(9,⟨1, .arr (aC [])⟩),(0,⟨1, .box [iv 0, .v (.slice none 0 0), .v (.slice none 0 0), .v (.slice none 0 0), .v (.slice none 0 0), .v (.slice none 0 0), .v (.slice none 0 0)]⟩)]) [0,1,2,3,4,5,6,7,8,9] (fun zz=>c.ob.toNat-zz.1) ⟨0,Nat.zero_le _,by first|trivial|simp⟩ ?_ ?_
 ·exact Imp.au hX
 rintro⟨i,hii,hwi⟩
 simp only [go_sem,simprocAttr]
 have hlen:=c.hom_len x i
 have hg:=Go.Eng.Cat.homs_get c x c.ob.toNat i
 have hq:=hsm i
 repeat'(first|refine wkQ ?_|refine Tw.f ?_ ?_|(refine fun(hc:(_:Bool)=_)=>?_;try simp only [hcS]at hc))
 all_goals try exact om_
 ·exfalso
  rw [hg (by omega)]at hc
  omega
 ·have hg':=hg (by omega)
  refine⟨⟨i+1,by omega,(by trivial)⟩,by simp only;omega,Imp.auto hX (by simp only [go_sem,simprocAttr,Go.Cats.Cat.szs_succ,hg'])⟩
 obtain rfl:i=c.ob.toNat:=by omega
 refine aH (G:={a:Nat//a≤c.fr.length∧(True)}) (fun⟨a,_⟩=>[(45,iv a)]) [0,4,5,6,7,44] (fun⟨a,_⟩=>[(1,⟨1, .box (onc c x 1 0 (.sl 7))⟩),(7,⟨1, .arr (aC (c.homs x c.ob.toNat))⟩),(6,⟨1, .box [iv c.ob, .sl 2, .sl 3, .sl 4, .sl 5, .sl 8, .sl 9]⟩),(2,⟨1, .arr (ints c.fr)⟩),(3,⟨1, .arr (ints c.to)⟩),(4,⟨1, .arr (ints c.id)⟩),(5,⟨1, .arr (aC c.co)⟩),(8,⟨1, .arr (ints (c.szs x c.ob.toNat))⟩),(9,⟨1, .arr (aC (c.acs x a))⟩),(0,⟨1, .box [iv 0, .v (.slice none 0 0), .v (.slice none 0 0), .v (.slice none 0 0), .v (.slice none 0 0), .v (.slice none 0 0), .v (.slice none 0 0)]⟩)]) [0,1,2,3,4,5,6,7,8,9] (fun zz=>c.fr.length-zz.1) ⟨0,Nat.zero_le _,by first|trivial|simp⟩ ?_ ?_
 ·exact Imp.au hX
 rintro⟨a,hia,hwa⟩
 simp only [go_sem,simprocAttr]
 have wF:=s5 a
 have wT:=s6 a
 have hL1:=c.hom_len x (c.fr.getD a 0)
 have gF:a<c.fr.length→(c.homs x c.ob.toNat).getD (c.fr.getD a 0).toNat []=c.hom x (c.fr.getD a 0):=fun h=>by
  have:=wF h
  rw [Go.Eng.Cat.homs_get _ _ _ _ (by omega),Int.toNat_of_nonneg this.1]
 have gT:a<c.fr.length→(c.homs x c.ob.toNat).getD (c.to.getD a 0).toNat []=c.hom x (c.to.getD a 0):=fun h=>by
  have:=wT (by omega)
  rw [Go.Eng.Cat.homs_get _ _ _ _ (by omega),Int.toNat_of_nonneg this.1]
 repeat'(first|refine wkQ ?_|refine Tw.f ?_ ?_|(refine kcQ dV ?_;refine kwQ (gW (c:=c) (x:=x) (rows:=c.homs x c.ob.toNat)) [] [1,7] ?_)|(refine fun(hc:(_:Bool)=_)=>?_;try simp only [hcS]at hc))
 all_goals try exact om_
 rw [gF (by omega)]
 refine aH (G:={j:Nat//j≤(c.hom x (c.fr.getD a 0)).length∧(True)}) (fun⟨j,_⟩=>[(61,iv j),(11, .sl 10)]) [0,4,5,6,7,10,44,45,59,60] (fun⟨j,_⟩=>[(1,⟨1, .box (onc c x 1 0 (.sl 7))⟩),(7,⟨1, .arr (aC (c.homs x c.ob.toNat))⟩),(6,⟨1, .box [iv c.ob, .sl 2, .sl 3, .sl 4, .sl 5, .sl 8, .sl 9]⟩),(2,⟨1, .arr (ints c.fr)⟩),(3,⟨1, .arr (ints c.to)⟩),(4,⟨1, .arr (ints c.id)⟩),(5,⟨1, .arr (aC c.co)⟩),(8,⟨1, .arr (ints (c.szs x c.ob.toNat))⟩),(9,⟨1, .arr (aC (c.acs x a))⟩),(0,⟨1, .box [iv 0, .v (.slice none 0 0), .v (.slice none 0 0), .v (.slice none 0 0), .v (.slice none 0 0), .v (.slice none 0 0), .v (.slice none 0 0)]⟩),(10,⟨1, .arr (ints (c.repA x a j))⟩)]) [0,1,2,3,4,5,6,7,8,9,10] (fun zz=>(c.hom x (c.fr.getD a 0)).length-zz.1) ⟨0,Nat.zero_le _,by first|trivial|simp⟩ ?_ ?_
 ·exact Imp.au hX
 rintro⟨j,hij,hwj⟩
 simp only [go_sem,simprocAttr]
 have hm:=fun h=>(Go.Cats.Cat.mem_hom (c:=c) (x:=x) (y:=c.fr.getD a 0) (f:=(c.hom x (c.fr.getD a 0)).getD j 0)).1 (bO h)
 repeat'(first|refine wkQ ?_|refine Tw.f ?_ ?_|(refine kcQ dV ?_;refine kwQ (gW (c:=c) (x:=x) (rows:=c.homs x c.ob.toNat)) [] [1,7] ?_)|(refine kcQ eV ?_;refine krQ (fK ?_ ?_ ?_ ?_) ?_)|(refine kcQ fS ?_;refine krQ (kO ?_) ?_)|(refine fun(hc:(_:Bool)=_)=>?_;try simp only [hcS]at hc))
 all_goals try exact om_
 ·have h1:=hm (by omega)
  have h2:=(s11 ((c.hom x (c.fr.getD a 0)).getD j 0).toNat (by omega)).1
  omega
 ·rw [gT (by omega)]
  have:=c.hom_len x (c.to.getD a 0)
  omega
 ·have e1:=gT (by omega)
  have e2:=Go.Cats.Cat.repA_succ (c:=c) (x:=x) (a:=a) (j:=j) (by omega)
  refine⟨⟨j+1,by omega,(by trivial)⟩,by simp only;omega,Imp.auto hX (by simp only [go_sem,simprocAttr,e1,e2,Cat.C,Int.toNat_natCast])⟩
 ·have e:=c.repA_end x a j (by omega)
  refine⟨⟨a+1,by omega,(by trivial)⟩,by simp only;omega,Imp.auto hX (by simp only [go_sem,simprocAttr,Go.Cats.Cat.acs_succ,e])⟩
 obtain rfl:a=c.fr.length:=by omega
 (first|refine aB ?_|refine aA ?_);simp only [go_sem,simprocAttr,Tryz.f111]
 exact⟨rfl,rfl⟩
theorem eB {c:Cat} {x:Int} (hs:Shape c) (hb:CatB c) (hsm:¬c.small x):Spec Tryz.prog 111 [.bptr [] (fP c),iv x] []
  (.tup [.agg [iv 0, .v (.slice none 0 0), .v (.slice none 0 0), .v (.slice none 0 0), .v (.slice none 0 0), .v (.slice none 0 0), .v (.slice none 0 0)], .v (.bool false)]) []:=by
 have ⟨s1,s2,s3,s4,s5,s6,s7,s8,s9,s10,s11⟩:=hs
 refine aD (E:=TE) 0 Tryz.func111 rfl (by simp [Tryz.f111]) fun X hn hX=>?_
 repeat'(first|refine wkQ ?_|refine Tw.f ?_ ?_|(refine kcQ gM ?_;refine krQ (iQ ?_) ?_)|(refine kcQ dV ?_;refine kwQ (lM (x:=x) hs) [(0,1),(1,7)] [] ?_)|(refine fun(hc:(_:Bool)=_)=>?_;try simp only [hcS]at hc))
 all_goals try exact om_
 refine dN (Imp.adoptBi 6 5 _ _ rfl rfl rfl (by rw [hX];rfl)) ?_
 refine dN (Imp.adoptBs 6 6 _ _ rfl rfl rfl (by rw [hX];rfl)) ?_
 refine aH (G:={i:Nat//i≤c.ob.toNat∧(∀y:Nat,y<i→(c.hom x y).length≤16)}) (fun⟨i,_⟩=>[(24,iv i)]) [0,4,6,7,22,23] (fun⟨i,_⟩=>[(1,⟨1, .box (onc c x 1 0 (.sl 7))⟩),(7,⟨1, .arr (aC (c.homs x c.ob.toNat))⟩),(6,⟨1, .box [iv c.ob, .sl 2, .sl 3, .sl 4, .sl 5, .sl 8, .sl 9]⟩),(2,⟨1, .arr (ints c.fr)⟩),(3,⟨1, .arr (ints c.to)⟩),(4,⟨1, .arr (ints c.id)⟩),(5,⟨1, .arr (aC c.co)⟩),(8,⟨1, .arr (ints (c.szs x i))⟩),(9,⟨1, .arr (aC [])⟩),(0,⟨1, .box [iv 0, .v (.slice none 0 0), .v (.slice none 0 0), .v (.slice none 0 0), .v (.slice none 0 0), .v (.slice none 0 0), .v (.slice none 0 0)]⟩)]) [0,1,2,3,4,5,6,7,8,9] (fun zz=>c.ob.toNat-zz.1) ⟨0,Nat.zero_le _,by omega⟩ ?_ ?_
 ·exact Imp.au hX
 rintro⟨i,hii,hwi⟩
 simp only [go_sem,simprocAttr]
 have hlen:=c.hom_len x i
 have hg:=Go.Eng.Cat.homs_get c x c.ob.toNat i
 by_cases hio:i<c.ob.toNat
 ·have hg':=hg hio
  repeat'(first|refine wkQ ?_|refine Tw.f ?_ ?_|(refine fun(hc:(_:Bool)=_)=>?_;try simp only [hcS]at hc))
  all_goals try exact om_
  ·(first|refine aB ?_|refine aA ?_);simp only [go_sem,simprocAttr,Tryz.f111]
  ·rw [hg']at hc
   refine⟨⟨i+1,by omega,(by exact bU hwi (by omega))⟩,by simp only;omega,Imp.auto hX (by simp only [go_sem,simprocAttr,Go.Cats.Cat.szs_succ,hg'])⟩
 ·exact absurd (fun y hy=>hwi y (by omega)) hsm
end Go.Eng
