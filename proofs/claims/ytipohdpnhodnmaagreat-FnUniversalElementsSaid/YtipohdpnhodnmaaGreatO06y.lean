/- Several texts in one: O06, O09. -/
import Derived.Test.YtipohdpnhodnmaaGreatC07y
set_option linter.unusedSimpArgs false
set_option linter.unusedVariables false
set_option maxRecDepth 100000
set_option maxHeartbeats 8000000
section
namespace Go.Eng
open Go Go.Proofs Go.Cats
def _root_.Go.Cats.Cat.szs (c:Cat) (x:Int) (i:Nat):List Int:=(List.range i).map fun y:Nat=>((c.hom x y).length:Int)
@[go_sem] theorem _root_.Go.Cats.Cat.szs_zero (c:Cat) (x:Int):c.szs x 0=[]:=rfl
theorem _root_.Go.Cats.Cat.szs_succ (c:Cat) (x:Int) (i:Nat):c.szs x (i+1)=c.szs x i++[((c.hom x i).length:Int)]:=by simp [Cat.szs,List.range_succ]
@[go_sem] theorem _root_.Go.Cats.Cat.szs_len (c:Cat) (x:Int) (i:Nat):(c.szs x i).length=i:=by simp [Cat.szs]
def _root_.Go.Cats.Cat.acs (c:Cat) (x:Int) (i:Nat):List (List Int):=(List.range i).map (c.repAct x)
@[go_sem] theorem _root_.Go.Cats.Cat.acs_zero (c:Cat) (x:Int):c.acs x 0=[]:=rfl
theorem _root_.Go.Cats.Cat.acs_succ (c:Cat) (x:Int) (i:Nat):c.acs x (i+1)=c.acs x i++[c.repAct x i]:=by simp [Cat.acs,List.range_succ]
@[go_sem] theorem _root_.Go.Cats.Cat.acs_len (c:Cat) (x:Int) (i:Nat):(c.acs x i).length=i:=by simp [Cat.acs]
def _root_.Go.Cats.Cat.repA (c:Cat) (x:Int) (a j:Nat):List Int:=((c.hom x (c.fr.getD a 0)).take j).map fun h=>idxOf (c.hom x (c.to.getD a 0)) ((c.co.getD h.toNat []).getD a 0)
@[go_sem] theorem _root_.Go.Cats.Cat.repA_zero (c:Cat) (x:Int) (a:Nat):c.repA x a 0=[]:=rfl
theorem _root_.Go.Cats.Cat.repA_succ {c:Cat} {x:Int} {a j:Nat} (h:j<(c.hom x (c.fr.getD a 0)).length):c.repA x a (j+1)=c.repA x a j++[idxOf (c.hom x (c.to.getD a 0)) ((c.co.getD ((c.hom x (c.fr.getD a 0)).getD j 0).toNat []).getD a 0)]:=by
 unfold Cat.repA
 rw [List.take_succ_eq_append_getElem h,List.map_append,gL h];rfl
@[go_sem] theorem _root_.Go.Cats.Cat.repA_len (c:Cat) (x:Int) (a j:Nat):(c.repA x a j).length=min j (c.hom x (c.fr.getD a 0)).length:=by simp [Cat.repA]
theorem _root_.Go.Cats.Cat.repA_end (c:Cat) (x:Int) (a j:Nat) (h:(c.hom x (c.fr.getD a 0)).length≤j):c.repA x a j=c.repAct x a:=by
 unfold Cat.repA Cat.repAct;rw [List.take_of_length_le h]
theorem Imp.adoptBi {X:Cx} {tm:List (Nat×Sv)} {rs:List (Nat×Rs)} {nx:Nat} (i k cv:Nat) (cells:List Sv) (hi:rsL rs i=⟨cv, .box cells⟩) (hk:cells[k]? =some (.v (.slice none 0 0))) (hf:rsL rs nx=⟨0, .gone⟩) (hx:(X.rs0 nx).cv=0):
  Imp X ⟨tm,rs,nx⟩ ⟨tm,(i,⟨cv, .box (cells.set k (.sl nx))⟩)::(nx,⟨1, .arr (ints [])⟩)::rs,nx+1⟩:=by
 have h:=Imp.adoptB (X:=X) (σ:=⟨tm,rs,nx⟩) i k 1 (.v (.int .i64 0)) cells (by decide) (by unfold Ss.get;rw [hi]) hk hf hx
 have e:((⟨tm,rs,nx⟩:Ss).get i).cv=cv:=by unfold Ss.get;rw [hi]
 rw [e]at h
 exact h
@[go_sem] theorem aT2:(Value.slice none 0 0).oneCell'=true:=rfl
section
variable (c:Cat) (x:Int) (rows:List (List Int))
@[go_sem] theorem aWe:(aJV c x rows).length=6:=rfl
@[go_sem] theorem aPA (V:List Nat) (rs:Nat→Rs) (l:List Sv):dD V rs l (aJV c x rows)↔dD V rs l [.pt (dJ c), .v (.int .i64 x), .v (.int .u32 1), .v (.int .i32 0), .v (.int .u32 0),aC rows]:=Iff.rfl
end
theorem jU:aF Tryz.prog 72:=⟨_,Tryz.func72,rfl,rfl⟩
theorem iZ {c:Cat} {x:Int} (hs:Shape c) (hb:CatB c) (hsm:c.small x):Spec Tryz.prog 72 [.bptr [] (dJ c),iv x] []
  (.tup [.agg [iv c.ob, .sl 0, .sl 1, .sl 2, .sl 3, .sl 4, .sl 5], .v (.bool true)]) [(0,⟨1, .arr (ints c.fr)⟩),(1,⟨1, .arr (ints c.to)⟩),(2,⟨1, .arr (ints c.id)⟩),(3,⟨1, .arr (aC c.co)⟩),(4,⟨1, .arr (ints (c.rep x).sizes)⟩),(5,⟨1, .arr (aC (c.rep x).acts)⟩)]:=by
 have ⟨s1,s2,s3,s4,s5,s6,s7,s8,s9,s10,s11⟩:=hs
 refine aD (E:=TE) 0 Tryz.func72 rfl (by simp [Tryz.f72]) fun X hn hX=>?_
 repeat'(first|refine wkQ ?_|refine Tw.f ?_ ?_|(refine kcQ kY ?_;refine krQ (mL ?_) ?_)|(refine kcQ fP ?_;refine kwQ (sV (x:=x) hs) [(0,1),(1,7)] [] ?_)|(refine fun(hc:(_:Bool)=_)=>?_;try simp only [hcS]at hc))
 all_goals try exact om_
 refine cZ (Imp.adoptBi 6 5 _ _ rfl rfl rfl (by rw [hX];rfl)) ?_
 refine cZ (Imp.adoptBs 6 6 _ _ rfl rfl rfl (by rw [hX];rfl)) ?_
 refine aG (G:={i:Nat//i≤c.ob.toNat∧(True)}) (fun⟨i,_⟩=>[(24,iv i)]) [0,4,6,7,22,23] (fun⟨i,_⟩=>[(1,⟨1, .box (onc c x 1 0 (.sl 7))⟩),(7,⟨1, .arr (aC (c.homs x c.ob.toNat))⟩),(6,⟨1, .box [iv c.ob, .sl 2, .sl 3, .sl 4, .sl 5, .sl 8, .sl 9]⟩),(2,⟨1, .arr (ints c.fr)⟩),(3,⟨1, .arr (ints c.to)⟩),(4,⟨1, .arr (ints c.id)⟩),(5,⟨1, .arr (aC c.co)⟩),(8,⟨1, .arr (ints (c.szs x i))⟩),(9,⟨1, .arr (aC [])⟩),(0,⟨1, .box [iv 0, .v (.slice none 0 0), .v (.slice none 0 0), .v (.slice none 0 0), .v (.slice none 0 0), .v (.slice none 0 0), .v (.slice none 0 0)]⟩)]) [0,1,2,3,4,5,6,7,8,9] (fun zz=>c.ob.toNat-zz.1) ⟨0,Nat.zero_le _,by first|trivial|simp⟩ ?_ ?_
 ·exact Imp.au hX
 rintro⟨i,hii,hwi⟩
 simp only [go_sem,simprocAttr]
 have hlen:=c.hom_len x i
 have hg:=Go.Eng.Cat.homs_get c x c.ob.toNat i
 have hq:=hsm i
 repeat'(first|refine wkQ ?_|refine Tw.f ?_ ?_|(refine fun(hc:(_:Bool)=_)=>?_;try simp only [hcS]at hc))
 all_goals try exact om_
 ·exfalso
  rw [hg (by omega)]at hc
  omega
 ·have hg':=hg (by omega)
  refine⟨⟨i+1,by omega,(by trivial)⟩,by simp only;omega,Imp.auto hX (by simp only [go_sem,simprocAttr,Go.Cats.Cat.szs_succ,hg'])⟩
 obtain rfl:i=c.ob.toNat:=by omega
 refine aG (G:={a:Nat//a≤c.fr.length∧(True)}) (fun⟨a,_⟩=>[(45,iv a)]) [0,4,5,6,7,44] (fun⟨a,_⟩=>[(1,⟨1, .box (onc c x 1 0 (.sl 7))⟩),(7,⟨1, .arr (aC (c.homs x c.ob.toNat))⟩),(6,⟨1, .box [iv c.ob, .sl 2, .sl 3, .sl 4, .sl 5, .sl 8, .sl 9]⟩),(2,⟨1, .arr (ints c.fr)⟩),(3,⟨1, .arr (ints c.to)⟩),(4,⟨1, .arr (ints c.id)⟩),(5,⟨1, .arr (aC c.co)⟩),(8,⟨1, .arr (ints (c.szs x c.ob.toNat))⟩),(9,⟨1, .arr (aC (c.acs x a))⟩),(0,⟨1, .box [iv 0, .v (.slice none 0 0), .v (.slice none 0 0), .v (.slice none 0 0), .v (.slice none 0 0), .v (.slice none 0 0), .v (.slice none 0 0)]⟩)]) [0,1,2,3,4,5,6,7,8,9] (fun zz=>c.fr.length-zz.1) ⟨0,Nat.zero_le _,by first|trivial|simp⟩ ?_ ?_
 ·exact Imp.au hX
 rintro⟨a,hia,hwa⟩
 simp only [go_sem,simprocAttr]
 have wF:=s5 a
 have wT:=s6 a
 have hL1:=c.hom_len x (c.fr.getD a 0)
 have gF:a<c.fr.length→(c.homs x c.ob.toNat).getD (c.fr.getD a 0).toNat []=c.hom x (c.fr.getD a 0):=fun h=>by
  have:=wF h
  rw [Go.Eng.Cat.homs_get _ _ _ _ (by omega),Int.toNat_of_nonneg this.1]
 have gT:a<c.fr.length→(c.homs x c.ob.toNat).getD (c.to.getD a 0).toNat []=c.hom x (c.to.getD a 0):=fun h=>by
  have:=wT (by omega)
  rw [Go.Eng.Cat.homs_get _ _ _ _ (by omega),Int.toNat_of_nonneg this.1]
 repeat'(first|refine wkQ ?_|refine Tw.f ?_ ?_|(refine kcQ fP ?_;refine kwQ (gR (c:=c) (x:=x) (rows:=c.homs x c.ob.toNat)) [] [1,7] ?_)|(refine fun(hc:(_:Bool)=_)=>?_;try simp only [hcS]at hc))
 all_goals try exact om_
 rw [gF (by omega)]
 refine aG (G:={j:Nat//j≤(c.hom x (c.fr.getD a 0)).length∧(True)}) (fun⟨j,_⟩=>[(61,iv j),(11, .sl 10)]) [0,4,5,6,7,10,44,45,59,60] (fun⟨j,_⟩=>[(1,⟨1, .box (onc c x 1 0 (.sl 7))⟩),(7,⟨1, .arr (aC (c.homs x c.ob.toNat))⟩),(6,⟨1, .box [iv c.ob, .sl 2, .sl 3, .sl 4, .sl 5, .sl 8, .sl 9]⟩),(2,⟨1, .arr (ints c.fr)⟩),(3,⟨1, .arr (ints c.to)⟩),(4,⟨1, .arr (ints c.id)⟩),(5,⟨1, .arr (aC c.co)⟩),(8,⟨1, .arr (ints (c.szs x c.ob.toNat))⟩),(9,⟨1, .arr (aC (c.acs x a))⟩),(0,⟨1, .box [iv 0, .v (.slice none 0 0), .v (.slice none 0 0), .v (.slice none 0 0), .v (.slice none 0 0), .v (.slice none 0 0), .v (.slice none 0 0)]⟩),(10,⟨1, .arr (ints (c.repA x a j))⟩)]) [0,1,2,3,4,5,6,7,8,9,10] (fun zz=>(c.hom x (c.fr.getD a 0)).length-zz.1) ⟨0,Nat.zero_le _,by first|trivial|simp⟩ ?_ ?_
 ·exact Imp.au hX
 rintro⟨j,hij,hwj⟩
 simp only [go_sem,simprocAttr]
 have hm:=fun h=>(Go.Cats.Cat.mem_hom (c:=c) (x:=x) (y:=c.fr.getD a 0) (f:=(c.hom x (c.fr.getD a 0)).getD j 0)).1 (aT h)
 repeat'(first|refine wkQ ?_|refine Tw.f ?_ ?_|(refine kcQ fP ?_;refine kwQ (gR (c:=c) (x:=x) (rows:=c.homs x c.ob.toNat)) [] [1,7] ?_)|(refine kcQ bZ ?_;refine krQ (cN ?_ ?_ ?_ ?_) ?_)|(refine kcQ vP ?_;refine krQ (zU ?_) ?_)|(refine fun(hc:(_:Bool)=_)=>?_;try simp only [hcS]at hc))
 all_goals try exact om_
 ·have h1:=hm (by omega)
  have h2:=(s11 ((c.hom x (c.fr.getD a 0)).getD j 0).toNat (by omega)).1
  omega
 ·rw [gT (by omega)]
  have:=c.hom_len x (c.to.getD a 0)
  omega
 ·have e1:=gT (by omega)
  have e2:=Go.Cats.Cat.repA_succ (c:=c) (x:=x) (a:=a) (j:=j) (by omega)
  refine⟨⟨j+1,by omega,(by trivial)⟩,by simp only;omega,Imp.auto hX (by simp only [go_sem,simprocAttr,e1,e2,Cat.C,Int.toNat_natCast])⟩
 ·have e:=c.repA_end x a j (by omega)
  refine⟨⟨a+1,by omega,(by trivial)⟩,by simp only;omega,Imp.auto hX (by simp only [go_sem,simprocAttr,Go.Cats.Cat.acs_succ,e])⟩
 obtain rfl:a=c.fr.length:=by omega
 (first|refine aB ?_|refine aA ?_);simp only [go_sem,simprocAttr,Tryz.f72]
 exact⟨rfl,rfl⟩
end Go.Eng
end
section
namespace Go.Eng
open Go Go.Proofs Go.Cats
attribute [go_sem] SF.eRow_zero SF.eRow_len SF.eParts_zero SF.eParts_len
theorem fS:aF Tryz.prog 102:=⟨_,Tryz.func102,rfl,rfl⟩
theorem iN {f:SF} (hb:SFB f):Spec Tryz.prog 102 [sfV f] [] (.agg [iv f.shape.ob, .sl 0, .sl 1, .sl 2, .sl 3, .sl 4, .sl 5]) [(0,⟨1, .arr (ints f.shape.fr)⟩),(1,⟨1, .arr (ints f.shape.to)⟩),(2,⟨1, .arr (ints f.shape.id)⟩),(3,⟨1, .arr (aC f.shape.co)⟩),(4,⟨1, .arr (ints f.sizes)⟩),(5,⟨1, .arr (aC f.acts)⟩)]:=by
 refine aD (E:=TE) 0 Tryz.func102 rfl (by simp [Tryz.f102]) fun X hn hX=>?_
 obtain⟨b1,b2,b3,b4⟩:=hb
 repeat'(first|refine wkQ ?_|refine Tw.f ?_ ?_|(refine kcQ fQ ?_;refine krQ (iM ?_) ?_)|(refine kcQ eU ?_;refine krQ (gA ?_) ?_)|(refine kcQ oD ?_;refine krQ (rJ ?_ ?_) ?_)|(refine fun(hc:(_:Bool)=_)=>?_;try simp only [hcS]at hc))
 all_goals try exact om_
 (first|refine aB ?_|refine aA ?_);simp only [go_sem,simprocAttr,Tryz.f102]
theorem aB9:aF Tryz.prog 124:=⟨_,Tryz.func124,rfl,rfl⟩
theorem aEf {f:SF} {x e:Int} (s:IsSF f) (hb:SFB f) (h:f.Elem x e):Spec Tryz.prog 124 [sfV f,iv x,iv e] [] (.sl 0) [(0,⟨1, .arr (aC (f.eParts x e f.shape.ob.toNat))⟩)]:=by
 refine aD (E:=TE) 0 Tryz.func124 rfl (by simp [Tryz.f124]) fun X hn hX=>?_
 have hS:=s.cat.toShape
 have h8:=hS.ob8
 have h0:=hS.ob0
 have h40:=hS.m40
 have htl:=hS.tol
 repeat'(first|refine wkQ ?_|refine Tw.f ?_ ?_|(refine fun(hc:(_:Bool)=_)=>?_;try simp only [hcS]at hc))
 all_goals try exact om_
 refine aG (G:={y:Nat//y≤f.shape.ob.toNat∧(True)}) (fun⟨y,_⟩=>[(8,iv y),(7, .sl 1)]) [1,2,3,6] (fun⟨y,_⟩=>[(1,⟨1, .arr (aC (f.eParts x e y))⟩)]) [1] (fun zz=>f.shape.ob.toNat-zz.1) ⟨0,Nat.zero_le _,by first|trivial|simp⟩ ?_ ?_
 ·exact Imp.au hX
 rintro⟨y,hiy,hwy⟩
 simp only [go_sem,simprocAttr]
 have hlen:=f.shape.hom_len x y
 repeat'(first|refine wkQ ?_|refine Tw.f ?_ ?_|(refine kcQ aEK ?_;refine krQ (aH2 ?_ ?_) ?_)|(refine fun(hc:(_:Bool)=_)=>?_;try simp only [hcS]at hc))
 all_goals try exact om_
 ·refine aG (G:={k:Nat//k≤(f.shape.hom x y).length∧(True)}) (fun⟨k,_⟩=>[(11,iv k),(10, .sl 3)]) [1,2,3,6,7,8,9] (fun⟨k,_⟩=>[(3,⟨1, .arr (ints (f.eRow x e y k))⟩)]) [3] (fun zz=>(f.shape.hom x y).length-zz.1) ⟨0,Nat.zero_le _,by first|trivial|simp⟩ ?_ ?_
  ·exact Imp.au hX
  rintro⟨k,hik,hwk⟩
  simp only [go_sem,simprocAttr]
  have hm:=fun hk:k<(f.shape.hom x y).length=>SF.elem_act s h (aT (d:=0) hk)
  repeat'(first|refine wkQ ?_|refine Tw.f ?_ ?_|(refine fun(hc:(_:Bool)=_)=>?_;try simp only [hcS]at hc))
  all_goals try exact om_
  ·exact h.2.1
  ·have e1:=SF.eRow_succ (f:=f) (x:=x) (e:=e) (y:=y) (k:=k) (by omega)
   refine⟨⟨k+1,by omega,(by trivial)⟩,by simp only;omega,Imp.auto hX (by simp only [go_sem,simprocAttr,e1])⟩
  ·have e1:=SF.eParts_succ f x e y k (by omega)
   refine⟨⟨y+1,by omega,(by trivial)⟩,by simp only;omega,Imp.auto hX (by simp only [go_sem,simprocAttr,e1])⟩
 ·have e:y=f.shape.ob.toNat:=by omega
  subst e
  (first|refine aB ?_|refine aA ?_);simp only [go_sem,simprocAttr,Tryz.f124]
theorem pN:aF Tryz.prog 117:=⟨_,Tryz.func117,rfl,rfl⟩
theorem rG {f:SF} (hb:SFB f):Spec Tryz.prog 117 [.bptr [] (sfD f)] [] (.agg [iv f.shape.ob, .sl 0, .sl 1, .sl 2, .sl 3, .sl 4, .sl 5]) [(0,⟨1, .arr (ints f.shape.fr)⟩),(1,⟨1, .arr (ints f.shape.to)⟩),(2,⟨1, .arr (ints f.shape.id)⟩),(3,⟨1, .arr (aC f.shape.co)⟩),(4,⟨1, .arr (ints f.sizes)⟩),(5,⟨1, .arr (aC f.acts)⟩)]:=by
 refine aD (E:=TE) 0 Tryz.func117 rfl (by simp [Tryz.f117]) fun X hn hX=>?_
 obtain⟨b1,b2,b3,b4⟩:=hb
 repeat'(first|refine wkQ ?_|refine Tw.f ?_ ?_|(refine kcQ kY ?_;refine krQ (mL ?_) ?_)|(refine kcQ jM ?_;refine krQ (mN ?_) ?_)|(refine kcQ qK ?_;refine krQ (uD ?_ ?_) ?_)|(refine fun(hc:(_:Bool)=_)=>?_;try simp only [hcS]at hc))
 all_goals try exact om_
 (first|refine aB ?_|refine aA ?_);simp only [go_sem,simprocAttr,Tryz.f117]
theorem yA:aF Tryz.prog 55:=⟨_,Tryz.func55,rfl,rfl⟩
theorem aBK {f g:SF} {p:List (List Int)} (hf:SFB f) (hg:SFB g) (hp:p.length≤1048576) (hr:∀i,i<p.length→(p.getD i []).length≤1048576):Spec Tryz.prog 55 [.bptr [] (sfD f), .bptr [] (sfD g), .bor [] (aC p)] [] (.agg [iv f.shape.ob, .sl 0, .sl 1, .sl 2, .sl 3, .sl 4, .sl 5,iv g.shape.ob, .sl 6, .sl 7, .sl 8, .sl 9, .sl 10, .sl 11, .sl 12]) [(0,⟨1, .arr (ints f.shape.fr)⟩),(1,⟨1, .arr (ints f.shape.to)⟩),(2,⟨1, .arr (ints f.shape.id)⟩),(3,⟨1, .arr (aC f.shape.co)⟩),(4,⟨1, .arr (ints f.sizes)⟩),(5,⟨1, .arr (aC f.acts)⟩),(6,⟨1, .arr (ints g.shape.fr)⟩),(7,⟨1, .arr (ints g.shape.to)⟩),(8,⟨1, .arr (ints g.shape.id)⟩),(9,⟨1, .arr (aC g.shape.co)⟩),(10,⟨1, .arr (ints g.sizes)⟩),(11,⟨1, .arr (aC g.acts)⟩),(12,⟨1, .arr (aC p)⟩)]:=by
 refine aD (E:=TE) 0 Tryz.func55 rfl (by simp [Tryz.f55]) fun X hn hX=>?_
 repeat'(first|refine wkQ ?_|refine Tw.f ?_ ?_|(refine kcQ pN ?_;refine krQ (rG ?_) ?_)|(refine kcQ qK ?_;refine krQ (uD ?_ ?_) ?_)|(refine fun(hc:(_:Bool)=_)=>?_;try simp only [hcS]at hc))
 all_goals try exact om_
 (first|refine aB ?_|refine aA ?_);simp only [go_sem,simprocAttr,Tryz.f55]
theorem jW:aF Tryz.prog 71:=⟨_,Tryz.func71,rfl,rfl⟩
theorem kU {f:SF} {x e:Int} (s:IsSF f) (hb:SFB f):Spec Tryz.prog 71 [.bptr [] (sfD f),iv x,iv e] [] (iv (if dec (f.Elem x e)then 0 else 2)) []:=by
 refine aD (E:=TE) 0 Tryz.func71 rfl (by simp [Tryz.f71]) fun X hn hX=>?_
 have h1:=s.szl
 have hS:=s.cat.toShape
 have h8:=hS.ob8
 have h0:=hS.ob0
 have h17:=s.szw x.toNat
 repeat'(first|refine wkQ ?_|refine Tw.f ?_ ?_|(refine kcQ bC ?_;refine krQ (bI ?_) ?_)|(refine kcQ fX ?_;refine krQ (iL) ?_)|(refine fun(hc:(_:Bool)=_)=>?_;try simp only [hcS]at hc))
 all_goals try exact om_
 ·exact absurd s hc
 ·(first|refine aB ?_|refine aA ?_);simp only [go_sem,simprocAttr,Tryz.f71]
  rw [mF (fun h:f.Elem x e=>hc ⟨h.2.1,by have:=h.2.2;omega⟩)];rfl
 ·(first|refine aB ?_|refine aA ?_);simp only [go_sem,simprocAttr,Tryz.f71]
  rw [lE (show f.Elem x e from⟨⟨by omega,by omega⟩,by omega,by omega⟩)];rfl
 ·(first|refine aB ?_|refine aA ?_);simp only [go_sem,simprocAttr,Tryz.f71]
  rw [mF (fun h:f.Elem x e=>hc ⟨h.1.1,by have:=h.1.2;omega⟩)];rfl
theorem eH:aF Tryz.prog 73:=⟨_,Tryz.func73,rfl,rfl⟩
theorem fG {f:SF} {x e:Int} (s:IsSF f) (hb:SFB f) (h:f.Elem x e):Spec Tryz.prog 73 [.bptr [] (sfD f),iv x,iv e] [] (.sl 0) [(0,⟨1, .arr (aC (f.eParts x e f.shape.ob.toNat))⟩)]:=by
 refine aD (E:=TE) 0 Tryz.func73 rfl (by simp [Tryz.f73]) fun X hn hX=>?_
 have hS:=s.cat.toShape
 have h8:=hS.ob8
 have h0:=hS.ob0
 have h40:=hS.m40
 have htl:=hS.tol
 repeat'(first|refine wkQ ?_|refine Tw.f ?_ ?_|(refine fun(hc:(_:Bool)=_)=>?_;try simp only [hcS]at hc))
 all_goals try exact om_
 refine aG (G:={y:Nat//y≤f.shape.ob.toNat∧(True)}) (fun⟨y,_⟩=>[(8,iv y),(7, .sl 0)]) [0,1,2,6] (fun⟨y,_⟩=>[(0,⟨1, .arr (aC (f.eParts x e y))⟩)]) [0] (fun zz=>f.shape.ob.toNat-zz.1) ⟨0,Nat.zero_le _,by first|trivial|simp⟩ ?_ ?_
 ·exact Imp.au hX
 rintro⟨y,hiy,hwy⟩
 simp only [go_sem,simprocAttr]
 have hlen:=f.shape.hom_len x y
 repeat'(first|refine wkQ ?_|refine Tw.f ?_ ?_|(refine kcQ fI ?_;refine krQ (fO ?_ ?_) ?_)|(refine fun(hc:(_:Bool)=_)=>?_;try simp only [hcS]at hc))
 all_goals try exact om_
 ·refine aG (G:={k:Nat//k≤(f.shape.hom x y).length∧(True)}) (fun⟨k,_⟩=>[(30,iv k),(9, .sl 1)]) [0,1,2,6,7,8,28,29] (fun⟨k,_⟩=>[(1,⟨1, .arr (ints (f.eRow x e y k))⟩)]) [1] (fun zz=>(f.shape.hom x y).length-zz.1) ⟨0,Nat.zero_le _,by first|trivial|simp⟩ ?_ ?_
  ·exact Imp.au hX
  rintro⟨k,hik,hwk⟩
  simp only [go_sem,simprocAttr]
  have hm:=fun hk:k<(f.shape.hom x y).length=>SF.elem_act s h (aT (d:=0) hk)
  repeat'(first|refine wkQ ?_|refine Tw.f ?_ ?_|(refine fun(hc:(_:Bool)=_)=>?_;try simp only [hcS]at hc))
  all_goals try exact om_
  ·exact h.2.1
  ·have e1:=SF.eRow_succ (f:=f) (x:=x) (e:=e) (y:=y) (k:=k) (by omega)
   refine⟨⟨k+1,by omega,(by trivial)⟩,by simp only;omega,Imp.auto hX (by simp only [go_sem,simprocAttr,e1])⟩
  ·have e1:=SF.eParts_succ f x e y k (by omega)
   refine⟨⟨y+1,by omega,(by trivial)⟩,by simp only;omega,Imp.auto hX (by simp only [go_sem,simprocAttr,e1])⟩
 ·have e:y=f.shape.ob.toNat:=by omega
  subst e
  (first|refine aB ?_|refine aA ?_);simp only [go_sem,simprocAttr,Tryz.f73]
end Go.Eng
end
