/- Several texts in one: C07, C14, C15, C16, D01, D03, C17, C18, T01. -/
import Derived.Test.YthgijhnmcglppaaGreatG11y
set_option linter.unusedSimpArgs false
set_option linter.unusedVariables false
set_option maxRecDepth 100000
set_option maxHeartbeats 16000000
section
namespace Go.Eng
open Go Go.Proofs Go.Cats
@[go_sem] theorem aSK:(Value.slice none 0 0).oneCell'=true:=rfl
structure CYes (f e:Fun):Prop where
 src:IsFun f
 tgt:IsFun e
 one:f.tgt=e.tgt
 obs:(vP f e).length≤8
 ars:(cmA f e).length≤40
def CNo (f e:Fun) (c:Int):Prop:=
 (¬(IsFun f∧IsFun e)∧c=1)∨((IsFun f∧IsFun e)∧f.tgt≠e.tgt∧c=5)∨
 ((IsFun f∧IsFun e)∧f.tgt=e.tgt∧(8<(vP f e).length∨(vP f e).length≤8∧40<(cmA f e).length)∧c=3)
end Go.Eng
end
section
namespace Go.Eng
open Go Go.Proofs Go.Cats
section
variable {f e:Fun} {O A:List (List Int)} {ts:List (Nat×Nat)}
end
def kL (r:List Int):Lit:= .string (aZE [r]).data.toList
def pm (A:List (List Int)):Nat→DataW Unit
 |0=> .map []
 |i+1=>(pm A i).put (kL (A.getD i [])) (.lit (.int .i64 i))
structure KeyOK (A:List (List Int)):Prop where
 b:∀r∈A,∀x∈r,0≤x∧x<256
 nd:A.Nodup
def flS (n:Nat) (F:Nat→Int) (i:Nat):List Int:=tb i F++List.replicate (n-i) 0
theorem aLV (n:Nat) (F:Nat→Int):flS n F 0=List.replicate n 0:=by simp [flS,aJz]
@[go_sem] theorem aW9 (A:List (List Int)):pm A 0= .map []:=rfl
attribute [local go_sem] sQ aLV
end Go.Eng
end
section
namespace Go.Eng
open Go Go.Proofs Go.Cats
attribute [local go_sem] iR iS
end Go.Eng
end
section
namespace Go.Eng
open Go Go.Proofs Go.Cats
structure MkOk (k:Int) (n:Nat):Prop where
 lo:0≤k
 hi:k+n≤9223372036854775807
/-! ### The marks are held -/
end Go.Eng
end
section
namespace Go.Eng
open Go Go.Proofs Go.Cats Go.ChangeShapes
structure CatT (c:Cat):Prop where
 len:CatL c
 ob:In64 c.ob
 fr:∀n∈c.fr,In64 n
 to:∀n∈c.to,In64 n
 id:∀n∈c.id,In64 n
 co:∀r∈c.co,∀n∈r,In64 n
section
variable {H:Type} {enc:TypeId×Value→H} {w:World} {held:Bool} {cn:Nat→Cn} {rs:Nat→Rs}
structure SFT (f:SF):Prop where
 shape:CatT f.shape
 bsz:(f.sizes.length:Int)≤9223372036854775807
 bac:(f.acts.length:Int)≤9223372036854775807
 row:∀a,a<f.acts.length→((f.acts.getD a []).length:Int)≤9223372036854775807
 sizes:∀n∈f.sizes,In64 n
 acts:∀r∈f.acts,∀n∈r,In64 n
end
end Go.Eng
end
section
namespace Go.Eng
open Go Go.Proofs Go.Cats Go.ChangeShapes
structure FunT (f:Fun):Prop where
 src:CatT f.src
 tgt:CatT f.tgt
 bob:(f.obs.length:Int)≤9223372036854775807
 bar:(f.ars.length:Int)≤9223372036854775807
 obs:∀n∈f.obs,In64 n
 ars:∀n∈f.ars,In64 n
theorem CatT.b1 {c:Cat} (h:CatT c) (k:aIB c≤1048576):CatB c:=by
 unfold aIB at k
 have h0:=h.ob
 unfold In64 at h0
 exact⟨h0.1,h0.2,by omega,by omega,by omega,by omega,fun f hf=>by have:=aIj c.co f hf;omega⟩
theorem FunT.b {f:Fun} (h:FunT f) (k:aP5 f≤1048576):FunB f:=by
 unfold aP5 at k
 exact⟨h.src.b1 (by omega),h.tgt.b1 (by omega),by omega,by omega⟩
theorem FunT.l {f:Fun} (h:FunT f):FunL f:=⟨h.src.len,h.tgt.len,h.bob,h.bar⟩
section
variable {H:Type} {enc:TypeId×Value→H} {w:World} {held:Bool} {cn:Nat→Cn} {rs:Nat→Rs}
end
end Go.Eng
end
section
namespace Go.Eng
open Go Go.Proofs Go.Cats
def COut (f e:Fun) (c:Cat) (code:Int):Prop:=(CYes f e∧c=cmC f e (cmA f e).length∧code=0)∨(CNo f e code∧c=⟨0,[],[],[],[]⟩)
theorem aTp (f e:Fun):∃c code,COut f e c code:=by
 by_cases h1:IsFun f∧IsFun e
 ·by_cases h2:f.tgt=e.tgt
  ·by_cases h3:(vP f e).length≤8
   ·by_cases h4:(cmA f e).length≤40
    ·exact⟨_,_, .inl ⟨⟨h1.1,h1.2,h2,h3,h4⟩,rfl,rfl⟩⟩
    ·exact⟨_,3, .inr ⟨.inr (.inr ⟨h1,h2, .inr ⟨h3,by omega⟩,rfl⟩),rfl⟩⟩
   ·exact⟨_,3, .inr ⟨.inr (.inr ⟨h1,h2, .inl (by omega),rfl⟩),rfl⟩⟩
  ·exact⟨_,5, .inr ⟨.inr (.inl ⟨h1,h2,rfl⟩),rfl⟩⟩
 ·exact⟨_,1, .inr ⟨.inl ⟨h1,rfl⟩,rfl⟩⟩
theorem COut.b {f e:Fun} {c:Cat} {code:Int} (h:COut f e c code):CatB c:=by
 rcases h with⟨hy,rfl,rfl⟩|⟨hn,rfl⟩
 ·have h1:=hy.obs
  have h2:=hy.ars
  refine⟨?_,?_,?_,?_,?_,?_,fun i hi=>?_⟩
  ·simp only [cmC,aEs];omega
  ·simp only [cmC,aEs];omega
  ·simp only [cmC,aEs,jO];omega
  ·simp only [cmC,aEs,jO];omega
  ·simp only [cmC,aEs,aCW];omega
  ·simp only [cmC,aEs,aCW];omega
  ·simp only [cmC,aEs,aCW]at hi
   simp only [cmC,aEs]
   rw [Go.Cats.tb_at _ _ _ hi,aCW]
   omega
 ·exact⟨by simp,by simp,by simp,by simp,by simp,by simp,fun i hi=>by simp at hi⟩
end Go.Eng
end
section
namespace Go.Eng
open Go Go.Proofs Go.Cats
attribute [local go_sem] iR iS
theorem qV:aD Tryz.prog 84:=⟨_,Tryz.func84,rfl,rfl⟩
theorem pU {c d:Cat} {p q:List Int} (hc:CatB c) (hd:CatB d) (hp:p.length≤1048576) (hq:q.length≤1048576):Spec Tryz.prog 84 [.bptr [] (aW c), .bptr [] (aW d), .bor [] (ints p), .bor [] (ints q)] [] (.agg [iv c.ob, .sl 0, .sl 1, .sl 2, .sl 3,iv d.ob, .sl 4, .sl 5, .sl 6, .sl 7, .sl 8, .sl 9]) [(0,⟨1, .arr (ints c.fr)⟩),(1,⟨1, .arr (ints c.to)⟩),(2,⟨1, .arr (ints c.id)⟩),(3,⟨1, .arr (aF c.co)⟩),(4,⟨1, .arr (ints d.fr)⟩),(5,⟨1, .arr (ints d.to)⟩),(6,⟨1, .arr (ints d.id)⟩),(7,⟨1, .arr (aF d.co)⟩),(8,⟨1, .arr (ints p)⟩),(9,⟨1, .arr (ints q)⟩)]:=by
 refine aC (E:=TE) 0 Tryz.func84 rfl (by simp [Tryz.f84]) fun X hn hX=>?_
 repeat'(first|refine wkQ ?_|refine Tw.f ?_ ?_|(refine kcQ gG ?_;refine krQ (iA ?_) ?_)|(refine kcQ oI ?_;refine krQ (rV ?_) ?_)|(refine fun(hc:(_:Bool)=_)=>?_;try simp only [hcS]at hc))
 all_goals try exact om_
 (first|refine aB ?_|refine aA ?_);simp only [go_sem,simprocAttr,Tryz.f84]
theorem aFH:aD Tryz.prog 90:=⟨_,Tryz.func90,rfl,rfl⟩
theorem aH9 {c d:Cat} {p q:List Int} (hc:CatB c) (hd:CatB d) (hp:p.length≤1048576) (hq:q.length≤1048576):Spec Tryz.prog 90 [cK c,cK d, .bor [] (ints p), .bor [] (ints q)] [] (.agg [iv c.ob, .sl 0, .sl 1, .sl 2, .sl 3,iv d.ob, .sl 4, .sl 5, .sl 6, .sl 7, .sl 8, .sl 9]) [(0,⟨1, .arr (ints c.fr)⟩),(1,⟨1, .arr (ints c.to)⟩),(2,⟨1, .arr (ints c.id)⟩),(3,⟨1, .arr (aF c.co)⟩),(4,⟨1, .arr (ints d.fr)⟩),(5,⟨1, .arr (ints d.to)⟩),(6,⟨1, .arr (ints d.id)⟩),(7,⟨1, .arr (aF d.co)⟩),(8,⟨1, .arr (ints p)⟩),(9,⟨1, .arr (ints q)⟩)]:=by
 refine aC (E:=TE) 0 Tryz.func90 rfl (by simp [Tryz.f90]) fun X hn hX=>?_
 repeat'(first|refine wkQ ?_|refine Tw.f ?_ ?_|(refine kcQ mG ?_;refine krQ (oW ?_) ?_)|(refine kcQ dK ?_;refine krQ (eQ ?_) ?_)|(refine fun(hc:(_:Bool)=_)=>?_;try simp only [hcS]at hc))
 all_goals try exact om_
 (first|refine aB ?_|refine aA ?_);simp only [go_sem,simprocAttr,Tryz.f90]
theorem aTx {f e:Fun} (hy:CYes f e):CatB (cmC f e (cmA f e).length):=COut.b (.inl ⟨hy,rfl,rfl⟩)
noncomputable def cmF (f e:Fun):Fun:=⟨cmC f e (cmA f e).length,f.src,aBG (vP f e) 0 (vP f e).length,aBG (cmA f e) 2 (cmA f e).length⟩
noncomputable def cmG (f e:Fun):Fun:=⟨cmC f e (cmA f e).length,e.src,aBG (vP f e) 1 (vP f e).length,aBG (cmA f e) 3 (cmA f e).length⟩
theorem aTv {f e:Fun} (hf:FunB f) (hy:CYes f e):FunB (cmF f e):=⟨aTx hy,hf.src,by have:=hy.obs;simp only [cmF,jO];omega,by have:=hy.ars;simp only [cmF,jO];omega⟩
theorem aTw {f e:Fun} (he:FunB e) (hy:CYes f e):FunB (cmG f e):=⟨aTx hy,he.src,by have:=hy.obs;simp only [cmG,jO];omega,by have:=hy.ars;simp only [cmG,jO];omega⟩
def aHL:Fun:=⟨⟨0,[],[],[],[]⟩,⟨0,[],[],[],[]⟩,[],[]⟩
theorem aEJ:FunB aHL:=by
 have h:CatB (⟨0,[],[],[],[]⟩:Cat):=⟨by simp,by simp,by simp,by simp,by simp,by simp,fun i hi=>by simp at hi⟩
 exact⟨h,h,by simp [aHL],by simp [aHL]⟩
def CommaLeftOut (f e g:Fun) (code:Int):Prop:=(CYes f e∧g=cmF f e∧code=0)∨(CNo f e code∧g=aHL)
theorem CommaLeftOut.ex (f e:Fun):∃g code,CommaLeftOut f e g code:=by
 obtain⟨c,code,⟨h,_,rfl⟩|⟨h,_⟩⟩:=aTp f e
 ·exact⟨_,_, .inl ⟨h,rfl,rfl⟩⟩
 ·exact⟨_,_, .inr ⟨h,rfl⟩⟩
theorem CommaLeftOut.b {f e g:Fun} {code:Int} (hf:FunB f) (he:FunB e) (h:CommaLeftOut f e g code):FunB g:=by
 rcases h with⟨hy,rfl,rfl⟩|⟨hn,rfl⟩
 ·exact aTv hf hy
 ·exact aEJ
def CommaRightOut (f e g:Fun) (code:Int):Prop:=(CYes f e∧g=cmG f e∧code=0)∨(CNo f e code∧g=aHL)
theorem CommaRightOut.ex (f e:Fun):∃g code,CommaRightOut f e g code:=by
 obtain⟨c,code,⟨h,_,rfl⟩|⟨h,_⟩⟩:=aTp f e
 ·exact⟨_,_, .inl ⟨h,rfl,rfl⟩⟩
 ·exact⟨_,_, .inr ⟨h,rfl⟩⟩
theorem CommaRightOut.b {f e g:Fun} {code:Int} (hf:FunB f) (he:FunB e) (h:CommaRightOut f e g code):FunB g:=by
 rcases h with⟨hy,rfl,rfl⟩|⟨hn,rfl⟩
 ·exact aTw he hy
 ·exact aEJ
end Go.Eng
end
section
namespace Go.Eng
open Go Go.Proofs Go.Cats
def _root_.Go.Cats.thn (f g:List Int):List Int:=f.map fun y=>g.getD y.toNat 0
def _root_.Go.Cats.thF (f g:Fun):Fun:=⟨f.src,g.tgt,thn f.obs g.obs,thn f.ars g.ars⟩
theorem _root_.Go.Cats.thn_len (f g:List Int):(thn f g).length=f.length:=by unfold thn;rw [List.length_map]
theorem _root_.Go.Cats.thn_at {f g:List Int} {i:Nat} (hi:i<f.length):(thn f g).getD i 0=g.getD (f.getD i 0).toNat 0:=by
 unfold thn
 rw [List.getD_eq_getElem?_getD,List.getElem?_map,List.getElem?_eq_getElem hi,List.getD_eq_getElem?_getD (l:=f),List.getElem?_eq_getElem hi];rfl
theorem _root_.Go.Cats.thn_in {f g:List Int} {n:Int} (h:Within f g.length) (k:Within g n):Within (thn f g) n:=fun i hi=>by
 rw [thn_len]at hi
 rw [thn_at hi]
 have:=h i hi
 exact k _ (by omega)
theorem aPI (g:List Int):thn [] g=[]:=rfl
attribute [local go_sem] List.set_cons_zero List.set_cons_succ aPI
theorem aBB:aD Tryz.prog 178:=⟨_,Tryz.func178,rfl,rfl⟩
theorem aE8 {f g:List Int} (hf:f.length≤1048576) (hg:g.length≤1048576) (hw:Within f g.length):Spec Tryz.prog 178 [.bor [] (ints f), .bor [] (ints g)] [] (.sl 0) [(0,⟨1, .arr (ints (thn f g))⟩)]:=by
 refine aC (E:=TE) 0 Tryz.func178 rfl (by simp [Tryz.f178]) fun X hn hX=>?_
 obtain⟨p,hp⟩:∃p,thn f g=p:=⟨_,rfl⟩
 have hpl:p.length=f.length:=by rw [←hp,thn_len]
 have hpa:∀i,i<f.length→p.getD i 0=g.getD (f.getD i 0).toNat 0:=fun i hi=>by rw [←hp,thn_at hi]
 rw [hp]
 repeat'(first|refine wkQ ?_|refine Tw.f ?_ ?_|(refine fun(hc:(_:Bool)=_)=>?_;try simp only [hcS]at hc))
 all_goals try exact om_
 refine aG (G:={i:Nat//i≤f.length∧(True)}) (fun⟨i,_⟩=>[(13,iv i),(5, .sl 0)]) [1,4,11,12] (fun⟨i,_⟩=>[(0,⟨1, .arr (ints (p.take i++List.replicate (f.length-i) 0))⟩)]) [0] (fun zz=>f.length-zz.1) ⟨0,Nat.zero_le _,by first|trivial|simp⟩ ?_ ?_
 ·exact Imp.au hX
 rintro⟨i,hii,hwi⟩
 simp only [go_sem,simprocAttr]
 have h1:=hw i
 have h2:=hpa i
 have h3:=aJY p i
 rw [hpl]at h3
 repeat'(first|refine wkQ ?_|refine Tw.f ?_ ?_|(refine fun(hc:(_:Bool)=_)=>?_;try simp only [hcS]at hc))
 all_goals try exact om_
 ·refine⟨⟨i+1,by omega,(by trivial)⟩,by simp only;omega,Imp.auto hX (by simp only [go_sem,simprocAttr,←h2 (by omega),h3 (show i<f.length by omega)])⟩
 ·(first|refine aB ?_|refine aA ?_);simp only [go_sem,simprocAttr,Tryz.f178]
  rw [show i=f.length by omega];simp [←hpl]
structure ThF (f g:Fun):Prop where
 src:CatB f.src
 tgt:CatB g.tgt
 lo:f.obs.length≤1048576
 la:f.ars.length≤1048576
 go:g.obs.length≤1048576
 ga:g.ars.length≤1048576
 wo:Within f.obs g.obs.length
 wa:Within f.ars g.ars.length
theorem yF:aD Tryz.prog 94:=⟨_,Tryz.func94,rfl,rfl⟩
theorem aAI {f g:Fun} (h:ThF f g):Spec Tryz.prog 94 [.bptr [] (lO f), .bptr [] (lO g)] [] (.agg [iv (thF f g).src.ob, .sl 0, .sl 1, .sl 2, .sl 3,iv (thF f g).tgt.ob, .sl 4, .sl 5, .sl 6, .sl 7, .sl 8, .sl 9]) [(0,⟨1, .arr (ints (thF f g).src.fr)⟩),(1,⟨1, .arr (ints (thF f g).src.to)⟩),(2,⟨1, .arr (ints (thF f g).src.id)⟩),(3,⟨1, .arr (aF (thF f g).src.co)⟩),(4,⟨1, .arr (ints (thF f g).tgt.fr)⟩),(5,⟨1, .arr (ints (thF f g).tgt.to)⟩),(6,⟨1, .arr (ints (thF f g).tgt.id)⟩),(7,⟨1, .arr (aF (thF f g).tgt.co)⟩),(8,⟨1, .arr (ints (thF f g).obs)⟩),(9,⟨1, .arr (ints (thF f g).ars)⟩)]:=by
 refine aC (E:=TE) 0 Tryz.func94 rfl (by simp [Tryz.f94]) fun X hn hX=>?_
 obtain⟨b1,b2,b3,b4,b5,b6,b7,b8⟩:=h
 have l1:=thn_len f.obs g.obs
 have l2:=thn_len f.ars g.ars
 repeat'(first|refine wkQ ?_|refine Tw.f ?_ ?_|(refine kcQ aBB ?_;refine krQ (aE8 (f:=f.obs) (g:=g.obs) ?_ ?_ ?_) ?_)|(refine kcQ aBB ?_;refine krQ (aE8 (f:=f.ars) (g:=g.ars) ?_ ?_ ?_) ?_)|(refine kcQ qV ?_;refine krQ (pU (c:=f.src) (d:=g.tgt) (p:=thn f.obs g.obs) (q:=thn f.ars g.ars) ?_ ?_ ?_ ?_) ?_)|(refine fun(hc:(_:Bool)=_)=>?_;try simp only [hcS]at hc))
 all_goals try exact om_
 all_goals((first|refine aB ?_|refine aA ?_);simp only [go_sem,simprocAttr,Tryz.f94])
 all_goals exact⟨⟨rfl,rfl,rfl,rfl,rfl,rfl,rfl,rfl,rfl,rfl⟩,rfl⟩
end Go.Eng
end
