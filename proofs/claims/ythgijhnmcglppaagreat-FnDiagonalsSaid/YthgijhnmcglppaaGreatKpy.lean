/- Several texts in one: C16, D01, D03, C17, C18, T01. -/
import Derived.Test.YthgijhnmcglppaaGreatC07y
set_option linter.unusedSimpArgs false
set_option linter.unusedVariables false
set_option maxRecDepth 100000
set_option maxHeartbeats 16000000
section
namespace Go.Eng
open Go Go.Proofs Go.Cats
structure MkOk (k:Int) (n:Nat):Prop where
 lo:0≤k
 hi:k+n≤9223372036854775807
/-! ### The marks are held -/
end Go.Eng
end
section
namespace Go.Eng
open Go Go.Proofs Go.Cats Go.ChangeShapes
structure CatT (c:Cat):Prop where
 len:CatL c
 ob:In64 c.ob
 fr:∀n∈c.fr,In64 n
 to:∀n∈c.to,In64 n
 id:∀n∈c.id,In64 n
 co:∀r∈c.co,∀n∈r,In64 n
section
variable {H:Type} {enc:TypeId×Value→H} {w:World} {held:Bool} {cn:Nat→Cn} {rs:Nat→Rs}
structure SFT (f:SF):Prop where
 shape:CatT f.shape
 bsz:(f.sizes.length:Int)≤9223372036854775807
 bac:(f.acts.length:Int)≤9223372036854775807
 row:∀a,a<f.acts.length→((f.acts.getD a []).length:Int)≤9223372036854775807
 sizes:∀n∈f.sizes,In64 n
 acts:∀r∈f.acts,∀n∈r,In64 n
end
end Go.Eng
end
section
namespace Go.Eng
open Go Go.Proofs Go.Cats Go.ChangeShapes
structure FunT (f:Fun):Prop where
 src:CatT f.src
 tgt:CatT f.tgt
 bob:(f.obs.length:Int)≤9223372036854775807
 bar:(f.ars.length:Int)≤9223372036854775807
 obs:∀n∈f.obs,In64 n
 ars:∀n∈f.ars,In64 n
theorem CatT.b1 {c:Cat} (h:CatT c) (k:aH3 c≤1048576):CatB c:=by
 unfold aH3 at k
 have h0:=h.ob
 unfold In64 at h0
 exact⟨h0.1,h0.2,by omega,by omega,by omega,by omega,fun f hf=>by have:=aHJ c.co f hf;omega⟩
theorem FunT.b {f:Fun} (h:FunT f) (k:aP1 f≤1048576):FunB f:=by
 unfold aP1 at k
 exact⟨h.src.b1 (by omega),h.tgt.b1 (by omega),by omega,by omega⟩
theorem FunT.l {f:Fun} (h:FunT f):FunL f:=⟨h.src.len,h.tgt.len,h.bob,h.bar⟩
section
variable {H:Type} {enc:TypeId×Value→H} {w:World} {held:Bool} {cn:Nat→Cn} {rs:Nat→Rs}
end
end Go.Eng
end
section
namespace Go.Eng
open Go Go.Proofs Go.Cats
def COut (f e:Fun) (c:Cat) (code:Int):Prop:=(CYes f e∧c=cmC f e (cmA f e).length∧code=0)∨(CNo f e code∧c=⟨0,[],[],[],[]⟩)
theorem aTf (f e:Fun):∃c code,COut f e c code:=by
 by_cases h1:IsFun f∧IsFun e
 ·by_cases h2:f.tgt=e.tgt
  ·by_cases h3:(vF f e).length≤8
   ·by_cases h4:(cmA f e).length≤40
    ·exact⟨_,_, .inl ⟨⟨h1.1,h1.2,h2,h3,h4⟩,rfl,rfl⟩⟩
    ·exact⟨_,3, .inr ⟨.inr (.inr ⟨h1,h2, .inr ⟨h3,by omega⟩,rfl⟩),rfl⟩⟩
   ·exact⟨_,3, .inr ⟨.inr (.inr ⟨h1,h2, .inl (by omega),rfl⟩),rfl⟩⟩
  ·exact⟨_,5, .inr ⟨.inr (.inl ⟨h1,h2,rfl⟩),rfl⟩⟩
 ·exact⟨_,1, .inr ⟨.inl ⟨h1,rfl⟩,rfl⟩⟩
theorem COut.b {f e:Fun} {c:Cat} {code:Int} (h:COut f e c code):CatB c:=by
 rcases h with⟨hy,rfl,rfl⟩|⟨hn,rfl⟩
 ·have h1:=hy.obs
  have h2:=hy.ars
  refine⟨?_,?_,?_,?_,?_,?_,fun i hi=>?_⟩
  ·simp only [cmC,aDR];omega
  ·simp only [cmC,aDR];omega
  ·simp only [cmC,aDR,iR];omega
  ·simp only [cmC,aDR,iR];omega
  ·simp only [cmC,aDR,aCe];omega
  ·simp only [cmC,aDR,aCe];omega
  ·simp only [cmC,aDR,aCe]at hi
   simp only [cmC,aDR]
   rw [Go.Cats.tb_at _ _ _ hi,aCe]
   omega
 ·exact⟨by simp,by simp,by simp,by simp,by simp,by simp,fun i hi=>by simp at hi⟩
end Go.Eng
end
section
namespace Go.Eng
open Go Go.Proofs Go.Cats
attribute [local go_sem] gY gZ
theorem jP:aE Tryz.prog 84:=⟨_,Tryz.func84,rfl,rfl⟩
theorem lO {c d:Cat} {p q:List Int} (hc:CatB c) (hd:CatB d) (hp:p.length≤1048576) (hq:q.length≤1048576):Spec Tryz.prog 84 [.bptr [] (aU c), .bptr [] (aU d), .bor [] (ints p), .bor [] (ints q)] [] (.agg [iv c.ob, .sl 0, .sl 1, .sl 2, .sl 3,iv d.ob, .sl 4, .sl 5, .sl 6, .sl 7, .sl 8, .sl 9]) [(0,⟨1, .arr (ints c.fr)⟩),(1,⟨1, .arr (ints c.to)⟩),(2,⟨1, .arr (ints c.id)⟩),(3,⟨1, .arr (aF c.co)⟩),(4,⟨1, .arr (ints d.fr)⟩),(5,⟨1, .arr (ints d.to)⟩),(6,⟨1, .arr (ints d.id)⟩),(7,⟨1, .arr (aF d.co)⟩),(8,⟨1, .arr (ints p)⟩),(9,⟨1, .arr (ints q)⟩)]:=by
 refine aD (E:=TE) 0 Tryz.func84 rfl (by simp [Tryz.f84]) fun X hn hX=>?_
 repeat'(first|refine wkQ ?_|refine Tw.f ?_ ?_|(refine kcQ vG ?_;refine krQ (yK ?_) ?_)|(refine kcQ nE ?_;refine krQ (rO ?_) ?_)|(refine fun(hc:(_:Bool)=_)=>?_;try simp only [hcS]at hc))
 all_goals try exact om_
 (first|refine aB ?_|refine aA ?_);simp only [go_sem,simprocAttr,Tryz.f84]
theorem mD:aE Tryz.prog 90:=⟨_,Tryz.func90,rfl,rfl⟩
theorem pL {c d:Cat} {p q:List Int} (hc:CatB c) (hd:CatB d) (hp:p.length≤1048576) (hq:q.length≤1048576):Spec Tryz.prog 90 [bK c,bK d, .bor [] (ints p), .bor [] (ints q)] [] (.agg [iv c.ob, .sl 0, .sl 1, .sl 2, .sl 3,iv d.ob, .sl 4, .sl 5, .sl 6, .sl 7, .sl 8, .sl 9]) [(0,⟨1, .arr (ints c.fr)⟩),(1,⟨1, .arr (ints c.to)⟩),(2,⟨1, .arr (ints c.id)⟩),(3,⟨1, .arr (aF c.co)⟩),(4,⟨1, .arr (ints d.fr)⟩),(5,⟨1, .arr (ints d.to)⟩),(6,⟨1, .arr (ints d.id)⟩),(7,⟨1, .arr (aF d.co)⟩),(8,⟨1, .arr (ints p)⟩),(9,⟨1, .arr (ints q)⟩)]:=by
 refine aD (E:=TE) 0 Tryz.func90 rfl (by simp [Tryz.f90]) fun X hn hX=>?_
 repeat'(first|refine wkQ ?_|refine Tw.f ?_ ?_|(refine kcQ tU ?_;refine krQ (yO ?_) ?_)|(refine kcQ bZ ?_;refine krQ (cP ?_) ?_)|(refine fun(hc:(_:Bool)=_)=>?_;try simp only [hcS]at hc))
 all_goals try exact om_
 (first|refine aB ?_|refine aA ?_);simp only [go_sem,simprocAttr,Tryz.f90]
theorem aTp {f e:Fun} (hy:CYes f e):CatB (cmC f e (cmA f e).length):=COut.b (.inl ⟨hy,rfl,rfl⟩)
noncomputable def cmF (f e:Fun):Fun:=⟨cmC f e (cmA f e).length,f.src,aAY (vF f e) 0 (vF f e).length,aAY (cmA f e) 2 (cmA f e).length⟩
noncomputable def cmG (f e:Fun):Fun:=⟨cmC f e (cmA f e).length,e.src,aAY (vF f e) 1 (vF f e).length,aAY (cmA f e) 3 (cmA f e).length⟩
theorem aTn {f e:Fun} (hf:FunB f) (hy:CYes f e):FunB (cmF f e):=⟨aTp hy,hf.src,by have:=hy.obs;simp only [cmF,iR];omega,by have:=hy.ars;simp only [cmF,iR];omega⟩
theorem aTo {f e:Fun} (he:FunB e) (hy:CYes f e):FunB (cmG f e):=⟨aTp hy,he.src,by have:=hy.obs;simp only [cmG,iR];omega,by have:=hy.ars;simp only [cmG,iR];omega⟩
def nilF:Fun:=⟨⟨0,[],[],[],[]⟩,⟨0,[],[],[],[]⟩,[],[]⟩
theorem oU:FunB nilF:=by
 have h:CatB (⟨0,[],[],[],[]⟩:Cat):=⟨by simp,by simp,by simp,by simp,by simp,by simp,fun i hi=>by simp at hi⟩
 exact⟨h,h,by simp [nilF],by simp [nilF]⟩
theorem mO {P:Program} {F:FuncId} {args:List Sv} {y:Value} (h:Spec P F args [] (.tup [.agg [iv 0, .v (.slice none 0 0), .v (.slice none 0 0), .v (.slice none 0 0), .v (.slice none 0 0),iv 0, .v (.slice none 0 0), .v (.slice none 0 0), .v (.slice none 0 0), .v (.slice none 0 0), .v (.slice none 0 0), .v (.slice none 0 0)], .v y]) []):Spec P F args [] (.tup [.agg [iv nilF.src.ob, .sl 0, .sl 1, .sl 2, .sl 3,iv nilF.tgt.ob, .sl 4, .sl 5, .sl 6, .sl 7, .sl 8, .sl 9], .v y]) [(0,⟨1, .arr (ints nilF.src.fr)⟩),(1,⟨1, .arr (ints nilF.src.to)⟩),(2,⟨1, .arr (ints nilF.src.id)⟩),(3,⟨1, .arr (aF nilF.src.co)⟩),(4,⟨1, .arr (ints nilF.tgt.fr)⟩),(5,⟨1, .arr (ints nilF.tgt.to)⟩),(6,⟨1, .arr (ints nilF.tgt.id)⟩),(7,⟨1, .arr (aF nilF.tgt.co)⟩),(8,⟨1, .arr (ints nilF.obs)⟩),(9,⟨1, .arr (ints nilF.ars)⟩)]:=by
 refine Spec.adopt h (dI (dI (dI (tK (dI (dI (dI (tK (dI (dI aGT)))))))))) fun w S v cn h=>?_
 simp only [Sv.ok,Sv.okL]at h⊢
 obtain⟨vs,rfl,x,r,rfl,⟨us,rfl,hu⟩,hr⟩:=h
 refine⟨_,rfl,_,_,rfl,⟨us,rfl,?_⟩,hr⟩
 obtain⟨x0,r0,rfl,e0,x1,r1,rfl,e1,x2,r2,rfl,e2,x3,r3,rfl,e3,x4,r4,rfl,e4,x5,r5,rfl,e5,x6,r6,rfl,e6,x7,r7,rfl,e7,x8,r8,rfl,e8,x9,r9,rfl,e9,x10,r10,rfl,e10,x11,r11,rfl,e11,e12⟩:=hu
 exact⟨_,_,rfl,e0,_,_,rfl,⟨Nat.le_refl 1,e1⟩,_,_,rfl,⟨Nat.le_refl 1,e2⟩,_,_,rfl,⟨Nat.le_refl 1,e3⟩,_,_,rfl,⟨Nat.le_refl 1,e4⟩,_,_,rfl,e5,_,_,rfl,⟨Nat.le_refl 1,e6⟩,_,_,rfl,⟨Nat.le_refl 1,e7⟩,_,_,rfl,⟨Nat.le_refl 1,e8⟩,_,_,rfl,⟨Nat.le_refl 1,e9⟩,_,_,rfl,⟨Nat.le_refl 1,e10⟩,_,_,rfl,⟨Nat.le_refl 1,e11⟩,e12⟩
def CommaLeftOut (f e g:Fun) (code:Int):Prop:=(CYes f e∧g=cmF f e∧code=0)∨(CNo f e code∧g=nilF)
theorem CommaLeftOut.ex (f e:Fun):∃g code,CommaLeftOut f e g code:=by
 obtain⟨c,code,⟨h,_,rfl⟩|⟨h,_⟩⟩:=aTf f e
 ·exact⟨_,_, .inl ⟨h,rfl,rfl⟩⟩
 ·exact⟨_,_, .inr ⟨h,rfl⟩⟩
theorem CommaLeftOut.b {f e g:Fun} {code:Int} (hf:FunB f) (he:FunB e) (h:CommaLeftOut f e g code):FunB g:=by
 rcases h with⟨hy,rfl,rfl⟩|⟨hn,rfl⟩
 ·exact aTn hf hy
 ·exact oU
def CommaRightOut (f e g:Fun) (code:Int):Prop:=(CYes f e∧g=cmG f e∧code=0)∨(CNo f e code∧g=nilF)
theorem CommaRightOut.ex (f e:Fun):∃g code,CommaRightOut f e g code:=by
 obtain⟨c,code,⟨h,_,rfl⟩|⟨h,_⟩⟩:=aTf f e
 ·exact⟨_,_, .inl ⟨h,rfl,rfl⟩⟩
 ·exact⟨_,_, .inr ⟨h,rfl⟩⟩
theorem CommaRightOut.b {f e g:Fun} {code:Int} (hf:FunB f) (he:FunB e) (h:CommaRightOut f e g code):FunB g:=by
 rcases h with⟨hy,rfl,rfl⟩|⟨hn,rfl⟩
 ·exact aTo he hy
 ·exact oU
end Go.Eng
end
section
namespace Go.Eng
open Go Go.Proofs Go.Cats
def _root_.Go.Cats.thn (f g:List Int):List Int:=f.map fun y=>g.getD y.toNat 0
def _root_.Go.Cats.thF (f g:Fun):Fun:=⟨f.src,g.tgt,thn f.obs g.obs,thn f.ars g.ars⟩
theorem _root_.Go.Cats.thn_len (f g:List Int):(thn f g).length=f.length:=by unfold thn;rw [List.length_map]
theorem _root_.Go.Cats.thn_at {f g:List Int} {i:Nat} (hi:i<f.length):(thn f g).getD i 0=g.getD (f.getD i 0).toNat 0:=by
 unfold thn
 rw [List.getD_eq_getElem?_getD,List.getElem?_map,List.getElem?_eq_getElem hi,List.getD_eq_getElem?_getD (l:=f),List.getElem?_eq_getElem hi];rfl
theorem aNI {f g:List Int} {i:Nat} (hi:i<f.length):(thn (f.take (i+1)) g)=thn (f.take i) g++[g.getD (f.getD i 0).toNat 0]:=by
 unfold thn
 rw [List.take_succ_eq_append_getElem hi,List.map_append,List.getD_eq_getElem?_getD (l:=f),List.getElem?_eq_getElem hi];rfl
theorem aPD (g:List Int):thn [] g=[]:=rfl
attribute [local go_sem] List.set_cons_zero List.set_cons_succ aPD
theorem aAW:aE Tryz.prog 178:=⟨_,Tryz.func178,rfl,rfl⟩
theorem aED {f g:List Int} (hf:f.length≤1048576) (hg:g.length≤1048576) (hw:Within f g.length):Spec Tryz.prog 178 [.bor [] (ints f), .bor [] (ints g)] [] (.sl 0) [(0,⟨1, .arr (ints (thn f g))⟩)]:=by
 refine aD (E:=TE) 0 Tryz.func178 rfl (by simp [Tryz.f178]) fun X hn hX=>?_
 obtain⟨p,hp⟩:∃p,thn f g=p:=⟨_,rfl⟩
 have hpl:p.length=f.length:=by rw [←hp,thn_len]
 have hpa:∀i,i<f.length→p.getD i 0=g.getD (f.getD i 0).toNat 0:=fun i hi=>by rw [←hp,thn_at hi]
 rw [hp]
 repeat'(first|refine wkQ ?_|refine Tw.f ?_ ?_|(refine fun(hc:(_:Bool)=_)=>?_;try simp only [hcS]at hc))
 all_goals try exact om_
 refine aG (G:={i:Nat//i≤f.length∧(True)}) (fun⟨i,_⟩=>[(13,iv i),(5, .sl 0)]) [1,4,11,12] (fun⟨i,_⟩=>[(0,⟨1, .arr (ints (p.take i++List.replicate (f.length-i) 0))⟩)]) [0] (fun zz=>f.length-zz.1) ⟨0,Nat.zero_le _,by first|trivial|simp⟩ ?_ ?_
 ·exact Imp.au hX
 rintro⟨i,hii,hwi⟩
 simp only [go_sem,simprocAttr]
 have h1:=hw i
 have h2:=hpa i
 have h3:=aDb p i
 rw [hpl]at h3
 repeat'(first|refine wkQ ?_|refine Tw.f ?_ ?_|(refine fun(hc:(_:Bool)=_)=>?_;try simp only [hcS]at hc))
 all_goals try exact om_
 ·refine⟨⟨i+1,by omega,(by trivial)⟩,by simp only;omega,Imp.auto hX (by simp only [go_sem,simprocAttr,←h2 (by omega),h3 (show i<f.length by omega)])⟩
 ·(first|refine aB ?_|refine aA ?_);simp only [go_sem,simprocAttr,Tryz.f178]
  rw [show i=f.length by omega];simp [←hpl]
theorem aE0:aE Tryz.prog 275:=⟨_,Tryz.func275,rfl,rfl⟩
theorem aHz {f g:List Int} (hf:f.length≤1048576) (hg:g.length≤1048576) (hw:Within f g.length):Spec Tryz.prog 275 [.bor [] (ints f), .bor [] (ints g)] [] (.sl 0) [(0,⟨1, .arr (ints (thn f g))⟩)]:=by
 refine aD (E:=TE) 0 Tryz.func275 rfl (by simp [Tryz.f275]) fun X hn hX=>?_
 repeat'(first|refine wkQ ?_|refine Tw.f ?_ ?_|(refine fun(hc:(_:Bool)=_)=>?_;try simp only [hcS]at hc))
 all_goals try exact om_
 refine aG (G:={i:Nat//i≤f.length∧(True)}) (fun⟨i,_⟩=>[(6,iv i),(5, .sl 0)]) [0,1,4] (fun⟨i,_⟩=>[(0,⟨1, .arr (ints (thn (f.take i) g))⟩)]) [0] (fun zz=>f.length-zz.1) ⟨0,Nat.zero_le _,by first|trivial|simp⟩ ?_ ?_
 ·exact Imp.au hX
 rintro⟨i,hii,hwi⟩
 simp only [go_sem,simprocAttr]
 have h1:=hw i
 have hl:(thn (f.take i) g).length≤i:=by rw [thn_len,List.length_take];omega
 rcases Nat.lt_or_ge i f.length with hlt|hge
 ·have h2:=h1 hlt
  have e1:=aNI (g:=g) hlt
  repeat'(first|refine wkQ ?_|refine Tw.f ?_ ?_|(refine fun(hc:(_:Bool)=_)=>?_;try simp only [hcS]at hc))
  all_goals try exact om_
  ·refine⟨⟨i+1,by omega,(by trivial)⟩,by simp only;omega,Imp.auto hX (by simp only [go_sem,simprocAttr,e1])⟩
 ·have e1:thn (f.take i) g=thn f g:=by rw [List.take_of_length_le hge]
  repeat'(first|refine wkQ ?_|refine Tw.f ?_ ?_|(refine fun(hc:(_:Bool)=_)=>?_;try simp only [hcS]at hc))
  all_goals try exact om_
  ·(first|refine aB ?_|refine aA ?_);simp only [go_sem,simprocAttr,Tryz.f275]
   rw [e1]
structure ThF (f g:Fun):Prop where
 src:CatB f.src
 tgt:CatB g.tgt
 lo:f.obs.length≤1048576
 la:f.ars.length≤1048576
 go:g.obs.length≤1048576
 ga:g.ars.length≤1048576
 wo:Within f.obs g.obs.length
 wa:Within f.ars g.ars.length
theorem xR:aE Tryz.prog 94:=⟨_,Tryz.func94,rfl,rfl⟩
theorem aAg {f g:Fun} (h:ThF f g):Spec Tryz.prog 94 [.bptr [] (dX f), .bptr [] (dX g)] [] (.agg [iv (thF f g).src.ob, .sl 0, .sl 1, .sl 2, .sl 3,iv (thF f g).tgt.ob, .sl 4, .sl 5, .sl 6, .sl 7, .sl 8, .sl 9]) [(0,⟨1, .arr (ints (thF f g).src.fr)⟩),(1,⟨1, .arr (ints (thF f g).src.to)⟩),(2,⟨1, .arr (ints (thF f g).src.id)⟩),(3,⟨1, .arr (aF (thF f g).src.co)⟩),(4,⟨1, .arr (ints (thF f g).tgt.fr)⟩),(5,⟨1, .arr (ints (thF f g).tgt.to)⟩),(6,⟨1, .arr (ints (thF f g).tgt.id)⟩),(7,⟨1, .arr (aF (thF f g).tgt.co)⟩),(8,⟨1, .arr (ints (thF f g).obs)⟩),(9,⟨1, .arr (ints (thF f g).ars)⟩)]:=by
 refine aD (E:=TE) 0 Tryz.func94 rfl (by simp [Tryz.f94]) fun X hn hX=>?_
 obtain⟨b1,b2,b3,b4,b5,b6,b7,b8⟩:=h
 have l1:=thn_len f.obs g.obs
 have l2:=thn_len f.ars g.ars
 repeat'(first|refine wkQ ?_|refine Tw.f ?_ ?_|(refine kcQ aAW ?_;refine krQ (aED (f:=f.obs) (g:=g.obs) ?_ ?_ ?_) ?_)|(refine kcQ aAW ?_;refine krQ (aED (f:=f.ars) (g:=g.ars) ?_ ?_ ?_) ?_)|(refine kcQ jP ?_;refine krQ (lO (c:=f.src) (d:=g.tgt) (p:=thn f.obs g.obs) (q:=thn f.ars g.ars) ?_ ?_ ?_ ?_) ?_)|(refine fun(hc:(_:Bool)=_)=>?_;try simp only [hcS]at hc))
 all_goals try exact om_
 all_goals((first|refine aB ?_|refine aA ?_);simp only [go_sem,simprocAttr,Tryz.f94])
 all_goals exact⟨⟨rfl,rfl,rfl,rfl,rfl,rfl,rfl,rfl,rfl,rfl⟩,rfl⟩
end Go.Eng
end
