/- Several texts in one: C07, C14, C15, C16, C17, C18, T01. -/
import Derived.Test.YtipohdpnhodnmaaGreatC01y
set_option linter.unusedSimpArgs false
set_option linter.unusedVariables false
set_option maxRecDepth 100000
set_option maxHeartbeats 16000000
section
namespace Go.Eng
open Go Go.Proofs Go.Cats
@[go_sem] theorem aQd:(Value.slice none 0 0).oneCell'=true:=rfl
structure CYes (f e:Fun):Prop where
 src:IsFun f
 tgt:IsFun e
 one:f.tgt=e.tgt
 obs:(sY f e).length≤8
 ars:(cmA f e).length≤40
def CNo (f e:Fun) (c:Int):Prop:=
 (¬(IsFun f∧IsFun e)∧c=1)∨((IsFun f∧IsFun e)∧f.tgt≠e.tgt∧c=5)∨
 ((IsFun f∧IsFun e)∧f.tgt=e.tgt∧(8<(sY f e).length∨(sY f e).length≤8∧40<(cmA f e).length)∧c=3)
end Go.Eng
end
section
namespace Go.Eng
open Go Go.Proofs Go.Cats
section
variable {f e:Fun} {O A:List (List Int)} {ts:List (Nat×Nat)}
end
def kL (r:List Int):Lit:= .string (aVR [r]).data.toList
def pm (A:List (List Int)):Nat→DataW Unit
 |0=> .map []
 |i+1=>(pm A i).put (kL (A.getD i [])) (.lit (.int .i64 i))
structure KeyOK (A:List (List Int)):Prop where
 b:∀r∈A,∀x∈r,0≤x∧x<256
 nd:A.Nodup
def flS (n:Nat) (F:Nat→Int) (i:Nat):List Int:=tb i F++List.replicate (n-i) 0
theorem aJA (n:Nat) (F:Nat→Int):flS n F 0=List.replicate n 0:=by simp [flS,aHD]
@[go_sem] theorem aTQ (A:List (List Int)):pm A 0= .map []:=rfl
attribute [local go_sem] qF aJA
end Go.Eng
end
section
namespace Go.Eng
open Go Go.Proofs Go.Cats
attribute [local go_sem] iP iQ
end Go.Eng
end
section
namespace Go.Eng
open Go Go.Proofs Go.Cats
structure MkOk (k:Int) (n:Nat):Prop where
 lo:0≤k
 hi:k+n≤9223372036854775807
/-! ### The marks are held -/
end Go.Eng
end
section
namespace Go.Eng
open Go Go.Proofs Go.Cats
def COut (f e:Fun) (c:Cat) (code:Int):Prop:=(CYes f e∧c=cmC f e (cmA f e).length∧code=0)∨(CNo f e code∧c=⟨0,[],[],[],[]⟩)
theorem aQN (f e:Fun):∃c code,COut f e c code:=by
 by_cases h1:IsFun f∧IsFun e
 ·by_cases h2:f.tgt=e.tgt
  ·by_cases h3:(sY f e).length≤8
   ·by_cases h4:(cmA f e).length≤40
    ·exact⟨_,_, .inl ⟨⟨h1.1,h1.2,h2,h3,h4⟩,rfl,rfl⟩⟩
    ·exact⟨_,3, .inr ⟨.inr (.inr ⟨h1,h2, .inr ⟨h3,by omega⟩,rfl⟩),rfl⟩⟩
   ·exact⟨_,3, .inr ⟨.inr (.inr ⟨h1,h2, .inl (by omega),rfl⟩),rfl⟩⟩
  ·exact⟨_,5, .inr ⟨.inr (.inl ⟨h1,h2,rfl⟩),rfl⟩⟩
 ·exact⟨_,1, .inr ⟨.inl ⟨h1,rfl⟩,rfl⟩⟩
theorem COut.b {f e:Fun} {c:Cat} {code:Int} (h:COut f e c code):CatB c:=by
 rcases h with⟨hy,rfl,rfl⟩|⟨hn,rfl⟩
 ·have h1:=hy.obs
  have h2:=hy.ars
  refine⟨?_,?_,?_,?_,?_,?_,fun i hi=>?_⟩
  ·simp only [cmC,aCt];omega
  ·simp only [cmC,aCt];omega
  ·simp only [cmC,aCt,gW];omega
  ·simp only [cmC,aCt,gW];omega
  ·simp only [cmC,aCt,aA8];omega
  ·simp only [cmC,aCt,aA8];omega
  ·simp only [cmC,aCt,aA8]at hi
   simp only [cmC,aCt]
   rw [Go.Cats.tb_at _ _ _ hi,aA8]
   omega
 ·exact⟨by simp,by simp,by simp,by simp,by simp,by simp,fun i hi=>by simp at hi⟩
end Go.Eng
end
section
namespace Go.Eng
open Go Go.Proofs Go.Cats
attribute [local go_sem] iP iQ
theorem aQS {f e:Fun} (hy:CYes f e):CatB (cmC f e (cmA f e).length):=COut.b (.inl ⟨hy,rfl,rfl⟩)
noncomputable def cmF (f e:Fun):Fun:=⟨cmC f e (cmA f e).length,f.src,zH (sY f e) 0 (sY f e).length,zH (cmA f e) 2 (cmA f e).length⟩
noncomputable def cmG (f e:Fun):Fun:=⟨cmC f e (cmA f e).length,e.src,zH (sY f e) 1 (sY f e).length,zH (cmA f e) 3 (cmA f e).length⟩
theorem aQQ {f e:Fun} (hf:FunB f) (hy:CYes f e):FunB (cmF f e):=⟨aQS hy,hf.src,by have:=hy.obs;simp only [cmF,gW];omega,by have:=hy.ars;simp only [cmF,gW];omega⟩
theorem aQR {f e:Fun} (he:FunB e) (hy:CYes f e):FunB (cmG f e):=⟨aQS hy,he.src,by have:=hy.obs;simp only [cmG,gW];omega,by have:=hy.ars;simp only [cmG,gW];omega⟩
def aFT:Fun:=⟨⟨0,[],[],[],[]⟩,⟨0,[],[],[],[]⟩,[],[]⟩
theorem aCZ:FunB aFT:=by
 have h:CatB (⟨0,[],[],[],[]⟩:Cat):=⟨by simp,by simp,by simp,by simp,by simp,by simp,fun i hi=>by simp at hi⟩
 exact⟨h,h,by simp [aFT],by simp [aFT]⟩
def CommaLeftOut (f e g:Fun) (code:Int):Prop:=(CYes f e∧g=cmF f e∧code=0)∨(CNo f e code∧g=aFT)
theorem CommaLeftOut.ex (f e:Fun):∃g code,CommaLeftOut f e g code:=by
 obtain⟨c,code,⟨h,_,rfl⟩|⟨h,_⟩⟩:=aQN f e
 ·exact⟨_,_, .inl ⟨h,rfl,rfl⟩⟩
 ·exact⟨_,_, .inr ⟨h,rfl⟩⟩
theorem CommaLeftOut.b {f e g:Fun} {code:Int} (hf:FunB f) (he:FunB e) (h:CommaLeftOut f e g code):FunB g:=by
 rcases h with⟨hy,rfl,rfl⟩|⟨hn,rfl⟩
 ·exact aQQ hf hy
 ·exact aCZ
def CommaRightOut (f e g:Fun) (code:Int):Prop:=(CYes f e∧g=cmG f e∧code=0)∨(CNo f e code∧g=aFT)
theorem CommaRightOut.ex (f e:Fun):∃g code,CommaRightOut f e g code:=by
 obtain⟨c,code,⟨h,_,rfl⟩|⟨h,_⟩⟩:=aQN f e
 ·exact⟨_,_, .inl ⟨h,rfl,rfl⟩⟩
 ·exact⟨_,_, .inr ⟨h,rfl⟩⟩
theorem CommaRightOut.b {f e g:Fun} {code:Int} (hf:FunB f) (he:FunB e) (h:CommaRightOut f e g code):FunB g:=by
 rcases h with⟨hy,rfl,rfl⟩|⟨hn,rfl⟩
 ·exact aQR he hy
 ·exact aCZ
end Go.Eng
end
section
namespace Go.Eng
open Go Go.Proofs Go.Cats
def _root_.Go.Cats.thn (f g:List Int):List Int:=f.map fun y=>g.getD y.toNat 0
theorem _root_.Go.Cats.thn_len (f g:List Int):(thn f g).length=f.length:=by unfold thn;rw [List.length_map]
theorem _root_.Go.Cats.thn_at {f g:List Int} {i:Nat} (hi:i<f.length):(thn f g).getD i 0=g.getD (f.getD i 0).toNat 0:=by
 unfold thn
 rw [List.getD_eq_getElem?_getD,List.getElem?_map,List.getElem?_eq_getElem hi,List.getD_eq_getElem?_getD (l:=f),List.getElem?_eq_getElem hi];rfl
theorem _root_.Go.Cats.thn_in {f g:List Int} {n:Int} (h:Within f g.length) (k:Within g n):Within (thn f g) n:=fun i hi=>by
 rw [thn_len]at hi
 rw [thn_at hi]
 have:=h i hi
 exact k _ (by omega)
theorem aNu (g:List Int):thn [] g=[]:=rfl
attribute [local go_sem] List.set_cons_zero List.set_cons_succ aNu
theorem aJk:aF Tryz.prog 118:=⟨_,Tryz.func118,rfl,rfl⟩
theorem aNr {f g:List Int} (hf:f.length≤1048576) (hg:g.length≤1048576) (hw:Within f g.length):Spec Tryz.prog 118 [.bor [] (ints f), .bor [] (ints g)] [] (.sl 0) [(0,⟨1, .arr (ints (thn f g))⟩)]:=by
 refine aE (E:=TE) 0 Tryz.func118 rfl (by simp [Tryz.f118]) fun X hn hX=>?_
 obtain⟨p,hp⟩:∃p,thn f g=p:=⟨_,rfl⟩
 have hpl:p.length=f.length:=by rw [←hp,thn_len]
 have hpa:∀i,i<f.length→p.getD i 0=g.getD (f.getD i 0).toNat 0:=fun i hi=>by rw [←hp,thn_at hi]
 rw [hp]
 repeat'(first|refine wkQ ?_|refine Tw.f ?_ ?_|(refine fun(hc:(_:Bool)=_)=>?_;try simp only [hcS]at hc))
 all_goals try exact om_
 refine aH (G:={i:Nat//i≤f.length∧(True)}) (fun⟨i,_⟩=>[(13,iv i),(5, .sl 0)]) [1,4,11,12] (fun⟨i,_⟩=>[(0,⟨1, .arr (ints (p.take i++List.replicate (f.length-i) 0))⟩)]) [0] (fun zz=>f.length-zz.1) ⟨0,Nat.zero_le _,by first|trivial|simp⟩ ?_ ?_
 ·exact Imp.au hX
 rintro⟨i,hii,hwi⟩
 simp only [go_sem,simprocAttr]
 have h1:=hw i
 have h2:=hpa i
 have h3:=aHZ p i
 rw [hpl]at h3
 repeat'(first|refine wkQ ?_|refine Tw.f ?_ ?_|(refine fun(hc:(_:Bool)=_)=>?_;try simp only [hcS]at hc))
 all_goals try exact om_
 ·refine⟨⟨i+1,by omega,(by trivial)⟩,by simp only;omega,Imp.auto hX (by simp only [go_sem,simprocAttr,←h2 (by omega),h3 (show i<f.length by omega)])⟩
 ·(first|refine aB ?_|refine aA ?_);simp only [go_sem,simprocAttr,Tryz.f118]
  rw [show i=f.length by omega];simp [←hpl]
structure ThF (f g:Fun):Prop where
 src:CatB f.src
 tgt:CatB g.tgt
 lo:f.obs.length≤1048576
 la:f.ars.length≤1048576
 go:g.obs.length≤1048576
 ga:g.ars.length≤1048576
 wo:Within f.obs g.obs.length
 wa:Within f.ars g.ars.length
end Go.Eng
end
