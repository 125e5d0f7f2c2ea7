/- Several texts in one: C07, C14, C15, C16, C17, C18, Z15, T01, A16. -/
import Derived.Test.YthgijhnmcglppaaGreatKcfx
set_option linter.unusedSimpArgs false
set_option linter.unusedVariables false
set_option maxRecDepth 100000
set_option maxHeartbeats 16000000
section
namespace Go.Eng
open Go Go.Proofs Go.Cats
@[go_sem] theorem aOP:(Value.slice none 0 0).oneCell'=true:=rfl
structure CYes (f e:Fun):Prop where
 src:IsFun f
 tgt:IsFun e
 one:f.tgt=e.tgt
 obs:(rL f e).length≤8
 ars:(cmA f e).length≤40
def CNo (f e:Fun) (c:Int):Prop:=
 (¬(IsFun f∧IsFun e)∧c=1)∨((IsFun f∧IsFun e)∧f.tgt≠e.tgt∧c=5)∨
 ((IsFun f∧IsFun e)∧f.tgt=e.tgt∧(8<(rL f e).length∨(rL f e).length≤8∧40<(cmA f e).length)∧c=3)
end Go.Eng
end
section
namespace Go.Eng
open Go Go.Proofs Go.Cats
section
variable {f e:Fun} {O A:List (List Int)} {ts:List (Nat×Nat)}
end
def kL (r:List Int):Lit:= .string (aU3 [r]).data.toList
def pm (A:List (List Int)):Nat→DataW Unit
 |0=> .map []
 |i+1=>(pm A i).put (kL (A.getD i [])) (.lit (.int .i64 i))
structure KeyOK (A:List (List Int)):Prop where
 b:∀r∈A,∀x∈r,0≤x∧x<256
 nd:A.Nodup
def flS (n:Nat) (F:Nat→Int) (i:Nat):List Int:=tb i F++List.replicate (n-i) 0
theorem aIa (n:Nat) (F:Nat→Int):flS n F 0=List.replicate n 0:=by simp [flS,aGk]
@[go_sem] theorem aSM (A:List (List Int)):pm A 0= .map []:=rfl
attribute [local go_sem] pC aIa
end Go.Eng
end
section
namespace Go.Eng
open Go Go.Proofs Go.Cats
attribute [local go_sem] iL iM
end Go.Eng
end
section
namespace Go.Eng
open Go Go.Proofs Go.Cats
structure MkOk (k:Int) (n:Nat):Prop where
 lo:0≤k
 hi:k+n≤9223372036854775807
/-! ### The marks are held -/
end Go.Eng
end
section
namespace Go.Eng
open Go Go.Proofs Go.Cats
def COut (f e:Fun) (c:Cat) (code:Int):Prop:=(CYes f e∧c=cmC f e (cmA f e).length∧code=0)∨(CNo f e code∧c=⟨0,[],[],[],[]⟩)
theorem aPo (f e:Fun):∃c code,COut f e c code:=by
 by_cases h1:IsFun f∧IsFun e
 ·by_cases h2:f.tgt=e.tgt
  ·by_cases h3:(rL f e).length≤8
   ·by_cases h4:(cmA f e).length≤40
    ·exact⟨_,_, .inl ⟨⟨h1.1,h1.2,h2,h3,h4⟩,rfl,rfl⟩⟩
    ·exact⟨_,3, .inr ⟨.inr (.inr ⟨h1,h2, .inr ⟨h3,by omega⟩,rfl⟩),rfl⟩⟩
   ·exact⟨_,3, .inr ⟨.inr (.inr ⟨h1,h2, .inl (by omega),rfl⟩),rfl⟩⟩
  ·exact⟨_,5, .inr ⟨.inr (.inl ⟨h1,h2,rfl⟩),rfl⟩⟩
 ·exact⟨_,1, .inr ⟨.inl ⟨h1,rfl⟩,rfl⟩⟩
theorem COut.b {f e:Fun} {c:Cat} {code:Int} (h:COut f e c code):CatB c:=by
 rcases h with⟨hy,rfl,rfl⟩|⟨hn,rfl⟩
 ·have h1:=hy.obs
  have h2:=hy.ars
  refine⟨?_,?_,?_,?_,?_,?_,fun i hi=>?_⟩
  ·simp only [cmC,aBF];omega
  ·simp only [cmC,aBF];omega
  ·simp only [cmC,aBF,gO];omega
  ·simp only [cmC,aBF,gO];omega
  ·simp only [cmC,aBF,aAu];omega
  ·simp only [cmC,aBF,aAu];omega
  ·simp only [cmC,aBF,aAu]at hi
   simp only [cmC,aBF]
   rw [Go.Cats.tb_at _ _ _ hi,aAu]
   omega
 ·exact⟨by simp,by simp,by simp,by simp,by simp,by simp,fun i hi=>by simp at hi⟩
theorem aCz {l:List (List Int)} {a b:Nat} (ha:l.length≤a) (hb:∀i,i<l.length→(l.getD i []).length≤b):dY l≤a*b:=by
 induction l generalizing a with
 |nil=>simp [dY]
 |cons x l ih=>
  have h1:=hb 0 (by simp)
  have h2:=ih (a:=l.length) (Nat.le_refl _) fun i hi=>by have:=hb (i+1) (by simp;omega);simpa using this
  have e:dY (x::l)=x.length+dY l:=by simp [dY]
  rw [e]
  have h3:x.length≤b:=by simpa using h1
  simp only [List.length_cons]at ha
  calc x.length+dY l≤b+l.length*b:=by omega
   _=(l.length+1)*b:=by rw [Nat.succ_mul];omega
   _≤a*b:=Nat.mul_le_mul_right b ha
end Go.Eng
end
section
namespace Go.Eng
open Go Go.Proofs Go.Cats
attribute [local go_sem] iL iM
theorem aPt {f e:Fun} (hy:CYes f e):CatB (cmC f e (cmA f e).length):=COut.b (.inl ⟨hy,rfl,rfl⟩)
noncomputable def cmF (f e:Fun):Fun:=⟨cmC f e (cmA f e).length,f.src,xQ (rL f e) 0 (rL f e).length,xQ (cmA f e) 2 (cmA f e).length⟩
noncomputable def cmG (f e:Fun):Fun:=⟨cmC f e (cmA f e).length,e.src,xQ (rL f e) 1 (rL f e).length,xQ (cmA f e) 3 (cmA f e).length⟩
theorem aPr {f e:Fun} (hf:FunB f) (hy:CYes f e):FunB (cmF f e):=⟨aPt hy,hf.src,by have:=hy.obs;simp only [cmF,gO];omega,by have:=hy.ars;simp only [cmF,gO];omega⟩
theorem aPs {f e:Fun} (he:FunB e) (hy:CYes f e):FunB (cmG f e):=⟨aPt hy,he.src,by have:=hy.obs;simp only [cmG,gO];omega,by have:=hy.ars;simp only [cmG,gO];omega⟩
def aEM:Fun:=⟨⟨0,[],[],[],[]⟩,⟨0,[],[],[],[]⟩,[],[]⟩
theorem aB5:FunB aEM:=by
 have h:CatB (⟨0,[],[],[],[]⟩:Cat):=⟨by simp,by simp,by simp,by simp,by simp,by simp,fun i hi=>by simp at hi⟩
 exact⟨h,h,by simp [aEM],by simp [aEM]⟩
def CommaLeftOut (f e g:Fun) (code:Int):Prop:=(CYes f e∧g=cmF f e∧code=0)∨(CNo f e code∧g=aEM)
theorem CommaLeftOut.ex (f e:Fun):∃g code,CommaLeftOut f e g code:=by
 obtain⟨c,code,⟨h,_,rfl⟩|⟨h,_⟩⟩:=aPo f e
 ·exact⟨_,_, .inl ⟨h,rfl,rfl⟩⟩
 ·exact⟨_,_, .inr ⟨h,rfl⟩⟩
theorem CommaLeftOut.b {f e g:Fun} {code:Int} (hf:FunB f) (he:FunB e) (h:CommaLeftOut f e g code):FunB g:=by
 rcases h with⟨hy,rfl,rfl⟩|⟨hn,rfl⟩
 ·exact aPr hf hy
 ·exact aB5
def CommaRightOut (f e g:Fun) (code:Int):Prop:=(CYes f e∧g=cmG f e∧code=0)∨(CNo f e code∧g=aEM)
theorem CommaRightOut.ex (f e:Fun):∃g code,CommaRightOut f e g code:=by
 obtain⟨c,code,⟨h,_,rfl⟩|⟨h,_⟩⟩:=aPo f e
 ·exact⟨_,_, .inl ⟨h,rfl,rfl⟩⟩
 ·exact⟨_,_, .inr ⟨h,rfl⟩⟩
theorem CommaRightOut.b {f e g:Fun} {code:Int} (hf:FunB f) (he:FunB e) (h:CommaRightOut f e g code):FunB g:=by
 rcases h with⟨hy,rfl,rfl⟩|⟨hn,rfl⟩
 ·exact aPs he hy
 ·exact aB5
end Go.Eng
end
section
namespace Go.Eng
open Go Go.Proofs Go.Cats
attribute [local go_sem] List.set_cons_zero List.set_cons_succ
structure CodeOk (l:List Int):Prop where
 len:l.length≤4096
 b:∀i,i<l.length→0≤l.getD i 0∧l.getD i 0<256
theorem CodeOk.src {l:List Int} (h:CodeOk l):RnOk (from_ l):=aK4 h.len h.b
end Go.Eng
end
section
namespace Go.Eng
open Go Go.Proofs Go.Cats
def _root_.Go.Cats.thn (f g:List Int):List Int:=f.map fun y=>g.getD y.toNat 0
theorem aL5 (g:List Int):thn [] g=[]:=rfl
attribute [local go_sem] List.set_cons_zero List.set_cons_succ aL5
structure ThF (f g:Fun):Prop where
 src:CatB f.src
 tgt:CatB g.tgt
 lo:f.obs.length≤1048576
 la:f.ars.length≤1048576
 go:g.obs.length≤1048576
 ga:g.ars.length≤1048576
 wo:Within f.obs g.obs.length
 wa:Within f.ars g.ars.length
end Go.Eng
end
section
namespace Go.Eng
open Go Go.Proofs Go.Cats
theorem SFT.b {f:SF} (h:SFT f) (k:aQr f≤1048576):SFB f:=by
 unfold aQr aAR at k
 have h0:=h.shape.ob
 unfold In64 at h0
 exact⟨⟨h0.1,h0.2,by omega,by omega,by omega,by omega,fun i hi=>by have:=rG f.shape.co i hi;omega⟩,by omega,by omega,fun a ha=>by have:=rG f.acts a ha;omega⟩
theorem SFT.l {f:SF} (h:SFT f):SFL f:=⟨h.shape.len,h.bsz,h.bac,h.row⟩
/-! ### Lists of lists of lists -/
structure L3 (l:List (List (List Int))):Prop where
 one:l.length≤4096
 two:∀i,i<l.length→(l.getD i []).length≤1048576
 three:∀i,i<l.length→∀j,j<(l.getD i []).length→((l.getD i []).getD j []).length≤1048576
theorem L3.sum {l:List (List (List Int))} (h:L3 l) {i:Nat} (hi:i<l.length):dY (l.getD i [])≤1099511627776:=aCz (h.two i hi) (h.three i hi)
def aQx (l:List (List (List Int))):Nat:=(l.map dY).sum
theorem aHw:aQx []=0:=rfl
def wR (k:Int):List (List (List Int))→List (List (List Int))
 |[]=>[]
 |l::r=>yN k l::wR (k+dY l) r
theorem aDp (k:Int):wR k []=[]:=rfl
attribute [local go_sem] aHw aDp
@[go_sem] theorem yO:∀(k:Int) (l:List (List (List Int))),(wR k l).length=l.length
 |_,[]=>rfl
 |k,l::r=>by simp [wR,yO _ r]
end Go.Eng
end
