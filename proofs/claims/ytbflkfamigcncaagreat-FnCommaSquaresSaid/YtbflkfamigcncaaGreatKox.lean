/- Several texts in one: C16, C17. -/
import Derived.Test.YtbflkfamigcncaaGreatKtx
import Derived.Test.YtbflkfamigcncaaGreatKpx
set_option linter.unusedSimpArgs false
set_option linter.unusedVariables false
set_option maxRecDepth 100000
set_option maxHeartbeats 16000000
section
namespace Go.Eng
open Go Go.Proofs Go.Cats
structure MkOk (k:Int) (n:Nat):Prop where
 lo:0≤k
 hi:k+n≤9223372036854775807
/-! ### The marks are held -/
end Go.Eng
end
section
namespace Go.Eng
open Go Go.Proofs Go.Cats
def COut (f e:Fun) (c:Cat) (code:Int):Prop:=(CYes f e∧c=cmC f e (cmA f e).length∧code=0)∨(CNo f e code∧c=⟨0,[],[],[],[]⟩)
theorem aM1 (f e:Fun):∃c code,COut f e c code:=by
 by_cases h1:IsFun f∧IsFun e
 ·by_cases h2:f.tgt=e.tgt
  ·by_cases h3:(aK f e).length≤8
   ·by_cases h4:(cmA f e).length≤40
    ·exact⟨_,_, .inl ⟨⟨h1.1,h1.2,h2,h3,h4⟩,rfl,rfl⟩⟩
    ·exact⟨_,3, .inr ⟨.inr (.inr ⟨h1,h2, .inr ⟨h3,by omega⟩,rfl⟩),rfl⟩⟩
   ·exact⟨_,3, .inr ⟨.inr (.inr ⟨h1,h2, .inl (by omega),rfl⟩),rfl⟩⟩
  ·exact⟨_,5, .inr ⟨.inr (.inl ⟨h1,h2,rfl⟩),rfl⟩⟩
 ·exact⟨_,1, .inr ⟨.inl ⟨h1,rfl⟩,rfl⟩⟩
theorem COut.b {f e:Fun} {c:Cat} {code:Int} (h:COut f e c code):CatB c:=by
 rcases h with⟨hy,rfl,rfl⟩|⟨hn,rfl⟩
 ·have h1:=hy.obs
  have h2:=hy.ars
  refine⟨?_,?_,?_,?_,?_,?_,fun i hi=>?_⟩
  ·simp only [cmC,nJ];omega
  ·simp only [cmC,nJ];omega
  ·simp only [cmC,nJ,aZ];omega
  ·simp only [cmC,nJ,aZ];omega
  ·simp only [cmC,nJ,lM];omega
  ·simp only [cmC,nJ,lM];omega
  ·simp only [cmC,nJ,lM]at hi
   simp only [cmC,nJ]
   rw [Go.Cats.tb_at _ _ _ hi,lM]
   omega
 ·exact⟨by simp,by simp,by simp,by simp,by simp,by simp,fun i hi=>by simp at hi⟩
theorem gM {f e:Fun} {c:Cat} {code:Int} (hf:FunB f) (he:FunB e) (h:COut f e c code):Spec Tryz.prog 46 [cK f,cK e] [] (.tup [.agg [iv c.ob, .sl 0, .sl 1, .sl 2, .sl 3],iv code]) [(0,⟨1, .arr (ints c.fr)⟩),(1,⟨1, .arr (ints c.to)⟩),(2,⟨1, .arr (ints c.id)⟩),(3,⟨1, .arr (aE c.co)⟩)]:=by
 rcases h with⟨hy,rfl,rfl⟩|⟨hn,rfl⟩
 ·exact lQ hf he hy
 ·refine Spec.adopt (mM hf he hn) (bH (bH (bH (jL sJ)))) fun w S v cn h=>?_
  simp only [Sv.ok,Sv.okL]at h⊢
  obtain⟨vs,rfl,x,r,rfl,⟨us,rfl,hu⟩,hr⟩:=h
  refine⟨_,rfl,_,_,rfl,⟨us,rfl,?_⟩,hr⟩
  obtain⟨x0,r0,rfl,e0,x1,r1,rfl,e1,x2,r2,rfl,e2,x3,r3,rfl,e3,x4,r4,rfl,e4,e5⟩:=hu
  exact⟨_,_,rfl,e0,_,_,rfl,⟨Nat.le_refl 1,e1⟩,_,_,rfl,⟨Nat.le_refl 1,e2⟩,_,_,rfl,⟨Nat.le_refl 1,e3⟩,_,_,rfl,⟨Nat.le_refl 1,e4⟩,e5⟩
theorem kE {f e:Fun} {c:Cat} {code:Int} (hf:FunB f) (he:FunB e) (h:COut f e c code):Spec Tryz.prog 45 [cK f,cK e] [] (.tup [.agg [iv c.ob, .sl 0, .sl 1, .sl 2, .sl 3],iv code]) [(0,⟨1, .arr (ints c.fr)⟩),(1,⟨1, .arr (ints c.to)⟩),(2,⟨1, .arr (ints c.id)⟩),(3,⟨1, .arr (aE c.co)⟩)]:=by
 rcases h with⟨hy,rfl,rfl⟩|⟨hn,rfl⟩
 ·exact pY hf he hy
 ·refine Spec.adopt (rL hf he hn) (bH (bH (bH (jL sJ)))) fun w S v cn h=>?_
  simp only [Sv.ok,Sv.okL]at h⊢
  obtain⟨vs,rfl,x,r,rfl,⟨us,rfl,hu⟩,hr⟩:=h
  refine⟨_,rfl,_,_,rfl,⟨us,rfl,?_⟩,hr⟩
  obtain⟨x0,r0,rfl,e0,x1,r1,rfl,e1,x2,r2,rfl,e2,x3,r3,rfl,e3,x4,r4,rfl,e4,e5⟩:=hu
  exact⟨_,_,rfl,e0,_,_,rfl,⟨Nat.le_refl 1,e1⟩,_,_,rfl,⟨Nat.le_refl 1,e2⟩,_,_,rfl,⟨Nat.le_refl 1,e3⟩,_,_,rfl,⟨Nat.le_refl 1,e4⟩,e5⟩
end Go.Eng
end
