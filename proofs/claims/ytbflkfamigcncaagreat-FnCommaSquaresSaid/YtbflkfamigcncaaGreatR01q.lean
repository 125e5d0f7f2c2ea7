/- Transformations, by the program: the square of an arrow; the search in depth; all transformations between two functors. -/
import Derived.Test.YtbflkfamigcncaaGreatKcgx
import Derived.Test.YtbflkfamigcncaaGreatKbex
set_option linter.unusedSimpArgs false
set_option linter.unusedVariables false
set_option maxRecDepth 100000
set_option maxHeartbeats 16000000
namespace Go.Eng
open Go Go.Proofs Go.Cats
theorem aOj {β:Type} (M) (o:List β) (q):(stL M o q).1=decide (o.length+1≤M):=rfl
theorem aOk {β:Type} (M) (o:List β) (q):(stL M o q).2=o++[q]:=rfl
attribute [local go_sem] List.set_cons_zero List.set_cons_succ aOj aOk
theorem aEg {c:Cat} (s:Shape c) {g:Int} (h0:0≤g) (h1:g<c.fr.length):g<c.co.length∧(c.co.getD g.toNat []).length=c.fr.length:=⟨by rw [s.col];exact h1,(s.coe g.toNat (by omega)).1⟩
theorem aCF:aF Tryz.prog 193:=⟨_,Tryz.func193,rfl,rfl⟩
theorem aEn {f g:Fun} {A:List Int} {a:Nat} (h:Par f g) (ha:a<f.src.fr.length) (hA:A.length=f.src.ob.toNat) (c1:0≤A.getD (f.src.fr.getD a 0).toNat 0∧A.getD (f.src.fr.getD a 0).toNat 0<f.tgt.fr.length) (c2:0≤A.getD (f.src.to.getD a 0).toNat 0∧A.getD (f.src.to.getD a 0).toNat 0<f.tgt.fr.length):Spec Tryz.prog 193 [.bptr [] (cD f), .bptr [] (cD g), .bor [] (ints A),iv a] [] (bv (dec (SqP f g A a))) []:=by
 refine aD (E:=TE) 0 Tryz.func193 rfl (by simp [Tryz.f193]) fun X hn hX=>?_
 have s1:=h.src.toShape.frw a ha
 have s0:=h.src.toShape.tol
 have s2:=h.src.toShape.tow a (by omega)
 have l1:=h.fit.arl
 have l2:=h.fit2.arl
 rw [h.es]at l2
 have w1:=h.fit.arw a (by omega)
 have w2:=h.fit2.arw a (by omega)
 rw [h.et]at w2
 have r1:=aEg h.tgt.toShape w1.1 w1.2
 have r2:=aEg h.tgt.toShape c1.1 c1.2
 repeat'(first|refine wkQ ?_|refine Tw.f ?_ ?_|(refine kcQ bG ?_;refine krQ (bJ (c:=f.tgt) ?_ ?_ ?_ ?_) ?_)|(refine fun(hc:(_:Bool)=_)=>?_;try simp only [hcS]at hc))
 all_goals try exact om_
 ·(first|refine aB ?_|refine aA ?_);simp only [go_sem,simprocAttr,Tryz.f193]
  rw [←pK];rfl
end Go.Eng
