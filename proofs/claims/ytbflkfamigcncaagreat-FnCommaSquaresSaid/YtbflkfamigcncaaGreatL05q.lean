/- Comparisons of the laws, the second set: lists of lists, categories, functors. -/
import Derived.Test.YtbflkfamigcncaaGreatKcix
import Derived.Test.YtbflkfamigcncaaGreatC02q
set_option linter.unusedSimpArgs false
set_option linter.unusedVariables false
set_option maxRecDepth 100000
set_option maxHeartbeats 8000000
namespace Go.Eng
open Go Go.Proofs Go.Cats
theorem lY:aF Tryz.prog 17:=⟨_,Tryz.func17,rfl,rfl⟩
theorem nG {f g:Fun} (hf:FunB f) (hg:FunB g):Spec Tryz.prog 17 [cK f,cK g] [] (bv (dec (f=g))) []:=by
 refine aD (E:=TE) 0 Tryz.func17 rfl (by simp [Tryz.f17]) fun X hn hX=>?_
 obtain⟨a1,a2,a3,a4⟩:=hf
 obtain⟨b1,b2,b3,b4⟩:=hg
 repeat'(first|refine wkQ ?_|refine Tw.f ?_ ?_|(refine kcQ gG ?_;refine krQ (gV ?_ ?_) ?_)|(refine kcQ nR ?_;refine krQ (qI ?_ ?_) ?_)|(refine fun(hc:(_:Bool)=_)=>?_;try simp only [hcS]at hc))
 all_goals try exact om_
 ·(first|refine aB ?_|refine aA ?_);simp only [go_sem,simprocAttr,Tryz.f17]
  exact congrArg (fun b=>Sv.v (.bool b)) (fL ⟨fun h=>Fun.eq (by assumption) (by assumption) hc h,fun e=>by rw [e]⟩)
 all_goals((first|refine aB ?_|refine aA ?_);simp only [go_sem,simprocAttr,Tryz.f17];exact eD (fun e=>hc (by rw [e])))
end Go.Eng
