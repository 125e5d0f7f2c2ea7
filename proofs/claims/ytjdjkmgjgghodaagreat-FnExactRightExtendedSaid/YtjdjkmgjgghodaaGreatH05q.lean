/- A natural map of nothing, as what is handed out. -/
import Derived.Test.YtjdjkmgjgghodaaGreatKdx
import Derived.Test.YtjdjkmgjgghodaaGreatB18q
import Derived.Test.YtjdjkmgjgghodaaGreatH04q
set_option linter.unusedSimpArgs false
set_option linter.unusedVariables false
set_option maxRecDepth 100000
set_option maxHeartbeats 16000000
namespace Go.Eng
open Go Go.Proofs Go.Cats
def _root_.Go.Cats.nilSM : SM:=⟨nilSF,nilSF,[]⟩
theorem nilSM_b : SMB nilSM:=by
  have hnil : SFB nilSF:=⟨⟨by decide,by decide,by decide,by decide,by decide,by decide,fun f h=>by simp [nilSF] at h⟩,by decide,by decide,fun a h=>by simp [nilSF] at h⟩
  exact ⟨hnil,hnil,by decide,fun a h=>by simp [nilSM] at h⟩
theorem adoptSM {P : Program} {F : FuncId} {args : List Sv} {y : Value} (h : Spec P F args [] (.tup [.agg [iv 0,.v (.slice none 0 0),.v (.slice none 0 0),.v (.slice none 0 0),.v (.slice none 0 0),.v (.slice none 0 0),.v (.slice none 0 0),iv 0,.v (.slice none 0 0),.v (.slice none 0 0),.v (.slice none 0 0),.v (.slice none 0 0),.v (.slice none 0 0),.v (.slice none 0 0),.v (.slice none 0 0)],.v y]) []) : Spec P F args [] (.tup [.agg [iv nilSM.src.shape.ob,.sl 0,.sl 1,.sl 2,.sl 3,.sl 4,.sl 5,iv nilSM.tgt.shape.ob,.sl 6,.sl 7,.sl 8,.sl 9,.sl 10,.sl 11,.sl 12],.v y])
    [(0,⟨1,.arr (ints nilSM.src.shape.fr)⟩),(1,⟨1,.arr (ints nilSM.src.shape.to)⟩),(2,⟨1,.arr (ints nilSM.src.shape.id)⟩),(3,⟨1,.arr (intss nilSM.src.shape.co)⟩),(4,⟨1,.arr (ints nilSM.src.sizes)⟩),(5,⟨1,.arr (intss nilSM.src.acts)⟩),(6,⟨1,.arr (ints nilSM.tgt.shape.fr)⟩),(7,⟨1,.arr (ints nilSM.tgt.shape.to)⟩),(8,⟨1,.arr (ints nilSM.tgt.shape.id)⟩),(9,⟨1,.arr (intss nilSM.tgt.shape.co)⟩),(10,⟨1,.arr (ints nilSM.tgt.sizes)⟩),(11,⟨1,.arr (intss nilSM.tgt.acts)⟩),(12,⟨1,.arr (intss nilSM.parts)⟩)]:=by
  refine Spec.adopt h (emptyL_cons_i (emptyL_cons_i (emptyL_cons_i (emptyL_cons_s (emptyL_cons_i (emptyL_cons_s (emptyL_cons_i (emptyL_cons_i (emptyL_cons_i (emptyL_cons_s (emptyL_cons_i (emptyL_cons_s (emptyL_cons_s emptyL_nil))))))))))))) fun w S v cn h=>?_
  simp only [Sv.ok,Sv.okL] at h ⊢
  obtain ⟨vs,rfl,x,r,rfl,⟨us,rfl,hu⟩,hr⟩:=h
  refine ⟨_,rfl,_,_,rfl,⟨us,rfl,?_⟩,hr⟩
  obtain ⟨x0,r0,rfl,e0,x1,r1,rfl,e1,x2,r2,rfl,e2,x3,r3,rfl,e3,x4,r4,rfl,e4,x5,r5,rfl,e5,x6,r6,rfl,e6,x7,r7,rfl,e7,x8,r8,rfl,e8,x9,r9,rfl,e9,x10,r10,rfl,e10,x11,r11,rfl,e11,x12,r12,rfl,e12,x13,r13,rfl,e13,x14,r14,rfl,e14,e15⟩:=hu
  exact ⟨_,_,rfl,e0,_,_,rfl,⟨Nat.le_refl 1,e1⟩,_,_,rfl,⟨Nat.le_refl 1,e2⟩,_,_,rfl,⟨Nat.le_refl 1,e3⟩,_,_,rfl,⟨Nat.le_refl 1,e4⟩,_,_,rfl,⟨Nat.le_refl 1,e5⟩,_,_,rfl,⟨Nat.le_refl 1,e6⟩,_,_,rfl,e7,_,_,rfl,⟨Nat.le_refl 1,e8⟩,_,_,rfl,⟨Nat.le_refl 1,e9⟩,_,_,rfl,⟨Nat.le_refl 1,e10⟩,_,_,rfl,⟨Nat.le_refl 1,e11⟩,_,_,rfl,⟨Nat.le_refl 1,e12⟩,_,_,rfl,⟨Nat.le_refl 1,e13⟩,_,_,rfl,⟨Nat.le_refl 1,e14⟩,e15⟩
end Go.Eng
