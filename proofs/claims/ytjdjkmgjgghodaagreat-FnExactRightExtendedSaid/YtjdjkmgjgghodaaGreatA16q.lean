/- The law's own functions: set functors are marked; lists of lists of lists of numbers are compared, marked and held. -/
import Derived.Test.YtjdjkmgjgghodaaGreatKdx
import Derived.Test.YtjdjkmgjgghodaaGreatKex
import Derived.Test.YtjdjkmgjgghodaaGreatG06q
import Derived.Test.YtjdjkmgjgghodaaGreatG11q
import Derived.Test.YtjdjkmgjgghodaaGreatC16q
import Derived.Test.YtjdjkmgjgghodaaGreatD01q
import Derived.Test.YtjdjkmgjgghodaaGreatC17q
set_option linter.unusedSimpArgs false
set_option linter.unusedVariables false
set_option maxRecDepth 100000
set_option maxHeartbeats 8000000
namespace Go.Eng
open Go Go.Proofs Go.Cats
def _root_.Go.Cats.SF.mk_ (k : Int) (f : SF) : SF:=⟨f.shape.mk_ k,marks (k + f.shape.mkn) f.sizes.length,marksS (k + f.shape.mkn + f.sizes.length) f.acts⟩
def _root_.Go.Cats.SF.mkn (f : SF) : Nat:=f.shape.mkn + f.sizes.length + sumLen f.acts
theorem _root_.Go.Cats.SFB.mkn {f : SF} (h : SFB f) : f.mkn ≤ 2199027449856:=by
  have h0:=h.shape.mkn
  have h1:=sumLen_le_of h.acts h.row
  have:=h.sizes
  unfold Go.Cats.SF.mkn; omega
theorem SFT.b {f : SF} (h : SFT f) (k : sfSz f ≤ 1048576) : SFB f:=by
  unfold sfSz catSz at k
  have h0:=h.shape.ob
  unfold In64 at h0
  exact ⟨⟨h0.1,h0.2,by omega,by omega,by omega,by omega,fun i hi=>by have:=sumLen_get f.shape.co i hi; omega⟩,by omega,by omega,fun a ha=>by have:=sumLen_get f.acts a ha; omega⟩
theorem SFT.l {f : SF} (h : SFT f) : SFL f:=⟨h.shape.len,h.bsz,h.bac,h.row⟩
theorem cal_markSetFunctor : Callable Tryz.prog 16:=⟨_,Tryz.func16,rfl,rfl⟩
theorem sp_markSetFunctor {f : SF} {k : Int} (hk : 0 ≤ k) (hl : k + f.mkn ≤ 9223372036854775807) (hb : SFB f) : Spec Tryz.prog 16 [.agg [iv f.shape.ob,.sl 0,.sl 1,.sl 2,.sl 3,.sl 4,.sl 5],iv k] [(0,⟨1,.arr (ints f.shape.fr)⟩),(1,⟨1,.arr (ints f.shape.to)⟩),(2,⟨1,.arr (ints f.shape.id)⟩),(3,⟨1,.arr (intss f.shape.co)⟩),(4,⟨1,.arr (ints f.sizes)⟩),(5,⟨1,.arr (intss f.acts)⟩)] (iv (k + f.mkn)) [(0,⟨1,.arr (ints (f.mk_ k).shape.fr)⟩),(1,⟨1,.arr (ints (f.mk_ k).shape.to)⟩),(2,⟨1,.arr (ints (f.mk_ k).shape.id)⟩),(3,⟨1,.arr (intss (f.mk_ k).shape.co)⟩),(4,⟨1,.arr (ints (f.mk_ k).sizes)⟩),(5,⟨1,.arr (intss (f.mk_ k).acts)⟩)]:=by
  refine spec_of_V (E:=TE) 6 Tryz.func16 rfl (by simp [Tryz.f16]) fun X hn hX=>?_
  unfold Go.Cats.SF.mkn at hl
  obtain ⟨b1,b2,b3,b4⟩:=hb
  repeat' (first | (with_reducible first | refine V_seq ?_ | refine V_skip ?_ | refine V_ret ?_) | ((with_reducible refine V_cond ?_); simp only [go_sem,simprocAttr]) | ((refine V_region (by rw [hn]; rfl) ?_); intro K hK) | ((first | with_reducible refine evOps_n ?_ | ((with_reducible apply evOps_g); rfl)); intro K hK; simp (contextual:=true) only [go_sem,simprocAttr]) | with_reducible refine evOps_nil ?_ | ((with_reducible refine hK _ ?_); clear hK K) | (with_reducible first | refine And.intro ?_ ?_ | refine nxt_n ?_ | refine nxt_r ?_ | refine inR_mk ?_ ?_) | ((with_reducible refine evCall_at 44 ?_); refine EvCall.mu (by first | (simp only [go_sem,simprocAttr]; rfl) | rfl) (by first | (simp only [go_sem,simprocAttr]; rfl) | rfl) (by first | (simp only [go_sem,simprocAttr]; rfl) | rfl) (sp_markCategory ?_ ?_ ?_) cal_markCategory (by first | (simp only [go_sem,simprocAttr]; rfl) | rfl) (by first | (simp only [go_sem,simprocAttr]; rfl) | rfl) (by simp [go_sem]) (by simp [go_sem]) ?_; all_goals try simp only [go_sem,simprocAttr]) | ((with_reducible refine evCall_at 45 ?_); refine EvCall.mu (by first | (simp only [go_sem,simprocAttr]; rfl) | rfl) (by first | (simp only [go_sem,simprocAttr]; rfl) | rfl) (by first | (simp only [go_sem,simprocAttr]; rfl) | rfl) (sp_markInt64S ?_ ?_ ?_) cal_markInt64S (by first | (simp only [go_sem,simprocAttr]; rfl) | rfl) (by first | (simp only [go_sem,simprocAttr]; rfl) | rfl) (by simp [go_sem]) (by simp [go_sem]) ?_; all_goals try simp only [go_sem,simprocAttr]) | ((with_reducible refine evCall_at 46 ?_); refine EvCall.mu (by first | (simp only [go_sem,simprocAttr]; rfl) | rfl) (by first | (simp only [go_sem,simprocAttr]; rfl) | rfl) (by first | (simp only [go_sem,simprocAttr]; rfl) | rfl) (sp_markInt64SS ?_ ?_ ?_) cal_markInt64SS (by first | (simp only [go_sem,simprocAttr]; rfl) | rfl) (by first | (simp only [go_sem,simprocAttr]; rfl) | rfl) (by simp [go_sem]) (by simp [go_sem]) ?_; all_goals try simp only [go_sem,simprocAttr]) | (refine fun (hc : (_ : Bool) = _)=>?_; try simp only [hcS] at hc))
  all_goals try (first | (with_reducible assumption) | ((try simp only [Cat.F,Cat.T,Cat.I,Cat.C,Fun.O,Fun.A,Cat.Entry,Int.toNat_natCast] at *); omega))
  (first | refine ret_auto ?_ | refine ret_auto' ?_); simp only [go_sem,simprocAttr,Tryz.f16]
  exact ⟨⟨rfl,rfl,rfl,rfl,rfl,rfl⟩,iv_eq (by unfold Go.Cats.SF.mkn; omega)⟩
/-! ### Lists of lists of lists -/
structure L3 (l : List (List (List Int))) : Prop where
  one : l.length ≤ 4096
  two : ∀ i,i < l.length → (l.getD i []).length ≤ 1048576
  three : ∀ i,i < l.length → ∀ j,j < (l.getD i []).length → ((l.getD i []).getD j []).length ≤ 1048576
theorem L3.sum {l : List (List (List Int))} (h : L3 l) {i : Nat} (hi : i < l.length) : sumLen (l.getD i []) ≤ 1099511627776:=sumLen_le_of (h.two i hi) (h.three i hi)
def sumL3 (l : List (List (List Int))) : Nat:=(l.map sumLen).sum
theorem sumL3_nil : sumL3 [] = 0:=rfl
def marksSS (k : Int) : List (List (List Int)) → List (List (List Int))
  | []=>[]
  | l :: r=>marksS k l :: marksSS (k + sumLen l) r
theorem marksSS_nil (k : Int) : marksSS k [] = []:=rfl
attribute [local go_sem] sumL3_nil marksSS_nil
@[go_sem] theorem marksSS_length : ∀ (k : Int) (l : List (List (List Int))),(marksSS k l).length = l.length
  | _,[]=>rfl
  | k,l :: r=>by simp [marksSS,marksSS_length _ r]
end Go.Eng
