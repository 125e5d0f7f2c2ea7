/- The law FnExactElementMap is true of the given program: for every set functor and all numbers the call returns true, and all read behind it as they did. No condition. -/
import Derived.Test.YtlofngpklcccmaaGreatKd
import Derived.Test.YtlofngpklcccmaaGreatO05q
import Derived.Test.YtlofngpklcccmaaGreatO11q
import Derived.Test.YtlofngpklcccmaaGreatO10q
import Derived.Test.YtlofngpklcccmaaGreatD01q
import Derived.Test.YtlofngpklcccmaaGreatRows
import Derived.JoinedOf
import Derived.ProofKit
set_option linter.unusedSimpArgs false
set_option linter.unusedVariables false
set_option maxRecDepth 100000
set_option maxHeartbeats 8000000
namespace Go.Eng
open Go Go.Proofs Go.Cats

theorem SFT.b' {f : SF} (h : SFT f) (k : sfSz f ≤ 1048576) : SFB f := by
  unfold sfSz catSz at k
  have h0 := h.shape.ob
  unfold In64 at h0
  exact ⟨⟨h0.1, h0.2, by omega, by omega, by omega, by omega, fun i hi => by have := sumLen_get f.shape.co i hi; omega⟩, by omega, by omega, fun a ha => by have := sumLen_get f.acts a ha; omega⟩
theorem SFT.l' {f : SF} (h : SFT f) : SFL f := ⟨h.shape.len, h.bsz, h.bac, h.row⟩

def _root_.Go.Cats.SF.EOut (f : SF) (x e : Int) (m : SM) (code : Int) : Prop := (IsSF f ∧ f.Elem x e ∧ f.shape.small x ∧ m = f.eMap x e ∧ code = 0) ∨ (f.ENo x e code ∧ m = SM.nil)
theorem eout (f : SF) (x e : Int) : ∃ m code, f.EOut x e m code := by
  by_cases h1 : IsSF f
  · by_cases h2 : f.Elem x e
    · by_cases h3 : f.shape.small x
      · exact ⟨_, _, .inl ⟨h1, h2, h3, rfl, rfl⟩⟩
      · exact ⟨_, 3, .inr ⟨.inr (.inr ⟨h1, h2, h3, rfl⟩), rfl⟩⟩
    · exact ⟨_, 2, .inr ⟨.inr (.inl ⟨h1, h2, rfl⟩), rfl⟩⟩
  · exact ⟨_, 1, .inr ⟨.inl ⟨h1, rfl⟩, rfl⟩⟩
theorem smb_nil : SMB SM.nil := by
  have hc : CatB Cat.nil := ⟨by decide, by decide, by decide, by decide, by decide, by decide, fun f hf => by simp [Cat.nil] at hf⟩
  have hs : SFB SF.nil := ⟨hc, by decide, by decide, fun a ha => by simp [SF.nil] at ha⟩
  exact ⟨hs, hs, by decide, fun a ha => by simp [SM.nil] at ha⟩
theorem eout_b {f : SF} {x e : Int} {m : SM} {code : Int} (hb : SFB f) (h : f.EOut x e m code) : SMB m := by
  rcases h with ⟨s, _, _, rfl, _⟩ | ⟨_, rfl⟩
  · exact SF.eMap_smb s.cat.toShape hb x e
  · exact smb_nil
theorem sp_spec_ElementMap_at {f : SF} {x e : Int} {m : SM} {code : Int} (hb : SFB f) (h : f.EOut x e m code) : Spec Tryz.prog 6 [sfV f, iv x, iv e] [] (.tup [.agg [iv m.src.shape.ob, .sl 0, .sl 1, .sl 2, .sl 3, .sl 4, .sl 5, iv m.tgt.shape.ob, .sl 6, .sl 7, .sl 8, .sl 9, .sl 10, .sl 11, .sl 12], iv code]) [(0, ⟨1, .arr (ints m.src.shape.fr)⟩), (1, ⟨1, .arr (ints m.src.shape.to)⟩), (2, ⟨1, .arr (ints m.src.shape.id)⟩), (3, ⟨1, .arr (intss m.src.shape.co)⟩), (4, ⟨1, .arr (ints m.src.sizes)⟩), (5, ⟨1, .arr (intss m.src.acts)⟩), (6, ⟨1, .arr (ints m.tgt.shape.fr)⟩), (7, ⟨1, .arr (ints m.tgt.shape.to)⟩), (8, ⟨1, .arr (ints m.tgt.shape.id)⟩), (9, ⟨1, .arr (intss m.tgt.shape.co)⟩), (10, ⟨1, .arr (ints m.tgt.sizes)⟩), (11, ⟨1, .arr (intss m.tgt.acts)⟩), (12, ⟨1, .arr (intss m.parts)⟩)] := by
  rcases h with ⟨s, h1, h2, rfl, rfl⟩ | ⟨hn, rfl⟩
  · exact sp_spec_ElementMap_yes s hb h1 h2
  · exact sp_spec_ElementMap_no hb hn
theorem sp_ElementMap_at {f : SF} {x e : Int} {m : SM} {code : Int} (hb : SFB f) (h : f.EOut x e m code) : Spec Tryz.prog 8 [sfV f, iv x, iv e] [] (.tup [.agg [iv m.src.shape.ob, .sl 0, .sl 1, .sl 2, .sl 3, .sl 4, .sl 5, iv m.tgt.shape.ob, .sl 6, .sl 7, .sl 8, .sl 9, .sl 10, .sl 11, .sl 12], iv code]) [(0, ⟨1, .arr (ints m.src.shape.fr)⟩), (1, ⟨1, .arr (ints m.src.shape.to)⟩), (2, ⟨1, .arr (ints m.src.shape.id)⟩), (3, ⟨1, .arr (intss m.src.shape.co)⟩), (4, ⟨1, .arr (ints m.src.sizes)⟩), (5, ⟨1, .arr (intss m.src.acts)⟩), (6, ⟨1, .arr (ints m.tgt.shape.fr)⟩), (7, ⟨1, .arr (ints m.tgt.shape.to)⟩), (8, ⟨1, .arr (ints m.tgt.shape.id)⟩), (9, ⟨1, .arr (intss m.tgt.shape.co)⟩), (10, ⟨1, .arr (ints m.tgt.sizes)⟩), (11, ⟨1, .arr (intss m.tgt.acts)⟩), (12, ⟨1, .arr (intss m.parts)⟩)] := by
  rcases h with ⟨s, h1, h2, rfl, rfl⟩ | ⟨hn, rfl⟩
  · exact sp_ElementMap_yes s hb h1 h2
  · exact sp_ElementMap_no hb hn

theorem sumLen_le_of {l : List (List Int)} {a b : Nat} (ha : l.length ≤ a) (hb : ∀ i, i < l.length → (l.getD i []).length ≤ b) : sumLen l ≤ a * b := by
  induction l generalizing a with
  | nil => simp [sumLen]
  | cons x l ih =>
    have h1 := hb 0 (by simp)
    have h2 := ih (a := l.length) (Nat.le_refl _) fun i hi => by have := hb (i + 1) (by simp; omega); simpa using this
    have e : sumLen (x :: l) = x.length + sumLen l := by simp [sumLen]
    rw [e]
    have h3 : x.length ≤ b := by simpa using h1
    simp only [List.length_cons] at ha
    calc x.length + sumLen l ≤ b + l.length * b := by omega
      _ = (l.length + 1) * b := by rw [Nat.succ_mul]; omega
      _ ≤ a * b := Nat.mul_le_mul_right b ha

theorem _root_.Go.Cats.CatB.mkn {c : Cat} (h : CatB c) : c.mkn ≤ 1099514773504 := by
  have h1 := sumLen_le_of h.co h.row
  have := h.fr; have := h.to; have := h.id
  unfold Go.Cats.Cat.mkn; omega
theorem _root_.Go.Cats.SFB.mkn {f : SF} (h : SFB f) : f.mkn ≤ 2199027449856 := by
  have h0 := h.shape.mkn
  have h1 := sumLen_le_of h.acts h.row
  have := h.sizes
  unfold Go.Cats.SF.mkn; omega
theorem _root_.Go.Cats.SMB.mkn {m : SM} (h : SMB m) : m.mkn ≤ 5497566527488 := by
  have h0 := h.src.mkn
  have h1 := h.tgt.mkn
  have h2 := sumLen_le_of h.parts h.row
  unfold Go.Cats.SM.mkn; omega

theorem cal_FnExactElementMap : Callable Tryz.prog 3 := ⟨_, Tryz.func3, rfl, rfl⟩
theorem sp_FnExactElementMap {f : SF} {x e : Int} (ht : SFT f) : Spec Tryz.prog 3 [sfV f, iv x, iv e] [] (bv true) [] := by
  refine spec_of_V (E := TE) 0 Tryz.func3 rfl (by simp [Tryz.f3]) fun X hn hX => ?_
  by_cases hz : (sfSz f : Int) ≤ 1048576
  · have hb := ht.b' (by omega)
    obtain ⟨m, code, ho⟩ := eout f x e
    have hM := eout_b hb ho
    have k1 := SFB.mkn hb
    have k2 := SMB.mkn hM
    repeat' (first
      | with_reducible first | refine V_seq ?_ | refine V_block ?_ | refine V_skip ?_ | refine V_ret ?_ | refine V_exit ?_
      | ((with_reducible refine V_cond ?_); simp only [go_sem, ↓reduceIte, Nat.reduceAdd, Nat.reduceSub, Nat.reduceMul, Nat.reduceDiv, Nat.reduceLT, Nat.reduceLeDiff, Nat.reduceEqDiff, Int.reduceToNat, reduceCtorEq])
      | ((first | refine V_region (by rw [hn]; rfl) ?_ | refine V_drawn hmix (by rw [hn]; rfl) ?_); intro K hK)
      | ((first | with_reducible refine evOps_n ?_ | ((with_reducible apply evOps_g); rfl) | with_reducible refine evOpsD_n ?_ | ((with_reducible apply evOpsD_g); rfl)); intro K hK; simp (contextual := true) only [go_sem, ↓reduceIte, Nat.reduceAdd, Nat.reduceSub, Nat.reduceMul, Nat.reduceDiv, Nat.reduceLT, Nat.reduceLeDiff, Nat.reduceEqDiff, Int.reduceToNat, reduceCtorEq])
      | with_reducible refine evOps_nil ?_
      | ((with_reducible refine evOpsD_nil ?_ ?_); kernel_rfl)
      | ((with_reducible refine hK _ ?_); clear hK K)
      | with_reducible first | refine And.intro ?_ ?_ | refine nxt_n ?_ | refine nxt_r ?_ | refine nxt_e ?_ | refine blk_n ?_ | refine blk_r ?_ | refine blk_same ?_ | refine blk_other (by decide) ?_ | refine noG_n ?_ | refine noG_r ?_ | refine noG_e ?_ | refine inR_mk ?_ ?_
      | ((with_reducible refine evCall_at 5 ?_); refine EvCall.rd (by first | (simp only [go_sem, ↓reduceIte, Nat.reduceAdd, Nat.reduceSub, Nat.reduceMul, Nat.reduceDiv, Nat.reduceLT, Nat.reduceLeDiff, Nat.reduceEqDiff, Int.reduceToNat, reduceCtorEq]; rfl) | rfl) (sp_szSetFunctor_yes (by first | omega | assumption | rfl | exact (by assumption : SMB _).src | exact (by assumption : SMB _).tgt) (by first | omega | assumption | rfl | exact (by assumption : SMB _).src | exact (by assumption : SMB _).tgt)) cal_szSetFunctor (by simp [go_sem]) (by simp [go_sem]) ?_; all_goals try simp only [go_sem, ↓reduceIte, Nat.reduceAdd, Nat.reduceSub, Nat.reduceMul, Nat.reduceDiv, Nat.reduceLT, Nat.reduceLeDiff, Nat.reduceEqDiff, Int.reduceToNat, reduceCtorEq])
      | ((with_reducible refine evCall_at 7 ?_); refine EvCall.rd (by first | (simp only [go_sem, ↓reduceIte, Nat.reduceAdd, Nat.reduceSub, Nat.reduceMul, Nat.reduceDiv, Nat.reduceLT, Nat.reduceLeDiff, Nat.reduceEqDiff, Int.reduceToNat, reduceCtorEq]; rfl) | rfl) (sp_toSetFunctor ?_) cal_toSetFunctor (by simp [go_sem]) (by simp [go_sem]) ?_; all_goals try simp only [go_sem, ↓reduceIte, Nat.reduceAdd, Nat.reduceSub, Nat.reduceMul, Nat.reduceDiv, Nat.reduceLT, Nat.reduceLeDiff, Nat.reduceEqDiff, Int.reduceToNat, reduceCtorEq])
      | ((with_reducible refine evCall_at 6 ?_); refine EvCall.rd (by first | (simp only [go_sem, ↓reduceIte, Nat.reduceAdd, Nat.reduceSub, Nat.reduceMul, Nat.reduceDiv, Nat.reduceLT, Nat.reduceLeDiff, Nat.reduceEqDiff, Int.reduceToNat, reduceCtorEq]; rfl) | rfl) (sp_spec_ElementMap_at (f:=f) (x:=x) (e:=e) (m:=m) (code:=code) (by first | omega | assumption | rfl | exact (by assumption : SMB _).src | exact (by assumption : SMB _).tgt) (by first | omega | assumption | rfl | exact (by assumption : SMB _).src | exact (by assumption : SMB _).tgt)) cal_spec_ElementMap (by simp [go_sem]) (by simp [go_sem]) ?_; all_goals try simp only [go_sem, ↓reduceIte, Nat.reduceAdd, Nat.reduceSub, Nat.reduceMul, Nat.reduceDiv, Nat.reduceLT, Nat.reduceLeDiff, Nat.reduceEqDiff, Int.reduceToNat, reduceCtorEq])
      | ((with_reducible refine evCall_at 8 ?_); refine EvCall.rd (by first | (simp only [go_sem, ↓reduceIte, Nat.reduceAdd, Nat.reduceSub, Nat.reduceMul, Nat.reduceDiv, Nat.reduceLT, Nat.reduceLeDiff, Nat.reduceEqDiff, Int.reduceToNat, reduceCtorEq]; rfl) | rfl) (sp_ElementMap_at (f:=f) (x:=x) (e:=e) (m:=m) (code:=code) (by first | omega | assumption | rfl | exact (by assumption : SMB _).src | exact (by assumption : SMB _).tgt) (by first | omega | assumption | rfl | exact (by assumption : SMB _).src | exact (by assumption : SMB _).tgt)) cal_ElementMap (by simp [go_sem]) (by simp [go_sem]) ?_; all_goals try simp only [go_sem, ↓reduceIte, Nat.reduceAdd, Nat.reduceSub, Nat.reduceMul, Nat.reduceDiv, Nat.reduceLT, Nat.reduceLeDiff, Nat.reduceEqDiff, Int.reduceToNat, reduceCtorEq])
      | ((with_reducible refine evCall_at 9 ?_); refine EvCall.rd (by first | (simp only [go_sem, ↓reduceIte, Nat.reduceAdd, Nat.reduceSub, Nat.reduceMul, Nat.reduceDiv, Nat.reduceLT, Nat.reduceLeDiff, Nat.reduceEqDiff, Int.reduceToNat, reduceCtorEq]; rfl) | rfl) (sp_eqSetMap (f:=m) (g:=m) ?_ ?_) cal_eqSetMap (by simp [go_sem]) (by simp [go_sem]) ?_; all_goals try simp only [go_sem, ↓reduceIte, Nat.reduceAdd, Nat.reduceSub, Nat.reduceMul, Nat.reduceDiv, Nat.reduceLT, Nat.reduceLeDiff, Nat.reduceEqDiff, Int.reduceToNat, reduceCtorEq])
      | ((with_reducible refine evCall_at 10 ?_); refine EvCall.rd (by first | (simp only [go_sem, ↓reduceIte, Nat.reduceAdd, Nat.reduceSub, Nat.reduceMul, Nat.reduceDiv, Nat.reduceLT, Nat.reduceLeDiff, Nat.reduceEqDiff, Int.reduceToNat, reduceCtorEq]; rfl) | rfl) (sp_eqSetFunctor (f:=f) (g:=f) ?_ ?_) cal_eqSetFunctor (by simp [go_sem]) (by simp [go_sem]) ?_; all_goals try simp only [go_sem, ↓reduceIte, Nat.reduceAdd, Nat.reduceSub, Nat.reduceMul, Nat.reduceDiv, Nat.reduceLT, Nat.reduceLeDiff, Nat.reduceEqDiff, Int.reduceToNat, reduceCtorEq])
      | ((with_reducible refine evCall_at 11 ?_); refine EvCall.mu (by first | (simp only [go_sem, ↓reduceIte, Nat.reduceAdd, Nat.reduceSub, Nat.reduceMul, Nat.reduceDiv, Nat.reduceLT, Nat.reduceLeDiff, Nat.reduceEqDiff, Int.reduceToNat, reduceCtorEq]; rfl) | rfl) (by first | (simp only [go_sem, ↓reduceIte, Nat.reduceAdd, Nat.reduceSub, Nat.reduceMul, Nat.reduceDiv, Nat.reduceLT, Nat.reduceLeDiff, Nat.reduceEqDiff, Int.reduceToNat, reduceCtorEq]; rfl) | rfl) (by first | (simp only [go_sem, ↓reduceIte, Nat.reduceAdd, Nat.reduceSub, Nat.reduceMul, Nat.reduceDiv, Nat.reduceLT, Nat.reduceLeDiff, Nat.reduceEqDiff, Int.reduceToNat, reduceCtorEq]; rfl) | rfl) (sp_markSetFunctor (f:=f) ?_ ?_ ?_) cal_markSetFunctor (by first | (simp only [go_sem, ↓reduceIte, Nat.reduceAdd, Nat.reduceSub, Nat.reduceMul, Nat.reduceDiv, Nat.reduceLT, Nat.reduceLeDiff, Nat.reduceEqDiff, Int.reduceToNat, reduceCtorEq]; rfl) | rfl) (by first | (simp only [go_sem, ↓reduceIte, Nat.reduceAdd, Nat.reduceSub, Nat.reduceMul, Nat.reduceDiv, Nat.reduceLT, Nat.reduceLeDiff, Nat.reduceEqDiff, Int.reduceToNat, reduceCtorEq]; rfl) | rfl) (by simp [go_sem]) (by simp [go_sem]) ?_; all_goals try simp only [go_sem, ↓reduceIte, Nat.reduceAdd, Nat.reduceSub, Nat.reduceMul, Nat.reduceDiv, Nat.reduceLT, Nat.reduceLeDiff, Nat.reduceEqDiff, Int.reduceToNat, reduceCtorEq])
      | ((with_reducible refine evCall_at 12 ?_); refine EvCall.mu (by first | (simp only [go_sem, ↓reduceIte, Nat.reduceAdd, Nat.reduceSub, Nat.reduceMul, Nat.reduceDiv, Nat.reduceLT, Nat.reduceLeDiff, Nat.reduceEqDiff, Int.reduceToNat, reduceCtorEq]; rfl) | rfl) (by first | (simp only [go_sem, ↓reduceIte, Nat.reduceAdd, Nat.reduceSub, Nat.reduceMul, Nat.reduceDiv, Nat.reduceLT, Nat.reduceLeDiff, Nat.reduceEqDiff, Int.reduceToNat, reduceCtorEq]; rfl) | rfl) (by first | (simp only [go_sem, ↓reduceIte, Nat.reduceAdd, Nat.reduceSub, Nat.reduceMul, Nat.reduceDiv, Nat.reduceLT, Nat.reduceLeDiff, Nat.reduceEqDiff, Int.reduceToNat, reduceCtorEq]; rfl) | rfl) (sp_markSetMap (m:=m) ?_ ?_ ?_) cal_markSetMap (by first | (simp only [go_sem, ↓reduceIte, Nat.reduceAdd, Nat.reduceSub, Nat.reduceMul, Nat.reduceDiv, Nat.reduceLT, Nat.reduceLeDiff, Nat.reduceEqDiff, Int.reduceToNat, reduceCtorEq]; rfl) | rfl) (by first | (simp only [go_sem, ↓reduceIte, Nat.reduceAdd, Nat.reduceSub, Nat.reduceMul, Nat.reduceDiv, Nat.reduceLT, Nat.reduceLeDiff, Nat.reduceEqDiff, Int.reduceToNat, reduceCtorEq]; rfl) | rfl) (by simp [go_sem]) (by simp [go_sem]) ?_; all_goals try simp only [go_sem, ↓reduceIte, Nat.reduceAdd, Nat.reduceSub, Nat.reduceMul, Nat.reduceDiv, Nat.reduceLT, Nat.reduceLeDiff, Nat.reduceEqDiff, Int.reduceToNat, reduceCtorEq])
      | ((with_reducible refine evCall_at 13 ?_); refine EvCall.rd (by first | (simp only [go_sem, ↓reduceIte, Nat.reduceAdd, Nat.reduceSub, Nat.reduceMul, Nat.reduceDiv, Nat.reduceLT, Nat.reduceLeDiff, Nat.reduceEqDiff, Int.reduceToNat, reduceCtorEq]; rfl) | rfl) (sp_heldSetMap_at (d:=m.mk_ 1) (m:=m) (k:=1) (by first | omega | assumption | rfl | exact (by assumption : SMB _).src | exact (by assumption : SMB _).tgt) (by first | omega | assumption | rfl | exact (by assumption : SMB _).src | exact (by assumption : SMB _).tgt) (by first | omega | assumption | rfl | exact (by assumption : SMB _).src | exact (by assumption : SMB _).tgt) (by first | omega | assumption | rfl | exact (by assumption : SMB _).src | exact (by assumption : SMB _).tgt)) cal_heldSetMap (by simp [go_sem]) (by simp [go_sem]) ?_; all_goals try simp only [go_sem, ↓reduceIte, Nat.reduceAdd, Nat.reduceSub, Nat.reduceMul, Nat.reduceDiv, Nat.reduceLT, Nat.reduceLeDiff, Nat.reduceEqDiff, Int.reduceToNat, reduceCtorEq])
      | (refine fun (hc : (_ : Bool) = _) => ?_; try simp only [decide_eq_true_eq, decide_eq_false_iff_not, Bool.not_eq_true', Bool.not_eq_false', Int.not_lt, Int.not_le, Cats.dec_iff, Cats.dec_not, Bool.and_eq_true, Bool.or_eq_true, Bool.and_eq_false_iff, Bool.or_eq_false_iff, Bool.not_eq_true, Bool.not_eq_false, Decidable.not_not, not_true_eq_false, not_false_eq_true] at hc))
    all_goals try (first | (with_reducible assumption) | ((try simp only [Cat.F, Cat.T, Cat.I, Cat.C, Fun.O, Fun.A, Cat.Entry, Int.toNat_natCast] at *); omega))
    (first | refine ret_auto ?_ | refine ret_auto' ?_); simp only [go_sem, ↓reduceIte, Nat.reduceAdd, Nat.reduceSub, Nat.reduceMul, Nat.reduceDiv, Nat.reduceLT, Nat.reduceLeDiff, Nat.reduceEqDiff, Int.reduceToNat, reduceCtorEq, Tryz.f3]
  · have hl := ht.l'
    repeat' (first
      | with_reducible first | refine V_seq ?_ | refine V_block ?_ | refine V_skip ?_ | refine V_ret ?_ | refine V_exit ?_
      | ((with_reducible refine V_cond ?_); simp only [go_sem, ↓reduceIte, Nat.reduceAdd, Nat.reduceSub, Nat.reduceMul, Nat.reduceDiv, Nat.reduceLT, Nat.reduceLeDiff, Nat.reduceEqDiff, Int.reduceToNat, reduceCtorEq])
      | ((first | refine V_region (by rw [hn]; rfl) ?_ | refine V_drawn hmix (by rw [hn]; rfl) ?_); intro K hK)
      | ((first | with_reducible refine evOps_n ?_ | ((with_reducible apply evOps_g); rfl) | with_reducible refine evOpsD_n ?_ | ((with_reducible apply evOpsD_g); rfl)); intro K hK; simp (contextual := true) only [go_sem, ↓reduceIte, Nat.reduceAdd, Nat.reduceSub, Nat.reduceMul, Nat.reduceDiv, Nat.reduceLT, Nat.reduceLeDiff, Nat.reduceEqDiff, Int.reduceToNat, reduceCtorEq])
      | with_reducible refine evOps_nil ?_
      | ((with_reducible refine evOpsD_nil ?_ ?_); kernel_rfl)
      | ((with_reducible refine hK _ ?_); clear hK K)
      | with_reducible first | refine And.intro ?_ ?_ | refine nxt_n ?_ | refine nxt_r ?_ | refine nxt_e ?_ | refine blk_n ?_ | refine blk_r ?_ | refine blk_same ?_ | refine blk_other (by decide) ?_ | refine noG_n ?_ | refine noG_r ?_ | refine noG_e ?_ | refine inR_mk ?_ ?_
      | ((with_reducible refine evCall_at 5 ?_); refine EvCall.rd (by first | (simp only [go_sem, ↓reduceIte, Nat.reduceAdd, Nat.reduceSub, Nat.reduceMul, Nat.reduceDiv, Nat.reduceLT, Nat.reduceLeDiff, Nat.reduceEqDiff, Int.reduceToNat, reduceCtorEq]; rfl) | rfl) (sp_szSetFunctor_no (by first | omega | assumption | rfl | exact (by assumption : SMB _).src | exact (by assumption : SMB _).tgt) (by first | omega | assumption | rfl | exact (by assumption : SMB _).src | exact (by assumption : SMB _).tgt) (by first | omega | assumption | rfl | exact (by assumption : SMB _).src | exact (by assumption : SMB _).tgt) (by first | omega | assumption | rfl | exact (by assumption : SMB _).src | exact (by assumption : SMB _).tgt)) cal_szSetFunctor (by simp [go_sem]) (by simp [go_sem]) ?_; all_goals try simp only [go_sem, ↓reduceIte, Nat.reduceAdd, Nat.reduceSub, Nat.reduceMul, Nat.reduceDiv, Nat.reduceLT, Nat.reduceLeDiff, Nat.reduceEqDiff, Int.reduceToNat, reduceCtorEq])
      | (refine fun (hc : (_ : Bool) = _) => ?_; try simp only [decide_eq_true_eq, decide_eq_false_iff_not, Bool.not_eq_true', Bool.not_eq_false', Int.not_lt, Int.not_le, Cats.dec_iff, Cats.dec_not, Bool.and_eq_true, Bool.or_eq_true, Bool.and_eq_false_iff, Bool.or_eq_false_iff, Bool.not_eq_true, Bool.not_eq_false, Decidable.not_not, not_true_eq_false, not_false_eq_true] at hc))
    all_goals try (first | (with_reducible assumption) | ((try simp only [Cat.F, Cat.T, Cat.I, Cat.C, Fun.O, Fun.A, Cat.Entry, Int.toNat_natCast] at *); omega))
    (first | refine ret_auto ?_ | refine ret_auto' ?_); simp only [go_sem, ↓reduceIte, Nat.reduceAdd, Nat.reduceSub, Nat.reduceMul, Nat.reduceDiv, Nat.reduceLT, Nat.reduceLeDiff, Nat.reduceEqDiff, Int.reduceToNat, reduceCtorEq, Tryz.f3]
end Go.Eng

namespace Go.Proofs.YtlofngpklcccmaaGreat
open Go Go.Eng Go.Cats Go.ChangeShapes Go.WideShapes Go.RowKit

theorem Tryz.own2_ : ownKnob Tryz.checked.prog.godebug = none := by kernel_rfl
theorem Tryz.laidOut2_ : laidOutB Tryz.prog = true := by kernel_rfl

theorem elementMap_lifted (os : Os) (started : os.Started) (H : Type) (enc : TypeId × Value → H) :
    ReturnsInHanded {} Tryz.checked os 3 .any (Rows.fnExactElementMapSpec.pre6 enc Tryz.prog Tryz.f3 Rows.fnExactElementMapRow.domain Rows.fnExactElementMapRow.apart) (Rows.fnExactElementMapSpec.post enc Tryz.prog Tryz.f3 Rows.fnExactElementMapRow.apart Rows.fnExactElementMapRow.fresh Rows.fnExactElementMapRow.handsOn Rows.fnExactElementMapRow.again) := by
  refine returnsInHanded_of_change (C := Tryz.checked) Tryz.own2_ started (by kernel_rfl) Tryz.func3
    (ChangeSpec.witness6 (enc := enc) (C := Tryz.checked) false ⟨#[], #[.agg #[.int .i64 0, .slice none 0 0, .slice none 0 0, .slice none 0 0, .slice none 0 0, .slice none 0 0, .slice none 0 0], .int .i64 0, .int .i64 0], []⟩ 8 (by kernel_rfl) (by kernel_rfl) (by kernel_rfl) (by kernel_rfl)) ?_
  intro W base args ds gs before hval0 hW hcnd _
  have hval : ∀ (j : Nat) t v, Tryz.f3.params[j]? = some t → args[j]? = some v → Value.okWide Tryz.prog W .any base t v := hval0
  have hW' := hW
  obtain ⟨p, q, hA0, hV, rfl, hfz, hnd⟩ := hW
  obtain ⟨rfl, rfl⟩ := trodVars_none hV
  have hA : DataW.TrodAll enc Tryz.prog W 0 (fun _ => true) true [27, 2, 2] args.toList ds p := hA0
  obtain ⟨v0, v1, v2, d0, d1, d2, p0, p1, p2, rfl, rfl, rfl, h0, h1, h2⟩ := trodAll_three hA
  obtain ⟨cs, rfl, _⟩ := okWide_struct Tryz.underlying27 (hval 0 27 v0 rfl rfl)
  obtain ⟨x, rfl⟩ := okWide_int Tryz.underlying2 (hval 1 2 v1 rfl rfl)
  obtain ⟨e, rfl⟩ := okWide_int Tryz.underlying2 (hval 2 2 v2 rfl rfl)
  obtain ⟨fuel, hf⟩ := h0
  have hf0 := hf
  rw [show (Value.agg cs).cells.toList = cs.toList from rfl] at hf
  obtain ⟨f, hm, hok⟩ := rd_sf hf
  have hlt : ∀ y ∈ p0 ++ p1 ++ p2, y.block < W.heap.size := fun y hy => hW'.lt y (by simpa using hy)
  refine (sp_FnExactElementMap (f := f) (x := x) (e := e) hm W (Old W) (Old W) _ [.agg cs, .int .i64 x, .int .i64 e] (hp_start W) ?_).mono fun ed W' ⟨v, c1, he, hp, hv, _⟩ => ?_
  · simp only [Sv.okL, Sv.ok]
    exact ⟨_, _, rfl, ⟨cs.toList, by simp, hok _ _⟩, _, _, rfl, rfl, _, _, rfl, rfl, rfl⟩
  · simp only [Sv.ok] at hv
    subst hv
    subst he
    have hb := below_of_hp hp
    refine ⟨_, rfl, post_law hW' rfl rfl Tryz.underlying4 rfl hb ?_⟩
    rw [List.append_nil, List.append_assoc]
    exact trodAll_mk3 (Below.trod Tryz.laidOut2_ (by kernel_rfl) (of_decide_eq_true (by kernel_rfl)) ⟨fuel, hf0⟩ hb (fun y hy => hlt y (by simp [hy]))) (Below.trod Tryz.laidOut2_ (by kernel_rfl) (of_decide_eq_true (by kernel_rfl)) h1 hb (fun y hy => hlt y (by simp [hy]))) (Below.trod Tryz.laidOut2_ (by kernel_rfl) (of_decide_eq_true (by kernel_rfl)) h2 hb (fun y hy => hlt y (by simp [hy])))

theorem elementMap_holds : Rows.FnExactElementMapSaid :=
  OpenClaim.holds_of_wide 3 Tryz.f3 rfl rfl rfl rfl rfl rfl rfl ⟨rfl, rfl, rfl, rfl, rfl⟩ rfl rfl rfl rfl rfl (by kernel_rfl) Tryz.func3 (by kernel_rfl)
    (of_decide_eq_true (by kernel_rfl)) (by unfold Func.isWrapper; first | (rw [if_pos (by decide +kernel)]; kernel_rfl) | (rw [if_neg (by decide +kernel)]; exact ⟨rfl, rfl⟩))
    (fun os started H enc _ => elementMap_lifted os started H enc)
#print axioms elementMap_holds
end Go.Proofs.YtlofngpklcccmaaGreat
