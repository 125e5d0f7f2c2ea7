/- The map of an element, by the reference and by the program: where it is made, and where it is not. -/
import Derived.Test.YtlofngpklcccmaaGreatKm
import Derived.Test.YtlofngpklcccmaaGreatO08q
import Derived.Test.YtlofngpklcccmaaGreatO09q
set_option linter.unusedSimpArgs false
set_option linter.unusedVariables false
set_option maxRecDepth 100000
set_option maxHeartbeats 8000000
namespace Go.Eng
open Go Go.Proofs Go.Cats

attribute [go_sem] List.set_cons_zero List.set_cons_succ
theorem V_atRet {X : Cx} {E : Env} {Q : Exit → Ss → Prop} {σ τ : Ss} (h : Imp X σ τ) (k : V X E .ret τ Q) : V X E .ret σ Q := V_imp h k
@[go_sem] theorem eMap_src (f : SF) (x e : Int) : (f.eMap x e).src = f.shape.rep x := rfl
@[go_sem] theorem eMap_tgt (f : SF) (x e : Int) : (f.eMap x e).tgt = f := rfl
@[go_sem] theorem eMap_parts (f : SF) (x e : Int) : (f.eMap x e).parts = f.eParts x e f.shape.ob.toNat := rfl

/-- Why there is no map of an element. -/
def _root_.Go.Cats.SF.ENo (f : SF) (x e code : Int) : Prop := (¬ IsSF f ∧ code = 1) ∨ (IsSF f ∧ ¬ f.Elem x e ∧ code = 2) ∨ (IsSF f ∧ f.Elem x e ∧ ¬ f.shape.small x ∧ code = 3)

theorem cal_spec_ElementMap : Callable Tryz.prog 6 := ⟨_, Tryz.func6, rfl, rfl⟩
theorem sp_spec_ElementMap_yes {f : SF} {x e : Int} (s : IsSF f) (hb : SFB f) (h : f.Elem x e) (hsm : f.shape.small x) : Spec Tryz.prog 6 [sfV f, iv x, iv e] []
    (.tup [.agg [iv f.shape.ob, .sl 0, .sl 1, .sl 2, .sl 3, .sl 4, .sl 5, iv f.shape.ob, .sl 6, .sl 7, .sl 8, .sl 9, .sl 10, .sl 11, .sl 12], iv 0]) [(0, ⟨1, .arr (ints f.shape.fr)⟩), (1, ⟨1, .arr (ints f.shape.to)⟩), (2, ⟨1, .arr (ints f.shape.id)⟩), (3, ⟨1, .arr (intss f.shape.co)⟩), (4, ⟨1, .arr (ints (f.shape.rep x).sizes)⟩), (5, ⟨1, .arr (intss (f.shape.rep x).acts)⟩), (6, ⟨1, .arr (ints f.shape.fr)⟩), (7, ⟨1, .arr (ints f.shape.to)⟩), (8, ⟨1, .arr (ints f.shape.id)⟩), (9, ⟨1, .arr (intss f.shape.co)⟩), (10, ⟨1, .arr (ints f.sizes)⟩), (11, ⟨1, .arr (intss f.acts)⟩), (12, ⟨1, .arr (intss (f.eParts x e f.shape.ob.toNat))⟩)] := by
  refine spec_of_V (E := TE) 0 Tryz.func6 rfl (by simp [Tryz.f6]) fun X hn hX => ?_
  have hbc := hb.shape
  have hS := s.cat.toShape
  have hM := SF.eMap_smb hS hb x e
  have hR := hM.src
  have hp := hM.parts
  have hrow := hM.row
  repeat' (first
    | with_reducible first | refine V_seq ?_ | refine V_block ?_ | refine V_skip ?_ | refine V_ret ?_ | refine V_exit ?_
    | ((with_reducible refine V_cond ?_); simp only [go_sem, ↓reduceIte, Nat.reduceAdd, Nat.reduceSub, Nat.reduceMul, Nat.reduceDiv, Nat.reduceLT, Nat.reduceLeDiff, Nat.reduceEqDiff, Int.reduceToNat, reduceCtorEq])
    | ((first | refine V_region (by rw [hn]; rfl) ?_ | refine V_drawn hmix (by rw [hn]; rfl) ?_); intro K hK)
    | ((first | with_reducible refine evOps_n ?_ | ((with_reducible apply evOps_g); rfl) | with_reducible refine evOpsD_n ?_ | ((with_reducible apply evOpsD_g); rfl)); intro K hK; simp (contextual := true) only [go_sem, ↓reduceIte, Nat.reduceAdd, Nat.reduceSub, Nat.reduceMul, Nat.reduceDiv, Nat.reduceLT, Nat.reduceLeDiff, Nat.reduceEqDiff, Int.reduceToNat, reduceCtorEq])
    | with_reducible refine evOps_nil ?_
    | ((with_reducible refine evOpsD_nil ?_ ?_); kernel_rfl)
    | ((with_reducible refine hK _ ?_); clear hK K)
    | with_reducible first | refine And.intro ?_ ?_ | refine nxt_n ?_ | refine nxt_r ?_ | refine nxt_e ?_ | refine blk_n ?_ | refine blk_r ?_ | refine blk_same ?_ | refine blk_other (by decide) ?_ | refine noG_n ?_ | refine noG_r ?_ | refine noG_e ?_ | refine inR_mk ?_ ?_
    | ((with_reducible refine evCall_at 21 ?_); refine EvCall.rd (by first | (simp only [go_sem, ↓reduceIte, Nat.reduceAdd, Nat.reduceSub, Nat.reduceMul, Nat.reduceDiv, Nat.reduceLT, Nat.reduceLeDiff, Nat.reduceEqDiff, Int.reduceToNat, reduceCtorEq]; rfl) | rfl) (sp_l19Is ?_) cal_l19Is (by simp [go_sem]) (by simp [go_sem]) ?_; all_goals try simp only [go_sem, ↓reduceIte, Nat.reduceAdd, Nat.reduceSub, Nat.reduceMul, Nat.reduceDiv, Nat.reduceLT, Nat.reduceLeDiff, Nat.reduceEqDiff, Int.reduceToNat, reduceCtorEq])
    | ((with_reducible refine evCall_at 22 ?_); refine EvCall.rd (by first | (simp only [go_sem, ↓reduceIte, Nat.reduceAdd, Nat.reduceSub, Nat.reduceMul, Nat.reduceDiv, Nat.reduceLT, Nat.reduceLeDiff, Nat.reduceEqDiff, Int.reduceToNat, reduceCtorEq]; rfl) | rfl) (sp_l19Element ?_) cal_l19Element (by simp [go_sem]) (by simp [go_sem]) ?_; all_goals try simp only [go_sem, ↓reduceIte, Nat.reduceAdd, Nat.reduceSub, Nat.reduceMul, Nat.reduceDiv, Nat.reduceLT, Nat.reduceLeDiff, Nat.reduceEqDiff, Int.reduceToNat, reduceCtorEq])
    | ((with_reducible refine evCall_at 23 ?_); refine EvCall.rd (by first | (simp only [go_sem, ↓reduceIte, Nat.reduceAdd, Nat.reduceSub, Nat.reduceMul, Nat.reduceDiv, Nat.reduceLT, Nat.reduceLeDiff, Nat.reduceEqDiff, Int.reduceToNat, reduceCtorEq]; rfl) | rfl) (sp_l20Small ?_) cal_l20Small (by simp [go_sem]) (by simp [go_sem]) ?_; all_goals try simp only [go_sem, ↓reduceIte, Nat.reduceAdd, Nat.reduceSub, Nat.reduceMul, Nat.reduceDiv, Nat.reduceLT, Nat.reduceLeDiff, Nat.reduceEqDiff, Int.reduceToNat, reduceCtorEq])
    | ((with_reducible refine evCall_at 25 ?_); refine EvCall.rd (by first | (simp only [go_sem, ↓reduceIte, Nat.reduceAdd, Nat.reduceSub, Nat.reduceMul, Nat.reduceDiv, Nat.reduceLT, Nat.reduceLeDiff, Nat.reduceEqDiff, Int.reduceToNat, reduceCtorEq]; rfl) | rfl) (sp_l20Rep ?_ ?_) cal_l20Rep (by simp [go_sem]) (by simp [go_sem]) ?_; all_goals try simp only [go_sem, ↓reduceIte, Nat.reduceAdd, Nat.reduceSub, Nat.reduceMul, Nat.reduceDiv, Nat.reduceLT, Nat.reduceLeDiff, Nat.reduceEqDiff, Int.reduceToNat, reduceCtorEq])
    | ((with_reducible refine evCall_at 26 ?_); refine EvCall.rd (by first | (simp only [go_sem, ↓reduceIte, Nat.reduceAdd, Nat.reduceSub, Nat.reduceMul, Nat.reduceDiv, Nat.reduceLT, Nat.reduceLeDiff, Nat.reduceEqDiff, Int.reduceToNat, reduceCtorEq]; rfl) | rfl) (sp_l20Parts ?_ ?_ ?_) cal_l20Parts (by simp [go_sem]) (by simp [go_sem]) ?_; all_goals try simp only [go_sem, ↓reduceIte, Nat.reduceAdd, Nat.reduceSub, Nat.reduceMul, Nat.reduceDiv, Nat.reduceLT, Nat.reduceLeDiff, Nat.reduceEqDiff, Int.reduceToNat, reduceCtorEq])
    | ((with_reducible refine evCall_at 24 ?_); refine EvCall.rd (by first | (simp only [go_sem, ↓reduceIte, Nat.reduceAdd, Nat.reduceSub, Nat.reduceMul, Nat.reduceDiv, Nat.reduceLT, Nat.reduceLeDiff, Nat.reduceEqDiff, Int.reduceToNat, reduceCtorEq]; rfl) | rfl) (sp_l19Make (f:=f.shape.rep x) (g:=f) ?_ ?_ ?_ ?_) cal_l19Make (by simp [go_sem]) (by simp [go_sem]) ?_; all_goals try simp only [go_sem, ↓reduceIte, Nat.reduceAdd, Nat.reduceSub, Nat.reduceMul, Nat.reduceDiv, Nat.reduceLT, Nat.reduceLeDiff, Nat.reduceEqDiff, Int.reduceToNat, reduceCtorEq])
    | (refine fun (hc : (_ : Bool) = _) => ?_; try simp only [decide_eq_true_eq, decide_eq_false_iff_not, Bool.not_eq_true', Bool.not_eq_false', Int.not_lt, Int.not_le, Cats.dec_iff, Cats.dec_not, Bool.and_eq_true, Bool.or_eq_true, Bool.and_eq_false_iff, Bool.or_eq_false_iff, Bool.not_eq_true, Bool.not_eq_false, Decidable.not_not, not_true_eq_false, not_false_eq_true] at hc))
  all_goals try (first | (with_reducible assumption) | ((try simp only [Cat.F, Cat.T, Cat.I, Cat.C, Fun.O, Fun.A, Cat.Entry, Int.toNat_natCast] at *); omega))
  all_goals try (first | exact absurd s hc | exact absurd h hc | exact absurd hsm hc)
  · exact hR
  · have := hS.ob8; omega
  · exact fun i hi => hrow i (by show i < (f.eParts x e f.shape.ob.toNat).length; rw [SF.eParts_len]; exact hi)
  · (first | refine ret_auto ?_ | refine ret_auto' ?_); simp only [go_sem, ↓reduceIte, Nat.reduceAdd, Nat.reduceSub, Nat.reduceMul, Nat.reduceDiv, Nat.reduceLT, Nat.reduceLeDiff, Nat.reduceEqDiff, Int.reduceToNat, reduceCtorEq, Tryz.f6]
theorem sp_spec_ElementMap_no {f : SF} {x e code : Int} (hb : SFB f) (hno : f.ENo x e code) : Spec Tryz.prog 6 [sfV f, iv x, iv e] []
    (.tup [.agg [iv 0, .sl 0, .sl 1, .sl 2, .sl 3, .sl 4, .sl 5, iv 0, .sl 6, .sl 7, .sl 8, .sl 9, .sl 10, .sl 11, .sl 12], iv code]) [(0, ⟨1, .arr (ints [])⟩), (1, ⟨1, .arr (ints [])⟩), (2, ⟨1, .arr (ints [])⟩), (3, ⟨1, .arr (intss [])⟩), (4, ⟨1, .arr (ints [])⟩), (5, ⟨1, .arr (intss [])⟩), (6, ⟨1, .arr (ints [])⟩), (7, ⟨1, .arr (ints [])⟩), (8, ⟨1, .arr (ints [])⟩), (9, ⟨1, .arr (intss [])⟩), (10, ⟨1, .arr (ints [])⟩), (11, ⟨1, .arr (intss [])⟩), (12, ⟨1, .arr (intss [])⟩)] := by
  refine spec_of_V (E := TE) 0 Tryz.func6 rfl (by simp [Tryz.f6]) fun X hn hX => ?_
  rcases hno with ⟨n1, rfl⟩ | ⟨s, n2, rfl⟩ | ⟨s, h, n3, rfl⟩
  · repeat' (first
      | refine V_atRet (Imp.adoptBi 1 1 _ _ rfl rfl rfl (by rw [hX]; rfl)) ?_
      | refine V_atRet (Imp.adoptBi 1 2 _ _ rfl rfl rfl (by rw [hX]; rfl)) ?_
      | refine V_atRet (Imp.adoptBi 1 3 _ _ rfl rfl rfl (by rw [hX]; rfl)) ?_
      | refine V_atRet (Imp.adoptBs 1 4 _ _ rfl rfl rfl (by rw [hX]; rfl)) ?_
      | refine V_atRet (Imp.adoptBi 1 5 _ _ rfl rfl rfl (by rw [hX]; rfl)) ?_
      | refine V_atRet (Imp.adoptBs 1 6 _ _ rfl rfl rfl (by rw [hX]; rfl)) ?_
      | refine V_atRet (Imp.adoptBi 1 8 _ _ rfl rfl rfl (by rw [hX]; rfl)) ?_
      | refine V_atRet (Imp.adoptBi 1 9 _ _ rfl rfl rfl (by rw [hX]; rfl)) ?_
      | refine V_atRet (Imp.adoptBi 1 10 _ _ rfl rfl rfl (by rw [hX]; rfl)) ?_
      | refine V_atRet (Imp.adoptBs 1 11 _ _ rfl rfl rfl (by rw [hX]; rfl)) ?_
      | refine V_atRet (Imp.adoptBi 1 12 _ _ rfl rfl rfl (by rw [hX]; rfl)) ?_
      | refine V_atRet (Imp.adoptBs 1 13 _ _ rfl rfl rfl (by rw [hX]; rfl)) ?_
      | refine V_atRet (Imp.adoptBs 1 14 _ _ rfl rfl rfl (by rw [hX]; rfl)) ?_
      | with_reducible first | refine V_seq ?_ | refine V_block ?_ | refine V_skip ?_ | refine V_ret ?_ | refine V_exit ?_
      | ((with_reducible refine V_cond ?_); simp only [go_sem, ↓reduceIte, Nat.reduceAdd, Nat.reduceSub, Nat.reduceMul, Nat.reduceDiv, Nat.reduceLT, Nat.reduceLeDiff, Nat.reduceEqDiff, Int.reduceToNat, reduceCtorEq])
      | ((first | refine V_region (by rw [hn]; rfl) ?_ | refine V_drawn hmix (by rw [hn]; rfl) ?_); intro K hK)
      | ((first | with_reducible refine evOps_n ?_ | ((with_reducible apply evOps_g); rfl) | with_reducible refine evOpsD_n ?_ | ((with_reducible apply evOpsD_g); rfl)); intro K hK; simp (contextual := true) only [go_sem, ↓reduceIte, Nat.reduceAdd, Nat.reduceSub, Nat.reduceMul, Nat.reduceDiv, Nat.reduceLT, Nat.reduceLeDiff, Nat.reduceEqDiff, Int.reduceToNat, reduceCtorEq])
      | with_reducible refine evOps_nil ?_
      | ((with_reducible refine evOpsD_nil ?_ ?_); kernel_rfl)
      | ((with_reducible refine hK _ ?_); clear hK K)
      | with_reducible first | refine And.intro ?_ ?_ | refine nxt_n ?_ | refine nxt_r ?_ | refine nxt_e ?_ | refine blk_n ?_ | refine blk_r ?_ | refine blk_same ?_ | refine blk_other (by decide) ?_ | refine noG_n ?_ | refine noG_r ?_ | refine noG_e ?_ | refine inR_mk ?_ ?_
      | ((with_reducible refine evCall_at 21 ?_); refine EvCall.rd (by first | (simp only [go_sem, ↓reduceIte, Nat.reduceAdd, Nat.reduceSub, Nat.reduceMul, Nat.reduceDiv, Nat.reduceLT, Nat.reduceLeDiff, Nat.reduceEqDiff, Int.reduceToNat, reduceCtorEq]; rfl) | rfl) (sp_l19Is ?_) cal_l19Is (by simp [go_sem]) (by simp [go_sem]) ?_; all_goals try simp only [go_sem, ↓reduceIte, Nat.reduceAdd, Nat.reduceSub, Nat.reduceMul, Nat.reduceDiv, Nat.reduceLT, Nat.reduceLeDiff, Nat.reduceEqDiff, Int.reduceToNat, reduceCtorEq])
      | (refine fun (hc : (_ : Bool) = _) => ?_; try simp only [decide_eq_true_eq, decide_eq_false_iff_not, Bool.not_eq_true', Bool.not_eq_false', Int.not_lt, Int.not_le, Cats.dec_iff, Cats.dec_not, Bool.and_eq_true, Bool.or_eq_true, Bool.and_eq_false_iff, Bool.or_eq_false_iff, Bool.not_eq_true, Bool.not_eq_false, Decidable.not_not, not_true_eq_false, not_false_eq_true] at hc))
    all_goals try (first | (with_reducible assumption) | ((try simp only [Cat.F, Cat.T, Cat.I, Cat.C, Fun.O, Fun.A, Cat.Entry, Int.toNat_natCast] at *); omega))
    · (first | refine ret_auto ?_ | refine ret_auto' ?_); simp only [go_sem, ↓reduceIte, Nat.reduceAdd, Nat.reduceSub, Nat.reduceMul, Nat.reduceDiv, Nat.reduceLT, Nat.reduceLeDiff, Nat.reduceEqDiff, Int.reduceToNat, reduceCtorEq, Tryz.f6]
    all_goals exact absurd (by assumption) n1
  · repeat' (first
      | refine V_atRet (Imp.adoptBi 1 1 _ _ rfl rfl rfl (by rw [hX]; rfl)) ?_
      | refine V_atRet (Imp.adoptBi 1 2 _ _ rfl rfl rfl (by rw [hX]; rfl)) ?_
      | refine V_atRet (Imp.adoptBi 1 3 _ _ rfl rfl rfl (by rw [hX]; rfl)) ?_
      | refine V_atRet (Imp.adoptBs 1 4 _ _ rfl rfl rfl (by rw [hX]; rfl)) ?_
      | refine V_atRet (Imp.adoptBi 1 5 _ _ rfl rfl rfl (by rw [hX]; rfl)) ?_
      | refine V_atRet (Imp.adoptBs 1 6 _ _ rfl rfl rfl (by rw [hX]; rfl)) ?_
      | refine V_atRet (Imp.adoptBi 1 8 _ _ rfl rfl rfl (by rw [hX]; rfl)) ?_
      | refine V_atRet (Imp.adoptBi 1 9 _ _ rfl rfl rfl (by rw [hX]; rfl)) ?_
      | refine V_atRet (Imp.adoptBi 1 10 _ _ rfl rfl rfl (by rw [hX]; rfl)) ?_
      | refine V_atRet (Imp.adoptBs 1 11 _ _ rfl rfl rfl (by rw [hX]; rfl)) ?_
      | refine V_atRet (Imp.adoptBi 1 12 _ _ rfl rfl rfl (by rw [hX]; rfl)) ?_
      | refine V_atRet (Imp.adoptBs 1 13 _ _ rfl rfl rfl (by rw [hX]; rfl)) ?_
      | refine V_atRet (Imp.adoptBs 1 14 _ _ rfl rfl rfl (by rw [hX]; rfl)) ?_
      | with_reducible first | refine V_seq ?_ | refine V_block ?_ | refine V_skip ?_ | refine V_ret ?_ | refine V_exit ?_
      | ((with_reducible refine V_cond ?_); simp only [go_sem, ↓reduceIte, Nat.reduceAdd, Nat.reduceSub, Nat.reduceMul, Nat.reduceDiv, Nat.reduceLT, Nat.reduceLeDiff, Nat.reduceEqDiff, Int.reduceToNat, reduceCtorEq])
      | ((first | refine V_region (by rw [hn]; rfl) ?_ | refine V_drawn hmix (by rw [hn]; rfl) ?_); intro K hK)
      | ((first | with_reducible refine evOps_n ?_ | ((with_reducible apply evOps_g); rfl) | with_reducible refine evOpsD_n ?_ | ((with_reducible apply evOpsD_g); rfl)); intro K hK; simp (contextual := true) only [go_sem, ↓reduceIte, Nat.reduceAdd, Nat.reduceSub, Nat.reduceMul, Nat.reduceDiv, Nat.reduceLT, Nat.reduceLeDiff, Nat.reduceEqDiff, Int.reduceToNat, reduceCtorEq])
      | with_reducible refine evOps_nil ?_
      | ((with_reducible refine evOpsD_nil ?_ ?_); kernel_rfl)
      | ((with_reducible refine hK _ ?_); clear hK K)
      | with_reducible first | refine And.intro ?_ ?_ | refine nxt_n ?_ | refine nxt_r ?_ | refine nxt_e ?_ | refine blk_n ?_ | refine blk_r ?_ | refine blk_same ?_ | refine blk_other (by decide) ?_ | refine noG_n ?_ | refine noG_r ?_ | refine noG_e ?_ | refine inR_mk ?_ ?_
      | ((with_reducible refine evCall_at 21 ?_); refine EvCall.rd (by first | (simp only [go_sem, ↓reduceIte, Nat.reduceAdd, Nat.reduceSub, Nat.reduceMul, Nat.reduceDiv, Nat.reduceLT, Nat.reduceLeDiff, Nat.reduceEqDiff, Int.reduceToNat, reduceCtorEq]; rfl) | rfl) (sp_l19Is ?_) cal_l19Is (by simp [go_sem]) (by simp [go_sem]) ?_; all_goals try simp only [go_sem, ↓reduceIte, Nat.reduceAdd, Nat.reduceSub, Nat.reduceMul, Nat.reduceDiv, Nat.reduceLT, Nat.reduceLeDiff, Nat.reduceEqDiff, Int.reduceToNat, reduceCtorEq])
      | ((with_reducible refine evCall_at 22 ?_); refine EvCall.rd (by first | (simp only [go_sem, ↓reduceIte, Nat.reduceAdd, Nat.reduceSub, Nat.reduceMul, Nat.reduceDiv, Nat.reduceLT, Nat.reduceLeDiff, Nat.reduceEqDiff, Int.reduceToNat, reduceCtorEq]; rfl) | rfl) (sp_l19Element ?_) cal_l19Element (by simp [go_sem]) (by simp [go_sem]) ?_; all_goals try simp only [go_sem, ↓reduceIte, Nat.reduceAdd, Nat.reduceSub, Nat.reduceMul, Nat.reduceDiv, Nat.reduceLT, Nat.reduceLeDiff, Nat.reduceEqDiff, Int.reduceToNat, reduceCtorEq])
      | (refine fun (hc : (_ : Bool) = _) => ?_; try simp only [decide_eq_true_eq, decide_eq_false_iff_not, Bool.not_eq_true', Bool.not_eq_false', Int.not_lt, Int.not_le, Cats.dec_iff, Cats.dec_not, Bool.and_eq_true, Bool.or_eq_true, Bool.and_eq_false_iff, Bool.or_eq_false_iff, Bool.not_eq_true, Bool.not_eq_false, Decidable.not_not, not_true_eq_false, not_false_eq_true] at hc))
    all_goals try (first | (with_reducible assumption) | ((try simp only [Cat.F, Cat.T, Cat.I, Cat.C, Fun.O, Fun.A, Cat.Entry, Int.toNat_natCast] at *); omega))
    · exact absurd s hc
    · (first | refine ret_auto ?_ | refine ret_auto' ?_); simp only [go_sem, ↓reduceIte, Nat.reduceAdd, Nat.reduceSub, Nat.reduceMul, Nat.reduceDiv, Nat.reduceLT, Nat.reduceLeDiff, Nat.reduceEqDiff, Int.reduceToNat, reduceCtorEq, Tryz.f6]
    all_goals exact absurd (by assumption) n2
  · have hS := s.cat.toShape
    repeat' (first
      | refine V_atRet (Imp.adoptBi 1 1 _ _ rfl rfl rfl (by rw [hX]; rfl)) ?_
      | refine V_atRet (Imp.adoptBi 1 2 _ _ rfl rfl rfl (by rw [hX]; rfl)) ?_
      | refine V_atRet (Imp.adoptBi 1 3 _ _ rfl rfl rfl (by rw [hX]; rfl)) ?_
      | refine V_atRet (Imp.adoptBs 1 4 _ _ rfl rfl rfl (by rw [hX]; rfl)) ?_
      | refine V_atRet (Imp.adoptBi 1 5 _ _ rfl rfl rfl (by rw [hX]; rfl)) ?_
      | refine V_atRet (Imp.adoptBs 1 6 _ _ rfl rfl rfl (by rw [hX]; rfl)) ?_
      | refine V_atRet (Imp.adoptBi 1 8 _ _ rfl rfl rfl (by rw [hX]; rfl)) ?_
      | refine V_atRet (Imp.adoptBi 1 9 _ _ rfl rfl rfl (by rw [hX]; rfl)) ?_
      | refine V_atRet (Imp.adoptBi 1 10 _ _ rfl rfl rfl (by rw [hX]; rfl)) ?_
      | refine V_atRet (Imp.adoptBs 1 11 _ _ rfl rfl rfl (by rw [hX]; rfl)) ?_
      | refine V_atRet (Imp.adoptBi 1 12 _ _ rfl rfl rfl (by rw [hX]; rfl)) ?_
      | refine V_atRet (Imp.adoptBs 1 13 _ _ rfl rfl rfl (by rw [hX]; rfl)) ?_
      | refine V_atRet (Imp.adoptBs 1 14 _ _ rfl rfl rfl (by rw [hX]; rfl)) ?_
      | with_reducible first | refine V_seq ?_ | refine V_block ?_ | refine V_skip ?_ | refine V_ret ?_ | refine V_exit ?_
      | ((with_reducible refine V_cond ?_); simp only [go_sem, ↓reduceIte, Nat.reduceAdd, Nat.reduceSub, Nat.reduceMul, Nat.reduceDiv, Nat.reduceLT, Nat.reduceLeDiff, Nat.reduceEqDiff, Int.reduceToNat, reduceCtorEq])
      | ((first | refine V_region (by rw [hn]; rfl) ?_ | refine V_drawn hmix (by rw [hn]; rfl) ?_); intro K hK)
      | ((first | with_reducible refine evOps_n ?_ | ((with_reducible apply evOps_g); rfl) | with_reducible refine evOpsD_n ?_ | ((with_reducible apply evOpsD_g); rfl)); intro K hK; simp (contextual := true) only [go_sem, ↓reduceIte, Nat.reduceAdd, Nat.reduceSub, Nat.reduceMul, Nat.reduceDiv, Nat.reduceLT, Nat.reduceLeDiff, Nat.reduceEqDiff, Int.reduceToNat, reduceCtorEq])
      | with_reducible refine evOps_nil ?_
      | ((with_reducible refine evOpsD_nil ?_ ?_); kernel_rfl)
      | ((with_reducible refine hK _ ?_); clear hK K)
      | with_reducible first | refine And.intro ?_ ?_ | refine nxt_n ?_ | refine nxt_r ?_ | refine nxt_e ?_ | refine blk_n ?_ | refine blk_r ?_ | refine blk_same ?_ | refine blk_other (by decide) ?_ | refine noG_n ?_ | refine noG_r ?_ | refine noG_e ?_ | refine inR_mk ?_ ?_
      | ((with_reducible refine evCall_at 21 ?_); refine EvCall.rd (by first | (simp only [go_sem, ↓reduceIte, Nat.reduceAdd, Nat.reduceSub, Nat.reduceMul, Nat.reduceDiv, Nat.reduceLT, Nat.reduceLeDiff, Nat.reduceEqDiff, Int.reduceToNat, reduceCtorEq]; rfl) | rfl) (sp_l19Is ?_) cal_l19Is (by simp [go_sem]) (by simp [go_sem]) ?_; all_goals try simp only [go_sem, ↓reduceIte, Nat.reduceAdd, Nat.reduceSub, Nat.reduceMul, Nat.reduceDiv, Nat.reduceLT, Nat.reduceLeDiff, Nat.reduceEqDiff, Int.reduceToNat, reduceCtorEq])
      | ((with_reducible refine evCall_at 22 ?_); refine EvCall.rd (by first | (simp only [go_sem, ↓reduceIte, Nat.reduceAdd, Nat.reduceSub, Nat.reduceMul, Nat.reduceDiv, Nat.reduceLT, Nat.reduceLeDiff, Nat.reduceEqDiff, Int.reduceToNat, reduceCtorEq]; rfl) | rfl) (sp_l19Element ?_) cal_l19Element (by simp [go_sem]) (by simp [go_sem]) ?_; all_goals try simp only [go_sem, ↓reduceIte, Nat.reduceAdd, Nat.reduceSub, Nat.reduceMul, Nat.reduceDiv, Nat.reduceLT, Nat.reduceLeDiff, Nat.reduceEqDiff, Int.reduceToNat, reduceCtorEq])
      | ((with_reducible refine evCall_at 23 ?_); refine EvCall.rd (by first | (simp only [go_sem, ↓reduceIte, Nat.reduceAdd, Nat.reduceSub, Nat.reduceMul, Nat.reduceDiv, Nat.reduceLT, Nat.reduceLeDiff, Nat.reduceEqDiff, Int.reduceToNat, reduceCtorEq]; rfl) | rfl) (sp_l20Small ?_) cal_l20Small (by simp [go_sem]) (by simp [go_sem]) ?_; all_goals try simp only [go_sem, ↓reduceIte, Nat.reduceAdd, Nat.reduceSub, Nat.reduceMul, Nat.reduceDiv, Nat.reduceLT, Nat.reduceLeDiff, Nat.reduceEqDiff, Int.reduceToNat, reduceCtorEq])
      | (refine fun (hc : (_ : Bool) = _) => ?_; try simp only [decide_eq_true_eq, decide_eq_false_iff_not, Bool.not_eq_true', Bool.not_eq_false', Int.not_lt, Int.not_le, Cats.dec_iff, Cats.dec_not, Bool.and_eq_true, Bool.or_eq_true, Bool.and_eq_false_iff, Bool.or_eq_false_iff, Bool.not_eq_true, Bool.not_eq_false, Decidable.not_not, not_true_eq_false, not_false_eq_true] at hc))
    all_goals try (first | (with_reducible assumption) | ((try simp only [Cat.F, Cat.T, Cat.I, Cat.C, Fun.O, Fun.A, Cat.Entry, Int.toNat_natCast] at *); omega))
    · exact absurd s hc
    · exact absurd h hc
    · (first | refine ret_auto ?_ | refine ret_auto' ?_); simp only [go_sem, ↓reduceIte, Nat.reduceAdd, Nat.reduceSub, Nat.reduceMul, Nat.reduceDiv, Nat.reduceLT, Nat.reduceLeDiff, Nat.reduceEqDiff, Int.reduceToNat, reduceCtorEq, Tryz.f6]
    all_goals exact absurd (by assumption) n3

theorem cal_ElementMap : Callable Tryz.prog 8 := ⟨_, Tryz.func8, rfl, rfl⟩
theorem sp_ElementMap_yes {f : SF} {x e : Int} (s : IsSF f) (hb : SFB f) (h : f.Elem x e) (hsm : f.shape.small x) : Spec Tryz.prog 8 [sfV f, iv x, iv e] []
    (.tup [.agg [iv f.shape.ob, .sl 0, .sl 1, .sl 2, .sl 3, .sl 4, .sl 5, iv f.shape.ob, .sl 6, .sl 7, .sl 8, .sl 9, .sl 10, .sl 11, .sl 12], iv 0]) [(0, ⟨1, .arr (ints f.shape.fr)⟩), (1, ⟨1, .arr (ints f.shape.to)⟩), (2, ⟨1, .arr (ints f.shape.id)⟩), (3, ⟨1, .arr (intss f.shape.co)⟩), (4, ⟨1, .arr (ints (f.shape.rep x).sizes)⟩), (5, ⟨1, .arr (intss (f.shape.rep x).acts)⟩), (6, ⟨1, .arr (ints f.shape.fr)⟩), (7, ⟨1, .arr (ints f.shape.to)⟩), (8, ⟨1, .arr (ints f.shape.id)⟩), (9, ⟨1, .arr (intss f.shape.co)⟩), (10, ⟨1, .arr (ints f.sizes)⟩), (11, ⟨1, .arr (intss f.acts)⟩), (12, ⟨1, .arr (intss (f.eParts x e f.shape.ob.toNat))⟩)] := by
  refine spec_of_V (E := TE) 0 Tryz.func8 rfl (by simp [Tryz.f8]) fun X hn hX => ?_
  have hbc := hb.shape
  have hS := s.cat.toShape
  have hM := SF.eMap_smb hS hb x e
  have hR := hM.src
  have hp := hM.parts
  have hrow := hM.row
  have hd := dec_t h
  repeat' (first
    | with_reducible first | refine V_seq ?_ | refine V_block ?_ | refine V_skip ?_ | refine V_ret ?_ | refine V_exit ?_
    | ((with_reducible refine V_cond ?_); simp only [go_sem, ↓reduceIte, Nat.reduceAdd, Nat.reduceSub, Nat.reduceMul, Nat.reduceDiv, Nat.reduceLT, Nat.reduceLeDiff, Nat.reduceEqDiff, Int.reduceToNat, reduceCtorEq])
    | ((first | refine V_region (by rw [hn]; rfl) ?_ | refine V_drawn hmix (by rw [hn]; rfl) ?_); intro K hK)
    | ((first | with_reducible refine evOps_n ?_ | ((with_reducible apply evOps_g); rfl) | with_reducible refine evOpsD_n ?_ | ((with_reducible apply evOpsD_g); rfl)); intro K hK; simp (contextual := true) only [go_sem, ↓reduceIte, Nat.reduceAdd, Nat.reduceSub, Nat.reduceMul, Nat.reduceDiv, Nat.reduceLT, Nat.reduceLeDiff, Nat.reduceEqDiff, Int.reduceToNat, reduceCtorEq])
    | with_reducible refine evOps_nil ?_
    | ((with_reducible refine evOpsD_nil ?_ ?_); kernel_rfl)
    | ((with_reducible refine hK _ ?_); clear hK K)
    | with_reducible first | refine And.intro ?_ ?_ | refine nxt_n ?_ | refine nxt_r ?_ | refine nxt_e ?_ | refine blk_n ?_ | refine blk_r ?_ | refine blk_same ?_ | refine blk_other (by decide) ?_ | refine noG_n ?_ | refine noG_r ?_ | refine noG_e ?_ | refine inR_mk ?_ ?_
    | ((with_reducible refine evCall_at 30 ?_); refine EvCall.rd (by first | (simp only [go_sem, ↓reduceIte, Nat.reduceAdd, Nat.reduceSub, Nat.reduceMul, Nat.reduceDiv, Nat.reduceLT, Nat.reduceLeDiff, Nat.reduceEqDiff, Int.reduceToNat, reduceCtorEq]; rfl) | rfl) (sp_SetFunctor_elementCode ?_ ?_) cal_SetFunctor_elementCode (by simp [go_sem]) (by simp [go_sem]) ?_; all_goals try simp only [go_sem, ↓reduceIte, Nat.reduceAdd, Nat.reduceSub, Nat.reduceMul, Nat.reduceDiv, Nat.reduceLT, Nat.reduceLeDiff, Nat.reduceEqDiff, Int.reduceToNat, reduceCtorEq])
    | ((with_reducible refine evCall_at 31 ?_); refine EvCall.mk (sp_Category_representable_yes (x:=x) hS hbc hsm) cal_Category_representable [(0,2),(1,3),(2,4),(3,5),(4,6),(5,7)] [0] (by simp [go_sem] <;> first | rfl | exact ⟨rfl, rfl⟩ | exact ⟨rfl, rfl, rfl⟩) (by simp [go_sem] <;> first | rfl | exact ⟨rfl, rfl⟩ | exact ⟨rfl, rfl, rfl⟩) ?_; all_goals try simp only [go_sem, ↓reduceIte, Nat.reduceAdd, Nat.reduceSub, Nat.reduceMul, Nat.reduceDiv, Nat.reduceLT, Nat.reduceLeDiff, Nat.reduceEqDiff, Int.reduceToNat, reduceCtorEq])
    | ((with_reducible refine evCall_at 33 ?_); refine EvCall.rd (by first | (simp only [go_sem, ↓reduceIte, Nat.reduceAdd, Nat.reduceSub, Nat.reduceMul, Nat.reduceDiv, Nat.reduceLT, Nat.reduceLeDiff, Nat.reduceEqDiff, Int.reduceToNat, reduceCtorEq]; rfl) | rfl) (sp_SetFunctor_elementParts ?_ ?_ ?_) cal_SetFunctor_elementParts (by simp [go_sem]) (by simp [go_sem]) ?_; all_goals try simp only [go_sem, ↓reduceIte, Nat.reduceAdd, Nat.reduceSub, Nat.reduceMul, Nat.reduceDiv, Nat.reduceLT, Nat.reduceLeDiff, Nat.reduceEqDiff, Int.reduceToNat, reduceCtorEq])
    | ((with_reducible refine evCall_at 32 ?_); refine EvCall.mk (sp_setMap (f:=f.shape.rep x) (g:=f) (p:=f.eParts x e f.shape.ob.toNat) hR hb hp hrow) cal_setMap [(0,10),(1,11),(2,12),(3,13),(4,14),(5,15),(6,16),(7,17),(8,18),(9,19),(10,20),(11,21),(12,22)] [8,2,3,4,5,6,7,0,9] (by simp [go_sem] <;> first | rfl | exact ⟨rfl, rfl⟩ | exact ⟨rfl, rfl, rfl⟩) (by simp [go_sem] <;> first | rfl | exact ⟨rfl, rfl⟩ | exact ⟨rfl, rfl, rfl⟩) ?_; all_goals try simp only [go_sem, ↓reduceIte, Nat.reduceAdd, Nat.reduceSub, Nat.reduceMul, Nat.reduceDiv, Nat.reduceLT, Nat.reduceLeDiff, Nat.reduceEqDiff, Int.reduceToNat, reduceCtorEq])
    | (refine fun (hc : (_ : Bool) = _) => ?_; try simp only [decide_eq_true_eq, decide_eq_false_iff_not, Bool.not_eq_true', Bool.not_eq_false', Int.not_lt, Int.not_le, Cats.dec_iff, Cats.dec_not, Bool.and_eq_true, Bool.or_eq_true, Bool.and_eq_false_iff, Bool.or_eq_false_iff, Bool.not_eq_true, Bool.not_eq_false, Decidable.not_not, not_true_eq_false, not_false_eq_true] at hc))
  all_goals try (first | (with_reducible assumption) | ((try simp only [Cat.F, Cat.T, Cat.I, Cat.C, Fun.O, Fun.A, Cat.Entry, Int.toNat_natCast] at *); omega))
  · rw [hd] at hc; exact absurd rfl hc
  · (first | refine ret_auto ?_ | refine ret_auto' ?_); simp only [go_sem, ↓reduceIte, Nat.reduceAdd, Nat.reduceSub, Nat.reduceMul, Nat.reduceDiv, Nat.reduceLT, Nat.reduceLeDiff, Nat.reduceEqDiff, Int.reduceToNat, reduceCtorEq, Tryz.f8]
theorem sp_ElementMap_no {f : SF} {x e code : Int} (hb : SFB f) (hno : f.ENo x e code) : Spec Tryz.prog 8 [sfV f, iv x, iv e] []
    (.tup [.agg [iv 0, .sl 0, .sl 1, .sl 2, .sl 3, .sl 4, .sl 5, iv 0, .sl 6, .sl 7, .sl 8, .sl 9, .sl 10, .sl 11, .sl 12], iv code]) [(0, ⟨1, .arr (ints [])⟩), (1, ⟨1, .arr (ints [])⟩), (2, ⟨1, .arr (ints [])⟩), (3, ⟨1, .arr (intss [])⟩), (4, ⟨1, .arr (ints [])⟩), (5, ⟨1, .arr (intss [])⟩), (6, ⟨1, .arr (ints [])⟩), (7, ⟨1, .arr (ints [])⟩), (8, ⟨1, .arr (ints [])⟩), (9, ⟨1, .arr (intss [])⟩), (10, ⟨1, .arr (ints [])⟩), (11, ⟨1, .arr (intss [])⟩), (12, ⟨1, .arr (intss [])⟩)] := by
  refine spec_of_V (E := TE) 0 Tryz.func8 rfl (by simp [Tryz.f8]) fun X hn hX => ?_
  rcases hno with ⟨n1, rfl⟩ | ⟨s, n2, rfl⟩ | ⟨s, h, n3, rfl⟩
  · repeat' (first
      | refine V_atRet (Imp.adoptBi 1 1 _ _ rfl rfl rfl (by rw [hX]; rfl)) ?_
      | refine V_atRet (Imp.adoptBi 1 2 _ _ rfl rfl rfl (by rw [hX]; rfl)) ?_
      | refine V_atRet (Imp.adoptBi 1 3 _ _ rfl rfl rfl (by rw [hX]; rfl)) ?_
      | refine V_atRet (Imp.adoptBs 1 4 _ _ rfl rfl rfl (by rw [hX]; rfl)) ?_
      | refine V_atRet (Imp.adoptBi 1 5 _ _ rfl rfl rfl (by rw [hX]; rfl)) ?_
      | refine V_atRet (Imp.adoptBs 1 6 _ _ rfl rfl rfl (by rw [hX]; rfl)) ?_
      | refine V_atRet (Imp.adoptBi 1 8 _ _ rfl rfl rfl (by rw [hX]; rfl)) ?_
      | refine V_atRet (Imp.adoptBi 1 9 _ _ rfl rfl rfl (by rw [hX]; rfl)) ?_
      | refine V_atRet (Imp.adoptBi 1 10 _ _ rfl rfl rfl (by rw [hX]; rfl)) ?_
      | refine V_atRet (Imp.adoptBs 1 11 _ _ rfl rfl rfl (by rw [hX]; rfl)) ?_
      | refine V_atRet (Imp.adoptBi 1 12 _ _ rfl rfl rfl (by rw [hX]; rfl)) ?_
      | refine V_atRet (Imp.adoptBs 1 13 _ _ rfl rfl rfl (by rw [hX]; rfl)) ?_
      | refine V_atRet (Imp.adoptBs 1 14 _ _ rfl rfl rfl (by rw [hX]; rfl)) ?_
      | with_reducible first | refine V_seq ?_ | refine V_block ?_ | refine V_skip ?_ | refine V_ret ?_ | refine V_exit ?_
      | ((with_reducible refine V_cond ?_); simp only [go_sem, ↓reduceIte, Nat.reduceAdd, Nat.reduceSub, Nat.reduceMul, Nat.reduceDiv, Nat.reduceLT, Nat.reduceLeDiff, Nat.reduceEqDiff, Int.reduceToNat, reduceCtorEq])
      | ((first | refine V_region (by rw [hn]; rfl) ?_ | refine V_drawn hmix (by rw [hn]; rfl) ?_); intro K hK)
      | ((first | with_reducible refine evOps_n ?_ | ((with_reducible apply evOps_g); rfl) | with_reducible refine evOpsD_n ?_ | ((with_reducible apply evOpsD_g); rfl)); intro K hK; simp (contextual := true) only [go_sem, ↓reduceIte, Nat.reduceAdd, Nat.reduceSub, Nat.reduceMul, Nat.reduceDiv, Nat.reduceLT, Nat.reduceLeDiff, Nat.reduceEqDiff, Int.reduceToNat, reduceCtorEq])
      | with_reducible refine evOps_nil ?_
      | ((with_reducible refine evOpsD_nil ?_ ?_); kernel_rfl)
      | ((with_reducible refine hK _ ?_); clear hK K)
      | with_reducible first | refine And.intro ?_ ?_ | refine nxt_n ?_ | refine nxt_r ?_ | refine nxt_e ?_ | refine blk_n ?_ | refine blk_r ?_ | refine blk_same ?_ | refine blk_other (by decide) ?_ | refine noG_n ?_ | refine noG_r ?_ | refine noG_e ?_ | refine inR_mk ?_ ?_
      | ((with_reducible refine evCall_at 30 ?_); refine EvCall.rd (by first | (simp only [go_sem, ↓reduceIte, Nat.reduceAdd, Nat.reduceSub, Nat.reduceMul, Nat.reduceDiv, Nat.reduceLT, Nat.reduceLeDiff, Nat.reduceEqDiff, Int.reduceToNat, reduceCtorEq]; rfl) | rfl) (sp_SetFunctor_elementCode_bad (by first | omega | assumption | rfl | exact (by assumption : SMB _).src | exact (by assumption : SMB _).tgt) (by first | omega | assumption | rfl | exact (by assumption : SMB _).src | exact (by assumption : SMB _).tgt)) cal_SetFunctor_elementCode (by simp [go_sem]) (by simp [go_sem]) ?_; all_goals try simp only [go_sem, ↓reduceIte, Nat.reduceAdd, Nat.reduceSub, Nat.reduceMul, Nat.reduceDiv, Nat.reduceLT, Nat.reduceLeDiff, Nat.reduceEqDiff, Int.reduceToNat, reduceCtorEq])
      | (refine fun (hc : (_ : Bool) = _) => ?_; try simp only [decide_eq_true_eq, decide_eq_false_iff_not, Bool.not_eq_true', Bool.not_eq_false', Int.not_lt, Int.not_le, Cats.dec_iff, Cats.dec_not, Bool.and_eq_true, Bool.or_eq_true, Bool.and_eq_false_iff, Bool.or_eq_false_iff, Bool.not_eq_true, Bool.not_eq_false, Decidable.not_not, not_true_eq_false, not_false_eq_true] at hc))
    all_goals try (first | (with_reducible assumption) | ((try simp only [Cat.F, Cat.T, Cat.I, Cat.C, Fun.O, Fun.A, Cat.Entry, Int.toNat_natCast] at *); omega))
    · (first | refine ret_auto ?_ | refine ret_auto' ?_); simp only [go_sem, ↓reduceIte, Nat.reduceAdd, Nat.reduceSub, Nat.reduceMul, Nat.reduceDiv, Nat.reduceLT, Nat.reduceLeDiff, Nat.reduceEqDiff, Int.reduceToNat, reduceCtorEq, Tryz.f8]
    all_goals exact absurd hc (by decide)
  · have hd := dec_f n2
    repeat' (first
      | refine V_atRet (Imp.adoptBi 1 1 _ _ rfl rfl rfl (by rw [hX]; rfl)) ?_
      | refine V_atRet (Imp.adoptBi 1 2 _ _ rfl rfl rfl (by rw [hX]; rfl)) ?_
      | refine V_atRet (Imp.adoptBi 1 3 _ _ rfl rfl rfl (by rw [hX]; rfl)) ?_
      | refine V_atRet (Imp.adoptBs 1 4 _ _ rfl rfl rfl (by rw [hX]; rfl)) ?_
      | refine V_atRet (Imp.adoptBi 1 5 _ _ rfl rfl rfl (by rw [hX]; rfl)) ?_
      | refine V_atRet (Imp.adoptBs 1 6 _ _ rfl rfl rfl (by rw [hX]; rfl)) ?_
      | refine V_atRet (Imp.adoptBi 1 8 _ _ rfl rfl rfl (by rw [hX]; rfl)) ?_
      | refine V_atRet (Imp.adoptBi 1 9 _ _ rfl rfl rfl (by rw [hX]; rfl)) ?_
      | refine V_atRet (Imp.adoptBi 1 10 _ _ rfl rfl rfl (by rw [hX]; rfl)) ?_
      | refine V_atRet (Imp.adoptBs 1 11 _ _ rfl rfl rfl (by rw [hX]; rfl)) ?_
      | refine V_atRet (Imp.adoptBi 1 12 _ _ rfl rfl rfl (by rw [hX]; rfl)) ?_
      | refine V_atRet (Imp.adoptBs 1 13 _ _ rfl rfl rfl (by rw [hX]; rfl)) ?_
      | refine V_atRet (Imp.adoptBs 1 14 _ _ rfl rfl rfl (by rw [hX]; rfl)) ?_
      | with_reducible first | refine V_seq ?_ | refine V_block ?_ | refine V_skip ?_ | refine V_ret ?_ | refine V_exit ?_
      | ((with_reducible refine V_cond ?_); simp only [go_sem, ↓reduceIte, Nat.reduceAdd, Nat.reduceSub, Nat.reduceMul, Nat.reduceDiv, Nat.reduceLT, Nat.reduceLeDiff, Nat.reduceEqDiff, Int.reduceToNat, reduceCtorEq])
      | ((first | refine V_region (by rw [hn]; rfl) ?_ | refine V_drawn hmix (by rw [hn]; rfl) ?_); intro K hK)
      | ((first | with_reducible refine evOps_n ?_ | ((with_reducible apply evOps_g); rfl) | with_reducible refine evOpsD_n ?_ | ((with_reducible apply evOpsD_g); rfl)); intro K hK; simp (contextual := true) only [go_sem, ↓reduceIte, Nat.reduceAdd, Nat.reduceSub, Nat.reduceMul, Nat.reduceDiv, Nat.reduceLT, Nat.reduceLeDiff, Nat.reduceEqDiff, Int.reduceToNat, reduceCtorEq])
      | with_reducible refine evOps_nil ?_
      | ((with_reducible refine evOpsD_nil ?_ ?_); kernel_rfl)
      | ((with_reducible refine hK _ ?_); clear hK K)
      | with_reducible first | refine And.intro ?_ ?_ | refine nxt_n ?_ | refine nxt_r ?_ | refine nxt_e ?_ | refine blk_n ?_ | refine blk_r ?_ | refine blk_same ?_ | refine blk_other (by decide) ?_ | refine noG_n ?_ | refine noG_r ?_ | refine noG_e ?_ | refine inR_mk ?_ ?_
      | ((with_reducible refine evCall_at 30 ?_); refine EvCall.rd (by first | (simp only [go_sem, ↓reduceIte, Nat.reduceAdd, Nat.reduceSub, Nat.reduceMul, Nat.reduceDiv, Nat.reduceLT, Nat.reduceLeDiff, Nat.reduceEqDiff, Int.reduceToNat, reduceCtorEq]; rfl) | rfl) (sp_SetFunctor_elementCode ?_ ?_) cal_SetFunctor_elementCode (by simp [go_sem]) (by simp [go_sem]) ?_; all_goals try simp only [go_sem, ↓reduceIte, Nat.reduceAdd, Nat.reduceSub, Nat.reduceMul, Nat.reduceDiv, Nat.reduceLT, Nat.reduceLeDiff, Nat.reduceEqDiff, Int.reduceToNat, reduceCtorEq])
      | (refine fun (hc : (_ : Bool) = _) => ?_; try simp only [decide_eq_true_eq, decide_eq_false_iff_not, Bool.not_eq_true', Bool.not_eq_false', Int.not_lt, Int.not_le, Cats.dec_iff, Cats.dec_not, Bool.and_eq_true, Bool.or_eq_true, Bool.and_eq_false_iff, Bool.or_eq_false_iff, Bool.not_eq_true, Bool.not_eq_false, Decidable.not_not, not_true_eq_false, not_false_eq_true] at hc))
    all_goals try (first | (with_reducible assumption) | ((try simp only [Cat.F, Cat.T, Cat.I, Cat.C, Fun.O, Fun.A, Cat.Entry, Int.toNat_natCast] at *); omega))
    · (first | refine ret_auto ?_ | refine ret_auto' ?_); simp only [go_sem, ↓reduceIte, Nat.reduceAdd, Nat.reduceSub, Nat.reduceMul, Nat.reduceDiv, Nat.reduceLT, Nat.reduceLeDiff, Nat.reduceEqDiff, Int.reduceToNat, reduceCtorEq, Tryz.f8]
      rw [hd]; rfl
    all_goals (rw [hd] at hc; exact absurd hc (by decide))
  · have hS := s.cat.toShape
    have hbc := hb.shape
    have hd := dec_t h
    repeat' (first
      | refine V_atRet (Imp.adoptBi 1 1 _ _ rfl rfl rfl (by rw [hX]; rfl)) ?_
      | refine V_atRet (Imp.adoptBi 1 2 _ _ rfl rfl rfl (by rw [hX]; rfl)) ?_
      | refine V_atRet (Imp.adoptBi 1 3 _ _ rfl rfl rfl (by rw [hX]; rfl)) ?_
      | refine V_atRet (Imp.adoptBs 1 4 _ _ rfl rfl rfl (by rw [hX]; rfl)) ?_
      | refine V_atRet (Imp.adoptBi 1 5 _ _ rfl rfl rfl (by rw [hX]; rfl)) ?_
      | refine V_atRet (Imp.adoptBs 1 6 _ _ rfl rfl rfl (by rw [hX]; rfl)) ?_
      | refine V_atRet (Imp.adoptBi 1 8 _ _ rfl rfl rfl (by rw [hX]; rfl)) ?_
      | refine V_atRet (Imp.adoptBi 1 9 _ _ rfl rfl rfl (by rw [hX]; rfl)) ?_
      | refine V_atRet (Imp.adoptBi 1 10 _ _ rfl rfl rfl (by rw [hX]; rfl)) ?_
      | refine V_atRet (Imp.adoptBs 1 11 _ _ rfl rfl rfl (by rw [hX]; rfl)) ?_
      | refine V_atRet (Imp.adoptBi 1 12 _ _ rfl rfl rfl (by rw [hX]; rfl)) ?_
      | refine V_atRet (Imp.adoptBs 1 13 _ _ rfl rfl rfl (by rw [hX]; rfl)) ?_
      | refine V_atRet (Imp.adoptBs 1 14 _ _ rfl rfl rfl (by rw [hX]; rfl)) ?_
      | with_reducible first | refine V_seq ?_ | refine V_block ?_ | refine V_skip ?_ | refine V_ret ?_ | refine V_exit ?_
      | ((with_reducible refine V_cond ?_); simp only [go_sem, ↓reduceIte, Nat.reduceAdd, Nat.reduceSub, Nat.reduceMul, Nat.reduceDiv, Nat.reduceLT, Nat.reduceLeDiff, Nat.reduceEqDiff, Int.reduceToNat, reduceCtorEq])
      | ((first | refine V_region (by rw [hn]; rfl) ?_ | refine V_drawn hmix (by rw [hn]; rfl) ?_); intro K hK)
      | ((first | with_reducible refine evOps_n ?_ | ((with_reducible apply evOps_g); rfl) | with_reducible refine evOpsD_n ?_ | ((with_reducible apply evOpsD_g); rfl)); intro K hK; simp (contextual := true) only [go_sem, ↓reduceIte, Nat.reduceAdd, Nat.reduceSub, Nat.reduceMul, Nat.reduceDiv, Nat.reduceLT, Nat.reduceLeDiff, Nat.reduceEqDiff, Int.reduceToNat, reduceCtorEq])
      | with_reducible refine evOps_nil ?_
      | ((with_reducible refine evOpsD_nil ?_ ?_); kernel_rfl)
      | ((with_reducible refine hK _ ?_); clear hK K)
      | with_reducible first | refine And.intro ?_ ?_ | refine nxt_n ?_ | refine nxt_r ?_ | refine nxt_e ?_ | refine blk_n ?_ | refine blk_r ?_ | refine blk_same ?_ | refine blk_other (by decide) ?_ | refine noG_n ?_ | refine noG_r ?_ | refine noG_e ?_ | refine inR_mk ?_ ?_
      | ((with_reducible refine evCall_at 30 ?_); refine EvCall.rd (by first | (simp only [go_sem, ↓reduceIte, Nat.reduceAdd, Nat.reduceSub, Nat.reduceMul, Nat.reduceDiv, Nat.reduceLT, Nat.reduceLeDiff, Nat.reduceEqDiff, Int.reduceToNat, reduceCtorEq]; rfl) | rfl) (sp_SetFunctor_elementCode ?_ ?_) cal_SetFunctor_elementCode (by simp [go_sem]) (by simp [go_sem]) ?_; all_goals try simp only [go_sem, ↓reduceIte, Nat.reduceAdd, Nat.reduceSub, Nat.reduceMul, Nat.reduceDiv, Nat.reduceLT, Nat.reduceLeDiff, Nat.reduceEqDiff, Int.reduceToNat, reduceCtorEq])
      | ((with_reducible refine evCall_at 31 ?_); refine EvCall.mk (sp_Category_representable_no (x:=x) hS hbc n3) cal_Category_representable [] [0] (by simp [go_sem] <;> first | rfl | exact ⟨rfl, rfl⟩ | exact ⟨rfl, rfl, rfl⟩) (by simp [go_sem] <;> first | rfl | exact ⟨rfl, rfl⟩ | exact ⟨rfl, rfl, rfl⟩) ?_; all_goals try simp only [go_sem, ↓reduceIte, Nat.reduceAdd, Nat.reduceSub, Nat.reduceMul, Nat.reduceDiv, Nat.reduceLT, Nat.reduceLeDiff, Nat.reduceEqDiff, Int.reduceToNat, reduceCtorEq])
      | (refine fun (hc : (_ : Bool) = _) => ?_; try simp only [decide_eq_true_eq, decide_eq_false_iff_not, Bool.not_eq_true', Bool.not_eq_false', Int.not_lt, Int.not_le, Cats.dec_iff, Cats.dec_not, Bool.and_eq_true, Bool.or_eq_true, Bool.and_eq_false_iff, Bool.or_eq_false_iff, Bool.not_eq_true, Bool.not_eq_false, Decidable.not_not, not_true_eq_false, not_false_eq_true] at hc))
    all_goals try (first | (with_reducible assumption) | ((try simp only [Cat.F, Cat.T, Cat.I, Cat.C, Fun.O, Fun.A, Cat.Entry, Int.toNat_natCast] at *); omega))
    · rw [hd] at hc; exact absurd rfl hc
    · (first | refine ret_auto ?_ | refine ret_auto' ?_); simp only [go_sem, ↓reduceIte, Nat.reduceAdd, Nat.reduceSub, Nat.reduceMul, Nat.reduceDiv, Nat.reduceLT, Nat.reduceLeDiff, Nat.reduceEqDiff, Int.reduceToNat, reduceCtorEq, Tryz.f8]
end Go.Eng
