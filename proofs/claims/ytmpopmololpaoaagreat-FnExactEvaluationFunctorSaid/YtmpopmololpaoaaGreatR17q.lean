/- EvaluationFunctor, by the program and by the reference. -/
import Derived.Test.YtmpopmololpaoaaGreatKdx
import Derived.Test.YtmpopmololpaoaaGreatR16q
set_option linter.unusedSimpArgs false
set_option linter.unusedVariables false
set_option maxRecDepth 100000
set_option maxHeartbeats 16000000
namespace Go.Eng
open Go Go.Proofs Go.Cats
theorem fcK_b (d : Cat) {L : List Fun} (hL : L.length ≤ 8) (hA : (fcA L).length ≤ 40) : CatB (fcK d L) := by
  refine ⟨?_, ?_, ?_, ?_, ?_, ?_, fun f hf => ?_⟩
  · show (-9223372036854775808 : Int) ≤ (L.length : Int); omega
  · show (L.length : Int) ≤ 9223372036854775807; omega
  · show (((fcA L).take (fcA L).length).map _).length ≤ 1048576; rw [List.length_map, List.take_length]; omega
  · show (((fcA L).take (fcA L).length).map _).length ≤ 1048576; rw [List.length_map, List.take_length]; omega
  · show ((List.range L.length).map _).length ≤ 1048576; rw [List.length_map, List.length_range]; omega
  · show ((List.range (fcA L).length).map _).length ≤ 1048576; rw [List.length_map, List.length_range]; omega
  · have hf2 : f < (fcA L).length := by
      have : f < ((List.range (fcA L).length).map _).length := hf
      rwa [List.length_map, List.length_range] at this
    have e : (fcK d L).co.getD f [] = rowF d (fcA L) f (fcA L).length := by
      show ((List.range (fcA L).length).map _).getD f [] = _
      rw [List.getD_eq_getElem?_getD, List.getElem?_map, List.getElem?_range hf2]; rfl
    rw [e, rowF_len]; omega
def evlO (L : List Fun) (x : Int) (i : Nat) : List Int := (L.take i).map fun f => f.obs.getD x.toNat 0
def evlA (A : List (List Int)) (x : Int) (a : Nat) : List Int := (A.take a).map fun t => t.getD (2 + x).toNat 0
noncomputable def evF (c d : Cat) (x : Int) : Fun := ⟨fcK d (fcL c d), d, evlO (fcL c d) x (fcL c d).length, evlA (fcA (fcL c d)) x (fcA (fcL c d)).length⟩
theorem evlO_zero (L x) : evlO L x 0 = [] := rfl
theorem evlA_zero (A x) : evlA A x 0 = [] := rfl
theorem evlO_len {L x} {i : Nat} (h : i ≤ L.length) : (evlO L x i).length = i := by unfold evlO; rw [List.length_map, List.length_take]; omega
theorem evlA_len {A x} {i : Nat} (h : i ≤ A.length) : (evlA A x i).length = i := by unfold evlA; rw [List.length_map, List.length_take]; omega
theorem evlO_succ {L : List Fun} {x : Int} {i : Nat} (h : i < L.length) : evlO L x (i + 1) = evlO L x i ++ [(L.getD i default).obs.getD x.toNat 0] := by
  unfold evlO; rw [List.take_succ_eq_append_getElem h, List.map_append, List.map_singleton, List.getD_eq_getElem?_getD (l := L), List.getElem?_eq_getElem h]; rfl
theorem evlA_succ {A : List (List Int)} {x : Int} {i : Nat} (h : i < A.length) : evlA A x (i + 1) = evlA A x i ++ [(A.getD i []).getD (2 + x).toNat 0] := by
  unfold evlA; rw [List.take_succ_eq_append_getElem h, List.map_append, List.map_singleton, List.getD_eq_getElem?_getD (l := A), List.getElem?_eq_getElem h]; rfl
def EvOut (c d : Cat) (x : Int) (g : Fun) (code : Int) : Prop :=
  (¬ (IsCat c ∧ IsCat d) ∧ g = nilF ∧ code = 1) ∨ (IsCat c ∧ IsCat d ∧ ((¬ (0 ≤ x ∧ x < c.ob) ∧ g = nilF ∧ code = 2) ∨ ((0 ≤ x ∧ x < c.ob) ∧ ((¬ FcY c d ∧ g = nilF ∧ code = 3) ∨ (FcY c d ∧ g = evF c d x ∧ code = 0)))))
theorem EvOut.ex (c d : Cat) (x : Int) : ∃ g code, EvOut c d x g code := by
  by_cases h : IsCat c ∧ IsCat d
  · by_cases h2 : 0 ≤ x ∧ x < c.ob
    · by_cases h3 : FcY c d
      · exact ⟨_, _, .inr ⟨h.1, h.2, .inr ⟨h2, .inr ⟨h3, rfl, rfl⟩⟩⟩⟩
      · exact ⟨_, _, .inr ⟨h.1, h.2, .inr ⟨h2, .inl ⟨h3, rfl, rfl⟩⟩⟩⟩
    · exact ⟨_, _, .inr ⟨h.1, h.2, .inl ⟨h2, rfl, rfl⟩⟩⟩
  · exact ⟨_, _, .inl ⟨h, rfl, rfl⟩⟩
theorem evF_b {c d : Cat} {x : Int} (hd : CatB d) (hy : FcY c d) : FunB (evF c d x) := by
  have h1 := hy.2.1
  have h2 := hy.2.2
  refine ⟨fcK_b d h1 h2, hd, ?_, ?_⟩
  · show (evlO _ _ _).length ≤ 1048576; rw [evlO_len (Nat.le_refl _)]; omega
  · show (evlA _ _ _).length ≤ 1048576; rw [evlA_len (Nat.le_refl _)]; omega
attribute [local go_sem] List.set_cons_zero List.set_cons_succ evlO_zero evlA_zero
theorem cal_EvaluationFunctor : Callable Tryz.prog 26 := ⟨_, Tryz.func26, rfl, rfl⟩
theorem sp_EvaluationFunctor_bad {c d : Cat} {x : Int} (hc : CatB c) (hd : CatB d) (h : ¬ (IsCat c ∧ IsCat d)) : Spec Tryz.prog 26 [catV c, catV d, iv x] [] (.tup [.agg [iv 0, .v (.slice none 0 0), .v (.slice none 0 0), .v (.slice none 0 0), .v (.slice none 0 0), iv 0, .v (.slice none 0 0), .v (.slice none 0 0), .v (.slice none 0 0), .v (.slice none 0 0), .v (.slice none 0 0), .v (.slice none 0 0)], iv 1]) [] := by
  have v1 := dec_f h
  refine spec_of_V (E := TE) 0 Tryz.func26 rfl (by simp [Tryz.f26]) fun X hn hX => ?_
  repeat' (first | (refine V_at 1 (Imp.trans (Imp.lendCat 3 0 1 c rfl rfl (Nat.le_refl 1)) (Imp.lendCat 4 1 1 d rfl rfl (Nat.le_refl 1))) ?_; simp only [go_sem, simprocAttr]) | (exact absurd (by assumption) h) | (with_reducible first | refine V_seq ?_ | refine V_block ?_ | refine V_skip ?_ | refine V_ret ?_ | refine V_exit ?_) | ((with_reducible refine V_cond ?_); simp only [go_sem, simprocAttr]) | ((refine V_region (by rw [hn]; rfl) ?_); intro K hK) | ((first | with_reducible refine evOps_n ?_ | ((with_reducible apply evOps_g); rfl)); intro K hK; simp (contextual := true) only [go_sem, simprocAttr]) | with_reducible refine evOps_nil ?_ | ((with_reducible refine hK _ ?_); clear hK K) | (with_reducible first | refine And.intro ?_ ?_ | refine nxt_n ?_ | refine nxt_r ?_ | refine nxt_e ?_ | refine blk_n ?_ | refine blk_r ?_ | refine blk_same ?_ | refine blk_other (by decide) ?_ | refine noG_n ?_ | refine noG_r ?_ | refine noG_e ?_ | refine inR_mk ?_ ?_) | ((with_reducible refine evCall_at 55 ?_); refine EvCall.rq (a := (sp_areCategories_two (by first | omega | assumption | rfl) (by first | omega | assumption | rfl))) (b := cal_areCategories) (c := ?_); all_goals try simp only [go_sem, simprocAttr]) | (refine fun (hc : (_ : Bool) = _) => ?_; try simp only [hcS] at hc))
  all_goals try (first | (with_reducible assumption) | ((try simp only [Cat.F, Cat.T, Cat.I, Cat.C, Fun.O, Fun.A, Cat.Entry, Int.toNat_natCast] at *); omega))
  all_goals ((first | refine ret_auto ?_ | refine ret_auto' ?_); simp only [go_sem, simprocAttr, Tryz.f26])
theorem sp_EvaluationFunctor_out {c d : Cat} {x : Int} (hc : CatB c) (hd : CatB d) (sc : IsCat c) (sd : IsCat d) (h : ¬ (0 ≤ x ∧ x < c.ob)) : Spec Tryz.prog 26 [catV c, catV d, iv x] [] (.tup [.agg [iv 0, .v (.slice none 0 0), .v (.slice none 0 0), .v (.slice none 0 0), .v (.slice none 0 0), iv 0, .v (.slice none 0 0), .v (.slice none 0 0), .v (.slice none 0 0), .v (.slice none 0 0), .v (.slice none 0 0), .v (.slice none 0 0)], iv 2]) [] := by
  have v1 := dec_t (And.intro sc sd)
  have c0 := sc.toShape.ob0
  have c8 := sc.toShape.ob8
  have hin : Spec Tryz.prog 62 [iv x, iv 0, iv (c.ob - 1)] [] (bv false) [] := by
    have := sp_inRange (n := x) (lo := 0) (hi := c.ob - 1)
    rwa [dec_f (by omega)] at this
  refine spec_of_V (E := TE) 0 Tryz.func26 rfl (by simp [Tryz.f26]) fun X hn hX => ?_
  repeat' (first | (refine V_at 1 (Imp.trans (Imp.lendCat 3 0 1 c rfl rfl (Nat.le_refl 1)) (Imp.lendCat 4 1 1 d rfl rfl (Nat.le_refl 1))) ?_; simp only [go_sem, simprocAttr]) | (exact absurd (And.intro sc sd) (by assumption)) | (with_reducible first | refine V_seq ?_ | refine V_block ?_ | refine V_skip ?_ | refine V_ret ?_ | refine V_exit ?_) | ((with_reducible refine V_cond ?_); simp only [go_sem, simprocAttr]) | ((refine V_region (by rw [hn]; rfl) ?_); intro K hK) | ((first | with_reducible refine evOps_n ?_ | ((with_reducible apply evOps_g); rfl)); intro K hK; simp (contextual := true) only [go_sem, simprocAttr]) | with_reducible refine evOps_nil ?_ | ((with_reducible refine hK _ ?_); clear hK K) | (with_reducible first | refine And.intro ?_ ?_ | refine nxt_n ?_ | refine nxt_r ?_ | refine nxt_e ?_ | refine blk_n ?_ | refine blk_r ?_ | refine blk_same ?_ | refine blk_other (by decide) ?_ | refine noG_n ?_ | refine noG_r ?_ | refine noG_e ?_ | refine inR_mk ?_ ?_) | ((with_reducible refine evCall_at 55 ?_); refine EvCall.rq (a := (sp_areCategories_two (by first | omega | assumption | rfl) (by first | omega | assumption | rfl))) (b := cal_areCategories) (c := ?_); all_goals try simp only [go_sem, simprocAttr]) | ((with_reducible refine evCall_at 62 ?_); refine EvCall.mk (hin) cal_inRange [] [] (by simp [go_sem] <;> (repeat' (first | rfl | constructor))) (by simp [go_sem] <;> (repeat' (first | rfl | constructor))) ?_; all_goals try simp only [go_sem, simprocAttr]) | (refine fun (hc : (_ : Bool) = _) => ?_; try simp only [hcS] at hc))
  all_goals try (first | (with_reducible assumption) | ((try simp only [Cat.F, Cat.T, Cat.I, Cat.C, Fun.O, Fun.A, Cat.Entry, Int.toNat_natCast] at *); omega))
  all_goals ((first | refine ret_auto ?_ | refine ret_auto' ?_); simp only [go_sem, simprocAttr, Tryz.f26])
theorem sp_EvaluationFunctor_no {c d : Cat} {x : Int} (hc : CatB c) (hd : CatB d) (sc : IsCat c) (sd : IsCat d) (hx : 0 ≤ x ∧ x < c.ob) (h : ¬ FcY c d) : Spec Tryz.prog 26 [catV c, catV d, iv x] [] (.tup [.agg [iv 0, .v (.slice none 0 0), .v (.slice none 0 0), .v (.slice none 0 0), .v (.slice none 0 0), iv 0, .v (.slice none 0 0), .v (.slice none 0 0), .v (.slice none 0 0), .v (.slice none 0 0), .v (.slice none 0 0), .v (.slice none 0 0)], iv 3]) [] := by
  have v1 := dec_t (And.intro sc sd)
  have c0 := sc.toShape.ob0
  have c8 := sc.toShape.ob8
  have h1 := sp_functors_o sc sd hc hd (.inr ⟨h, rfl, rfl⟩)
  have hin : Spec Tryz.prog 62 [iv x, iv 0, iv (c.ob - 1)] [] (bv true) [] := by
    have := sp_inRange (n := x) (lo := 0) (hi := c.ob - 1)
    rwa [dec_t (by omega)] at this
  refine spec_of_V (E := TE) 0 Tryz.func26 rfl (by simp [Tryz.f26]) fun X hn hX => ?_
  repeat' (first | (refine V_at 1 (Imp.trans (Imp.lendCat 3 0 1 c rfl rfl (Nat.le_refl 1)) (Imp.lendCat 4 1 1 d rfl rfl (Nat.le_refl 1))) ?_; simp only [go_sem, simprocAttr]) | (exact absurd (And.intro sc sd) (by assumption)) | (with_reducible first | refine V_seq ?_ | refine V_block ?_ | refine V_skip ?_ | refine V_ret ?_ | refine V_exit ?_) | ((with_reducible refine V_cond ?_); simp only [go_sem, simprocAttr]) | ((refine V_region (by rw [hn]; rfl) ?_); intro K hK) | ((first | with_reducible refine evOps_n ?_ | ((with_reducible apply evOps_g); rfl)); intro K hK; simp (contextual := true) only [go_sem, simprocAttr]) | with_reducible refine evOps_nil ?_ | ((with_reducible refine hK _ ?_); clear hK K) | (with_reducible first | refine And.intro ?_ ?_ | refine nxt_n ?_ | refine nxt_r ?_ | refine nxt_e ?_ | refine blk_n ?_ | refine blk_r ?_ | refine blk_same ?_ | refine blk_other (by decide) ?_ | refine noG_n ?_ | refine noG_r ?_ | refine noG_e ?_ | refine inR_mk ?_ ?_) | ((with_reducible refine evCall_at 55 ?_); refine EvCall.rq (a := (sp_areCategories_two (by first | omega | assumption | rfl) (by first | omega | assumption | rfl))) (b := cal_areCategories) (c := ?_); all_goals try simp only [go_sem, simprocAttr]) | ((with_reducible refine evCall_at 62 ?_); refine EvCall.mk (hin) cal_inRange [] [] (by simp [go_sem] <;> (repeat' (first | rfl | constructor))) (by simp [go_sem] <;> (repeat' (first | rfl | constructor))) ?_; all_goals try simp only [go_sem, simprocAttr]) | ((with_reducible refine evCall_at 56 ?_); refine EvCall.mk (h1) cal_functors [] [0,1] (by simp [go_sem] <;> (repeat' (first | rfl | constructor))) (by simp [go_sem] <;> (repeat' (first | rfl | constructor))) ?_; all_goals try simp only [go_sem, simprocAttr]) | (refine fun (hc : (_ : Bool) = _) => ?_; try simp only [hcS] at hc))
  all_goals try (first | (with_reducible assumption) | ((try simp only [Cat.F, Cat.T, Cat.I, Cat.C, Fun.O, Fun.A, Cat.Entry, Int.toNat_natCast] at *); omega))
  all_goals ((first | refine ret_auto ?_ | refine ret_auto' ?_); simp only [go_sem, simprocAttr, Tryz.f26])
theorem sp_EvaluationFunctor_yes {c d : Cat} {x : Int} (hc : CatB c) (hd : CatB d) (sc : IsCat c) (sd : IsCat d) (hx : 0 ≤ x ∧ x < c.ob) (hy : FcY c d) : Spec Tryz.prog 26 [catV c, catV d, iv x] [] (.tup [.agg [iv (evF c d x).src.ob, .sl 0, .sl 1, .sl 2, .sl 3, iv (evF c d x).tgt.ob, .sl 4, .sl 5, .sl 6, .sl 7, .sl 8, .sl 9], iv 0]) [(0, ⟨1, .arr (ints (evF c d x).src.fr)⟩), (1, ⟨1, .arr (ints (evF c d x).src.to)⟩), (2, ⟨1, .arr (ints (evF c d x).src.id)⟩), (3, ⟨1, .arr (intss (evF c d x).src.co)⟩), (4, ⟨1, .arr (ints (evF c d x).tgt.fr)⟩), (5, ⟨1, .arr (ints (evF c d x).tgt.to)⟩), (6, ⟨1, .arr (ints (evF c d x).tgt.id)⟩), (7, ⟨1, .arr (intss (evF c d x).tgt.co)⟩), (8, ⟨1, .arr (ints (evF c d x).obs)⟩), (9, ⟨1, .arr (ints (evF c d x).ars)⟩)] := by
  have v1 := dec_t (And.intro sc sd)
  obtain ⟨x0, x1⟩ := hx
  have c0 := sc.toShape.ob0
  have c8 := sc.toShape.ob8
  have h1 := sp_functors_o sc sd hc hd (.inl ⟨hy, rfl, rfl⟩)
  have hL := hy.2.1
  have hA := hy.2.2
  have hfl : FL c d (fcL c d) := FL.of_funX
  have hKb := fcK_b d hL hA
  have hin : Spec Tryz.prog 62 [iv x, iv 0, iv (c.ob - 1)] [] (bv true) [] := by
    have := sp_inRange (n := x) (lo := 0) (hi := c.ob - 1)
    rwa [dec_t (by omega)] at this
  have hfu := sp_functor (c := fcK d (fcL c d)) (d := d) (p := evlO (fcL c d) x (fcL c d).length) (q := evlA (fcA (fcL c d)) x (fcA (fcL c d)).length) hKb hd (by rw [evlO_len (Nat.le_refl _)]; omega) (by rw [evlA_len (Nat.le_refl _)]; omega)
  obtain ⟨L, hLd⟩ : ∃ L, fcL c d = L := ⟨_, rfl⟩
  rw [hLd] at h1 hL hA hfl hKb hfu
  have eF : evF c d x = ⟨fcK d L, d, evlO L x L.length, evlA (fcA L) x (fcA L).length⟩ := by unfold evF; rw [hLd]
  rw [eF]
  refine spec_of_V (E := TE) 0 Tryz.func26 rfl (by simp [Tryz.f26]) fun X hn hX => ?_
  repeat' (first | (refine V_at 1 (Imp.trans (Imp.lendCat 3 0 1 c rfl rfl (Nat.le_refl 1)) (Imp.lendCat 4 1 1 d rfl rfl (Nat.le_refl 1))) ?_; simp only [go_sem, simprocAttr]) | (exact absurd (And.intro sc sd) (by assumption)) | (with_reducible first | refine V_seq ?_ | refine V_block ?_ | refine V_skip ?_ | refine V_ret ?_ | refine V_exit ?_) | ((with_reducible refine V_cond ?_); simp only [go_sem, simprocAttr]) | ((refine V_region (by rw [hn]; rfl) ?_); intro K hK) | ((first | with_reducible refine evOps_n ?_ | ((with_reducible apply evOps_g); rfl)); intro K hK; simp (contextual := true) only [go_sem, simprocAttr]) | with_reducible refine evOps_nil ?_ | ((with_reducible refine hK _ ?_); clear hK K) | (with_reducible first | refine And.intro ?_ ?_ | refine nxt_n ?_ | refine nxt_r ?_ | refine nxt_e ?_ | refine blk_n ?_ | refine blk_r ?_ | refine blk_same ?_ | refine blk_other (by decide) ?_ | refine noG_n ?_ | refine noG_r ?_ | refine noG_e ?_ | refine inR_mk ?_ ?_) | ((with_reducible refine evCall_at 55 ?_); refine EvCall.rq (a := (sp_areCategories_two (by first | omega | assumption | rfl) (by first | omega | assumption | rfl))) (b := cal_areCategories) (c := ?_); all_goals try simp only [go_sem, simprocAttr]) | ((with_reducible refine evCall_at 62 ?_); refine EvCall.mk (hin) cal_inRange [] [] (by simp [go_sem] <;> (repeat' (first | rfl | constructor))) (by simp [go_sem] <;> (repeat' (first | rfl | constructor))) ?_; all_goals try simp only [go_sem, simprocAttr]) | ((with_reducible refine evCall_at 56 ?_); refine EvCall.mk (h1) cal_functors [(0,4),(1,5),(2,6),(3,7),(4,8),(5,9),(6,10),(7,11)] [0,1] (by simp [go_sem] <;> (repeat' (first | rfl | constructor))) (by simp [go_sem] <;> (repeat' (first | rfl | constructor))) ?_; all_goals try simp only [go_sem, simprocAttr]) | (refine fun (hc : (_ : Bool) = _) => ?_; try simp only [hcS] at hc))
  all_goals try (first | (with_reducible assumption) | ((try simp only [Cat.F, Cat.T, Cat.I, Cat.C, Fun.O, Fun.A, Cat.Entry, Int.toNat_natCast] at *); omega))
  have hpart : ∀ i, i < L.length → (funsD L).part (i * 12) 12 = [.v (.int .i64 (L.getD i default).src.ob), ints (L.getD i default).src.fr, ints (L.getD i default).src.to, ints (L.getD i default).src.id, intss (L.getD i default).src.co, .v (.int .i64 (L.getD i default).tgt.ob), ints (L.getD i default).tgt.fr, ints (L.getD i default).tgt.to, ints (L.getD i default).tgt.id, intss (L.getD i default).tgt.co, ints (L.getD i default).obs, ints (L.getD i default).ars] := fun i hi => funs_part L i hi
  refine V_loopK (G := {i : Nat // i ≤ L.length ∧ (True)}) (fun ⟨i, _⟩ => [(41, iv i), (8, .ptr 4 0), (10, .sl 12), (11, .sl 13), (16, .bsl 3 2), (39, .sl 9)]) [2, 4, 6, 7, 40] (fun ⟨i, _⟩ => [(12, ⟨1, .arr (ints (evlO L x i))⟩), (13, ⟨1, .arr (ints [])⟩)]) [12, 13] (fun zz => L.length - zz.1) ⟨0, Nat.zero_le _, by first | trivial | simp⟩ ?_ ?_
  · exact Imp.auto hX (by simp [go_sem, simprocAttr])
  rintro ⟨i, hii, hwi⟩
  simp only [go_sem, simprocAttr]
  have hol := evlO_len (L := L) (x := x) hii
  rcases Nat.lt_or_ge i L.length with hli | hgi
  · have hpi := hpart i hli
    have hfo := (hfl i hli).2.2.obl
    rw [(hfl i hli).1] at hfo
    have e1 := evlO_succ (x := x) hli
    repeat' (first | (rw [hpi]; simp only [go_sem, simprocAttr]) | (with_reducible first | refine V_seq ?_ | refine V_block ?_ | refine V_skip ?_ | refine V_ret ?_ | refine V_exit ?_) | ((with_reducible refine V_cond ?_); simp only [go_sem, simprocAttr]) | ((refine V_region (by rw [hn]; rfl) ?_); intro K hK) | ((first | with_reducible refine evOps_n ?_ | ((with_reducible apply evOps_g); rfl)); intro K hK; simp (contextual := true) only [go_sem, simprocAttr]) | with_reducible refine evOps_nil ?_ | ((with_reducible refine hK _ ?_); clear hK K) | (with_reducible first | refine And.intro ?_ ?_ | refine nxt_n ?_ | refine nxt_r ?_ | refine nxt_e ?_ | refine blk_n ?_ | refine blk_r ?_ | refine blk_same ?_ | refine blk_other (by decide) ?_ | refine noG_n ?_ | refine noG_r ?_ | refine noG_e ?_ | refine inR_mk ?_ ?_) | (refine fun (hc : (_ : Bool) = _) => ?_; try simp only [hcS] at hc))
    all_goals try (first | (with_reducible assumption) | ((try simp only [Cat.F, Cat.T, Cat.I, Cat.C, Fun.O, Fun.A, Cat.Entry, Int.toNat_natCast] at *); omega))
    · refine ⟨⟨i + 1, by omega, (by trivial)⟩, by simp only; omega, Imp.auto hX (by simp only [go_sem, simprocAttr, e1])⟩
  · have ei : i = L.length := by omega
    subst ei
    repeat' (first | (with_reducible first | refine V_seq ?_ | refine V_block ?_ | refine V_skip ?_ | refine V_ret ?_ | refine V_exit ?_) | ((with_reducible refine V_cond ?_); simp only [go_sem, simprocAttr]) | ((refine V_region (by rw [hn]; rfl) ?_); intro K hK) | ((first | with_reducible refine evOps_n ?_ | ((with_reducible apply evOps_g); rfl)); intro K hK; simp (contextual := true) only [go_sem, simprocAttr]) | with_reducible refine evOps_nil ?_ | ((with_reducible refine hK _ ?_); clear hK K) | (with_reducible first | refine And.intro ?_ ?_ | refine nxt_n ?_ | refine nxt_r ?_ | refine nxt_e ?_ | refine blk_n ?_ | refine blk_r ?_ | refine blk_same ?_ | refine blk_other (by decide) ?_ | refine noG_n ?_ | refine noG_r ?_ | refine noG_e ?_ | refine inR_mk ?_ ?_) | (refine fun (hc : (_ : Bool) = _) => ?_; try simp only [hcS] at hc))
    all_goals try (first | (with_reducible assumption) | ((try simp only [Cat.F, Cat.T, Cat.I, Cat.C, Fun.O, Fun.A, Cat.Entry, Int.toNat_natCast] at *); omega))
    refine V_loopK (G := {a : Nat // a ≤ (fcA L).length ∧ (True)}) (fun ⟨a, _⟩ => [(59, iv a), (8, .ptr 4 0), (10, .sl 12), (11, .sl 13), (16, .bsl 3 2), (57, .sl 10)]) [2, 4, 6, 7, 58] (fun ⟨a, _⟩ => [(12, ⟨1, .arr (ints (evlO L x L.length))⟩), (13, ⟨1, .arr (ints (evlA (fcA L) x a))⟩)]) [12, 13] (fun zz => (fcA L).length - zz.1) ⟨0, Nat.zero_le _, by first | trivial | simp⟩ ?_ ?_
    · exact Imp.auto hX (by simp [go_sem, simprocAttr])
    rintro ⟨a, hia, hwa⟩
    simp only [go_sem, simprocAttr]
    have hal := evlA_len (A := fcA L) (x := x) hia
    rcases Nat.lt_or_ge a (fcA L).length with hla | hga
    · have hal2 := (hfl.arr (getD_mem (d := []) hla)).len
      have e2 := evlA_succ (x := x) hla
      repeat' (first | (with_reducible first | refine V_seq ?_ | refine V_block ?_ | refine V_skip ?_ | refine V_ret ?_ | refine V_exit ?_) | ((with_reducible refine V_cond ?_); simp only [go_sem, simprocAttr]) | ((refine V_region (by rw [hn]; rfl) ?_); intro K hK) | ((first | with_reducible refine evOps_n ?_ | ((with_reducible apply evOps_g); rfl)); intro K hK; simp (contextual := true) only [go_sem, simprocAttr]) | with_reducible refine evOps_nil ?_ | ((with_reducible refine hK _ ?_); clear hK K) | (with_reducible first | refine And.intro ?_ ?_ | refine nxt_n ?_ | refine nxt_r ?_ | refine nxt_e ?_ | refine blk_n ?_ | refine blk_r ?_ | refine blk_same ?_ | refine blk_other (by decide) ?_ | refine noG_n ?_ | refine noG_r ?_ | refine noG_e ?_ | refine inR_mk ?_ ?_) | (refine fun (hc : (_ : Bool) = _) => ?_; try simp only [hcS] at hc))
      all_goals try (first | (with_reducible assumption) | ((try simp only [Cat.F, Cat.T, Cat.I, Cat.C, Fun.O, Fun.A, Cat.Entry, Int.toNat_natCast] at *); omega))
      · refine ⟨⟨a + 1, by omega, (by trivial)⟩, by simp only; omega, Imp.auto hX (by simp only [go_sem, simprocAttr, e2])⟩
    · have ea : a = (fcA L).length := by omega
      subst ea
      repeat' (first | (with_reducible first | refine V_seq ?_ | refine V_block ?_ | refine V_skip ?_ | refine V_ret ?_ | refine V_exit ?_) | ((with_reducible refine V_cond ?_); simp only [go_sem, simprocAttr]) | ((refine V_region (by rw [hn]; rfl) ?_); intro K hK) | ((first | with_reducible refine evOps_n ?_ | ((with_reducible apply evOps_g); rfl)); intro K hK; simp (contextual := true) only [go_sem, simprocAttr]) | with_reducible refine evOps_nil ?_ | ((with_reducible refine hK _ ?_); clear hK K) | (with_reducible first | refine And.intro ?_ ?_ | refine nxt_n ?_ | refine nxt_r ?_ | refine nxt_e ?_ | refine blk_n ?_ | refine blk_r ?_ | refine blk_same ?_ | refine blk_other (by decide) ?_ | refine noG_n ?_ | refine noG_r ?_ | refine noG_e ?_ | refine inR_mk ?_ ?_) | ((with_reducible refine evCall_at 63 ?_); refine EvCall.mk (hfu) cal_functor [(0,14),(1,15),(2,16),(3,17),(4,18),(5,19),(6,20),(7,21),(8,22),(9,23)] [4,5,6,7,8,1,12,13] (by simp [go_sem] <;> (repeat' (first | rfl | constructor))) (by simp [go_sem] <;> (repeat' (first | rfl | constructor))) ?_; all_goals try simp only [go_sem, simprocAttr]) | (refine fun (hc : (_ : Bool) = _) => ?_; try simp only [hcS] at hc))
      all_goals try (first | (with_reducible assumption) | ((try simp only [Cat.F, Cat.T, Cat.I, Cat.C, Fun.O, Fun.A, Cat.Entry, Int.toNat_natCast] at *); omega))
      · (first | refine ret_auto ?_ | refine ret_auto' ?_); simp only [go_sem, simprocAttr, Tryz.f26]
theorem cal_l02Object : Callable Tryz.prog 60 := ⟨_, Tryz.func60, rfl, rfl⟩
theorem sp_l02Object {c : Cat} {x : Int} : Spec Tryz.prog 60 [catV c, iv x] [] (bv (dec (0 ≤ x ∧ x < c.ob))) [] := by
  refine spec_of_V (E := TE) 0 Tryz.func60 rfl (by simp [Tryz.f60]) fun X hn hX => ?_
  repeat' (first | (with_reducible first | refine V_seq ?_ | refine V_skip ?_ | refine V_ret ?_) | ((with_reducible refine V_cond ?_); simp only [go_sem, simprocAttr]) | ((refine V_region (by rw [hn]; rfl) ?_); intro K hK) | ((first | with_reducible refine evOps_n ?_ | ((with_reducible apply evOps_g); rfl)); intro K hK; simp (contextual := true) only [go_sem, simprocAttr]) | with_reducible refine evOps_nil ?_ | ((with_reducible refine hK _ ?_); clear hK K) | (with_reducible first | refine And.intro ?_ ?_ | refine nxt_n ?_ | refine nxt_r ?_ | refine inR_mk ?_ ?_) | (refine fun (hc : (_ : Bool) = _) => ?_; try simp only [hcS] at hc))
  · (first | refine ret_auto ?_ | refine ret_auto' ?_); simp only [go_sem, simprocAttr, Tryz.f60]
    exact congrArg (fun b => Sv.v (.bool b)) (by rw [← dec_eq]; exact dec_congr ⟨fun h => ⟨hc, h⟩, fun h => h.2⟩)
  · (first | refine ret_auto ?_ | refine ret_auto' ?_); simp only [go_sem, simprocAttr, Tryz.f60]
    exact bv_f (fun e => by omega)
theorem cal_spec_EvaluationFunctor : Callable Tryz.prog 25 := ⟨_, Tryz.func25, rfl, rfl⟩
theorem sp_spec_EvaluationFunctor_bad {c d : Cat} {x : Int} (hc : CatB c) (hd : CatB d) (h : ¬ (IsCat c ∧ IsCat d)) : Spec Tryz.prog 25 [catV c, catV d, iv x] [] (.tup [.agg [iv 0, .v (.slice none 0 0), .v (.slice none 0 0), .v (.slice none 0 0), .v (.slice none 0 0), iv 0, .v (.slice none 0 0), .v (.slice none 0 0), .v (.slice none 0 0), .v (.slice none 0 0), .v (.slice none 0 0), .v (.slice none 0 0)], iv 1]) [] := by
  by_cases h1 : IsCat c
  · have h2 : ¬ IsCat d := fun q => h ⟨h1, q⟩
    have v1 := dec_t h1
    have v2 := dec_f h2
    refine spec_of_V (E := TE) 0 Tryz.func25 rfl (by simp [Tryz.f25]) fun X hn hX => ?_
    repeat' (first | (with_reducible first | refine V_seq ?_ | refine V_block ?_ | refine V_skip ?_ | refine V_ret ?_ | refine V_exit ?_) | ((with_reducible refine V_cond ?_); simp only [go_sem, simprocAttr]) | ((refine V_region (by rw [hn]; rfl) ?_); intro K hK) | ((first | with_reducible refine evOps_n ?_ | ((with_reducible apply evOps_g); rfl)); intro K hK; simp (contextual := true) only [go_sem, simprocAttr]) | with_reducible refine evOps_nil ?_ | ((with_reducible refine hK _ ?_); clear hK K) | (with_reducible first | refine And.intro ?_ ?_ | refine nxt_n ?_ | refine nxt_r ?_ | refine nxt_e ?_ | refine blk_n ?_ | refine blk_r ?_ | refine blk_same ?_ | refine blk_other (by decide) ?_ | refine noG_n ?_ | refine noG_r ?_ | refine noG_e ?_ | refine inR_mk ?_ ?_) | ((with_reducible refine evCall_at 51 ?_); refine EvCall.rq (a := (sp_l02Is_v (by first | omega | assumption | rfl) (by first | omega | assumption | rfl))) (b := cal_l02Is) (c := ?_); all_goals try simp only [go_sem, simprocAttr]) | (refine fun (hc : (_ : Bool) = _) => ?_; try simp only [hcS] at hc))
    all_goals try (first | (with_reducible assumption) | ((try simp only [Cat.F, Cat.T, Cat.I, Cat.C, Fun.O, Fun.A, Cat.Entry, Int.toNat_natCast] at *); omega))
    all_goals ((first | refine ret_auto ?_ | refine ret_auto' ?_); simp only [go_sem, simprocAttr, Tryz.f25])
  · have v1 := dec_f h1
    refine spec_of_V (E := TE) 0 Tryz.func25 rfl (by simp [Tryz.f25]) fun X hn hX => ?_
    repeat' (first | (with_reducible first | refine V_seq ?_ | refine V_block ?_ | refine V_skip ?_ | refine V_ret ?_ | refine V_exit ?_) | ((with_reducible refine V_cond ?_); simp only [go_sem, simprocAttr]) | ((refine V_region (by rw [hn]; rfl) ?_); intro K hK) | ((first | with_reducible refine evOps_n ?_ | ((with_reducible apply evOps_g); rfl)); intro K hK; simp (contextual := true) only [go_sem, simprocAttr]) | with_reducible refine evOps_nil ?_ | ((with_reducible refine hK _ ?_); clear hK K) | (with_reducible first | refine And.intro ?_ ?_ | refine nxt_n ?_ | refine nxt_r ?_ | refine nxt_e ?_ | refine blk_n ?_ | refine blk_r ?_ | refine blk_same ?_ | refine blk_other (by decide) ?_ | refine noG_n ?_ | refine noG_r ?_ | refine noG_e ?_ | refine inR_mk ?_ ?_) | ((with_reducible refine evCall_at 51 ?_); refine EvCall.rq (a := (sp_l02Is_v (by first | omega | assumption | rfl) (by first | omega | assumption | rfl))) (b := cal_l02Is) (c := ?_); all_goals try simp only [go_sem, simprocAttr]) | (refine fun (hc : (_ : Bool) = _) => ?_; try simp only [hcS] at hc))
    all_goals try (first | (with_reducible assumption) | ((try simp only [Cat.F, Cat.T, Cat.I, Cat.C, Fun.O, Fun.A, Cat.Entry, Int.toNat_natCast] at *); omega))
    all_goals ((first | refine ret_auto ?_ | refine ret_auto' ?_); simp only [go_sem, simprocAttr, Tryz.f25])
theorem sp_spec_EvaluationFunctor_out {c d : Cat} {x : Int} (hc : CatB c) (hd : CatB d) (sc : IsCat c) (sd : IsCat d) (h : ¬ (0 ≤ x ∧ x < c.ob)) : Spec Tryz.prog 25 [catV c, catV d, iv x] [] (.tup [.agg [iv 0, .v (.slice none 0 0), .v (.slice none 0 0), .v (.slice none 0 0), .v (.slice none 0 0), iv 0, .v (.slice none 0 0), .v (.slice none 0 0), .v (.slice none 0 0), .v (.slice none 0 0), .v (.slice none 0 0), .v (.slice none 0 0)], iv 2]) [] := by
  have v1 := dec_t sc
  have v2 := dec_t sd
  have hin := sp_l02Object (c := c) (x := x)
  rw [dec_f h] at hin
  refine spec_of_V (E := TE) 0 Tryz.func25 rfl (by simp [Tryz.f25]) fun X hn hX => ?_
  repeat' (first | (with_reducible first | refine V_seq ?_ | refine V_block ?_ | refine V_skip ?_ | refine V_ret ?_ | refine V_exit ?_) | ((with_reducible refine V_cond ?_); simp only [go_sem, simprocAttr]) | ((refine V_region (by rw [hn]; rfl) ?_); intro K hK) | ((first | with_reducible refine evOps_n ?_ | ((with_reducible apply evOps_g); rfl)); intro K hK; simp (contextual := true) only [go_sem, simprocAttr]) | with_reducible refine evOps_nil ?_ | ((with_reducible refine hK _ ?_); clear hK K) | (with_reducible first | refine And.intro ?_ ?_ | refine nxt_n ?_ | refine nxt_r ?_ | refine nxt_e ?_ | refine blk_n ?_ | refine blk_r ?_ | refine blk_same ?_ | refine blk_other (by decide) ?_ | refine noG_n ?_ | refine noG_r ?_ | refine noG_e ?_ | refine inR_mk ?_ ?_) | ((with_reducible refine evCall_at 51 ?_); refine EvCall.rq (a := (sp_l02Is_v (by first | omega | assumption | rfl) (by first | omega | assumption | rfl))) (b := cal_l02Is) (c := ?_); all_goals try simp only [go_sem, simprocAttr]) | ((with_reducible refine evCall_at 60 ?_); refine EvCall.mk (hin) cal_l02Object [] [] (by simp [go_sem] <;> (repeat' (first | rfl | constructor))) (by simp [go_sem] <;> (repeat' (first | rfl | constructor))) ?_; all_goals try simp only [go_sem, simprocAttr]) | (refine fun (hc : (_ : Bool) = _) => ?_; try simp only [hcS] at hc))
  all_goals try (first | (with_reducible assumption) | ((try simp only [Cat.F, Cat.T, Cat.I, Cat.C, Fun.O, Fun.A, Cat.Entry, Int.toNat_natCast] at *); omega))
  all_goals ((first | refine ret_auto ?_ | refine ret_auto' ?_); simp only [go_sem, simprocAttr, Tryz.f25])
theorem sp_spec_EvaluationFunctor_no {c d : Cat} {x : Int} (hc : CatB c) (hd : CatB d) (sc : IsCat c) (sd : IsCat d) (hx : 0 ≤ x ∧ x < c.ob) (h : ¬ FcY c d) : Spec Tryz.prog 25 [catV c, catV d, iv x] [] (.tup [.agg [iv 0, .v (.slice none 0 0), .v (.slice none 0 0), .v (.slice none 0 0), .v (.slice none 0 0), iv 0, .v (.slice none 0 0), .v (.slice none 0 0), .v (.slice none 0 0), .v (.slice none 0 0), .v (.slice none 0 0), .v (.slice none 0 0)], iv 3]) [] := by
  have v1 := dec_t sc
  have v2 := dec_t sd
  have hin := sp_l02Object (c := c) (x := x)
  rw [dec_t hx] at hin
  have h1 := sp_l08Make_o sc sd hc hd (.inr ⟨h, rfl, rfl⟩)
  refine spec_of_V (E := TE) 0 Tryz.func25 rfl (by simp [Tryz.f25]) fun X hn hX => ?_
  repeat' (first | (with_reducible first | refine V_seq ?_ | refine V_block ?_ | refine V_skip ?_ | refine V_ret ?_ | refine V_exit ?_) | ((with_reducible refine V_cond ?_); simp only [go_sem, simprocAttr]) | ((refine V_region (by rw [hn]; rfl) ?_); intro K hK) | ((first | with_reducible refine evOps_n ?_ | ((with_reducible apply evOps_g); rfl)); intro K hK; simp (contextual := true) only [go_sem, simprocAttr]) | with_reducible refine evOps_nil ?_ | ((with_reducible refine hK _ ?_); clear hK K) | (with_reducible first | refine And.intro ?_ ?_ | refine nxt_n ?_ | refine nxt_r ?_ | refine nxt_e ?_ | refine blk_n ?_ | refine blk_r ?_ | refine blk_same ?_ | refine blk_other (by decide) ?_ | refine noG_n ?_ | refine noG_r ?_ | refine noG_e ?_ | refine inR_mk ?_ ?_) | ((with_reducible refine evCall_at 51 ?_); refine EvCall.rq (a := (sp_l02Is_v (by first | omega | assumption | rfl) (by first | omega | assumption | rfl))) (b := cal_l02Is) (c := ?_); all_goals try simp only [go_sem, simprocAttr]) | ((with_reducible refine evCall_at 60 ?_); refine EvCall.mk (hin) cal_l02Object [] [] (by simp [go_sem] <;> (repeat' (first | rfl | constructor))) (by simp [go_sem] <;> (repeat' (first | rfl | constructor))) ?_; all_goals try simp only [go_sem, simprocAttr]) | ((with_reducible refine evCall_at 52 ?_); refine EvCall.mk (h1) cal_l08Make [] [] (by simp [go_sem] <;> (repeat' (first | rfl | constructor))) (by simp [go_sem] <;> (repeat' (first | rfl | constructor))) ?_; all_goals try simp only [go_sem, simprocAttr]) | (refine fun (hc : (_ : Bool) = _) => ?_; try simp only [hcS] at hc))
  all_goals try (first | (with_reducible assumption) | ((try simp only [Cat.F, Cat.T, Cat.I, Cat.C, Fun.O, Fun.A, Cat.Entry, Int.toNat_natCast] at *); omega))
  all_goals ((first | refine ret_auto ?_ | refine ret_auto' ?_); simp only [go_sem, simprocAttr, Tryz.f25])
theorem sp_spec_EvaluationFunctor_yes {c d : Cat} {x : Int} (hc : CatB c) (hd : CatB d) (sc : IsCat c) (sd : IsCat d) (hx : 0 ≤ x ∧ x < c.ob) (hy : FcY c d) : Spec Tryz.prog 25 [catV c, catV d, iv x] [] (.tup [.agg [iv (evF c d x).src.ob, .sl 0, .sl 1, .sl 2, .sl 3, iv (evF c d x).tgt.ob, .sl 4, .sl 5, .sl 6, .sl 7, .sl 8, .sl 9], iv 0]) [(0, ⟨1, .arr (ints (evF c d x).src.fr)⟩), (1, ⟨1, .arr (ints (evF c d x).src.to)⟩), (2, ⟨1, .arr (ints (evF c d x).src.id)⟩), (3, ⟨1, .arr (intss (evF c d x).src.co)⟩), (4, ⟨1, .arr (ints (evF c d x).tgt.fr)⟩), (5, ⟨1, .arr (ints (evF c d x).tgt.to)⟩), (6, ⟨1, .arr (ints (evF c d x).tgt.id)⟩), (7, ⟨1, .arr (intss (evF c d x).tgt.co)⟩), (8, ⟨1, .arr (ints (evF c d x).obs)⟩), (9, ⟨1, .arr (ints (evF c d x).ars)⟩)] := by
  have v1 := dec_t sc
  have v2 := dec_t sd
  have hin := sp_l02Object (c := c) (x := x)
  rw [dec_t hx] at hin
  obtain ⟨x0, x1⟩ := hx
  have c8 := sc.toShape.ob8
  have h1 := sp_l08Make_o sc sd hc hd (.inl ⟨hy, rfl, rfl⟩)
  have hL := hy.2.1
  have hA := hy.2.2
  have hfl : FL c d (fcL c d) := FL.of_funX
  have hKb := fcK_b d hL hA
  have hfu := sp_l06Make (c := fcK d (fcL c d)) (d := d) (p := evlO (fcL c d) x (fcL c d).length) (q := evlA (fcA (fcL c d)) x (fcA (fcL c d)).length) hKb hd (by rw [evlO_len (Nat.le_refl _)]; omega) (by rw [evlA_len (Nat.le_refl _)]; omega)
  obtain ⟨L, hLd⟩ : ∃ L, fcL c d = L := ⟨_, rfl⟩
  rw [hLd] at h1 hL hA hfl hKb hfu
  have eF : evF c d x = ⟨fcK d L, d, evlO L x L.length, evlA (fcA L) x (fcA L).length⟩ := by unfold evF; rw [hLd]
  rw [eF]
  refine spec_of_V (E := TE) 0 Tryz.func25 rfl (by simp [Tryz.f25]) fun X hn hX => ?_
  repeat' (first | (with_reducible first | refine V_seq ?_ | refine V_block ?_ | refine V_skip ?_ | refine V_ret ?_ | refine V_exit ?_) | ((with_reducible refine V_cond ?_); simp only [go_sem, simprocAttr]) | ((refine V_region (by rw [hn]; rfl) ?_); intro K hK) | ((first | with_reducible refine evOps_n ?_ | ((with_reducible apply evOps_g); rfl)); intro K hK; simp (contextual := true) only [go_sem, simprocAttr]) | with_reducible refine evOps_nil ?_ | ((with_reducible refine hK _ ?_); clear hK K) | (with_reducible first | refine And.intro ?_ ?_ | refine nxt_n ?_ | refine nxt_r ?_ | refine nxt_e ?_ | refine blk_n ?_ | refine blk_r ?_ | refine blk_same ?_ | refine blk_other (by decide) ?_ | refine noG_n ?_ | refine noG_r ?_ | refine noG_e ?_ | refine inR_mk ?_ ?_) | ((with_reducible refine evCall_at 51 ?_); refine EvCall.rq (a := (sp_l02Is_v (by first | omega | assumption | rfl) (by first | omega | assumption | rfl))) (b := cal_l02Is) (c := ?_); all_goals try simp only [go_sem, simprocAttr]) | ((with_reducible refine evCall_at 60 ?_); refine EvCall.mk (hin) cal_l02Object [] [] (by simp [go_sem] <;> (repeat' (first | rfl | constructor))) (by simp [go_sem] <;> (repeat' (first | rfl | constructor))) ?_; all_goals try simp only [go_sem, simprocAttr]) | ((with_reducible refine evCall_at 52 ?_); refine EvCall.mk (h1) cal_l08Make [(0,3),(1,4),(2,5),(3,6),(4,7),(5,8)] [] (by simp [go_sem] <;> (repeat' (first | rfl | constructor))) (by simp [go_sem] <;> (repeat' (first | rfl | constructor))) ?_; all_goals try simp only [go_sem, simprocAttr]) | (refine fun (hc : (_ : Bool) = _) => ?_; try simp only [hcS] at hc))
  all_goals try (first | (with_reducible assumption) | ((try simp only [Cat.F, Cat.T, Cat.I, Cat.C, Fun.O, Fun.A, Cat.Entry, Int.toNat_natCast] at *); omega))
  refine V_loopK (G := {i : Nat // i ≤ L.length ∧ (True)}) (fun ⟨i, _⟩ => [(12, iv i), (3, .ptr 0 0), (8, .ptr 9 0), (10, .sl 10), (11, .sl 11)]) [2, 4, 6, 7] (fun ⟨i, _⟩ => [(10, ⟨1, .arr (ints (evlO L x i))⟩), (11, ⟨1, .arr (ints [])⟩)]) [10, 11] (fun zz => L.length - zz.1) ⟨0, Nat.zero_le _, by first | trivial | simp⟩ ?_ ?_
  · exact Imp.auto hX (by simp [go_sem, simprocAttr])
  rintro ⟨i, hii, hwi⟩
  simp only [go_sem, simprocAttr]
  have hol := evlO_len (L := L) (x := x) hii
  rcases Nat.lt_or_ge i L.length with hli | hgi
  · have hfo := (hfl i hli).2.2.obl
    rw [(hfl i hli).1] at hfo
    have hat : (funsD L).at (i * 12 + 10) = ints (L.getD i default).obs := funs_at L i 10 hli (by decide)
    have e1 := evlO_succ (x := x) hli
    repeat' (first | (rw [hat]; simp only [go_sem, simprocAttr]) | (with_reducible first | refine V_seq ?_ | refine V_block ?_ | refine V_skip ?_ | refine V_ret ?_ | refine V_exit ?_) | ((with_reducible refine V_cond ?_); simp only [go_sem, simprocAttr]) | ((refine V_region (by rw [hn]; rfl) ?_); intro K hK) | ((first | with_reducible refine evOps_n ?_ | ((with_reducible apply evOps_g); rfl)); intro K hK; simp (contextual := true) only [go_sem, simprocAttr]) | with_reducible refine evOps_nil ?_ | ((with_reducible refine hK _ ?_); clear hK K) | (with_reducible first | refine And.intro ?_ ?_ | refine nxt_n ?_ | refine nxt_r ?_ | refine nxt_e ?_ | refine blk_n ?_ | refine blk_r ?_ | refine blk_same ?_ | refine blk_other (by decide) ?_ | refine noG_n ?_ | refine noG_r ?_ | refine noG_e ?_ | refine inR_mk ?_ ?_) | (refine fun (hc : (_ : Bool) = _) => ?_; try simp only [hcS] at hc))
    all_goals try (first | (with_reducible assumption) | ((try simp only [Cat.F, Cat.T, Cat.I, Cat.C, Fun.O, Fun.A, Cat.Entry, Int.toNat_natCast] at *); omega))
    · refine ⟨⟨i + 1, by omega, (by trivial)⟩, by simp only; omega, Imp.auto hX (by simp only [go_sem, simprocAttr, e1])⟩
  · have ei : i = L.length := by omega
    subst ei
    repeat' (first | (with_reducible first | refine V_seq ?_ | refine V_block ?_ | refine V_skip ?_ | refine V_ret ?_ | refine V_exit ?_) | ((with_reducible refine V_cond ?_); simp only [go_sem, simprocAttr]) | ((refine V_region (by rw [hn]; rfl) ?_); intro K hK) | ((first | with_reducible refine evOps_n ?_ | ((with_reducible apply evOps_g); rfl)); intro K hK; simp (contextual := true) only [go_sem, simprocAttr]) | with_reducible refine evOps_nil ?_ | ((with_reducible refine hK _ ?_); clear hK K) | (with_reducible first | refine And.intro ?_ ?_ | refine nxt_n ?_ | refine nxt_r ?_ | refine nxt_e ?_ | refine blk_n ?_ | refine blk_r ?_ | refine blk_same ?_ | refine blk_other (by decide) ?_ | refine noG_n ?_ | refine noG_r ?_ | refine noG_e ?_ | refine inR_mk ?_ ?_) | (refine fun (hc : (_ : Bool) = _) => ?_; try simp only [hcS] at hc))
    all_goals try (first | (with_reducible assumption) | ((try simp only [Cat.F, Cat.T, Cat.I, Cat.C, Fun.O, Fun.A, Cat.Entry, Int.toNat_natCast] at *); omega))
    refine V_loopK (G := {a : Nat // a ≤ (fcA L).length ∧ (True)}) (fun ⟨a, _⟩ => [(13, iv a), (3, .ptr 0 0), (8, .ptr 9 0), (10, .sl 10), (11, .sl 11)]) [2, 4, 6, 7] (fun ⟨a, _⟩ => [(10, ⟨1, .arr (ints (evlO L x L.length))⟩), (11, ⟨1, .arr (ints (evlA (fcA L) x a))⟩)]) [10, 11] (fun zz => (fcA L).length - zz.1) ⟨0, Nat.zero_le _, by first | trivial | simp⟩ ?_ ?_
    · exact Imp.auto hX (by simp [go_sem, simprocAttr])
    rintro ⟨a, hia, hwa⟩
    simp only [go_sem, simprocAttr]
    have hal := evlA_len (A := fcA L) (x := x) hia
    rcases Nat.lt_or_ge a (fcA L).length with hla | hga
    · have hal2 := (hfl.arr (getD_mem (d := []) hla)).len
      have e2 := evlA_succ (x := x) hla
      repeat' (first | (with_reducible first | refine V_seq ?_ | refine V_block ?_ | refine V_skip ?_ | refine V_ret ?_ | refine V_exit ?_) | ((with_reducible refine V_cond ?_); simp only [go_sem, simprocAttr]) | ((refine V_region (by rw [hn]; rfl) ?_); intro K hK) | ((first | with_reducible refine evOps_n ?_ | ((with_reducible apply evOps_g); rfl)); intro K hK; simp (contextual := true) only [go_sem, simprocAttr]) | with_reducible refine evOps_nil ?_ | ((with_reducible refine hK _ ?_); clear hK K) | (with_reducible first | refine And.intro ?_ ?_ | refine nxt_n ?_ | refine nxt_r ?_ | refine nxt_e ?_ | refine blk_n ?_ | refine blk_r ?_ | refine blk_same ?_ | refine blk_other (by decide) ?_ | refine noG_n ?_ | refine noG_r ?_ | refine noG_e ?_ | refine inR_mk ?_ ?_) | (refine fun (hc : (_ : Bool) = _) => ?_; try simp only [hcS] at hc))
      all_goals try (first | (with_reducible assumption) | ((try simp only [Cat.F, Cat.T, Cat.I, Cat.C, Fun.O, Fun.A, Cat.Entry, Int.toNat_natCast] at *); omega))
      · refine ⟨⟨a + 1, by omega, (by trivial)⟩, by simp only; omega, Imp.auto hX (by simp only [go_sem, simprocAttr, e2])⟩
    · have ea : a = (fcA L).length := by omega
      subst ea
      repeat' (first | (with_reducible first | refine V_seq ?_ | refine V_block ?_ | refine V_skip ?_ | refine V_ret ?_ | refine V_exit ?_) | ((with_reducible refine V_cond ?_); simp only [go_sem, simprocAttr]) | ((refine V_region (by rw [hn]; rfl) ?_); intro K hK) | ((first | with_reducible refine evOps_n ?_ | ((with_reducible apply evOps_g); rfl)); intro K hK; simp (contextual := true) only [go_sem, simprocAttr]) | with_reducible refine evOps_nil ?_ | ((with_reducible refine hK _ ?_); clear hK K) | (with_reducible first | refine And.intro ?_ ?_ | refine nxt_n ?_ | refine nxt_r ?_ | refine nxt_e ?_ | refine blk_n ?_ | refine blk_r ?_ | refine blk_same ?_ | refine blk_other (by decide) ?_ | refine noG_n ?_ | refine noG_r ?_ | refine noG_e ?_ | refine inR_mk ?_ ?_) | ((with_reducible refine evCall_at 61 ?_); refine EvCall.mk (hfu) cal_l06Make [(0,12),(1,13),(2,14),(3,15),(4,16),(5,17),(6,18),(7,19),(8,20),(9,21)] [3,4,5,6,10,11] (by simp [go_sem] <;> (repeat' (first | rfl | constructor))) (by simp [go_sem] <;> (repeat' (first | rfl | constructor))) ?_; all_goals try simp only [go_sem, simprocAttr]) | (refine fun (hc : (_ : Bool) = _) => ?_; try simp only [hcS] at hc))
      all_goals try (first | (with_reducible assumption) | ((try simp only [Cat.F, Cat.T, Cat.I, Cat.C, Fun.O, Fun.A, Cat.Entry, Int.toNat_natCast] at *); omega))
      · (first | refine ret_auto ?_ | refine ret_auto' ?_); simp only [go_sem, simprocAttr, Tryz.f25]
end Go.Eng
