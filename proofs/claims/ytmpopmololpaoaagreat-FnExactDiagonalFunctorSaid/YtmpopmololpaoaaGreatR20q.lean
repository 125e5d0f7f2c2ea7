/- DiagonalFunctor, by the program and by the reference. -/
import Derived.Test.YtmpopmololpaoaaGreatKdx
import Derived.Test.YtmpopmololpaoaaGreatKacx
set_option linter.unusedSimpArgs false
set_option linter.unusedVariables false
set_option maxRecDepth 100000
set_option maxHeartbeats 16000000
namespace Go.Eng
open Go Go.Proofs Go.Cats
def cnO (c : Cat) (y : Nat) : List Int := List.replicate c.ob.toNat (y : Int)
def cnA (c d : Cat) (y : Nat) : List Int := List.replicate c.fr.length (d.id.getD y 0)
noncomputable def cnI (c d : Cat) (y : Nat) : Nat := fcAt (fcL c d) (cnO c y) (cnA c d y)
noncomputable def diO (c d : Cat) (y : Nat) : List Int := (List.range y).map fun y => (cnI c d y : Int)
noncomputable def diK (c d : Cat) (a : Nat) : List Int := (cnI c d (d.fr.getD a 0).toNat : Int) :: (cnI c d (d.to.getD a 0).toNat : Int) :: List.replicate c.ob.toNat (a : Int)
noncomputable def diA (c d : Cat) (a : Nat) : List Int := (List.range a).map fun a => fnd (fcA (fcL c d)) (diK c d a)
noncomputable def diF (c d : Cat) : Fun := ⟨d, fcK d (fcL c d), diO c d d.ob.toNat, diA c d d.fr.length⟩
section
variable {c d : Cat} {y a : Nat}
theorem diO_zero (c d) : diO c d 0 = [] := rfl
theorem diA_zero (c d) : diA c d 0 = [] := rfl
theorem diO_len : (diO c d y).length = y := by unfold diO; rw [List.length_map, List.length_range]
theorem diA_len : (diA c d a).length = a := by unfold diA; rw [List.length_map, List.length_range]
theorem diO_succ : diO c d (y + 1) = diO c d y ++ [(cnI c d y : Int)] := by unfold diO; rw [List.range_succ, List.map_append, List.map_singleton]
theorem diA_succ : diA c d (a + 1) = diA c d a ++ [fnd (fcA (fcL c d)) (diK c d a)] := by unfold diA; rw [List.range_succ, List.map_append, List.map_singleton]
theorem diO_at {n : Nat} (h : y < n) : (diO c d n).getD y 0 = (cnI c d y : Int) := by
  unfold diO; rw [List.getD_eq_getElem?_getD, List.getElem?_map, List.getElem?_range h]; rfl
theorem cn_ob (sc : IsCat c) (sd : IsCat d) (hL : (fcL c d).length ≤ 8) (hy : (y : Int) < d.ob) : ObOK (fcL c d) (cnO c y) (cnA c d y) (cnI c d y) := fc_ob sc.toShape sd.toShape hL (const_fits sc sd hy)
theorem diK_mem (sc : IsCat c) (sd : IsCat d) (hL : (fcL c d).length ≤ 8) (ha : a < d.fr.length) : diK c d a ∈ fcA (fcL c d) := by
  have c0 := sc.toShape.ob0
  have f1 := sd.toShape.frw a ha
  have f2 := sd.toShape.tow a (by rw [sd.toShape.tol]; exact ha)
  have o1 := cn_ob (y := (d.fr.getD a 0).toNat) sc sd hL (by omega)
  have o2 := cn_ob (y := (d.to.getD a 0).toNat) sc sd hL (by omega)
  have hfl : FL c d (fcL c d) := FL.of_funX
  refine mem_fcA.2 ⟨_, _, _, o1.lt, o2.lt, ?_, rfl⟩
  obtain ⟨g1, g2, g3⟩ := hfl _ o1.lt
  obtain ⟨k1, k2, k3⟩ := hfl _ o2.lt
  have ea : (a : Int) ∈ d.hom (d.fr.getD a 0) (d.to.getD a 0) := Cat.mem_hom.2 ⟨by omega, by omega, by simp [Cat.F], by simp [Cat.T]⟩
  have ro : ∀ (z : Int) (x : Nat), x < c.ob.toNat → (List.replicate c.ob.toNat z).getD x 0 = z := fun z x h1 => by
    rw [List.getD_eq_getElem?_getD, List.getElem?_replicate, if_pos h1]; rfl
  have ra : ∀ (z : Int) (x : Nat), x < c.fr.length → (List.replicate c.fr.length z).getD x 0 = z := fun z x h1 => by
    rw [List.getD_eq_getElem?_getD, List.getElem?_replicate, if_pos h1]; rfl
  refine mem_natA.2 ⟨by rw [List.length_replicate, g1], fun x hx => ?_, fun b hb => ?_⟩
  · rw [List.length_replicate] at hx
    rw [g2, o1.po, o2.po]
    unfold cnO
    rw [ro _ _ hx, ro _ _ hx, ro _ _ hx, Int.toNat_of_nonneg f1.1, Int.toNat_of_nonneg f2.1]
    exact ea
  · rw [g1] at hb
    have b1 := sc.toShape.frw b hb
    have b2 := sc.toShape.tow b (by rw [sc.toShape.tol]; exact hb)
    unfold SqP
    rw [g1, g2, o1.qo, o2.qo]
    unfold cnA
    rw [ra _ _ hb, ra _ _ hb, ro _ _ (by omega), ro _ _ (by omega)]
    have u1 := sd.unl a ha
    have u2 := sd.unr a ha
    have e1 : d.I (d.F (a : Int)) = d.id.getD (d.fr.getD a 0).toNat 0 := by simp [Cat.I, Cat.F]
    have e2 : d.I (d.T (a : Int)) = d.id.getD (d.to.getD a 0).toNat 0 := by simp [Cat.I, Cat.T]
    rw [e1] at u1
    rw [e2] at u2
    rw [u1, u2]
end
def DiOut (c d : Cat) (g : Fun) (code : Int) : Prop :=
  (¬ (IsCat c ∧ IsCat d) ∧ g = nilF ∧ code = 1) ∨ (IsCat c ∧ IsCat d ∧ ((¬ FcY c d ∧ g = nilF ∧ code = 3) ∨ (FcY c d ∧ g = diF c d ∧ code = 0)))
theorem DiOut.ex (c d : Cat) : ∃ g code, DiOut c d g code := by
  by_cases h : IsCat c ∧ IsCat d
  · by_cases h3 : FcY c d
    · exact ⟨_, _, .inr ⟨h.1, h.2, .inr ⟨h3, rfl, rfl⟩⟩⟩
    · exact ⟨_, _, .inr ⟨h.1, h.2, .inl ⟨h3, rfl, rfl⟩⟩⟩
  · exact ⟨_, _, .inl ⟨h, rfl, rfl⟩⟩
theorem diF_b {c d : Cat} (sd : Shape d) (hd : CatB d) (hy : FcY c d) : FunB (diF c d) := by
  have d8 := sd.ob8
  have m40 := sd.m40
  refine ⟨hd, fcK_b d hy.2.1 hy.2.2, ?_, ?_⟩
  · show (diO _ _ _).length ≤ 1048576; rw [diO_len]; omega
  · show (diA _ _ _).length ≤ 1048576; rw [diA_len]; omega
attribute [local go_sem] List.set_cons_zero List.set_cons_succ diO_zero diA_zero
theorem cal_DiagonalFunctor : Callable Tryz.prog 31 := ⟨_, Tryz.func31, rfl, rfl⟩
theorem sp_DiagonalFunctor_bad {c d : Cat} (hc : CatB c) (hd : CatB d) (h : ¬ (IsCat c ∧ IsCat d)) : Spec Tryz.prog 31 [catV c, catV d] [] (.tup [.agg [iv 0, .v (.slice none 0 0), .v (.slice none 0 0), .v (.slice none 0 0), .v (.slice none 0 0), iv 0, .v (.slice none 0 0), .v (.slice none 0 0), .v (.slice none 0 0), .v (.slice none 0 0), .v (.slice none 0 0), .v (.slice none 0 0)], iv 1]) [] := by
  have v1 := dec_f h
  refine spec_of_V (E := TE) 0 Tryz.func31 rfl (by simp [Tryz.f31]) fun X hn hX => ?_
  repeat' (first | (refine V_at 1 (Imp.trans (Imp.lendCat 2 0 1 c rfl rfl (Nat.le_refl 1)) (Imp.lendCat 3 1 1 d rfl rfl (Nat.le_refl 1))) ?_; simp only [go_sem, simprocAttr]) | (exact absurd (by assumption) h) | (with_reducible first | refine V_seq ?_ | refine V_block ?_ | refine V_skip ?_ | refine V_ret ?_ | refine V_exit ?_) | ((with_reducible refine V_cond ?_); simp only [go_sem, simprocAttr]) | ((first | refine V_region (by rw [hn]; rfl) ?_ | refine V_drawn hmix (by rw [hn]; rfl) ?_); intro K hK) | ((first | with_reducible refine evOps_n ?_ | ((with_reducible apply evOps_g); rfl) | with_reducible refine evOpsD_n ?_ | ((with_reducible apply evOpsD_g); rfl)); intro K hK; simp (contextual := true) only [go_sem, simprocAttr]) | with_reducible refine evOps_nil ?_ | ((with_reducible refine evOpsD_nil ?_ ?_); kernel_rfl) | ((with_reducible refine hK _ ?_); clear hK K) | (with_reducible first | refine And.intro ?_ ?_ | refine nxt_n ?_ | refine nxt_r ?_ | refine nxt_e ?_ | refine blk_n ?_ | refine blk_r ?_ | refine blk_same ?_ | refine blk_other (by decide) ?_ | refine noG_n ?_ | refine noG_r ?_ | refine noG_e ?_ | refine inR_mk ?_ ?_) | ((with_reducible refine evCall_at 55 ?_); refine EvCall.rq (a := (sp_areCategories_two (by first | omega | assumption | rfl) (by first | omega | assumption | rfl))) (b := cal_areCategories) (c := ?_); all_goals try simp only [go_sem, simprocAttr]) | (refine fun (hc : (_ : Bool) = _) => ?_; try simp only [hcS] at hc))
  all_goals try (first | (with_reducible assumption) | ((try simp only [Cat.F, Cat.T, Cat.I, Cat.C, Fun.O, Fun.A, Cat.Entry, Int.toNat_natCast] at *); omega))
  all_goals ((first | refine ret_auto ?_ | refine ret_auto' ?_); simp only [go_sem, simprocAttr, Tryz.f31])
theorem sp_DiagonalFunctor_no {c d : Cat} (hc : CatB c) (hd : CatB d) (sc : IsCat c) (sd : IsCat d) (h : ¬ FcY c d) : Spec Tryz.prog 31 [catV c, catV d] [] (.tup [.agg [iv 0, .v (.slice none 0 0), .v (.slice none 0 0), .v (.slice none 0 0), .v (.slice none 0 0), iv 0, .v (.slice none 0 0), .v (.slice none 0 0), .v (.slice none 0 0), .v (.slice none 0 0), .v (.slice none 0 0), .v (.slice none 0 0)], iv 3]) [] := by
  have v1 := dec_t (And.intro sc sd)
  have h1 := sp_functors_o sc sd hc hd (.inr ⟨h, rfl, rfl⟩)
  refine spec_of_V (E := TE) 0 Tryz.func31 rfl (by simp [Tryz.f31]) fun X hn hX => ?_
  repeat' (first | (refine V_at 1 (Imp.trans (Imp.lendCat 2 0 1 c rfl rfl (Nat.le_refl 1)) (Imp.lendCat 3 1 1 d rfl rfl (Nat.le_refl 1))) ?_; simp only [go_sem, simprocAttr]) | (exact absurd (And.intro sc sd) (by assumption)) | (with_reducible first | refine V_seq ?_ | refine V_block ?_ | refine V_skip ?_ | refine V_ret ?_ | refine V_exit ?_) | ((with_reducible refine V_cond ?_); simp only [go_sem, simprocAttr]) | ((first | refine V_region (by rw [hn]; rfl) ?_ | refine V_drawn hmix (by rw [hn]; rfl) ?_); intro K hK) | ((first | with_reducible refine evOps_n ?_ | ((with_reducible apply evOps_g); rfl) | with_reducible refine evOpsD_n ?_ | ((with_reducible apply evOpsD_g); rfl)); intro K hK; simp (contextual := true) only [go_sem, simprocAttr]) | with_reducible refine evOps_nil ?_ | ((with_reducible refine evOpsD_nil ?_ ?_); kernel_rfl) | ((with_reducible refine hK _ ?_); clear hK K) | (with_reducible first | refine And.intro ?_ ?_ | refine nxt_n ?_ | refine nxt_r ?_ | refine nxt_e ?_ | refine blk_n ?_ | refine blk_r ?_ | refine blk_same ?_ | refine blk_other (by decide) ?_ | refine noG_n ?_ | refine noG_r ?_ | refine noG_e ?_ | refine inR_mk ?_ ?_) | ((with_reducible refine evCall_at 55 ?_); refine EvCall.rq (a := (sp_areCategories_two (by first | omega | assumption | rfl) (by first | omega | assumption | rfl))) (b := cal_areCategories) (c := ?_); all_goals try simp only [go_sem, simprocAttr]) | ((with_reducible refine evCall_at 56 ?_); refine EvCall.mk (h1) cal_functors [] [0,1] (by simp [go_sem] <;> (repeat' (first | rfl | constructor))) (by simp [go_sem] <;> (repeat' (first | rfl | constructor))) ?_; all_goals try simp only [go_sem, simprocAttr]) | (refine fun (hc : (_ : Bool) = _) => ?_; try simp only [hcS] at hc))
  all_goals try (first | (with_reducible assumption) | ((try simp only [Cat.F, Cat.T, Cat.I, Cat.C, Fun.O, Fun.A, Cat.Entry, Int.toNat_natCast] at *); omega))
  all_goals ((first | refine ret_auto ?_ | refine ret_auto' ?_); simp only [go_sem, simprocAttr, Tryz.f31])
theorem sp_DiagonalFunctor_yes {c d : Cat} (hc : CatB c) (hd : CatB d) (sc : IsCat c) (sd : IsCat d) (hy : FcY c d) : Spec Tryz.prog 31 [catV c, catV d] [] (.tup [.agg [iv (diF c d).src.ob, .sl 0, .sl 1, .sl 2, .sl 3, iv (diF c d).tgt.ob, .sl 4, .sl 5, .sl 6, .sl 7, .sl 8, .sl 9], iv 0]) [(0, ⟨1, .arr (ints (diF c d).src.fr)⟩), (1, ⟨1, .arr (ints (diF c d).src.to)⟩), (2, ⟨1, .arr (ints (diF c d).src.id)⟩), (3, ⟨1, .arr (intss (diF c d).src.co)⟩), (4, ⟨1, .arr (ints (diF c d).tgt.fr)⟩), (5, ⟨1, .arr (ints (diF c d).tgt.to)⟩), (6, ⟨1, .arr (ints (diF c d).tgt.id)⟩), (7, ⟨1, .arr (intss (diF c d).tgt.co)⟩), (8, ⟨1, .arr (ints (diF c d).obs)⟩), (9, ⟨1, .arr (ints (diF c d).ars)⟩)] := by
  have v1 := dec_t (And.intro sc sd)
  have c0 := sc.toShape.ob0
  have c8 := sc.toShape.ob8
  have c40 := sc.toShape.m40
  have d0 := sd.toShape.ob0
  have d8 := sd.toShape.ob8
  have d40 := sd.toShape.m40
  have dtl := sd.toShape.tol
  have dil := sd.toShape.idl
  have h1 := sp_functors_o sc sd hc hd (.inl ⟨hy, rfl, rfl⟩)
  have hL := hy.2.1
  have hA := hy.2.2
  have hfl : FL c d (fcL c d) := FL.of_funX
  have hKb := fcK_b d hL hA
  have hk := fc_key hfl hL sd.toShape
  have hfu := sp_functor (c := d) (d := fcK d (fcL c d)) (p := diO c d d.ob.toNat) (q := diA c d d.fr.length) hd hKb (by rw [diO_len]; omega) (by rw [diA_len]; omega)
  have hrc := sp_repeated (n := c.ob) (x := 0) c0 (by omega)
  have eF : diF c d = ⟨d, fcK d (fcL c d), diO c d d.ob.toNat, diA c d d.fr.length⟩ := rfl
  rw [eF]
  refine spec_of_V (E := TE) 0 Tryz.func31 rfl (by simp [Tryz.f31]) fun X hn hX => ?_
  repeat' (first | (refine V_at 1 (Imp.trans (Imp.lendCat 2 0 1 c rfl rfl (Nat.le_refl 1)) (Imp.lendCat 3 1 1 d rfl rfl (Nat.le_refl 1))) ?_; simp only [go_sem, simprocAttr]) | (exact absurd (And.intro sc sd) (by assumption)) | (with_reducible first | refine V_seq ?_ | refine V_block ?_ | refine V_skip ?_ | refine V_ret ?_ | refine V_exit ?_) | ((with_reducible refine V_cond ?_); simp only [go_sem, simprocAttr]) | ((first | refine V_region (by rw [hn]; rfl) ?_ | refine V_drawn hmix (by rw [hn]; rfl) ?_); intro K hK) | ((first | with_reducible refine evOps_n ?_ | ((with_reducible apply evOps_g); rfl) | with_reducible refine evOpsD_n ?_ | ((with_reducible apply evOpsD_g); rfl)); intro K hK; simp (contextual := true) only [go_sem, simprocAttr]) | with_reducible refine evOps_nil ?_ | ((with_reducible refine evOpsD_nil ?_ ?_); kernel_rfl) | ((with_reducible refine hK _ ?_); clear hK K) | (with_reducible first | refine And.intro ?_ ?_ | refine nxt_n ?_ | refine nxt_r ?_ | refine nxt_e ?_ | refine blk_n ?_ | refine blk_r ?_ | refine blk_same ?_ | refine blk_other (by decide) ?_ | refine noG_n ?_ | refine noG_r ?_ | refine noG_e ?_ | refine inR_mk ?_ ?_) | ((with_reducible refine evCall_at 55 ?_); refine EvCall.rq (a := (sp_areCategories_two (by first | omega | assumption | rfl) (by first | omega | assumption | rfl))) (b := cal_areCategories) (c := ?_); all_goals try simp only [go_sem, simprocAttr]) | ((with_reducible refine evCall_at 56 ?_); refine EvCall.mk (h1) cal_functors [(0,4),(1,5),(2,6),(3,7),(4,8),(5,9),(6,10),(7,11)] [0,1] (by simp [go_sem] <;> (repeat' (first | rfl | constructor))) (by simp [go_sem] <;> (repeat' (first | rfl | constructor))) ?_; all_goals try simp only [go_sem, simprocAttr]) | (refine fun (hc : (_ : Bool) = _) => ?_; try simp only [hcS] at hc))
  all_goals try (first | (with_reducible assumption) | ((try simp only [Cat.F, Cat.T, Cat.I, Cat.C, Fun.O, Fun.A, Cat.Entry, Int.toNat_natCast] at *); omega))
  refine V_loopK (G := {y : Nat // y ≤ d.ob.toNat ∧ (True)}) (fun ⟨y, _⟩ => [(10, iv y), (6, .ptr 4 0), (8, .sl 12), (9, .sl 13), (12, .bsl 3 2)]) [2, 3, 4, 5] (fun ⟨y, _⟩ => [(12, ⟨1, .arr (ints (diO c d y))⟩), (13, ⟨1, .arr (ints [])⟩)]) [12, 13] (fun zz => d.ob.toNat - zz.1) ⟨0, Nat.zero_le _, by first | trivial | simp⟩ ?_ ?_
  · exact Imp.auto hX (by simp [go_sem, simprocAttr])
  rintro ⟨y, hiy, hwy⟩
  simp only [go_sem, simprocAttr]
  have hol := diO_len (c := c) (d := d) (y := y)
  rcases Nat.lt_or_ge y d.ob.toNat with hly | hgy
  · have hob := cn_ob (y := y) sc sd hL (by omega)
    have r1 := sp_repeated (x := (y : Int)) (n := c.ob) c0 (by omega)
    have r2 := sp_repeated (x := d.id.getD y 0) (n := (c.fr.length : Int)) (by omega) (by omega)
    rw [Int.toNat_natCast] at r2
    rw [show List.replicate c.ob.toNat (y : Int) = cnO c y from rfl] at r1
    rw [show List.replicate c.fr.length (d.id.getD y 0) = cnA c d y from rfl] at r2
    have ho := sp_functorCategory_object (a0 := .v (.int .i64 (fcL c d).length)) (a1 := ints (fcK d (fcL c d)).fr) (a2 := ints (fcK d (fcL c d)).to) (a3 := ints (fcK d (fcL c d)).id) (a4 := intss (fcK d (fcL c d)).co) (a6 := intss (fcA (fcL c d))) (a7 := mapD Tryz.prog 9 2 (fcA (fcL c d)).length (pm (fcA (fcL c d)) (fcA (fcL c d)).length)) hob
    have e1 := diO_succ (c := c) (d := d) (y := y)
    repeat' (first | (with_reducible first | refine V_seq ?_ | refine V_block ?_ | refine V_skip ?_ | refine V_ret ?_ | refine V_exit ?_) | ((with_reducible refine V_cond ?_); simp only [go_sem, simprocAttr]) | ((first | refine V_region (by rw [hn]; rfl) ?_ | refine V_drawn hmix (by rw [hn]; rfl) ?_); intro K hK) | ((first | with_reducible refine evOps_n ?_ | ((with_reducible apply evOps_g); rfl) | with_reducible refine evOpsD_n ?_ | ((with_reducible apply evOpsD_g); rfl)); intro K hK; simp (contextual := true) only [go_sem, simprocAttr]) | with_reducible refine evOps_nil ?_ | ((with_reducible refine evOpsD_nil ?_ ?_); kernel_rfl) | ((with_reducible refine hK _ ?_); clear hK K) | (with_reducible first | refine And.intro ?_ ?_ | refine nxt_n ?_ | refine nxt_r ?_ | refine nxt_e ?_ | refine blk_n ?_ | refine blk_r ?_ | refine blk_same ?_ | refine blk_other (by decide) ?_ | refine noG_n ?_ | refine noG_r ?_ | refine noG_e ?_ | refine inR_mk ?_ ?_) | ((with_reducible refine (id ?_ : EvCall _ _ [iv y,iv c.ob] _ _)); refine EvCall.mk (r1) cal_repeated [(0,14)] [] (by simp [go_sem] <;> (repeat' (first | rfl | constructor))) (by simp [go_sem] <;> (repeat' (first | rfl | constructor))) ?_; all_goals try simp only [go_sem, simprocAttr]) | ((with_reducible refine evCall_at 68 ?_); refine EvCall.mk (r2) cal_repeated [(0,15)] [] (by simp [go_sem] <;> (repeat' (first | rfl | constructor))) (by simp [go_sem] <;> (repeat' (first | rfl | constructor))) ?_; all_goals try simp only [go_sem, simprocAttr]) | ((with_reducible refine evCall_at 69 ?_); refine EvCall.rq (a := (sp_Category_arrows)) (b := cal_Category_arrows) (c := ?_); all_goals try simp only [go_sem, simprocAttr]) | ((with_reducible refine evCall_at 67 ?_); refine EvCall.mk (ho) cal_functorCategory_object [] [4,5,6,7,8,9,10,11,14,15] (by simp [go_sem] <;> (repeat' (first | rfl | constructor))) (by simp [go_sem] <;> (repeat' (first | rfl | constructor))) ?_; all_goals try simp only [go_sem, simprocAttr]) | (refine fun (hc : (_ : Bool) = _) => ?_; try simp only [hcS] at hc))
    all_goals try (first | (with_reducible assumption) | ((try simp only [Cat.F, Cat.T, Cat.I, Cat.C, Fun.O, Fun.A, Cat.Entry, Int.toNat_natCast] at *); omega))
    · refine ⟨⟨y + 1, by omega, (by trivial)⟩, by simp only; omega, Imp.auto hX (by simp only [go_sem, simprocAttr, e1])⟩
  · have ey : y = d.ob.toNat := by omega
    subst ey
    repeat' (first | (with_reducible first | refine V_seq ?_ | refine V_block ?_ | refine V_skip ?_ | refine V_ret ?_ | refine V_exit ?_) | ((with_reducible refine V_cond ?_); simp only [go_sem, simprocAttr]) | ((first | refine V_region (by rw [hn]; rfl) ?_ | refine V_drawn hmix (by rw [hn]; rfl) ?_); intro K hK) | ((first | with_reducible refine evOps_n ?_ | ((with_reducible apply evOps_g); rfl) | with_reducible refine evOpsD_n ?_ | ((with_reducible apply evOpsD_g); rfl)); intro K hK; simp (contextual := true) only [go_sem, simprocAttr]) | with_reducible refine evOps_nil ?_ | ((with_reducible refine evOpsD_nil ?_ ?_); kernel_rfl) | ((with_reducible refine hK _ ?_); clear hK K) | (with_reducible first | refine And.intro ?_ ?_ | refine nxt_n ?_ | refine nxt_r ?_ | refine nxt_e ?_ | refine blk_n ?_ | refine blk_r ?_ | refine blk_same ?_ | refine blk_other (by decide) ?_ | refine noG_n ?_ | refine noG_r ?_ | refine noG_e ?_ | refine inR_mk ?_ ?_) | (refine fun (hc : (_ : Bool) = _) => ?_; try simp only [hcS] at hc))
    all_goals try (first | (with_reducible assumption) | ((try simp only [Cat.F, Cat.T, Cat.I, Cat.C, Fun.O, Fun.A, Cat.Entry, Int.toNat_natCast] at *); omega))
    refine V_loopK (G := {a : Nat // a ≤ d.fr.length ∧ (True)}) (fun ⟨a, _⟩ => [(50, iv a), (6, .ptr 4 0), (8, .sl 12), (9, .sl 13), (12, .bsl 3 2)]) [2, 3, 4, 5, 49] (fun ⟨a, _⟩ => [(12, ⟨1, .arr (ints (diO c d d.ob.toNat))⟩), (13, ⟨1, .arr (ints (diA c d a))⟩)]) [12, 13] (fun zz => d.fr.length - zz.1) ⟨0, Nat.zero_le _, by first | trivial | simp⟩ ?_ ?_
    · exact Imp.auto hX (by simp [go_sem, simprocAttr])
    rintro ⟨a, hia, hwa⟩
    simp only [go_sem, simprocAttr]
    have hal := diA_len (c := c) (d := d) (a := a)
    rcases Nat.lt_or_ge a d.fr.length with hla | hga
    · have f1 := sd.toShape.frw a hla
      have f2 := sd.toShape.tow a (by omega)
      have o1 := diO_at (c := c) (d := d) (y := (d.fr.getD a 0).toNat) (n := d.ob.toNat) (by omega)
      have o2 := diO_at (c := c) (d := d) (y := (d.to.getD a 0).toNat) (n := d.ob.toNat) (by omega)
      have hm := diK_mem sc sd hL hla
      have r1 := sp_repeated (x := (a : Int)) (n := c.ob) c0 (by omega)
      have har := sp_functorCategory_arrow (a0 := .v (.int .i64 (fcL c d).length)) (a1 := ints (fcK d (fcL c d)).fr) (a2 := ints (fcK d (fcL c d)).to) (a3 := ints (fcK d (fcL c d)).id) (a4 := intss (fcK d (fcL c d)).co) (a5 := funsD (fcL c d)) (a6 := intss (fcA (fcL c d))) hk hm (by rw [List.length_replicate]; omega)
      have e2 : diA c d (a + 1) = diA c d a ++ [fnd (fcA (fcL c d)) ((cnI c d (d.fr.getD a 0).toNat : Int) :: (cnI c d (d.to.getD a 0).toNat : Int) :: List.replicate c.ob.toNat (a : Int))] := diA_succ
      repeat' (first | (rw [o1]; simp only [go_sem, simprocAttr]) | (rw [o2]; simp only [go_sem, simprocAttr]) | (with_reducible first | refine V_seq ?_ | refine V_block ?_ | refine V_skip ?_ | refine V_ret ?_ | refine V_exit ?_) | ((with_reducible refine V_cond ?_); simp only [go_sem, simprocAttr]) | ((first | refine V_region (by rw [hn]; rfl) ?_ | refine V_drawn hmix (by rw [hn]; rfl) ?_); intro K hK) | ((first | with_reducible refine evOps_n ?_ | ((with_reducible apply evOps_g); rfl) | with_reducible refine evOpsD_n ?_ | ((with_reducible apply evOpsD_g); rfl)); intro K hK; simp (contextual := true) only [go_sem, simprocAttr]) | with_reducible refine evOps_nil ?_ | ((with_reducible refine evOpsD_nil ?_ ?_); kernel_rfl) | ((with_reducible refine hK _ ?_); clear hK K) | (with_reducible first | refine And.intro ?_ ?_ | refine nxt_n ?_ | refine nxt_r ?_ | refine nxt_e ?_ | refine blk_n ?_ | refine blk_r ?_ | refine blk_same ?_ | refine blk_other (by decide) ?_ | refine noG_n ?_ | refine noG_r ?_ | refine noG_e ?_ | refine inR_mk ?_ ?_) | ((with_reducible refine evCall_at 68 ?_); refine EvCall.mk (r1) cal_repeated [(0,14)] [] (by simp [go_sem] <;> (repeat' (first | rfl | constructor))) (by simp [go_sem] <;> (repeat' (first | rfl | constructor))) ?_; all_goals try simp only [go_sem, simprocAttr]) | ((with_reducible refine evCall_at 70 ?_); refine EvCall.mk (har) cal_functorCategory_arrow [] [4,5,6,7,8,9,10,11,14] (by simp [go_sem] <;> (repeat' (first | rfl | constructor))) (by simp [go_sem] <;> (repeat' (first | rfl | constructor))) ?_; all_goals try simp only [go_sem, simprocAttr]) | (refine fun (hc : (_ : Bool) = _) => ?_; try simp only [hcS] at hc))
      all_goals try (first | (with_reducible assumption) | ((try simp only [Cat.F, Cat.T, Cat.I, Cat.C, Fun.O, Fun.A, Cat.Entry, Int.toNat_natCast] at *); omega))
      · refine ⟨⟨a + 1, by omega, (by trivial)⟩, by simp only; omega, Imp.auto hX (by simp only [go_sem, simprocAttr, e2])⟩
    · have ea : a = d.fr.length := by omega
      subst ea
      repeat' (first | (with_reducible first | refine V_seq ?_ | refine V_block ?_ | refine V_skip ?_ | refine V_ret ?_ | refine V_exit ?_) | ((with_reducible refine V_cond ?_); simp only [go_sem, simprocAttr]) | ((first | refine V_region (by rw [hn]; rfl) ?_ | refine V_drawn hmix (by rw [hn]; rfl) ?_); intro K hK) | ((first | with_reducible refine evOps_n ?_ | ((with_reducible apply evOps_g); rfl) | with_reducible refine evOpsD_n ?_ | ((with_reducible apply evOpsD_g); rfl)); intro K hK; simp (contextual := true) only [go_sem, simprocAttr]) | with_reducible refine evOps_nil ?_ | ((with_reducible refine evOpsD_nil ?_ ?_); kernel_rfl) | ((with_reducible refine hK _ ?_); clear hK K) | (with_reducible first | refine And.intro ?_ ?_ | refine nxt_n ?_ | refine nxt_r ?_ | refine nxt_e ?_ | refine blk_n ?_ | refine blk_r ?_ | refine blk_same ?_ | refine blk_other (by decide) ?_ | refine noG_n ?_ | refine noG_r ?_ | refine noG_e ?_ | refine inR_mk ?_ ?_) | ((with_reducible refine evCall_at 63 ?_); refine EvCall.mk (hfu) cal_functor [(0,14),(1,15),(2,16),(3,17),(4,18),(5,19),(6,20),(7,21),(8,22),(9,23)] [4,5,6,7,8,1,12,13] (by simp [go_sem] <;> (repeat' (first | rfl | constructor))) (by simp [go_sem] <;> (repeat' (first | rfl | constructor))) ?_; all_goals try simp only [go_sem, simprocAttr]) | (refine fun (hc : (_ : Bool) = _) => ?_; try simp only [hcS] at hc))
      all_goals try (first | (with_reducible assumption) | ((try simp only [Cat.F, Cat.T, Cat.I, Cat.C, Fun.O, Fun.A, Cat.Entry, Int.toNat_natCast] at *); omega))
      · (first | refine ret_auto ?_ | refine ret_auto' ?_); simp only [go_sem, simprocAttr, Tryz.f31]
theorem rep_snoc (x : Int) (n : Nat) : List.replicate (n + 1) x = List.replicate n x ++ [x] := List.replicate_succ'
theorem rep_nil (x : Int) : List.replicate 0 x = [] := rfl
attribute [local go_sem] rep_nil
theorem sp_l06Constant_g {c d : Cat} {y : Nat} (hc : CatB c) (hd : CatB d) (sc : Shape c) (sd : Shape d) (hy : (y : Int) < d.ob) : Spec Tryz.prog 65 [catV c, catV d, iv y] [] (.agg [iv (⟨c, d, cnO c y, cnA c d y⟩ : Fun).src.ob, .sl 0, .sl 1, .sl 2, .sl 3, iv (⟨c, d, cnO c y, cnA c d y⟩ : Fun).tgt.ob, .sl 4, .sl 5, .sl 6, .sl 7, .sl 8, .sl 9]) [(0, ⟨1, .arr (ints (⟨c, d, cnO c y, cnA c d y⟩ : Fun).src.fr)⟩), (1, ⟨1, .arr (ints (⟨c, d, cnO c y, cnA c d y⟩ : Fun).src.to)⟩), (2, ⟨1, .arr (ints (⟨c, d, cnO c y, cnA c d y⟩ : Fun).src.id)⟩), (3, ⟨1, .arr (intss (⟨c, d, cnO c y, cnA c d y⟩ : Fun).src.co)⟩), (4, ⟨1, .arr (ints (⟨c, d, cnO c y, cnA c d y⟩ : Fun).tgt.fr)⟩), (5, ⟨1, .arr (ints (⟨c, d, cnO c y, cnA c d y⟩ : Fun).tgt.to)⟩), (6, ⟨1, .arr (ints (⟨c, d, cnO c y, cnA c d y⟩ : Fun).tgt.id)⟩), (7, ⟨1, .arr (intss (⟨c, d, cnO c y, cnA c d y⟩ : Fun).tgt.co)⟩), (8, ⟨1, .arr (ints (⟨c, d, cnO c y, cnA c d y⟩ : Fun).obs)⟩), (9, ⟨1, .arr (ints (⟨c, d, cnO c y, cnA c d y⟩ : Fun).ars)⟩)] := by
  have c0 := sc.ob0
  have c8 := sc.ob8
  have c40 := sc.m40
  have dil := sd.idl
  have hmk := sp_l06Make (c := c) (d := d) (p := cnO c y) (q := cnA c d y) hc hd (by unfold cnO; rw [List.length_replicate]; omega) (by unfold cnA; rw [List.length_replicate]; omega)
  refine spec_of_V (E := TE) 0 Tryz.func65 rfl (by simp [Tryz.f65]) fun X hn hX => ?_
  repeat' (first | (with_reducible first | refine V_seq ?_ | refine V_block ?_ | refine V_skip ?_ | refine V_ret ?_ | refine V_exit ?_) | ((with_reducible refine V_cond ?_); simp only [go_sem, simprocAttr]) | ((refine V_region (by rw [hn]; rfl) ?_); intro K hK) | ((first | with_reducible refine evOps_n ?_ | ((with_reducible apply evOps_g); rfl)); intro K hK; simp (contextual := true) only [go_sem, simprocAttr]) | with_reducible refine evOps_nil ?_ | ((with_reducible refine hK _ ?_); clear hK K) | (with_reducible first | refine And.intro ?_ ?_ | refine nxt_n ?_ | refine nxt_r ?_ | refine nxt_e ?_ | refine blk_n ?_ | refine blk_r ?_ | refine blk_same ?_ | refine blk_other (by decide) ?_ | refine noG_n ?_ | refine noG_r ?_ | refine noG_e ?_ | refine inR_mk ?_ ?_) | (refine fun (hc : (_ : Bool) = _) => ?_; try simp only [hcS] at hc))
  all_goals try (first | (with_reducible assumption) | ((try simp only [Cat.F, Cat.T, Cat.I, Cat.C, Fun.O, Fun.A, Cat.Entry, Int.toNat_natCast] at *); omega))
  refine V_loopK (G := {x : Nat // x ≤ c.ob.toNat ∧ (True)}) (fun ⟨x, _⟩ => [(9, iv x), (7, .sl 3), (8, .sl 4)]) [2, 3, 4, 6] (fun ⟨x, _⟩ => [(3, ⟨1, .arr (ints (List.replicate x (y : Int)))⟩), (4, ⟨1, .arr (ints [])⟩)]) [3, 4] (fun zz => c.ob.toNat - zz.1) ⟨0, Nat.zero_le _, by first | trivial | simp⟩ ?_ ?_
  · exact Imp.auto hX (by simp [go_sem, simprocAttr])
  rintro ⟨x, hix, hwx⟩
  simp only [go_sem, simprocAttr]
  rcases Nat.lt_or_ge x c.ob.toNat with hlx | hgx
  · have e1 := rep_snoc (y : Int) x
    repeat' (first | (with_reducible first | refine V_seq ?_ | refine V_block ?_ | refine V_skip ?_ | refine V_ret ?_ | refine V_exit ?_) | ((with_reducible refine V_cond ?_); simp only [go_sem, simprocAttr]) | ((refine V_region (by rw [hn]; rfl) ?_); intro K hK) | ((first | with_reducible refine evOps_n ?_ | ((with_reducible apply evOps_g); rfl)); intro K hK; simp (contextual := true) only [go_sem, simprocAttr]) | with_reducible refine evOps_nil ?_ | ((with_reducible refine hK _ ?_); clear hK K) | (with_reducible first | refine And.intro ?_ ?_ | refine nxt_n ?_ | refine nxt_r ?_ | refine nxt_e ?_ | refine blk_n ?_ | refine blk_r ?_ | refine blk_same ?_ | refine blk_other (by decide) ?_ | refine noG_n ?_ | refine noG_r ?_ | refine noG_e ?_ | refine inR_mk ?_ ?_) | (refine fun (hc : (_ : Bool) = _) => ?_; try simp only [hcS] at hc))
    all_goals try (first | (with_reducible assumption) | ((try simp only [Cat.F, Cat.T, Cat.I, Cat.C, Fun.O, Fun.A, Cat.Entry, Int.toNat_natCast] at *); omega))
    · refine ⟨⟨x + 1, by omega, (by trivial)⟩, by simp only; omega, Imp.auto hX (by simp only [go_sem, simprocAttr, e1])⟩
  · have ex : x = c.ob.toNat := by omega
    subst ex
    rw [show List.replicate c.ob.toNat (y : Int) = cnO c y from rfl]
    repeat' (first | (with_reducible first | refine V_seq ?_ | refine V_block ?_ | refine V_skip ?_ | refine V_ret ?_ | refine V_exit ?_) | ((with_reducible refine V_cond ?_); simp only [go_sem, simprocAttr]) | ((refine V_region (by rw [hn]; rfl) ?_); intro K hK) | ((first | with_reducible refine evOps_n ?_ | ((with_reducible apply evOps_g); rfl)); intro K hK; simp (contextual := true) only [go_sem, simprocAttr]) | with_reducible refine evOps_nil ?_ | ((with_reducible refine hK _ ?_); clear hK K) | (with_reducible first | refine And.intro ?_ ?_ | refine nxt_n ?_ | refine nxt_r ?_ | refine nxt_e ?_ | refine blk_n ?_ | refine blk_r ?_ | refine blk_same ?_ | refine blk_other (by decide) ?_ | refine noG_n ?_ | refine noG_r ?_ | refine noG_e ?_ | refine inR_mk ?_ ?_) | (refine fun (hc : (_ : Bool) = _) => ?_; try simp only [hcS] at hc))
    all_goals try (first | (with_reducible assumption) | ((try simp only [Cat.F, Cat.T, Cat.I, Cat.C, Fun.O, Fun.A, Cat.Entry, Int.toNat_natCast] at *); omega))
    refine V_loopK (G := {a : Nat // a ≤ c.fr.length ∧ (True)}) (fun ⟨a, _⟩ => [(10, iv a), (7, .sl 3), (8, .sl 4)]) [2, 3, 4, 6] (fun ⟨a, _⟩ => [(3, ⟨1, .arr (ints (cnO c y))⟩), (4, ⟨1, .arr (ints (List.replicate a (d.id.getD y 0)))⟩)]) [3, 4] (fun zz => c.fr.length - zz.1) ⟨0, Nat.zero_le _, by first | trivial | simp⟩ ?_ ?_
    · exact Imp.auto hX (by simp [go_sem, simprocAttr])
    rintro ⟨a, hia, hwa⟩
    simp only [go_sem, simprocAttr]
    rcases Nat.lt_or_ge a c.fr.length with hla | hga
    · have e1 := rep_snoc (d.id.getD y 0) a
      repeat' (first | (with_reducible first | refine V_seq ?_ | refine V_block ?_ | refine V_skip ?_ | refine V_ret ?_ | refine V_exit ?_) | ((with_reducible refine V_cond ?_); simp only [go_sem, simprocAttr]) | ((refine V_region (by rw [hn]; rfl) ?_); intro K hK) | ((first | with_reducible refine evOps_n ?_ | ((with_reducible apply evOps_g); rfl)); intro K hK; simp (contextual := true) only [go_sem, simprocAttr]) | with_reducible refine evOps_nil ?_ | ((with_reducible refine hK _ ?_); clear hK K) | (with_reducible first | refine And.intro ?_ ?_ | refine nxt_n ?_ | refine nxt_r ?_ | refine nxt_e ?_ | refine blk_n ?_ | refine blk_r ?_ | refine blk_same ?_ | refine blk_other (by decide) ?_ | refine noG_n ?_ | refine noG_r ?_ | refine noG_e ?_ | refine inR_mk ?_ ?_) | (refine fun (hc : (_ : Bool) = _) => ?_; try simp only [hcS] at hc))
      all_goals try (first | (with_reducible assumption) | ((try simp only [Cat.F, Cat.T, Cat.I, Cat.C, Fun.O, Fun.A, Cat.Entry, Int.toNat_natCast] at *); omega))
      · refine ⟨⟨a + 1, by omega, (by trivial)⟩, by simp only; omega, Imp.auto hX (by simp only [go_sem, simprocAttr, e1])⟩
    · have ea : a = c.fr.length := by omega
      subst ea
      rw [show List.replicate c.fr.length (d.id.getD y 0) = cnA c d y from rfl]
      repeat' (first | (with_reducible first | refine V_seq ?_ | refine V_block ?_ | refine V_skip ?_ | refine V_ret ?_ | refine V_exit ?_) | ((with_reducible refine V_cond ?_); simp only [go_sem, simprocAttr]) | ((refine V_region (by rw [hn]; rfl) ?_); intro K hK) | ((first | with_reducible refine evOps_n ?_ | ((with_reducible apply evOps_g); rfl)); intro K hK; simp (contextual := true) only [go_sem, simprocAttr]) | with_reducible refine evOps_nil ?_ | ((with_reducible refine hK _ ?_); clear hK K) | (with_reducible first | refine And.intro ?_ ?_ | refine nxt_n ?_ | refine nxt_r ?_ | refine nxt_e ?_ | refine blk_n ?_ | refine blk_r ?_ | refine blk_same ?_ | refine blk_other (by decide) ?_ | refine noG_n ?_ | refine noG_r ?_ | refine noG_e ?_ | refine inR_mk ?_ ?_) | ((with_reducible refine evCall_at 61 ?_); refine EvCall.mk (hmk) cal_l06Make [(0,5),(1,6),(2,7),(3,8),(4,9),(5,10),(6,11),(7,12),(8,13),(9,14)] [3,4] (by simp [go_sem] <;> (repeat' (first | rfl | constructor))) (by simp [go_sem] <;> (repeat' (first | rfl | constructor))) ?_; all_goals try simp only [go_sem, simprocAttr]) | (refine fun (hc : (_ : Bool) = _) => ?_; try simp only [hcS] at hc))
      all_goals try (first | (with_reducible assumption) | ((try simp only [Cat.F, Cat.T, Cat.I, Cat.C, Fun.O, Fun.A, Cat.Entry, Int.toNat_natCast] at *); omega))
      · (first | refine ret_auto ?_ | refine ret_auto' ?_); simp only [go_sem, simprocAttr, Tryz.f65]
theorem cal_spec_DiagonalFunctor : Callable Tryz.prog 30 := ⟨_, Tryz.func30, rfl, rfl⟩
theorem sp_spec_DiagonalFunctor_bad {c d : Cat} (hc : CatB c) (hd : CatB d) (h : ¬ (IsCat c ∧ IsCat d)) : Spec Tryz.prog 30 [catV c, catV d] [] (.tup [.agg [iv 0, .v (.slice none 0 0), .v (.slice none 0 0), .v (.slice none 0 0), .v (.slice none 0 0), iv 0, .v (.slice none 0 0), .v (.slice none 0 0), .v (.slice none 0 0), .v (.slice none 0 0), .v (.slice none 0 0), .v (.slice none 0 0)], iv 1]) [] := by
  by_cases h1 : IsCat c
  · have h2 : ¬ IsCat d := fun q => h ⟨h1, q⟩
    have v1 := dec_t h1
    have v2 := dec_f h2
    refine spec_of_V (E := TE) 0 Tryz.func30 rfl (by simp [Tryz.f30]) fun X hn hX => ?_
    repeat' (first | (with_reducible first | refine V_seq ?_ | refine V_block ?_ | refine V_skip ?_ | refine V_ret ?_ | refine V_exit ?_) | ((with_reducible refine V_cond ?_); simp only [go_sem, simprocAttr]) | ((first | refine V_region (by rw [hn]; rfl) ?_ | refine V_drawn hmix (by rw [hn]; rfl) ?_); intro K hK) | ((first | with_reducible refine evOps_n ?_ | ((with_reducible apply evOps_g); rfl) | with_reducible refine evOpsD_n ?_ | ((with_reducible apply evOpsD_g); rfl)); intro K hK; simp (contextual := true) only [go_sem, simprocAttr]) | with_reducible refine evOps_nil ?_ | ((with_reducible refine evOpsD_nil ?_ ?_); kernel_rfl) | ((with_reducible refine hK _ ?_); clear hK K) | (with_reducible first | refine And.intro ?_ ?_ | refine nxt_n ?_ | refine nxt_r ?_ | refine nxt_e ?_ | refine blk_n ?_ | refine blk_r ?_ | refine blk_same ?_ | refine blk_other (by decide) ?_ | refine noG_n ?_ | refine noG_r ?_ | refine noG_e ?_ | refine inR_mk ?_ ?_) | ((with_reducible refine evCall_at 51 ?_); refine EvCall.rq (a := (sp_l02Is_v (by first | omega | assumption | rfl) (by first | omega | assumption | rfl))) (b := cal_l02Is) (c := ?_); all_goals try simp only [go_sem, simprocAttr]) | (refine fun (hc : (_ : Bool) = _) => ?_; try simp only [hcS] at hc))
    all_goals try (first | (with_reducible assumption) | ((try simp only [Cat.F, Cat.T, Cat.I, Cat.C, Fun.O, Fun.A, Cat.Entry, Int.toNat_natCast] at *); omega))
    all_goals ((first | refine ret_auto ?_ | refine ret_auto' ?_); simp only [go_sem, simprocAttr, Tryz.f30])
  · have v1 := dec_f h1
    refine spec_of_V (E := TE) 0 Tryz.func30 rfl (by simp [Tryz.f30]) fun X hn hX => ?_
    repeat' (first | (with_reducible first | refine V_seq ?_ | refine V_block ?_ | refine V_skip ?_ | refine V_ret ?_ | refine V_exit ?_) | ((with_reducible refine V_cond ?_); simp only [go_sem, simprocAttr]) | ((first | refine V_region (by rw [hn]; rfl) ?_ | refine V_drawn hmix (by rw [hn]; rfl) ?_); intro K hK) | ((first | with_reducible refine evOps_n ?_ | ((with_reducible apply evOps_g); rfl) | with_reducible refine evOpsD_n ?_ | ((with_reducible apply evOpsD_g); rfl)); intro K hK; simp (contextual := true) only [go_sem, simprocAttr]) | with_reducible refine evOps_nil ?_ | ((with_reducible refine evOpsD_nil ?_ ?_); kernel_rfl) | ((with_reducible refine hK _ ?_); clear hK K) | (with_reducible first | refine And.intro ?_ ?_ | refine nxt_n ?_ | refine nxt_r ?_ | refine nxt_e ?_ | refine blk_n ?_ | refine blk_r ?_ | refine blk_same ?_ | refine blk_other (by decide) ?_ | refine noG_n ?_ | refine noG_r ?_ | refine noG_e ?_ | refine inR_mk ?_ ?_) | ((with_reducible refine evCall_at 51 ?_); refine EvCall.rq (a := (sp_l02Is_v (by first | omega | assumption | rfl) (by first | omega | assumption | rfl))) (b := cal_l02Is) (c := ?_); all_goals try simp only [go_sem, simprocAttr]) | (refine fun (hc : (_ : Bool) = _) => ?_; try simp only [hcS] at hc))
    all_goals try (first | (with_reducible assumption) | ((try simp only [Cat.F, Cat.T, Cat.I, Cat.C, Fun.O, Fun.A, Cat.Entry, Int.toNat_natCast] at *); omega))
    all_goals ((first | refine ret_auto ?_ | refine ret_auto' ?_); simp only [go_sem, simprocAttr, Tryz.f30])
theorem sp_spec_DiagonalFunctor_no {c d : Cat} (hc : CatB c) (hd : CatB d) (sc : IsCat c) (sd : IsCat d) (h : ¬ FcY c d) : Spec Tryz.prog 30 [catV c, catV d] [] (.tup [.agg [iv 0, .v (.slice none 0 0), .v (.slice none 0 0), .v (.slice none 0 0), .v (.slice none 0 0), iv 0, .v (.slice none 0 0), .v (.slice none 0 0), .v (.slice none 0 0), .v (.slice none 0 0), .v (.slice none 0 0), .v (.slice none 0 0)], iv 3]) [] := by
  have v1 := dec_t sc
  have v2 := dec_t sd
  have h1 := sp_l08Make_o sc sd hc hd (.inr ⟨h, rfl, rfl⟩)
  refine spec_of_V (E := TE) 0 Tryz.func30 rfl (by simp [Tryz.f30]) fun X hn hX => ?_
  repeat' (first | (with_reducible first | refine V_seq ?_ | refine V_block ?_ | refine V_skip ?_ | refine V_ret ?_ | refine V_exit ?_) | ((with_reducible refine V_cond ?_); simp only [go_sem, simprocAttr]) | ((first | refine V_region (by rw [hn]; rfl) ?_ | refine V_drawn hmix (by rw [hn]; rfl) ?_); intro K hK) | ((first | with_reducible refine evOps_n ?_ | ((with_reducible apply evOps_g); rfl) | with_reducible refine evOpsD_n ?_ | ((with_reducible apply evOpsD_g); rfl)); intro K hK; simp (contextual := true) only [go_sem, simprocAttr]) | with_reducible refine evOps_nil ?_ | ((with_reducible refine evOpsD_nil ?_ ?_); kernel_rfl) | ((with_reducible refine hK _ ?_); clear hK K) | (with_reducible first | refine And.intro ?_ ?_ | refine nxt_n ?_ | refine nxt_r ?_ | refine nxt_e ?_ | refine blk_n ?_ | refine blk_r ?_ | refine blk_same ?_ | refine blk_other (by decide) ?_ | refine noG_n ?_ | refine noG_r ?_ | refine noG_e ?_ | refine inR_mk ?_ ?_) | ((with_reducible refine evCall_at 51 ?_); refine EvCall.rq (a := (sp_l02Is_v (by first | omega | assumption | rfl) (by first | omega | assumption | rfl))) (b := cal_l02Is) (c := ?_); all_goals try simp only [go_sem, simprocAttr]) | ((with_reducible refine evCall_at 52 ?_); refine EvCall.mk (h1) cal_l08Make [] [] (by simp [go_sem] <;> (repeat' (first | rfl | constructor))) (by simp [go_sem] <;> (repeat' (first | rfl | constructor))) ?_; all_goals try simp only [go_sem, simprocAttr]) | (refine fun (hc : (_ : Bool) = _) => ?_; try simp only [hcS] at hc))
  all_goals try (first | (with_reducible assumption) | ((try simp only [Cat.F, Cat.T, Cat.I, Cat.C, Fun.O, Fun.A, Cat.Entry, Int.toNat_natCast] at *); omega))
  all_goals ((first | refine ret_auto ?_ | refine ret_auto' ?_); simp only [go_sem, simprocAttr, Tryz.f30])
theorem sp_spec_DiagonalFunctor_yes {c d : Cat} (hc : CatB c) (hd : CatB d) (sc : IsCat c) (sd : IsCat d) (hy : FcY c d) : Spec Tryz.prog 30 [catV c, catV d] [] (.tup [.agg [iv (diF c d).src.ob, .sl 0, .sl 1, .sl 2, .sl 3, iv (diF c d).tgt.ob, .sl 4, .sl 5, .sl 6, .sl 7, .sl 8, .sl 9], iv 0]) [(0, ⟨1, .arr (ints (diF c d).src.fr)⟩), (1, ⟨1, .arr (ints (diF c d).src.to)⟩), (2, ⟨1, .arr (ints (diF c d).src.id)⟩), (3, ⟨1, .arr (intss (diF c d).src.co)⟩), (4, ⟨1, .arr (ints (diF c d).tgt.fr)⟩), (5, ⟨1, .arr (ints (diF c d).tgt.to)⟩), (6, ⟨1, .arr (ints (diF c d).tgt.id)⟩), (7, ⟨1, .arr (intss (diF c d).tgt.co)⟩), (8, ⟨1, .arr (ints (diF c d).obs)⟩), (9, ⟨1, .arr (ints (diF c d).ars)⟩)] := by
  have bc := hc
  have v1 := dec_t sc
  have v2 := dec_t sd
  have c0 := sc.toShape.ob0
  have c8 := sc.toShape.ob8
  have c40 := sc.toShape.m40
  have d0 := sd.toShape.ob0
  have d8 := sd.toShape.ob8
  have d40 := sd.toShape.m40
  have dtl := sd.toShape.tol
  have h1 := sp_l08Make_o sc sd hc hd (.inl ⟨hy, rfl, rfl⟩)
  have hL := hy.2.1
  have hA := hy.2.2
  have hfl : FL c d (fcL c d) := FL.of_funX
  have hKb := fcK_b d hL hA
  have hrw : ∀ a, a < (fcA (fcL c d)).length → ((fcA (fcL c d)).getD a []).length ≤ 1048576 := fun a ha => by have := (hfl.arr (getD_mem (d := []) ha)).len; omega
  have hfu := sp_l06Make (c := d) (d := fcK d (fcL c d)) (p := diO c d d.ob.toNat) (q := diA c d d.fr.length) hd hKb (by rw [diO_len]; omega) (by rw [diA_len]; omega)
  have eF : diF c d = ⟨d, fcK d (fcL c d), diO c d d.ob.toNat, diA c d d.fr.length⟩ := rfl
  rw [eF]
  refine spec_of_V (E := TE) 0 Tryz.func30 rfl (by simp [Tryz.f30]) fun X hn hX => ?_
  repeat' (first | (with_reducible first | refine V_seq ?_ | refine V_block ?_ | refine V_skip ?_ | refine V_ret ?_ | refine V_exit ?_) | ((with_reducible refine V_cond ?_); simp only [go_sem, simprocAttr]) | ((first | refine V_region (by rw [hn]; rfl) ?_ | refine V_drawn hmix (by rw [hn]; rfl) ?_); intro K hK) | ((first | with_reducible refine evOps_n ?_ | ((with_reducible apply evOps_g); rfl) | with_reducible refine evOpsD_n ?_ | ((with_reducible apply evOpsD_g); rfl)); intro K hK; simp (contextual := true) only [go_sem, simprocAttr]) | with_reducible refine evOps_nil ?_ | ((with_reducible refine evOpsD_nil ?_ ?_); kernel_rfl) | ((with_reducible refine hK _ ?_); clear hK K) | (with_reducible first | refine And.intro ?_ ?_ | refine nxt_n ?_ | refine nxt_r ?_ | refine nxt_e ?_ | refine blk_n ?_ | refine blk_r ?_ | refine blk_same ?_ | refine blk_other (by decide) ?_ | refine noG_n ?_ | refine noG_r ?_ | refine noG_e ?_ | refine inR_mk ?_ ?_) | ((with_reducible refine evCall_at 51 ?_); refine EvCall.rq (a := (sp_l02Is_v (by first | omega | assumption | rfl) (by first | omega | assumption | rfl))) (b := cal_l02Is) (c := ?_); all_goals try simp only [go_sem, simprocAttr]) | ((with_reducible refine evCall_at 52 ?_); refine EvCall.mk (h1) cal_l08Make [(0,3),(1,4),(2,5),(3,6),(4,7),(5,8)] [] (by simp [go_sem] <;> (repeat' (first | rfl | constructor))) (by simp [go_sem] <;> (repeat' (first | rfl | constructor))) ?_; all_goals try simp only [go_sem, simprocAttr]) | (refine fun (hc : (_ : Bool) = _) => ?_; try simp only [hcS] at hc))
  all_goals try (first | (with_reducible assumption) | ((try simp only [Cat.F, Cat.T, Cat.I, Cat.C, Fun.O, Fun.A, Cat.Entry, Int.toNat_natCast] at *); omega))
  refine V_loopK (G := {y : Nat // y ≤ d.ob.toNat ∧ (True)}) (fun ⟨y, _⟩ => [(10, iv y), (6, .ptr 9 0), (8, .sl 10), (9, .sl 11)]) [2, 3, 4, 5] (fun ⟨y, _⟩ => [(10, ⟨1, .arr (ints (diO c d y))⟩), (11, ⟨1, .arr (ints [])⟩)]) [10, 11] (fun zz => d.ob.toNat - zz.1) ⟨0, Nat.zero_le _, by first | trivial | simp⟩ ?_ ?_
  · exact Imp.auto hX (by simp [go_sem, simprocAttr])
  rintro ⟨y, hiy, hwy⟩
  simp only [go_sem, simprocAttr]
  have hol := diO_len (c := c) (d := d) (y := y)
  rcases Nat.lt_or_ge y d.ob.toNat with hly | hgy
  · have hob := cn_ob (y := y) sc sd hL (by omega)
    have hcn := sp_l06Constant_g (y := y) bc hd sc.toShape sd.toShape (by omega)
    have ho := sp_l08Object (ob := ((fcL c d).length : Int)) (fr := (fcK d (fcL c d)).fr) (to := (fcK d (fcL c d)).to) (id := (fcK d (fcL c d)).id) (co := (fcK d (fcL c d)).co) (A := fcA (fcL c d)) (L := fcL c d) (g := ⟨c, d, cnO c y, cnA c d y⟩) (i := cnI c d y) hob (by show (cnA c d y).length ≤ 64; unfold cnA; rw [List.length_replicate]; omega)
    have e1 := diO_succ (c := c) (d := d) (y := y)
    repeat' (first | (with_reducible first | refine V_seq ?_ | refine V_block ?_ | refine V_skip ?_ | refine V_ret ?_ | refine V_exit ?_) | ((with_reducible refine V_cond ?_); simp only [go_sem, simprocAttr]) | ((first | refine V_region (by rw [hn]; rfl) ?_ | refine V_drawn hmix (by rw [hn]; rfl) ?_); intro K hK) | ((first | with_reducible refine evOps_n ?_ | ((with_reducible apply evOps_g); rfl) | with_reducible refine evOpsD_n ?_ | ((with_reducible apply evOpsD_g); rfl)); intro K hK; simp (contextual := true) only [go_sem, simprocAttr]) | with_reducible refine evOps_nil ?_ | ((with_reducible refine evOpsD_nil ?_ ?_); kernel_rfl) | ((with_reducible refine hK _ ?_); clear hK K) | (with_reducible first | refine And.intro ?_ ?_ | refine nxt_n ?_ | refine nxt_r ?_ | refine nxt_e ?_ | refine blk_n ?_ | refine blk_r ?_ | refine blk_same ?_ | refine blk_other (by decide) ?_ | refine noG_n ?_ | refine noG_r ?_ | refine noG_e ?_ | refine inR_mk ?_ ?_) | ((with_reducible refine evCall_at 65 ?_); refine EvCall.mk (hcn) cal_l06Constant [(0,12),(1,13),(2,14),(3,15),(4,16),(5,17),(6,18),(7,19),(8,20),(9,21)] [] (by simp [go_sem] <;> (repeat' (first | rfl | constructor))) (by simp [go_sem] <;> (repeat' (first | rfl | constructor))) ?_; all_goals try simp only [go_sem, simprocAttr]) | ((with_reducible refine evCall_at 64 ?_); refine EvCall.mk (ho) cal_l08Object [] [3,4,5,6,7,8,12,13,14,15,16,17,18,19,20,21] (by simp [go_sem] <;> (repeat' (first | rfl | constructor))) (by simp [go_sem] <;> (repeat' (first | rfl | constructor))) ?_; all_goals try simp only [go_sem, simprocAttr]) | (refine fun (hc : (_ : Bool) = _) => ?_; try simp only [hcS] at hc))
    all_goals try (first | (with_reducible assumption) | ((try simp only [Cat.F, Cat.T, Cat.I, Cat.C, Fun.O, Fun.A, Cat.Entry, Int.toNat_natCast] at *); omega))
    · refine ⟨⟨y + 1, by omega, (by trivial)⟩, by simp only; omega, Imp.auto hX (by simp only [go_sem, simprocAttr, e1])⟩
  · have ey : y = d.ob.toNat := by omega
    subst ey
    repeat' (first | (with_reducible first | refine V_seq ?_ | refine V_block ?_ | refine V_skip ?_ | refine V_ret ?_ | refine V_exit ?_) | ((with_reducible refine V_cond ?_); simp only [go_sem, simprocAttr]) | ((first | refine V_region (by rw [hn]; rfl) ?_ | refine V_drawn hmix (by rw [hn]; rfl) ?_); intro K hK) | ((first | with_reducible refine evOps_n ?_ | ((with_reducible apply evOps_g); rfl) | with_reducible refine evOpsD_n ?_ | ((with_reducible apply evOpsD_g); rfl)); intro K hK; simp (contextual := true) only [go_sem, simprocAttr]) | with_reducible refine evOps_nil ?_ | ((with_reducible refine evOpsD_nil ?_ ?_); kernel_rfl) | ((with_reducible refine hK _ ?_); clear hK K) | (with_reducible first | refine And.intro ?_ ?_ | refine nxt_n ?_ | refine nxt_r ?_ | refine nxt_e ?_ | refine blk_n ?_ | refine blk_r ?_ | refine blk_same ?_ | refine blk_other (by decide) ?_ | refine noG_n ?_ | refine noG_r ?_ | refine noG_e ?_ | refine inR_mk ?_ ?_) | (refine fun (hc : (_ : Bool) = _) => ?_; try simp only [hcS] at hc))
    all_goals try (first | (with_reducible assumption) | ((try simp only [Cat.F, Cat.T, Cat.I, Cat.C, Fun.O, Fun.A, Cat.Entry, Int.toNat_natCast] at *); omega))
    refine V_loopK (G := {a : Nat // a ≤ d.fr.length ∧ (True)}) (fun ⟨a, _⟩ => [(11, iv a), (6, .ptr 9 0), (8, .sl 10), (9, .sl 11)]) [2, 3, 4, 5] (fun ⟨a, _⟩ => [(10, ⟨1, .arr (ints (diO c d d.ob.toNat))⟩), (11, ⟨1, .arr (ints (diA c d a))⟩)]) [10, 11] (fun zz => d.fr.length - zz.1) ⟨0, Nat.zero_le _, by first | trivial | simp⟩ ?_ ?_
    · exact Imp.auto hX (by simp [go_sem, simprocAttr])
    rintro ⟨a, hia, hwa⟩
    simp only [go_sem, simprocAttr]
    have hal := diA_len (c := c) (d := d) (a := a)
    rcases Nat.lt_or_ge a d.fr.length with hla | hga
    · repeat' (first | (with_reducible first | refine V_seq ?_ | refine V_block ?_ | refine V_skip ?_ | refine V_ret ?_ | refine V_exit ?_) | ((with_reducible refine V_cond ?_); simp only [go_sem, simprocAttr]) | ((first | refine V_region (by rw [hn]; rfl) ?_ | refine V_drawn hmix (by rw [hn]; rfl) ?_); intro K hK) | ((first | with_reducible refine evOps_n ?_ | ((with_reducible apply evOps_g); rfl) | with_reducible refine evOpsD_n ?_ | ((with_reducible apply evOpsD_g); rfl)); intro K hK; simp (contextual := true) only [go_sem, simprocAttr]) | with_reducible refine evOps_nil ?_ | ((with_reducible refine evOpsD_nil ?_ ?_); kernel_rfl) | ((with_reducible refine hK _ ?_); clear hK K) | (with_reducible first | refine And.intro ?_ ?_ | refine nxt_n ?_ | refine nxt_r ?_ | refine nxt_e ?_ | refine blk_n ?_ | refine blk_r ?_ | refine blk_same ?_ | refine blk_other (by decide) ?_ | refine noG_n ?_ | refine noG_r ?_ | refine noG_e ?_ | refine inR_mk ?_ ?_) | (refine fun (hc : (_ : Bool) = _) => ?_; try simp only [hcS] at hc))
      all_goals try (first | (with_reducible assumption) | ((try simp only [Cat.F, Cat.T, Cat.I, Cat.C, Fun.O, Fun.A, Cat.Entry, Int.toNat_natCast] at *); omega))
      refine V_loopK (G := {x : Nat // x ≤ c.ob.toNat ∧ (True)}) (fun ⟨x, _⟩ => [(13, iv x), (6, .ptr 9 0), (8, .sl 10), (9, .sl 11), (11, iv a), (12, .sl 12)]) [2, 3, 4, 5] (fun ⟨x, _⟩ => [(10, ⟨1, .arr (ints (diO c d d.ob.toNat))⟩), (11, ⟨1, .arr (ints (diA c d a))⟩), (12, ⟨1, .arr (ints (List.replicate x (a : Int)))⟩)]) [10, 11, 12] (fun zz => c.ob.toNat - zz.1) ⟨0, Nat.zero_le _, by first | trivial | simp⟩ ?_ ?_
      · exact Imp.auto hX (by simp [go_sem, simprocAttr])
      rintro ⟨x, hix, hwx⟩
      simp only [go_sem, simprocAttr]
      rcases Nat.lt_or_ge x c.ob.toNat with hlx | hgx
      · have e1 := rep_snoc (a : Int) x
        repeat' (first | (with_reducible first | refine V_seq ?_ | refine V_block ?_ | refine V_skip ?_ | refine V_ret ?_ | refine V_exit ?_) | ((with_reducible refine V_cond ?_); simp only [go_sem, simprocAttr]) | ((first | refine V_region (by rw [hn]; rfl) ?_ | refine V_drawn hmix (by rw [hn]; rfl) ?_); intro K hK) | ((first | with_reducible refine evOps_n ?_ | ((with_reducible apply evOps_g); rfl) | with_reducible refine evOpsD_n ?_ | ((with_reducible apply evOpsD_g); rfl)); intro K hK; simp (contextual := true) only [go_sem, simprocAttr]) | with_reducible refine evOps_nil ?_ | ((with_reducible refine evOpsD_nil ?_ ?_); kernel_rfl) | ((with_reducible refine hK _ ?_); clear hK K) | (with_reducible first | refine And.intro ?_ ?_ | refine nxt_n ?_ | refine nxt_r ?_ | refine nxt_e ?_ | refine blk_n ?_ | refine blk_r ?_ | refine blk_same ?_ | refine blk_other (by decide) ?_ | refine noG_n ?_ | refine noG_r ?_ | refine noG_e ?_ | refine inR_mk ?_ ?_) | (refine fun (hc : (_ : Bool) = _) => ?_; try simp only [hcS] at hc))
        all_goals try (first | (with_reducible assumption) | ((try simp only [Cat.F, Cat.T, Cat.I, Cat.C, Fun.O, Fun.A, Cat.Entry, Int.toNat_natCast] at *); omega))
        · refine ⟨⟨x + 1, by omega, (by trivial)⟩, by simp only; omega, Imp.auto hX (by simp only [go_sem, simprocAttr, e1])⟩
      · have ex : x = c.ob.toNat := by omega
        subst ex
        have f1 := sd.toShape.frw a hla
        have f2 := sd.toShape.tow a (by omega)
        have o1 := diO_at (c := c) (d := d) (y := (d.fr.getD a 0).toNat) (n := d.ob.toNat) (by omega)
        have o2 := diO_at (c := c) (d := d) (y := (d.to.getD a 0).toNat) (n := d.ob.toNat) (by omega)
        have hol2 := diO_len (c := c) (d := d) (y := d.ob.toNat)
        have har := sp_l08Arrow (ob := ((fcL c d).length : Int)) (fr := (fcK d (fcL c d)).fr) (to := (fcK d (fcL c d)).to) (id := (fcK d (fcL c d)).id) (co := (fcK d (fcL c d)).co) (L := fcA (fcL c d)) (F := fcL c d) (i := (cnI c d (d.fr.getD a 0).toNat : Int)) (j := (cnI c d (d.to.getD a 0).toNat : Int)) (p := List.replicate c.ob.toNat (a : Int)) (by omega) hrw (by rw [List.length_replicate]; omega)
        have e2 : diA c d (a + 1) = diA c d a ++ [fnd (fcA (fcL c d)) ((cnI c d (d.fr.getD a 0).toNat : Int) :: (cnI c d (d.to.getD a 0).toNat : Int) :: List.replicate c.ob.toNat (a : Int))] := diA_succ
        repeat' (first | (rw [o1]; simp only [go_sem, simprocAttr]) | (rw [o2]; simp only [go_sem, simprocAttr]) | (with_reducible first | refine V_seq ?_ | refine V_block ?_ | refine V_skip ?_ | refine V_ret ?_ | refine V_exit ?_) | ((with_reducible refine V_cond ?_); simp only [go_sem, simprocAttr]) | ((first | refine V_region (by rw [hn]; rfl) ?_ | refine V_drawn hmix (by rw [hn]; rfl) ?_); intro K hK) | ((first | with_reducible refine evOps_n ?_ | ((with_reducible apply evOps_g); rfl) | with_reducible refine evOpsD_n ?_ | ((with_reducible apply evOpsD_g); rfl)); intro K hK; simp (contextual := true) only [go_sem, simprocAttr]) | with_reducible refine evOps_nil ?_ | ((with_reducible refine evOpsD_nil ?_ ?_); kernel_rfl) | ((with_reducible refine hK _ ?_); clear hK K) | (with_reducible first | refine And.intro ?_ ?_ | refine nxt_n ?_ | refine nxt_r ?_ | refine nxt_e ?_ | refine blk_n ?_ | refine blk_r ?_ | refine blk_same ?_ | refine blk_other (by decide) ?_ | refine noG_n ?_ | refine noG_r ?_ | refine noG_e ?_ | refine inR_mk ?_ ?_) | ((with_reducible refine evCall_at 66 ?_); refine EvCall.mk (har) cal_l08Arrow [] [3,4,5,6,7,8,12] (by simp [go_sem] <;> (repeat' (first | rfl | constructor))) (by simp [go_sem] <;> (repeat' (first | rfl | constructor))) ?_; all_goals try simp only [go_sem, simprocAttr]) | (refine fun (hc : (_ : Bool) = _) => ?_; try simp only [hcS] at hc))
        all_goals try (first | (with_reducible assumption) | ((try simp only [Cat.F, Cat.T, Cat.I, Cat.C, Fun.O, Fun.A, Cat.Entry, Int.toNat_natCast] at *); omega))
        · refine ⟨⟨a + 1, by omega, (by (trivial))⟩, by simp only; omega, Imp.auto hX (by simp only [go_sem, simprocAttr, e2])⟩
    · have ea : a = d.fr.length := by omega
      subst ea
      repeat' (first | (with_reducible first | refine V_seq ?_ | refine V_block ?_ | refine V_skip ?_ | refine V_ret ?_ | refine V_exit ?_) | ((with_reducible refine V_cond ?_); simp only [go_sem, simprocAttr]) | ((first | refine V_region (by rw [hn]; rfl) ?_ | refine V_drawn hmix (by rw [hn]; rfl) ?_); intro K hK) | ((first | with_reducible refine evOps_n ?_ | ((with_reducible apply evOps_g); rfl) | with_reducible refine evOpsD_n ?_ | ((with_reducible apply evOpsD_g); rfl)); intro K hK; simp (contextual := true) only [go_sem, simprocAttr]) | with_reducible refine evOps_nil ?_ | ((with_reducible refine evOpsD_nil ?_ ?_); kernel_rfl) | ((with_reducible refine hK _ ?_); clear hK K) | (with_reducible first | refine And.intro ?_ ?_ | refine nxt_n ?_ | refine nxt_r ?_ | refine nxt_e ?_ | refine blk_n ?_ | refine blk_r ?_ | refine blk_same ?_ | refine blk_other (by decide) ?_ | refine noG_n ?_ | refine noG_r ?_ | refine noG_e ?_ | refine inR_mk ?_ ?_) | ((with_reducible refine evCall_at 61 ?_); refine EvCall.mk (hfu) cal_l06Make [(0,12),(1,13),(2,14),(3,15),(4,16),(5,17),(6,18),(7,19),(8,20),(9,21)] [3,4,5,6,10,11] (by simp [go_sem] <;> (repeat' (first | rfl | constructor))) (by simp [go_sem] <;> (repeat' (first | rfl | constructor))) ?_; all_goals try simp only [go_sem, simprocAttr]) | (refine fun (hc : (_ : Bool) = _) => ?_; try simp only [hcS] at hc))
      all_goals try (first | (with_reducible assumption) | ((try simp only [Cat.F, Cat.T, Cat.I, Cat.C, Fun.O, Fun.A, Cat.Entry, Int.toNat_natCast] at *); omega))
      · (first | refine ret_auto ?_ | refine ret_auto' ?_); simp only [go_sem, simprocAttr, Tryz.f30]
end Go.Eng
