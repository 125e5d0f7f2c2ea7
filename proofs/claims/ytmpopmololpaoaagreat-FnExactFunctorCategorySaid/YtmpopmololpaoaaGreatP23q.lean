/- The law FnExactFunctorCategory is true of the given program: for every two categories the call returns true, and both read behind it as they did. No condition. -/
import Derived.Test.YtmpopmololpaoaaGreatKdx
import Derived.Test.YtmpopmololpaoaaGreatR16q
import Derived.Test.YtmpopmololpaoaaGreatQ21q
import Derived.Test.YtmpopmololpaoaaGreatRows
import Derived.JoinedOf
import Derived.ProofKit
set_option linter.unusedSimpArgs false
set_option linter.unusedVariables false
set_option maxRecDepth 100000
set_option maxHeartbeats 16000000
namespace Go.Eng
open Go Go.Proofs Go.Cats
theorem fcK_b (d : Cat) {L : List Fun} (hL : L.length ≤ 8) (hA : (fcA L).length ≤ 40) : CatB (fcK d L) := by
  refine ⟨?_, ?_, ?_, ?_, ?_, ?_, fun f hf => ?_⟩
  · show (-9223372036854775808 : Int) ≤ (L.length : Int); omega
  · show (L.length : Int) ≤ 9223372036854775807; omega
  · show (((fcA L).take (fcA L).length).map _).length ≤ 1048576; rw [List.length_map, List.take_length]; omega
  · show (((fcA L).take (fcA L).length).map _).length ≤ 1048576; rw [List.length_map, List.take_length]; omega
  · show ((List.range L.length).map _).length ≤ 1048576; rw [List.length_map, List.length_range]; omega
  · show ((List.range (fcA L).length).map _).length ≤ 1048576; rw [List.length_map, List.length_range]; omega
  · have hf2 : f < (fcA L).length := by
      have : f < ((List.range (fcA L).length).map _).length := hf
      rwa [List.length_map, List.length_range] at this
    have e : (fcK d L).co.getD f [] = rowF d (fcA L) f (fcA L).length := by
      show ((List.range (fcA L).length).map _).getD f [] = _
      rw [List.getD_eq_getElem?_getD, List.getElem?_map, List.getElem?_range hf2]; rfl
    rw [e, rowF_len]; omega
structure FcB (K : Cat) (L : List Fun) (A : List (List Int)) : Prop where
  cat : CatB K
  fl : L.length ≤ 8
  fb : ∀ g ∈ L, FunB g
  al : A.length ≤ 40
  ar : ∀ k, k < A.length → (A.getD k []).length ≤ 1048576
theorem FcOut.b {c d K : Cat} {L : List Fun} {A : List (List Int)} {code : Int} (hc : CatB c) (hd : CatB d) (h : FcOut c d K L A code) : FcB K L A := by
  rcases h with ⟨_, rfl, rfl, rfl, _⟩ | ⟨_, _, _, rfl, rfl, rfl, _⟩ | ⟨sc, sd, hy, rfl, rfl, rfl, _⟩
  · exact ⟨⟨by decide, by decide, by decide, by decide, by decide, by decide, fun i hi => absurd hi (Nat.not_lt_zero i)⟩, Nat.zero_le _, fun g hg => absurd hg List.not_mem_nil, Nat.zero_le _, fun k hk => absurd hk (Nat.not_lt_zero k)⟩
  · exact ⟨⟨by decide, by decide, by decide, by decide, by decide, by decide, fun i hi => absurd hi (Nat.not_lt_zero i)⟩, Nat.zero_le _, fun g hg => absurd hg List.not_mem_nil, Nat.zero_le _, fun k hk => absurd hk (Nat.not_lt_zero k)⟩
  · have hfl : FL c d (fcL c d) := FL.of_funX
    have c8 := sc.toShape.ob8
    have c40 := sc.toShape.m40
    refine ⟨fcK_b d hy.2.1 hy.2.2, hy.2.1, fun g hg => ?_, hy.2.2, fun k hk => ?_⟩
    · obtain ⟨i, hi, e⟩ := mem_getD (d := default) hg
      obtain ⟨h1, h2, h3⟩ := hfl i hi
      rw [e] at h1 h2 h3
      have a1 := h3.obl
      have a2 := h3.arl
      rw [h1] at a1 a2
      exact ⟨by rw [h1]; exact hc, by rw [h2]; exact hd, by omega, by omega⟩
    · have := (hfl.arr (getD_mem (d := []) hk)).len
      omega
theorem mkFn_bd : ∀ {F : List Fun}, (∀ f ∈ F, FunB f) → mkFn F ≤ F.length * 2199031644162
  | [], _ => Nat.le_refl _
  | f :: F, h => by
    have h1 := (h f (List.mem_cons_self ..)).mkn
    have h2 := mkFn_bd fun g hg => h g (List.mem_cons_of_mem _ hg)
    simp only [mkFn, List.length_cons]
    omega
theorem sp_FunctorCategory_at {c d K : Cat} {L : List Fun} {A : List (List Int)} {code : Int} (hc : CatB c) (hd : CatB d) (h : FcOut c d K L A code) : Spec Tryz.prog 15 [catV c, catV d] [] (.tup [.agg [iv K.ob, .sl 0, .sl 1, .sl 2, .sl 3], .sl 4, .sl 5, iv code]) [(0, ⟨1, .arr (ints K.fr)⟩), (1, ⟨1, .arr (ints K.to)⟩), (2, ⟨1, .arr (ints K.id)⟩), (3, ⟨1, .arr (intss K.co)⟩), (4, ⟨1, .arr (funsD L)⟩), (5, ⟨1, .arr (intss A)⟩)] := by
  rcases h with ⟨h, rfl, rfl, rfl, rfl⟩ | ⟨sc, sd, h, rfl, rfl, rfl, rfl⟩ | ⟨sc, sd, hy, rfl, rfl, rfl, rfl⟩
  · exact adoptFc (sp_FunctorCategory_bad hc hd h)
  · exact adoptFc (sp_FunctorCategory_no hc hd sc sd h)
  · exact sp_FunctorCategory_yes hc hd sc sd hy
theorem sp_spec_FunctorCategory_at {c d K : Cat} {L : List Fun} {A : List (List Int)} {code : Int} (hc : CatB c) (hd : CatB d) (h : FcOut c d K L A code) : Spec Tryz.prog 13 [catV c, catV d] [] (.tup [.agg [iv K.ob, .sl 0, .sl 1, .sl 2, .sl 3], .sl 4, .sl 5, iv code]) [(0, ⟨1, .arr (ints K.fr)⟩), (1, ⟨1, .arr (ints K.to)⟩), (2, ⟨1, .arr (ints K.id)⟩), (3, ⟨1, .arr (intss K.co)⟩), (4, ⟨1, .arr (funsD L)⟩), (5, ⟨1, .arr (intss A)⟩)] := by
  rcases h with ⟨h, rfl, rfl, rfl, rfl⟩ | ⟨sc, sd, h, rfl, rfl, rfl, rfl⟩ | ⟨sc, sd, hy, rfl, rfl, rfl, rfl⟩
  · exact adoptFc (sp_spec_FunctorCategory_bad hc hd h)
  · exact adoptFc (sp_spec_FunctorCategory_no hc hd sc sd h)
  · exact sp_spec_FunctorCategory_yes hc hd sc sd hy
theorem cal_FnExactFunctorCategory : Callable Tryz.prog 3 := ⟨_, Tryz.func3, rfl, rfl⟩
theorem sp_FnExactFunctorCategory {a0 a1 : Cat} (tc : CatT a0) (td : CatT a1) : Spec Tryz.prog 3 [catV a0, catV a1] [] (bv true) [] := by
  refine spec_of_V (E := TE) 0 Tryz.func3 rfl (by simp [Tryz.f3]) fun X hn hX => ?_
  have lc := tc.len
  have ld := td.len
  by_cases hz : (catSz a0 : Int) ≤ 1048576
  · by_cases hz2 : (catSz a1 : Int) ≤ 1048576 - catSz a0
    · have hb := tc.b1 (by omega)
      have hb2 := td.b1 (by omega)
      obtain ⟨Kc, Lc, Ac, code, ho⟩ := FcOut.ex a0 a1
      obtain ⟨hK, hFl, hF, hAl, hAr⟩ := FcOut.b hb hb2 ho
      have hFn := mkFn_bd hF
      have sp_FunctorCategory_loc := sp_FunctorCategory_at hb hb2 ho
      have sp_spec_FunctorCategory_loc := sp_spec_FunctorCategory_at hb hb2 ho
      have k1 := hb.mkn
      have k3 := hb2.mkn
      have k4 := hK.mkn
      have k5 := sumLen_le_of (show Ac.length ≤ 1048576 by omega) hAr
      repeat' (first | (with_reducible first | refine V_seq ?_ | refine V_skip ?_ | refine V_ret ?_) | ((with_reducible refine V_cond ?_); simp only [go_sem, simprocAttr]) | ((first | refine V_region (by rw [hn]; rfl) ?_ | refine V_drawn hmix (by rw [hn]; rfl) ?_); intro K hK) | ((first | with_reducible refine evOps_n ?_ | ((with_reducible apply evOps_g); rfl) | with_reducible refine evOpsD_n ?_ | ((with_reducible apply evOpsD_g); rfl)); intro K hK; simp (contextual := true) only [go_sem, simprocAttr]) | with_reducible refine evOps_nil ?_ | ((with_reducible refine evOpsD_nil ?_ ?_); kernel_rfl) | ((with_reducible refine hK _ ?_); clear hK K) | (with_reducible first | refine And.intro ?_ ?_ | refine nxt_n ?_ | refine nxt_r ?_ | refine inR_mk ?_ ?_) | ((with_reducible refine evCall_at 12 ?_); refine EvCall.rq (a := (sp_szCategory_ok (c:=a0) (by first | omega | assumption | rfl) (by first | omega | assumption | rfl))) (b := cal_szCategory) (c := ?_); all_goals try simp only [go_sem, simprocAttr]) | ((with_reducible refine evCall_at 12 ?_); refine EvCall.rq (a := (sp_szCategory_ok (c:=a1) (by first | omega | assumption | rfl) (by first | omega | assumption | rfl))) (b := cal_szCategory) (c := ?_); all_goals try simp only [go_sem, simprocAttr]) | ((with_reducible refine evCall_at 14 ?_); refine EvCall.rq (a := (sp_toCategory (c:=a0) ?_)) (b := cal_toCategory) (c := ?_); all_goals try simp only [go_sem, simprocAttr]) | ((with_reducible refine evCall_at 14 ?_); refine EvCall.rq (a := (sp_toCategory (c:=a1) ?_)) (b := cal_toCategory) (c := ?_); all_goals try simp only [go_sem, simprocAttr]) | ((with_reducible refine evCall_at 13 ?_); refine EvCall.rq (a := (sp_spec_FunctorCategory_loc)) (b := cal_spec_FunctorCategory) (c := ?_); all_goals try simp only [go_sem, simprocAttr]) | ((with_reducible refine evCall_at 15 ?_); refine EvCall.rq (a := (sp_FunctorCategory_loc)) (b := cal_FunctorCategory) (c := ?_); all_goals try simp only [go_sem, simprocAttr]) | ((with_reducible refine evCall_at 16 ?_); refine EvCall.rq (a := (sp_eqCategory (a:=Kc) (b:=Kc) ?_ ?_)) (b := cal_eqCategory) (c := ?_); all_goals try simp only [go_sem, simprocAttr]) | ((with_reducible refine evCall_at 17 ?_); refine EvCall.rq (a := (sp_eqFunctorS (F:=Lc) ?_ ?_)) (b := cal_eqFunctorS) (c := ?_); all_goals try simp only [go_sem, simprocAttr]) | ((with_reducible refine evCall_at 18 ?_); refine EvCall.rq (a := (sp_eqInt64SS (a:=Ac) (b:=Ac) ?_ ?_ ?_ ?_)) (b := cal_eqInt64SS) (c := ?_); all_goals try simp only [go_sem, simprocAttr]) | ((with_reducible refine evCall_at 16 ?_); refine EvCall.rq (a := (sp_eqCategory (a:=a0) (b:=a0) ?_ ?_)) (b := cal_eqCategory) (c := ?_); all_goals try simp only [go_sem, simprocAttr]) | ((with_reducible refine evCall_at 16 ?_); refine EvCall.rq (a := (sp_eqCategory (a:=a1) (b:=a1) ?_ ?_)) (b := cal_eqCategory) (c := ?_); all_goals try simp only [go_sem, simprocAttr]) | ((with_reducible refine evCall_at 19 ?_); refine EvCall.mu (by first | (simp only [go_sem, simprocAttr]; rfl) | rfl) (by first | (simp only [go_sem, simprocAttr]; rfl) | rfl) (by first | (simp only [go_sem, simprocAttr]; rfl) | rfl) (sp_markCategory (c:=a0) ?_ ?_ ?_) cal_markCategory (by first | (simp only [go_sem, simprocAttr]; rfl) | rfl) (by first | (simp only [go_sem, simprocAttr]; rfl) | rfl) (by simp [go_sem]) (by simp [go_sem]) ?_; all_goals try simp only [go_sem, simprocAttr]) | ((with_reducible refine evCall_at 19 ?_); refine EvCall.mu (by first | (simp only [go_sem, simprocAttr]; rfl) | rfl) (by first | (simp only [go_sem, simprocAttr]; rfl) | rfl) (by first | (simp only [go_sem, simprocAttr]; rfl) | rfl) (sp_markCategory (c:=a1) ?_ ?_ ?_) cal_markCategory (by first | (simp only [go_sem, simprocAttr]; rfl) | rfl) (by first | (simp only [go_sem, simprocAttr]; rfl) | rfl) (by simp [go_sem]) (by simp [go_sem]) ?_; all_goals try simp only [go_sem, simprocAttr]) | ((with_reducible refine evCall_at 19 ?_); refine EvCall.mu (by first | (simp only [go_sem, simprocAttr]; rfl) | rfl) (by first | (simp only [go_sem, simprocAttr]; rfl) | rfl) (by first | (simp only [go_sem, simprocAttr]; rfl) | rfl) (sp_markCategory (c:=Kc) ?_ ?_ ?_) cal_markCategory (by first | (simp only [go_sem, simprocAttr]; rfl) | rfl) (by first | (simp only [go_sem, simprocAttr]; rfl) | rfl) (by simp [go_sem]) (by simp [go_sem]) ?_; all_goals try simp only [go_sem, simprocAttr]) | ((with_reducible refine evCall_at 20 ?_); refine EvCall.mu (by first | (simp only [go_sem, simprocAttr]; rfl) | rfl) (by first | (simp only [go_sem, simprocAttr]; rfl) | rfl) (by first | (simp only [go_sem, simprocAttr]; rfl) | rfl) (sp_markFunctorS (F:=Lc) ?_ ?_ ?_ ?_) cal_markFunctorS (by first | (simp only [go_sem, simprocAttr]; rfl) | rfl) (by first | (simp only [go_sem, simprocAttr]; rfl) | rfl) (by simp [go_sem]) (by simp [go_sem]) ?_; all_goals try simp only [go_sem, simprocAttr]) | ((with_reducible refine evCall_at 21 ?_); refine EvCall.mu (by first | (simp only [go_sem, simprocAttr]; rfl) | rfl) (by first | (simp only [go_sem, simprocAttr]; rfl) | rfl) (by first | (simp only [go_sem, simprocAttr]; rfl) | rfl) (sp_markInt64SS (l:=Ac) ?_ ?_ ?_) cal_markInt64SS (by first | (simp only [go_sem, simprocAttr]; rfl) | rfl) (by first | (simp only [go_sem, simprocAttr]; rfl) | rfl) (by simp [go_sem]) (by simp [go_sem]) ?_; all_goals try simp only [go_sem, simprocAttr]) | ((with_reducible refine evCall_at 22 ?_); refine EvCall.rq (a := (sp_heldCategory_at (d:=Kc.mk_ 1) (c:=Kc) (k:=1) (by first | omega | assumption | rfl) (by first | omega | assumption | rfl) (by first | omega | assumption | rfl) (by first | omega | assumption | rfl))) (b := cal_heldCategory) (c := ?_); all_goals try simp only [go_sem, simprocAttr]) | ((with_reducible refine evCall_at 23 ?_); refine EvCall.rq (a := (sp_heldFunctorS_at (D:=mkFs (1+(Kc.mkn : Int)) Lc) (F:=Lc) (k:=1+(Kc.mkn : Int)) (by first | omega | assumption | rfl) (by first | omega | assumption | rfl) (by first | omega | assumption | rfl) (by first | omega | assumption | rfl) (by first | omega | assumption | rfl))) (b := cal_heldFunctorS) (c := ?_); all_goals try simp only [go_sem, simprocAttr]) | ((with_reducible refine evCall_at 24 ?_); refine EvCall.rq (a := (sp_heldInt64SS_at (m:=marksS (1+(Kc.mkn : Int)+(mkFn Lc : Int)) Ac) (l:=Ac) (k:=1+(Kc.mkn : Int)+(mkFn Lc : Int)) (by first | omega | assumption | rfl) (by first | omega | assumption | rfl) (by first | omega | assumption | rfl) (by first | omega | assumption | rfl))) (b := cal_heldInt64SS) (c := ?_); all_goals try simp only [go_sem, simprocAttr]) | (refine fun (hc : (_ : Bool) = _) => ?_; try simp only [hcS] at hc))
      all_goals try (first | (with_reducible assumption) | ((try simp only [Cat.F, Cat.T, Cat.I, Cat.C, Fun.O, Fun.A, Cat.Entry, Int.toNat_natCast] at *); omega))
      (first | refine ret_auto ?_ | refine ret_auto' ?_); simp only [go_sem, simprocAttr, Tryz.f3]
    · repeat' (first | (with_reducible first | refine V_seq ?_ | refine V_skip ?_ | refine V_ret ?_) | ((with_reducible refine V_cond ?_); simp only [go_sem, simprocAttr]) | ((first | refine V_region (by rw [hn]; rfl) ?_ | refine V_drawn hmix (by rw [hn]; rfl) ?_); intro K hK) | ((first | with_reducible refine evOps_n ?_ | ((with_reducible apply evOps_g); rfl) | with_reducible refine evOpsD_n ?_ | ((with_reducible apply evOpsD_g); rfl)); intro K hK; simp (contextual := true) only [go_sem, simprocAttr]) | with_reducible refine evOps_nil ?_ | ((with_reducible refine evOpsD_nil ?_ ?_); kernel_rfl) | ((with_reducible refine hK _ ?_); clear hK K) | (with_reducible first | refine And.intro ?_ ?_ | refine nxt_n ?_ | refine nxt_r ?_ | refine inR_mk ?_ ?_) | ((with_reducible refine evCall_at 12 ?_); refine EvCall.rq (a := (sp_szCategory_ok (c:=a0) (by first | omega | assumption | rfl) (by first | omega | assumption | rfl))) (b := cal_szCategory) (c := ?_); all_goals try simp only [go_sem, simprocAttr]) | ((with_reducible refine evCall_at 12 ?_); refine EvCall.rq (a := (sp_szCategory_no (c:=a1) (by first | omega | assumption | rfl) (by first | omega | assumption | rfl) (by first | omega | assumption | rfl) (by first | omega | assumption | rfl))) (b := cal_szCategory) (c := ?_); all_goals try simp only [go_sem, simprocAttr]) | (refine fun (hc : (_ : Bool) = _) => ?_; try simp only [hcS] at hc))
      all_goals try (first | (with_reducible assumption) | ((try simp only [Cat.F, Cat.T, Cat.I, Cat.C, Fun.O, Fun.A, Cat.Entry, Int.toNat_natCast] at *); omega))
      (first | refine ret_auto ?_ | refine ret_auto' ?_); simp only [go_sem, simprocAttr, Tryz.f3]
  · repeat' (first | (with_reducible first | refine V_seq ?_ | refine V_skip ?_ | refine V_ret ?_) | ((with_reducible refine V_cond ?_); simp only [go_sem, simprocAttr]) | ((first | refine V_region (by rw [hn]; rfl) ?_ | refine V_drawn hmix (by rw [hn]; rfl) ?_); intro K hK) | ((first | with_reducible refine evOps_n ?_ | ((with_reducible apply evOps_g); rfl) | with_reducible refine evOpsD_n ?_ | ((with_reducible apply evOpsD_g); rfl)); intro K hK; simp (contextual := true) only [go_sem, simprocAttr]) | with_reducible refine evOps_nil ?_ | ((with_reducible refine evOpsD_nil ?_ ?_); kernel_rfl) | ((with_reducible refine hK _ ?_); clear hK K) | (with_reducible first | refine And.intro ?_ ?_ | refine nxt_n ?_ | refine nxt_r ?_ | refine inR_mk ?_ ?_) | ((with_reducible refine evCall_at 12 ?_); refine EvCall.rq (a := (sp_szCategory_no (c:=a0) (by first | omega | assumption | rfl) (by first | omega | assumption | rfl) (by first | omega | assumption | rfl) (by first | omega | assumption | rfl))) (b := cal_szCategory) (c := ?_); all_goals try simp only [go_sem, simprocAttr]) | (refine fun (hc : (_ : Bool) = _) => ?_; try simp only [hcS] at hc))
    all_goals try (first | (with_reducible assumption) | ((try simp only [Cat.F, Cat.T, Cat.I, Cat.C, Fun.O, Fun.A, Cat.Entry, Int.toNat_natCast] at *); omega))
    (first | refine ret_auto ?_ | refine ret_auto' ?_); simp only [go_sem, simprocAttr, Tryz.f3]
end Go.Eng
namespace Go.Proofs.YtmpopmololpaoaaGreat
open Go Go.Eng Go.Cats Go.ChangeShapes Go.WideShapes Go.RowKit
theorem Tryz.own23_ : ownKnob Tryz.checked.prog.godebug = none := by kernel_rfl
theorem Tryz.laidOut23_ : laidOutB Tryz.prog = true := by kernel_rfl
theorem functorCategory_lifted (os : Os) (started : os.Started) (H : Type) (enc : TypeId × Value → H) :
    ReturnsInHanded {} Tryz.checked os 3 .any (Rows.fnExactFunctorCategorySpec.pre6 enc Tryz.prog Tryz.f3 Rows.fnExactFunctorCategoryRow.domain Rows.fnExactFunctorCategoryRow.apart) (Rows.fnExactFunctorCategorySpec.post enc Tryz.prog Tryz.f3 Rows.fnExactFunctorCategoryRow.apart Rows.fnExactFunctorCategoryRow.fresh Rows.fnExactFunctorCategoryRow.handsOn Rows.fnExactFunctorCategoryRow.again) := by
  refine returnsInHanded_of_change (C := Tryz.checked) Tryz.own23_ started (by kernel_rfl) Tryz.func3
    (ChangeSpec.witness6 (enc := enc) (C := Tryz.checked) false ⟨#[], #[.agg #[.int .i64 0, .slice none 0 0, .slice none 0 0, .slice none 0 0, .slice none 0 0], .agg #[.int .i64 0, .slice none 0 0, .slice none 0 0, .slice none 0 0, .slice none 0 0]], []⟩ 8 (by kernel_rfl) (by kernel_rfl) (by kernel_rfl) (by kernel_rfl)) ?_
  intro W base args ds gs before hval0 hW hcnd _
  have hval : ∀ (j : Nat) t v, Tryz.f3.params[j]? = some t → args[j]? = some v → Value.okWide Tryz.prog W .any base t v := hval0
  have hW' := hW
  obtain ⟨p, q, hA0, hV, rfl, hfz, hnd⟩ := hW
  obtain ⟨rfl, rfl⟩ := trodVars_none hV
  have hA : DataW.TrodAll enc Tryz.prog W 0 (fun _ => true) true [25, 25] args.toList ds p := hA0
  obtain ⟨v0, v1, d0, d1, p0, p1, rfl, rfl, rfl, h0, h1⟩ := trodAll_two hA
  obtain ⟨cs0, rfl, _⟩ := okWide_struct Tryz.underlying25 (hval 0 25 v0 rfl rfl)
  obtain ⟨fuel0, hf0⟩ := h0
  have hg0 := hf0
  rw [show (Value.agg cs0).cells.toList = cs0.toList from rfl] at hf0
  obtain ⟨a0, hm0, hok0⟩ := rd_cat hf0
  obtain ⟨cs1, rfl, _⟩ := okWide_struct Tryz.underlying25 (hval 1 25 v1 rfl rfl)
  obtain ⟨fuel1, hf1⟩ := h1
  have hg1 := hf1
  rw [show (Value.agg cs1).cells.toList = cs1.toList from rfl] at hf1
  obtain ⟨a1, hm1, hok1⟩ := rd_cat hf1
  have hlt : ∀ y ∈ p0 ++ p1, y.block < W.heap.size := fun y hy => hW'.lt y (by simpa using hy)
  refine (sp_FnExactFunctorCategory (a0 := a0) (a1 := a1) hm0 hm1 W (Old W) (Old W) _ [.agg cs0, .agg cs1] (hp_start W) ?_).mono fun ed W' ⟨v, c1, he, hp, hv, _⟩ => ?_
  · simp only [Sv.okL, Sv.ok]
    exact ⟨_, _, rfl, ⟨cs0.toList, by simp, hok0 _ _⟩, _, _, rfl, ⟨cs1.toList, by simp, hok1 _ _⟩, rfl⟩
  · simp only [Sv.ok] at hv
    subst hv
    subst he
    have hb := below_of_hp hp
    refine ⟨_, rfl, post_law hW' rfl rfl Tryz.underlying4 rfl hb ?_⟩
    rw [List.append_nil]
    exact trodAll_mk2 (Below.trod Tryz.laidOut23_ (by kernel_rfl) (of_decide_eq_true (by kernel_rfl)) ⟨fuel0, hg0⟩ hb (fun y hy => hlt y (by simp [hy]))) (Below.trod Tryz.laidOut23_ (by kernel_rfl) (of_decide_eq_true (by kernel_rfl)) ⟨fuel1, hg1⟩ hb (fun y hy => hlt y (by simp [hy])))
theorem functorCategory_holds : Rows.FnExactFunctorCategorySaid :=
  OpenClaim.holds_of_wide 3 Tryz.f3 rfl rfl rfl rfl rfl rfl rfl ⟨rfl, rfl, rfl, rfl, rfl⟩ rfl rfl rfl rfl rfl (by kernel_rfl) Tryz.func3 (by kernel_rfl)
    (of_decide_eq_true (by kernel_rfl)) (by unfold Func.isWrapper; first | (rw [if_pos (by decide +kernel)]; kernel_rfl) | (rw [if_neg (by decide +kernel)]; exact ⟨rfl, rfl⟩))
    (fun os started H enc _ => functorCategory_lifted os started H enc)
#print axioms functorCategory_holds
end Go.Proofs.YtmpopmololpaoaaGreat
