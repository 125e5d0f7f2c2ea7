/- The law FnExactAllProfunctorMaps is true of the given program: for every two profunctors the call returns true, and both read behind it as they did. No condition. -/
import Derived.Test.YtgbjgeignbjjnaaX12q
import Derived.Test.YtgbjgeignbjjnaaX15q
import Derived.Test.YtgbjgeignbjjnaaRows
import Derived.JoinedOf
import Derived.ProofKit
set_option linter.unusedSimpArgs false
set_option linter.unusedVariables false
set_option maxRecDepth 100000
set_option maxHeartbeats 16000000
namespace Go.Eng
open Go Go.Proofs Go.Cats
theorem sumLen_le_m {m : Nat} : ∀ {l : List (List Int)}, (∀ r ∈ l, r.length ≤ m) → sumLen l ≤ l.length * m
  | [], _ => by simp [sumLen]
  | r :: l, h => by
    have h1 := sumLen_le_m (l := l) fun r hr => h r (by simp [hr])
    have h2 := h r (by simp)
    unfold sumLen at h1 ⊢
    simp only [List.map_cons, List.sum_cons, List.length_cons, Nat.add_mul]
    omega
theorem sumL3_le_m {m : Nat} : ∀ {l : List (List (List Int))}, (∀ r ∈ l, sumLen r ≤ m) → sumL3 l ≤ l.length * m
  | [], _ => by simp [sumL3]
  | r :: l, h => by
    have h1 := sumL3_le_m (l := l) fun r hr => h r (by simp [hr])
    have h2 := h r (by simp)
    unfold sumL3 at h1 ⊢
    simp only [List.map_cons, List.sum_cons, List.length_cons, Nat.add_mul]
    omega
theorem spE_len {p : Prof} (s : PrShape p) {A : List Int} {x y : Nat} (hx : x < p.src.ob.toNat) (hy : y < p.tgt.ob.toNat) : (spE p A x y).length ≤ 64 := by
  have b1 := off_bd s hx (show y ≤ p.tgt.ob.toNat by omega)
  have b2 : 0 ≤ (p.sz.getD x []).getD y 0 ∧ (p.sz.getD x []).getD y 0 < 65 := s.w.2 x y hx hy
  unfold spE
  rw [List.length_take]
  omega
theorem spL_3 {p : Prof} (s : PrShape p) {A : List Int} : L3 (spL p A) ∧ sumL3 (spL p A) ≤ 4096 := by
  have o1 := s.src.toShape.ob8
  have o2 := s.tgt.toShape.ob8
  have hrow : ∀ r ∈ spL p A, r.length = p.tgt.ob.toNat ∧ ∀ e ∈ r, e.length ≤ 64 := fun r hr => by
    unfold spL gdL at hr
    obtain ⟨x, hx, rfl⟩ := List.mem_map.1 hr
    refine ⟨gdR_len, fun e he => ?_⟩
    unfold gdR at he
    obtain ⟨y, hy, rfl⟩ := List.mem_map.1 he
    exact spE_len s (List.mem_range.1 hx) (List.mem_range.1 hy)
  have hl : (spL p A).length = p.src.ob.toNat := gdL_len
  have hg : ∀ i, i < (spL p A).length → (spL p A).getD i [] ∈ spL p A := fun i hi => by rw [List.getD_eq_getElem?_getD, List.getElem?_eq_getElem hi]; exact List.getElem_mem hi
  refine ⟨⟨by omega, fun i hi => ?_, fun i hi j hj => ?_⟩, ?_⟩
  · have := (hrow _ (hg i hi)).1; omega
  · obtain ⟨r, hr⟩ : ∃ r, (spL p A).getD i [] = r := ⟨_, rfl⟩
    have h1 := hrow _ (hg i hi)
    rw [hr] at h1 hj ⊢
    have := h1.2 (r.getD j []) (by rw [List.getD_eq_getElem?_getD, List.getElem?_eq_getElem hj]; exact List.getElem_mem hj)
    omega
  · have h1 := sumL3_le_m (m := 512) (l := spL p A) fun r hr => by
      obtain ⟨h1, h2⟩ := hrow r hr
      have h3 := sumLen_le_m (m := 64) h2
      have h4 : r.length * 64 ≤ 8 * 64 := Nat.mul_le_mul_right 64 (by omega)
      omega
    have h4 : (spL p A).length * 512 ≤ 8 * 512 := Nat.mul_le_mul_right 512 (by omega)
    omega
theorem L4_nil : L4 [] := ⟨by decide, fun i hi => by simp at hi, fun i hi => by simp at hi⟩
theorem PmO.L4 {p q : Prof} {c : Int} {r : List (List (List (List Int)))} (h : PmO p q c r) : L4 r := by
  cases h with
  | bad => exact L4_nil
  | big => exact L4_nil
  | many => exact L4_nil
  | yes h s t e1 e2 hb hD =>
    have hl : (pmP p q).length = (pmL p q).length := apL_len
    have hg : ∀ i, i < (pmP p q).length → (pmP p q).getD i [] = spL p ((pmL p q).getD i []) := fun i hi => by
      unfold pmP apL at hi ⊢
      rw [List.length_map, List.length_range] at hi
      rw [List.getD_eq_getElem?_getD, List.getElem?_map, List.getElem?_range hi]; rfl
    refine ⟨by omega, fun i hi => ?_, fun i hi => ?_⟩
    · rw [hg i hi]; exact (spL_3 s).1
    · rw [hg i hi]; exact (spL_3 s).2
theorem cal_FnExactAllProfunctorMaps : Callable Try.prog 3 := ⟨_, Try.func3, rfl, rfl⟩
theorem sp_FnExactAllProfunctorMaps {a0 a1 : Prof} (tf : PrT a0) (tg : PrT a1) : Spec Try.prog 3 [profV a0, profV a1] [] (bv true) [] := by
  refine spec_of_V (E := TE) 0 Try.func3 rfl (by simp [Try.f3]) fun X hn hX => ?_
  by_cases hz : (prSz a0 : Int) ≤ 1048576
  · by_cases hz2 : (prSz a1 : Int) ≤ 1048576 - prSz a0
    · have hf := tf.b (by omega)
      have hg := tg.b (by omega)
      have k1 := PrB.mkn hf
      have k2 := PrB.mkn hg
      obtain ⟨c, R, ho⟩ := pmO_ex a0 a1
      have hR := ho.L4
      have sp_AllProfunctorMaps_loc := sp_AllProfunctorMaps_o hf hg ho
      have sp_spec_AllProfunctorMaps_loc := sp_spec_AllProfunctorMaps_o hf hg ho
      have q1 := hR.tot R.length (Nat.le_refl _)
      rw [List.take_length] at q1
      have q2 := hR.one
      repeat' (first | (with_reducible first | refine V_seq ?_ | refine V_skip ?_ | refine V_ret ?_) | ((with_reducible refine V_cond ?_); simp only [go_sem, simprocAttr]) | ((first | refine V_region (by rw [hn]; rfl) ?_ | refine V_drawn hmix (by rw [hn]; rfl) ?_); intro K hK) | ((first | with_reducible refine evOps_n ?_ | ((with_reducible apply evOps_g); rfl) | with_reducible refine evOpsD_n ?_ | ((with_reducible apply evOpsD_g); rfl)); intro K hK; simp (contextual := true) only [go_sem, simprocAttr]) | with_reducible refine evOps_nil ?_ | ((with_reducible refine evOpsD_nil ?_ ?_); kernel_rfl) | ((with_reducible refine hK _ ?_); clear hK K) | (with_reducible first | refine And.intro ?_ ?_ | refine nxt_n ?_ | refine nxt_r ?_ | refine inR_mk ?_ ?_) | ((with_reducible refine evCall_at 4 ?_); refine EvCall.rq (a := (sp_szProfunctor_yes (p:=a0) (by first | omega | assumption | rfl) (by first | omega | assumption | rfl))) (b := cal_szProfunctor) (c := ?_); all_goals try simp only [go_sem, simprocAttr]) | ((with_reducible refine evCall_at 4 ?_); refine EvCall.rq (a := (sp_szProfunctor_yes (p:=a1) (by first | omega | assumption | rfl) (by first | omega | assumption | rfl))) (b := cal_szProfunctor) (c := ?_); all_goals try simp only [go_sem, simprocAttr]) | ((with_reducible refine evCall_at 6 ?_); refine EvCall.rq (a := (sp_toProfunctor (p:=a0) ?_)) (b := cal_toProfunctor) (c := ?_); all_goals try simp only [go_sem, simprocAttr]) | ((with_reducible refine evCall_at 6 ?_); refine EvCall.rq (a := (sp_toProfunctor (p:=a1) ?_)) (b := cal_toProfunctor) (c := ?_); all_goals try simp only [go_sem, simprocAttr]) | ((with_reducible refine evCall_at 5 ?_); refine EvCall.rq (a := (sp_spec_AllProfunctorMaps_loc)) (b := cal_spec_AllProfunctorMaps) (c := ?_); all_goals try simp only [go_sem, simprocAttr]) | ((with_reducible refine evCall_at 7 ?_); refine EvCall.rq (a := (sp_AllProfunctorMaps_loc)) (b := cal_AllProfunctorMaps) (c := ?_); all_goals try simp only [go_sem, simprocAttr]) | ((with_reducible refine evCall_at 8 ?_); refine EvCall.rq (a := (sp_eqInt64SSSS (a:=R) (b:=R) ?_ ?_)) (b := cal_eqInt64SSSS) (c := ?_); all_goals try simp only [go_sem, simprocAttr]) | ((with_reducible refine evCall_at 9 ?_); refine EvCall.rq (a := (sp_eqProfunctor (f:=a0) (g:=a0) ?_ ?_)) (b := cal_eqProfunctor) (c := ?_); all_goals try simp only [go_sem, simprocAttr]) | ((with_reducible refine evCall_at 9 ?_); refine EvCall.rq (a := (sp_eqProfunctor (f:=a1) (g:=a1) ?_ ?_)) (b := cal_eqProfunctor) (c := ?_); all_goals try simp only [go_sem, simprocAttr]) | ((with_reducible refine evCall_at 10 ?_); refine EvCall.mu (by first | (simp only [go_sem, simprocAttr]; rfl) | rfl) (by first | (simp only [go_sem, simprocAttr]; rfl) | rfl) (by first | (simp only [go_sem, simprocAttr]; rfl) | rfl) (sp_markProfunctor (p:=a0) ?_ ?_ ?_) cal_markProfunctor (by first | (simp only [go_sem, simprocAttr]; rfl) | rfl) (by first | (simp only [go_sem, simprocAttr]; rfl) | rfl) (by simp [go_sem]) (by simp [go_sem]) ?_; all_goals try simp only [go_sem, simprocAttr]) | ((with_reducible refine evCall_at 10 ?_); refine EvCall.mu (by first | (simp only [go_sem, simprocAttr]; rfl) | rfl) (by first | (simp only [go_sem, simprocAttr]; rfl) | rfl) (by first | (simp only [go_sem, simprocAttr]; rfl) | rfl) (sp_markProfunctor (p:=a1) ?_ ?_ ?_) cal_markProfunctor (by first | (simp only [go_sem, simprocAttr]; rfl) | rfl) (by first | (simp only [go_sem, simprocAttr]; rfl) | rfl) (by simp [go_sem]) (by simp [go_sem]) ?_; all_goals try simp only [go_sem, simprocAttr]) | ((with_reducible refine evCall_at 11 ?_); refine EvCall.mu (by first | (simp only [go_sem, simprocAttr]; rfl) | rfl) (by first | (simp only [go_sem, simprocAttr]; rfl) | rfl) (by first | (simp only [go_sem, simprocAttr]; rfl) | rfl) (sp_markInt64SSSS (l:=R) ?_ ?_ ?_) cal_markInt64SSSS (by first | (simp only [go_sem, simprocAttr]; rfl) | rfl) (by first | (simp only [go_sem, simprocAttr]; rfl) | rfl) (by simp [go_sem]) (by simp [go_sem]) ?_; all_goals try simp only [go_sem, simprocAttr]) | ((with_reducible refine evCall_at 12 ?_); refine EvCall.rq (a := (sp_heldInt64SSSS_at (m:=marksT 1 R) (l:=R) (k:=1) (by first | omega | assumption | rfl) (by first | omega | assumption | rfl) (by first | omega | assumption | rfl) (by first | omega | assumption | rfl))) (b := cal_heldInt64SSSS) (c := ?_); all_goals try simp only [go_sem, simprocAttr]) | (refine fun (hc : (_ : Bool) = _) => ?_; try simp only [hcS] at hc))
      all_goals try exact om_
      (first | refine ret_auto ?_ | refine ret_auto' ?_); simp only [go_sem, simprocAttr, Try.f3]
    · repeat' (first | (with_reducible first | refine V_seq ?_ | refine V_skip ?_ | refine V_ret ?_) | ((with_reducible refine V_cond ?_); simp only [go_sem, simprocAttr]) | ((first | refine V_region (by rw [hn]; rfl) ?_ | refine V_drawn hmix (by rw [hn]; rfl) ?_); intro K hK) | ((first | with_reducible refine evOps_n ?_ | ((with_reducible apply evOps_g); rfl) | with_reducible refine evOpsD_n ?_ | ((with_reducible apply evOpsD_g); rfl)); intro K hK; simp (contextual := true) only [go_sem, simprocAttr]) | with_reducible refine evOps_nil ?_ | ((with_reducible refine evOpsD_nil ?_ ?_); kernel_rfl) | ((with_reducible refine hK _ ?_); clear hK K) | (with_reducible first | refine And.intro ?_ ?_ | refine nxt_n ?_ | refine nxt_r ?_ | refine inR_mk ?_ ?_) | ((with_reducible refine evCall_at 4 ?_); refine EvCall.rq (a := (sp_szProfunctor_yes (p:=a0) (by first | omega | assumption | rfl) (by first | omega | assumption | rfl))) (b := cal_szProfunctor) (c := ?_); all_goals try simp only [go_sem, simprocAttr]) | ((with_reducible refine evCall_at 4 ?_); refine EvCall.rq (a := (sp_szProfunctor_no (p:=a1) (by first | omega | assumption | rfl) (by first | omega | assumption | rfl) (by first | omega | assumption | rfl) (by first | omega | assumption | rfl))) (b := cal_szProfunctor) (c := ?_); all_goals try simp only [go_sem, simprocAttr]) | (refine fun (hc : (_ : Bool) = _) => ?_; try simp only [hcS] at hc))
      all_goals try exact om_
      (first | refine ret_auto ?_ | refine ret_auto' ?_); simp only [go_sem, simprocAttr, Try.f3]
  · repeat' (first | (with_reducible first | refine V_seq ?_ | refine V_skip ?_ | refine V_ret ?_) | ((with_reducible refine V_cond ?_); simp only [go_sem, simprocAttr]) | ((first | refine V_region (by rw [hn]; rfl) ?_ | refine V_drawn hmix (by rw [hn]; rfl) ?_); intro K hK) | ((first | with_reducible refine evOps_n ?_ | ((with_reducible apply evOps_g); rfl) | with_reducible refine evOpsD_n ?_ | ((with_reducible apply evOpsD_g); rfl)); intro K hK; simp (contextual := true) only [go_sem, simprocAttr]) | with_reducible refine evOps_nil ?_ | ((with_reducible refine evOpsD_nil ?_ ?_); kernel_rfl) | ((with_reducible refine hK _ ?_); clear hK K) | (with_reducible first | refine And.intro ?_ ?_ | refine nxt_n ?_ | refine nxt_r ?_ | refine inR_mk ?_ ?_) | ((with_reducible refine evCall_at 4 ?_); refine EvCall.rq (a := (sp_szProfunctor_no (p:=a0) (by first | omega | assumption | rfl) (by first | omega | assumption | rfl) (by first | omega | assumption | rfl) (by first | omega | assumption | rfl))) (b := cal_szProfunctor) (c := ?_); all_goals try simp only [go_sem, simprocAttr]) | (refine fun (hc : (_ : Bool) = _) => ?_; try simp only [hcS] at hc))
    all_goals try exact om_
    (first | refine ret_auto ?_ | refine ret_auto' ?_); simp only [go_sem, simprocAttr, Try.f3]
end Go.Eng
namespace Go.Proofs.Ytgbjgeignbjjnaa
open Go Go.Eng Go.Cats Go.ChangeShapes Go.WideShapes Go.RowKit
theorem Try.own33_ : ownKnob Try.checked.prog.godebug = none := by kernel_rfl
theorem Try.laidOut33_ : laidOutB Try.prog = true := by kernel_rfl
theorem allProfunctorMaps_lifted (os : Os) (started : os.Started) (H : Type) (enc : TypeId × Value → H) :
    ReturnsInHanded {} Try.checked os 3 .any (Rows.fnExactAllProfunctorMapsSpec.pre6 enc Try.prog Try.f3 Rows.fnExactAllProfunctorMapsRow.domain Rows.fnExactAllProfunctorMapsRow.apart) (Rows.fnExactAllProfunctorMapsSpec.post enc Try.prog Try.f3 Rows.fnExactAllProfunctorMapsRow.apart Rows.fnExactAllProfunctorMapsRow.fresh Rows.fnExactAllProfunctorMapsRow.handsOn Rows.fnExactAllProfunctorMapsRow.again) := by
  refine returnsInHanded_of_change (C := Try.checked) Try.own33_ started (by kernel_rfl) Try.func3
    (ChangeSpec.witness6 (enc := enc) (C := Try.checked) false ⟨#[], #[.agg #[.int .i64 0, .slice none 0 0, .slice none 0 0, .slice none 0 0, .slice none 0 0, .int .i64 0, .slice none 0 0, .slice none 0 0, .slice none 0 0, .slice none 0 0, .slice none 0 0, .slice none 0 0, .slice none 0 0], .agg #[.int .i64 0, .slice none 0 0, .slice none 0 0, .slice none 0 0, .slice none 0 0, .int .i64 0, .slice none 0 0, .slice none 0 0, .slice none 0 0, .slice none 0 0, .slice none 0 0, .slice none 0 0, .slice none 0 0]], []⟩ 8 (by kernel_rfl) (by kernel_rfl) (by kernel_rfl) (by kernel_rfl)) ?_
  intro W base args ds gs before hval0 hW hcnd _
  have hval : ∀ (j : Nat) t v, Try.f3.params[j]? = some t → args[j]? = some v → Value.okWide Try.prog W .any base t v := hval0
  have hW' := hW
  obtain ⟨p, q, hA0, hV, rfl, hfz, hnd⟩ := hW
  obtain ⟨rfl, rfl⟩ := trodVars_none hV
  have hA : DataW.TrodAll enc Try.prog W 0 (fun _ => true) true [28, 28] args.toList ds p := hA0
  obtain ⟨v0, v1, d0, d1, p0, p1, rfl, rfl, rfl, h0, h1⟩ := trodAll_two hA
  obtain ⟨cs0, rfl, _⟩ := okWide_struct Try.underlying28 (hval 0 28 v0 rfl rfl)
  obtain ⟨fuel0, hf0⟩ := h0
  have hg0 := hf0
  rw [show (Value.agg cs0).cells.toList = cs0.toList from rfl] at hf0
  obtain ⟨a0, hm0, hok0⟩ := rd_prof hf0
  obtain ⟨cs1, rfl, _⟩ := okWide_struct Try.underlying28 (hval 1 28 v1 rfl rfl)
  obtain ⟨fuel1, hf1⟩ := h1
  have hg1 := hf1
  rw [show (Value.agg cs1).cells.toList = cs1.toList from rfl] at hf1
  obtain ⟨a1, hm1, hok1⟩ := rd_prof hf1
  have hlt : ∀ y ∈ p0 ++ p1, y.block < W.heap.size := fun y hy => hW'.lt y (by simpa using hy)
  refine (sp_FnExactAllProfunctorMaps (a0 := a0) (a1 := a1) hm0 hm1 W (Old W) (Old W) _ [.agg cs0, .agg cs1] (hp_start W) ?_).mono fun ed W' ⟨v, c1, he, hp, hv, _⟩ => ?_
  · simp only [Sv.okL, Sv.ok]
    exact ⟨_, _, rfl, ⟨cs0.toList, by simp, hok0 _ _⟩, _, _, rfl, ⟨cs1.toList, by simp, hok1 _ _⟩, rfl⟩
  · simp only [Sv.ok] at hv
    subst hv
    subst he
    have hb := below_of_hp hp
    refine ⟨_, rfl, post_law hW' rfl rfl Try.underlying4 rfl hb ?_⟩
    rw [List.append_nil]
    exact trodAll_mk2 (Below.trod Try.laidOut33_ (by kernel_rfl) (of_decide_eq_true (by kernel_rfl)) ⟨fuel0, hg0⟩ hb (fun y hy => hlt y (by simp [hy]))) (Below.trod Try.laidOut33_ (by kernel_rfl) (of_decide_eq_true (by kernel_rfl)) ⟨fuel1, hg1⟩ hb (fun y hy => hlt y (by simp [hy])))
theorem allProfunctorMaps_holds : Rows.FnExactAllProfunctorMapsSaid :=
  OpenClaim.holds_of_wide 3 Try.f3 rfl rfl rfl rfl rfl rfl rfl ⟨rfl, rfl, rfl, rfl, rfl⟩ rfl rfl rfl rfl rfl (by kernel_rfl) Try.func3 (by kernel_rfl)
    (of_decide_eq_true (by kernel_rfl)) (by unfold Func.isWrapper; first | (rw [if_pos (by decide +kernel)]; kernel_rfl) | (rw [if_neg (by decide +kernel)]; exact ⟨rfl, rfl⟩))
    (fun os started H enc _ => allProfunctorMaps_lifted os started H enc)
#print axioms allProfunctorMaps_holds
end Go.Proofs.Ytgbjgeignbjjnaa
