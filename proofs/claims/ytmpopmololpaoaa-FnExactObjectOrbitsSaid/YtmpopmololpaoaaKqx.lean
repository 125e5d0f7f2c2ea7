/- Several texts in one: Q28, Q29. -/
import Derived.Test.YtmpopmololpaoaaKdx
import Derived.Test.YtmpopmololpaoaaQ27q
set_option linter.unusedSimpArgs false
set_option linter.unusedVariables false
set_option maxRecDepth 100000
set_option maxHeartbeats 16000000
section
namespace Go.Eng
open Go Go.Proofs Go.Cats
attribute [local go_sem] List.set_cons_zero List.set_cons_succ
@[go_sem] theorem jnK_zero (n : Nat) (ps : List (List Int)) : jnK n ps 0 = nums n := rfl
theorem orbF_at {f : Fun} {x : Nat} : ∀ {k : Nat}, x < k → (orbF f k).getD x [] = [(x : Int), f.obs.getD x 0]
  | 0, h => by omega
  | k + 1, h => by
    have hl := orbF_len f k
    rw [orbF, List.getD_eq_getElem?_getD]
    by_cases e : x < k
    · rw [List.getElem?_append_left (by omega), ← List.getD_eq_getElem?_getD, orbF_at e]
    · have : x = k := by omega
      subst this
      rw [List.getElem?_append_right (by omega), hl, Nat.sub_self]; rfl
theorem orbP_pre {F : List Fun} {i : Nat} : ∀ {j : Nat}, i ≤ j → ∃ R, orbP F j = orbP F i ++ R
  | 0, h => ⟨[], by rw [show i = 0 by omega, List.append_nil]⟩
  | j + 1, h => by
    by_cases e : i = j + 1
    · exact ⟨[], by rw [e, List.append_nil]⟩
    · obtain ⟨R, hR⟩ := orbP_pre (F := F) (show i ≤ j by omega)
      exact ⟨R ++ orbF (F.getD j default) (F.getD j default).obs.length, by rw [orbP, hR, List.append_assoc]⟩
theorem orbP_at {F : List Fun} {n i x : Nat} (h : ∀ f ∈ F, f.obs.length = n) (hi : i < F.length) (hx : x < n) : (orbP F F.length).getD (i * n + x) [] = [(x : Int), (F.getD i default).obs.getD x 0] := by
  obtain ⟨R, hR⟩ := orbP_pre (F := F) (i := i + 1) (j := F.length) (by omega)
  have hl := orbP_len F h i (by omega)
  have ho := h _ (getD_mem (d := default) hi)
  have hl2 := orbF_len (F.getD i default) n
  rw [hR, orbP, ho, List.getD_eq_getElem?_getD, List.getElem?_append_left (by rw [List.length_append]; omega), List.getElem?_append_right (by omega), hl, Nat.add_sub_cancel_left, ← List.getD_eq_getElem?_getD, orbF_at hx]
theorem cal_ObjectOrbits : Callable Try.prog 21 := ⟨_, Try.func21, rfl, rfl⟩
theorem sp_ObjectOrbits_ok {c : Cat} {F : List Fun} {n : Nat} (hc : CatB c) (h : AOut c c F 0) (hn0 : c.ob = n) (hn1 : n ≤ 1048576) (hF : F.length ≤ 200) (hn2 : n ≤ 40) (h1 : ∀ f ∈ F, f.obs.length = n) (h2 : ∀ f ∈ F, ∀ x, x < n → 0 ≤ f.obs.getD x 0 ∧ f.obs.getD x 0 < n) : Spec Try.prog 21 [catV c] [] (.tup [.sl 0, iv 0]) [(0, ⟨1, .arr (ints (clsI (joK n (orbP F F.length) (orbP F F.length).length) n).1)⟩)] := by
  have hiso := sp_isoCode_at hc hc h
  have hpl := orbP_len F h1
  have hps := orbP_ok h1 h2
  have hpa := fun (i x : Nat) (hi : i < F.length) (hx : x < n) => orbP_at h1 hi hx
  have hce := cls_eq hps
  have hJ := jnK_ok hps
  have hjof := sp_joinerOf (n := n) hn1
  rw [← hn0] at hjof
  have hpL := hpl F.length (Nat.le_refl _)
  obtain ⟨ps, hpe⟩ : ∃ ps, orbP F F.length = ps := ⟨_, rfl⟩
  rw [hpe] at hps hpa hce hJ hpL ⊢
  refine spec_of_V (E := TE) 0 Try.func21 rfl (by simp [Try.f21]) fun X hn hX => ?_
  repeat' (first | (with_reducible first | refine V_seq ?_ | refine V_block ?_ | refine V_skip ?_ | refine V_ret ?_ | refine V_exit ?_) | ((with_reducible refine V_cond ?_); simp only [go_sem, simprocAttr]) | ((refine V_region (by rw [hn]; rfl) ?_); intro K hK) | ((first | with_reducible refine evOps_n ?_ | ((with_reducible apply evOps_g); rfl)); intro K hK; simp (contextual := true) only [go_sem, simprocAttr]) | with_reducible refine evOps_nil ?_ | ((with_reducible refine hK _ ?_); clear hK K) | (with_reducible first | refine And.intro ?_ ?_ | refine nxt_n ?_ | refine nxt_r ?_ | refine nxt_e ?_ | refine blk_n ?_ | refine blk_r ?_ | refine blk_same ?_ | refine blk_other (by decide) ?_ | refine noG_n ?_ | refine noG_r ?_ | refine noG_e ?_ | refine inR_mk ?_ ?_) | ((with_reducible refine evCall_at 37 ?_); refine EvCall.mk (hiso) cal_isoCode [(0,1)] [0] (by simp [go_sem] <;> (repeat' (first | rfl | constructor))) (by simp [go_sem] <;> (repeat' (first | rfl | constructor))) ?_; all_goals try simp only [go_sem, simprocAttr]) | ((with_reducible refine evCall_at 40 ?_); refine EvCall.mk (hjof) cal_joinerOf [(0,2)] [] (by simp [go_sem] <;> (repeat' (first | rfl | constructor))) (by simp [go_sem] <;> (repeat' (first | rfl | constructor))) ?_; all_goals try simp only [go_sem, simprocAttr]) | (refine fun (hc : (_ : Bool) = _) => ?_; try simp only [hcS] at hc))
  all_goals try (first | (with_reducible assumption) | ((try simp only [Cat.F, Cat.T, Cat.I, Cat.C, Fun.O, Fun.A, Cat.Entry, Int.toNat_natCast] at *); omega))
  refine V_loopK (G := {i : Nat // i ≤ F.length ∧ (True)}) (fun ⟨i, _⟩ => [(23, iv i), (6, .sl 2), (1, .ptr 0 0)]) [2, 3, 21, 22] (fun ⟨i, _⟩ => [(2, ⟨1, .arr (ints (jnK n ps (i * n)))⟩)]) [2] (fun zz => F.length - zz.1) ⟨0, Nat.zero_le _, by first | trivial | simp⟩ ?_ ?_
  · exact Imp.auto hX (by simp [go_sem, simprocAttr])
  rintro ⟨i, hii, hwi⟩
  simp only [go_sem, simprocAttr]
  rcases Nat.lt_or_ge i F.length with hlt | hge
  · have hp := funs_part F i hlt
    have ho := h1 _ (getD_mem (d := default) hlt)
    have hob := h2 _ (getD_mem (d := default) hlt)
    have hpi := fun (x : Nat) (hx : x < n) => hpa i x hlt hx
    have hle : (i + 1) * n ≤ F.length * n := Nat.mul_le_mul_right n hlt
    rw [Nat.add_mul, Nat.one_mul] at hle
    generalize F.getD i default = f at *
    repeat' (first | (rw [hp]; simp only [funC]) | (with_reducible first | refine V_seq ?_ | refine V_block ?_ | refine V_skip ?_ | refine V_ret ?_ | refine V_exit ?_) | ((with_reducible refine V_cond ?_); simp only [go_sem, simprocAttr]) | ((refine V_region (by rw [hn]; rfl) ?_); intro K hK) | ((first | with_reducible refine evOps_n ?_ | ((with_reducible apply evOps_g); rfl)); intro K hK; simp (contextual := true) only [go_sem, simprocAttr]) | with_reducible refine evOps_nil ?_ | ((with_reducible refine hK _ ?_); clear hK K) | (with_reducible first | refine And.intro ?_ ?_ | refine nxt_n ?_ | refine nxt_r ?_ | refine nxt_e ?_ | refine blk_n ?_ | refine blk_r ?_ | refine blk_same ?_ | refine blk_other (by decide) ?_ | refine noG_n ?_ | refine noG_r ?_ | refine noG_e ?_ | refine inR_mk ?_ ?_) | (refine fun (hc : (_ : Bool) = _) => ?_; try simp only [hcS] at hc))
    all_goals try (first | (with_reducible assumption) | ((try simp only [Cat.F, Cat.T, Cat.I, Cat.C, Fun.O, Fun.A, Cat.Entry, Int.toNat_natCast] at *); omega))
    refine V_loopK (G := {x : Nat // x ≤ f.obs.length ∧ (True)}) (fun ⟨x, _⟩ => [(30, iv x), (6, .sl 2), (1, .ptr 0 0), (8, .ptr 3 0)]) [2, 3, 21, 22, 23, 28, 29] (fun ⟨x, _⟩ => [(2, ⟨1, .arr (ints (jnK n ps (i * n + x)))⟩)]) [2] (fun zz => f.obs.length - zz.1) ⟨0, Nat.zero_le _, by first | trivial | simp⟩ ?_ ?_
    · exact Imp.auto hX (by simp [go_sem, simprocAttr])
    rintro ⟨x, hix, hwx⟩
    simp only [go_sem, simprocAttr]
    rcases Nat.lt_or_ge x f.obs.length with hlt2 | hge2
    · obtain ⟨u1, u2, _⟩ := hJ (i * n + x) (by omega)
      have hox := hob x (by omega)
      have hjn := sp_joiner_join (J := jnK n ps (i * n + x)) (x := x) (y := (f.obs.getD x 0).toNat) u1 (by omega) (by omega) (by omega)
      rw [Int.toNat_of_nonneg hox.1] at hjn
      have e1 : jnK n ps (i * n + (x + 1)) = jn (jnK n ps (i * n + x)) x (f.obs.getD x 0).toNat := by
        show jnK n ps (i * n + x + 1) = _
        rw [jnK, hpi x (by omega)]; rfl
      repeat' (first | (with_reducible first | refine V_seq ?_ | refine V_block ?_ | refine V_skip ?_ | refine V_ret ?_ | refine V_exit ?_) | ((with_reducible refine V_cond ?_); simp only [go_sem, simprocAttr]) | ((refine V_region (by rw [hn]; rfl) ?_); intro K hK) | ((first | with_reducible refine evOps_n ?_ | ((with_reducible apply evOps_g); rfl)); intro K hK; simp (contextual := true) only [go_sem, simprocAttr]) | with_reducible refine evOps_nil ?_ | ((with_reducible refine hK _ ?_); clear hK K) | (with_reducible first | refine And.intro ?_ ?_ | refine nxt_n ?_ | refine nxt_r ?_ | refine nxt_e ?_ | refine blk_n ?_ | refine blk_r ?_ | refine blk_same ?_ | refine blk_other (by decide) ?_ | refine noG_n ?_ | refine noG_r ?_ | refine noG_e ?_ | refine inR_mk ?_ ?_) | ((with_reducible refine evCall_at 41 ?_); refine EvCall.mk (hjn) cal_joiner_join [(0,2)] [] (by simp [go_sem] <;> (repeat' (first | rfl | constructor))) (by simp [go_sem] <;> (repeat' (first | rfl | constructor))) ?_; all_goals try simp only [go_sem, simprocAttr]) | (refine fun (hc : (_ : Bool) = _) => ?_; try simp only [hcS] at hc))
      all_goals try (first | (with_reducible assumption) | ((try simp only [Cat.F, Cat.T, Cat.I, Cat.C, Fun.O, Fun.A, Cat.Entry, Int.toNat_natCast] at *); omega))
      · refine ⟨⟨x + 1, by omega, (by trivial)⟩, by simp only; omega, Imp.auto hX (by simp only [go_sem, simprocAttr, e1])⟩
    · have ex : x = n := by omega
      have e2 : (i + 1) * n = i * n + n := by rw [Nat.add_mul, Nat.one_mul]
      rw [ex]
      repeat' (first | (with_reducible first | refine V_seq ?_ | refine V_block ?_ | refine V_skip ?_ | refine V_ret ?_ | refine V_exit ?_) | ((with_reducible refine V_cond ?_); simp only [go_sem, simprocAttr]) | ((refine V_region (by rw [hn]; rfl) ?_); intro K hK) | ((first | with_reducible refine evOps_n ?_ | ((with_reducible apply evOps_g); rfl)); intro K hK; simp (contextual := true) only [go_sem, simprocAttr]) | with_reducible refine evOps_nil ?_ | ((with_reducible refine hK _ ?_); clear hK K) | (with_reducible first | refine And.intro ?_ ?_ | refine nxt_n ?_ | refine nxt_r ?_ | refine nxt_e ?_ | refine blk_n ?_ | refine blk_r ?_ | refine blk_same ?_ | refine blk_other (by decide) ?_ | refine noG_n ?_ | refine noG_r ?_ | refine noG_e ?_ | refine inR_mk ?_ ?_) | (refine fun (hc : (_ : Bool) = _) => ?_; try simp only [hcS] at hc))
      all_goals try (first | (with_reducible assumption) | ((try simp only [Cat.F, Cat.T, Cat.I, Cat.C, Fun.O, Fun.A, Cat.Entry, Int.toNat_natCast] at *); omega))
      · refine ⟨⟨i + 1, by omega, (by (trivial))⟩, by simp only; omega, Imp.auto hX (by simp only [go_sem, simprocAttr, e2])⟩
  · have ei : i = F.length := by omega
    rw [ei, ← hpL]
    obtain ⟨u1, u2, _⟩ := hJ ps.length (Nat.le_refl _)
    have hpt := sp_joiner_partition (J := jnK n ps ps.length) u1 (by omega)
    rw [u2] at hpt
    have hce2 : (clsI (rtL (jnK n ps ps.length) n) n).1 = (clsI (joK n ps ps.length) n).1 := hce
    rw [hce2] at hpt
    repeat' (first | (with_reducible first | refine V_seq ?_ | refine V_block ?_ | refine V_skip ?_ | refine V_ret ?_ | refine V_exit ?_) | ((with_reducible refine V_cond ?_); simp only [go_sem, simprocAttr]) | ((refine V_region (by rw [hn]; rfl) ?_); intro K hK) | ((first | with_reducible refine evOps_n ?_ | ((with_reducible apply evOps_g); rfl)); intro K hK; simp (contextual := true) only [go_sem, simprocAttr]) | with_reducible refine evOps_nil ?_ | ((with_reducible refine hK _ ?_); clear hK K) | (with_reducible first | refine And.intro ?_ ?_ | refine nxt_n ?_ | refine nxt_r ?_ | refine nxt_e ?_ | refine blk_n ?_ | refine blk_r ?_ | refine blk_same ?_ | refine blk_other (by decide) ?_ | refine noG_n ?_ | refine noG_r ?_ | refine noG_e ?_ | refine inR_mk ?_ ?_) | ((with_reducible refine evCall_at 42 ?_); refine EvCall.mk (hpt) cal_joiner_partition [(0,2),(1,3)] [] (by simp [go_sem] <;> (repeat' (first | rfl | constructor))) (by simp [go_sem] <;> (repeat' (first | rfl | constructor))) ?_; all_goals try simp only [go_sem, simprocAttr]) | (refine fun (hc : (_ : Bool) = _) => ?_; try simp only [hcS] at hc))
    all_goals try (first | (with_reducible assumption) | ((try simp only [Cat.F, Cat.T, Cat.I, Cat.C, Fun.O, Fun.A, Cat.Entry, Int.toNat_natCast] at *); omega))
    · (first | refine ret_auto ?_ | refine ret_auto' ?_); simp only [go_sem, simprocAttr, Try.f21]
end Go.Eng
end
section
namespace Go.Eng
open Go Go.Proofs Go.Cats
attribute [local go_sem] List.set_cons_zero List.set_cons_succ
theorem adoptI {P : Program} {F : FuncId} {args : List Sv} {code : Int} (h : Spec P F args [] (.tup [.v (.slice none 0 0), iv code]) []) : Spec P F args [] (.tup [.sl 0, iv code]) [(0, ⟨1, .arr (ints [])⟩)] := by
  refine Spec.adopt h (emptyL_cons_i emptyL_nil) fun w S v cn h => ?_
  simp only [Sv.ok, Sv.okL] at h ⊢
  obtain ⟨vs, rfl, x, r, rfl, e, hr⟩ := h
  exact ⟨_, rfl, _, _, rfl, ⟨Nat.le_refl 1, e⟩, hr⟩
theorem sp_ObjectOrbits_bad {c : Cat} {F : List Fun} {code : Int} (hc : CatB c) (h : AOut c c F code) (h0 : code ≠ 0) : Spec Try.prog 21 [catV c] [] (.tup [.v (.slice none 0 0), iv code]) [] := by
  have hiso := sp_isoCode_at hc hc h
  refine spec_of_V (E := TE) 0 Try.func21 rfl (by simp [Try.f21]) fun X hn hX => ?_
  repeat' (first | (with_reducible first | refine V_seq ?_ | refine V_block ?_ | refine V_skip ?_ | refine V_ret ?_ | refine V_exit ?_) | ((with_reducible refine V_cond ?_); simp only [go_sem, simprocAttr]) | ((refine V_region (by rw [hn]; rfl) ?_); intro K hK) | ((first | with_reducible refine evOps_n ?_ | ((with_reducible apply evOps_g); rfl)); intro K hK; simp (contextual := true) only [go_sem, simprocAttr]) | with_reducible refine evOps_nil ?_ | ((with_reducible refine hK _ ?_); clear hK K) | (with_reducible first | refine And.intro ?_ ?_ | refine nxt_n ?_ | refine nxt_r ?_ | refine nxt_e ?_ | refine blk_n ?_ | refine blk_r ?_ | refine blk_same ?_ | refine blk_other (by decide) ?_ | refine noG_n ?_ | refine noG_r ?_ | refine noG_e ?_ | refine inR_mk ?_ ?_) | ((with_reducible refine evCall_at 37 ?_); refine EvCall.mk (hiso) cal_isoCode [(0,1)] [0] (by simp [go_sem] <;> (repeat' (first | rfl | constructor))) (by simp [go_sem] <;> (repeat' (first | rfl | constructor))) ?_; all_goals try simp only [go_sem, simprocAttr]) | (refine fun (hc : (_ : Bool) = _) => ?_; try simp only [hcS] at hc))
  all_goals try (first | (with_reducible assumption) | ((try simp only [Cat.F, Cat.T, Cat.I, Cat.C, Fun.O, Fun.A, Cat.Entry, Int.toNat_natCast] at *); omega))
  all_goals first | (exact absurd (by assumption) h0) | skip
  (first | refine ret_auto ?_ | refine ret_auto' ?_); simp only [go_sem, simprocAttr, Try.f21]
theorem sp_spec_ObjectOrbits_bad {c : Cat} {F : List Fun} {code : Int} (hc : CatB c) (h : AOut c c F code) (h0 : code ≠ 0) : Spec Try.prog 20 [catV c] [] (.tup [.v (.slice none 0 0), iv code]) [] := by
  have hal := sp_spec_AllIsomorphisms_at hc hc h
  refine spec_of_V (E := TE) 0 Try.func20 rfl (by simp [Try.f20]) fun X hn hX => ?_
  repeat' (first | (with_reducible first | refine V_seq ?_ | refine V_block ?_ | refine V_skip ?_ | refine V_ret ?_ | refine V_exit ?_) | ((with_reducible refine V_cond ?_); simp only [go_sem, simprocAttr]) | ((refine V_region (by rw [hn]; rfl) ?_); intro K hK) | ((first | with_reducible refine evOps_n ?_ | ((with_reducible apply evOps_g); rfl)); intro K hK; simp (contextual := true) only [go_sem, simprocAttr]) | with_reducible refine evOps_nil ?_ | ((with_reducible refine hK _ ?_); clear hK K) | (with_reducible first | refine And.intro ?_ ?_ | refine nxt_n ?_ | refine nxt_r ?_ | refine nxt_e ?_ | refine blk_n ?_ | refine blk_r ?_ | refine blk_same ?_ | refine blk_other (by decide) ?_ | refine noG_n ?_ | refine noG_r ?_ | refine noG_e ?_ | refine inR_mk ?_ ?_) | ((with_reducible refine evCall_at 15 ?_); refine EvCall.mk (hal) cal_spec_AllIsomorphisms [(0,1)] [] (by simp [go_sem] <;> (repeat' (first | rfl | constructor))) (by simp [go_sem] <;> (repeat' (first | rfl | constructor))) ?_; all_goals try simp only [go_sem, simprocAttr]) | (refine fun (hc : (_ : Bool) = _) => ?_; try simp only [hcS] at hc))
  all_goals try (first | (with_reducible assumption) | ((try simp only [Cat.F, Cat.T, Cat.I, Cat.C, Fun.O, Fun.A, Cat.Entry, Int.toNat_natCast] at *); omega))
  all_goals first | (exact absurd (by assumption) h0) | skip
  (first | refine ret_auto ?_ | refine ret_auto' ?_); simp only [go_sem, simprocAttr, Try.f20]
def OrbOut (c : Cat) (L : List Int) (code : Int) : Prop := ∃ F, AOut c c F code ∧ ((code ≠ 0 ∧ L = []) ∨ (code = 0 ∧ L = (clsI (joK c.ob.toNat (orbP F F.length) (orbP F F.length).length) c.ob.toNat).1))
theorem OrbOut.ex (c : Cat) : ∃ L code, OrbOut c L code := by
  obtain ⟨F, code, h⟩ := AOut.ex c c
  by_cases h0 : code = 0
  · exact ⟨_, code, F, h, .inr ⟨h0, rfl⟩⟩
  · exact ⟨_, code, F, h, .inl ⟨h0, rfl⟩⟩
theorem aout_zero {c : Cat} {F : List Fun} (h : AOut c c F 0) : 0 ≤ c.ob ∧ c.ob ≤ 40 ∧ F.length ≤ 200 ∧ (∀ f ∈ F, f.obs.length = c.ob.toNat) ∧ ∀ f ∈ F, ∀ x, x < c.ob.toNat → 0 ≤ f.obs.getD x 0 ∧ f.obs.getD x 0 < c.ob.toNat := by
  rcases h with ⟨_, _, q⟩ | ⟨_, _, _, _, q⟩ | ⟨h1, _, _, ⟨q, _⟩ | ⟨_, _, _, _, q⟩ | ⟨e1, e2, h, rfl, _⟩⟩
  · exact absurd q (by decide)
  · exact absurd q (by decide)
  · exact absurd ⟨rfl, rfl⟩ q
  · exact absurd q (by decide)
  · have o0 := h1.toShape.ob0
    have o8 := h1.toShape.ob8
    refine ⟨o0, by omega, h, fun f hf => ?_, fun f hf x hx => ?_⟩
    · have := (iso_of h1 h1 e1 e2 (mem_funX hf).2.2.2).fit.obl
      have : (f.obs.length : Int) = c.ob := this
      omega
    · have hi := iso_of h1 h1 e1 e2 (mem_funX hf).2.2.2
      have hl : (f.obs.length : Int) = c.ob := hi.fit.obl
      have := hi.fit.obw x (by show x < f.obs.length; omega)
      have : 0 ≤ f.obs.getD x 0 ∧ f.obs.getD x 0 < c.ob := this
      omega
theorem sp_spec_ObjectOrbits_at {c : Cat} {L : List Int} {code : Int} (hc : CatB c) (h : OrbOut c L code) : Spec Try.prog 20 [catV c] [] (.tup [.sl 0, iv code]) [(0, ⟨1, .arr (ints L)⟩)] := by
  obtain ⟨F, hF, ⟨h0, rfl⟩ | ⟨rfl, rfl⟩⟩ := h
  · exact adoptI (sp_spec_ObjectOrbits_bad hc hF h0)
  · obtain ⟨a1, a2, a3, a4, a5⟩ := aout_zero hF
    exact sp_spec_ObjectOrbits_ok hc hF (by omega) (by omega) a3 (by omega) a4 a5
theorem sp_ObjectOrbits_at {c : Cat} {L : List Int} {code : Int} (hc : CatB c) (h : OrbOut c L code) : Spec Try.prog 21 [catV c] [] (.tup [.sl 0, iv code]) [(0, ⟨1, .arr (ints L)⟩)] := by
  obtain ⟨F, hF, ⟨h0, rfl⟩ | ⟨rfl, rfl⟩⟩ := h
  · exact adoptI (sp_ObjectOrbits_bad hc hF h0)
  · obtain ⟨a1, a2, a3, a4, a5⟩ := aout_zero hF
    exact sp_ObjectOrbits_ok hc hF (by omega) (by omega) a3 (by omega) a4 a5
theorem OrbOut.len {c : Cat} {L : List Int} {code : Int} (h : OrbOut c L code) : L.length ≤ 40 := by
  obtain ⟨F, hF, ⟨h0, rfl⟩ | ⟨rfl, rfl⟩⟩ := h
  · exact Nat.zero_le _
  · obtain ⟨a1, a2, _⟩ := aout_zero hF
    rw [(clsI_facts _ _).1]; omega
end Go.Eng
end
