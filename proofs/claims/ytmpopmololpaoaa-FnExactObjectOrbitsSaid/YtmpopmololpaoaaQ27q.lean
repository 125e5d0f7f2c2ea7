/- The orbits of objects: the pairs of the reference. -/
import Derived.Test.YtmpopmololpaoaaKdx
import Derived.Test.YtmpopmololpaoaaKvx
import Derived.Test.YtmpopmololpaoaaQ19q
import Derived.Test.YtmpopmololpaoaaEngFmq
set_option linter.unusedSimpArgs false
set_option linter.unusedVariables false
set_option maxRecDepth 100000
set_option maxHeartbeats 16000000
namespace Go.Eng
open Go Go.Proofs Go.Cats
attribute [local go_sem] List.set_cons_zero List.set_cons_succ
def orbF (f : Fun) : Nat → List (List Int)
  | 0 => []
  | k + 1 => orbF f k ++ [[(k : Int), f.obs.getD k 0]]
@[go_sem] theorem orbF_zero (f : Fun) : orbF f 0 = [] := rfl
theorem orbF_len (f : Fun) : ∀ k, (orbF f k).length = k
  | 0 => rfl
  | k + 1 => by rw [orbF, List.length_append, orbF_len f k]; rfl
def orbP (F : List Fun) : Nat → List (List Int)
  | 0 => []
  | i + 1 => orbP F i ++ orbF (F.getD i default) (F.getD i default).obs.length
@[go_sem] theorem orbP_zero (F : List Fun) : orbP F 0 = [] := rfl
theorem orbP_len (F : List Fun) {n : Nat} (h : ∀ f ∈ F, f.obs.length = n) : ∀ i, i ≤ F.length → (orbP F i).length = i * n
  | 0, _ => by simp [orbP]
  | i + 1, hi => by
    rw [orbP, List.length_append, orbP_len F h i (by omega), orbF_len, h _ (getD_mem (by omega)), Nat.add_mul, Nat.one_mul]
theorem orbF_mem {f : Fun} {r : List Int} : ∀ {k : Nat}, r ∈ orbF f k → ∃ x, x < k ∧ r = [(x : Int), f.obs.getD x 0]
  | 0, h => absurd h List.not_mem_nil
  | k + 1, h => by
    rw [orbF] at h
    rcases List.mem_append.1 h with h | h
    · obtain ⟨x, hx, e⟩ := orbF_mem h; exact ⟨x, by omega, e⟩
    · exact ⟨k, by omega, List.mem_singleton.1 h⟩
theorem orbP_mem {F : List Fun} {r : List Int} : ∀ {i : Nat}, i ≤ F.length → r ∈ orbP F i → ∃ f ∈ F, ∃ x, x < f.obs.length ∧ r = [(x : Int), f.obs.getD x 0]
  | 0, _, h => absurd h List.not_mem_nil
  | i + 1, hi, h => by
    rw [orbP] at h
    rcases List.mem_append.1 h with h | h
    · exact orbP_mem (by omega) h
    · obtain ⟨x, hx, e⟩ := orbF_mem h; exact ⟨_, getD_mem (by omega), x, hx, e⟩
theorem orbP_ok {F : List Fun} {n : Nat} (h : ∀ f ∈ F, f.obs.length = n) (h2 : ∀ f ∈ F, ∀ x, x < n → 0 ≤ f.obs.getD x 0 ∧ f.obs.getD x 0 < n) : PrsOk n (orbP F F.length) := fun k hk => by
  obtain ⟨f, hf, x, hx, e⟩ := orbP_mem (Nat.le_refl _) (getD_mem (d := []) hk)
  rw [h f hf] at hx
  rw [e]
  have := h2 f hf x hx
  exact ⟨rfl, ⟨by simp, by simp; exact hx⟩, by simp; exact this.1, by simp; exact this.2⟩
theorem cal_spec_ObjectOrbits : Callable Try.prog 20 := ⟨_, Try.func20, rfl, rfl⟩
theorem sp_spec_ObjectOrbits_ok {c : Cat} {F : List Fun} {n : Nat} (hc : CatB c) (h : AOut c c F 0) (hn0 : c.ob = n) (hn1 : n ≤ 1048576) (hF : F.length ≤ 200) (hn2 : n ≤ 40) (h1 : ∀ f ∈ F, f.obs.length = n) (h2 : ∀ f ∈ F, ∀ x, x < n → 0 ≤ f.obs.getD x 0 ∧ f.obs.getD x 0 < n) : Spec Try.prog 20 [catV c] [] (.tup [.sl 0, iv 0]) [(0, ⟨1, .arr (ints (clsI (joK n (orbP F F.length) (orbP F F.length).length) n).1)⟩)] := by
  have hal := sp_spec_AllIsomorphisms_at hc hc h
  have hpl := orbP_len F h1
  have hjo := sp_l01Join (n := n) (ps := orbP F F.length) hn1 (by rw [hpl _ (Nat.le_refl _)]; have := Nat.mul_le_mul hF hn2; omega) (orbP_ok h1 h2)
  rw [← hn0] at hjo
  refine spec_of_V (E := TE) 0 Try.func20 rfl (by simp [Try.f20]) fun X hn hX => ?_
  repeat' (first | (with_reducible first | refine V_seq ?_ | refine V_block ?_ | refine V_skip ?_ | refine V_ret ?_ | refine V_exit ?_) | ((with_reducible refine V_cond ?_); simp only [go_sem, simprocAttr]) | ((refine V_region (by rw [hn]; rfl) ?_); intro K hK) | ((first | with_reducible refine evOps_n ?_ | ((with_reducible apply evOps_g); rfl)); intro K hK; simp (contextual := true) only [go_sem, simprocAttr]) | with_reducible refine evOps_nil ?_ | ((with_reducible refine hK _ ?_); clear hK K) | (with_reducible first | refine And.intro ?_ ?_ | refine nxt_n ?_ | refine nxt_r ?_ | refine nxt_e ?_ | refine blk_n ?_ | refine blk_r ?_ | refine blk_same ?_ | refine blk_other (by decide) ?_ | refine noG_n ?_ | refine noG_r ?_ | refine noG_e ?_ | refine inR_mk ?_ ?_) | ((with_reducible refine evCall_at 15 ?_); refine EvCall.mk (hal) cal_spec_AllIsomorphisms [(0,1)] [] (by simp [go_sem] <;> (repeat' (first | rfl | constructor))) (by simp [go_sem] <;> (repeat' (first | rfl | constructor))) ?_; all_goals try simp only [go_sem, simprocAttr]) | (refine fun (hc : (_ : Bool) = _) => ?_; try simp only [hcS] at hc))
  all_goals try (first | (with_reducible assumption) | ((try simp only [Cat.F, Cat.T, Cat.I, Cat.C, Fun.O, Fun.A, Cat.Entry, Int.toNat_natCast] at *); omega))
  refine V_loopK (G := {i : Nat // i ≤ F.length ∧ (True)}) (fun ⟨i, _⟩ => [(7, iv i), (6, .sl 2)]) [1, 2, 3, 4] (fun ⟨i, _⟩ => [(2, ⟨1, .arr (intss (orbP F i))⟩)]) [2] (fun zz => F.length - zz.1) ⟨0, Nat.zero_le _, by first | trivial | simp⟩ ?_ ?_
  · exact Imp.auto hX (by simp [go_sem, simprocAttr])
  rintro ⟨i, hii, hwi⟩
  simp only [go_sem, simprocAttr]
  have hpi := hpl i (by omega)
  have hpm := Nat.mul_le_mul (show i ≤ 200 by omega) hn2
  rcases Nat.lt_or_ge i F.length with hlt | hge
  · have hat : (funsD F).at (i * 12 + 10) = ints (F.getD i default).obs := funs_at F i 10 hlt (by decide)
    have e1 : orbP F (i + 1) = orbP F i ++ orbF (F.getD i default) (F.getD i default).obs.length := rfl
    have ho := h1 _ (getD_mem (d := default) hlt)
    generalize F.getD i default = f at *
    repeat' (first | (rw [hat]) | (with_reducible first | refine V_seq ?_ | refine V_block ?_ | refine V_skip ?_ | refine V_ret ?_ | refine V_exit ?_) | ((with_reducible refine V_cond ?_); simp only [go_sem, simprocAttr]) | ((refine V_region (by rw [hn]; rfl) ?_); intro K hK) | ((first | with_reducible refine evOps_n ?_ | ((with_reducible apply evOps_g); rfl)); intro K hK; simp (contextual := true) only [go_sem, simprocAttr]) | with_reducible refine evOps_nil ?_ | ((with_reducible refine hK _ ?_); clear hK K) | (with_reducible first | refine And.intro ?_ ?_ | refine nxt_n ?_ | refine nxt_r ?_ | refine nxt_e ?_ | refine blk_n ?_ | refine blk_r ?_ | refine blk_same ?_ | refine blk_other (by decide) ?_ | refine noG_n ?_ | refine noG_r ?_ | refine noG_e ?_ | refine inR_mk ?_ ?_) | (refine fun (hc : (_ : Bool) = _) => ?_; try simp only [hcS] at hc))
    all_goals try (first | (with_reducible assumption) | ((try simp only [Cat.F, Cat.T, Cat.I, Cat.C, Fun.O, Fun.A, Cat.Entry, Int.toNat_natCast] at *); omega))
    refine V_loopK (G := {x : Nat // x ≤ f.obs.length ∧ (True)}) (fun ⟨x, _⟩ => [(8, iv x), (6, .sl 2)]) [1, 2, 3, 4, 7] (fun ⟨x, _⟩ => [(2, ⟨1, .arr (intss (orbP F i ++ orbF f x))⟩)]) [2] (fun zz => f.obs.length - zz.1) ⟨0, Nat.zero_le _, by first | trivial | simp⟩ ?_ ?_
    · exact Imp.auto hX (by simp [go_sem, simprocAttr])
    rintro ⟨x, hix, hwx⟩
    simp only [go_sem, simprocAttr]
    have hfl := orbF_len f x
    rcases Nat.lt_or_ge x f.obs.length with hlt2 | hge2
    · have e2 : orbP F i ++ orbF f (x + 1) = (orbP F i ++ orbF f x) ++ [[(x : Int), f.obs.getD x 0]] := by rw [List.append_assoc]; rfl
      repeat' (first | (rw [hat]) | (with_reducible first | refine V_seq ?_ | refine V_block ?_ | refine V_skip ?_ | refine V_ret ?_ | refine V_exit ?_) | ((with_reducible refine V_cond ?_); simp only [go_sem, simprocAttr]) | ((refine V_region (by rw [hn]; rfl) ?_); intro K hK) | ((first | with_reducible refine evOps_n ?_ | ((with_reducible apply evOps_g); rfl)); intro K hK; simp (contextual := true) only [go_sem, simprocAttr]) | with_reducible refine evOps_nil ?_ | ((with_reducible refine hK _ ?_); clear hK K) | (with_reducible first | refine And.intro ?_ ?_ | refine nxt_n ?_ | refine nxt_r ?_ | refine nxt_e ?_ | refine blk_n ?_ | refine blk_r ?_ | refine blk_same ?_ | refine blk_other (by decide) ?_ | refine noG_n ?_ | refine noG_r ?_ | refine noG_e ?_ | refine inR_mk ?_ ?_) | (refine fun (hc : (_ : Bool) = _) => ?_; try simp only [hcS] at hc))
      all_goals try (first | (with_reducible assumption) | ((try simp only [Cat.F, Cat.T, Cat.I, Cat.C, Fun.O, Fun.A, Cat.Entry, Int.toNat_natCast] at *); omega))
      · refine ⟨⟨x + 1, by omega, (by trivial)⟩, by simp only; omega, Imp.auto hX (by simp only [go_sem, simprocAttr, e2])⟩
    · have ex : x = f.obs.length := by omega
      subst ex
      repeat' (first | (rw [hat]) | (with_reducible first | refine V_seq ?_ | refine V_block ?_ | refine V_skip ?_ | refine V_ret ?_ | refine V_exit ?_) | ((with_reducible refine V_cond ?_); simp only [go_sem, simprocAttr]) | ((refine V_region (by rw [hn]; rfl) ?_); intro K hK) | ((first | with_reducible refine evOps_n ?_ | ((with_reducible apply evOps_g); rfl)); intro K hK; simp (contextual := true) only [go_sem, simprocAttr]) | with_reducible refine evOps_nil ?_ | ((with_reducible refine hK _ ?_); clear hK K) | (with_reducible first | refine And.intro ?_ ?_ | refine nxt_n ?_ | refine nxt_r ?_ | refine nxt_e ?_ | refine blk_n ?_ | refine blk_r ?_ | refine blk_same ?_ | refine blk_other (by decide) ?_ | refine noG_n ?_ | refine noG_r ?_ | refine noG_e ?_ | refine inR_mk ?_ ?_) | (refine fun (hc : (_ : Bool) = _) => ?_; try simp only [hcS] at hc))
      all_goals try (first | (with_reducible assumption) | ((try simp only [Cat.F, Cat.T, Cat.I, Cat.C, Fun.O, Fun.A, Cat.Entry, Int.toNat_natCast] at *); omega))
      · refine ⟨⟨i + 1, by omega, (by (trivial))⟩, by simp only; omega, Imp.auto hX (by simp only [go_sem, simprocAttr, e1])⟩
  · have ei : i = F.length := by omega
    subst ei
    repeat' (first | (with_reducible first | refine V_seq ?_ | refine V_block ?_ | refine V_skip ?_ | refine V_ret ?_ | refine V_exit ?_) | ((with_reducible refine V_cond ?_); simp only [go_sem, simprocAttr]) | ((refine V_region (by rw [hn]; rfl) ?_); intro K hK) | ((first | with_reducible refine evOps_n ?_ | ((with_reducible apply evOps_g); rfl)); intro K hK; simp (contextual := true) only [go_sem, simprocAttr]) | with_reducible refine evOps_nil ?_ | ((with_reducible refine hK _ ?_); clear hK K) | (with_reducible first | refine And.intro ?_ ?_ | refine nxt_n ?_ | refine nxt_r ?_ | refine nxt_e ?_ | refine blk_n ?_ | refine blk_r ?_ | refine blk_same ?_ | refine blk_other (by decide) ?_ | refine noG_n ?_ | refine noG_r ?_ | refine noG_e ?_ | refine inR_mk ?_ ?_) | ((with_reducible refine evCall_at 39 ?_); refine EvCall.mk (hjo) cal_l01Join [(0,3)] [2] (by simp [go_sem] <;> (repeat' (first | rfl | constructor))) (by simp [go_sem] <;> (repeat' (first | rfl | constructor))) ?_; all_goals try simp only [go_sem, simprocAttr]) | (refine fun (hc : (_ : Bool) = _) => ?_; try simp only [hcS] at hc))
    all_goals try (first | (with_reducible assumption) | ((try simp only [Cat.F, Cat.T, Cat.I, Cat.C, Fun.O, Fun.A, Cat.Entry, Int.toNat_natCast] at *); omega))
    · (first | refine ret_auto ?_ | refine ret_auto' ?_); simp only [go_sem, simprocAttr, Try.f20]
end Go.Eng
