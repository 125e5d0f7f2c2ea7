/- The search of natural maps: small functions of the program and of the reference. -/
import Derived.Test.YtfinbajnalaomaaGreatC02q
import Derived.Test.YtfinbajnalaomaaGreatG11q
set_option linter.unusedSimpArgs false
set_option linter.unusedVariables false
set_option maxRecDepth 100000
set_option maxHeartbeats 8000000
namespace Go.Eng
open Go Go.Proofs Go.Cats
attribute [go_sem] outI_zero sumI_zero
theorem cal_has : Callable Tryz.prog 81 := ⟨_, Tryz.func81, rfl, rfl⟩
theorem sp_has {l : List Int} {n : Int} (hl : l.length ≤ 1048576) : Spec Tryz.prog 81 [.bor [] (ints l), iv n] [] (bv (dec (n ∈ l))) [] := by
  refine spec_of_V (E := TE) 0 Tryz.func81 rfl (by simp [Tryz.f81]) fun X hn hX => ?_
  repeat' (first | (with_reducible first | refine V_seq ?_ | refine V_block ?_ | refine V_skip ?_ | refine V_ret ?_ | refine V_exit ?_) | ((with_reducible refine V_cond ?_); simp only [go_sem, simprocAttr]) | ((refine V_region (by rw [hn]; rfl) ?_); intro K hK) | ((first | with_reducible refine evOps_n ?_ | ((with_reducible apply evOps_g); rfl)); intro K hK; simp (contextual := true) only [go_sem, simprocAttr]) | with_reducible refine evOps_nil ?_ | ((with_reducible refine hK _ ?_); clear hK K) | (with_reducible first | refine And.intro ?_ ?_ | refine nxt_n ?_ | refine nxt_r ?_ | refine nxt_e ?_ | refine blk_n ?_ | refine blk_r ?_ | refine blk_same ?_ | refine blk_other (by decide) ?_ | refine noG_n ?_ | refine noG_r ?_ | refine noG_e ?_ | refine inR_mk ?_ ?_) | (refine fun (hc : (_ : Bool) = _) => ?_; try simp only [hcS] at hc))
  refine V_loopK (G := {i : Nat // i ≤ l.length ∧ (∀ j, j < i → ¬ l.getD j 0 = n)}) (fun ⟨i, _⟩ => [(9, iv i)]) [1, 7, 8] (fun ⟨i, _⟩ => []) [] (fun zz => l.length - zz.1) ⟨0, Nat.zero_le _, by omega⟩ ?_ ?_
  · exact Imp.au hX
  rintro ⟨i, hii, hwi⟩
  simp only [go_sem, simprocAttr]
  repeat' (first | (with_reducible first | refine V_seq ?_ | refine V_block ?_ | refine V_skip ?_ | refine V_ret ?_ | refine V_exit ?_) | ((with_reducible refine V_cond ?_); simp only [go_sem, simprocAttr]) | ((refine V_region (by rw [hn]; rfl) ?_); intro K hK) | ((first | with_reducible refine evOps_n ?_ | ((with_reducible apply evOps_g); rfl)); intro K hK; simp (contextual := true) only [go_sem, simprocAttr]) | with_reducible refine evOps_nil ?_ | ((with_reducible refine hK _ ?_); clear hK K) | (with_reducible first | refine And.intro ?_ ?_ | refine nxt_n ?_ | refine nxt_r ?_ | refine nxt_e ?_ | refine blk_n ?_ | refine blk_r ?_ | refine blk_same ?_ | refine blk_other (by decide) ?_ | refine noG_n ?_ | refine noG_r ?_ | refine noG_e ?_ | refine inR_mk ?_ ?_) | (refine fun (hc : (_ : Bool) = _) => ?_; try simp only [hcS] at hc))
  all_goals try exact om_
  · (first | refine ret_auto ?_ | refine ret_auto' ?_); simp only [go_sem, simprocAttr, Tryz.f81]
    exact bv_t (has_hit (by omega) hc)
  · refine ⟨⟨i + 1, by omega, (by exact all_succ hwi hc)⟩, by simp only; omega, Imp.ao hX⟩
  · (first | refine ret_auto ?_ | refine ret_auto' ?_); simp only [go_sem, simprocAttr, Tryz.f81]
    exact bv_f (has_none hwi (by omega))
end Go.Eng
