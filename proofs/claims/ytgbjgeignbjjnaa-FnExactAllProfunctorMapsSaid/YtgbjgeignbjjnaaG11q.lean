/- The law's own functions on set functors; copies; places. -/
import Derived.Test.YtgbjgeignbjjnaaKhx
import Derived.Test.YtgbjgeignbjjnaaKanx
set_option linter.unusedSimpArgs false
set_option linter.unusedVariables false
set_option maxRecDepth 100000
set_option maxHeartbeats 8000000
namespace Go.Eng
open Go Go.Proofs Go.Cats
theorem cal_Index_int64_int64 : Callable Try.prog 83 := ⟨_, Try.func83, rfl, rfl⟩
theorem sp_Index_int64_int64 {l : List Int} {n : Int} (hl : l.length ≤ 1048576) : Spec Try.prog 83 [.bor [] (ints l), iv n] [] (iv (idxOf l n)) [] := by
  refine spec_of_V (E := TE) 0 Try.func83 rfl (by simp [Try.f83]) fun X hn hX => ?_
  repeat' (first | (with_reducible first | refine V_seq ?_ | refine V_block ?_ | refine V_skip ?_ | refine V_ret ?_ | refine V_exit ?_) | ((with_reducible refine V_cond ?_); simp only [go_sem, simprocAttr]) | ((refine V_region (by rw [hn]; rfl) ?_); intro K hK) | ((first | with_reducible refine evOps_n ?_ | ((with_reducible apply evOps_g); rfl)); intro K hK; simp (contextual := true) only [go_sem, simprocAttr]) | with_reducible refine evOps_nil ?_ | ((with_reducible refine hK _ ?_); clear hK K) | (with_reducible first | refine And.intro ?_ ?_ | refine nxt_n ?_ | refine nxt_r ?_ | refine nxt_e ?_ | refine blk_n ?_ | refine blk_r ?_ | refine blk_same ?_ | refine blk_other (by decide) ?_ | refine noG_n ?_ | refine noG_r ?_ | refine noG_e ?_ | refine inR_mk ?_ ?_) | (refine fun (hc : (_ : Bool) = _) => ?_; try simp only [hcS] at hc))
  refine V_loopK (G := {i : Nat // i ≤ l.length ∧ (scan i (idxO l n) = none)}) (fun ⟨i, _⟩ => [(8, iv i)]) [0, 1, 7] (fun ⟨i, _⟩ => []) [] (fun zz => l.length - zz.1) ⟨0, Nat.zero_le _, by rfl⟩ ?_ ?_
  · exact Imp.au hX
  rintro ⟨i, hii, hwi⟩
  simp only [go_sem, simprocAttr]
  repeat' (first | (with_reducible first | refine V_seq ?_ | refine V_block ?_ | refine V_skip ?_ | refine V_ret ?_ | refine V_exit ?_) | ((with_reducible refine V_cond ?_); simp only [go_sem, simprocAttr]) | ((refine V_region (by rw [hn]; rfl) ?_); intro K hK) | ((first | with_reducible refine evOps_n ?_ | ((with_reducible apply evOps_g); rfl)); intro K hK; simp (contextual := true) only [go_sem, simprocAttr]) | with_reducible refine evOps_nil ?_ | ((with_reducible refine hK _ ?_); clear hK K) | (with_reducible first | refine And.intro ?_ ?_ | refine nxt_n ?_ | refine nxt_r ?_ | refine nxt_e ?_ | refine blk_n ?_ | refine blk_r ?_ | refine blk_same ?_ | refine blk_other (by decide) ?_ | refine noG_n ?_ | refine noG_r ?_ | refine noG_e ?_ | refine inR_mk ?_ ?_) | (refine fun (hc : (_ : Bool) = _) => ?_; try simp only [hcS] at hc))
  all_goals try exact om_
  · (first | refine ret_auto ?_ | refine ret_auto' ?_); simp only [go_sem, simprocAttr, Try.f83]
    rw [idxOf_hit hwi (by omega) hc.symm]
  · refine ⟨⟨i + 1, by omega, (by exact scan_next hwi (idxO_f fun q => hc q.symm))⟩, by simp only; omega, Imp.ao hX⟩
  · (first | refine ret_auto ?_ | refine ret_auto' ?_); simp only [go_sem, simprocAttr, Try.f83]
    rw [idxOf_none (scan_end hwi hii (by omega))]
theorem cal_index_int64 : Callable Try.prog 66 := ⟨_, Try.func66, rfl, rfl⟩
theorem sp_index_int64 {l : List Int} {n : Int} (hl : l.length ≤ 1048576) : Spec Try.prog 66 [.bor [] (ints l), iv n] [] (iv (idxOf l n)) [] := by
  refine spec_of_V (E := TE) 0 Try.func66 rfl (by simp [Try.f66]) fun X hn hX => ?_
  repeat' (first | (with_reducible first | refine V_seq ?_ | refine V_skip ?_ | refine V_ret ?_) | ((with_reducible refine V_cond ?_); simp only [go_sem, simprocAttr]) | ((refine V_region (by rw [hn]; rfl) ?_); intro K hK) | ((first | with_reducible refine evOps_n ?_ | ((with_reducible apply evOps_g); rfl)); intro K hK; simp (contextual := true) only [go_sem, simprocAttr]) | with_reducible refine evOps_nil ?_ | ((with_reducible refine hK _ ?_); clear hK K) | (with_reducible first | refine And.intro ?_ ?_ | refine nxt_n ?_ | refine nxt_r ?_ | refine inR_mk ?_ ?_) | ((with_reducible refine evCall_at 83 ?_); refine EvCall.rq (a := (sp_Index_int64_int64 ?_)) (b := cal_Index_int64_int64) (c := ?_); all_goals try simp only [go_sem, simprocAttr]) | (refine fun (hc : (_ : Bool) = _) => ?_; try simp only [hcS] at hc))
  all_goals try exact om_
  (first | refine ret_auto ?_ | refine ret_auto' ?_); simp only [go_sem, simprocAttr, Try.f66]
theorem cal_l01Own : Callable Try.prog 43 := ⟨_, Try.func43, rfl, rfl⟩
theorem sp_l01Own {l : List Int} (hl : l.length ≤ 1048576) : Spec Try.prog 43 [.bor [] (ints l)] [] (.sl 0) [(0, ⟨1, .arr (ints l)⟩)] := by
  refine spec_of_V (E := TE) 0 Try.func43 rfl (by simp [Try.f43]) fun X hn hX => ?_
  repeat' (first | (with_reducible first | refine V_seq ?_ | refine V_skip ?_ | refine V_ret ?_) | ((with_reducible refine V_cond ?_); simp only [go_sem, simprocAttr]) | ((refine V_region (by rw [hn]; rfl) ?_); intro K hK) | ((first | with_reducible refine evOps_n ?_ | ((with_reducible apply evOps_g); rfl)); intro K hK; simp (contextual := true) only [go_sem, simprocAttr]) | with_reducible refine evOps_nil ?_ | ((with_reducible refine hK _ ?_); clear hK K) | (with_reducible first | refine And.intro ?_ ?_ | refine nxt_n ?_ | refine nxt_r ?_ | refine inR_mk ?_ ?_) | (refine fun (hc : (_ : Bool) = _) => ?_; try simp only [hcS] at hc))
  all_goals try exact om_
  (first | refine ret_auto ?_ | refine ret_auto' ?_); simp only [go_sem, simprocAttr, Try.f43]
def sfSz (f : SF) : Nat := catSz f.shape + f.sizes.length + (f.acts.length + sumLen f.acts)
structure SFL (f : SF) : Prop where
  shape : CatL f.shape
  sizes : (f.sizes.length : Int) ≤ 9223372036854775807
  acts : (f.acts.length : Int) ≤ 9223372036854775807
  row : ∀ a, a < f.acts.length → ((f.acts.getD a []).length : Int) ≤ 9223372036854775807
end Go.Eng
