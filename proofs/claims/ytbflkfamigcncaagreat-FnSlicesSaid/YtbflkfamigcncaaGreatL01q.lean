/- Comparisons of the laws: lists, lists of lists, categories, functors. -/
import Derived.Test.YtbflkfamigcncaaGreatEngRnq
import Derived.Test.YtbflkfamigcncaaGreatKix
set_option linter.unusedSimpArgs false
set_option linter.unusedVariables false
set_option maxRecDepth 100000
set_option maxHeartbeats 8000000
namespace Go.Eng
open Go Go.Proofs Go.Cats
theorem cal_big : Callable Tryz.prog 9 := ⟨_, Tryz.func9, rfl, rfl⟩
theorem sp_big {l : List Int} (hl : (l.length : Int) ≤ 9223372036854775807) : Spec Tryz.prog 9 [.bor [] (bys l)] [] (bv (decide (4096 < (l.length : Int)))) [] := by
  refine spec_of_V (E := TE) 0 Tryz.func9 rfl (by simp [Tryz.f9]) fun X hn hX => ?_
  repeat' (first | with_reducible refine St.f ?_ | ((with_reducible refine V_cond ?_); simp only [go_sem, simprocAttr]) | ((refine V_rg ?_); intro K hK) | ((first | with_reducible refine So.f ?_ | ((with_reducible apply evOps_g); rfl)); intro K hK; simp (contextual := true) only [go_sem, simprocAttr]) | ((with_reducible refine hK _ ?_); clear hK K) | (with_reducible first | refine And.intro ?_ ?_ | refine inR_mk ?_ ?_) | (refine fun (hc : (_ : Bool) = _) => ?_; try simp only [hcS] at hc))
  all_goals try exact om_
  (first | refine ret_auto ?_ | refine ret_auto' ?_); simp only [go_sem, simprocAttr, Tryz.f9]
theorem cal_likeInts : Callable Tryz.prog 69 := ⟨_, Tryz.func69, rfl, rfl⟩
theorem sp_likeInts {a b : List Int} (ha : a.length ≤ 1048576) (hb : b.length ≤ 1048576) : Spec Tryz.prog 69 [.bor [] (ints a), .bor [] (ints b)] [] (bv (dec (a = b))) [] := by
  refine spec_of_V (E := TE) 0 Tryz.func69 rfl (by simp [Tryz.f69]) fun X hn hX => ?_
  repeat' (first | with_reducible refine St.f ?_ | ((with_reducible refine V_cond ?_); simp only [go_sem, simprocAttr]) | ((first | refine V_rg ?_ | refine V_dr ?_); intro K hK) | ((first | with_reducible refine So.f ?_ | ((with_reducible apply evOps_g); rfl) | ((with_reducible apply evOpsD_g); rfl)); intro K hK; simp (contextual := true) only [go_sem, simprocAttr]) | ((with_reducible refine evOpsD_nil ?_ ?_); kernel_rfl) | ((with_reducible refine hK _ ?_); clear hK K) | (with_reducible first | refine And.intro ?_ ?_ | refine blk_other (by decide) ?_ | refine inR_mk ?_ ?_) | (refine fun (hc : (_ : Bool) = _) => ?_; try simp only [hcS] at hc))
  all_goals try exact om_
  · (first | refine ret_auto ?_ | refine ret_auto' ?_); simp only [go_sem, simprocAttr, Tryz.f69]
    exact bv_f (fun e => by subst e; omega)
  refine V_loopK (G := {i : Nat // i ≤ a.length ∧ (a.take i = b.take i)}) (fun ⟨i, _⟩ => [(5, iv i)]) [0, 1] (fun ⟨i, _⟩ => []) [] (fun zz => a.length - zz.1) ⟨0, Nat.zero_le _, by simp⟩ ?_ ?_
  · exact Imp.au hX
  rintro ⟨i, hii, hwi⟩
  simp only [go_sem, simprocAttr]
  repeat' (first | with_reducible refine St.f ?_ | ((with_reducible refine V_cond ?_); simp only [go_sem, simprocAttr]) | ((first | refine V_rg ?_ | refine V_dr ?_); intro K hK) | ((first | with_reducible refine So.f ?_ | ((with_reducible apply evOps_g); rfl) | ((with_reducible apply evOpsD_g); rfl)); intro K hK; simp (contextual := true) only [go_sem, simprocAttr]) | ((with_reducible refine evOpsD_nil ?_ ?_); kernel_rfl) | ((with_reducible refine hK _ ?_); clear hK K) | (with_reducible first | refine And.intro ?_ ?_ | refine blk_other (by decide) ?_ | refine inR_mk ?_ ?_) | (refine fun (hc : (_ : Bool) = _) => ?_; try simp only [hcS] at hc))
  all_goals try exact om_
  · (first | refine ret_auto ?_ | refine ret_auto' ?_); simp only [go_sem, simprocAttr, Tryz.f69]
    exact bv_f (fun e => by subst e; exact hc rfl)
  · refine ⟨⟨i + 1, by omega, (by exact take_snoc hwi (by omega) (by omega) hc)⟩, by simp only; omega, Imp.ao hX⟩
  · (first | refine ret_auto ?_ | refine ret_auto' ?_); simp only [go_sem, simprocAttr, Tryz.f69]
    exact bv_t (take_end hwi (by omega) (by omega))
theorem cal_likeRows5 : Callable Tryz.prog 53 := ⟨_, Tryz.func53, rfl, rfl⟩
theorem sp_likeRows5 {a b : List (List Int)} (ha : a.length ≤ 1048576) (hb : b.length ≤ 1048576) (ra : ∀ i, i < a.length → (a.getD i []).length ≤ 1048576) (rb : ∀ i, i < b.length → (b.getD i []).length ≤ 1048576) : Spec Tryz.prog 53 [.bor [] (intss a), .bor [] (intss b)] [] (bv (dec (a = b))) [] := by
  refine spec_of_V (E := TE) 0 Tryz.func53 rfl (by simp [Tryz.f53]) fun X hn hX => ?_
  repeat' (first | with_reducible refine St.f ?_ | ((with_reducible refine V_cond ?_); simp only [go_sem, simprocAttr]) | ((first | refine V_rg ?_ | refine V_dr ?_); intro K hK) | ((first | with_reducible refine So.f ?_ | ((with_reducible apply evOps_g); rfl) | ((with_reducible apply evOpsD_g); rfl)); intro K hK; simp (contextual := true) only [go_sem, simprocAttr]) | ((with_reducible refine evOpsD_nil ?_ ?_); kernel_rfl) | ((with_reducible refine hK _ ?_); clear hK K) | (with_reducible first | refine And.intro ?_ ?_ | refine blk_other (by decide) ?_ | refine inR_mk ?_ ?_) | (refine fun (hc : (_ : Bool) = _) => ?_; try simp only [hcS] at hc))
  all_goals try exact om_
  · (first | refine ret_auto ?_ | refine ret_auto' ?_); simp only [go_sem, simprocAttr, Tryz.f53]
    exact bv_f (fun e => by subst e; omega)
  refine V_loopK (G := {i : Nat // i ≤ a.length ∧ (a.take i = b.take i)}) (fun ⟨i, _⟩ => [(5, iv i)]) [0, 1] (fun ⟨i, _⟩ => []) [] (fun zz => a.length - zz.1) ⟨0, Nat.zero_le _, by simp⟩ ?_ ?_
  · exact Imp.au hX
  rintro ⟨i, hii, hwi⟩
  simp only [go_sem, simprocAttr]
  have h1 := ra i
  have h2 := rb i
  repeat' (first | with_reducible refine St.f ?_ | ((with_reducible refine V_cond ?_); simp only [go_sem, simprocAttr]) | ((first | refine V_rg ?_ | refine V_dr ?_); intro K hK) | ((first | with_reducible refine So.f ?_ | ((with_reducible apply evOps_g); rfl) | ((with_reducible apply evOpsD_g); rfl)); intro K hK; simp (contextual := true) only [go_sem, simprocAttr]) | ((with_reducible refine evOpsD_nil ?_ ?_); kernel_rfl) | ((with_reducible refine hK _ ?_); clear hK K) | (with_reducible first | refine And.intro ?_ ?_ | refine blk_other (by decide) ?_ | refine inR_mk ?_ ?_) | ((with_reducible refine evCall_at 69 ?_); refine EvCall.rq (a := (sp_likeInts ?_ ?_)) (b := cal_likeInts) (c := ?_); all_goals try simp only [go_sem, simprocAttr]) | (refine fun (hc : (_ : Bool) = _) => ?_; try simp only [hcS] at hc))
  all_goals try exact om_
  · (first | refine ret_auto ?_ | refine ret_auto' ?_); simp only [go_sem, simprocAttr, Tryz.f53]
    exact bv_f (fun e => by subst e; exact hc rfl)
  · refine ⟨⟨i + 1, by omega, (by exact take_snoc hwi (by omega) (by omega) hc)⟩, by simp only; omega, Imp.ao hX⟩
  · (first | refine ret_auto ?_ | refine ret_auto' ?_); simp only [go_sem, simprocAttr, Tryz.f53]
    exact bv_t (take_end hwi (by omega) (by omega))
theorem cal_likeCategories5 : Callable Tryz.prog 13 := ⟨_, Tryz.func13, rfl, rfl⟩
theorem sp_likeCategories5 {a b : Cat} (ha : CatB a) (hb : CatB b) : Spec Tryz.prog 13 [catV a, catV b] [] (bv (dec (a = b))) [] := by
  refine spec_of_V (E := TE) 0 Tryz.func13 rfl (by simp [Tryz.f13]) fun X hn hX => ?_
  obtain ⟨a1, a2, a3, a4, a5, a6, a7⟩ := ha
  obtain ⟨b1, b2, b3, b4, b5, b6, b7⟩ := hb
  repeat' (first | with_reducible refine St.f ?_ | ((with_reducible refine V_cond ?_); simp only [go_sem, simprocAttr]) | ((refine V_rg ?_); intro K hK) | ((first | with_reducible refine So.f ?_ | ((with_reducible apply evOps_g); rfl)); intro K hK; simp (contextual := true) only [go_sem, simprocAttr]) | ((with_reducible refine hK _ ?_); clear hK K) | (with_reducible first | refine And.intro ?_ ?_ | refine inR_mk ?_ ?_) | ((with_reducible refine evCall_at 69 ?_); refine EvCall.rq (a := (sp_likeInts ?_ ?_)) (b := cal_likeInts) (c := ?_); all_goals try simp only [go_sem, simprocAttr]) | ((with_reducible refine evCall_at 53 ?_); refine EvCall.rq (a := (sp_likeRows5 ?_ ?_ ?_ ?_)) (b := cal_likeRows5) (c := ?_); all_goals try simp only [go_sem, simprocAttr]) | (refine fun (hc : (_ : Bool) = _) => ?_; try simp only [hcS] at hc))
  all_goals try exact om_
  · (first | refine ret_auto ?_ | refine ret_auto' ?_); simp only [go_sem, simprocAttr, Tryz.f13]
    exact congrArg (fun b => Sv.v (.bool b)) (dec_congr ⟨fun h => Cat.eq (by assumption) (by assumption) (by assumption) hc h, fun e => by rw [e]⟩)
  all_goals ((first | refine ret_auto ?_ | refine ret_auto' ?_); simp only [go_sem, simprocAttr, Tryz.f13]; exact bv_f (fun e => hc (by rw [e])))
end Go.Eng
