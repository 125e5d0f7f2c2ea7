/- The law's own functions on set functors; copies; places. -/
import Derived.Test.YtbflkfamigcncaaGreatKanx
import Derived.Test.YtbflkfamigcncaaGreatKhx
set_option linter.unusedSimpArgs false
set_option linter.unusedVariables false
set_option maxRecDepth 100000
set_option maxHeartbeats 8000000
namespace Go.Eng
open Go Go.Proofs Go.Cats
theorem cal_l01Own : Callable Tryz.prog 170 := ⟨_, Tryz.func170, rfl, rfl⟩
theorem sp_l01Own {l : List Int} (hl : l.length ≤ 1048576) : Spec Tryz.prog 170 [.bor [] (ints l)] [] (.sl 0) [(0, ⟨1, .arr (ints l)⟩)] := by
  refine spec_of_V (E := TE) 0 Tryz.func170 rfl (by simp [Tryz.f170]) fun X hn hX => ?_
  repeat' (first | with_reducible refine St.f ?_ | ((with_reducible refine V_cond ?_); simp only [go_sem, simprocAttr]) | ((refine V_rg ?_); intro K hK) | ((first | with_reducible refine So.f ?_ | ((with_reducible apply evOps_g); rfl)); intro K hK; simp (contextual := true) only [go_sem, simprocAttr]) | ((with_reducible refine hK _ ?_); clear hK K) | (with_reducible first | refine And.intro ?_ ?_ | refine inR_mk ?_ ?_) | (refine fun (hc : (_ : Bool) = _) => ?_; try simp only [hcS] at hc))
  all_goals try exact om_
  (first | refine ret_auto ?_ | refine ret_auto' ?_); simp only [go_sem, simprocAttr, Tryz.f170]
theorem cal_l01Own2 : Callable Tryz.prog 199 := ⟨_, Tryz.func199, rfl, rfl⟩
theorem sp_l01Own2 {l : List (List Int)} (hl : l.length ≤ 1048576) (hr : ∀ i, i < l.length → (l.getD i []).length ≤ 1048576) : Spec Tryz.prog 199 [.bor [] (intss l)] [] (.sl 0) [(0, ⟨1, .arr (intss l)⟩)] := by
  refine spec_of_V (E := TE) 0 Tryz.func199 rfl (by simp [Tryz.f199]) fun X hn hX => ?_
  repeat' (first | with_reducible refine St.f ?_ | ((with_reducible refine V_cond ?_); simp only [go_sem, simprocAttr]) | ((refine V_rg ?_); intro K hK) | ((first | with_reducible refine So.f ?_ | ((with_reducible apply evOps_g); rfl)); intro K hK; simp (contextual := true) only [go_sem, simprocAttr]) | ((with_reducible refine hK _ ?_); clear hK K) | (with_reducible first | refine And.intro ?_ ?_ | refine blk_other (by decide) ?_ | refine inR_mk ?_ ?_) | (refine fun (hc : (_ : Bool) = _) => ?_; try simp only [hcS] at hc))
  all_goals try exact om_
  refine V_loopK (G := {i : Nat // i ≤ l.length ∧ (True)}) (fun ⟨i, _⟩ => [(4, iv i), (3, .sl 0)]) [0, 2] (fun ⟨i, _⟩ => [(0, ⟨1, .arr (intss (l.take i))⟩)]) [0] (fun zz => l.length - zz.1) ⟨0, Nat.zero_le _, by first | trivial | simp⟩ ?_ ?_
  · exact Imp.au hX
  rintro ⟨i, hii, hwi⟩
  simp only [go_sem, simprocAttr]
  have h1 := hr i
  have h2 : (l.take i).length ≤ i := by simp; omega
  repeat' (first | with_reducible refine St.f ?_ | ((with_reducible refine V_cond ?_); simp only [go_sem, simprocAttr]) | ((refine V_rg ?_); intro K hK) | ((first | with_reducible refine So.f ?_ | ((with_reducible apply evOps_g); rfl)); intro K hK; simp (contextual := true) only [go_sem, simprocAttr]) | ((with_reducible refine hK _ ?_); clear hK K) | (with_reducible first | refine And.intro ?_ ?_ | refine blk_other (by decide) ?_ | refine inR_mk ?_ ?_) | ((with_reducible refine evCall_at 170 ?_); refine EvCall.rq (a := (sp_l01Own ?_)) (b := cal_l01Own) (c := ?_); all_goals try simp only [go_sem, simprocAttr]) | (refine fun (hc : (_ : Bool) = _) => ?_; try simp only [hcS] at hc))
  all_goals try exact om_
  · refine ⟨⟨i + 1, by omega, (by trivial)⟩, by simp only; omega, Imp.auto hX (by simp only [go_sem, simprocAttr, take_getD (d := []) (show i < l.length by omega)])⟩
  · (first | refine ret_auto ?_ | refine ret_auto' ?_); simp only [go_sem, simprocAttr, Tryz.f199]
    rw [List.take_of_length_le (by omega)]
theorem cal_l02Own : Callable Tryz.prog 169 := ⟨_, Tryz.func169, rfl, rfl⟩
theorem sp_l02Own {c : Cat} (hb : CatB c) : Spec Tryz.prog 169 [catV c] [] (.agg [iv c.ob, .sl 0, .sl 1, .sl 2, .sl 3]) [(0, ⟨1, .arr (ints c.fr)⟩), (1, ⟨1, .arr (ints c.to)⟩), (2, ⟨1, .arr (ints c.id)⟩), (3, ⟨1, .arr (intss c.co)⟩)] := by
  refine spec_of_V (E := TE) 0 Tryz.func169 rfl (by simp [Tryz.f169]) fun X hn hX => ?_
  obtain ⟨b1, b2, b3, b4, b5, b6, b7⟩ := hb
  repeat' (first | with_reducible refine St.f ?_ | ((with_reducible refine V_cond ?_); simp only [go_sem, simprocAttr]) | ((first | refine V_rg ?_ | refine V_dr ?_); intro K hK) | ((first | with_reducible refine So.f ?_ | ((with_reducible apply evOps_g); rfl) | ((with_reducible apply evOpsD_g); rfl)); intro K hK; simp (contextual := true) only [go_sem, simprocAttr]) | ((with_reducible refine evOpsD_nil ?_ ?_); kernel_rfl) | ((with_reducible refine hK _ ?_); clear hK K) | (with_reducible first | refine And.intro ?_ ?_ | refine inR_mk ?_ ?_) | ((with_reducible refine evCall_at 170 ?_); refine EvCall.rq (a := (sp_l01Own ?_)) (b := cal_l01Own) (c := ?_); all_goals try simp only [go_sem, simprocAttr]) | ((with_reducible refine evCall_at 199 ?_); refine EvCall.rq (a := (sp_l01Own2 ?_ ?_)) (b := cal_l01Own2) (c := ?_); all_goals try simp only [go_sem, simprocAttr]) | (refine fun (hc : (_ : Bool) = _) => ?_; try simp only [hcS] at hc))
  all_goals try exact om_
  (first | refine ret_auto ?_ | refine ret_auto' ?_); simp only [go_sem, simprocAttr, Tryz.f169]
theorem cal_l02Then : Callable Tryz.prog 124 := ⟨_, Tryz.func124, rfl, rfl⟩
theorem sp_l02Then {c : Cat} {f g : Int} (h0 : 0 ≤ f) (h1 : f < c.co.length) (h2 : 0 ≤ g) (h3 : g < (c.co.getD f.toNat []).length) : Spec Tryz.prog 124 [catV c, iv f, iv g] [] (iv (c.C f g)) [] := by
  refine spec_of_V (E := TE) 0 Tryz.func124 rfl (by simp [Tryz.f124]) fun X hn hX => ?_
  repeat' (first | with_reducible refine St.f ?_ | ((with_reducible refine V_cond ?_); simp only [go_sem, simprocAttr]) | ((refine V_rg ?_); intro K hK) | ((first | with_reducible refine So.f ?_ | ((with_reducible apply evOps_g); rfl)); intro K hK; simp (contextual := true) only [go_sem, simprocAttr]) | ((with_reducible refine hK _ ?_); clear hK K) | (with_reducible first | refine And.intro ?_ ?_ | refine inR_mk ?_ ?_) | (refine fun (hc : (_ : Bool) = _) => ?_; try simp only [hcS] at hc))
  all_goals try exact om_
  (first | refine ret_auto ?_ | refine ret_auto' ?_); simp only [go_sem, simprocAttr, Tryz.f124]
structure SFL (f : SF) : Prop where
  shape : CatL f.shape
  sizes : (f.sizes.length : Int) ≤ 9223372036854775807
  acts : (f.acts.length : Int) ≤ 9223372036854775807
  row : ∀ a, a < f.acts.length → ((f.acts.getD a []).length : Int) ≤ 9223372036854775807
end Go.Eng
