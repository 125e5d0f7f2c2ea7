/- Small monoids, a split idempotent, opposites, by the reference. -/
import Derived.Test.YtbflkfamigcncaaGreatZ03q
set_option linter.unusedSimpArgs false
set_option linter.unusedVariables false
set_option maxRecDepth 100000
set_option maxHeartbeats 16000000
namespace Go.Eng
open Go Go.Proofs Go.Cats
attribute [local go_sem] List.set_cons_zero List.set_cons_succ
theorem cal_l02Monoid : Callable Tryz.prog 237 := ⟨_, Tryz.func237, rfl, rfl⟩
theorem sp_l02Monoid {s : RnS} (hs : RnOk s) : Spec Tryz.prog 237 [.ptr 0 0] [(0, srcR s)] (.sl 1) [(0, srcR (nextS s 8)), (1, ⟨1, .arr (intss (moT (nextF s 8).toNat))⟩)] := by
  refine spec_of_V (E := TE) 1 Tryz.func237 rfl (by simp [Tryz.f237]) fun X hn hX => ?_
  have hb := nextF_b (n := 8) hs (by decide)
  have h1 := sp_l01Next (n := 8) hs
  obtain ⟨v, hv⟩ : ∃ v, nextF s 8 = v := ⟨_, rfl⟩
  rw [hv] at hb h1 ⊢
  have hc8 : v = 0 ∨ v = 1 ∨ v = 2 ∨ v = 3 ∨ v = 4 ∨ v = 5 ∨ v = 6 ∨ v = 7 := by omega
  clear hv
  rcases hc8 with rfl | rfl | rfl | rfl | rfl | rfl | rfl | rfl
  · repeat' (first | with_reducible refine St.f ?_ | ((with_reducible refine V_cond ?_); simp only [go_sem, simprocAttr]) | ((refine V_rg ?_); intro K hK) | ((first | with_reducible refine So.f ?_ | ((with_reducible apply evOps_g); rfl)); intro K hK; simp (contextual := true) only [go_sem, simprocAttr]) | ((with_reducible refine hK _ ?_); clear hK K) | (with_reducible first | refine And.intro ?_ ?_ | refine blk_other (by decide) ?_ | refine inR_mk ?_ ?_) | ((with_reducible refine evCall_at 146 ?_); refine EvCall.mq (h1) cal_l01Next [(0,0)] [] ?_; all_goals try simp only [go_sem, simprocAttr]) | (refine fun (hc : (_ : Bool) = _) => ?_; try simp only [hcS] at hc))
    all_goals try exact om_
    (first | refine ret_auto ?_ | refine ret_auto' ?_); simp only [go_sem, simprocAttr, Tryz.f237]
    rfl
  · repeat' (first | with_reducible refine St.f ?_ | ((with_reducible refine V_cond ?_); simp only [go_sem, simprocAttr]) | ((refine V_rg ?_); intro K hK) | ((first | with_reducible refine So.f ?_ | ((with_reducible apply evOps_g); rfl)); intro K hK; simp (contextual := true) only [go_sem, simprocAttr]) | ((with_reducible refine hK _ ?_); clear hK K) | (with_reducible first | refine And.intro ?_ ?_ | refine blk_other (by decide) ?_ | refine inR_mk ?_ ?_) | ((with_reducible refine evCall_at 146 ?_); refine EvCall.mq (h1) cal_l01Next [(0,0)] [] ?_; all_goals try simp only [go_sem, simprocAttr]) | (refine fun (hc : (_ : Bool) = _) => ?_; try simp only [hcS] at hc))
    all_goals try exact om_
    (first | refine ret_auto ?_ | refine ret_auto' ?_); simp only [go_sem, simprocAttr, Tryz.f237]
    rfl
  · repeat' (first | with_reducible refine St.f ?_ | ((with_reducible refine V_cond ?_); simp only [go_sem, simprocAttr]) | ((refine V_rg ?_); intro K hK) | ((first | with_reducible refine So.f ?_ | ((with_reducible apply evOps_g); rfl)); intro K hK; simp (contextual := true) only [go_sem, simprocAttr]) | ((with_reducible refine hK _ ?_); clear hK K) | (with_reducible first | refine And.intro ?_ ?_ | refine blk_other (by decide) ?_ | refine inR_mk ?_ ?_) | ((with_reducible refine evCall_at 146 ?_); refine EvCall.mq (h1) cal_l01Next [(0,0)] [] ?_; all_goals try simp only [go_sem, simprocAttr]) | (refine fun (hc : (_ : Bool) = _) => ?_; try simp only [hcS] at hc))
    all_goals try exact om_
    (first | refine ret_auto ?_ | refine ret_auto' ?_); simp only [go_sem, simprocAttr, Tryz.f237]
    rfl
  · repeat' (first | with_reducible refine St.f ?_ | ((with_reducible refine V_cond ?_); simp only [go_sem, simprocAttr]) | ((refine V_rg ?_); intro K hK) | ((first | with_reducible refine So.f ?_ | ((with_reducible apply evOps_g); rfl)); intro K hK; simp (contextual := true) only [go_sem, simprocAttr]) | ((with_reducible refine hK _ ?_); clear hK K) | (with_reducible first | refine And.intro ?_ ?_ | refine blk_other (by decide) ?_ | refine inR_mk ?_ ?_) | ((with_reducible refine evCall_at 146 ?_); refine EvCall.mq (h1) cal_l01Next [(0,0)] [] ?_; all_goals try simp only [go_sem, simprocAttr]) | (refine fun (hc : (_ : Bool) = _) => ?_; try simp only [hcS] at hc))
    all_goals try exact om_
    (first | refine ret_auto ?_ | refine ret_auto' ?_); simp only [go_sem, simprocAttr, Tryz.f237]
    rfl
  · repeat' (first | with_reducible refine St.f ?_ | ((with_reducible refine V_cond ?_); simp only [go_sem, simprocAttr]) | ((refine V_rg ?_); intro K hK) | ((first | with_reducible refine So.f ?_ | ((with_reducible apply evOps_g); rfl)); intro K hK; simp (contextual := true) only [go_sem, simprocAttr]) | ((with_reducible refine hK _ ?_); clear hK K) | (with_reducible first | refine And.intro ?_ ?_ | refine blk_other (by decide) ?_ | refine inR_mk ?_ ?_) | ((with_reducible refine evCall_at 146 ?_); refine EvCall.mq (h1) cal_l01Next [(0,0)] [] ?_; all_goals try simp only [go_sem, simprocAttr]) | (refine fun (hc : (_ : Bool) = _) => ?_; try simp only [hcS] at hc))
    all_goals try exact om_
    (first | refine ret_auto ?_ | refine ret_auto' ?_); simp only [go_sem, simprocAttr, Tryz.f237]
    rfl
  · repeat' (first | with_reducible refine St.f ?_ | ((with_reducible refine V_cond ?_); simp only [go_sem, simprocAttr]) | ((refine V_rg ?_); intro K hK) | ((first | with_reducible refine So.f ?_ | ((with_reducible apply evOps_g); rfl)); intro K hK; simp (contextual := true) only [go_sem, simprocAttr]) | ((with_reducible refine hK _ ?_); clear hK K) | (with_reducible first | refine And.intro ?_ ?_ | refine blk_other (by decide) ?_ | refine inR_mk ?_ ?_) | ((with_reducible refine evCall_at 146 ?_); refine EvCall.mq (h1) cal_l01Next [(0,0)] [] ?_; all_goals try simp only [go_sem, simprocAttr]) | (refine fun (hc : (_ : Bool) = _) => ?_; try simp only [hcS] at hc))
    all_goals try exact om_
    (first | refine ret_auto ?_ | refine ret_auto' ?_); simp only [go_sem, simprocAttr, Tryz.f237]
    rfl
  · repeat' (first | with_reducible refine St.f ?_ | ((with_reducible refine V_cond ?_); simp only [go_sem, simprocAttr]) | ((refine V_rg ?_); intro K hK) | ((first | with_reducible refine So.f ?_ | ((with_reducible apply evOps_g); rfl)); intro K hK; simp (contextual := true) only [go_sem, simprocAttr]) | ((with_reducible refine hK _ ?_); clear hK K) | (with_reducible first | refine And.intro ?_ ?_ | refine blk_other (by decide) ?_ | refine inR_mk ?_ ?_) | ((with_reducible refine evCall_at 146 ?_); refine EvCall.mq (h1) cal_l01Next [(0,0)] [] ?_; all_goals try simp only [go_sem, simprocAttr]) | (refine fun (hc : (_ : Bool) = _) => ?_; try simp only [hcS] at hc))
    all_goals try exact om_
    (first | refine ret_auto ?_ | refine ret_auto' ?_); simp only [go_sem, simprocAttr, Tryz.f237]
    rfl
  · repeat' (first | with_reducible refine St.f ?_ | ((with_reducible refine V_cond ?_); simp only [go_sem, simprocAttr]) | ((refine V_rg ?_); intro K hK) | ((first | with_reducible refine So.f ?_ | ((with_reducible apply evOps_g); rfl)); intro K hK; simp (contextual := true) only [go_sem, simprocAttr]) | ((with_reducible refine hK _ ?_); clear hK K) | (with_reducible first | refine And.intro ?_ ?_ | refine blk_other (by decide) ?_ | refine inR_mk ?_ ?_) | ((with_reducible refine evCall_at 146 ?_); refine EvCall.mq (h1) cal_l01Next [(0,0)] [] ?_; all_goals try simp only [go_sem, simprocAttr]) | (refine fun (hc : (_ : Bool) = _) => ?_; try simp only [hcS] at hc))
    all_goals try exact om_
    (first | refine ret_auto ?_ | refine ret_auto' ?_); simp only [go_sem, simprocAttr, Tryz.f237]
    rfl
theorem cal_l03Monoid : Callable Tryz.prog 236 := ⟨_, Tryz.func236, rfl, rfl⟩
theorem sp_l03Monoid {t : List (List Int)} (hl : t.length ≤ 8) (hr : ∀ i, i < t.length → (t.getD i []).length ≤ 8) : Spec Tryz.prog 236 [.bor [] (intss t)] [] (.agg [iv (moC t).ob, .sl 0, .sl 1, .sl 2, .sl 3]) [(0, ⟨1, .arr (ints (moC t).fr)⟩), (1, ⟨1, .arr (ints (moC t).to)⟩), (2, ⟨1, .arr (ints (moC t).id)⟩), (3, ⟨1, .arr (intss (moC t).co)⟩)] := by
  have e : moC t = ⟨1, List.replicate t.length 0, List.replicate t.length 0, [0], t⟩ := rfl
  rw [e]
  refine spec_of_V (E := TE) 0 Tryz.func236 rfl (by simp [Tryz.f236]) fun X hn hX => ?_
  have hr2 : ∀ i, i < t.length → (t.getD i []).length ≤ 1048576 := fun i hi => by have := hr i hi; omega
  repeat' (first | with_reducible refine St.f ?_ | ((with_reducible refine V_cond ?_); simp only [go_sem, simprocAttr]) | ((first | refine V_rg ?_ | refine V_dr ?_); intro K hK) | ((first | with_reducible refine So.f ?_ | ((with_reducible apply evOps_g); rfl) | ((with_reducible apply evOpsD_g); rfl)); intro K hK; simp (contextual := true) only [go_sem, simprocAttr]) | ((with_reducible refine evOpsD_nil ?_ ?_); kernel_rfl) | ((with_reducible refine hK _ ?_); clear hK K) | (with_reducible first | refine And.intro ?_ ?_ | refine inR_mk ?_ ?_) | ((with_reducible refine evCall_at 199 ?_); refine EvCall.rq (a := (sp_l01Own2 (l:=t) ?_ ?_)) (b := cal_l01Own2) (c := ?_); all_goals try simp only [go_sem, simprocAttr]) | (refine fun (hc : (_ : Bool) = _) => ?_; try simp only [hcS] at hc))
  all_goals try exact om_
  all_goals try exact hr2
  (first | refine ret_auto ?_ | refine ret_auto' ?_); simp only [go_sem, simprocAttr, Tryz.f236]
theorem cal_l02Split : Callable Tryz.prog 238 := ⟨_, Tryz.func238, rfl, rfl⟩
theorem sp_l02Split : Spec Tryz.prog 238 [] [] (.agg [iv splC.ob, .sl 0, .sl 1, .sl 2, .sl 3]) [(0, ⟨1, .arr (ints splC.fr)⟩), (1, ⟨1, .arr (ints splC.to)⟩), (2, ⟨1, .arr (ints splC.id)⟩), (3, ⟨1, .arr (intss splC.co)⟩)] := by
  refine spec_of_V (E := TE) 0 Tryz.func238 rfl (by simp [Tryz.f238]) fun X hn hX => ?_
  repeat' (first | with_reducible refine St.f ?_ | ((with_reducible refine V_cond ?_); simp only [go_sem, simprocAttr]) | ((refine V_rg ?_); intro K hK) | ((first | with_reducible refine So.f ?_ | ((with_reducible apply evOps_g); rfl)); intro K hK; simp (contextual := true) only [go_sem, simprocAttr]) | ((with_reducible refine hK _ ?_); clear hK K) | (with_reducible first | refine And.intro ?_ ?_ | refine inR_mk ?_ ?_) | (refine fun (hc : (_ : Bool) = _) => ?_; try simp only [hcS] at hc))
  all_goals try exact om_
  (first | refine ret_auto ?_ | refine ret_auto' ?_); simp only [go_sem, simprocAttr, Tryz.f238]
  and_intros <;> rfl
def opT (c : Cat) (k : Nat) : List (List Int) := (List.range k).map fun f => opR c f c.fr.length
theorem opT_len {c : Cat} {k : Nat} : (opT c k).length = k := by unfold opT; rw [List.length_map, List.length_range]
theorem opR_len {c : Cat} {f k : Nat} : (opR c f k).length = k := by unfold opR; rw [List.length_map, List.length_range]
theorem opT_succ {c : Cat} {k : Nat} : opT c (k + 1) = opT c k ++ [opR c k c.fr.length] := by unfold opT; rw [List.range_succ, List.map_append]; rfl
theorem opR_succ {c : Cat} {f k : Nat} : opR c f (k + 1) = opR c f k ++ [(c.co.getD k []).getD f 0] := by unfold opR; rw [List.range_succ, List.map_append]; simp [Cat.C]
theorem opT_zero {c : Cat} : opT c 0 = [] := rfl
theorem opR_zero {c : Cat} {f : Nat} : opR c f 0 = [] := rfl
attribute [local go_sem] opT_zero opR_zero
theorem cal_l03Op : Callable Tryz.prog 239 := ⟨_, Tryz.func239, rfl, rfl⟩
theorem sp_l03Op {c : Cat} (sc : Shape c) : Spec Tryz.prog 239 [catV c] [] (.agg [iv (opC c).ob, .sl 0, .sl 1, .sl 2, .sl 3]) [(0, ⟨1, .arr (ints (opC c).fr)⟩), (1, ⟨1, .arr (ints (opC c).to)⟩), (2, ⟨1, .arr (ints (opC c).id)⟩), (3, ⟨1, .arr (intss (opC c).co)⟩)] := by
  have e : opC c = ⟨c.ob, c.to, c.fr, c.id, opT c c.fr.length⟩ := rfl
  rw [e]
  have c8 := sc.ob8
  have m40 := sc.m40
  have ctl := sc.tol
  have cil := sc.idl
  have ccl := sc.col
  refine spec_of_V (E := TE) 0 Tryz.func239 rfl (by simp [Tryz.f239]) fun X hn hX => ?_
  repeat' (first | with_reducible refine St.f ?_ | ((with_reducible refine V_cond ?_); simp only [go_sem, simprocAttr]) | ((first | refine V_rg ?_ | refine V_dr ?_); intro K hK) | ((first | with_reducible refine So.f ?_ | ((with_reducible apply evOps_g); rfl) | ((with_reducible apply evOpsD_g); rfl)); intro K hK; simp (contextual := true) only [go_sem, simprocAttr]) | ((with_reducible refine evOpsD_nil ?_ ?_); kernel_rfl) | ((with_reducible refine hK _ ?_); clear hK K) | (with_reducible first | refine And.intro ?_ ?_ | refine blk_other (by decide) ?_ | refine inR_mk ?_ ?_) | ((with_reducible refine evCall_at 170 ?_); refine EvCall.rq (a := (sp_l01Own (l:=c.to) ?_)) (b := cal_l01Own) (c := ?_); all_goals try simp only [go_sem, simprocAttr]) | ((with_reducible refine evCall_at 170 ?_); refine EvCall.rq (a := (sp_l01Own (l:=c.fr) ?_)) (b := cal_l01Own) (c := ?_); all_goals try simp only [go_sem, simprocAttr]) | ((with_reducible refine evCall_at 170 ?_); refine EvCall.rq (a := (sp_l01Own (l:=c.id) ?_)) (b := cal_l01Own) (c := ?_); all_goals try simp only [go_sem, simprocAttr]) | (refine fun (hc : (_ : Bool) = _) => ?_; try simp only [hcS] at hc))
  all_goals try exact om_
  refine V_loopK (G := {f : Nat // f ≤ c.fr.length ∧ (True)}) (fun ⟨f, _⟩ => [(4, iv f), (1, .ptr 0 0), (2, .ptr 1 0), (3, .ptr 6 0)]) [] (fun ⟨f, _⟩ => [(6, ⟨1, .box [iv c.ob, .sl 2, .sl 3, .sl 4, .sl 5]⟩), (2, ⟨1, .arr (ints c.to)⟩), (3, ⟨1, .arr (ints c.fr)⟩), (4, ⟨1, .arr (ints c.id)⟩), (5, ⟨1, .arr (intss (opT c f))⟩)]) [2, 3, 4, 5, 6] (fun zz => c.fr.length - zz.1) ⟨0, Nat.zero_le _, by first | trivial | simp⟩ ?_ ?_
  · exact Imp.au hX
  rintro ⟨f, hif, hwf⟩
  simp only [go_sem, simprocAttr]
  have l1 := opT_len (c := c) (k := f)
  rcases Nat.lt_or_ge f c.fr.length with hf1 | hf1
  · repeat' (first | with_reducible refine St.f ?_ | ((with_reducible refine V_cond ?_); simp only [go_sem, simprocAttr]) | ((first | refine V_rg ?_ | refine V_dr ?_); intro K hK) | ((first | with_reducible refine So.f ?_ | ((with_reducible apply evOps_g); rfl) | ((with_reducible apply evOpsD_g); rfl)); intro K hK; simp (contextual := true) only [go_sem, simprocAttr]) | ((with_reducible refine evOpsD_nil ?_ ?_); kernel_rfl) | ((with_reducible refine hK _ ?_); clear hK K) | (with_reducible first | refine And.intro ?_ ?_ | refine blk_other (by decide) ?_ | refine inR_mk ?_ ?_) | (refine fun (hc : (_ : Bool) = _) => ?_; try simp only [hcS] at hc))
    all_goals try exact om_
    all_goals try (exfalso; omega)
    refine V_loopK (G := {g : Nat // g ≤ c.fr.length ∧ (True)}) (fun ⟨g, _⟩ => [(6, iv g), (1, .ptr 0 0), (2, .ptr 1 0), (3, .ptr 6 0), (4, iv f), (5, .sl 7)]) [] (fun ⟨g, _⟩ => [(6, ⟨1, .box [iv c.ob, .sl 2, .sl 3, .sl 4, .sl 5]⟩), (2, ⟨1, .arr (ints c.to)⟩), (3, ⟨1, .arr (ints c.fr)⟩), (4, ⟨1, .arr (ints c.id)⟩), (5, ⟨1, .arr (intss (opT c f))⟩), (7, ⟨1, .arr (ints (opR c f g))⟩)]) [2, 3, 4, 5, 6, 7] (fun zz => c.fr.length - zz.1) ⟨0, Nat.zero_le _, by first | trivial | simp⟩ ?_ ?_
    · exact Imp.au hX
    rintro ⟨g, hig, hwg⟩
    simp only [go_sem, simprocAttr]
    have l2 := opR_len (c := c) (f := f) (k := g)
    rcases Nat.lt_or_ge g c.fr.length with hg1 | hg1
    · have lr := (sc.coe g hg1).1
      have e1 := opR_succ (c := c) (f := f) (k := g)
      repeat' (first | with_reducible refine St.f ?_ | ((with_reducible refine V_cond ?_); simp only [go_sem, simprocAttr]) | ((first | refine V_rg ?_ | refine V_dr ?_); intro K hK) | ((first | with_reducible refine So.f ?_ | ((with_reducible apply evOps_g); rfl) | ((with_reducible apply evOpsD_g); rfl)); intro K hK; simp (contextual := true) only [go_sem, simprocAttr]) | ((with_reducible refine evOpsD_nil ?_ ?_); kernel_rfl) | ((with_reducible refine hK _ ?_); clear hK K) | (with_reducible first | refine And.intro ?_ ?_ | refine blk_other (by decide) ?_ | refine inR_mk ?_ ?_) | (refine fun (hc : (_ : Bool) = _) => ?_; try simp only [hcS] at hc))
      all_goals try exact om_
      all_goals try (exfalso; omega)
      refine ⟨⟨g + 1, by omega, (by (trivial))⟩, by simp only; omega, Imp.auto hX (by simp only [go_sem, simprocAttr, e1])⟩
    · obtain rfl : g = c.fr.length := by omega
      have e1 := opT_succ (c := c) (k := f)
      repeat' (first | with_reducible refine St.f ?_ | ((with_reducible refine V_cond ?_); simp only [go_sem, simprocAttr]) | ((first | refine V_rg ?_ | refine V_dr ?_); intro K hK) | ((first | with_reducible refine So.f ?_ | ((with_reducible apply evOps_g); rfl) | ((with_reducible apply evOpsD_g); rfl)); intro K hK; simp (contextual := true) only [go_sem, simprocAttr]) | ((with_reducible refine evOpsD_nil ?_ ?_); kernel_rfl) | ((with_reducible refine hK _ ?_); clear hK K) | (with_reducible first | refine And.intro ?_ ?_ | refine blk_other (by decide) ?_ | refine inR_mk ?_ ?_) | (refine fun (hc : (_ : Bool) = _) => ?_; try simp only [hcS] at hc))
      all_goals try exact om_
      all_goals try (exfalso; omega)
      refine ⟨⟨f + 1, by omega, (by (trivial))⟩, by simp only; omega, Imp.auto hX (by simp only [go_sem, simprocAttr, e1])⟩
  · obtain rfl : f = c.fr.length := by omega
    repeat' (first | with_reducible refine St.f ?_ | ((with_reducible refine V_cond ?_); simp only [go_sem, simprocAttr]) | ((first | refine V_rg ?_ | refine V_dr ?_); intro K hK) | ((first | with_reducible refine So.f ?_ | ((with_reducible apply evOps_g); rfl) | ((with_reducible apply evOpsD_g); rfl)); intro K hK; simp (contextual := true) only [go_sem, simprocAttr]) | ((with_reducible refine evOpsD_nil ?_ ?_); kernel_rfl) | ((with_reducible refine hK _ ?_); clear hK K) | (with_reducible first | refine And.intro ?_ ?_ | refine blk_other (by decide) ?_ | refine inR_mk ?_ ?_) | (refine fun (hc : (_ : Bool) = _) => ?_; try simp only [hcS] at hc))
    all_goals try exact om_
    all_goals try (exfalso; omega)
    (first | refine ret_auto ?_ | refine ret_auto' ?_); simp only [go_sem, simprocAttr, Tryz.f239]
end Go.Eng
