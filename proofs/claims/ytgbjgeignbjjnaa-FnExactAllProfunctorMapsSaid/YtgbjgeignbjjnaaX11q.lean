/- AllProfunctorMaps, by the program. -/
import Derived.Test.YtgbjgeignbjjnaaX09q
import Derived.Test.YtgbjgeignbjjnaaX10q
import Derived.Test.YtgbjgeignbjjnaaEngI4q
set_option linter.unusedSimpArgs false
set_option linter.unusedVariables false
set_option maxRecDepth 100000
set_option maxHeartbeats 16000000
namespace Go.Eng
open Go Go.Proofs Go.Cats
def apL (p : Prof) (L : List (List Int)) (n : Nat) : List (List (List (List Int))) := (List.range n).map fun i => spL p (L.getD i [])
def _root_.Go.Cats.pmP (p q : Prof) : List (List (List (List Int))) := apL p (pmL p q) (pmL p q).length
section
variable {p q : Prof} {L : List (List Int)} {n : Nat}
theorem apL_zero : apL p L 0 = [] := rfl
theorem apL_len : (apL p L n).length = n := by unfold apL; rw [List.length_map, List.length_range]
theorem apL_succ : apL p L (n + 1) = apL p L n ++ [spL p (L.getD n [])] := by unfold apL; rw [List.range_succ, List.map_append, List.map_singleton]
theorem pmL_len (s : PrShape p) {A : List Int} (h : A ∈ pmL p q) : (A.length : Int) = p.num := by
  have h1 := (mem_extW.1 h).1
  rw [(mem_lexP.1 h1).1, natS_len, szA_len s]
theorem pmL_at (s : PrShape p) {i : Nat} (h : i < (pmL p q).length) : (((pmL p q).getD i []).length : Int) = p.num :=
  pmL_len s (q := q) (by rw [List.getD_eq_getElem?_getD, List.getElem?_eq_getElem h]; exact List.getElem_mem h)
end
noncomputable def apLC (p : Prof) (A : List Int) : LC := ⟨[.bptr [] [ints A], .bptr [] [intss (p.stL p.src.ob.toNat)], .bptr [] (profD p)], rfl⟩
@[go_sem] theorem apLC_l (p : Prof) (A : List Int) : (apLC p A).l = [.bptr [] [ints A], .bptr [] [intss (p.stL p.src.ob.toNat)], .bptr [] (profD p)] := rfl
attribute [local go_sem] apL_zero
theorem cal_AllProfunctorMaps : Callable Try.prog 7 := ⟨_, Try.func7, rfl, rfl⟩
theorem sp_AllProfunctorMaps_bad {p q : Prof} {code : Int} (hp : PrB p) (hq : PrB q) (h : AlC p q code) (h0 : code ≠ 0) : Spec Try.prog 7 [profV p, profV q] [] (.tup [.v (.slice none 0 0), iv code]) [] := by
  have hpa := sp_parallelProfunctors_k hp hq h
  refine spec_of_V (E := TE) 0 Try.func7 rfl (by simp [Try.f7]) fun X hn hX => ?_
  repeat' (first | (with_reducible first | refine V_seq ?_ | refine V_block ?_ | refine V_skip ?_ | refine V_ret ?_ | refine V_exit ?_) | ((with_reducible refine V_cond ?_); simp only [go_sem, simprocAttr]) | ((refine V_region (by rw [hn]; rfl) ?_); intro K hK) | ((first | with_reducible refine evOps_n ?_ | ((with_reducible apply evOps_g); rfl)); intro K hK; simp (contextual := true) only [go_sem, simprocAttr]) | with_reducible refine evOps_nil ?_ | ((with_reducible refine hK _ ?_); clear hK K) | (with_reducible first | refine And.intro ?_ ?_ | refine nxt_n ?_ | refine nxt_r ?_ | refine nxt_e ?_ | refine blk_n ?_ | refine blk_r ?_ | refine blk_same ?_ | refine blk_other (by decide) ?_ | refine noG_n ?_ | refine noG_r ?_ | refine noG_e ?_ | refine inR_mk ?_ ?_) | ((with_reducible refine evCall_at 23 ?_); refine EvCall.mk (hpa) cal_parallelProfunctors [] [0,1] (by simp [go_sem] <;> (repeat' (first | rfl | constructor))) (by simp [go_sem] <;> (repeat' (first | rfl | constructor))) ?_; all_goals try simp only [go_sem, simprocAttr]) | (refine fun (hc : (_ : Bool) = _) => ?_; try simp only [hcS] at hc))
  all_goals try exact om_
  · (first | refine ret_auto ?_ | refine ret_auto' ?_); simp only [go_sem, simprocAttr, Try.f7]
  all_goals omega
theorem sp_AllProfunctorMaps_big {p q : Prof} (hp : PrB p) (hq : PrB q) (h : AlC p q 0) (s : PrShape p) (hbig : 64 < p.num) : Spec Try.prog 7 [profV p, profV q] [] (.tup [.v (.slice none 0 0), iv 3]) [] := by
  have hpa := sp_parallelProfunctors_k hp hq h
  have hst := sp_Profunctor_starts s
  refine spec_of_V (E := TE) 0 Try.func7 rfl (by simp [Try.f7]) fun X hn hX => ?_
  repeat' (first | (with_reducible first | refine V_seq ?_ | refine V_block ?_ | refine V_skip ?_ | refine V_ret ?_ | refine V_exit ?_) | ((with_reducible refine V_cond ?_); simp only [go_sem, simprocAttr]) | ((refine V_region (by rw [hn]; rfl) ?_); intro K hK) | ((first | with_reducible refine evOps_n ?_ | ((with_reducible apply evOps_g); rfl)); intro K hK; simp (contextual := true) only [go_sem, simprocAttr]) | with_reducible refine evOps_nil ?_ | ((with_reducible refine hK _ ?_); clear hK K) | (with_reducible first | refine And.intro ?_ ?_ | refine nxt_n ?_ | refine nxt_r ?_ | refine nxt_e ?_ | refine blk_n ?_ | refine blk_r ?_ | refine blk_same ?_ | refine blk_other (by decide) ?_ | refine noG_n ?_ | refine noG_r ?_ | refine noG_e ?_ | refine inR_mk ?_ ?_) | ((with_reducible refine evCall_at 23 ?_); refine EvCall.mk (hpa) cal_parallelProfunctors [] [0,1] (by simp [go_sem] <;> (repeat' (first | rfl | constructor))) (by simp [go_sem] <;> (repeat' (first | rfl | constructor))) ?_; all_goals try simp only [go_sem, simprocAttr]) | ((with_reducible refine evCall_at 24 ?_); refine EvCall.mk (hst) cal_Profunctor_starts [(0,2)] [0] (by simp [go_sem] <;> (repeat' (first | rfl | constructor))) (by simp [go_sem] <;> (repeat' (first | rfl | constructor))) ?_; all_goals try simp only [go_sem, simprocAttr]) | (refine fun (hc : (_ : Bool) = _) => ?_; try simp only [hcS] at hc))
  all_goals try exact om_
  all_goals try ((first | refine ret_auto ?_ | refine ret_auto' ?_); simp only [go_sem, simprocAttr, Try.f7])
  all_goals first | contradiction | omega
theorem sp_AllProfunctorMaps_yes {p q : Prof} (hp : PrB p) (hq : PrB q) (h : AlC p q 0) (s : PrShape p) (t : PrShape q) (e1 : p.src = q.src) (e2 : p.tgt = q.tgt) (hbig : p.num ≤ 64) (hD : (pmL p q).length ≤ 200) : Spec Try.prog 7 [profV p, profV q] [] (.tup [.sl 0, iv 0]) [(0, ⟨1, .arr (intssss (pmP p q))⟩)] := by
  have hpa := sp_parallelProfunctors_k hp hq h
  have hst := sp_Profunctor_starts s
  have num := num_bd s
  have hsl := szA_len (q := q) s
  have hin := szA_in (p := p) t e1 e2
  refine spec_of_V (E := TE) 0 Try.func7 rfl (by simp [Try.f7]) fun X hn hX => ?_
  repeat' (first | (refine V_nameCell 7 1 11 _ _ q.bef rfl rfl fun XB nb pb => ?_; simp only [go_sem, simprocAttr, List.set_cons_succ, List.set_cons_zero]) | (refine V_nameCell 7 1 12 _ _ q.beh rfl rfl fun XH nh ph => ?_; simp only [go_sem, simprocAttr, List.set_cons_succ, List.set_cons_zero]) | (with_reducible first | refine V_seq ?_ | refine V_block ?_ | refine V_skip ?_ | refine V_ret ?_ | refine V_exit ?_) | ((with_reducible refine V_cond ?_); simp only [go_sem, simprocAttr]) | ((refine V_region (by rw [hn]; rfl) ?_); intro K hK) | ((first | with_reducible refine evOps_n ?_ | ((with_reducible apply evOps_g); rfl)); intro K hK; simp (contextual := true) only [go_sem, simprocAttr]) | with_reducible refine evOps_nil ?_ | ((with_reducible refine hK _ ?_); clear hK K) | (with_reducible first | refine And.intro ?_ ?_ | refine nxt_n ?_ | refine nxt_r ?_ | refine nxt_e ?_ | refine blk_n ?_ | refine blk_r ?_ | refine blk_same ?_ | refine blk_other (by decide) ?_ | refine noG_n ?_ | refine noG_r ?_ | refine noG_e ?_ | refine inR_mk ?_ ?_) | ((with_reducible refine evCall_at 23 ?_); refine EvCall.mk (hpa) cal_parallelProfunctors [] [0,1] (by simp [go_sem] <;> (repeat' (first | rfl | constructor))) (by simp [go_sem] <;> (repeat' (first | rfl | constructor))) ?_; all_goals try simp only [go_sem, simprocAttr]) | ((with_reducible refine evCall_at 24 ?_); refine EvCall.mk (hst) cal_Profunctor_starts [(0,2)] [0] (by simp [go_sem] <;> (repeat' (first | rfl | constructor))) (by simp [go_sem] <;> (repeat' (first | rfl | constructor))) ?_; all_goals try simp only [go_sem, simprocAttr]) | (refine fun (hc : (_ : Bool) = _) => ?_; try simp only [hcS] at hc))
  all_goals try exact om_
  all_goals try (exfalso; omega)
  have hmr := sp_Profunctor_mapRules s t e1 e2 nb nh
  have hrd : RdOk X (RLent (rvA p q XB XH)) := RLent.ok (rvA_lent t e1 e2 pb ph)
  have hrl := rvA_len (q := q) (XB := XB) (XH := XH) s
  have hsol := sp_solve_n (rvs := rvA p q XB XH) (Sz := szA p q) (M := 200) (by rw [rvA_1]; exact ruA_w s t e1 e2) (by omega) (by omega) (by omega) hin
  rw [rvA_1, show allL (ruA p q) (natS (szA p q)) = pmL p q from rfl, eat_L _ _ (by simp), List.nil_append, decide_eq_true (by omega), List.take_of_length_le (by omega)] at hsol
  repeat' (first | (refine V_regionX (id := 8) (by rw [hn]; rfl) ?_; intro K hK) | (refine evOpsX_h ?_; intro K hK; refine HkX.callR (f := 26) (caps := []) hrd hsol cal_solve [(0,6)] [4,5] (by simp only [go_sem, simprocAttr]) (by simp [go_sem] <;> first | rfl | exact ⟨rfl, rfl⟩ | exact ⟨rfl, rfl, rfl⟩) (by simp [go_sem] <;> first | rfl | exact ⟨rfl, rfl⟩ | exact ⟨rfl, rfl, rfl⟩) ?_; all_goals try simp only [go_sem, simprocAttr]) | ((with_reducible refine evOpsX_n ?_); intro K hK; simp (contextual := true) only [go_sem, simprocAttr]) | (with_reducible refine evOpsX_nil ?_) | (with_reducible first | refine V_seq ?_ | refine V_block ?_ | refine V_skip ?_ | refine V_ret ?_ | refine V_exit ?_) | ((with_reducible refine V_cond ?_); simp only [go_sem, simprocAttr]) | ((refine V_region (by rw [hn]; rfl) ?_); intro K hK) | ((first | with_reducible refine evOps_n ?_ | ((with_reducible apply evOps_g); rfl)); intro K hK; simp (contextual := true) only [go_sem, simprocAttr]) | with_reducible refine evOps_nil ?_ | ((with_reducible refine hK _ ?_); clear hK K) | (with_reducible first | refine And.intro ?_ ?_ | refine nxt_n ?_ | refine nxt_r ?_ | refine nxt_e ?_ | refine blk_n ?_ | refine blk_r ?_ | refine blk_same ?_ | refine blk_other (by decide) ?_ | refine noG_n ?_ | refine noG_r ?_ | refine noG_e ?_ | refine inR_mk ?_ ?_) | ((with_reducible refine evCall_at 25 ?_); refine EvCall.mk (hmr) cal_Profunctor_mapRules [(0,4),(1,5)] [0,1] (by simp [go_sem] <;> (repeat' (first | rfl | constructor))) (by simp [go_sem] <;> (repeat' (first | rfl | constructor))) ?_; all_goals try simp only [go_sem, simprocAttr]) | (refine fun (hc : (_ : Bool) = _) => ?_; try simp only [hcS] at hc))
  all_goals try exact om_
  refine V_loopK (G := {i : Nat // i ≤ (pmL p q).length ∧ (True)}) (fun ⟨i, _⟩ => [(41, iv i), (13, .sl 7), (39, .sl 6), (10, .sl 5), (9, .sl 4), (3, .ptr 1 0)]) [2, 4, 5, 7, 40] (fun ⟨i, _⟩ => [(7, ⟨1, .arr (intssss (apL p (pmL p q) i))⟩)]) [7] (fun zz => (pmL p q).length - zz.1) ⟨0, Nat.zero_le _, by first | trivial | simp⟩ ?_ ?_
  · exact Imp.au hX
  rintro ⟨i, hii, hwi⟩
  simp only [go_sem, simprocAttr]
  have al := apL_len (p := p) (L := pmL p q) (n := i)
  rcases Nat.lt_or_ge i (pmL p q).length with hli | hgi
  · have hal := pmL_at s hli
    have hpl := sp_places2 s (cp := apLC p ((pmL p q).getD i [])) (R := spE p ((pmL p q).getD i [])) cal_AllProfunctorMaps_1 (fun x y hx hy => sp_AllProfunctorMaps_1 s hal hx hy)
    rw [show gdL (spE p ((pmL p q).getD i [])) p.tgt.ob.toNat p.src.ob.toNat = spL p ((pmL p q).getD i []) from rfl] at hpl
    have e1 := apL_succ (p := p) (L := pmL p q) (n := i)
    repeat' (first | (with_reducible first | refine V_seq ?_ | refine V_block ?_ | refine V_skip ?_ | refine V_ret ?_ | refine V_exit ?_) | ((with_reducible refine V_cond ?_); simp only [go_sem, simprocAttr]) | ((refine V_region (by rw [hn]; rfl) ?_); intro K hK) | ((first | with_reducible refine evOps_n ?_ | ((with_reducible apply evOps_g); rfl)); intro K hK; simp (contextual := true) only [go_sem, simprocAttr]) | with_reducible refine evOps_nil ?_ | ((with_reducible refine hK _ ?_); clear hK K) | (with_reducible first | refine And.intro ?_ ?_ | refine nxt_n ?_ | refine nxt_r ?_ | refine nxt_e ?_ | refine blk_n ?_ | refine blk_r ?_ | refine blk_same ?_ | refine blk_other (by decide) ?_ | refine noG_n ?_ | refine noG_r ?_ | refine noG_e ?_ | refine inR_mk ?_ ?_) | ((with_reducible refine evCall_at 27 ?_); refine EvCall.mk (hpl) cal_places2 [(0,9)] [0,8,3,2,6] (by simp [go_sem] <;> (repeat' (first | rfl | constructor))) (by simp [go_sem] <;> (repeat' (first | rfl | constructor))) ?_; all_goals try simp only [go_sem, simprocAttr]) | (refine fun (hc : (_ : Bool) = _) => ?_; try simp only [hcS] at hc))
    all_goals try exact om_
    refine ⟨⟨i + 1, by omega, (by trivial)⟩, by simp only; omega, Imp.auto hX (by simp only [go_sem, simprocAttr, e1])⟩
  · have ei : i = (pmL p q).length := by omega
    subst ei
    rw [show apL p (pmL p q) (pmL p q).length = pmP p q from rfl]
    repeat' (first | (with_reducible first | refine V_seq ?_ | refine V_block ?_ | refine V_skip ?_ | refine V_ret ?_ | refine V_exit ?_) | ((with_reducible refine V_cond ?_); simp only [go_sem, simprocAttr]) | ((refine V_region (by rw [hn]; rfl) ?_); intro K hK) | ((first | with_reducible refine evOps_n ?_ | ((with_reducible apply evOps_g); rfl)); intro K hK; simp (contextual := true) only [go_sem, simprocAttr]) | with_reducible refine evOps_nil ?_ | ((with_reducible refine hK _ ?_); clear hK K) | (with_reducible first | refine And.intro ?_ ?_ | refine nxt_n ?_ | refine nxt_r ?_ | refine nxt_e ?_ | refine blk_n ?_ | refine blk_r ?_ | refine blk_same ?_ | refine blk_other (by decide) ?_ | refine noG_n ?_ | refine noG_r ?_ | refine noG_e ?_ | refine inR_mk ?_ ?_) | (refine fun (hc : (_ : Bool) = _) => ?_; try simp only [hcS] at hc))
    all_goals try exact om_
    (first | refine ret_auto ?_ | refine ret_auto' ?_); simp only [go_sem, simprocAttr, Try.f7]
theorem sp_AllProfunctorMaps_many {p q : Prof} (hp : PrB p) (hq : PrB q) (h : AlC p q 0) (s : PrShape p) (t : PrShape q) (e1 : p.src = q.src) (e2 : p.tgt = q.tgt) (hbig : p.num ≤ 64) (hD : 200 < (pmL p q).length) : Spec Try.prog 7 [profV p, profV q] [] (.tup [.v (.slice none 0 0), iv 3]) [] := by
  have hpa := sp_parallelProfunctors_k hp hq h
  have hst := sp_Profunctor_starts s
  have num := num_bd s
  have hsl := szA_len (q := q) s
  have hin := szA_in (p := p) t e1 e2
  refine spec_of_V (E := TE) 0 Try.func7 rfl (by simp [Try.f7]) fun X hn hX => ?_
  repeat' (first | (refine V_nameCell 7 1 11 _ _ q.bef rfl rfl fun XB nb pb => ?_; simp only [go_sem, simprocAttr, List.set_cons_succ, List.set_cons_zero]) | (refine V_nameCell 7 1 12 _ _ q.beh rfl rfl fun XH nh ph => ?_; simp only [go_sem, simprocAttr, List.set_cons_succ, List.set_cons_zero]) | (with_reducible first | refine V_seq ?_ | refine V_block ?_ | refine V_skip ?_ | refine V_ret ?_ | refine V_exit ?_) | ((with_reducible refine V_cond ?_); simp only [go_sem, simprocAttr]) | ((refine V_region (by rw [hn]; rfl) ?_); intro K hK) | ((first | with_reducible refine evOps_n ?_ | ((with_reducible apply evOps_g); rfl)); intro K hK; simp (contextual := true) only [go_sem, simprocAttr]) | with_reducible refine evOps_nil ?_ | ((with_reducible refine hK _ ?_); clear hK K) | (with_reducible first | refine And.intro ?_ ?_ | refine nxt_n ?_ | refine nxt_r ?_ | refine nxt_e ?_ | refine blk_n ?_ | refine blk_r ?_ | refine blk_same ?_ | refine blk_other (by decide) ?_ | refine noG_n ?_ | refine noG_r ?_ | refine noG_e ?_ | refine inR_mk ?_ ?_) | ((with_reducible refine evCall_at 23 ?_); refine EvCall.mk (hpa) cal_parallelProfunctors [] [0,1] (by simp [go_sem] <;> (repeat' (first | rfl | constructor))) (by simp [go_sem] <;> (repeat' (first | rfl | constructor))) ?_; all_goals try simp only [go_sem, simprocAttr]) | ((with_reducible refine evCall_at 24 ?_); refine EvCall.mk (hst) cal_Profunctor_starts [(0,2)] [0] (by simp [go_sem] <;> (repeat' (first | rfl | constructor))) (by simp [go_sem] <;> (repeat' (first | rfl | constructor))) ?_; all_goals try simp only [go_sem, simprocAttr]) | (refine fun (hc : (_ : Bool) = _) => ?_; try simp only [hcS] at hc))
  all_goals try exact om_
  all_goals try (exfalso; omega)
  have hmr := sp_Profunctor_mapRules s t e1 e2 nb nh
  have hrd : RdOk X (RLent (rvA p q XB XH)) := RLent.ok (rvA_lent t e1 e2 pb ph)
  have hrl := rvA_len (q := q) (XB := XB) (XH := XH) s
  have hsol := sp_solve_n (rvs := rvA p q XB XH) (Sz := szA p q) (M := 200) (by rw [rvA_1]; exact ruA_w s t e1 e2) (by omega) (by omega) (by omega) hin
  rw [rvA_1, show allL (ruA p q) (natS (szA p q)) = pmL p q from rfl, eat_L _ _ (by simp), List.nil_append, decide_eq_false (by omega)] at hsol
  repeat' (first | (refine V_regionX (id := 8) (by rw [hn]; rfl) ?_; intro K hK) | (refine evOpsX_h ?_; intro K hK; refine HkX.callR (f := 26) (caps := []) hrd hsol cal_solve [(0,6)] [4,5] (by simp only [go_sem, simprocAttr]) (by simp [go_sem] <;> first | rfl | exact ⟨rfl, rfl⟩ | exact ⟨rfl, rfl, rfl⟩) (by simp [go_sem] <;> first | rfl | exact ⟨rfl, rfl⟩ | exact ⟨rfl, rfl, rfl⟩) ?_; all_goals try simp only [go_sem, simprocAttr]) | ((with_reducible refine evOpsX_n ?_); intro K hK; simp (contextual := true) only [go_sem, simprocAttr]) | (with_reducible refine evOpsX_nil ?_) | (with_reducible first | refine V_seq ?_ | refine V_block ?_ | refine V_skip ?_ | refine V_ret ?_ | refine V_exit ?_) | ((with_reducible refine V_cond ?_); simp only [go_sem, simprocAttr]) | ((refine V_region (by rw [hn]; rfl) ?_); intro K hK) | ((first | with_reducible refine evOps_n ?_ | ((with_reducible apply evOps_g); rfl)); intro K hK; simp (contextual := true) only [go_sem, simprocAttr]) | with_reducible refine evOps_nil ?_ | ((with_reducible refine hK _ ?_); clear hK K) | (with_reducible first | refine And.intro ?_ ?_ | refine nxt_n ?_ | refine nxt_r ?_ | refine nxt_e ?_ | refine blk_n ?_ | refine blk_r ?_ | refine blk_same ?_ | refine blk_other (by decide) ?_ | refine noG_n ?_ | refine noG_r ?_ | refine noG_e ?_ | refine inR_mk ?_ ?_) | ((with_reducible refine evCall_at 25 ?_); refine EvCall.mk (hmr) cal_Profunctor_mapRules [(0,4),(1,5)] [0,1] (by simp [go_sem] <;> (repeat' (first | rfl | constructor))) (by simp [go_sem] <;> (repeat' (first | rfl | constructor))) ?_; all_goals try simp only [go_sem, simprocAttr]) | (refine fun (hc : (_ : Bool) = _) => ?_; try simp only [hcS] at hc))
  all_goals try exact om_
  all_goals try ((first | refine ret_auto ?_ | refine ret_auto' ?_); simp only [go_sem, simprocAttr, Try.f7])
  all_goals first | contradiction | omega
theorem adoptPM {P : Program} {F : FuncId} {args : List Sv} {y : Value} (h : Spec P F args [] (.tup [.v (.slice none 0 0), .v y]) []) : Spec P F args [] (.tup [.sl 0, .v y]) [(0, ⟨1, .arr (intssss [])⟩)] := by
  refine Spec.adopt h (fun p hp => ?_) fun w S v cn h => ?_
  · simp only [List.mem_singleton] at hp
    subst hp
    exact ⟨1, _, Nat.le_refl 1, rfl⟩
  · simp only [Sv.ok, Sv.okL] at h ⊢
    obtain ⟨vs, rfl, x, r, rfl, e, hr⟩ := h
    exact ⟨_, rfl, _, _, rfl, ⟨Nat.le_refl 1, e⟩, hr⟩
end Go.Eng
