/- AllProfunctorMaps, by the reference; all outcomes. -/
import Derived.Test.YtgbjgeignbjjnaaX11q
set_option linter.unusedSimpArgs false
set_option linter.unusedVariables false
set_option maxRecDepth 100000
set_option maxHeartbeats 16000000
namespace Go.Eng
open Go Go.Proofs Go.Cats
attribute [local go_sem] apL_zero
theorem cal_spec_AllProfunctorMaps : Callable Try.prog 5 := ⟨_, Try.func5, rfl, rfl⟩
theorem sp_spec_AllProfunctorMaps_bad {p q : Prof} {code : Int} (hp : PrB p) (hq : PrB q) (h : AlC p q code) (h0 : code ≠ 0) : Spec Try.prog 5 [profV p, profV q] [] (.tup [.v (.slice none 0 0), iv code]) [] := by
  have hpa := sp_l32Alike_k hp hq h
  refine spec_of_V (E := TE) 0 Try.func5 rfl (by simp [Try.f5]) fun X hn hX => ?_
  repeat' (first | (with_reducible first | refine V_seq ?_ | refine V_block ?_ | refine V_skip ?_ | refine V_ret ?_ | refine V_exit ?_) | ((with_reducible refine V_cond ?_); simp only [go_sem, simprocAttr]) | ((first | refine V_region (by rw [hn]; rfl) ?_ | refine V_drawn hmix (by rw [hn]; rfl) ?_); intro K hK) | ((first | with_reducible refine evOps_n ?_ | ((with_reducible apply evOps_g); rfl) | with_reducible refine evOpsD_n ?_ | ((with_reducible apply evOpsD_g); rfl)); intro K hK; simp (contextual := true) only [go_sem, simprocAttr]) | with_reducible refine evOps_nil ?_ | ((with_reducible refine evOpsD_nil ?_ ?_); kernel_rfl) | ((with_reducible refine hK _ ?_); clear hK K) | (with_reducible first | refine And.intro ?_ ?_ | refine nxt_n ?_ | refine nxt_r ?_ | refine nxt_e ?_ | refine blk_n ?_ | refine blk_r ?_ | refine blk_same ?_ | refine blk_other (by decide) ?_ | refine noG_n ?_ | refine noG_r ?_ | refine noG_e ?_ | refine inR_mk ?_ ?_) | ((with_reducible refine evCall_at 16 ?_); refine EvCall.mk (hpa) cal_l32Alike [] [] (by simp [go_sem] <;> (repeat' (first | rfl | constructor))) (by simp [go_sem] <;> (repeat' (first | rfl | constructor))) ?_; all_goals try simp only [go_sem, simprocAttr]) | (refine fun (hc : (_ : Bool) = _) => ?_; try simp only [hcS] at hc))
  all_goals try exact om_
  · (first | refine ret_auto ?_ | refine ret_auto' ?_); simp only [go_sem, simprocAttr, Try.f5]
  all_goals omega
theorem sp_spec_AllProfunctorMaps_big {p q : Prof} (hp : PrB p) (hq : PrB q) (h : AlC p q 0) (s : PrShape p) (hbig : 64 < p.num) : Spec Try.prog 5 [profV p, profV q] [] (.tup [.v (.slice none 0 0), iv 3]) [] := by
  have hpa := sp_l32Alike_k hp hq h
  have o1 := s.src.toShape.ob0
  have hof := sp_l32Offset s (x := p.src.ob.toNat) (y := 0) (Nat.le_refl _) (Nat.zero_le _) (fun _ => rfl)
  rw [Int.toNat_of_nonneg o1, ← off_num] at hof
  refine spec_of_V (E := TE) 0 Try.func5 rfl (by simp [Try.f5]) fun X hn hX => ?_
  repeat' (first | (with_reducible first | refine V_seq ?_ | refine V_block ?_ | refine V_skip ?_ | refine V_ret ?_ | refine V_exit ?_) | ((with_reducible refine V_cond ?_); simp only [go_sem, simprocAttr]) | ((first | refine V_region (by rw [hn]; rfl) ?_ | refine V_drawn hmix (by rw [hn]; rfl) ?_); intro K hK) | ((first | with_reducible refine evOps_n ?_ | ((with_reducible apply evOps_g); rfl) | with_reducible refine evOpsD_n ?_ | ((with_reducible apply evOpsD_g); rfl)); intro K hK; simp (contextual := true) only [go_sem, simprocAttr]) | with_reducible refine evOps_nil ?_ | ((with_reducible refine evOpsD_nil ?_ ?_); kernel_rfl) | ((with_reducible refine hK _ ?_); clear hK K) | (with_reducible first | refine And.intro ?_ ?_ | refine nxt_n ?_ | refine nxt_r ?_ | refine nxt_e ?_ | refine blk_n ?_ | refine blk_r ?_ | refine blk_same ?_ | refine blk_other (by decide) ?_ | refine noG_n ?_ | refine noG_r ?_ | refine noG_e ?_ | refine inR_mk ?_ ?_) | ((with_reducible refine evCall_at 16 ?_); refine EvCall.mk (hpa) cal_l32Alike [] [] (by simp [go_sem] <;> (repeat' (first | rfl | constructor))) (by simp [go_sem] <;> (repeat' (first | rfl | constructor))) ?_; all_goals try simp only [go_sem, simprocAttr]) | ((with_reducible refine evCall_at 17 ?_); refine EvCall.mk (hof) cal_l32Offset [] [] (by simp [go_sem] <;> (repeat' (first | rfl | constructor))) (by simp [go_sem] <;> (repeat' (first | rfl | constructor))) ?_; all_goals try simp only [go_sem, simprocAttr]) | (refine fun (hc : (_ : Bool) = _) => ?_; try simp only [hcS] at hc))
  all_goals try exact om_
  all_goals try ((first | refine ret_auto ?_ | refine ret_auto' ?_); simp only [go_sem, simprocAttr, Try.f5])
  all_goals first | contradiction | omega
theorem sp_spec_AllProfunctorMaps_many {p q : Prof} (hp : PrB p) (hq : PrB q) (h : AlC p q 0) (s : PrShape p) (t : PrShape q) (e1 : p.src = q.src) (e2 : p.tgt = q.tgt) (hbig : p.num ≤ 64) (hD : 200 < (pmL p q).length) : Spec Try.prog 5 [profV p, profV q] [] (.tup [.v (.slice none 0 0), iv 3]) [] := by
  have hpa := sp_l32Alike_k hp hq h
  have o1 := s.src.toShape.ob0
  have hof := sp_l32Offset s (x := p.src.ob.toNat) (y := 0) (Nat.le_refl _) (Nat.zero_le _) (fun _ => rfl)
  rw [Int.toNat_of_nonneg o1, ← off_num] at hof
  have hmp := sp_l32Maps (M := 201) s t e1 e2 (by omega) (by omega) (by omega)
  have hlen : ((pmL p q).take 201).length = 201 := by rw [List.length_take]; omega
  refine spec_of_V (E := TE) 0 Try.func5 rfl (by simp [Try.f5]) fun X hn hX => ?_
  repeat' (first | (with_reducible first | refine V_seq ?_ | refine V_block ?_ | refine V_skip ?_ | refine V_ret ?_ | refine V_exit ?_) | ((with_reducible refine V_cond ?_); simp only [go_sem, simprocAttr]) | ((first | refine V_region (by rw [hn]; rfl) ?_ | refine V_drawn hmix (by rw [hn]; rfl) ?_); intro K hK) | ((first | with_reducible refine evOps_n ?_ | ((with_reducible apply evOps_g); rfl) | with_reducible refine evOpsD_n ?_ | ((with_reducible apply evOpsD_g); rfl)); intro K hK; simp (contextual := true) only [go_sem, simprocAttr]) | with_reducible refine evOps_nil ?_ | ((with_reducible refine evOpsD_nil ?_ ?_); kernel_rfl) | ((with_reducible refine hK _ ?_); clear hK K) | (with_reducible first | refine And.intro ?_ ?_ | refine nxt_n ?_ | refine nxt_r ?_ | refine nxt_e ?_ | refine blk_n ?_ | refine blk_r ?_ | refine blk_same ?_ | refine blk_other (by decide) ?_ | refine noG_n ?_ | refine noG_r ?_ | refine noG_e ?_ | refine inR_mk ?_ ?_) | ((with_reducible refine evCall_at 16 ?_); refine EvCall.mk (hpa) cal_l32Alike [] [] (by simp [go_sem] <;> (repeat' (first | rfl | constructor))) (by simp [go_sem] <;> (repeat' (first | rfl | constructor))) ?_; all_goals try simp only [go_sem, simprocAttr]) | ((with_reducible refine evCall_at 17 ?_); refine EvCall.mk (hof) cal_l32Offset [] [] (by simp [go_sem] <;> (repeat' (first | rfl | constructor))) (by simp [go_sem] <;> (repeat' (first | rfl | constructor))) ?_; all_goals try simp only [go_sem, simprocAttr]) | ((with_reducible refine evCall_at 18 ?_); refine EvCall.mk (hmp) cal_l32Maps [(0,2)] [] (by simp [go_sem] <;> (repeat' (first | rfl | constructor))) (by simp [go_sem] <;> (repeat' (first | rfl | constructor))) ?_; all_goals try simp only [go_sem, simprocAttr]) | (refine fun (hc : (_ : Bool) = _) => ?_; try simp only [hcS] at hc))
  all_goals try exact om_
  all_goals try ((first | refine ret_auto ?_ | refine ret_auto' ?_); simp only [go_sem, simprocAttr, Try.f5])
  all_goals first | contradiction | omega
theorem sp_spec_AllProfunctorMaps_yes {p q : Prof} (hp : PrB p) (hq : PrB q) (h : AlC p q 0) (s : PrShape p) (t : PrShape q) (e1 : p.src = q.src) (e2 : p.tgt = q.tgt) (hbig : p.num ≤ 64) (hD : (pmL p q).length ≤ 200) : Spec Try.prog 5 [profV p, profV q] [] (.tup [.sl 0, iv 0]) [(0, ⟨1, .arr (intssss (pmP p q))⟩)] := by
  have hpa := sp_l32Alike_k hp hq h
  have o1 := s.src.toShape.ob0
  have hof := sp_l32Offset s (x := p.src.ob.toNat) (y := 0) (Nat.le_refl _) (Nat.zero_le _) (fun _ => rfl)
  rw [Int.toNat_of_nonneg o1, ← off_num] at hof
  have hmp := sp_l32Maps (M := 201) s t e1 e2 (by omega) (by omega) (by omega)
  rw [List.take_of_length_le (by omega)] at hmp
  refine spec_of_V (E := TE) 0 Try.func5 rfl (by simp [Try.f5]) fun X hn hX => ?_
  repeat' (first | (with_reducible first | refine V_seq ?_ | refine V_block ?_ | refine V_skip ?_ | refine V_ret ?_ | refine V_exit ?_) | ((with_reducible refine V_cond ?_); simp only [go_sem, simprocAttr]) | ((first | refine V_region (by rw [hn]; rfl) ?_ | refine V_drawn hmix (by rw [hn]; rfl) ?_); intro K hK) | ((first | with_reducible refine evOps_n ?_ | ((with_reducible apply evOps_g); rfl) | with_reducible refine evOpsD_n ?_ | ((with_reducible apply evOpsD_g); rfl)); intro K hK; simp (contextual := true) only [go_sem, simprocAttr]) | with_reducible refine evOps_nil ?_ | ((with_reducible refine evOpsD_nil ?_ ?_); kernel_rfl) | ((with_reducible refine hK _ ?_); clear hK K) | (with_reducible first | refine And.intro ?_ ?_ | refine nxt_n ?_ | refine nxt_r ?_ | refine nxt_e ?_ | refine blk_n ?_ | refine blk_r ?_ | refine blk_same ?_ | refine blk_other (by decide) ?_ | refine noG_n ?_ | refine noG_r ?_ | refine noG_e ?_ | refine inR_mk ?_ ?_) | ((with_reducible refine evCall_at 16 ?_); refine EvCall.mk (hpa) cal_l32Alike [] [] (by simp [go_sem] <;> (repeat' (first | rfl | constructor))) (by simp [go_sem] <;> (repeat' (first | rfl | constructor))) ?_; all_goals try simp only [go_sem, simprocAttr]) | ((with_reducible refine evCall_at 17 ?_); refine EvCall.mk (hof) cal_l32Offset [] [] (by simp [go_sem] <;> (repeat' (first | rfl | constructor))) (by simp [go_sem] <;> (repeat' (first | rfl | constructor))) ?_; all_goals try simp only [go_sem, simprocAttr]) | ((with_reducible refine evCall_at 18 ?_); refine EvCall.mk (hmp) cal_l32Maps [(0,2)] [] (by simp [go_sem] <;> (repeat' (first | rfl | constructor))) (by simp [go_sem] <;> (repeat' (first | rfl | constructor))) ?_; all_goals try simp only [go_sem, simprocAttr]) | (refine fun (hc : (_ : Bool) = _) => ?_; try simp only [hcS] at hc))
  all_goals try exact om_
  all_goals try (exfalso; omega)
  refine V_loopK (G := {i : Nat // i ≤ (pmL p q).length ∧ (True)}) (fun ⟨i, _⟩ => [(9, iv i), (7, .sl 2), (8, .sl 3), (3, .ptr 1 0)]) [2, 4, 5] (fun ⟨i, _⟩ => [(3, ⟨1, .arr (intssss (apL p (pmL p q) i))⟩)]) [3] (fun zz => (pmL p q).length - zz.1) ⟨0, Nat.zero_le _, by first | trivial | simp⟩ ?_ ?_
  · exact Imp.au hX
  rintro ⟨i, hii, hwi⟩
  simp only [go_sem, simprocAttr]
  have al := apL_len (p := p) (L := pmL p q) (n := i)
  rcases Nat.lt_or_ge i (pmL p q).length with hli | hgi
  · have hal := pmL_at s hli
    have hsp := sp_l32Split s hal
    have e1 := apL_succ (p := p) (L := pmL p q) (n := i)
    repeat' (first | (with_reducible first | refine V_seq ?_ | refine V_block ?_ | refine V_skip ?_ | refine V_ret ?_ | refine V_exit ?_) | ((with_reducible refine V_cond ?_); simp only [go_sem, simprocAttr]) | ((first | refine V_region (by rw [hn]; rfl) ?_ | refine V_drawn hmix (by rw [hn]; rfl) ?_); intro K hK) | ((first | with_reducible refine evOps_n ?_ | ((with_reducible apply evOps_g); rfl) | with_reducible refine evOpsD_n ?_ | ((with_reducible apply evOpsD_g); rfl)); intro K hK; simp (contextual := true) only [go_sem, simprocAttr]) | with_reducible refine evOps_nil ?_ | ((with_reducible refine evOpsD_nil ?_ ?_); kernel_rfl) | ((with_reducible refine hK _ ?_); clear hK K) | (with_reducible first | refine And.intro ?_ ?_ | refine nxt_n ?_ | refine nxt_r ?_ | refine nxt_e ?_ | refine blk_n ?_ | refine blk_r ?_ | refine blk_same ?_ | refine blk_other (by decide) ?_ | refine noG_n ?_ | refine noG_r ?_ | refine noG_e ?_ | refine inR_mk ?_ ?_) | ((with_reducible refine evCall_at 19 ?_); refine EvCall.mk (hsp) cal_l32Split [(0,4)] [2] (by simp [go_sem] <;> (repeat' (first | rfl | constructor))) (by simp [go_sem] <;> (repeat' (first | rfl | constructor))) ?_; all_goals try simp only [go_sem, simprocAttr]) | (refine fun (hc : (_ : Bool) = _) => ?_; try simp only [hcS] at hc))
    all_goals try exact om_
    refine ⟨⟨i + 1, by omega, (by trivial)⟩, by simp only; omega, Imp.auto hX (by simp only [go_sem, simprocAttr, e1])⟩
  · have ei : i = (pmL p q).length := by omega
    subst ei
    rw [show apL p (pmL p q) (pmL p q).length = pmP p q from rfl]
    repeat' (first | (with_reducible first | refine V_seq ?_ | refine V_block ?_ | refine V_skip ?_ | refine V_ret ?_ | refine V_exit ?_) | ((with_reducible refine V_cond ?_); simp only [go_sem, simprocAttr]) | ((first | refine V_region (by rw [hn]; rfl) ?_ | refine V_drawn hmix (by rw [hn]; rfl) ?_); intro K hK) | ((first | with_reducible refine evOps_n ?_ | ((with_reducible apply evOps_g); rfl) | with_reducible refine evOpsD_n ?_ | ((with_reducible apply evOpsD_g); rfl)); intro K hK; simp (contextual := true) only [go_sem, simprocAttr]) | with_reducible refine evOps_nil ?_ | ((with_reducible refine evOpsD_nil ?_ ?_); kernel_rfl) | ((with_reducible refine hK _ ?_); clear hK K) | (with_reducible first | refine And.intro ?_ ?_ | refine nxt_n ?_ | refine nxt_r ?_ | refine nxt_e ?_ | refine blk_n ?_ | refine blk_r ?_ | refine blk_same ?_ | refine blk_other (by decide) ?_ | refine noG_n ?_ | refine noG_r ?_ | refine noG_e ?_ | refine inR_mk ?_ ?_) | (refine fun (hc : (_ : Bool) = _) => ?_; try simp only [hcS] at hc))
    all_goals try exact om_
    (first | refine ret_auto ?_ | refine ret_auto' ?_); simp only [go_sem, simprocAttr, Try.f5]
inductive PmO (p q : Prof) : Int → List (List (List (List Int))) → Prop
  | bad {c} (h : AlC p q c) (h0 : c ≠ 0) : PmO p q c []
  | big (h : AlC p q 0) (s : PrShape p) (hb : 64 < p.num) : PmO p q 3 []
  | many (h : AlC p q 0) (s : PrShape p) (t : PrShape q) (e1 : p.src = q.src) (e2 : p.tgt = q.tgt) (hb : p.num ≤ 64) (hD : 200 < (pmL p q).length) : PmO p q 3 []
  | yes (h : AlC p q 0) (s : PrShape p) (t : PrShape q) (e1 : p.src = q.src) (e2 : p.tgt = q.tgt) (hb : p.num ≤ 64) (hD : (pmL p q).length ≤ 200) : PmO p q 0 (pmP p q)
theorem pmO_ex (p q : Prof) : ∃ c r, PmO p q c r := by
  by_cases h1 : IsProf p ∧ IsProf q
  · by_cases h2 : p.src = q.src ∧ p.tgt = q.tgt
    · have h : AlC p q 0 := .inr ⟨h1, .inr ⟨h2, rfl⟩⟩
      by_cases h3 : 64 < p.num
      · exact ⟨_, _, .big h h1.1.shape h3⟩
      · by_cases h4 : 200 < (pmL p q).length
        · exact ⟨_, _, .many h h1.1.shape h1.2.shape h2.1 h2.2 (by omega) h4⟩
        · exact ⟨_, _, .yes h h1.1.shape h1.2.shape h2.1 h2.2 (by omega) (by omega)⟩
    · exact ⟨5, _, .bad (.inr ⟨h1, .inl ⟨h2, rfl⟩⟩) (by decide)⟩
  · exact ⟨1, _, .bad (.inl ⟨h1, rfl⟩) (by decide)⟩
theorem sp_AllProfunctorMaps_o {p q : Prof} {c : Int} {r : List (List (List (List Int)))} (hp : PrB p) (hq : PrB q) (h : PmO p q c r) : Spec Try.prog 7 [profV p, profV q] [] (.tup [.sl 0, iv c]) [(0, ⟨1, .arr (intssss r)⟩)] := by
  cases h with
  | bad h h0 => exact adoptPM (sp_AllProfunctorMaps_bad hp hq h h0)
  | big h s hb => exact adoptPM (sp_AllProfunctorMaps_big hp hq h s hb)
  | many h s t e1 e2 hb hD => exact adoptPM (sp_AllProfunctorMaps_many hp hq h s t e1 e2 hb hD)
  | yes h s t e1 e2 hb hD => exact sp_AllProfunctorMaps_yes hp hq h s t e1 e2 hb hD
theorem sp_spec_AllProfunctorMaps_o {p q : Prof} {c : Int} {r : List (List (List (List Int)))} (hp : PrB p) (hq : PrB q) (h : PmO p q c r) : Spec Try.prog 5 [profV p, profV q] [] (.tup [.sl 0, iv c]) [(0, ⟨1, .arr (intssss r)⟩)] := by
  cases h with
  | bad h h0 => exact adoptPM (sp_spec_AllProfunctorMaps_bad hp hq h h0)
  | big h s hb => exact adoptPM (sp_spec_AllProfunctorMaps_big hp hq h s hb)
  | many h s t e1 e2 hb hD => exact adoptPM (sp_spec_AllProfunctorMaps_many hp hq h s t e1 e2 hb hD)
  | yes h s t e1 e2 hb hD => exact sp_spec_AllProfunctorMaps_yes hp hq h s t e1 e2 hb hD
end Go.Eng
