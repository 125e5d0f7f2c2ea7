/- Two profunctors with the same ends; the numbers of elements ahead of each place. -/
import Derived.Test.YtgbjgeignbjjnaaX04q
set_option linter.unusedSimpArgs false
set_option linter.unusedVariables false
set_option maxRecDepth 100000
set_option maxHeartbeats 16000000
namespace Go.Eng
open Go Go.Proofs Go.Cats
def _root_.Go.Cats.AlC (p q : Prof) (code : Int) : Prop := (¬ (IsProf p ∧ IsProf q) ∧ code = 1) ∨ ((IsProf p ∧ IsProf q) ∧ ((¬ (p.src = q.src ∧ p.tgt = q.tgt) ∧ code = 5) ∨ ((p.src = q.src ∧ p.tgt = q.tgt) ∧ code = 0)))
theorem cal_parallelProfunctors : Callable Try.prog 23 := ⟨_, Try.func23, rfl, rfl⟩
theorem sp_parallelProfunctors_k {p q : Prof} {code : Int} (hp : PrB p) (hq : PrB q) (h : AlC p q code) : Spec Try.prog 23 [.bptr [] (profD p), .bptr [] (profD q)] [] (iv code) [] := by
  have v1 := sp_Profunctor_isProfunctor hp
  have v2 := sp_Profunctor_isProfunctor hq
  have v3 := sp_sameCategory hp.src hq.src
  have v4 := sp_sameCategory hp.tgt hq.tgt
  rcases h with ⟨h, rfl⟩ | ⟨⟨h1, h2⟩, h⟩
  · by_cases c1 : IsProf p
    · rw [dec_t c1] at v1
      rw [dec_f fun c2 => h ⟨c1, c2⟩] at v2
      refine spec_of_V (E := TE) 0 Try.func23 rfl (by simp [Try.f23]) fun X hn hX => ?_
      repeat' (first | (with_reducible first | refine V_seq ?_ | refine V_skip ?_ | refine V_ret ?_) | ((with_reducible refine V_cond ?_); simp only [go_sem, simprocAttr]) | ((first | refine V_region (by rw [hn]; rfl) ?_ | refine V_drawn hmix (by rw [hn]; rfl) ?_); intro K hK) | ((first | with_reducible refine evOps_n ?_ | ((with_reducible apply evOps_g); rfl) | with_reducible refine evOpsD_n ?_ | ((with_reducible apply evOpsD_g); rfl)); intro K hK; simp (contextual := true) only [go_sem, simprocAttr]) | with_reducible refine evOps_nil ?_ | ((with_reducible refine evOpsD_nil ?_ ?_); kernel_rfl) | ((with_reducible refine hK _ ?_); clear hK K) | (with_reducible first | refine And.intro ?_ ?_ | refine nxt_n ?_ | refine nxt_r ?_ | refine inR_mk ?_ ?_) | ((with_reducible refine (id ?_ : EvCall _ _ [.bptr [] (profD p)] _ _)); refine EvCall.mk (v1) cal_Profunctor_isProfunctor [] [] (by simp [go_sem] <;> (repeat' (first | rfl | constructor))) (by simp [go_sem] <;> (repeat' (first | rfl | constructor))) ?_; all_goals try simp only [go_sem, simprocAttr]) | ((with_reducible refine (id ?_ : EvCall _ _ [.bptr [] (profD q)] _ _)); refine EvCall.mk (v2) cal_Profunctor_isProfunctor [] [] (by simp [go_sem] <;> (repeat' (first | rfl | constructor))) (by simp [go_sem] <;> (repeat' (first | rfl | constructor))) ?_; all_goals try simp only [go_sem, simprocAttr]) | (refine fun (hc : (_ : Bool) = _) => ?_; try simp only [hcS] at hc))
      all_goals try exact om_
      all_goals ((first | refine ret_auto ?_ | refine ret_auto' ?_); simp only [go_sem, simprocAttr, Try.f23])
    · rw [dec_f c1] at v1
      refine spec_of_V (E := TE) 0 Try.func23 rfl (by simp [Try.f23]) fun X hn hX => ?_
      repeat' (first | (with_reducible first | refine V_seq ?_ | refine V_skip ?_ | refine V_ret ?_) | ((with_reducible refine V_cond ?_); simp only [go_sem, simprocAttr]) | ((first | refine V_region (by rw [hn]; rfl) ?_ | refine V_drawn hmix (by rw [hn]; rfl) ?_); intro K hK) | ((first | with_reducible refine evOps_n ?_ | ((with_reducible apply evOps_g); rfl) | with_reducible refine evOpsD_n ?_ | ((with_reducible apply evOpsD_g); rfl)); intro K hK; simp (contextual := true) only [go_sem, simprocAttr]) | with_reducible refine evOps_nil ?_ | ((with_reducible refine evOpsD_nil ?_ ?_); kernel_rfl) | ((with_reducible refine hK _ ?_); clear hK K) | (with_reducible first | refine And.intro ?_ ?_ | refine nxt_n ?_ | refine nxt_r ?_ | refine inR_mk ?_ ?_) | ((with_reducible refine (id ?_ : EvCall _ _ [.bptr [] (profD p)] _ _)); refine EvCall.mk (v1) cal_Profunctor_isProfunctor [] [] (by simp [go_sem] <;> (repeat' (first | rfl | constructor))) (by simp [go_sem] <;> (repeat' (first | rfl | constructor))) ?_; all_goals try simp only [go_sem, simprocAttr]) | (refine fun (hc : (_ : Bool) = _) => ?_; try simp only [hcS] at hc))
      all_goals try exact om_
      all_goals ((first | refine ret_auto ?_ | refine ret_auto' ?_); simp only [go_sem, simprocAttr, Try.f23])
  · rw [dec_t h1] at v1
    rw [dec_t h2] at v2
    by_cases c1 : p.src = q.src
    · rw [dec_t c1] at v3
      by_cases c2 : p.tgt = q.tgt
      · rw [dec_t c2] at v4
        obtain rfl : code = 0 := by
          rcases h with ⟨h, _⟩ | ⟨_, h⟩
          · exact absurd ⟨c1, c2⟩ h
          · exact h
        refine spec_of_V (E := TE) 0 Try.func23 rfl (by simp [Try.f23]) fun X hn hX => ?_
        repeat' (first | (with_reducible first | refine V_seq ?_ | refine V_skip ?_ | refine V_ret ?_) | ((with_reducible refine V_cond ?_); simp only [go_sem, simprocAttr]) | ((first | refine V_region (by rw [hn]; rfl) ?_ | refine V_drawn hmix (by rw [hn]; rfl) ?_); intro K hK) | ((first | with_reducible refine evOps_n ?_ | ((with_reducible apply evOps_g); rfl) | with_reducible refine evOpsD_n ?_ | ((with_reducible apply evOpsD_g); rfl)); intro K hK; simp (contextual := true) only [go_sem, simprocAttr]) | with_reducible refine evOps_nil ?_ | ((with_reducible refine evOpsD_nil ?_ ?_); kernel_rfl) | ((with_reducible refine hK _ ?_); clear hK K) | (with_reducible first | refine And.intro ?_ ?_ | refine nxt_n ?_ | refine nxt_r ?_ | refine inR_mk ?_ ?_) | ((with_reducible refine (id ?_ : EvCall _ _ [.bptr [] (profD p)] _ _)); refine EvCall.mk (v1) cal_Profunctor_isProfunctor [] [] (by simp [go_sem] <;> (repeat' (first | rfl | constructor))) (by simp [go_sem] <;> (repeat' (first | rfl | constructor))) ?_; all_goals try simp only [go_sem, simprocAttr]) | ((with_reducible refine (id ?_ : EvCall _ _ [.bptr [] (profD q)] _ _)); refine EvCall.mk (v2) cal_Profunctor_isProfunctor [] [] (by simp [go_sem] <;> (repeat' (first | rfl | constructor))) (by simp [go_sem] <;> (repeat' (first | rfl | constructor))) ?_; all_goals try simp only [go_sem, simprocAttr]) | ((with_reducible refine (id ?_ : EvCall _ _ [.bptr [] (catD p.src),_] _ _)); refine EvCall.mk (v3) cal_sameCategory [] [] (by simp [go_sem] <;> (repeat' (first | rfl | constructor))) (by simp [go_sem] <;> (repeat' (first | rfl | constructor))) ?_; all_goals try simp only [go_sem, simprocAttr]) | ((with_reducible refine (id ?_ : EvCall _ _ [.bptr [] (catD p.tgt),_] _ _)); refine EvCall.mk (v4) cal_sameCategory [] [] (by simp [go_sem] <;> (repeat' (first | rfl | constructor))) (by simp [go_sem] <;> (repeat' (first | rfl | constructor))) ?_; all_goals try simp only [go_sem, simprocAttr]) | (refine fun (hc : (_ : Bool) = _) => ?_; try simp only [hcS] at hc))
        all_goals try exact om_
        all_goals ((first | refine ret_auto ?_ | refine ret_auto' ?_); simp only [go_sem, simprocAttr, Try.f23])
      · rw [dec_f c2] at v4
        obtain rfl : code = 5 := by
          rcases h with ⟨_, h⟩ | ⟨h, _⟩
          · exact h
          · exact absurd h.2 c2
        refine spec_of_V (E := TE) 0 Try.func23 rfl (by simp [Try.f23]) fun X hn hX => ?_
        repeat' (first | (with_reducible first | refine V_seq ?_ | refine V_skip ?_ | refine V_ret ?_) | ((with_reducible refine V_cond ?_); simp only [go_sem, simprocAttr]) | ((first | refine V_region (by rw [hn]; rfl) ?_ | refine V_drawn hmix (by rw [hn]; rfl) ?_); intro K hK) | ((first | with_reducible refine evOps_n ?_ | ((with_reducible apply evOps_g); rfl) | with_reducible refine evOpsD_n ?_ | ((with_reducible apply evOpsD_g); rfl)); intro K hK; simp (contextual := true) only [go_sem, simprocAttr]) | with_reducible refine evOps_nil ?_ | ((with_reducible refine evOpsD_nil ?_ ?_); kernel_rfl) | ((with_reducible refine hK _ ?_); clear hK K) | (with_reducible first | refine And.intro ?_ ?_ | refine nxt_n ?_ | refine nxt_r ?_ | refine inR_mk ?_ ?_) | ((with_reducible refine (id ?_ : EvCall _ _ [.bptr [] (profD p)] _ _)); refine EvCall.mk (v1) cal_Profunctor_isProfunctor [] [] (by simp [go_sem] <;> (repeat' (first | rfl | constructor))) (by simp [go_sem] <;> (repeat' (first | rfl | constructor))) ?_; all_goals try simp only [go_sem, simprocAttr]) | ((with_reducible refine (id ?_ : EvCall _ _ [.bptr [] (profD q)] _ _)); refine EvCall.mk (v2) cal_Profunctor_isProfunctor [] [] (by simp [go_sem] <;> (repeat' (first | rfl | constructor))) (by simp [go_sem] <;> (repeat' (first | rfl | constructor))) ?_; all_goals try simp only [go_sem, simprocAttr]) | ((with_reducible refine (id ?_ : EvCall _ _ [.bptr [] (catD p.src),_] _ _)); refine EvCall.mk (v3) cal_sameCategory [] [] (by simp [go_sem] <;> (repeat' (first | rfl | constructor))) (by simp [go_sem] <;> (repeat' (first | rfl | constructor))) ?_; all_goals try simp only [go_sem, simprocAttr]) | ((with_reducible refine (id ?_ : EvCall _ _ [.bptr [] (catD p.tgt),_] _ _)); refine EvCall.mk (v4) cal_sameCategory [] [] (by simp [go_sem] <;> (repeat' (first | rfl | constructor))) (by simp [go_sem] <;> (repeat' (first | rfl | constructor))) ?_; all_goals try simp only [go_sem, simprocAttr]) | (refine fun (hc : (_ : Bool) = _) => ?_; try simp only [hcS] at hc))
        all_goals try exact om_
        all_goals ((first | refine ret_auto ?_ | refine ret_auto' ?_); simp only [go_sem, simprocAttr, Try.f23])
    · rw [dec_f c1] at v3
      obtain rfl : code = 5 := by
        rcases h with ⟨_, h⟩ | ⟨h, _⟩
        · exact h
        · exact absurd h.1 c1
      refine spec_of_V (E := TE) 0 Try.func23 rfl (by simp [Try.f23]) fun X hn hX => ?_
      repeat' (first | (with_reducible first | refine V_seq ?_ | refine V_skip ?_ | refine V_ret ?_) | ((with_reducible refine V_cond ?_); simp only [go_sem, simprocAttr]) | ((first | refine V_region (by rw [hn]; rfl) ?_ | refine V_drawn hmix (by rw [hn]; rfl) ?_); intro K hK) | ((first | with_reducible refine evOps_n ?_ | ((with_reducible apply evOps_g); rfl) | with_reducible refine evOpsD_n ?_ | ((with_reducible apply evOpsD_g); rfl)); intro K hK; simp (contextual := true) only [go_sem, simprocAttr]) | with_reducible refine evOps_nil ?_ | ((with_reducible refine evOpsD_nil ?_ ?_); kernel_rfl) | ((with_reducible refine hK _ ?_); clear hK K) | (with_reducible first | refine And.intro ?_ ?_ | refine nxt_n ?_ | refine nxt_r ?_ | refine inR_mk ?_ ?_) | ((with_reducible refine (id ?_ : EvCall _ _ [.bptr [] (profD p)] _ _)); refine EvCall.mk (v1) cal_Profunctor_isProfunctor [] [] (by simp [go_sem] <;> (repeat' (first | rfl | constructor))) (by simp [go_sem] <;> (repeat' (first | rfl | constructor))) ?_; all_goals try simp only [go_sem, simprocAttr]) | ((with_reducible refine (id ?_ : EvCall _ _ [.bptr [] (profD q)] _ _)); refine EvCall.mk (v2) cal_Profunctor_isProfunctor [] [] (by simp [go_sem] <;> (repeat' (first | rfl | constructor))) (by simp [go_sem] <;> (repeat' (first | rfl | constructor))) ?_; all_goals try simp only [go_sem, simprocAttr]) | ((with_reducible refine (id ?_ : EvCall _ _ [.bptr [] (catD p.src),_] _ _)); refine EvCall.mk (v3) cal_sameCategory [] [] (by simp [go_sem] <;> (repeat' (first | rfl | constructor))) (by simp [go_sem] <;> (repeat' (first | rfl | constructor))) ?_; all_goals try simp only [go_sem, simprocAttr]) | (refine fun (hc : (_ : Bool) = _) => ?_; try simp only [hcS] at hc))
      all_goals try exact om_
      all_goals ((first | refine ret_auto ?_ | refine ret_auto' ?_); simp only [go_sem, simprocAttr, Try.f23])
theorem cal_l32Alike : Callable Try.prog 16 := ⟨_, Try.func16, rfl, rfl⟩
theorem sp_l32Alike_k {p q : Prof} {code : Int} (hp : PrB p) (hq : PrB q) (h : AlC p q code) : Spec Try.prog 16 [profV p, profV q] [] (iv code) [] := by
  have v1 := sp_l22Is hp
  have v2 := sp_l22Is hq
  have v3 := sp_l02Same hp.src hq.src
  have v4 := sp_l02Same hp.tgt hq.tgt
  rcases h with ⟨h, rfl⟩ | ⟨⟨h1, h2⟩, h⟩
  · by_cases c1 : IsProf p
    · rw [dec_t c1] at v1
      rw [dec_f fun c2 => h ⟨c1, c2⟩] at v2
      refine spec_of_V (E := TE) 0 Try.func16 rfl (by simp [Try.f16]) fun X hn hX => ?_
      repeat' (first | (with_reducible first | refine V_seq ?_ | refine V_skip ?_ | refine V_ret ?_) | ((with_reducible refine V_cond ?_); simp only [go_sem, simprocAttr]) | ((refine V_region (by rw [hn]; rfl) ?_); intro K hK) | ((first | with_reducible refine evOps_n ?_ | ((with_reducible apply evOps_g); rfl)); intro K hK; simp (contextual := true) only [go_sem, simprocAttr]) | with_reducible refine evOps_nil ?_ | ((with_reducible refine hK _ ?_); clear hK K) | (with_reducible first | refine And.intro ?_ ?_ | refine nxt_n ?_ | refine nxt_r ?_ | refine inR_mk ?_ ?_) | ((with_reducible refine (id ?_ : EvCall _ _ [.agg [_,_,_,_,_,_,_,_,_,_,.bor [] (intss p.sz),.bor [] (intsss p.bef),_]] _ _)); refine EvCall.mk (v1) cal_l22Is [] [] (by simp [go_sem] <;> (repeat' (first | rfl | constructor))) (by simp [go_sem] <;> (repeat' (first | rfl | constructor))) ?_; all_goals try simp only [go_sem, simprocAttr]) | ((with_reducible refine (id ?_ : EvCall _ _ [.agg [_,_,_,_,_,_,_,_,_,_,.bor [] (intss q.sz),.bor [] (intsss q.bef),_]] _ _)); refine EvCall.mk (v2) cal_l22Is [] [] (by simp [go_sem] <;> (repeat' (first | rfl | constructor))) (by simp [go_sem] <;> (repeat' (first | rfl | constructor))) ?_; all_goals try simp only [go_sem, simprocAttr]) | (refine fun (hc : (_ : Bool) = _) => ?_; try simp only [hcS] at hc))
      all_goals try exact om_
      all_goals ((first | refine ret_auto ?_ | refine ret_auto' ?_); simp only [go_sem, simprocAttr, Try.f16])
    · rw [dec_f c1] at v1
      refine spec_of_V (E := TE) 0 Try.func16 rfl (by simp [Try.f16]) fun X hn hX => ?_
      repeat' (first | (with_reducible first | refine V_seq ?_ | refine V_skip ?_ | refine V_ret ?_) | ((with_reducible refine V_cond ?_); simp only [go_sem, simprocAttr]) | ((refine V_region (by rw [hn]; rfl) ?_); intro K hK) | ((first | with_reducible refine evOps_n ?_ | ((with_reducible apply evOps_g); rfl)); intro K hK; simp (contextual := true) only [go_sem, simprocAttr]) | with_reducible refine evOps_nil ?_ | ((with_reducible refine hK _ ?_); clear hK K) | (with_reducible first | refine And.intro ?_ ?_ | refine nxt_n ?_ | refine nxt_r ?_ | refine inR_mk ?_ ?_) | ((with_reducible refine (id ?_ : EvCall _ _ [.agg [_,_,_,_,_,_,_,_,_,_,.bor [] (intss p.sz),.bor [] (intsss p.bef),_]] _ _)); refine EvCall.mk (v1) cal_l22Is [] [] (by simp [go_sem] <;> (repeat' (first | rfl | constructor))) (by simp [go_sem] <;> (repeat' (first | rfl | constructor))) ?_; all_goals try simp only [go_sem, simprocAttr]) | (refine fun (hc : (_ : Bool) = _) => ?_; try simp only [hcS] at hc))
      all_goals try exact om_
      all_goals ((first | refine ret_auto ?_ | refine ret_auto' ?_); simp only [go_sem, simprocAttr, Try.f16])
  · rw [dec_t h1] at v1
    rw [dec_t h2] at v2
    by_cases c1 : p.src = q.src
    · rw [dec_t c1] at v3
      by_cases c2 : p.tgt = q.tgt
      · rw [dec_t c2] at v4
        obtain rfl : code = 0 := by
          rcases h with ⟨h, _⟩ | ⟨_, h⟩
          · exact absurd ⟨c1, c2⟩ h
          · exact h
        refine spec_of_V (E := TE) 0 Try.func16 rfl (by simp [Try.f16]) fun X hn hX => ?_
        repeat' (first | (with_reducible first | refine V_seq ?_ | refine V_skip ?_ | refine V_ret ?_) | ((with_reducible refine V_cond ?_); simp only [go_sem, simprocAttr]) | ((refine V_region (by rw [hn]; rfl) ?_); intro K hK) | ((first | with_reducible refine evOps_n ?_ | ((with_reducible apply evOps_g); rfl)); intro K hK; simp (contextual := true) only [go_sem, simprocAttr]) | with_reducible refine evOps_nil ?_ | ((with_reducible refine hK _ ?_); clear hK K) | (with_reducible first | refine And.intro ?_ ?_ | refine nxt_n ?_ | refine nxt_r ?_ | refine inR_mk ?_ ?_) | ((with_reducible refine (id ?_ : EvCall _ _ [.agg [_,_,_,_,_,_,_,_,_,_,.bor [] (intss p.sz),.bor [] (intsss p.bef),_]] _ _)); refine EvCall.mk (v1) cal_l22Is [] [] (by simp [go_sem] <;> (repeat' (first | rfl | constructor))) (by simp [go_sem] <;> (repeat' (first | rfl | constructor))) ?_; all_goals try simp only [go_sem, simprocAttr]) | ((with_reducible refine (id ?_ : EvCall _ _ [.agg [_,_,_,_,_,_,_,_,_,_,.bor [] (intss q.sz),.bor [] (intsss q.bef),_]] _ _)); refine EvCall.mk (v2) cal_l22Is [] [] (by simp [go_sem] <;> (repeat' (first | rfl | constructor))) (by simp [go_sem] <;> (repeat' (first | rfl | constructor))) ?_; all_goals try simp only [go_sem, simprocAttr]) | ((with_reducible refine (id ?_ : EvCall _ _ [.agg [iv p.src.ob,_,_,_,_],_] _ _)); refine EvCall.mk (v3) cal_l02Same [] [] (by simp [go_sem] <;> (repeat' (first | rfl | constructor))) (by simp [go_sem] <;> (repeat' (first | rfl | constructor))) ?_; all_goals try simp only [go_sem, simprocAttr]) | ((with_reducible refine (id ?_ : EvCall _ _ [.agg [iv p.tgt.ob,_,_,_,_],_] _ _)); refine EvCall.mk (v4) cal_l02Same [] [] (by simp [go_sem] <;> (repeat' (first | rfl | constructor))) (by simp [go_sem] <;> (repeat' (first | rfl | constructor))) ?_; all_goals try simp only [go_sem, simprocAttr]) | (refine fun (hc : (_ : Bool) = _) => ?_; try simp only [hcS] at hc))
        all_goals try exact om_
        all_goals ((first | refine ret_auto ?_ | refine ret_auto' ?_); simp only [go_sem, simprocAttr, Try.f16])
      · rw [dec_f c2] at v4
        obtain rfl : code = 5 := by
          rcases h with ⟨_, h⟩ | ⟨h, _⟩
          · exact h
          · exact absurd h.2 c2
        refine spec_of_V (E := TE) 0 Try.func16 rfl (by simp [Try.f16]) fun X hn hX => ?_
        repeat' (first | (with_reducible first | refine V_seq ?_ | refine V_skip ?_ | refine V_ret ?_) | ((with_reducible refine V_cond ?_); simp only [go_sem, simprocAttr]) | ((refine V_region (by rw [hn]; rfl) ?_); intro K hK) | ((first | with_reducible refine evOps_n ?_ | ((with_reducible apply evOps_g); rfl)); intro K hK; simp (contextual := true) only [go_sem, simprocAttr]) | with_reducible refine evOps_nil ?_ | ((with_reducible refine hK _ ?_); clear hK K) | (with_reducible first | refine And.intro ?_ ?_ | refine nxt_n ?_ | refine nxt_r ?_ | refine inR_mk ?_ ?_) | ((with_reducible refine (id ?_ : EvCall _ _ [.agg [_,_,_,_,_,_,_,_,_,_,.bor [] (intss p.sz),.bor [] (intsss p.bef),_]] _ _)); refine EvCall.mk (v1) cal_l22Is [] [] (by simp [go_sem] <;> (repeat' (first | rfl | constructor))) (by simp [go_sem] <;> (repeat' (first | rfl | constructor))) ?_; all_goals try simp only [go_sem, simprocAttr]) | ((with_reducible refine (id ?_ : EvCall _ _ [.agg [_,_,_,_,_,_,_,_,_,_,.bor [] (intss q.sz),.bor [] (intsss q.bef),_]] _ _)); refine EvCall.mk (v2) cal_l22Is [] [] (by simp [go_sem] <;> (repeat' (first | rfl | constructor))) (by simp [go_sem] <;> (repeat' (first | rfl | constructor))) ?_; all_goals try simp only [go_sem, simprocAttr]) | ((with_reducible refine (id ?_ : EvCall _ _ [.agg [iv p.src.ob,_,_,_,_],_] _ _)); refine EvCall.mk (v3) cal_l02Same [] [] (by simp [go_sem] <;> (repeat' (first | rfl | constructor))) (by simp [go_sem] <;> (repeat' (first | rfl | constructor))) ?_; all_goals try simp only [go_sem, simprocAttr]) | ((with_reducible refine (id ?_ : EvCall _ _ [.agg [iv p.tgt.ob,_,_,_,_],_] _ _)); refine EvCall.mk (v4) cal_l02Same [] [] (by simp [go_sem] <;> (repeat' (first | rfl | constructor))) (by simp [go_sem] <;> (repeat' (first | rfl | constructor))) ?_; all_goals try simp only [go_sem, simprocAttr]) | (refine fun (hc : (_ : Bool) = _) => ?_; try simp only [hcS] at hc))
        all_goals try exact om_
        all_goals ((first | refine ret_auto ?_ | refine ret_auto' ?_); simp only [go_sem, simprocAttr, Try.f16])
    · rw [dec_f c1] at v3
      obtain rfl : code = 5 := by
        rcases h with ⟨_, h⟩ | ⟨h, _⟩
        · exact h
        · exact absurd h.1 c1
      refine spec_of_V (E := TE) 0 Try.func16 rfl (by simp [Try.f16]) fun X hn hX => ?_
      repeat' (first | (with_reducible first | refine V_seq ?_ | refine V_skip ?_ | refine V_ret ?_) | ((with_reducible refine V_cond ?_); simp only [go_sem, simprocAttr]) | ((refine V_region (by rw [hn]; rfl) ?_); intro K hK) | ((first | with_reducible refine evOps_n ?_ | ((with_reducible apply evOps_g); rfl)); intro K hK; simp (contextual := true) only [go_sem, simprocAttr]) | with_reducible refine evOps_nil ?_ | ((with_reducible refine hK _ ?_); clear hK K) | (with_reducible first | refine And.intro ?_ ?_ | refine nxt_n ?_ | refine nxt_r ?_ | refine inR_mk ?_ ?_) | ((with_reducible refine (id ?_ : EvCall _ _ [.agg [_,_,_,_,_,_,_,_,_,_,.bor [] (intss p.sz),.bor [] (intsss p.bef),_]] _ _)); refine EvCall.mk (v1) cal_l22Is [] [] (by simp [go_sem] <;> (repeat' (first | rfl | constructor))) (by simp [go_sem] <;> (repeat' (first | rfl | constructor))) ?_; all_goals try simp only [go_sem, simprocAttr]) | ((with_reducible refine (id ?_ : EvCall _ _ [.agg [_,_,_,_,_,_,_,_,_,_,.bor [] (intss q.sz),.bor [] (intsss q.bef),_]] _ _)); refine EvCall.mk (v2) cal_l22Is [] [] (by simp [go_sem] <;> (repeat' (first | rfl | constructor))) (by simp [go_sem] <;> (repeat' (first | rfl | constructor))) ?_; all_goals try simp only [go_sem, simprocAttr]) | ((with_reducible refine (id ?_ : EvCall _ _ [.agg [iv p.src.ob,_,_,_,_],_] _ _)); refine EvCall.mk (v3) cal_l02Same [] [] (by simp [go_sem] <;> (repeat' (first | rfl | constructor))) (by simp [go_sem] <;> (repeat' (first | rfl | constructor))) ?_; all_goals try simp only [go_sem, simprocAttr]) | (refine fun (hc : (_ : Bool) = _) => ?_; try simp only [hcS] at hc))
      all_goals try exact om_
      all_goals ((first | refine ret_auto ?_ | refine ret_auto' ?_); simp only [go_sem, simprocAttr, Try.f16])
def _root_.Go.Cats.rS (l : List Int) : Nat → Int
  | 0 => 0
  | y + 1 => rS l y + l.getD y 0
def _root_.Go.Cats.rO (L : List (List Int)) (n : Nat) : Nat → Int
  | 0 => 0
  | x + 1 => rO L n x + rS (L.getD x []) n
def _root_.Go.Cats.Prof.off (p : Prof) (x y : Nat) : Int := rO p.sz p.tgt.ob.toNat x + rS (p.sz.getD x []) y
def _root_.Go.Cats.Prof.num (p : Prof) : Int := rO p.sz p.tgt.ob.toNat p.src.ob.toNat
section
variable {p : Prof} {x y : Nat}
theorem off_zero : p.off 0 0 = 0 := rfl
theorem off_y : p.off x (y + 1) = p.off x y + (p.sz.getD x []).getD y 0 := by unfold Prof.off; rw [rS]; omega
theorem off_x : p.off (x + 1) 0 = p.off x p.tgt.ob.toNat := by unfold Prof.off; rw [rO, rS]; omega
theorem off_num : p.num = p.off p.src.ob.toNat 0 := by unfold Prof.off Prof.num; rw [rS]; omega
theorem rS_bd {l : List Int} (h : ∀ y, y < l.length → 0 ≤ l.getD y 0 ∧ l.getD y 0 < 65) : ∀ y, y ≤ l.length → 0 ≤ rS l y ∧ rS l y ≤ 64 * y
  | 0, _ => by simp [rS]
  | y + 1, hy => by
    have h1 := rS_bd h y (by omega)
    have h2 := h y (by omega)
    rw [rS]; omega
theorem rO_bd {L : List (List Int)} {n : Nat} (hn : n ≤ 8) (h : ∀ x, x < L.length → (L.getD x []).length = n ∧ ∀ y, y < (L.getD x []).length → 0 ≤ (L.getD x []).getD y 0 ∧ (L.getD x []).getD y 0 < 65) : ∀ x, x ≤ L.length → 0 ≤ rO L n x ∧ rO L n x ≤ 512 * x
  | 0, _ => by simp [rO]
  | x + 1, hx => by
    have h1 := rO_bd hn h x (by omega)
    have h2 := h x (by omega)
    have h3 := rS_bd h2.2 n (by omega)
    rw [rO]; omega
theorem off_bd (s : PrShape p) (hx : x < p.src.ob.toNat) (hy : y ≤ p.tgt.ob.toNat) : 0 ≤ p.off x y ∧ p.off x y ≤ 4608 := by
  obtain ⟨w1, w2, _⟩ := s.w
  have o8 := s.src.toShape.ob8
  have o4 := s.tgt.toShape.ob8
  have o0 := s.src.toShape.ob0
  have z1 := s.szl
  have h1 := rO_bd (L := p.sz) (n := p.tgt.ob.toNat) (by omega) (fun x hx => ⟨w1 x (by omega), (s.szr x hx).2⟩) x (by omega)
  have h2 := rS_bd (s.szr x (by omega)).2 y (by rw [w1 x hx]; exact hy)
  unfold Prof.off
  omega
theorem num_bd (s : PrShape p) : 0 ≤ p.num ∧ p.num ≤ 4608 := by
  obtain ⟨w1, w2, _⟩ := s.w
  have o8 := s.src.toShape.ob8
  have o4 := s.tgt.toShape.ob8
  have o0 := s.src.toShape.ob0
  have z1 := s.szl
  have h1 := rO_bd (L := p.sz) (n := p.tgt.ob.toNat) (by omega) (fun x hx => ⟨w1 x (by omega), (s.szr x hx).2⟩) p.src.ob.toNat (by omega)
  unfold Prof.num
  omega
def _root_.Go.Cats.Prof.stR (p : Prof) (x n : Nat) : List Int := (List.range n).map fun y => p.off x y
def _root_.Go.Cats.Prof.stL (p : Prof) (n : Nat) : List (List Int) := (List.range n).map fun x => p.stR x p.tgt.ob.toNat
theorem stR_zero : p.stR x 0 = [] := rfl
theorem stL_zero : p.stL 0 = [] := rfl
theorem stR_succ : p.stR x (y + 1) = p.stR x y ++ [p.off x y] := by unfold Prof.stR; rw [List.range_succ, List.map_append, List.map_singleton]
theorem stL_succ : p.stL (x + 1) = p.stL x ++ [p.stR x p.tgt.ob.toNat] := by unfold Prof.stL; rw [List.range_succ, List.map_append, List.map_singleton]
theorem stR_len : (p.stR x y).length = y := by unfold Prof.stR; rw [List.length_map, List.length_range]
theorem stL_len : (p.stL x).length = x := by unfold Prof.stL; rw [List.length_map, List.length_range]
theorem stR_at {n : Nat} (h : y < n) : (p.stR x n).getD y 0 = p.off x y := by
  unfold Prof.stR; rw [List.getD_eq_getElem?_getD, List.getElem?_map, List.getElem?_range h]; rfl
theorem stL_at {n : Nat} (h : x < n) : (p.stL n).getD x [] = p.stR x p.tgt.ob.toNat := by
  unfold Prof.stL; rw [List.getD_eq_getElem?_getD, List.getElem?_map, List.getElem?_range h]; rfl
end
attribute [local go_sem] stR_zero stL_zero
theorem cal_Profunctor_starts : Callable Try.prog 24 := ⟨_, Try.func24, rfl, rfl⟩
theorem sp_Profunctor_starts {p : Prof} (s : PrShape p) : Spec Try.prog 24 [.bptr [] (profD p)] [] (.tup [.sl 0, iv p.num]) [(0, ⟨1, .arr (intss (p.stL p.src.ob.toNat))⟩)] := by
  refine spec_of_V (E := TE) 0 Try.func24 rfl (by simp [Try.f24]) fun X hn hX => ?_
  have o1 := s.src.toShape.ob0
  have o2 := s.tgt.toShape.ob0
  have o3 := s.src.toShape.ob8
  have o4 := s.tgt.toShape.ob8
  have z1 := s.szl
  obtain ⟨w1, w2, w3, w4, w5, w6⟩ := s.w
  have zl : p.sz.length = p.src.ob.toNat := by omega
  rw [← zl]
  repeat' (first | (with_reducible first | refine V_seq ?_ | refine V_block ?_ | refine V_skip ?_ | refine V_ret ?_ | refine V_exit ?_) | ((with_reducible refine V_cond ?_); simp only [go_sem, simprocAttr]) | ((refine V_region (by rw [hn]; rfl) ?_); intro K hK) | ((first | with_reducible refine evOps_n ?_ | ((with_reducible apply evOps_g); rfl)); intro K hK; simp (contextual := true) only [go_sem, simprocAttr]) | with_reducible refine evOps_nil ?_ | ((with_reducible refine hK _ ?_); clear hK K) | (with_reducible first | refine And.intro ?_ ?_ | refine nxt_n ?_ | refine nxt_r ?_ | refine nxt_e ?_ | refine blk_n ?_ | refine blk_r ?_ | refine blk_same ?_ | refine blk_other (by decide) ?_ | refine noG_n ?_ | refine noG_r ?_ | refine noG_e ?_ | refine inR_mk ?_ ?_) | (refine fun (hc : (_ : Bool) = _) => ?_; try simp only [hcS] at hc))
  all_goals try exact om_
  refine V_loopK (G := {x : Nat // x ≤ p.sz.length ∧ (True)}) (fun ⟨x, _⟩ => [(17, iv x), (4, .sl 0), (5, iv (p.off x 0))]) [2, 3, 15, 16] (fun ⟨x, _⟩ => [(0, ⟨1, .arr (intss (p.stL x))⟩)]) [0] (fun zz => p.sz.length - zz.1) ⟨0, Nat.zero_le _, by first | trivial | simp⟩ ?_ ?_
  · exact Imp.auto hX (by simp [go_sem, simprocAttr, off_zero])
  rintro ⟨x, hix, hwx⟩
  simp only [go_sem, simprocAttr]
  have l1 := stL_len (p := p) (x := x)
  rcases Nat.lt_or_ge x p.sz.length with hlx | hgx
  · have g1 := w1 x (by omega)
    repeat' (first | (with_reducible first | refine V_seq ?_ | refine V_block ?_ | refine V_skip ?_ | refine V_ret ?_ | refine V_exit ?_) | ((with_reducible refine V_cond ?_); simp only [go_sem, simprocAttr]) | ((refine V_region (by rw [hn]; rfl) ?_); intro K hK) | ((first | with_reducible refine evOps_n ?_ | ((with_reducible apply evOps_g); rfl)); intro K hK; simp (contextual := true) only [go_sem, simprocAttr]) | with_reducible refine evOps_nil ?_ | ((with_reducible refine hK _ ?_); clear hK K) | (with_reducible first | refine And.intro ?_ ?_ | refine nxt_n ?_ | refine nxt_r ?_ | refine nxt_e ?_ | refine blk_n ?_ | refine blk_r ?_ | refine blk_same ?_ | refine blk_other (by decide) ?_ | refine noG_n ?_ | refine noG_r ?_ | refine noG_e ?_ | refine inR_mk ?_ ?_) | (refine fun (hc : (_ : Bool) = _) => ?_; try simp only [hcS] at hc))
    all_goals try exact om_
    refine V_loopK (G := {y : Nat // y ≤ (p.sz.getD x []).length ∧ (True)}) (fun ⟨y, _⟩ => [(24, iv y), (4, .sl 0), (5, iv (p.off x y)), (8, .sl 1)]) [2, 3, 15, 16, 17, 22, 23] (fun ⟨y, _⟩ => [(0, ⟨1, .arr (intss (p.stL x))⟩), (1, ⟨1, .arr (ints (p.stR x y))⟩)]) [0, 1] (fun zz => (p.sz.getD x []).length - zz.1) ⟨0, Nat.zero_le _, by first | trivial | simp⟩ ?_ ?_
    · exact Imp.au hX
    rintro ⟨y, hiy, hwy⟩
    simp only [go_sem, simprocAttr]
    have l2 := stR_len (p := p) (x := x) (y := y)
    have ob := off_bd (x := x) (y := y) s (by omega) (by omega)
    rcases Nat.lt_or_ge y (p.sz.getD x []).length with hly | hgy
    · have g2 : 0 ≤ (p.sz.getD x []).getD y 0 ∧ (p.sz.getD x []).getD y 0 < 65 := w2 x y (by omega) (by omega)
      have e1 := stR_succ (p := p) (x := x) (y := y)
      have e2 := off_y (p := p) (x := x) (y := y)
      repeat' (first | (with_reducible first | refine V_seq ?_ | refine V_block ?_ | refine V_skip ?_ | refine V_ret ?_ | refine V_exit ?_) | ((with_reducible refine V_cond ?_); simp only [go_sem, simprocAttr]) | ((refine V_region (by rw [hn]; rfl) ?_); intro K hK) | ((first | with_reducible refine evOps_n ?_ | ((with_reducible apply evOps_g); rfl)); intro K hK; simp (contextual := true) only [go_sem, simprocAttr]) | with_reducible refine evOps_nil ?_ | ((with_reducible refine hK _ ?_); clear hK K) | (with_reducible first | refine And.intro ?_ ?_ | refine nxt_n ?_ | refine nxt_r ?_ | refine nxt_e ?_ | refine blk_n ?_ | refine blk_r ?_ | refine blk_same ?_ | refine blk_other (by decide) ?_ | refine noG_n ?_ | refine noG_r ?_ | refine noG_e ?_ | refine inR_mk ?_ ?_) | (refine fun (hc : (_ : Bool) = _) => ?_; try simp only [hcS] at hc))
      all_goals try exact om_
      refine ⟨⟨y + 1, by omega, (by trivial)⟩, by simp only; omega, Imp.auto hX (by simp only [go_sem, simprocAttr, ← e1, ← e2])⟩
    · have ey : y = (p.sz.getD x []).length := by omega
      subst ey
      have e1 := stL_succ (p := p) (x := x)
      have e2 := off_x (p := p) (x := x)
      rw [← g1] at e1 e2
      repeat' (first | (with_reducible first | refine V_seq ?_ | refine V_block ?_ | refine V_skip ?_ | refine V_ret ?_ | refine V_exit ?_) | ((with_reducible refine V_cond ?_); simp only [go_sem, simprocAttr]) | ((refine V_region (by rw [hn]; rfl) ?_); intro K hK) | ((first | with_reducible refine evOps_n ?_ | ((with_reducible apply evOps_g); rfl)); intro K hK; simp (contextual := true) only [go_sem, simprocAttr]) | with_reducible refine evOps_nil ?_ | ((with_reducible refine hK _ ?_); clear hK K) | (with_reducible first | refine And.intro ?_ ?_ | refine nxt_n ?_ | refine nxt_r ?_ | refine nxt_e ?_ | refine blk_n ?_ | refine blk_r ?_ | refine blk_same ?_ | refine blk_other (by decide) ?_ | refine noG_n ?_ | refine noG_r ?_ | refine noG_e ?_ | refine inR_mk ?_ ?_) | (refine fun (hc : (_ : Bool) = _) => ?_; try simp only [hcS] at hc))
      all_goals try exact om_
      refine ⟨⟨x + 1, by omega, (by trivial)⟩, by simp only; omega, Imp.auto hX (by simp only [go_sem, simprocAttr, ← e1, ← e2])⟩
  · have ex : x = p.sz.length := by omega
    subst ex
    have e := off_num (p := p)
    rw [← zl] at e
    rw [e]
    repeat' (first | (with_reducible first | refine V_seq ?_ | refine V_block ?_ | refine V_skip ?_ | refine V_ret ?_ | refine V_exit ?_) | ((with_reducible refine V_cond ?_); simp only [go_sem, simprocAttr]) | ((refine V_region (by rw [hn]; rfl) ?_); intro K hK) | ((first | with_reducible refine evOps_n ?_ | ((with_reducible apply evOps_g); rfl)); intro K hK; simp (contextual := true) only [go_sem, simprocAttr]) | with_reducible refine evOps_nil ?_ | ((with_reducible refine hK _ ?_); clear hK K) | (with_reducible first | refine And.intro ?_ ?_ | refine nxt_n ?_ | refine nxt_r ?_ | refine nxt_e ?_ | refine blk_n ?_ | refine blk_r ?_ | refine blk_same ?_ | refine blk_other (by decide) ?_ | refine noG_n ?_ | refine noG_r ?_ | refine noG_e ?_ | refine inR_mk ?_ ?_) | (refine fun (hc : (_ : Bool) = _) => ?_; try simp only [hcS] at hc))
    all_goals try exact om_
    all_goals ((first | refine ret_auto ?_ | refine ret_auto' ?_); simp only [go_sem, simprocAttr, Try.f24])
end Go.Eng
