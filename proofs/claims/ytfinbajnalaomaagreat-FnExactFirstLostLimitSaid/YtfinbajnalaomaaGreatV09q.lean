/- FirstLostLimit, by the program. -/
import Derived.Test.YtfinbajnalaomaaGreatKavx
import Derived.Test.YtfinbajnalaomaaGreatKapx
set_option linter.unusedSimpArgs false
set_option linter.unusedVariables false
set_option maxRecDepth 100000
set_option maxHeartbeats 16000000
namespace Go.Eng
open Go Go.Proofs Go.Cats
attribute [local go_sem] List.set_cons_zero List.set_cons_succ
def FlO (j : Cat) (f : Fun) (v code : Int) : Prop := (¬ (IsCat j ∧ IsFun f) ∧ v = 0 ∧ code = 1) ∨ ((IsCat j ∧ IsFun f) ∧ ((¬ (MovP j f.src ∧ (fcL j f.src).length ≤ 200) ∧ v = 0 ∧ code = 3) ∨ ((MovP j f.src ∧ (fcL j f.src).length ≤ 200) ∧ LoOut (fcL j f.src) f v code)))
theorem FlO.ex (j : Cat) (f : Fun) : ∃ v code, FlO j f v code := by
  by_cases h : IsCat j ∧ IsFun f
  · by_cases hk : MovP j f.src ∧ (fcL j f.src).length ≤ 200
    · obtain ⟨v, code, ho⟩ := LoOut.ex (fcL j f.src) f
      exact ⟨v, code, .inr ⟨h, .inr ⟨hk, ho⟩⟩⟩
    · exact ⟨0, 3, .inr ⟨h, .inl ⟨hk, rfl, rfl⟩⟩⟩
  · exact ⟨0, 1, .inl ⟨h, rfl, rfl⟩⟩
theorem cal_FirstLostLimit : Callable Tryz.prog 9 := ⟨_, Tryz.func9, rfl, rfl⟩
theorem sp_FirstLostLimit_o {j : Cat} {f : Fun} {v code : Int} (bj : CatB j) (bf : FunB f) (ho : FlO j f v code) : Spec Tryz.prog 9 [catV j, funV f] [] (.tup [iv v, iv code]) [] := by
  rcases ho with ⟨ho, rfl, rfl⟩ | ⟨⟨sj, sf⟩, ho⟩
  · by_cases s1 : IsCat j
    · have v1 := ic_v bj (dec_t s1)
      have v2 := is_v bf (dec_f fun s2 : IsFun f => ho ⟨s1, s2⟩)
      refine spec_of_V (E := TE) 0 Tryz.func9 rfl (by simp [Tryz.f9]) fun X hn hX => ?_
      repeat' (first | (with_reducible first | refine V_seq ?_ | refine V_block ?_ | refine V_skip ?_ | refine V_ret ?_ | refine V_exit ?_) | ((with_reducible refine V_cond ?_); simp only [go_sem, simprocAttr]) | ((refine V_region (by rw [hn]; rfl) ?_); intro K hK) | ((first | with_reducible refine evOps_n ?_ | ((with_reducible apply evOps_g); rfl)); intro K hK; simp (contextual := true) only [go_sem, simprocAttr]) | with_reducible refine evOps_nil ?_ | ((with_reducible refine hK _ ?_); clear hK K) | (with_reducible first | refine And.intro ?_ ?_ | refine nxt_n ?_ | refine nxt_r ?_ | refine nxt_e ?_ | refine blk_n ?_ | refine blk_r ?_ | refine blk_same ?_ | refine blk_other (by decide) ?_ | refine noG_n ?_ | refine noG_r ?_ | refine noG_e ?_ | refine inR_mk ?_ ?_) | ((with_reducible refine evCall_at 21 ?_); refine EvCall.mk (v1) cal_Category_isCategory [] [0] (by simp [go_sem] <;> (repeat' (first | rfl | constructor))) (by simp [go_sem] <;> (repeat' (first | rfl | constructor))) ?_; all_goals try simp only [go_sem, simprocAttr]) | ((with_reducible refine evCall_at 22 ?_); refine EvCall.mk (v2) cal_Functor_isFunctor [] [1] (by simp [go_sem] <;> (repeat' (first | rfl | constructor))) (by simp [go_sem] <;> (repeat' (first | rfl | constructor))) ?_; all_goals try simp only [go_sem, simprocAttr]) | (refine fun (hc : (_ : Bool) = _) => ?_; try simp only [hcS] at hc))
      all_goals try exact om_
      all_goals ((first | refine ret_auto ?_ | refine ret_auto' ?_); simp only [go_sem, simprocAttr, Tryz.f9])
    · have v1 := ic_v bj (dec_f s1)
      refine spec_of_V (E := TE) 0 Tryz.func9 rfl (by simp [Tryz.f9]) fun X hn hX => ?_
      repeat' (first | (with_reducible first | refine V_seq ?_ | refine V_block ?_ | refine V_skip ?_ | refine V_ret ?_ | refine V_exit ?_) | ((with_reducible refine V_cond ?_); simp only [go_sem, simprocAttr]) | ((refine V_region (by rw [hn]; rfl) ?_); intro K hK) | ((first | with_reducible refine evOps_n ?_ | ((with_reducible apply evOps_g); rfl)); intro K hK; simp (contextual := true) only [go_sem, simprocAttr]) | with_reducible refine evOps_nil ?_ | ((with_reducible refine hK _ ?_); clear hK K) | (with_reducible first | refine And.intro ?_ ?_ | refine nxt_n ?_ | refine nxt_r ?_ | refine nxt_e ?_ | refine blk_n ?_ | refine blk_r ?_ | refine blk_same ?_ | refine blk_other (by decide) ?_ | refine noG_n ?_ | refine noG_r ?_ | refine noG_e ?_ | refine inR_mk ?_ ?_) | ((with_reducible refine evCall_at 21 ?_); refine EvCall.mk (v1) cal_Category_isCategory [] [0] (by simp [go_sem] <;> (repeat' (first | rfl | constructor))) (by simp [go_sem] <;> (repeat' (first | rfl | constructor))) ?_; all_goals try simp only [go_sem, simprocAttr]) | (refine fun (hc : (_ : Bool) = _) => ?_; try simp only [hcS] at hc))
      all_goals try exact om_
      all_goals ((first | refine ret_auto ?_ | refine ret_auto' ?_); simp only [go_sem, simprocAttr, Tryz.f9])
  · have v1 := ic_v bj (dec_t sj)
    have v2 := is_v bf (dec_t sf)
    rcases ho with ⟨ho, rfl, rfl⟩ | ⟨hm, ho⟩
    · have ha := sp_AllFunctors_o sj sf.src bj (catB_of sf.src) (.inr ⟨ho, rfl, rfl⟩)
      refine spec_of_V (E := TE) 0 Tryz.func9 rfl (by simp [Tryz.f9]) fun X hn hX => ?_
      repeat' (first | (with_reducible first | refine V_seq ?_ | refine V_block ?_ | refine V_skip ?_ | refine V_ret ?_ | refine V_exit ?_) | ((with_reducible refine V_cond ?_); simp only [go_sem, simprocAttr]) | ((refine V_region (by rw [hn]; rfl) ?_); intro K hK) | ((first | with_reducible refine evOps_n ?_ | ((with_reducible apply evOps_g); rfl)); intro K hK; simp (contextual := true) only [go_sem, simprocAttr]) | with_reducible refine evOps_nil ?_ | ((with_reducible refine hK _ ?_); clear hK K) | (with_reducible first | refine And.intro ?_ ?_ | refine nxt_n ?_ | refine nxt_r ?_ | refine nxt_e ?_ | refine blk_n ?_ | refine blk_r ?_ | refine blk_same ?_ | refine blk_other (by decide) ?_ | refine noG_n ?_ | refine noG_r ?_ | refine noG_e ?_ | refine inR_mk ?_ ?_) | ((with_reducible refine evCall_at 21 ?_); refine EvCall.mk (v1) cal_Category_isCategory [] [0] (by simp [go_sem] <;> (repeat' (first | rfl | constructor))) (by simp [go_sem] <;> (repeat' (first | rfl | constructor))) ?_; all_goals try simp only [go_sem, simprocAttr]) | ((with_reducible refine evCall_at 22 ?_); refine EvCall.mk (v2) cal_Functor_isFunctor [] [1] (by simp [go_sem] <;> (repeat' (first | rfl | constructor))) (by simp [go_sem] <;> (repeat' (first | rfl | constructor))) ?_; all_goals try simp only [go_sem, simprocAttr]) | ((with_reducible refine evCall_at 23 ?_); refine EvCall.mk (ha) cal_AllFunctors [] [] (by simp [go_sem] <;> (repeat' (first | rfl | constructor))) (by simp [go_sem] <;> (repeat' (first | rfl | constructor))) ?_; all_goals try simp only [go_sem, simprocAttr]) | (refine fun (hc : (_ : Bool) = _) => ?_; try simp only [hcS] at hc))
      all_goals try exact om_
      all_goals ((first | refine ret_auto ?_ | refine ret_auto' ?_); simp only [go_sem, simprocAttr, Tryz.f9])
    · have ha := sp_AllFunctors_o sj sf.src bj (catB_of sf.src) (.inl ⟨hm, rfl, rfl⟩)
      have hfl : FL j f.src (fcL j f.src) := FL.of_funX
      obtain ⟨L, hL⟩ : ∃ L, fcL j f.src = L := ⟨_, rfl⟩
      rw [hL] at ha hfl ho hm
      have hL2 := hm.2
      have hfu : ∀ i, i < L.length → IsFun (L.getD i default) ∧ (L.getD i default).tgt = f.src := fun i hi => by
        obtain ⟨g1, g2, g3⟩ := hfl i hi
        exact ⟨⟨by rw [g1]; exact sj, by rw [g2]; exact sf.src, g3⟩, g2⟩
      refine spec_of_V (E := TE) 0 Tryz.func9 rfl (by simp [Tryz.f9]) fun X hn hX => ?_
      repeat' (first | (with_reducible first | refine V_seq ?_ | refine V_block ?_ | refine V_skip ?_ | refine V_ret ?_ | refine V_exit ?_) | ((with_reducible refine V_cond ?_); simp only [go_sem, simprocAttr]) | ((refine V_region (by rw [hn]; rfl) ?_); intro K hK) | ((first | with_reducible refine evOps_n ?_ | ((with_reducible apply evOps_g); rfl)); intro K hK; simp (contextual := true) only [go_sem, simprocAttr]) | with_reducible refine evOps_nil ?_ | ((with_reducible refine hK _ ?_); clear hK K) | (with_reducible first | refine And.intro ?_ ?_ | refine nxt_n ?_ | refine nxt_r ?_ | refine nxt_e ?_ | refine blk_n ?_ | refine blk_r ?_ | refine blk_same ?_ | refine blk_other (by decide) ?_ | refine noG_n ?_ | refine noG_r ?_ | refine noG_e ?_ | refine inR_mk ?_ ?_) | ((with_reducible refine evCall_at 21 ?_); refine EvCall.mk (v1) cal_Category_isCategory [] [0] (by simp [go_sem] <;> (repeat' (first | rfl | constructor))) (by simp [go_sem] <;> (repeat' (first | rfl | constructor))) ?_; all_goals try simp only [go_sem, simprocAttr]) | ((with_reducible refine evCall_at 22 ?_); refine EvCall.mk (v2) cal_Functor_isFunctor [] [1] (by simp [go_sem] <;> (repeat' (first | rfl | constructor))) (by simp [go_sem] <;> (repeat' (first | rfl | constructor))) ?_; all_goals try simp only [go_sem, simprocAttr]) | ((with_reducible refine evCall_at 23 ?_); refine EvCall.mk (ha) cal_AllFunctors [(0,2)] [] (by simp [go_sem] <;> (repeat' (first | rfl | constructor))) (by simp [go_sem] <;> (repeat' (first | rfl | constructor))) ?_; all_goals try simp only [go_sem, simprocAttr]) | (refine fun (hc : (_ : Bool) = _) => ?_; try simp only [hcS] at hc))
      all_goals try exact om_
      refine V_loopK (G := {i : Nat // i ≤ L.length ∧ (∀ k, k < i → OkP L f k)}) (fun ⟨i, _⟩ => [(31, iv i), (2, .ptr 0 0)]) [3, 6, 30] (fun ⟨i, _⟩ => []) [] (fun zz => L.length - zz.1) ⟨0, Nat.zero_le _, by exact (fun k hk => absurd hk (Nat.not_lt_zero k))⟩ ?_ ?_
      · exact Imp.au hX
      rintro ⟨i, hii, hwi⟩
      simp only [go_sem, simprocAttr]
      rcases Nat.lt_or_ge i L.length with hli | hgi
      · have hpi := funs_part L i hli
        obtain ⟨hd, st⟩ := hfu i hli
        by_cases hlm : LimP (L.getD i default) f
        · have hmb := sp_movedBy_yes hd sf st hlm
          obtain ⟨k, t, hk⟩ := KeO.ex (L.getD i default) f (conA (L.getD i default)) (conA (thF (L.getD i default) f))
          have hkp := sp_moved_keeps (mvOK hd sf st hlm) hk
          rcases hk with ⟨h0, rfl, rfl⟩ | ⟨h0, hk, rfl⟩
          · have hok : OkP L f i := ⟨hlm, fun q => limL_none h0 q.1⟩
            repeat' (first | (with_reducible first | refine V_seq ?_ | refine V_block ?_ | refine V_skip ?_ | refine V_ret ?_ | refine V_exit ?_) | ((with_reducible refine V_cond ?_); simp only [go_sem, simprocAttr]) | ((refine V_region (by rw [hn]; rfl) ?_); intro K hK) | ((first | with_reducible refine evOps_n ?_ | ((with_reducible apply evOps_g); rfl)); intro K hK; simp (contextual := true) only [go_sem, simprocAttr]) | with_reducible refine evOps_nil ?_ | ((with_reducible refine hK _ ?_); clear hK K) | (with_reducible first | refine And.intro ?_ ?_ | refine nxt_n ?_ | refine nxt_r ?_ | refine nxt_e ?_ | refine blk_n ?_ | refine blk_r ?_ | refine blk_same ?_ | refine blk_other (by decide) ?_ | refine noG_n ?_ | refine noG_r ?_ | refine noG_e ?_ | refine inR_mk ?_ ?_) | ((with_reducible refine evCall_at 25 ?_); refine EvCall.mk (hkp) cal_moved_keeps [] [3,4,5,6,7,8,9,10,11,12,13,14,15,2,1] (by simp [go_sem] <;> (repeat' (first | rfl | constructor))) (by simp [go_sem] <;> (repeat' (first | rfl | constructor))) ?_; all_goals try simp only [go_sem, simprocAttr]) | ((with_reducible refine evCall_at 24 ?_); refine EvCall.mk hmb cal_movedBy [(0,3),(1,4),(2,5),(3,6),(4,7),(5,8),(6,9),(7,10),(8,11),(9,12),(10,13),(11,14),(12,15)] [2,1] (by simp [go_sem] <;> (repeat' (first | rfl | constructor))) (by simp only [List.append_nil, Sv.mtL, Sv.mt, Sv.viewP]; exact ⟨⟨trivial, by simp, .inr ⟨12, _, _, rfl, hpi⟩⟩, ⟨trivial, by simp, .inl ⟨_, rfl, by simp [go_sem] <;> (repeat' (first | rfl | constructor))⟩⟩, trivial⟩) ?_; all_goals try simp only [go_sem, simprocAttr]) | (refine fun (hc : (_ : Bool) = _) => ?_; try simp only [hcS] at hc))
            all_goals try exact om_
            refine ⟨⟨i + 1, by omega, (by exact ok_succ hwi hok)⟩, by simp only; omega, Imp.ao hX⟩
          · by_cases hu : UnP (thF (L.getD i default) f) (conA (thF (L.getD i default) f)) (imC f ((limL (L.getD i default) (conA (L.getD i default)) (conA (L.getD i default)).length).getD 0 default))
            · rw [dec_t hu] at hk
              subst hk
              have hok : OkP L f i := ⟨hlm, fun q => q.2 hu⟩
              repeat' (first | (with_reducible first | refine V_seq ?_ | refine V_block ?_ | refine V_skip ?_ | refine V_ret ?_ | refine V_exit ?_) | ((with_reducible refine V_cond ?_); simp only [go_sem, simprocAttr]) | ((refine V_region (by rw [hn]; rfl) ?_); intro K hK) | ((first | with_reducible refine evOps_n ?_ | ((with_reducible apply evOps_g); rfl)); intro K hK; simp (contextual := true) only [go_sem, simprocAttr]) | with_reducible refine evOps_nil ?_ | ((with_reducible refine hK _ ?_); clear hK K) | (with_reducible first | refine And.intro ?_ ?_ | refine nxt_n ?_ | refine nxt_r ?_ | refine nxt_e ?_ | refine blk_n ?_ | refine blk_r ?_ | refine blk_same ?_ | refine blk_other (by decide) ?_ | refine noG_n ?_ | refine noG_r ?_ | refine noG_e ?_ | refine inR_mk ?_ ?_) | ((with_reducible refine evCall_at 25 ?_); refine EvCall.mk (hkp) cal_moved_keeps [] [3,4,5,6,7,8,9,10,11,12,13,14,15,2,1] (by simp [go_sem] <;> (repeat' (first | rfl | constructor))) (by simp [go_sem] <;> (repeat' (first | rfl | constructor))) ?_; all_goals try simp only [go_sem, simprocAttr]) | ((with_reducible refine evCall_at 24 ?_); refine EvCall.mk hmb cal_movedBy [(0,3),(1,4),(2,5),(3,6),(4,7),(5,8),(6,9),(7,10),(8,11),(9,12),(10,13),(11,14),(12,15)] [2,1] (by simp [go_sem] <;> (repeat' (first | rfl | constructor))) (by simp only [List.append_nil, Sv.mtL, Sv.mt, Sv.viewP]; exact ⟨⟨trivial, by simp, .inr ⟨12, _, _, rfl, hpi⟩⟩, ⟨trivial, by simp, .inl ⟨_, rfl, by simp [go_sem] <;> (repeat' (first | rfl | constructor))⟩⟩, trivial⟩) ?_; all_goals try simp only [go_sem, simprocAttr]) | (refine fun (hc : (_ : Bool) = _) => ?_; try simp only [hcS] at hc))
              all_goals try exact om_
              refine ⟨⟨i + 1, by omega, (by exact ok_succ hwi hok)⟩, by simp only; omega, Imp.ao hX⟩
            · rw [dec_f hu] at hk
              subst hk
              obtain ⟨rfl, rfl⟩ := ho.lost hli hwi hlm ⟨h0, hu⟩
              repeat' (first | (with_reducible first | refine V_seq ?_ | refine V_block ?_ | refine V_skip ?_ | refine V_ret ?_ | refine V_exit ?_) | ((with_reducible refine V_cond ?_); simp only [go_sem, simprocAttr]) | ((refine V_region (by rw [hn]; rfl) ?_); intro K hK) | ((first | with_reducible refine evOps_n ?_ | ((with_reducible apply evOps_g); rfl)); intro K hK; simp (contextual := true) only [go_sem, simprocAttr]) | with_reducible refine evOps_nil ?_ | ((with_reducible refine hK _ ?_); clear hK K) | (with_reducible first | refine And.intro ?_ ?_ | refine nxt_n ?_ | refine nxt_r ?_ | refine nxt_e ?_ | refine blk_n ?_ | refine blk_r ?_ | refine blk_same ?_ | refine blk_other (by decide) ?_ | refine noG_n ?_ | refine noG_r ?_ | refine noG_e ?_ | refine inR_mk ?_ ?_) | ((with_reducible refine evCall_at 25 ?_); refine EvCall.mk (hkp) cal_moved_keeps [] [3,4,5,6,7,8,9,10,11,12,13,14,15,2,1] (by simp [go_sem] <;> (repeat' (first | rfl | constructor))) (by simp [go_sem] <;> (repeat' (first | rfl | constructor))) ?_; all_goals try simp only [go_sem, simprocAttr]) | ((with_reducible refine evCall_at 24 ?_); refine EvCall.mk hmb cal_movedBy [(0,3),(1,4),(2,5),(3,6),(4,7),(5,8),(6,9),(7,10),(8,11),(9,12),(10,13),(11,14),(12,15)] [2,1] (by simp [go_sem] <;> (repeat' (first | rfl | constructor))) (by simp only [List.append_nil, Sv.mtL, Sv.mt, Sv.viewP]; exact ⟨⟨trivial, by simp, .inr ⟨12, _, _, rfl, hpi⟩⟩, ⟨trivial, by simp, .inl ⟨_, rfl, by simp [go_sem] <;> (repeat' (first | rfl | constructor))⟩⟩, trivial⟩) ?_; all_goals try simp only [go_sem, simprocAttr]) | (refine fun (hc : (_ : Bool) = _) => ?_; try simp only [hcS] at hc))
              all_goals try exact om_
              all_goals ((first | refine ret_auto ?_ | refine ret_auto' ?_); simp only [go_sem, simprocAttr, Tryz.f9])
        · have hmb := sp_movedBy_no hd sf st hlm
          obtain ⟨rfl, rfl⟩ := ho.lim hli hwi hlm
          repeat' (first | (with_reducible first | refine V_seq ?_ | refine V_block ?_ | refine V_skip ?_ | refine V_ret ?_ | refine V_exit ?_) | ((with_reducible refine V_cond ?_); simp only [go_sem, simprocAttr]) | ((refine V_region (by rw [hn]; rfl) ?_); intro K hK) | ((first | with_reducible refine evOps_n ?_ | ((with_reducible apply evOps_g); rfl)); intro K hK; simp (contextual := true) only [go_sem, simprocAttr]) | with_reducible refine evOps_nil ?_ | ((with_reducible refine hK _ ?_); clear hK K) | (with_reducible first | refine And.intro ?_ ?_ | refine nxt_n ?_ | refine nxt_r ?_ | refine nxt_e ?_ | refine blk_n ?_ | refine blk_r ?_ | refine blk_same ?_ | refine blk_other (by decide) ?_ | refine noG_n ?_ | refine noG_r ?_ | refine noG_e ?_ | refine inR_mk ?_ ?_) | ((with_reducible refine evCall_at 24 ?_); refine EvCall.mk hmb cal_movedBy [] [2,1] (by simp [go_sem] <;> (repeat' (first | rfl | constructor))) (by simp only [List.append_nil, Sv.mtL, Sv.mt, Sv.viewP]; exact ⟨⟨trivial, by simp, .inr ⟨12, _, _, rfl, hpi⟩⟩, ⟨trivial, by simp, .inl ⟨_, rfl, by simp [go_sem] <;> (repeat' (first | rfl | constructor))⟩⟩, trivial⟩) ?_; all_goals try simp only [go_sem, simprocAttr]) | (refine fun (hc : (_ : Bool) = _) => ?_; try simp only [hcS] at hc))
          all_goals try exact om_
          all_goals ((first | refine ret_auto ?_ | refine ret_auto' ?_); simp only [go_sem, simprocAttr, Tryz.f9])
      · have ei : i = L.length := by omega
        subst ei
        obtain ⟨rfl, rfl⟩ := ho.end_ hwi
        repeat' (first | (with_reducible first | refine V_seq ?_ | refine V_block ?_ | refine V_skip ?_ | refine V_ret ?_ | refine V_exit ?_) | ((with_reducible refine V_cond ?_); simp only [go_sem, simprocAttr]) | ((refine V_region (by rw [hn]; rfl) ?_); intro K hK) | ((first | with_reducible refine evOps_n ?_ | ((with_reducible apply evOps_g); rfl)); intro K hK; simp (contextual := true) only [go_sem, simprocAttr]) | with_reducible refine evOps_nil ?_ | ((with_reducible refine hK _ ?_); clear hK K) | (with_reducible first | refine And.intro ?_ ?_ | refine nxt_n ?_ | refine nxt_r ?_ | refine nxt_e ?_ | refine blk_n ?_ | refine blk_r ?_ | refine blk_same ?_ | refine blk_other (by decide) ?_ | refine noG_n ?_ | refine noG_r ?_ | refine noG_e ?_ | refine inR_mk ?_ ?_) | (refine fun (hc : (_ : Bool) = _) => ?_; try simp only [hcS] at hc))
        all_goals try exact om_
        all_goals ((first | refine ret_auto ?_ | refine ret_auto' ?_); simp only [go_sem, simprocAttr, Tryz.f9])
end Go.Eng
