/- A category is drawn: the family, sums, products. -/
import Derived.Test.YtbflkfamigcncaaGreatZ11q
set_option linter.unusedSimpArgs false
set_option linter.unusedVariables false
set_option maxRecDepth 100000
set_option maxHeartbeats 32000000
namespace Go.Eng
open Go Go.Proofs Go.Cats
open Zp (cal_l02Fits cal_l03Product)
attribute [local go_sem] List.set_cons_zero List.set_cons_succ
def tryA (s : RnS) : Cat × RnS := if nextF (famF s).2 5 = 0 then (smC (famF s).1 (famF (nextS (famF s).2 5)).1, (famF (nextS (famF s).2 5)).2) else ((famF s).1, nextS (famF s).2 5)
def tryF (s : RnS) : Cat × RnS := if nextF (tryA s).2 8 = 0 then (prC (tryA s).1 (famF (nextS (tryA s).2 8)).1, (famF (nextS (tryA s).2 8)).2) else ((tryA s).1, nextS (tryA s).2 8)
def somF (o m : Int) : Nat → RnS → Cat × RnS
  | 0, s => (one1, s)
  | k + 1, s => if (tryF s).1.ob ≤ o ∧ ((tryF s).1.fr.length : Int) ≤ m then tryF s else somF o m k (tryF s).2
section
variable {s : RnS} {o m : Int}
theorem tryA_ok (h : RnOk s) : RnOk (tryA s).2 ∧ IsCat (tryA s).1 := by
  obtain ⟨k1, c1, _⟩ := famF_ok h
  obtain ⟨o1, l1⟩ := famF_few h
  have ok := nextS_ok (n := 5) k1
  obtain ⟨k2, c2, _⟩ := famF_ok ok
  obtain ⟨o2, l2⟩ := famF_few ok
  unfold tryA
  split
  · exact ⟨k2, smC_cat c1 c2 (by omega) (by omega)⟩
  · exact ⟨ok, c1⟩
theorem tryF_ok (h : RnOk s) : RnOk (tryF s).2 ∧ ((tryF s).1.ob ≤ 8 → (tryF s).1.fr.length ≤ 40 → IsCat (tryF s).1) := by
  obtain ⟨k1, c1⟩ := tryA_ok h
  have ok := nextS_ok (n := 8) k1
  obtain ⟨k2, c2, _⟩ := famF_ok ok
  unfold tryF
  split
  · refine ⟨k2, fun h8 h40 => prC_cat c1 c2 h8 ?_⟩
    have e : (prC (tryA s).1 (famF (nextS (tryA s).2 8)).1).fr.length = (tryA s).1.fr.length * (famF (nextS (tryA s).2 8)).1.fr.length := pq_len
    simp only at h40
    omega
  · exact ⟨ok, fun _ _ => c1⟩
theorem somF_ok (ho : o ≤ 8) (hm : m ≤ 40) (ho1 : 1 ≤ o) (hm1 : 1 ≤ m) : ∀ (k : Nat) (s : RnS), RnOk s → RnOk (somF o m k s).2 ∧ IsCat (somF o m k s).1 ∧ (somF o m k s).1.ob ≤ o ∧ ((somF o m k s).1.fr.length : Int) ≤ m
  | 0, s, h => ⟨h, po1.cat, ho1, hm1⟩
  | k + 1, s, h => by
    obtain ⟨k1, c1⟩ := tryF_ok h
    unfold somF
    split
    · rename_i q
      exact ⟨k1, c1 (by omega) (by omega), q.1, q.2⟩
    · exact somF_ok ho hm ho1 hm1 k _ k1
theorem somF_yes {k : Nat} (h : (tryF s).1.ob ≤ o ∧ ((tryF s).1.fr.length : Int) ≤ m) : somF o m (k + 1) s = tryF s := by rw [somF, if_pos h]
theorem somF_no {k : Nat} (h : ¬ ((tryF s).1.ob ≤ o ∧ ((tryF s).1.fr.length : Int) ≤ m)) : somF o m (k + 1) s = somF o m k (tryF s).2 := by rw [somF, if_neg h]
end
theorem cal_l02Some : Callable Tryz.prog 145 := ⟨_, Tryz.func145, rfl, rfl⟩
theorem sp_l02Some {s : RnS} {o m : Int} (hs : RnOk s) (ho : o ≤ 8) (hm : m ≤ 40) : Spec Tryz.prog 145 [.ptr 0 0, iv o, iv m] [(0, srcR s)] (.agg [iv (somF o m 12 s).1.ob, .sl 1, .sl 2, .sl 3, .sl 4]) [(0, srcR (somF o m 12 s).2), (1, ⟨1, .arr (ints (somF o m 12 s).1.fr)⟩), (2, ⟨1, .arr (ints (somF o m 12 s).1.to)⟩), (3, ⟨1, .arr (ints (somF o m 12 s).1.id)⟩), (4, ⟨1, .arr (intss (somF o m 12 s).1.co)⟩)] := by
  obtain ⟨F, hF⟩ : ∃ F, somF o m 12 s = F := ⟨_, rfl⟩
  rw [hF]
  have hone : Spec Tryz.prog 153 [.bor [] (intss [[1]])] [] (.agg [iv one1.ob, .sl 0, .sl 1, .sl 2, .sl 3]) [(0, ⟨1, .arr (ints one1.fr)⟩), (1, ⟨1, .arr (ints one1.to)⟩), (2, ⟨1, .arr (ints one1.id)⟩), (3, ⟨1, .arr (intss one1.co)⟩)] := sp_l03Poset po1 rfl (by decide)
  refine spec_of_V (E := TE) 1 Tryz.func145 rfl (by simp [Tryz.f145]) fun X hn hX => ?_
  repeat' (first | with_reducible refine St.f ?_ | ((with_reducible refine V_cond ?_); simp only [go_sem, simprocAttr]) | ((first | refine V_rg ?_ | refine V_dr ?_); intro K hK) | ((first | with_reducible refine So.f ?_ | ((with_reducible apply evOps_g); rfl) | ((with_reducible apply evOpsD_g); rfl)); intro K hK; simp (contextual := true) only [go_sem, simprocAttr]) | ((with_reducible refine evOpsD_nil ?_ ?_); kernel_rfl) | ((with_reducible refine hK _ ?_); clear hK K) | (with_reducible first | refine And.intro ?_ ?_ | refine blk_other (by decide) ?_ | refine inR_mk ?_ ?_) | (refine fun (hc : (_ : Bool) = _) => ?_; try simp only [hcS] at hc))
  all_goals try exact om_
  refine V_loopK (G := {p : Nat × RnS // p.1 ≤ 12 ∧ RnOk p.2 ∧ somF o m (12 - p.1) p.2 = F}) (fun p => [(7, iv p.1.1), (0, .ptr 0 0), (1, iv o), (2, iv m), (6, .ptr 1 0)]) [] (fun p => [(0, srcR p.1.2)]) [0] (fun p => 12 - p.1.1) ⟨(0, s), by simp, hs, hF⟩ ?_ ?_
  · exact Imp.au hX
  rintro ⟨⟨k, t⟩, hk, hk2, hk3⟩
  simp only at hk hk2 hk3
  simp only [go_sem, simprocAttr]
  rcases Nat.lt_or_ge k 12 with hlt | hge
  · rw [show 12 - k = (12 - (k + 1)) + 1 by omega] at hk3
    obtain ⟨ka, ca, _⟩ := famF_ok hk2
    have hA := sp_l02Family hk2
    obtain ⟨kT, _⟩ := tryF_ok hk2
    obtain ⟨kA, cA⟩ := tryA_ok hk2
    obtain ⟨a, ta, hfa⟩ : ∃ a ta, famF t = (a, ta) := ⟨_, _, rfl⟩
    rw [hfa] at ka ca hA
    simp only at ka ca hA
    have hB := sp_l01Next (n := 5) ka
    have kb := nextS_ok (n := 5) ka
    by_cases h5 : nextF ta 5 = 0
    · have hC := sp_l02Family kb
      obtain ⟨kc, cc, _⟩ := famF_ok kb
      obtain ⟨b, tb, hfb⟩ : ∃ a tc, famF (nextS ta 5) = (a, tc) := ⟨_, _, rfl⟩
      rw [hfb] at kc cc hC
      simp only at kc cc hC
      have hS := sp_l03Sum ca.toShape cc.toShape
      have eA : tryA t = (smC a b, tb) := by unfold tryA; rw [hfa]; simp only [h5, if_true, hfb]
      rw [eA] at kA cA
      simp only at kA cA
      rw [h5] at hB
      obtain ⟨g, hg⟩ : ∃ g, smC a b = g := ⟨_, rfl⟩
      rw [hg] at hS cA eA
      clear hg
      have hD := sp_l01Next (n := 8) kA
      have kd := nextS_ok (n := 8) kA
      by_cases h8 : nextF tb 8 = 0
      · have hE := sp_l02Family kd
        obtain ⟨ke, ce, _⟩ := famF_ok kd
        obtain ⟨e, te, hfe⟩ : ∃ a tc, famF (nextS tb 8) = (a, tc) := ⟨_, _, rfl⟩
        rw [hfe] at ke ce hE
        simp only at ke ce hE
        have hP := Zp.sp_l03Product cA.toShape ce.toShape
        have eT : tryF t = (prC g e, te) := by unfold tryF; rw [eA]; simp only [h8, if_true, hfe]
        rw [eT] at kT
        simp only at kT
        rw [h8] at hD
        obtain ⟨v, hv⟩ : ∃ g', prC g e = g' := ⟨_, rfl⟩
        rw [hv] at hP eT
        clear hv
        by_cases f1 : (v).ob ≤ o
        · by_cases f2 : ((v).fr.length : Int) ≤ m
          · rw [somF_yes (by rw [eT]; exact ⟨f1, f2⟩), eT] at hk3
            have hf := Zp.sp_l02Fits (c := v) (by omega)
            rw [dec_t (show (v).ob ≤ 8 ∧ (v).fr.length ≤ 40 by omega)] at hf
            subst hk3
            repeat' (first | with_reducible refine St.f ?_ | ((with_reducible refine V_cond ?_); simp only [go_sem, simprocAttr]) | ((first | refine V_rg ?_ | refine V_dr ?_); intro K hK) | ((first | with_reducible refine So.f ?_ | ((with_reducible apply evOps_g); rfl) | ((with_reducible apply evOpsD_g); rfl)); intro K hK; simp (contextual := true) only [go_sem, simprocAttr]) | ((with_reducible refine evOpsD_nil ?_ ?_); kernel_rfl) | ((with_reducible refine hK _ ?_); clear hK K) | (with_reducible first | refine And.intro ?_ ?_ | refine blk_other (by decide) ?_ | refine inR_mk ?_ ?_) | ((refine (id ?_ : EvCall _ _ _ (⟨_, _, 2⟩ : Ss) _)); refine EvCall.mq (hA) cal_l02Family [(0,0),(1,2),(2,3),(3,4),(4,5)] [] ?_; all_goals try simp only [go_sem, simprocAttr]) | ((with_reducible refine (id ?_ : EvCall _ _ [.ptr 0 0,iv 5] _ _)); refine EvCall.mq (hB) cal_l01Next [(0,0)] [] ?_; all_goals try simp only [go_sem, simprocAttr]) | ((refine (id ?_ : EvCall _ _ _ (⟨_, _, 7⟩ : Ss) _)); refine EvCall.mq (hC) cal_l02Family [(0,0),(1,7),(2,8),(3,9),(4,10)] [] ?_; all_goals try simp only [go_sem, simprocAttr]) | ((with_reducible refine evCall_at 208 ?_); refine EvCall.mq (hS) cal_l03Sum [(0,11),(1,12),(2,13),(3,14)] [2,3,4,5,7,8,9,10] ?_; all_goals try simp only [go_sem, simprocAttr]) | ((with_reducible refine (id ?_ : EvCall _ _ [.ptr 0 0,iv 8] _ _)); refine EvCall.mq (hD) cal_l01Next [(0,0)] [] ?_; all_goals try simp only [go_sem, simprocAttr]) | ((refine (id ?_ : EvCall _ _ _ (⟨_, _, 15⟩ : Ss) _)); refine EvCall.mq (hE) cal_l02Family [(0,0),(1,15),(2,16),(3,17),(4,18)] [] ?_; all_goals try simp only [go_sem, simprocAttr]) | ((with_reducible refine evCall_at 209 ?_); refine EvCall.mq (hP) cal_l03Product [(0,19),(1,20),(2,21),(3,22)] [11,12,13,14,15,16,17,18] ?_; all_goals try simp only [go_sem, simprocAttr]) | ((with_reducible refine evCall_at 190 ?_); refine EvCall.mq (hf) cal_l02Fits [] [19,20,21,22] ?_; all_goals try simp only [go_sem, simprocAttr]) | (refine fun (hc : (_ : Bool) = _) => ?_; try simp only [hcS] at hc))
            all_goals try exact om_
            all_goals try (exfalso; omega)
            (first | refine ret_auto ?_ | refine ret_auto' ?_); simp only [go_sem, simprocAttr, Tryz.f145]
          · rw [somF_no (by rw [eT]; exact fun q => f2 q.2), eT] at hk3
            repeat' (first | with_reducible refine St.f ?_ | ((with_reducible refine V_cond ?_); simp only [go_sem, simprocAttr]) | ((first | refine V_rg ?_ | refine V_dr ?_); intro K hK) | ((first | with_reducible refine So.f ?_ | ((with_reducible apply evOps_g); rfl) | ((with_reducible apply evOpsD_g); rfl)); intro K hK; simp (contextual := true) only [go_sem, simprocAttr]) | ((with_reducible refine evOpsD_nil ?_ ?_); kernel_rfl) | ((with_reducible refine hK _ ?_); clear hK K) | (with_reducible first | refine And.intro ?_ ?_ | refine blk_other (by decide) ?_ | refine inR_mk ?_ ?_) | ((refine (id ?_ : EvCall _ _ _ (⟨_, _, 2⟩ : Ss) _)); refine EvCall.mq (hA) cal_l02Family [(0,0),(1,2),(2,3),(3,4),(4,5)] [] ?_; all_goals try simp only [go_sem, simprocAttr]) | ((with_reducible refine (id ?_ : EvCall _ _ [.ptr 0 0,iv 5] _ _)); refine EvCall.mq (hB) cal_l01Next [(0,0)] [] ?_; all_goals try simp only [go_sem, simprocAttr]) | ((refine (id ?_ : EvCall _ _ _ (⟨_, _, 7⟩ : Ss) _)); refine EvCall.mq (hC) cal_l02Family [(0,0),(1,7),(2,8),(3,9),(4,10)] [] ?_; all_goals try simp only [go_sem, simprocAttr]) | ((with_reducible refine evCall_at 208 ?_); refine EvCall.mq (hS) cal_l03Sum [(0,11),(1,12),(2,13),(3,14)] [2,3,4,5,7,8,9,10] ?_; all_goals try simp only [go_sem, simprocAttr]) | ((with_reducible refine (id ?_ : EvCall _ _ [.ptr 0 0,iv 8] _ _)); refine EvCall.mq (hD) cal_l01Next [(0,0)] [] ?_; all_goals try simp only [go_sem, simprocAttr]) | ((refine (id ?_ : EvCall _ _ _ (⟨_, _, 15⟩ : Ss) _)); refine EvCall.mq (hE) cal_l02Family [(0,0),(1,15),(2,16),(3,17),(4,18)] [] ?_; all_goals try simp only [go_sem, simprocAttr]) | ((with_reducible refine evCall_at 209 ?_); refine EvCall.mq (hP) cal_l03Product [(0,19),(1,20),(2,21),(3,22)] [11,12,13,14,15,16,17,18] ?_; all_goals try simp only [go_sem, simprocAttr]) | (refine fun (hc : (_ : Bool) = _) => ?_; try simp only [hcS] at hc))
            all_goals try exact om_
            all_goals try (exfalso; omega)
            exact ⟨⟨(k + 1, te), by simp only; omega, kT, hk3⟩, by simp only; omega, Imp.au hX⟩
        · rw [somF_no (by rw [eT]; exact fun q => f1 q.1), eT] at hk3
          repeat' (first | with_reducible refine St.f ?_ | ((with_reducible refine V_cond ?_); simp only [go_sem, simprocAttr]) | ((first | refine V_rg ?_ | refine V_dr ?_); intro K hK) | ((first | with_reducible refine So.f ?_ | ((with_reducible apply evOps_g); rfl) | ((with_reducible apply evOpsD_g); rfl)); intro K hK; simp (contextual := true) only [go_sem, simprocAttr]) | ((with_reducible refine evOpsD_nil ?_ ?_); kernel_rfl) | ((with_reducible refine hK _ ?_); clear hK K) | (with_reducible first | refine And.intro ?_ ?_ | refine blk_other (by decide) ?_ | refine inR_mk ?_ ?_) | ((refine (id ?_ : EvCall _ _ _ (⟨_, _, 2⟩ : Ss) _)); refine EvCall.mq (hA) cal_l02Family [(0,0),(1,2),(2,3),(3,4),(4,5)] [] ?_; all_goals try simp only [go_sem, simprocAttr]) | ((with_reducible refine (id ?_ : EvCall _ _ [.ptr 0 0,iv 5] _ _)); refine EvCall.mq (hB) cal_l01Next [(0,0)] [] ?_; all_goals try simp only [go_sem, simprocAttr]) | ((refine (id ?_ : EvCall _ _ _ (⟨_, _, 7⟩ : Ss) _)); refine EvCall.mq (hC) cal_l02Family [(0,0),(1,7),(2,8),(3,9),(4,10)] [] ?_; all_goals try simp only [go_sem, simprocAttr]) | ((with_reducible refine evCall_at 208 ?_); refine EvCall.mq (hS) cal_l03Sum [(0,11),(1,12),(2,13),(3,14)] [2,3,4,5,7,8,9,10] ?_; all_goals try simp only [go_sem, simprocAttr]) | ((with_reducible refine (id ?_ : EvCall _ _ [.ptr 0 0,iv 8] _ _)); refine EvCall.mq (hD) cal_l01Next [(0,0)] [] ?_; all_goals try simp only [go_sem, simprocAttr]) | ((refine (id ?_ : EvCall _ _ _ (⟨_, _, 15⟩ : Ss) _)); refine EvCall.mq (hE) cal_l02Family [(0,0),(1,15),(2,16),(3,17),(4,18)] [] ?_; all_goals try simp only [go_sem, simprocAttr]) | ((with_reducible refine evCall_at 209 ?_); refine EvCall.mq (hP) cal_l03Product [(0,19),(1,20),(2,21),(3,22)] [11,12,13,14,15,16,17,18] ?_; all_goals try simp only [go_sem, simprocAttr]) | (refine fun (hc : (_ : Bool) = _) => ?_; try simp only [hcS] at hc))
          all_goals try exact om_
          all_goals try (exfalso; omega)
          exact ⟨⟨(k + 1, te), by simp only; omega, kT, hk3⟩, by simp only; omega, Imp.au hX⟩
      · have eT : tryF t = (g, nextS tb 8) := by unfold tryF; rw [eA]; simp only [h8, if_false]
        rw [eT] at kT
        simp only at kT
        by_cases f1 : (g).ob ≤ o
        · by_cases f2 : ((g).fr.length : Int) ≤ m
          · rw [somF_yes (by rw [eT]; exact ⟨f1, f2⟩), eT] at hk3
            have hf := Zp.sp_l02Fits (c := g) (by omega)
            rw [dec_t (show (g).ob ≤ 8 ∧ (g).fr.length ≤ 40 by omega)] at hf
            subst hk3
            repeat' (first | with_reducible refine St.f ?_ | ((with_reducible refine V_cond ?_); simp only [go_sem, simprocAttr]) | ((first | refine V_rg ?_ | refine V_dr ?_); intro K hK) | ((first | with_reducible refine So.f ?_ | ((with_reducible apply evOps_g); rfl) | ((with_reducible apply evOpsD_g); rfl)); intro K hK; simp (contextual := true) only [go_sem, simprocAttr]) | ((with_reducible refine evOpsD_nil ?_ ?_); kernel_rfl) | ((with_reducible refine hK _ ?_); clear hK K) | (with_reducible first | refine And.intro ?_ ?_ | refine blk_other (by decide) ?_ | refine inR_mk ?_ ?_) | ((refine (id ?_ : EvCall _ _ _ (⟨_, _, 2⟩ : Ss) _)); refine EvCall.mq (hA) cal_l02Family [(0,0),(1,2),(2,3),(3,4),(4,5)] [] ?_; all_goals try simp only [go_sem, simprocAttr]) | ((with_reducible refine (id ?_ : EvCall _ _ [.ptr 0 0,iv 5] _ _)); refine EvCall.mq (hB) cal_l01Next [(0,0)] [] ?_; all_goals try simp only [go_sem, simprocAttr]) | ((refine (id ?_ : EvCall _ _ _ (⟨_, _, 7⟩ : Ss) _)); refine EvCall.mq (hC) cal_l02Family [(0,0),(1,7),(2,8),(3,9),(4,10)] [] ?_; all_goals try simp only [go_sem, simprocAttr]) | ((with_reducible refine evCall_at 208 ?_); refine EvCall.mq (hS) cal_l03Sum [(0,11),(1,12),(2,13),(3,14)] [2,3,4,5,7,8,9,10] ?_; all_goals try simp only [go_sem, simprocAttr]) | ((with_reducible refine (id ?_ : EvCall _ _ [.ptr 0 0,iv 8] _ _)); refine EvCall.mq (hD) cal_l01Next [(0,0)] [] ?_; all_goals try simp only [go_sem, simprocAttr]) | ((with_reducible refine evCall_at 190 ?_); refine EvCall.mq (hf) cal_l02Fits [] [11,12,13,14] ?_; all_goals try simp only [go_sem, simprocAttr]) | (refine fun (hc : (_ : Bool) = _) => ?_; try simp only [hcS] at hc))
            all_goals try exact om_
            all_goals try (exfalso; omega)
            (first | refine ret_auto ?_ | refine ret_auto' ?_); simp only [go_sem, simprocAttr, Tryz.f145]
          · rw [somF_no (by rw [eT]; exact fun q => f2 q.2), eT] at hk3
            repeat' (first | with_reducible refine St.f ?_ | ((with_reducible refine V_cond ?_); simp only [go_sem, simprocAttr]) | ((first | refine V_rg ?_ | refine V_dr ?_); intro K hK) | ((first | with_reducible refine So.f ?_ | ((with_reducible apply evOps_g); rfl) | ((with_reducible apply evOpsD_g); rfl)); intro K hK; simp (contextual := true) only [go_sem, simprocAttr]) | ((with_reducible refine evOpsD_nil ?_ ?_); kernel_rfl) | ((with_reducible refine hK _ ?_); clear hK K) | (with_reducible first | refine And.intro ?_ ?_ | refine blk_other (by decide) ?_ | refine inR_mk ?_ ?_) | ((refine (id ?_ : EvCall _ _ _ (⟨_, _, 2⟩ : Ss) _)); refine EvCall.mq (hA) cal_l02Family [(0,0),(1,2),(2,3),(3,4),(4,5)] [] ?_; all_goals try simp only [go_sem, simprocAttr]) | ((with_reducible refine (id ?_ : EvCall _ _ [.ptr 0 0,iv 5] _ _)); refine EvCall.mq (hB) cal_l01Next [(0,0)] [] ?_; all_goals try simp only [go_sem, simprocAttr]) | ((refine (id ?_ : EvCall _ _ _ (⟨_, _, 7⟩ : Ss) _)); refine EvCall.mq (hC) cal_l02Family [(0,0),(1,7),(2,8),(3,9),(4,10)] [] ?_; all_goals try simp only [go_sem, simprocAttr]) | ((with_reducible refine evCall_at 208 ?_); refine EvCall.mq (hS) cal_l03Sum [(0,11),(1,12),(2,13),(3,14)] [2,3,4,5,7,8,9,10] ?_; all_goals try simp only [go_sem, simprocAttr]) | ((with_reducible refine (id ?_ : EvCall _ _ [.ptr 0 0,iv 8] _ _)); refine EvCall.mq (hD) cal_l01Next [(0,0)] [] ?_; all_goals try simp only [go_sem, simprocAttr]) | (refine fun (hc : (_ : Bool) = _) => ?_; try simp only [hcS] at hc))
            all_goals try exact om_
            all_goals try (exfalso; omega)
            exact ⟨⟨(k + 1, nextS tb 8), by simp only; omega, kT, hk3⟩, by simp only; omega, Imp.au hX⟩
        · rw [somF_no (by rw [eT]; exact fun q => f1 q.1), eT] at hk3
          repeat' (first | with_reducible refine St.f ?_ | ((with_reducible refine V_cond ?_); simp only [go_sem, simprocAttr]) | ((first | refine V_rg ?_ | refine V_dr ?_); intro K hK) | ((first | with_reducible refine So.f ?_ | ((with_reducible apply evOps_g); rfl) | ((with_reducible apply evOpsD_g); rfl)); intro K hK; simp (contextual := true) only [go_sem, simprocAttr]) | ((with_reducible refine evOpsD_nil ?_ ?_); kernel_rfl) | ((with_reducible refine hK _ ?_); clear hK K) | (with_reducible first | refine And.intro ?_ ?_ | refine blk_other (by decide) ?_ | refine inR_mk ?_ ?_) | ((refine (id ?_ : EvCall _ _ _ (⟨_, _, 2⟩ : Ss) _)); refine EvCall.mq (hA) cal_l02Family [(0,0),(1,2),(2,3),(3,4),(4,5)] [] ?_; all_goals try simp only [go_sem, simprocAttr]) | ((with_reducible refine (id ?_ : EvCall _ _ [.ptr 0 0,iv 5] _ _)); refine EvCall.mq (hB) cal_l01Next [(0,0)] [] ?_; all_goals try simp only [go_sem, simprocAttr]) | ((refine (id ?_ : EvCall _ _ _ (⟨_, _, 7⟩ : Ss) _)); refine EvCall.mq (hC) cal_l02Family [(0,0),(1,7),(2,8),(3,9),(4,10)] [] ?_; all_goals try simp only [go_sem, simprocAttr]) | ((with_reducible refine evCall_at 208 ?_); refine EvCall.mq (hS) cal_l03Sum [(0,11),(1,12),(2,13),(3,14)] [2,3,4,5,7,8,9,10] ?_; all_goals try simp only [go_sem, simprocAttr]) | ((with_reducible refine (id ?_ : EvCall _ _ [.ptr 0 0,iv 8] _ _)); refine EvCall.mq (hD) cal_l01Next [(0,0)] [] ?_; all_goals try simp only [go_sem, simprocAttr]) | (refine fun (hc : (_ : Bool) = _) => ?_; try simp only [hcS] at hc))
          all_goals try exact om_
          all_goals try (exfalso; omega)
          exact ⟨⟨(k + 1, nextS tb 8), by simp only; omega, kT, hk3⟩, by simp only; omega, Imp.au hX⟩
    · have eA : tryA t = (a, nextS ta 5) := by unfold tryA; rw [hfa]; simp only [h5, if_false]
      have kA := kb
      have hD := sp_l01Next (n := 8) kA
      have kd := nextS_ok (n := 8) kA
      by_cases h8 : nextF (nextS ta 5) 8 = 0
      · have hE := sp_l02Family kd
        obtain ⟨ke, ce, _⟩ := famF_ok kd
        obtain ⟨e, te, hfe⟩ : ∃ a tc, famF (nextS (nextS ta 5) 8) = (a, tc) := ⟨_, _, rfl⟩
        rw [hfe] at ke ce hE
        simp only at ke ce hE
        have hP := Zp.sp_l03Product ca.toShape ce.toShape
        have eT : tryF t = (prC a e, te) := by unfold tryF; rw [eA]; simp only [h8, if_true, hfe]
        rw [eT] at kT
        simp only at kT
        rw [h8] at hD
        obtain ⟨v, hv⟩ : ∃ g', prC a e = g' := ⟨_, rfl⟩
        rw [hv] at hP eT
        clear hv
        by_cases f1 : (v).ob ≤ o
        · by_cases f2 : ((v).fr.length : Int) ≤ m
          · rw [somF_yes (by rw [eT]; exact ⟨f1, f2⟩), eT] at hk3
            have hf := Zp.sp_l02Fits (c := v) (by omega)
            rw [dec_t (show (v).ob ≤ 8 ∧ (v).fr.length ≤ 40 by omega)] at hf
            subst hk3
            repeat' (first | (exact absurd (by assumption) h5) | with_reducible refine St.f ?_ | ((with_reducible refine V_cond ?_); simp only [go_sem, simprocAttr]) | ((first | refine V_rg ?_ | refine V_dr ?_); intro K hK) | ((first | with_reducible refine So.f ?_ | ((with_reducible apply evOps_g); rfl) | ((with_reducible apply evOpsD_g); rfl)); intro K hK; simp (contextual := true) only [go_sem, simprocAttr]) | ((with_reducible refine evOpsD_nil ?_ ?_); kernel_rfl) | ((with_reducible refine hK _ ?_); clear hK K) | (with_reducible first | refine And.intro ?_ ?_ | refine blk_other (by decide) ?_ | refine inR_mk ?_ ?_) | ((refine (id ?_ : EvCall _ _ _ (⟨_, _, 2⟩ : Ss) _)); refine EvCall.mq (hA) cal_l02Family [(0,0),(1,2),(2,3),(3,4),(4,5)] [] ?_; all_goals try simp only [go_sem, simprocAttr]) | ((with_reducible refine (id ?_ : EvCall _ _ [.ptr 0 0,iv 5] _ _)); refine EvCall.mq (hB) cal_l01Next [(0,0)] [] ?_; all_goals try simp only [go_sem, simprocAttr]) | ((with_reducible refine (id ?_ : EvCall _ _ [.ptr 0 0,iv 8] _ _)); refine EvCall.mq (hD) cal_l01Next [(0,0)] [] ?_; all_goals try simp only [go_sem, simprocAttr]) | ((refine (id ?_ : EvCall _ _ _ (⟨_, _, 7⟩ : Ss) _)); refine EvCall.mq (hE) cal_l02Family [(0,0),(1,7),(2,8),(3,9),(4,10)] [] ?_; all_goals try simp only [go_sem, simprocAttr]) | ((with_reducible refine evCall_at 209 ?_); refine EvCall.mq (hP) cal_l03Product [(0,11),(1,12),(2,13),(3,14)] [2,3,4,5,7,8,9,10] ?_; all_goals try simp only [go_sem, simprocAttr]) | ((with_reducible refine evCall_at 190 ?_); refine EvCall.mq (hf) cal_l02Fits [] [11,12,13,14] ?_; all_goals try simp only [go_sem, simprocAttr]) | (refine fun (hc : (_ : Bool) = _) => ?_; try simp only [hcS] at hc))
            all_goals try exact om_
            all_goals try (exfalso; omega)
            (first | refine ret_auto ?_ | refine ret_auto' ?_); simp only [go_sem, simprocAttr, Tryz.f145]
          · rw [somF_no (by rw [eT]; exact fun q => f2 q.2), eT] at hk3
            repeat' (first | (exact absurd (by assumption) h5) | with_reducible refine St.f ?_ | ((with_reducible refine V_cond ?_); simp only [go_sem, simprocAttr]) | ((first | refine V_rg ?_ | refine V_dr ?_); intro K hK) | ((first | with_reducible refine So.f ?_ | ((with_reducible apply evOps_g); rfl) | ((with_reducible apply evOpsD_g); rfl)); intro K hK; simp (contextual := true) only [go_sem, simprocAttr]) | ((with_reducible refine evOpsD_nil ?_ ?_); kernel_rfl) | ((with_reducible refine hK _ ?_); clear hK K) | (with_reducible first | refine And.intro ?_ ?_ | refine blk_other (by decide) ?_ | refine inR_mk ?_ ?_) | ((refine (id ?_ : EvCall _ _ _ (⟨_, _, 2⟩ : Ss) _)); refine EvCall.mq (hA) cal_l02Family [(0,0),(1,2),(2,3),(3,4),(4,5)] [] ?_; all_goals try simp only [go_sem, simprocAttr]) | ((with_reducible refine (id ?_ : EvCall _ _ [.ptr 0 0,iv 5] _ _)); refine EvCall.mq (hB) cal_l01Next [(0,0)] [] ?_; all_goals try simp only [go_sem, simprocAttr]) | ((with_reducible refine (id ?_ : EvCall _ _ [.ptr 0 0,iv 8] _ _)); refine EvCall.mq (hD) cal_l01Next [(0,0)] [] ?_; all_goals try simp only [go_sem, simprocAttr]) | ((refine (id ?_ : EvCall _ _ _ (⟨_, _, 7⟩ : Ss) _)); refine EvCall.mq (hE) cal_l02Family [(0,0),(1,7),(2,8),(3,9),(4,10)] [] ?_; all_goals try simp only [go_sem, simprocAttr]) | ((with_reducible refine evCall_at 209 ?_); refine EvCall.mq (hP) cal_l03Product [(0,11),(1,12),(2,13),(3,14)] [2,3,4,5,7,8,9,10] ?_; all_goals try simp only [go_sem, simprocAttr]) | (refine fun (hc : (_ : Bool) = _) => ?_; try simp only [hcS] at hc))
            all_goals try exact om_
            all_goals try (exfalso; omega)
            exact ⟨⟨(k + 1, te), by simp only; omega, kT, hk3⟩, by simp only; omega, Imp.au hX⟩
        · rw [somF_no (by rw [eT]; exact fun q => f1 q.1), eT] at hk3
          repeat' (first | (exact absurd (by assumption) h5) | with_reducible refine St.f ?_ | ((with_reducible refine V_cond ?_); simp only [go_sem, simprocAttr]) | ((first | refine V_rg ?_ | refine V_dr ?_); intro K hK) | ((first | with_reducible refine So.f ?_ | ((with_reducible apply evOps_g); rfl) | ((with_reducible apply evOpsD_g); rfl)); intro K hK; simp (contextual := true) only [go_sem, simprocAttr]) | ((with_reducible refine evOpsD_nil ?_ ?_); kernel_rfl) | ((with_reducible refine hK _ ?_); clear hK K) | (with_reducible first | refine And.intro ?_ ?_ | refine blk_other (by decide) ?_ | refine inR_mk ?_ ?_) | ((refine (id ?_ : EvCall _ _ _ (⟨_, _, 2⟩ : Ss) _)); refine EvCall.mq (hA) cal_l02Family [(0,0),(1,2),(2,3),(3,4),(4,5)] [] ?_; all_goals try simp only [go_sem, simprocAttr]) | ((with_reducible refine (id ?_ : EvCall _ _ [.ptr 0 0,iv 5] _ _)); refine EvCall.mq (hB) cal_l01Next [(0,0)] [] ?_; all_goals try simp only [go_sem, simprocAttr]) | ((with_reducible refine (id ?_ : EvCall _ _ [.ptr 0 0,iv 8] _ _)); refine EvCall.mq (hD) cal_l01Next [(0,0)] [] ?_; all_goals try simp only [go_sem, simprocAttr]) | ((refine (id ?_ : EvCall _ _ _ (⟨_, _, 7⟩ : Ss) _)); refine EvCall.mq (hE) cal_l02Family [(0,0),(1,7),(2,8),(3,9),(4,10)] [] ?_; all_goals try simp only [go_sem, simprocAttr]) | ((with_reducible refine evCall_at 209 ?_); refine EvCall.mq (hP) cal_l03Product [(0,11),(1,12),(2,13),(3,14)] [2,3,4,5,7,8,9,10] ?_; all_goals try simp only [go_sem, simprocAttr]) | (refine fun (hc : (_ : Bool) = _) => ?_; try simp only [hcS] at hc))
          all_goals try exact om_
          all_goals try (exfalso; omega)
          exact ⟨⟨(k + 1, te), by simp only; omega, kT, hk3⟩, by simp only; omega, Imp.au hX⟩
      · have eT : tryF t = (a, nextS (nextS ta 5) 8) := by unfold tryF; rw [eA]; simp only [h8, if_false]
        rw [eT] at kT
        simp only at kT
        by_cases f1 : (a).ob ≤ o
        · by_cases f2 : ((a).fr.length : Int) ≤ m
          · rw [somF_yes (by rw [eT]; exact ⟨f1, f2⟩), eT] at hk3
            have hf := Zp.sp_l02Fits (c := a) (by omega)
            rw [dec_t (show (a).ob ≤ 8 ∧ (a).fr.length ≤ 40 by omega)] at hf
            subst hk3
            repeat' (first | with_reducible refine St.f ?_ | ((with_reducible refine V_cond ?_); simp only [go_sem, simprocAttr]) | ((first | refine V_rg ?_ | refine V_dr ?_); intro K hK) | ((first | with_reducible refine So.f ?_ | ((with_reducible apply evOps_g); rfl) | ((with_reducible apply evOpsD_g); rfl)); intro K hK; simp (contextual := true) only [go_sem, simprocAttr]) | ((with_reducible refine evOpsD_nil ?_ ?_); kernel_rfl) | ((with_reducible refine hK _ ?_); clear hK K) | (with_reducible first | refine And.intro ?_ ?_ | refine blk_other (by decide) ?_ | refine inR_mk ?_ ?_) | ((refine (id ?_ : EvCall _ _ _ (⟨_, _, 2⟩ : Ss) _)); refine EvCall.mq (hA) cal_l02Family [(0,0),(1,2),(2,3),(3,4),(4,5)] [] ?_; all_goals try simp only [go_sem, simprocAttr]) | ((with_reducible refine (id ?_ : EvCall _ _ [.ptr 0 0,iv 5] _ _)); refine EvCall.mq (hB) cal_l01Next [(0,0)] [] ?_; all_goals try simp only [go_sem, simprocAttr]) | ((with_reducible refine (id ?_ : EvCall _ _ [.ptr 0 0,iv 8] _ _)); refine EvCall.mq (hD) cal_l01Next [(0,0)] [] ?_; all_goals try simp only [go_sem, simprocAttr]) | ((with_reducible refine evCall_at 190 ?_); refine EvCall.mq (hf) cal_l02Fits [] [2,3,4,5] ?_; all_goals try simp only [go_sem, simprocAttr]) | (refine fun (hc : (_ : Bool) = _) => ?_; try simp only [hcS] at hc))
            all_goals try exact om_
            all_goals try (exfalso; omega)
            (first | refine ret_auto ?_ | refine ret_auto' ?_); simp only [go_sem, simprocAttr, Tryz.f145]
          · rw [somF_no (by rw [eT]; exact fun q => f2 q.2), eT] at hk3
            repeat' (first | with_reducible refine St.f ?_ | ((with_reducible refine V_cond ?_); simp only [go_sem, simprocAttr]) | ((first | refine V_rg ?_ | refine V_dr ?_); intro K hK) | ((first | with_reducible refine So.f ?_ | ((with_reducible apply evOps_g); rfl) | ((with_reducible apply evOpsD_g); rfl)); intro K hK; simp (contextual := true) only [go_sem, simprocAttr]) | ((with_reducible refine evOpsD_nil ?_ ?_); kernel_rfl) | ((with_reducible refine hK _ ?_); clear hK K) | (with_reducible first | refine And.intro ?_ ?_ | refine blk_other (by decide) ?_ | refine inR_mk ?_ ?_) | ((refine (id ?_ : EvCall _ _ _ (⟨_, _, 2⟩ : Ss) _)); refine EvCall.mq (hA) cal_l02Family [(0,0),(1,2),(2,3),(3,4),(4,5)] [] ?_; all_goals try simp only [go_sem, simprocAttr]) | ((with_reducible refine (id ?_ : EvCall _ _ [.ptr 0 0,iv 5] _ _)); refine EvCall.mq (hB) cal_l01Next [(0,0)] [] ?_; all_goals try simp only [go_sem, simprocAttr]) | ((with_reducible refine (id ?_ : EvCall _ _ [.ptr 0 0,iv 8] _ _)); refine EvCall.mq (hD) cal_l01Next [(0,0)] [] ?_; all_goals try simp only [go_sem, simprocAttr]) | (refine fun (hc : (_ : Bool) = _) => ?_; try simp only [hcS] at hc))
            all_goals try exact om_
            all_goals try (exfalso; omega)
            exact ⟨⟨(k + 1, nextS (nextS ta 5) 8), by simp only; omega, kT, hk3⟩, by simp only; omega, Imp.au hX⟩
        · rw [somF_no (by rw [eT]; exact fun q => f1 q.1), eT] at hk3
          repeat' (first | with_reducible refine St.f ?_ | ((with_reducible refine V_cond ?_); simp only [go_sem, simprocAttr]) | ((first | refine V_rg ?_ | refine V_dr ?_); intro K hK) | ((first | with_reducible refine So.f ?_ | ((with_reducible apply evOps_g); rfl) | ((with_reducible apply evOpsD_g); rfl)); intro K hK; simp (contextual := true) only [go_sem, simprocAttr]) | ((with_reducible refine evOpsD_nil ?_ ?_); kernel_rfl) | ((with_reducible refine hK _ ?_); clear hK K) | (with_reducible first | refine And.intro ?_ ?_ | refine blk_other (by decide) ?_ | refine inR_mk ?_ ?_) | ((refine (id ?_ : EvCall _ _ _ (⟨_, _, 2⟩ : Ss) _)); refine EvCall.mq (hA) cal_l02Family [(0,0),(1,2),(2,3),(3,4),(4,5)] [] ?_; all_goals try simp only [go_sem, simprocAttr]) | ((with_reducible refine (id ?_ : EvCall _ _ [.ptr 0 0,iv 5] _ _)); refine EvCall.mq (hB) cal_l01Next [(0,0)] [] ?_; all_goals try simp only [go_sem, simprocAttr]) | ((with_reducible refine (id ?_ : EvCall _ _ [.ptr 0 0,iv 8] _ _)); refine EvCall.mq (hD) cal_l01Next [(0,0)] [] ?_; all_goals try simp only [go_sem, simprocAttr]) | (refine fun (hc : (_ : Bool) = _) => ?_; try simp only [hcS] at hc))
          all_goals try exact om_
          all_goals try (exfalso; omega)
          exact ⟨⟨(k + 1, nextS (nextS ta 5) 8), by simp only; omega, kT, hk3⟩, by simp only; omega, Imp.au hX⟩
  · obtain rfl : k = 12 := by omega
    have hk4 : (one1, t) = F := hk3
    subst hk4
    repeat' (first | with_reducible refine St.f ?_ | ((with_reducible refine V_cond ?_); simp only [go_sem, simprocAttr]) | ((first | refine V_rg ?_ | refine V_dr ?_); intro K hK) | ((first | with_reducible refine So.f ?_ | ((with_reducible apply evOps_g); rfl) | ((with_reducible apply evOpsD_g); rfl)); intro K hK; simp (contextual := true) only [go_sem, simprocAttr]) | ((with_reducible refine evOpsD_nil ?_ ?_); kernel_rfl) | ((with_reducible refine hK _ ?_); clear hK K) | (with_reducible first | refine And.intro ?_ ?_ | refine blk_other (by decide) ?_ | refine inR_mk ?_ ?_) | ((with_reducible refine evCall_at 153 ?_); refine EvCall.mq (hone) cal_l03Poset [(0,4),(1,5),(2,6),(3,7)] [3] ?_; all_goals try simp only [go_sem, simprocAttr]) | (refine fun (hc : (_ : Bool) = _) => ?_; try simp only [hcS] at hc))
    all_goals try exact om_
    all_goals try (exfalso; omega)
    (first | refine ret_auto ?_ | refine ret_auto' ?_); simp only [go_sem, simprocAttr, Tryz.f145]
end Go.Eng
