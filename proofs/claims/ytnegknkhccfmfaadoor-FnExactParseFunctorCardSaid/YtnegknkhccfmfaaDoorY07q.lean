/- Functors read from texts, by the reference; both outcomes. -/
import Derived.Test.YtnegknkhccfmfaaDoorY06q
set_option linter.unusedSimpArgs false
set_option linter.unusedVariables false
set_option maxRecDepth 100000
set_option maxHeartbeats 16000000
namespace Go.Eng
open Go Go.Proofs Go.Cats
def NmO (s : Bts) (m : Nat) (l : List Int) (v : Bool) : Prop := (NmOk s m ∧ l = numsT s ∧ v = true) ∨ (¬ NmOk s m ∧ l = [] ∧ v = false)
theorem NmO.ex (s : Bts) (m : Nat) : ∃ l v, NmO s m l v := by
  by_cases h : NmOk s m
  · exact ⟨_, _, .inl ⟨h, rfl, rfl⟩⟩
  · exact ⟨_, _, .inr ⟨h, rfl, rfl⟩⟩
theorem sp_l04Numbers_o {s : Bts} {m : Nat} {l : List Int} {v : Bool} (hl : s.length ≤ 1048576) (ho : NmO s m l v) : Spec Tryd.prog 17 [.v (bst s), iv m] [] (.tup [.sl 0, bv v]) [(0, ⟨1, .arr (ints l)⟩)] := by
  rcases ho with ⟨h, rfl, rfl⟩ | ⟨h, rfl, rfl⟩
  · by_cases hs : s = [45]
    · exact sp_l04Numbers_dash hs
    · exact sp_l04Numbers_yes hl hs h
  · have hs : ¬ s = [45] := fun hs => h (by unfold NmOk wordsT; rw [if_pos hs]; exact ⟨Nat.zero_le _, fun w hw => by simp at hw⟩)
    refine Spec.adopt (sp_l04Numbers_no hl hs h) (emptyL_cons_i emptyL_nil) fun w S v cn h => ?_
    simp only [Sv.ok, Sv.okL] at h ⊢
    obtain ⟨vs, rfl, y, r, rfl, hu, hr⟩ := h
    exact ⟨_, rfl, _, _, rfl, ⟨Nat.le_refl 1, hu⟩, hr⟩
theorem NmO.len {s : Bts} {m : Nat} {l : List Int} {v : Bool} (h : NmO s m l v) : l.length ≤ m := by
  rcases h with ⟨h, rfl, _⟩ | ⟨_, rfl, _⟩
  · unfold numsT; rw [List.length_map]; exact h.1
  · simp
theorem ptI_mem {s : Bts} : ∀ i, ∀ w ∈ (ptI s i).1, w.length ≤ s.length
  | 0 => by simp [ptI]
  | i + 1 => fun w hw => by
    have ih := ptI_mem (s := s) i
    unfold ptI at hw
    split at hw
    · rcases List.mem_append.1 hw with h | h
      · exact ih w h
      · rw [List.mem_singleton.1 h, List.length_take, List.length_drop]; omega
    · exact ih w hw
theorem parts_mem {s w : Bts} (h : w ∈ parts s) : w.length ≤ s.length := by
  unfold parts at h
  rcases List.mem_append.1 h with h | h
  · exact ptI_mem _ w h
  · rw [List.mem_singleton.1 h, List.length_drop]; omega
theorem NmO.no {s : Bts} {m : Nat} {l : List Int} (h : NmO s m l false) : ¬ NmOk s m := by
  rcases h with ⟨_, _, h⟩ | ⟨h, _⟩
  · cases h
  · exact h
theorem NmO.yes {s : Bts} {m : Nat} {l : List Int} (h : NmO s m l true) : NmOk s m ∧ l = numsT s := by
  rcases h with ⟨h, e, _⟩ | ⟨_, _, h⟩
  · exact ⟨h, e⟩
  · cases h
theorem two_at0 {a b : Bts} : [a, b].getD 0 [] = a := rfl
theorem two_at1 {a b : Bts} : [a, b].getD 1 [] = b := rfl
attribute [local go_sem] two_at0 two_at1
theorem cal_spec_ParseFunctor : Callable Tryd.prog 5 := ⟨_, Tryd.func5, rfl, rfl⟩
theorem sp_spec_ParseFunctor_bad {c d : Cat} {t : Bts} (bc : CatB c) (bd : CatB d) (h : ¬ (IsCat c ∧ IsCat d)) : Spec Tryd.prog 5 [catV c, catV d, .v (bst t)] [] (.tup [.agg [iv 0, .v (.slice none 0 0), .v (.slice none 0 0), .v (.slice none 0 0), .v (.slice none 0 0), iv 0, .v (.slice none 0 0), .v (.slice none 0 0), .v (.slice none 0 0), .v (.slice none 0 0), .v (.slice none 0 0), .v (.slice none 0 0)], iv 1]) [] := by
  refine spec_of_V (E := TE) 0 Tryd.func5 rfl (by simp [Tryd.f5]) fun X hn hX => ?_
  repeat' (first | (exact absurd (And.intro (by assumption) (by assumption)) h) | (with_reducible first | refine V_seq ?_ | refine V_skip ?_ | refine V_ret ?_) | ((with_reducible refine V_cond ?_); simp only [go_sem, simprocAttr]) | ((refine V_region (by rw [hn]; rfl) ?_); intro K hK) | ((first | with_reducible refine evOps_n ?_ | ((with_reducible apply evOps_g); rfl)); intro K hK; simp (contextual := true) only [go_sem, simprocAttr]) | with_reducible refine evOps_nil ?_ | ((with_reducible refine hK _ ?_); clear hK K) | (with_reducible first | refine And.intro ?_ ?_ | refine nxt_n ?_ | refine nxt_r ?_ | refine inR_mk ?_ ?_) | ((with_reducible refine evCall_at 15 ?_); refine EvCall.rq (a := (sp_l02Is (c:=c) ?_)) (b := cal_l02Is) (c := ?_); all_goals try simp only [go_sem, simprocAttr]) | ((with_reducible refine evCall_at 15 ?_); refine EvCall.rq (a := (sp_l02Is (c:=d) ?_)) (b := cal_l02Is) (c := ?_); all_goals try simp only [go_sem, simprocAttr]) | (refine fun (hc : (_ : Bool) = _) => ?_; try simp only [hcS] at hc))
  all_goals try exact om_
  all_goals ((first | refine ret_auto ?_ | refine ret_auto' ?_); simp only [go_sem, simprocAttr, Tryd.f5])
theorem sp_spec_ParseFunctor_two {c d : Cat} {t : Bts} (bc : CatB c) (bd : CatB d) (hl : t.length ≤ 1048576) (sc : IsCat c) (sd : IsCat d) (h : (parts t).length ≠ 2) : Spec Tryd.prog 5 [catV c, catV d, .v (bst t)] [] (.tup [.agg [iv 0, .v (.slice none 0 0), .v (.slice none 0 0), .v (.slice none 0 0), .v (.slice none 0 0), iv 0, .v (.slice none 0 0), .v (.slice none 0 0), .v (.slice none 0 0), .v (.slice none 0 0), .v (.slice none 0 0), .v (.slice none 0 0)], iv 6]) [] := by
  have hp := sp_l04Parts hl
  refine spec_of_V (E := TE) 0 Tryd.func5 rfl (by simp [Tryd.f5]) fun X hn hX => ?_
  repeat' (first | (exact absurd sc (by assumption)) | (exact absurd sd (by assumption)) | (with_reducible first | refine V_seq ?_ | refine V_skip ?_ | refine V_ret ?_) | ((with_reducible refine V_cond ?_); simp only [go_sem, simprocAttr]) | ((refine V_region (by rw [hn]; rfl) ?_); intro K hK) | ((first | with_reducible refine evOps_n ?_ | ((with_reducible apply evOps_g); rfl)); intro K hK; simp (contextual := true) only [go_sem, simprocAttr]) | with_reducible refine evOps_nil ?_ | ((with_reducible refine hK _ ?_); clear hK K) | (with_reducible first | refine And.intro ?_ ?_ | refine nxt_n ?_ | refine nxt_r ?_ | refine inR_mk ?_ ?_) | ((with_reducible refine evCall_at 15 ?_); refine EvCall.rq (a := (sp_l02Is (c:=c) ?_)) (b := cal_l02Is) (c := ?_); all_goals try simp only [go_sem, simprocAttr]) | ((with_reducible refine evCall_at 15 ?_); refine EvCall.rq (a := (sp_l02Is (c:=d) ?_)) (b := cal_l02Is) (c := ?_); all_goals try simp only [go_sem, simprocAttr]) | ((with_reducible refine evCall_at 16 ?_); refine EvCall.mk (hp) cal_l04Parts [(0,3)] [] (by simp [go_sem] <;> (repeat' (first | rfl | constructor))) (by simp [go_sem] <;> (repeat' (first | rfl | constructor))) ?_; all_goals try simp only [go_sem, simprocAttr]) | (refine fun (hc : (_ : Bool) = _) => ?_; try simp only [hcS] at hc))
  all_goals try exact om_
  all_goals try (exfalso; omega)
  all_goals ((first | refine ret_auto ?_ | refine ret_auto' ?_); simp only [go_sem, simprocAttr, Tryd.f5])
theorem sp_spec_ParseFunctor_rest {c d : Cat} {t a b : Bts} {r : Sv} {L1 : List (Nat × Rs)} (bc : CatB c) (bd : CatB d) (hl : t.length ≤ 1048576) (sc : IsCat c) (sd : IsCat d) (h : parts t = [a, b])
    (ho : (RefF c d t a b ∧ r = .tup [.agg [iv (Fun.mk c d (numsT a) (numsT b)).src.ob, .sl 0, .sl 1, .sl 2, .sl 3, iv (Fun.mk c d (numsT a) (numsT b)).tgt.ob, .sl 4, .sl 5, .sl 6, .sl 7, .sl 8, .sl 9], iv 0] ∧ L1 = [(0, ⟨1, .arr (ints (Fun.mk c d (numsT a) (numsT b)).src.fr)⟩), (1, ⟨1, .arr (ints (Fun.mk c d (numsT a) (numsT b)).src.to)⟩), (2, ⟨1, .arr (ints (Fun.mk c d (numsT a) (numsT b)).src.id)⟩), (3, ⟨1, .arr (intss (Fun.mk c d (numsT a) (numsT b)).src.co)⟩), (4, ⟨1, .arr (ints (Fun.mk c d (numsT a) (numsT b)).tgt.fr)⟩), (5, ⟨1, .arr (ints (Fun.mk c d (numsT a) (numsT b)).tgt.to)⟩), (6, ⟨1, .arr (ints (Fun.mk c d (numsT a) (numsT b)).tgt.id)⟩), (7, ⟨1, .arr (intss (Fun.mk c d (numsT a) (numsT b)).tgt.co)⟩), (8, ⟨1, .arr (ints (Fun.mk c d (numsT a) (numsT b)).obs)⟩), (9, ⟨1, .arr (ints (Fun.mk c d (numsT a) (numsT b)).ars)⟩)]) ∨ (¬ RefF c d t a b ∧ r = .tup [.agg [iv 0, .v (.slice none 0 0), .v (.slice none 0 0), .v (.slice none 0 0), .v (.slice none 0 0), iv 0, .v (.slice none 0 0), .v (.slice none 0 0), .v (.slice none 0 0), .v (.slice none 0 0), .v (.slice none 0 0), .v (.slice none 0 0)], iv 6] ∧ L1 = [])) : Spec Tryd.prog 5 [catV c, catV d, .v (bst t)] [] r L1 := by
  have hp := sp_l04Parts hl
  rw [h] at hp
  have la := parts_mem (s := t) (w := a) (by rw [h]; simp)
  have lb := parts_mem (s := t) (w := b) (by rw [h]; simp)
  obtain ⟨p, v, hv⟩ := NmO.ex a 8
  obtain ⟨q, u, hu⟩ := NmO.ex b 40
  have h1 := sp_l04Numbers_o (by omega) hv
  have h2 := sp_l04Numbers_o (by omega) hu
  have n1 := hv.len
  have n2 := hu.len
  have ls := Nat.le_refl ([a, b] : List Bts).length
  refine spec_of_V (E := TE) 0 Tryd.func5 rfl (by simp [Tryd.f5]) fun X hn hX => ?_
  cases v with
  | false =>
    rcases ho with ⟨ho, _, _⟩ | ⟨_, rfl, rfl⟩
    · exact absurd ho.one hv.no
    · repeat' (first | (exact absurd sc (by assumption)) | (exact absurd sd (by assumption)) | (with_reducible first | refine V_seq ?_ | refine V_skip ?_ | refine V_ret ?_) | ((with_reducible refine V_cond ?_); simp only [go_sem, simprocAttr]) | ((refine V_region (by rw [hn]; rfl) ?_); intro K hK) | ((first | with_reducible refine evOps_n ?_ | ((with_reducible apply evOps_g); rfl)); intro K hK; simp (contextual := true) only [go_sem, simprocAttr]) | with_reducible refine evOps_nil ?_ | ((with_reducible refine hK _ ?_); clear hK K) | (with_reducible first | refine And.intro ?_ ?_ | refine nxt_n ?_ | refine nxt_r ?_ | refine inR_mk ?_ ?_) | ((with_reducible refine evCall_at 15 ?_); refine EvCall.rq (a := (sp_l02Is (c:=c) ?_)) (b := cal_l02Is) (c := ?_); all_goals try simp only [go_sem, simprocAttr]) | ((with_reducible refine evCall_at 15 ?_); refine EvCall.rq (a := (sp_l02Is (c:=d) ?_)) (b := cal_l02Is) (c := ?_); all_goals try simp only [go_sem, simprocAttr]) | ((with_reducible refine evCall_at 16 ?_); refine EvCall.mk (hp) cal_l04Parts [(0,3)] [] (by simp [go_sem] <;> (repeat' (first | rfl | constructor))) (by simp [go_sem] <;> (repeat' (first | rfl | constructor))) ?_; all_goals try simp only [go_sem, simprocAttr]) | ((with_reducible refine (id ?_ : EvCall _ _ [.v (bst a),_] _ _)); refine EvCall.mk (h1) cal_l04Numbers [(0,4)] [] (by simp [go_sem] <;> (repeat' (first | rfl | constructor))) (by simp [go_sem] <;> (repeat' (first | rfl | constructor))) ?_; all_goals try simp only [go_sem, simprocAttr]) | ((with_reducible refine (id ?_ : EvCall _ _ [.v (bst b),_] _ _)); refine EvCall.mk (h2) cal_l04Numbers [(0,5)] [] (by simp [go_sem] <;> (repeat' (first | rfl | constructor))) (by simp [go_sem] <;> (repeat' (first | rfl | constructor))) ?_; all_goals try simp only [go_sem, simprocAttr]) | (refine fun (hc : (_ : Bool) = _) => ?_; try simp only [hcS] at hc))
      all_goals try exact om_
      all_goals ((first | refine ret_auto ?_ | refine ret_auto' ?_); simp only [go_sem, simprocAttr, Tryd.f5])
  | true =>
    obtain ⟨hv1, rfl⟩ := hv.yes
    cases u with
    | false =>
      rcases ho with ⟨ho, _, _⟩ | ⟨_, rfl, rfl⟩
      · exact absurd ho.two hu.no
      · repeat' (first | (exact absurd sc (by assumption)) | (exact absurd sd (by assumption)) | (with_reducible first | refine V_seq ?_ | refine V_skip ?_ | refine V_ret ?_) | ((with_reducible refine V_cond ?_); simp only [go_sem, simprocAttr]) | ((refine V_region (by rw [hn]; rfl) ?_); intro K hK) | ((first | with_reducible refine evOps_n ?_ | ((with_reducible apply evOps_g); rfl)); intro K hK; simp (contextual := true) only [go_sem, simprocAttr]) | with_reducible refine evOps_nil ?_ | ((with_reducible refine hK _ ?_); clear hK K) | (with_reducible first | refine And.intro ?_ ?_ | refine nxt_n ?_ | refine nxt_r ?_ | refine inR_mk ?_ ?_) | ((with_reducible refine evCall_at 15 ?_); refine EvCall.rq (a := (sp_l02Is (c:=c) ?_)) (b := cal_l02Is) (c := ?_); all_goals try simp only [go_sem, simprocAttr]) | ((with_reducible refine evCall_at 15 ?_); refine EvCall.rq (a := (sp_l02Is (c:=d) ?_)) (b := cal_l02Is) (c := ?_); all_goals try simp only [go_sem, simprocAttr]) | ((with_reducible refine evCall_at 16 ?_); refine EvCall.mk (hp) cal_l04Parts [(0,3)] [] (by simp [go_sem] <;> (repeat' (first | rfl | constructor))) (by simp [go_sem] <;> (repeat' (first | rfl | constructor))) ?_; all_goals try simp only [go_sem, simprocAttr]) | ((with_reducible refine (id ?_ : EvCall _ _ [.v (bst a),_] _ _)); refine EvCall.mk (h1) cal_l04Numbers [(0,4)] [] (by simp [go_sem] <;> (repeat' (first | rfl | constructor))) (by simp [go_sem] <;> (repeat' (first | rfl | constructor))) ?_; all_goals try simp only [go_sem, simprocAttr]) | ((with_reducible refine (id ?_ : EvCall _ _ [.v (bst b),_] _ _)); refine EvCall.mk (h2) cal_l04Numbers [(0,5)] [] (by simp [go_sem] <;> (repeat' (first | rfl | constructor))) (by simp [go_sem] <;> (repeat' (first | rfl | constructor))) ?_; all_goals try simp only [go_sem, simprocAttr]) | (refine fun (hc : (_ : Bool) = _) => ?_; try simp only [hcS] at hc))
        all_goals try exact om_
        all_goals ((first | refine ret_auto ?_ | refine ret_auto' ?_); simp only [go_sem, simprocAttr, Tryd.f5])
    | true =>
      obtain ⟨hu1, rfl⟩ := hu.yes
      have fb : FunB ⟨c, d, numsT a, numsT b⟩ := ⟨bc, bd, by simp only; omega, by simp only; omega⟩
      have sp_l06Is_loc := sp_l06Is fb
      by_cases hf : IsFun ⟨c, d, numsT a, numsT b⟩
      · rw [dec_t hf] at sp_l06Is_loc
        have x1 := hf.fits.obw
        have x2 := hf.fits.arw
        have o8 := sd.toShape.ob8
        have m40 := sd.toShape.m40
        simp only at x1 x2
        have sp_l04Functor_loc := sp_l04Functor (f := ⟨c, d, numsT a, numsT b⟩) (by simp only; omega) (fun i hi => by have := x1 i hi; simp only at this ⊢; omega) (by simp only; omega) (fun i hi => by have := x2 i hi; simp only at this ⊢; omega)
        by_cases ht : funT ⟨c, d, numsT a, numsT b⟩ = t
        · rcases ho with ⟨_, rfl, rfl⟩ | ⟨ho, _, _⟩
          · repeat' (first | (exact absurd sc (by assumption)) | (exact absurd sd (by assumption)) | (with_reducible first | refine V_seq ?_ | refine V_skip ?_ | refine V_ret ?_) | ((with_reducible refine V_cond ?_); simp only [go_sem, simprocAttr]) | ((refine V_region (by rw [hn]; rfl) ?_); intro K hK) | ((first | with_reducible refine evOps_n ?_ | ((with_reducible apply evOps_g); rfl)); intro K hK; simp (contextual := true) only [go_sem, simprocAttr]) | with_reducible refine evOps_nil ?_ | ((with_reducible refine hK _ ?_); clear hK K) | (with_reducible first | refine And.intro ?_ ?_ | refine nxt_n ?_ | refine nxt_r ?_ | refine inR_mk ?_ ?_) | ((with_reducible refine evCall_at 15 ?_); refine EvCall.rq (a := (sp_l02Is (c:=c) ?_)) (b := cal_l02Is) (c := ?_); all_goals try simp only [go_sem, simprocAttr]) | ((with_reducible refine evCall_at 15 ?_); refine EvCall.rq (a := (sp_l02Is (c:=d) ?_)) (b := cal_l02Is) (c := ?_); all_goals try simp only [go_sem, simprocAttr]) | ((with_reducible refine evCall_at 16 ?_); refine EvCall.mk (hp) cal_l04Parts [(0,3)] [] (by simp [go_sem] <;> (repeat' (first | rfl | constructor))) (by simp [go_sem] <;> (repeat' (first | rfl | constructor))) ?_; all_goals try simp only [go_sem, simprocAttr]) | ((with_reducible refine (id ?_ : EvCall _ _ [.v (bst a),_] _ _)); refine EvCall.mk (h1) cal_l04Numbers [(0,4)] [] (by simp [go_sem] <;> (repeat' (first | rfl | constructor))) (by simp [go_sem] <;> (repeat' (first | rfl | constructor))) ?_; all_goals try simp only [go_sem, simprocAttr]) | ((with_reducible refine (id ?_ : EvCall _ _ [.v (bst b),_] _ _)); refine EvCall.mk (h2) cal_l04Numbers [(0,5)] [] (by simp [go_sem] <;> (repeat' (first | rfl | constructor))) (by simp [go_sem] <;> (repeat' (first | rfl | constructor))) ?_; all_goals try simp only [go_sem, simprocAttr]) | ((with_reducible refine evCall_at 18 ?_); refine EvCall.rq (a := (sp_l06Make (c:=c) (d:=d) (p:=numsT a) (q:=numsT b) ?_ ?_ ?_ ?_)) (b := cal_l06Make) (c := ?_); all_goals try simp only [go_sem, simprocAttr]) | ((with_reducible refine evCall_at 19 ?_); refine EvCall.rq (a := (sp_l06Is_loc)) (b := cal_l06Is) (c := ?_); all_goals try simp only [go_sem, simprocAttr]) | ((with_reducible refine evCall_at 20 ?_); refine EvCall.rq (a := (sp_l04Functor_loc)) (b := cal_l04Functor) (c := ?_); all_goals try simp only [go_sem, simprocAttr]) | (refine hook_sne (x := .tmp 60) (a := funT ⟨c, d, numsT a, numsT b⟩) (b := t) Tryd.underlying9 (by simp only [go_sem, simprocAttr]) (by simp only [go_sem, simprocAttr]) ?_; simp only [go_sem, simprocAttr]) | (refine fun (hc : (_ : Bool) = _) => ?_; try simp only [hcS] at hc))
            all_goals try exact om_
            all_goals try contradiction
            all_goals ((first | refine ret_auto ?_ | refine ret_auto' ?_); simp only [go_sem, simprocAttr, Tryd.f5])
          · exact absurd ⟨h, hv1, hu1, hf, ht⟩ ho
        · rcases ho with ⟨ho, _, _⟩ | ⟨_, rfl, rfl⟩
          · exact absurd ho.text ht
          · repeat' (first | (exact absurd sc (by assumption)) | (exact absurd sd (by assumption)) | (with_reducible first | refine V_seq ?_ | refine V_skip ?_ | refine V_ret ?_) | ((with_reducible refine V_cond ?_); simp only [go_sem, simprocAttr]) | ((refine V_region (by rw [hn]; rfl) ?_); intro K hK) | ((first | with_reducible refine evOps_n ?_ | ((with_reducible apply evOps_g); rfl)); intro K hK; simp (contextual := true) only [go_sem, simprocAttr]) | with_reducible refine evOps_nil ?_ | ((with_reducible refine hK _ ?_); clear hK K) | (with_reducible first | refine And.intro ?_ ?_ | refine nxt_n ?_ | refine nxt_r ?_ | refine inR_mk ?_ ?_) | ((with_reducible refine evCall_at 15 ?_); refine EvCall.rq (a := (sp_l02Is (c:=c) ?_)) (b := cal_l02Is) (c := ?_); all_goals try simp only [go_sem, simprocAttr]) | ((with_reducible refine evCall_at 15 ?_); refine EvCall.rq (a := (sp_l02Is (c:=d) ?_)) (b := cal_l02Is) (c := ?_); all_goals try simp only [go_sem, simprocAttr]) | ((with_reducible refine evCall_at 16 ?_); refine EvCall.mk (hp) cal_l04Parts [(0,3)] [] (by simp [go_sem] <;> (repeat' (first | rfl | constructor))) (by simp [go_sem] <;> (repeat' (first | rfl | constructor))) ?_; all_goals try simp only [go_sem, simprocAttr]) | ((with_reducible refine (id ?_ : EvCall _ _ [.v (bst a),_] _ _)); refine EvCall.mk (h1) cal_l04Numbers [(0,4)] [] (by simp [go_sem] <;> (repeat' (first | rfl | constructor))) (by simp [go_sem] <;> (repeat' (first | rfl | constructor))) ?_; all_goals try simp only [go_sem, simprocAttr]) | ((with_reducible refine (id ?_ : EvCall _ _ [.v (bst b),_] _ _)); refine EvCall.mk (h2) cal_l04Numbers [(0,5)] [] (by simp [go_sem] <;> (repeat' (first | rfl | constructor))) (by simp [go_sem] <;> (repeat' (first | rfl | constructor))) ?_; all_goals try simp only [go_sem, simprocAttr]) | ((with_reducible refine evCall_at 18 ?_); refine EvCall.rq (a := (sp_l06Make (c:=c) (d:=d) (p:=numsT a) (q:=numsT b) ?_ ?_ ?_ ?_)) (b := cal_l06Make) (c := ?_); all_goals try simp only [go_sem, simprocAttr]) | ((with_reducible refine evCall_at 19 ?_); refine EvCall.rq (a := (sp_l06Is_loc)) (b := cal_l06Is) (c := ?_); all_goals try simp only [go_sem, simprocAttr]) | ((with_reducible refine evCall_at 20 ?_); refine EvCall.rq (a := (sp_l04Functor_loc)) (b := cal_l04Functor) (c := ?_); all_goals try simp only [go_sem, simprocAttr]) | (refine hook_sne (x := .tmp 60) (a := funT ⟨c, d, numsT a, numsT b⟩) (b := t) Tryd.underlying9 (by simp only [go_sem, simprocAttr]) (by simp only [go_sem, simprocAttr]) ?_; simp only [go_sem, simprocAttr]) | (refine fun (hc : (_ : Bool) = _) => ?_; try simp only [hcS] at hc))
            all_goals try exact om_
            all_goals try contradiction
            all_goals ((first | refine ret_auto ?_ | refine ret_auto' ?_); simp only [go_sem, simprocAttr, Tryd.f5])
      · rw [dec_f hf] at sp_l06Is_loc
        rcases ho with ⟨ho, _, _⟩ | ⟨_, rfl, rfl⟩
        · exact absurd ho.fn hf
        · repeat' (first | (exact absurd sc (by assumption)) | (exact absurd sd (by assumption)) | (with_reducible first | refine V_seq ?_ | refine V_skip ?_ | refine V_ret ?_) | ((with_reducible refine V_cond ?_); simp only [go_sem, simprocAttr]) | ((refine V_region (by rw [hn]; rfl) ?_); intro K hK) | ((first | with_reducible refine evOps_n ?_ | ((with_reducible apply evOps_g); rfl)); intro K hK; simp (contextual := true) only [go_sem, simprocAttr]) | with_reducible refine evOps_nil ?_ | ((with_reducible refine hK _ ?_); clear hK K) | (with_reducible first | refine And.intro ?_ ?_ | refine nxt_n ?_ | refine nxt_r ?_ | refine inR_mk ?_ ?_) | ((with_reducible refine evCall_at 15 ?_); refine EvCall.rq (a := (sp_l02Is (c:=c) ?_)) (b := cal_l02Is) (c := ?_); all_goals try simp only [go_sem, simprocAttr]) | ((with_reducible refine evCall_at 15 ?_); refine EvCall.rq (a := (sp_l02Is (c:=d) ?_)) (b := cal_l02Is) (c := ?_); all_goals try simp only [go_sem, simprocAttr]) | ((with_reducible refine evCall_at 16 ?_); refine EvCall.mk (hp) cal_l04Parts [(0,3)] [] (by simp [go_sem] <;> (repeat' (first | rfl | constructor))) (by simp [go_sem] <;> (repeat' (first | rfl | constructor))) ?_; all_goals try simp only [go_sem, simprocAttr]) | ((with_reducible refine (id ?_ : EvCall _ _ [.v (bst a),_] _ _)); refine EvCall.mk (h1) cal_l04Numbers [(0,4)] [] (by simp [go_sem] <;> (repeat' (first | rfl | constructor))) (by simp [go_sem] <;> (repeat' (first | rfl | constructor))) ?_; all_goals try simp only [go_sem, simprocAttr]) | ((with_reducible refine (id ?_ : EvCall _ _ [.v (bst b),_] _ _)); refine EvCall.mk (h2) cal_l04Numbers [(0,5)] [] (by simp [go_sem] <;> (repeat' (first | rfl | constructor))) (by simp [go_sem] <;> (repeat' (first | rfl | constructor))) ?_; all_goals try simp only [go_sem, simprocAttr]) | ((with_reducible refine evCall_at 18 ?_); refine EvCall.rq (a := (sp_l06Make (c:=c) (d:=d) (p:=numsT a) (q:=numsT b) ?_ ?_ ?_ ?_)) (b := cal_l06Make) (c := ?_); all_goals try simp only [go_sem, simprocAttr]) | ((with_reducible refine evCall_at 19 ?_); refine EvCall.rq (a := (sp_l06Is_loc)) (b := cal_l06Is) (c := ?_); all_goals try simp only [go_sem, simprocAttr]) | (refine fun (hc : (_ : Bool) = _) => ?_; try simp only [hcS] at hc))
          all_goals try exact om_
          all_goals ((first | refine ret_auto ?_ | refine ret_auto' ?_); simp only [go_sem, simprocAttr, Tryd.f5])
end Go.Eng
