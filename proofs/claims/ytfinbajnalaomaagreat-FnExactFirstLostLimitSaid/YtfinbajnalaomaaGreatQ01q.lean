/- The search of functors by the program: whether hom sets are great enough; whether no image is there twice; what follows from what is known. -/
import Derived.Test.YtfinbajnalaomaaGreatKux
import Derived.Test.YtfinbajnalaomaaGreatA01q
import Derived.Test.YtfinbajnalaomaaGreatC18q
set_option linter.unusedSimpArgs false
set_option linter.unusedVariables false
set_option maxRecDepth 100000
set_option maxHeartbeats 16000000
namespace Go.Eng
open Go Go.Proofs Go.Cats
attribute [local go_sem] List.set_cons_zero List.set_cons_succ
theorem cal_search_need : Callable Tryz.prog 92 := ⟨_, Tryz.func92, rfl, rfl⟩
theorem sp_search_need {c d : Cat} {b : Bool} {P A : List Int} {F : List Fun} {M : Nat} {x y : Int} (hc : Shape c) : Spec Tryz.prog 92 [.ptr 0 0, iv x, iv y] [(0, ⟨1, .box [.bptr [] (catD c), .bptr [] (catD d), .sl 1, .sl 2, .v (.bool b), .fn 62 [.ptr 3 0, .ptr 4 0, .ptr 5 0, .ptr 6 0]]⟩), (1, ⟨1, .arr (ints (P))⟩), (2, ⟨1, .arr (ints (A))⟩), (3, ⟨1, .bx [.dead] 0 (funsD (F))⟩), (4, ⟨1, .box [.bptr [] (catD c)]⟩), (5, ⟨1, .box [.bptr [] (catD d)]⟩), (6, ⟨1, .box [iv M]⟩)] (iv (Need c b x y)) [(0, ⟨1, .box [.bptr [] (catD c), .bptr [] (catD d), .sl 1, .sl 2, .v (.bool b), .fn 62 [.ptr 3 0, .ptr 4 0, .ptr 5 0, .ptr 6 0]]⟩), (1, ⟨1, .arr (ints (P))⟩), (2, ⟨1, .arr (ints (A))⟩), (3, ⟨1, .bx [.dead] 0 (funsD (F))⟩), (4, ⟨1, .box [.bptr [] (catD c)]⟩), (5, ⟨1, .box [.bptr [] (catD d)]⟩), (6, ⟨1, .box [iv M]⟩)] := by
  refine spec_of_V (E := TE) 7 Tryz.func92 rfl (by simp [Tryz.f92]) fun X hn hX => ?_
  have m40 := hc.m40
  have tol := hc.tol
  cases b
  · repeat' (first | (with_reducible first | refine V_seq ?_ | refine V_skip ?_ | refine V_ret ?_) | ((with_reducible refine V_cond ?_); simp only [go_sem, simprocAttr]) | ((refine V_region (by rw [hn]; rfl) ?_); intro K hK) | ((first | with_reducible refine evOps_n ?_ | ((with_reducible apply evOps_g); rfl)); intro K hK; simp (contextual := true) only [go_sem, simprocAttr]) | with_reducible refine evOps_nil ?_ | ((with_reducible refine hK _ ?_); clear hK K) | (with_reducible first | refine And.intro ?_ ?_ | refine nxt_n ?_ | refine nxt_r ?_ | refine inR_mk ?_ ?_) | (refine fun (hc : (_ : Bool) = _) => ?_; try simp only [hcS] at hc))
    all_goals try exact om_
    · (first | refine ret_auto ?_ | refine ret_auto' ?_); simp only [go_sem, simprocAttr, Tryz.f92]
      rfl
  · repeat' (first | (with_reducible first | refine V_seq ?_ | refine V_skip ?_ | refine V_ret ?_) | ((with_reducible refine V_cond ?_); simp only [go_sem, simprocAttr]) | ((refine V_region (by rw [hn]; rfl) ?_); intro K hK) | ((first | with_reducible refine evOps_n ?_ | ((with_reducible apply evOps_g); rfl)); intro K hK; simp (contextual := true) only [go_sem, simprocAttr]) | with_reducible refine evOps_nil ?_ | ((with_reducible refine hK _ ?_); clear hK K) | (with_reducible first | refine And.intro ?_ ?_ | refine nxt_n ?_ | refine nxt_r ?_ | refine inR_mk ?_ ?_) | ((with_reducible refine evCall_at 84 ?_); refine EvCall.rq (a := (sp_Category_hom ?_ ?_)) (b := cal_Category_hom) (c := ?_); all_goals try simp only [go_sem, simprocAttr]) | (refine fun (hc : (_ : Bool) = _) => ?_; try simp only [hcS] at hc))
    all_goals try exact om_
    · (first | refine ret_auto ?_ | refine ret_auto' ?_); simp only [go_sem, simprocAttr, Tryz.f92]
      rfl
theorem cal_search_placed : Callable Tryz.prog 82 := ⟨_, Tryz.func82, rfl, rfl⟩
theorem sp_search_placed {c d : Cat} {b : Bool} {P A : List Int} {F : List Fun} {M x : Nat} (hc : Shape c) (hd : Shape d) (hx : x < P.length) : Spec Tryz.prog 82 [.ptr 0 0, iv x] [(0, ⟨1, .box [.bptr [] (catD c), .bptr [] (catD d), .sl 1, .sl 2, .v (.bool b), .fn 62 [.ptr 3 0, .ptr 4 0, .ptr 5 0, .ptr 6 0]]⟩), (1, ⟨1, .arr (ints (P))⟩), (2, ⟨1, .arr (ints (A))⟩), (3, ⟨1, .bx [.dead] 0 (funsD (F))⟩), (4, ⟨1, .box [.bptr [] (catD c)]⟩), (5, ⟨1, .box [.bptr [] (catD d)]⟩), (6, ⟨1, .box [iv M]⟩)] (bv (dec (Placed c d b P x))) [(0, ⟨1, .box [.bptr [] (catD c), .bptr [] (catD d), .sl 1, .sl 2, .v (.bool b), .fn 62 [.ptr 3 0, .ptr 4 0, .ptr 5 0, .ptr 6 0]]⟩), (1, ⟨1, .arr (ints (P))⟩), (2, ⟨1, .arr (ints (A))⟩), (3, ⟨1, .bx [.dead] 0 (funsD (F))⟩), (4, ⟨1, .box [.bptr [] (catD c)]⟩), (5, ⟨1, .box [.bptr [] (catD d)]⟩), (6, ⟨1, .box [iv M]⟩)] := by
  refine spec_of_V (E := TE) 7 Tryz.func82 rfl (by simp [Tryz.f82]) fun X hn hX => ?_
  have m40 := hc.m40
  have tol := hc.tol
  have n40 := hd.m40
  have nol := hd.tol
  repeat' (first | (with_reducible first | refine V_seq ?_ | refine V_block ?_ | refine V_skip ?_ | refine V_ret ?_ | refine V_exit ?_) | ((with_reducible refine V_cond ?_); simp only [go_sem, simprocAttr]) | ((first | refine V_region (by rw [hn]; rfl) ?_ | refine V_drawn hmix (by rw [hn]; rfl) ?_); intro K hK) | ((first | with_reducible refine evOps_n ?_ | ((with_reducible apply evOps_g); rfl) | with_reducible refine evOpsD_n ?_ | ((with_reducible apply evOpsD_g); rfl)); intro K hK; simp (contextual := true) only [go_sem, simprocAttr]) | with_reducible refine evOps_nil ?_ | ((with_reducible refine evOpsD_nil ?_ ?_); kernel_rfl) | ((with_reducible refine hK _ ?_); clear hK K) | (with_reducible first | refine And.intro ?_ ?_ | refine nxt_n ?_ | refine nxt_r ?_ | refine nxt_e ?_ | refine blk_n ?_ | refine blk_r ?_ | refine blk_same ?_ | refine blk_other (by decide) ?_ | refine noG_n ?_ | refine noG_r ?_ | refine noG_e ?_ | refine inR_mk ?_ ?_) | (refine fun (hc : (_ : Bool) = _) => ?_; try simp only [hcS] at hc))
  all_goals try exact om_
  refine V_loopK (G := {i : Nat // i ≤ c.fr.length ∧ (∀ j, j < i → PlF c d b P x j)}) (fun ⟨i, _⟩ => [(16, iv i)]) [0, 1, 15] (fun ⟨i, _⟩ => []) [] (fun zz => c.fr.length - zz.1) ⟨0, Nat.zero_le _, by omega⟩ ?_ ?_
  · exact Imp.au hX
  rintro ⟨i, hii, hwi⟩
  simp only [go_sem, simprocAttr]
  rcases Nat.lt_or_ge i c.fr.length with hlt | hge
  · have f1 := hc.frw i hlt
    have f2 := hc.tow i (by omega)
    have hneed := sp_search_need (d := d) (b := b) (P := P) (A := A) (F := F) (M := M) (x := c.fr.getD i 0) (y := c.to.getD i 0) hc
    repeat' (first | (with_reducible first | refine V_seq ?_ | refine V_block ?_ | refine V_skip ?_ | refine V_ret ?_ | refine V_exit ?_) | ((with_reducible refine V_cond ?_); simp only [go_sem, simprocAttr]) | ((first | refine V_region (by rw [hn]; rfl) ?_ | refine V_drawn hmix (by rw [hn]; rfl) ?_); intro K hK) | ((first | with_reducible refine evOps_n ?_ | ((with_reducible apply evOps_g); rfl) | with_reducible refine evOpsD_n ?_ | ((with_reducible apply evOpsD_g); rfl)); intro K hK; simp (contextual := true) only [go_sem, simprocAttr]) | with_reducible refine evOps_nil ?_ | ((with_reducible refine evOpsD_nil ?_ ?_); kernel_rfl) | ((with_reducible refine hK _ ?_); clear hK K) | (with_reducible first | refine And.intro ?_ ?_ | refine nxt_n ?_ | refine nxt_r ?_ | refine nxt_e ?_ | refine blk_n ?_ | refine blk_r ?_ | refine blk_same ?_ | refine blk_other (by decide) ?_ | refine noG_n ?_ | refine noG_r ?_ | refine noG_e ?_ | refine inR_mk ?_ ?_) | ((with_reducible refine evCall_at 84 ?_); refine EvCall.rq (a := (sp_Category_hom ?_ ?_)) (b := cal_Category_hom) (c := ?_); all_goals try simp only [go_sem, simprocAttr]) | ((with_reducible refine evCall_at 92 ?_); refine EvCall.mk (hneed) cal_search_need [(0,0),(1,1),(2,2),(3,3),(4,4),(5,5),(6,6)] [] (by simp [go_sem] <;> (repeat' (first | rfl | constructor))) (by simp [go_sem] <;> (repeat' (first | rfl | constructor))) ?_; all_goals try simp only [go_sem, simprocAttr]) | (refine fun (hc : (_ : Bool) = _) => ?_; try simp only [hcS] at hc))
    all_goals try exact om_
    all_goals try (refine ⟨⟨i + 1, by omega, (by exact all_succ hwi (fun h1 h2 h3 => by omega))⟩, by simp only; omega, Imp.ao hX⟩)
    all_goals ((first | refine ret_auto ?_ | refine ret_auto' ?_); simp only [go_sem, simprocAttr, Tryz.f82]; exact bv_f (fun e => by have := e i hlt (by omega) (by omega) (by omega); omega))
  · repeat' (first | (with_reducible first | refine V_seq ?_ | refine V_block ?_ | refine V_skip ?_ | refine V_ret ?_ | refine V_exit ?_) | ((with_reducible refine V_cond ?_); simp only [go_sem, simprocAttr]) | ((first | refine V_region (by rw [hn]; rfl) ?_ | refine V_drawn hmix (by rw [hn]; rfl) ?_); intro K hK) | ((first | with_reducible refine evOps_n ?_ | ((with_reducible apply evOps_g); rfl) | with_reducible refine evOpsD_n ?_ | ((with_reducible apply evOpsD_g); rfl)); intro K hK; simp (contextual := true) only [go_sem, simprocAttr]) | with_reducible refine evOps_nil ?_ | ((with_reducible refine evOpsD_nil ?_ ?_); kernel_rfl) | ((with_reducible refine hK _ ?_); clear hK K) | (with_reducible first | refine And.intro ?_ ?_ | refine nxt_n ?_ | refine nxt_r ?_ | refine nxt_e ?_ | refine blk_n ?_ | refine blk_r ?_ | refine blk_same ?_ | refine blk_other (by decide) ?_ | refine noG_n ?_ | refine noG_r ?_ | refine noG_e ?_ | refine inR_mk ?_ ?_) | (refine fun (hc : (_ : Bool) = _) => ?_; try simp only [hcS] at hc))
    all_goals try exact om_
    · (first | refine ret_auto ?_ | refine ret_auto' ?_); simp only [go_sem, simprocAttr, Tryz.f82]
      exact bv_t (fun j hj => hwi j (by omega))
theorem nd_snoc {A : List Int} {i : Nat} (hi : i < A.length) (h : ∀ j k : Nat, j < k → k < i → 0 ≤ A.getD j 0 → A.getD j 0 ≠ A.getD k 0) (k : ∀ j, j < i → 0 ≤ A.getD j 0 → A.getD j 0 ≠ A.getD i 0) : ∀ j k : Nat, j < k → k < i + 1 → 0 ≤ A.getD j 0 → A.getD j 0 ≠ A.getD k 0 := fun j q hj hq h0 => by
  by_cases e : q = i
  · subst e; exact k j hj h0
  · exact h j q hj (by omega) h0
noncomputable def seenB (A : List Int) (n i : Nat) : List Bool := (List.range n).map fun v : Nat => dec (∃ j, j < i ∧ A.getD j 0 = (v : Int))
theorem seenB_len (A : List Int) (n i : Nat) : (seenB A n i).length = n := by simp [seenB]
theorem seenB_zero (A : List Int) (n : Nat) : seenB A n 0 = List.replicate n false := by
  unfold seenB
  have : (fun v : Nat => dec (∃ j, j < 0 ∧ A.getD j 0 = (v : Int))) = fun _ => false := by
    funext v; exact dec_f (fun ⟨j, h, _⟩ => by omega)
  rw [this, List.map_const', List.length_range]
theorem seenB_at {A : List Int} {n i : Nat} {v : Int} (h0 : 0 ≤ v) (h1 : v < n) : (seenB A n i).getD v.toNat false = dec (∃ j, j < i ∧ A.getD j 0 = v) := by
  unfold seenB
  rw [List.getD_eq_getElem?_getD, List.getElem?_map, List.getElem?_range (by omega)]
  simp only [Option.map_some, Option.getD_some]
  rw [show ((v.toNat : Nat) : Int) = v by omega]
theorem seenB_set {A : List Int} {n i : Nat} (h0 : 0 ≤ A.getD i 0) (h1 : A.getD i 0 < n) : (seenB A n i).set (A.getD i 0).toNat true = seenB A n (i + 1) := by
  refine List.ext_getElem? fun v => ?_
  rw [List.getElem?_set]
  unfold seenB
  rw [List.getElem?_map, List.getElem?_map, List.length_map, List.length_range]
  by_cases hv : v < n
  · rw [List.getElem?_range hv]
    by_cases e : (A.getD i 0).toNat = v
    · rw [if_pos e, if_pos (by omega)]
      simp only [Option.map_some]
      rw [dec_t ⟨i, by omega, by omega⟩]
    · rw [if_neg e]
      simp only [Option.map_some]
      refine congrArg some (dec_congr ⟨fun ⟨j, h2, h3⟩ => ⟨j, by omega, h3⟩, fun ⟨j, h2, h3⟩ => ⟨j, ?_, h3⟩⟩)
      by_cases q : j = i
      · subst q; omega
      · omega
  · rw [List.getElem?_eq_none (by simpa using hv)]
    split
    · omega
    · rfl
theorem seenB_same {A : List Int} {n i : Nat} (h0 : A.getD i 0 < 0) : seenB A n i = seenB A n (i + 1) := by
  unfold seenB
  refine List.map_congr_left fun v _ => dec_congr ⟨fun ⟨j, h2, h3⟩ => ⟨j, by omega, h3⟩, fun ⟨j, h2, h3⟩ => ⟨j, ?_, h3⟩⟩
  by_cases q : j = i
  · subst q; omega
  · omega
theorem cal_search_distinct : Callable Tryz.prog 90 := ⟨_, Tryz.func90, rfl, rfl⟩
theorem sp_search_distinct {c d : Cat} {b : Bool} {P A : List Int} {F : List Fun} {M : Nat} (hd : Shape d) (hl : A.length ≤ 1048576) (hA : ∀ j, j < A.length → A.getD j 0 < d.fr.length) : Spec Tryz.prog 90 [.ptr 0 0] [(0, ⟨1, .box [.bptr [] (catD c), .bptr [] (catD d), .sl 1, .sl 2, .v (.bool b), .fn 62 [.ptr 3 0, .ptr 4 0, .ptr 5 0, .ptr 6 0]]⟩), (1, ⟨1, .arr (ints (P))⟩), (2, ⟨1, .arr (ints (A))⟩), (3, ⟨1, .bx [.dead] 0 (funsD (F))⟩), (4, ⟨1, .box [.bptr [] (catD c)]⟩), (5, ⟨1, .box [.bptr [] (catD d)]⟩), (6, ⟨1, .box [iv M]⟩)] (bv (dec (NdI A))) [(0, ⟨1, .box [.bptr [] (catD c), .bptr [] (catD d), .sl 1, .sl 2, .v (.bool b), .fn 62 [.ptr 3 0, .ptr 4 0, .ptr 5 0, .ptr 6 0]]⟩), (1, ⟨1, .arr (ints (P))⟩), (2, ⟨1, .arr (ints (A))⟩), (3, ⟨1, .bx [.dead] 0 (funsD (F))⟩), (4, ⟨1, .box [.bptr [] (catD c)]⟩), (5, ⟨1, .box [.bptr [] (catD d)]⟩), (6, ⟨1, .box [iv M]⟩)] := by
  refine spec_of_V (E := TE) 7 Tryz.func90 rfl (by simp [Tryz.f90]) fun X hn hX => ?_
  have n40 := hd.m40
  have s0 := seenB_zero A d.fr.length
  repeat' (first | (with_reducible first | refine V_seq ?_ | refine V_block ?_ | refine V_skip ?_ | refine V_ret ?_ | refine V_exit ?_) | ((with_reducible refine V_cond ?_); simp only [go_sem, simprocAttr]) | ((refine V_region (by rw [hn]; rfl) ?_); intro K hK) | ((first | with_reducible refine evOps_n ?_ | ((with_reducible apply evOps_g); rfl)); intro K hK; simp (contextual := true) only [go_sem, simprocAttr]) | with_reducible refine evOps_nil ?_ | ((with_reducible refine hK _ ?_); clear hK K) | (with_reducible first | refine And.intro ?_ ?_ | refine nxt_n ?_ | refine nxt_r ?_ | refine nxt_e ?_ | refine blk_n ?_ | refine blk_r ?_ | refine blk_same ?_ | refine blk_other (by decide) ?_ | refine noG_n ?_ | refine noG_r ?_ | refine noG_e ?_ | refine inR_mk ?_ ?_) | ((with_reducible refine evCall_at 56 ?_); refine EvCall.rq (a := (sp_Category_arrows)) (b := cal_Category_arrows) (c := ?_); all_goals try simp only [go_sem, simprocAttr]) | (refine fun (hc : (_ : Bool) = _) => ?_; try simp only [hcS] at hc))
  all_goals try exact om_
  rw [← s0]
  refine V_loopK (G := {i : Nat // i ≤ A.length ∧ (∀ j k : Nat, j < k → k < i → 0 ≤ A.getD j 0 → A.getD j 0 ≠ A.getD k 0)}) (fun ⟨i, _⟩ => [(17, iv i)]) [3, 15, 16] (fun ⟨i, _⟩ => [(7, ⟨1, .arr (bols (seenB A d.fr.length i))⟩)]) [7] (fun zz => A.length - zz.1) ⟨0, Nat.zero_le _, by omega⟩ ?_ ?_
  · exact Imp.au hX
  rintro ⟨i, hii, hwi⟩
  simp only [go_sem, simprocAttr]
  rcases Nat.lt_or_ge i A.length with hlt | hge
  · have a1 := hA i hlt
    have sl := seenB_len A d.fr.length i
    have sa := fun h0 : 0 ≤ A.getD i 0 => seenB_at (A := A) (i := i) h0 a1
    have ss := fun h0 : 0 ≤ A.getD i 0 => seenB_set (A := A) (i := i) h0 a1
    have sn := fun h0 : A.getD i 0 < 0 => seenB_same (A := A) (n := d.fr.length) (i := i) h0
    repeat' (first | (with_reducible first | refine V_seq ?_ | refine V_block ?_ | refine V_skip ?_ | refine V_ret ?_ | refine V_exit ?_) | ((with_reducible refine V_cond ?_); simp only [go_sem, simprocAttr]) | ((refine V_region (by rw [hn]; rfl) ?_); intro K hK) | ((first | with_reducible refine evOps_n ?_ | ((with_reducible apply evOps_g); rfl)); intro K hK; simp (contextual := true) only [go_sem, simprocAttr]) | with_reducible refine evOps_nil ?_ | ((with_reducible refine hK _ ?_); clear hK K) | (with_reducible first | refine And.intro ?_ ?_ | refine nxt_n ?_ | refine nxt_r ?_ | refine nxt_e ?_ | refine blk_n ?_ | refine blk_r ?_ | refine blk_same ?_ | refine blk_other (by decide) ?_ | refine noG_n ?_ | refine noG_r ?_ | refine noG_e ?_ | refine inR_mk ?_ ?_) | (refine fun (hc : (_ : Bool) = _) => ?_; try simp only [hcS] at hc))
    all_goals try exact om_
    · (first | refine ret_auto ?_ | refine ret_auto' ?_); simp only [go_sem, simprocAttr, Tryz.f90]
      exact bv_f (fun e => by have h0 : 0 ≤ A.getD i 0 := (by assumption); rw [sa h0] at hc; obtain ⟨j, h1, h2⟩ := dec_iff.1 hc; exact e j i h1 hlt (by omega) h2)
    · refine ⟨⟨i + 1, by omega, (by exact nd_snoc hlt hwi (fun j hj h1 e => by have hs : (seenB A d.fr.length i).getD (A.getD i 0).toNat false = false := (by assumption); rw [sa hc] at hs; exact dec_not.1 hs ⟨j, hj, e⟩))⟩, by simp only; omega, Imp.auto hX (by simp only [go_sem, simprocAttr, ss hc])⟩
    · refine ⟨⟨i + 1, by omega, (by exact nd_snoc hlt hwi (fun j hj h1 e => by omega))⟩, by simp only; omega, Imp.auto hX (by simp only [go_sem, simprocAttr, sn hc])⟩
  · repeat' (first | (with_reducible first | refine V_seq ?_ | refine V_block ?_ | refine V_skip ?_ | refine V_ret ?_ | refine V_exit ?_) | ((with_reducible refine V_cond ?_); simp only [go_sem, simprocAttr]) | ((refine V_region (by rw [hn]; rfl) ?_); intro K hK) | ((first | with_reducible refine evOps_n ?_ | ((with_reducible apply evOps_g); rfl)); intro K hK; simp (contextual := true) only [go_sem, simprocAttr]) | with_reducible refine evOps_nil ?_ | ((with_reducible refine hK _ ?_); clear hK K) | (with_reducible first | refine And.intro ?_ ?_ | refine nxt_n ?_ | refine nxt_r ?_ | refine nxt_e ?_ | refine blk_n ?_ | refine blk_r ?_ | refine blk_same ?_ | refine blk_other (by decide) ?_ | refine noG_n ?_ | refine noG_r ?_ | refine noG_e ?_ | refine inR_mk ?_ ?_) | (refine fun (hc : (_ : Bool) = _) => ?_; try simp only [hcS] at hc))
    all_goals try exact om_
    · (first | refine ret_auto ?_ | refine ret_auto' ?_); simp only [go_sem, simprocAttr, Tryz.f90]
      exact bv_t (fun j k h1 h2 h3 => hwi j k h1 (by omega) h3)
theorem force_fail {c d : Cat} {a b k : Nat} {B : List Int} {t u v : Fs} (ha : a < c.fr.length) (hb : b < c.fr.length) (h1 : passF c d c.fr.length a (true, false, B) = t) (t1 : t.1 = true) (h2 : rowF c d a b t = u) (u1 : u.1 = true) (h3 : stF c d a b u = v) (v1 : v.1 = false) : forceF c d (k + 1) B = (false, v.2.2) := by
  subst h1 h2 h3
  have e1 : rowF c d a c.fr.length (passF c d c.fr.length a (true, false, B)) = stF c d a b (rowF c d a b (passF c d c.fr.length a (true, false, B))) := by
    rw [rowF_stop (b := b + 1) (by rw [rowF_go u1]; exact v1) (by omega), rowF_go u1]
  have e2 : passF c d c.fr.length c.fr.length (true, false, B) = stF c d a b (rowF c d a b (passF c d c.fr.length a (true, false, B))) := by
    rw [passF_stop (a := a + 1) (by rw [passF_go t1, e1]; exact v1) (by omega), passF_go t1, e1]
  rw [forceF_no (by rw [e2]; exact v1), e2]
theorem spread_no {c d : Cat} {b : Bool} {A C : List Int} (h : forceF c d (c.fr.length + 1) A = (false, C)) : spreadF c d b A = (false, C) := by
  unfold spreadF; rw [h]; rfl
theorem spread_ok {c d : Cat} {b : Bool} {A C : List Int} (h : forceF c d (c.fr.length + 1) A = (true, C)) : spreadF c d b A = (!b || dec (NdI C), C) := by
  unfold spreadF; rw [h]; rfl
attribute [local go_sem] passF_zero rowF_zero
theorem cal_search_spread : Callable Tryz.prog 79 := ⟨_, Tryz.func79, rfl, rfl⟩
theorem sp_search_spread {c d : Cat} {b : Bool} {P A : List Int} {F : List Fun} {M : Nat} (sc : Shape c) (sd : Shape d) (hA : VA c d P A) : Spec Tryz.prog 79 [.ptr 0 0] [(0, ⟨1, .box [.bptr [] (catD c), .bptr [] (catD d), .sl 1, .sl 2, .v (.bool b), .fn 62 [.ptr 3 0, .ptr 4 0, .ptr 5 0, .ptr 6 0]]⟩), (1, ⟨1, .arr (ints (P))⟩), (2, ⟨1, .arr (ints (A))⟩), (3, ⟨1, .bx [.dead] 0 (funsD (F))⟩), (4, ⟨1, .box [.bptr [] (catD c)]⟩), (5, ⟨1, .box [.bptr [] (catD d)]⟩), (6, ⟨1, .box [iv M]⟩)] (bv (spreadF c d b A).1) [(0, ⟨1, .box [.bptr [] (catD c), .bptr [] (catD d), .sl 1, .sl 2, .v (.bool b), .fn 62 [.ptr 3 0, .ptr 4 0, .ptr 5 0, .ptr 6 0]]⟩), (1, ⟨1, .arr (ints (P))⟩), (2, ⟨1, .arr (ints ((spreadF c d b A).2))⟩), (3, ⟨1, .bx [.dead] 0 (funsD (F))⟩), (4, ⟨1, .box [.bptr [] (catD c)]⟩), (5, ⟨1, .box [.bptr [] (catD d)]⟩), (6, ⟨1, .box [iv M]⟩)] := by
  refine spec_of_V (E := TE) 7 Tryz.func79 rfl (by simp [Tryz.f79]) fun X hn hX => ?_
  have m40 := sc.m40
  have n40 := sd.m40
  have ccol := sc.col
  have dcol := sd.col
  have hu := uns_le A
  have hl := hA.len
  repeat' (first | (with_reducible first | refine V_seq ?_ | refine V_block ?_ | refine V_skip ?_ | refine V_ret ?_ | refine V_exit ?_) | ((with_reducible refine V_cond ?_); simp only [go_sem, simprocAttr]) | ((first | refine V_region (by rw [hn]; rfl) ?_ | refine V_drawn hmix (by rw [hn]; rfl) ?_); intro K hK) | ((first | with_reducible refine evOps_n ?_ | ((with_reducible apply evOps_g); rfl) | with_reducible refine evOpsD_n ?_ | ((with_reducible apply evOpsD_g); rfl)); intro K hK; simp (contextual := true) only [go_sem, simprocAttr]) | with_reducible refine evOps_nil ?_ | ((with_reducible refine evOpsD_nil ?_ ?_); kernel_rfl) | ((with_reducible refine hK _ ?_); clear hK K) | (with_reducible first | refine And.intro ?_ ?_ | refine nxt_n ?_ | refine nxt_r ?_ | refine nxt_e ?_ | refine blk_n ?_ | refine blk_r ?_ | refine blk_same ?_ | refine blk_other (by decide) ?_ | refine noG_n ?_ | refine noG_r ?_ | refine noG_e ?_ | refine inR_mk ?_ ?_) | (refine fun (hc : (_ : Bool) = _) => ?_; try simp only [hcS] at hc))
  all_goals try exact om_
  refine V_loopK (G := {p : Nat × Bool × List Int // VA c d P p.2.2 ∧ (p.2.1 = true → uns p.2.2 < p.1 ∧ forceF c d (c.fr.length + 1) A = forceF c d p.1 p.2.2) ∧ (p.2.1 = false → forceF c d (c.fr.length + 1) A = (true, p.2.2))}) (fun p => [(3, .v (.bool p.1.2.1))]) [0] (fun p => [(2, ⟨1, .arr (ints p.1.2.2)⟩)]) [2] (fun p => if p.1.2.1 = true then p.1.1 else 0) ⟨(c.fr.length + 1, true, A), hA, fun _ => ⟨by show uns A < c.fr.length + 1; omega, rfl⟩, fun h => by cases h⟩ ?_ ?_
  · exact Imp.au hX
  rintro ⟨⟨k, g, B⟩, hB, hg, hng⟩
  simp only at hB hg hng
  simp only [go_sem, simprocAttr]
  have hBl := hB.len
  cases g
  · have e := spread_ok (b := b) (hng rfl)
    rw [e]
    have hdis := sp_search_distinct (c := c) (d := d) (b := b) (P := P) (A := B) (F := F) (M := M) sd (by omega) fun j hj => by have h1 := hB.rng.2 j hj; rw [sA_getD (by omega)] at h1; exact h1.2
    cases b
    · repeat' (first | (with_reducible first | refine V_seq ?_ | refine V_block ?_ | refine V_skip ?_ | refine V_ret ?_ | refine V_exit ?_) | ((with_reducible refine V_cond ?_); simp only [go_sem, simprocAttr]) | ((first | refine V_region (by rw [hn]; rfl) ?_ | refine V_drawn hmix (by rw [hn]; rfl) ?_); intro K hK) | ((first | with_reducible refine evOps_n ?_ | ((with_reducible apply evOps_g); rfl) | with_reducible refine evOpsD_n ?_ | ((with_reducible apply evOpsD_g); rfl)); intro K hK; simp (contextual := true) only [go_sem, simprocAttr]) | with_reducible refine evOps_nil ?_ | ((with_reducible refine evOpsD_nil ?_ ?_); kernel_rfl) | ((with_reducible refine hK _ ?_); clear hK K) | (with_reducible first | refine And.intro ?_ ?_ | refine nxt_n ?_ | refine nxt_r ?_ | refine nxt_e ?_ | refine blk_n ?_ | refine blk_r ?_ | refine blk_same ?_ | refine blk_other (by decide) ?_ | refine noG_n ?_ | refine noG_r ?_ | refine noG_e ?_ | refine inR_mk ?_ ?_) | ((with_reducible refine evCall_at 90 ?_); refine EvCall.mk (hdis) cal_search_distinct [(0,0),(1,1),(2,2),(3,3),(4,4),(5,5),(6,6)] [] (by simp [go_sem] <;> (repeat' (first | rfl | constructor))) (by simp [go_sem] <;> (repeat' (first | rfl | constructor))) ?_; all_goals try simp only [go_sem, simprocAttr]) | (refine fun (hc : (_ : Bool) = _) => ?_; try simp only [hcS] at hc))
      all_goals try exact om_
      · (first | refine ret_auto ?_ | refine ret_auto' ?_); simp only [go_sem, simprocAttr, Tryz.f79]
        rfl
    · repeat' (first | (with_reducible first | refine V_seq ?_ | refine V_block ?_ | refine V_skip ?_ | refine V_ret ?_ | refine V_exit ?_) | ((with_reducible refine V_cond ?_); simp only [go_sem, simprocAttr]) | ((first | refine V_region (by rw [hn]; rfl) ?_ | refine V_drawn hmix (by rw [hn]; rfl) ?_); intro K hK) | ((first | with_reducible refine evOps_n ?_ | ((with_reducible apply evOps_g); rfl) | with_reducible refine evOpsD_n ?_ | ((with_reducible apply evOpsD_g); rfl)); intro K hK; simp (contextual := true) only [go_sem, simprocAttr]) | with_reducible refine evOps_nil ?_ | ((with_reducible refine evOpsD_nil ?_ ?_); kernel_rfl) | ((with_reducible refine hK _ ?_); clear hK K) | (with_reducible first | refine And.intro ?_ ?_ | refine nxt_n ?_ | refine nxt_r ?_ | refine nxt_e ?_ | refine blk_n ?_ | refine blk_r ?_ | refine blk_same ?_ | refine blk_other (by decide) ?_ | refine noG_n ?_ | refine noG_r ?_ | refine noG_e ?_ | refine inR_mk ?_ ?_) | ((with_reducible refine evCall_at 90 ?_); refine EvCall.mk (hdis) cal_search_distinct [(0,0),(1,1),(2,2),(3,3),(4,4),(5,5),(6,6)] [] (by simp [go_sem] <;> (repeat' (first | rfl | constructor))) (by simp [go_sem] <;> (repeat' (first | rfl | constructor))) ?_; all_goals try simp only [go_sem, simprocAttr]) | (refine fun (hc : (_ : Bool) = _) => ?_; try simp only [hcS] at hc))
      all_goals try exact om_
      · (first | refine ret_auto ?_ | refine ret_auto' ?_); simp only [go_sem, simprocAttr, Tryz.f79]
        rfl
  · obtain ⟨hk, he⟩ := hg rfl
    obtain ⟨k, rfl⟩ : ∃ k', k = k' + 1 := ⟨k - 1, by omega⟩
    repeat' (first | (with_reducible first | refine V_seq ?_ | refine V_block ?_ | refine V_skip ?_ | refine V_ret ?_ | refine V_exit ?_) | ((with_reducible refine V_cond ?_); simp only [go_sem, simprocAttr]) | ((first | refine V_region (by rw [hn]; rfl) ?_ | refine V_drawn hmix (by rw [hn]; rfl) ?_); intro K hK) | ((first | with_reducible refine evOps_n ?_ | ((with_reducible apply evOps_g); rfl) | with_reducible refine evOpsD_n ?_ | ((with_reducible apply evOpsD_g); rfl)); intro K hK; simp (contextual := true) only [go_sem, simprocAttr]) | with_reducible refine evOps_nil ?_ | ((with_reducible refine evOpsD_nil ?_ ?_); kernel_rfl) | ((with_reducible refine hK _ ?_); clear hK K) | (with_reducible first | refine And.intro ?_ ?_ | refine nxt_n ?_ | refine nxt_r ?_ | refine nxt_e ?_ | refine blk_n ?_ | refine blk_r ?_ | refine blk_same ?_ | refine blk_other (by decide) ?_ | refine noG_n ?_ | refine noG_r ?_ | refine noG_e ?_ | refine inR_mk ?_ ?_) | (refine fun (hc : (_ : Bool) = _) => ?_; try simp only [hcS] at hc))
    all_goals try exact om_
    refine V_loopK (G := {a : Nat // a ≤ c.fr.length ∧ ((passF c d c.fr.length a (true, false, B)).1 = true)}) (fun ⟨a, _⟩ => [(18, iv a), (3, bv (passF c d c.fr.length a (true, false, B)).2.1)]) [0, 16, 17] (fun ⟨a, _⟩ => [(2, ⟨1, .arr (ints (passF c d c.fr.length a (true, false, B)).2.2)⟩)]) [2] (fun zz => c.fr.length - zz.1) ⟨0, Nat.zero_le _, by rfl⟩ ?_ ?_
    · exact Imp.au hX
    rintro ⟨a, hia, hwa⟩
    simp only [go_sem, simprocAttr]
    have fa := passF_facts (s := (true, false, B)) sc sd hB rfl hia
    rcases Nat.lt_or_ge a c.fr.length with hlt | hge
    · obtain ⟨g1, A1, hs⟩ : ∃ g1 A1, passF c d c.fr.length a (true, false, B) = (true, g1, A1) := ⟨_, _, Prod.ext hwa rfl⟩
      rw [hs] at fa hwa ⊢
      have fva := fa.va
      simp only at fva
      have row := (sc.coe a hlt).1
      repeat' (first | (with_reducible first | refine V_seq ?_ | refine V_block ?_ | refine V_skip ?_ | refine V_ret ?_ | refine V_exit ?_) | ((with_reducible refine V_cond ?_); simp only [go_sem, simprocAttr]) | ((first | refine V_region (by rw [hn]; rfl) ?_ | refine V_drawn hmix (by rw [hn]; rfl) ?_); intro K hK) | ((first | with_reducible refine evOps_n ?_ | ((with_reducible apply evOps_g); rfl) | with_reducible refine evOpsD_n ?_ | ((with_reducible apply evOpsD_g); rfl)); intro K hK; simp (contextual := true) only [go_sem, simprocAttr]) | with_reducible refine evOps_nil ?_ | ((with_reducible refine evOpsD_nil ?_ ?_); kernel_rfl) | ((with_reducible refine hK _ ?_); clear hK K) | (with_reducible first | refine And.intro ?_ ?_ | refine nxt_n ?_ | refine nxt_r ?_ | refine nxt_e ?_ | refine blk_n ?_ | refine blk_r ?_ | refine blk_same ?_ | refine blk_other (by decide) ?_ | refine noG_n ?_ | refine noG_r ?_ | refine noG_e ?_ | refine inR_mk ?_ ?_) | (refine fun (hc : (_ : Bool) = _) => ?_; try simp only [hcS] at hc))
      all_goals try exact om_
      refine V_loopK (G := {q : Nat // q ≤ c.fr.length ∧ ((rowF c d a q (true, g1, A1)).1 = true)}) (fun ⟨q, _⟩ => [(25, iv q), (3, bv (rowF c d a q (true, g1, A1)).2.1)]) [0, 4, 16, 17, 18, 23, 24] (fun ⟨q, _⟩ => [(2, ⟨1, .arr (ints (rowF c d a q (true, g1, A1)).2.2)⟩)]) [2] (fun zz => c.fr.length - zz.1) ⟨0, Nat.zero_le _, by rfl⟩ ?_ ?_
      · exact Imp.au hX
      rintro ⟨q, hiq, hwq⟩
      simp only [go_sem, simprocAttr]
      have fq := rowF_facts (s := (true, g1, A1)) sc sd fva hlt rfl hiq
      rcases Nat.lt_or_ge q c.fr.length with hlq | hgq
      · obtain ⟨g2, A2, hs2⟩ : ∃ g2 A2, rowF c d a q (true, g1, A1) = (true, g2, A2) := ⟨_, _, Prod.ext hwq rfl⟩
        rw [hs2] at fq hwq ⊢
        have fvq := fq.va
        simp only at fvq
        have fl := fvq.len
        have en : rowF c d a (q + 1) (true, g1, A1) = stF c d a q (true, g2, A2) := by rw [rowF_go (by rw [hs2]), hs2]
        have ga : 0 ≤ A2.getD a 0 → A2.getD a 0 < d.fr.length := fun h => (fvq.hi a (by omega) h).1
        have gq : 0 ≤ A2.getD q 0 → A2.getD q 0 < d.fr.length := fun h => (fvq.hi q (by omega) h).1
        have gh : 0 ≤ (c.co.getD a []).getD q 0 → ((c.co.getD a []).getD q 0).toNat < c.fr.length := fun h => (comp_ent sc hlt hlq h).2.1
        have gr : 0 ≤ A2.getD a 0 → (d.co.getD (A2.getD a 0).toNat []).length = d.fr.length := fun h => (sd.coe _ (by have := ga h; omega)).1
        repeat' (first | (with_reducible first | refine V_seq ?_ | refine V_block ?_ | refine V_skip ?_ | refine V_ret ?_ | refine V_exit ?_) | ((with_reducible refine V_cond ?_); simp only [go_sem, simprocAttr]) | ((first | refine V_region (by rw [hn]; rfl) ?_ | refine V_drawn hmix (by rw [hn]; rfl) ?_); intro K hK) | ((first | with_reducible refine evOps_n ?_ | ((with_reducible apply evOps_g); rfl) | with_reducible refine evOpsD_n ?_ | ((with_reducible apply evOpsD_g); rfl)); intro K hK; simp (contextual := true) only [go_sem, simprocAttr]) | with_reducible refine evOps_nil ?_ | ((with_reducible refine evOpsD_nil ?_ ?_); kernel_rfl) | ((with_reducible refine hK _ ?_); clear hK K) | (with_reducible first | refine And.intro ?_ ?_ | refine nxt_n ?_ | refine nxt_r ?_ | refine nxt_e ?_ | refine blk_n ?_ | refine blk_r ?_ | refine blk_same ?_ | refine blk_other (by decide) ?_ | refine noG_n ?_ | refine noG_r ?_ | refine noG_e ?_ | refine inR_mk ?_ ?_) | ((with_reducible refine evCall_at 60 ?_); refine EvCall.rq (a := (sp_Category_then ?_ ?_ ?_ ?_)) (b := cal_Category_then) (c := ?_); all_goals try simp only [go_sem, simprocAttr]) | (refine fun (hc : (_ : Bool) = _) => ?_; try simp only [hcS] at hc))
        all_goals try exact om_
        · have e1 := stF_skip (c := c) (d := d) (a := a) (b := q) (s := (true, g2, A2)) (.inr (.inr hc))
          refine ⟨⟨q + 1, by omega, (by (rw [en, e1]))⟩, by simp only; omega, Imp.auto hX (by simp only [go_sem, simprocAttr, en, e1])⟩
        · exact absurd (by rw [set_getD (by omega), if_pos rfl]) hc
        · have h0 : A2.getD ((c.co.getD a []).getD q 0).toNat 0 < 0 := by assumption
          have e1 := stF_set (c := c) (d := d) (a := a) (b := q) (s := (true, g2, A2)) (by rintro (h | h | h) <;> simp only [Cat.cp] at h <;> omega) h0
          refine ⟨⟨q + 1, by omega, (by (rw [en, e1]))⟩, by simp only; omega, Imp.auto hX (by simp only [go_sem, simprocAttr, en, e1])⟩
        · have h0 : 0 ≤ A2.getD ((c.co.getD a []).getD q 0).toNat 0 := by assumption
          have e1 := stF_has (c := c) (d := d) (a := a) (b := q) (s := (true, g2, A2)) (by rintro (h | h | h) <;> simp only [Cat.cp] at h <;> omega) (Int.not_lt.2 h0)
          have ff := force_fail (k := k) hlt hlq hs rfl hs2 rfl e1 (decide_eq_false hc)
          have es := spread_no (b := b) (he.trans ff)
          rw [es]
          (first | refine ret_auto ?_ | refine ret_auto' ?_); simp only [go_sem, simprocAttr, Tryz.f79]
        · have h0 : 0 ≤ A2.getD ((c.co.getD a []).getD q 0).toNat 0 := by assumption
          have e1 := stF_has (c := c) (d := d) (a := a) (b := q) (s := (true, g2, A2)) (by rintro (h | h | h) <;> simp only [Cat.cp] at h <;> omega) (Int.not_lt.2 h0)
          refine ⟨⟨q + 1, by omega, (by (rw [en, e1]; exact decide_eq_true hc))⟩, by simp only; omega, Imp.auto hX (by simp only [go_sem, simprocAttr, en, e1])⟩
        · have e1 := stF_skip (c := c) (d := d) (a := a) (b := q) (s := (true, g2, A2)) (.inr (.inl hc))
          refine ⟨⟨q + 1, by omega, (by (rw [en, e1]))⟩, by simp only; omega, Imp.auto hX (by simp only [go_sem, simprocAttr, en, e1])⟩
        · have e1 := stF_skip (c := c) (d := d) (a := a) (b := q) (s := (true, g2, A2)) (.inl hc)
          refine ⟨⟨q + 1, by omega, (by (rw [en, e1]))⟩, by simp only; omega, Imp.auto hX (by simp only [go_sem, simprocAttr, en, e1])⟩
      · have e9 : passF c d c.fr.length (a + 1) (true, false, B) = rowF c d a c.fr.length (true, g1, A1) := by rw [passF_go (by rw [hs]), hs]
        have eq : q = c.fr.length := by omega
        subst eq
        repeat' (first | (with_reducible first | refine V_seq ?_ | refine V_block ?_ | refine V_skip ?_ | refine V_ret ?_ | refine V_exit ?_) | ((with_reducible refine V_cond ?_); simp only [go_sem, simprocAttr]) | ((first | refine V_region (by rw [hn]; rfl) ?_ | refine V_drawn hmix (by rw [hn]; rfl) ?_); intro K hK) | ((first | with_reducible refine evOps_n ?_ | ((with_reducible apply evOps_g); rfl) | with_reducible refine evOpsD_n ?_ | ((with_reducible apply evOpsD_g); rfl)); intro K hK; simp (contextual := true) only [go_sem, simprocAttr]) | with_reducible refine evOps_nil ?_ | ((with_reducible refine evOpsD_nil ?_ ?_); kernel_rfl) | ((with_reducible refine hK _ ?_); clear hK K) | (with_reducible first | refine And.intro ?_ ?_ | refine nxt_n ?_ | refine nxt_r ?_ | refine nxt_e ?_ | refine blk_n ?_ | refine blk_r ?_ | refine blk_same ?_ | refine blk_other (by decide) ?_ | refine noG_n ?_ | refine noG_r ?_ | refine noG_e ?_ | refine inR_mk ?_ ?_) | (refine fun (hc : (_ : Bool) = _) => ?_; try simp only [hcS] at hc))
        all_goals try exact om_
        · refine ⟨⟨a + 1, by omega, (by (rw [e9]; exact hwq))⟩, by simp only; omega, Imp.auto hX (by simp only [go_sem, simprocAttr, e9])⟩
    · have ea : a = c.fr.length := by omega
      subst ea
      obtain ⟨g1, A1, hs⟩ : ∃ g1 A1, passF c d c.fr.length c.fr.length (true, false, B) = (true, g1, A1) := ⟨_, _, Prod.ext hwa rfl⟩
      rw [hs] at fa ⊢
      have fva := fa.va
      simp only at fva
      cases g1
      · repeat' (first | (with_reducible first | refine V_seq ?_ | refine V_block ?_ | refine V_skip ?_ | refine V_ret ?_ | refine V_exit ?_) | ((with_reducible refine V_cond ?_); simp only [go_sem, simprocAttr]) | ((first | refine V_region (by rw [hn]; rfl) ?_ | refine V_drawn hmix (by rw [hn]; rfl) ?_); intro K hK) | ((first | with_reducible refine evOps_n ?_ | ((with_reducible apply evOps_g); rfl) | with_reducible refine evOpsD_n ?_ | ((with_reducible apply evOpsD_g); rfl)); intro K hK; simp (contextual := true) only [go_sem, simprocAttr]) | with_reducible refine evOps_nil ?_ | ((with_reducible refine evOpsD_nil ?_ ?_); kernel_rfl) | ((with_reducible refine hK _ ?_); clear hK K) | (with_reducible first | refine And.intro ?_ ?_ | refine nxt_n ?_ | refine nxt_r ?_ | refine nxt_e ?_ | refine blk_n ?_ | refine blk_r ?_ | refine blk_same ?_ | refine blk_other (by decide) ?_ | refine noG_n ?_ | refine noG_r ?_ | refine noG_e ?_ | refine inR_mk ?_ ?_) | (refine fun (hc : (_ : Bool) = _) => ?_; try simp only [hcS] at hc))
        all_goals try exact om_
        · refine ⟨⟨(k, false, A1), fva, fun h => (by cases h), fun _ => by rw [he, forceF_end (by rw [hs]) (by rw [hs]), hs]⟩, by simp, Imp.ao hX⟩
      · have fp := fa.prog rfl
        simp only [Bool.false_eq_true, false_or] at fp
        repeat' (first | (with_reducible first | refine V_seq ?_ | refine V_block ?_ | refine V_skip ?_ | refine V_ret ?_ | refine V_exit ?_) | ((with_reducible refine V_cond ?_); simp only [go_sem, simprocAttr]) | ((first | refine V_region (by rw [hn]; rfl) ?_ | refine V_drawn hmix (by rw [hn]; rfl) ?_); intro K hK) | ((first | with_reducible refine evOps_n ?_ | ((with_reducible apply evOps_g); rfl) | with_reducible refine evOpsD_n ?_ | ((with_reducible apply evOpsD_g); rfl)); intro K hK; simp (contextual := true) only [go_sem, simprocAttr]) | with_reducible refine evOps_nil ?_ | ((with_reducible refine evOpsD_nil ?_ ?_); kernel_rfl) | ((with_reducible refine hK _ ?_); clear hK K) | (with_reducible first | refine And.intro ?_ ?_ | refine nxt_n ?_ | refine nxt_r ?_ | refine nxt_e ?_ | refine blk_n ?_ | refine blk_r ?_ | refine blk_same ?_ | refine blk_other (by decide) ?_ | refine noG_n ?_ | refine noG_r ?_ | refine noG_e ?_ | refine inR_mk ?_ ?_) | (refine fun (hc : (_ : Bool) = _) => ?_; try simp only [hcS] at hc))
        all_goals try exact om_
        · refine ⟨⟨(k, true, A1), fva, fun _ => ⟨by show uns A1 < k; omega, by rw [he, forceF_go (by rw [hs]) (by rw [hs]), hs]⟩, fun h => by cases h⟩, by simp, Imp.ao hX⟩
end Go.Eng
