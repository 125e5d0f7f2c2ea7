/- Several texts in one: Q04, Q05. -/
import Derived.Test.YtfinbajnalaomaaGreatKalx
import Derived.Test.YtfinbajnalaomaaGreatQ03q
set_option linter.unusedSimpArgs false
set_option linter.unusedVariables false
set_option maxRecDepth 100000
set_option maxHeartbeats 16000000
section
namespace Go.Eng
open Go Go.Proofs Go.Cats
attribute [local go_sem] List.set_cons_zero List.set_cons_succ
theorem cal_searchFor : Callable Tryz.prog 61 := ⟨_, Tryz.func61, rfl, rfl⟩
theorem sp_searchFor {c d : Cat} {b : Bool} {F : List Fun} {M : Nat} (sc : Shape c) : Spec Tryz.prog 61 [.bptr [] (catD c), .bptr [] (catD d), .v (.bool b), .fn 62 [.ptr 3 0, .ptr 4 0, .ptr 5 0, .ptr 6 0]] [(3, ⟨1, .bx [.dead] 0 (funsD (F))⟩), (4, ⟨1, .box [.bptr [] (catD c)]⟩), (5, ⟨1, .box [.bptr [] (catD d)]⟩), (6, ⟨1, .box [iv M]⟩)] (.ptr 0 0) [(0, ⟨1, .box [.bptr [] (catD c), .bptr [] (catD d), .sl 1, .sl 2, .v (.bool b), .fn 62 [.ptr 3 0, .ptr 4 0, .ptr 5 0, .ptr 6 0]]⟩), (1, ⟨1, .arr (ints (List.replicate c.ob.toNat 0))⟩), (2, ⟨1, .arr (ints (List.replicate c.fr.length 0))⟩), (3, ⟨1, .bx [.dead] 0 (funsD (F))⟩), (4, ⟨1, .box [.bptr [] (catD c)]⟩), (5, ⟨1, .box [.bptr [] (catD d)]⟩), (6, ⟨1, .box [iv M]⟩)] := by
  refine spec_of_V (E := TE) 7 Tryz.func61 rfl (by simp [Tryz.f61]) fun X hn hX => ?_
  have m40 := sc.m40
  have n8 := sc.ob8
  have o0 := sc.ob0
  repeat' (first | (with_reducible first | refine V_seq ?_ | refine V_skip ?_ | refine V_ret ?_) | ((with_reducible refine V_cond ?_); simp only [go_sem, simprocAttr]) | ((first | refine V_region (by rw [hn]; rfl) ?_ | refine V_drawn hmix (by rw [hn]; rfl) ?_); intro K hK) | ((first | with_reducible refine evOps_n ?_ | ((with_reducible apply evOps_g); rfl) | with_reducible refine evOpsD_n ?_ | ((with_reducible apply evOpsD_g); rfl)); intro K hK; simp (contextual := true) only [go_sem, simprocAttr]) | with_reducible refine evOps_nil ?_ | ((with_reducible refine evOpsD_nil ?_ ?_); kernel_rfl) | ((with_reducible refine hK _ ?_); clear hK K) | (with_reducible first | refine And.intro ?_ ?_ | refine nxt_n ?_ | refine nxt_r ?_ | refine inR_mk ?_ ?_) | ((with_reducible refine evCall_at 56 ?_); refine EvCall.rq (a := (sp_Category_arrows)) (b := cal_Category_arrows) (c := ?_); all_goals try simp only [go_sem, simprocAttr]) | (refine fun (hc : (_ : Bool) = _) => ?_; try simp only [hcS] at hc))
  all_goals try exact om_
  · (first | refine ret_auto ?_ | refine ret_auto' ?_); simp only [go_sem, simprocAttr, Tryz.f61]
theorem cal_allFunctors : Callable Tryz.prog 43 := ⟨_, Tryz.func43, rfl, rfl⟩
theorem sp_allFunctors {c d : Cat} {b : Bool} {M : Nat} (sc : IsCat c) (sd : IsCat d) (bc : CatB c) (bd : CatB d) (hM : M ≤ 4096) : Spec Tryz.prog 43 [.bptr [] (catD c), .bptr [] (catD d), .v (.bool b), iv M] [] (.tup [.sl 0, bv (eat (stL M) [] (funX c d b c.ob.toNat [])).1]) [(0, ⟨1, .arr (funsD (eat (stL M) [] (funX c d b c.ob.toNat [])).2)⟩)] := by
  refine spec_of_V (E := TE) 0 Tryz.func43 rfl (by simp [Tryz.f43]) fun X hn hX => ?_
  have o0 := sc.toShape.ob0
  have hfor := sp_searchFor (d := d) (b := b) (F := []) (M := M) sc.toShape
  have hrun := sp_search_run_n (b := b) (M := M) sc sd bc bd hM c.ob.toNat 0 (List.replicate c.ob.toNat 0) (List.replicate c.fr.length 0) [] (by rw [List.length_replicate]; omega) (by rw [List.length_replicate]; omega) (fun i hi => by simp at hi) (fun _ i j _ hj => by simp at hj) (by rw [List.length_replicate]) (Nat.zero_le _)
  rw [List.take_zero] at hrun
  repeat' (first | (refine V_at 2 (Imp.closeB 4 3 0 _ _ rfl rfl rfl (by decide)) ?_; simp only [go_sem, simprocAttr]) | (refine V_at 4 (Imp.openB 4 0 _ _ rfl (Nat.succ_le_succ (Nat.zero_le _)) rfl rfl) ?_; simp only [go_sem, simprocAttr]) | (with_reducible first | refine V_seq ?_ | refine V_skip ?_ | refine V_ret ?_) | ((with_reducible refine V_cond ?_); simp only [go_sem, simprocAttr]) | ((refine V_region (by rw [hn]; rfl) ?_); intro K hK) | ((first | with_reducible refine evOps_n ?_ | ((with_reducible apply evOps_g); rfl)); intro K hK; simp (contextual := true) only [go_sem, simprocAttr]) | with_reducible refine evOps_nil ?_ | ((with_reducible refine hK _ ?_); clear hK K) | (with_reducible first | refine And.intro ?_ ?_ | refine nxt_n ?_ | refine nxt_r ?_ | refine inR_mk ?_ ?_) | ((with_reducible refine evCall_at 61 ?_); refine EvCall.mk (hfor) cal_searchFor [(3,4),(4,0),(5,1),(6,2),(0,5),(1,6),(2,7)] [] (by simp [go_sem] <;> (repeat' (first | rfl | constructor))) (by simp [go_sem] <;> (repeat' (first | rfl | constructor))) ?_; all_goals try simp only [go_sem, simprocAttr]) | ((with_reducible refine evCall_at 64 ?_); refine EvCall.mk (hrun) cal_search_run [(0,5),(1,6),(2,7),(3,4),(4,0),(5,1),(6,2)] [] (by simp [go_sem] <;> (repeat' (first | rfl | constructor))) (by simp [go_sem] <;> (repeat' (first | rfl | constructor))) ?_; all_goals try simp only [go_sem, simprocAttr]) | (refine fun (hc : (_ : Bool) = _) => ?_; try simp only [hcS] at hc))
  all_goals try exact om_
  · (first | refine ret_auto ?_ | refine ret_auto' ?_); simp only [go_sem, simprocAttr, Tryz.f43]
end Go.Eng
end
section
namespace Go.Eng
open Go Go.Proofs Go.Cats
attribute [local go_sem] List.set_cons_zero List.set_cons_succ
theorem view0L_cat (c : Cat) {V : List Nat} {rs : Nat → Rs} : view0L V rs [iv c.ob, .bor [] (ints c.fr), .bor [] (ints c.to), .bor [] (ints c.id), .bor [] (intss c.co)] (catD c) :=
  ⟨_, _, rfl, .inl rfl, _, _, rfl, ⟨rfl, tagV_nil _, fun p hp => by cases hp⟩, _, _, rfl, ⟨rfl, tagV_nil _, fun p hp => by cases hp⟩, _, _, rfl, ⟨rfl, tagV_nil _, fun p hp => by cases hp⟩, _, _, rfl, ⟨rfl, tagV_nil _, fun p hp => by cases hp⟩, rfl⟩
theorem Imp.lendCat {X : Cx} {σ : Ss} (k i cv : Nat) (c : Cat) (hk : lk σ.tm k = .ptr i 0) (hi : rsL σ.rs i = ⟨cv, .box [iv c.ob, .bor [] (ints c.fr), .bor [] (ints c.to), .bor [] (ints c.id), .bor [] (intss c.co)]⟩) (hcv : 1 ≤ cv) : Imp X σ ⟨(k, .bptr [(i, cv)] (catD c)) :: σ.tm, σ.rs, σ.nx⟩ := by
  have h := Imp.lendPtr (X := X) (σ := σ) k i 0 (catD c) [i] hk ⟨List.mem_singleton.2 rfl, .inl ⟨_, by rw [hi], view0L_cat c⟩⟩ (fun j hj => by rw [List.mem_singleton.1 hj, hi]; exact hcv)
  rw [List.map_cons, List.map_nil, hi] at h
  exact h
structure _root_.Go.Cats.IYes (c d : Cat) (g : Fun) : Prop where
  src : IsCat c
  tgt : IsCat d
  small : c.fr.length ≤ 16 ∧ d.fr.length ≤ 16
  ob : c.ob = d.ob
  ar : c.fr.length = d.fr.length
  fst : ∃ D, funX c d true c.ob.toNat [] = g :: D
end Go.Eng
end
