/- Maps and functors one behind the other, by the program and by the reference. -/
import Derived.Test.YtfinbajnalaomaaGreatC18q
set_option linter.unusedSimpArgs false
set_option linter.unusedVariables false
set_option maxRecDepth 100000
set_option maxHeartbeats 16000000
namespace Go.Eng
open Go Go.Proofs Go.Cats
def _root_.Go.Cats.thn (f g : List Int) : List Int := f.map fun y => g.getD y.toNat 0
def _root_.Go.Cats.thF (f g : Fun) : Fun := ⟨f.src, g.tgt, thn f.obs g.obs, thn f.ars g.ars⟩
theorem _root_.Go.Cats.thn_len (f g : List Int) : (thn f g).length = f.length := by unfold thn; rw [List.length_map]
theorem _root_.Go.Cats.thn_at {f g : List Int} {i : Nat} (hi : i < f.length) : (thn f g).getD i 0 = g.getD (f.getD i 0).toNat 0 := by
  unfold thn
  rw [List.getD_eq_getElem?_getD, List.getElem?_map, List.getElem?_eq_getElem hi, List.getD_eq_getElem?_getD (l := f), List.getElem?_eq_getElem hi]; rfl
theorem _root_.Go.Cats.thn_in {f g : List Int} {n : Int} (h : Within f g.length) (k : Within g n) : Within (thn f g) n := fun i hi => by
  rw [thn_len] at hi
  rw [thn_at hi]
  have := h i hi
  exact k _ (by omega)
theorem thn_fill {f g : List Int} {i : Nat} (hi : i < f.length) : (thn (f.take (i + 1)) g) = thn (f.take i) g ++ [g.getD (f.getD i 0).toNat 0] := by
  unfold thn
  rw [List.take_succ_eq_append_getElem hi, List.map_append, List.getD_eq_getElem?_getD (l := f), List.getElem?_eq_getElem hi]; rfl
theorem thn_nil (g : List Int) : thn [] g = [] := rfl
attribute [local go_sem] List.set_cons_zero List.set_cons_succ thn_nil
theorem cal_then : Callable Tryz.prog 65 := ⟨_, Tryz.func65, rfl, rfl⟩
theorem sp_then {f g : List Int} (hf : f.length ≤ 1048576) (hg : g.length ≤ 1048576) (hw : Within f g.length) : Spec Tryz.prog 65 [.bor [] (ints f), .bor [] (ints g)] [] (.sl 0) [(0, ⟨1, .arr (ints (thn f g))⟩)] := by
  refine spec_of_V (E := TE) 0 Tryz.func65 rfl (by simp [Tryz.f65]) fun X hn hX => ?_
  obtain ⟨p, hp⟩ : ∃ p, thn f g = p := ⟨_, rfl⟩
  have hpl : p.length = f.length := by rw [← hp, thn_len]
  have hpa : ∀ i, i < f.length → p.getD i 0 = g.getD (f.getD i 0).toNat 0 := fun i hi => by rw [← hp, thn_at hi]
  rw [hp]
  repeat' (first | (with_reducible first | refine V_seq ?_ | refine V_block ?_ | refine V_skip ?_ | refine V_ret ?_ | refine V_exit ?_) | ((with_reducible refine V_cond ?_); simp only [go_sem, simprocAttr]) | ((refine V_region (by rw [hn]; rfl) ?_); intro K hK) | ((first | with_reducible refine evOps_n ?_ | ((with_reducible apply evOps_g); rfl)); intro K hK; simp (contextual := true) only [go_sem, simprocAttr]) | with_reducible refine evOps_nil ?_ | ((with_reducible refine hK _ ?_); clear hK K) | (with_reducible first | refine And.intro ?_ ?_ | refine nxt_n ?_ | refine nxt_r ?_ | refine nxt_e ?_ | refine blk_n ?_ | refine blk_r ?_ | refine blk_same ?_ | refine blk_other (by decide) ?_ | refine noG_n ?_ | refine noG_r ?_ | refine noG_e ?_ | refine inR_mk ?_ ?_) | (refine fun (hc : (_ : Bool) = _) => ?_; try simp only [hcS] at hc))
  all_goals try exact om_
  refine V_loopK (G := {i : Nat // i ≤ f.length ∧ (True)}) (fun ⟨i, _⟩ => [(13, iv i), (5, .sl 0)]) [1, 4, 11, 12] (fun ⟨i, _⟩ => [(0, ⟨1, .arr (ints (p.take i ++ List.replicate (f.length - i) 0))⟩)]) [0] (fun zz => f.length - zz.1) ⟨0, Nat.zero_le _, by first | trivial | simp⟩ ?_ ?_
  · exact Imp.au hX
  rintro ⟨i, hii, hwi⟩
  simp only [go_sem, simprocAttr]
  have h1 := hw i
  have h2 := hpa i
  have h3 := fill_step p i
  rw [hpl] at h3
  repeat' (first | (with_reducible first | refine V_seq ?_ | refine V_block ?_ | refine V_skip ?_ | refine V_ret ?_ | refine V_exit ?_) | ((with_reducible refine V_cond ?_); simp only [go_sem, simprocAttr]) | ((refine V_region (by rw [hn]; rfl) ?_); intro K hK) | ((first | with_reducible refine evOps_n ?_ | ((with_reducible apply evOps_g); rfl)); intro K hK; simp (contextual := true) only [go_sem, simprocAttr]) | with_reducible refine evOps_nil ?_ | ((with_reducible refine hK _ ?_); clear hK K) | (with_reducible first | refine And.intro ?_ ?_ | refine nxt_n ?_ | refine nxt_r ?_ | refine nxt_e ?_ | refine blk_n ?_ | refine blk_r ?_ | refine blk_same ?_ | refine blk_other (by decide) ?_ | refine noG_n ?_ | refine noG_r ?_ | refine noG_e ?_ | refine inR_mk ?_ ?_) | (refine fun (hc : (_ : Bool) = _) => ?_; try simp only [hcS] at hc))
  all_goals try exact om_
  · refine ⟨⟨i + 1, by omega, (by trivial)⟩, by simp only; omega, Imp.auto hX (by simp only [go_sem, simprocAttr, ← h2 (by omega), h3 (show i < f.length by omega)])⟩
  · (first | refine ret_auto ?_ | refine ret_auto' ?_); simp only [go_sem, simprocAttr, Tryz.f65]
    rw [show i = f.length by omega]; simp [← hpl]
theorem cal_l01Then : Callable Tryz.prog 37 := ⟨_, Tryz.func37, rfl, rfl⟩
theorem sp_l01Then {f g : List Int} (hf : f.length ≤ 1048576) (hg : g.length ≤ 1048576) (hw : Within f g.length) : Spec Tryz.prog 37 [.bor [] (ints f), .bor [] (ints g)] [] (.sl 0) [(0, ⟨1, .arr (ints (thn f g))⟩)] := by
  refine spec_of_V (E := TE) 0 Tryz.func37 rfl (by simp [Tryz.f37]) fun X hn hX => ?_
  repeat' (first | (with_reducible first | refine V_seq ?_ | refine V_block ?_ | refine V_skip ?_ | refine V_ret ?_ | refine V_exit ?_) | ((with_reducible refine V_cond ?_); simp only [go_sem, simprocAttr]) | ((refine V_region (by rw [hn]; rfl) ?_); intro K hK) | ((first | with_reducible refine evOps_n ?_ | ((with_reducible apply evOps_g); rfl)); intro K hK; simp (contextual := true) only [go_sem, simprocAttr]) | with_reducible refine evOps_nil ?_ | ((with_reducible refine hK _ ?_); clear hK K) | (with_reducible first | refine And.intro ?_ ?_ | refine nxt_n ?_ | refine nxt_r ?_ | refine nxt_e ?_ | refine blk_n ?_ | refine blk_r ?_ | refine blk_same ?_ | refine blk_other (by decide) ?_ | refine noG_n ?_ | refine noG_r ?_ | refine noG_e ?_ | refine inR_mk ?_ ?_) | (refine fun (hc : (_ : Bool) = _) => ?_; try simp only [hcS] at hc))
  all_goals try exact om_
  refine V_loopK (G := {i : Nat // i ≤ f.length ∧ (True)}) (fun ⟨i, _⟩ => [(6, iv i), (5, .sl 0)]) [0, 1, 4] (fun ⟨i, _⟩ => [(0, ⟨1, .arr (ints (thn (f.take i) g))⟩)]) [0] (fun zz => f.length - zz.1) ⟨0, Nat.zero_le _, by first | trivial | simp⟩ ?_ ?_
  · exact Imp.au hX
  rintro ⟨i, hii, hwi⟩
  simp only [go_sem, simprocAttr]
  have h1 := hw i
  have hl : (thn (f.take i) g).length ≤ i := by rw [thn_len, List.length_take]; omega
  rcases Nat.lt_or_ge i f.length with hlt | hge
  · have h2 := h1 hlt
    have e1 := thn_fill (g := g) hlt
    repeat' (first | (with_reducible first | refine V_seq ?_ | refine V_block ?_ | refine V_skip ?_ | refine V_ret ?_ | refine V_exit ?_) | ((with_reducible refine V_cond ?_); simp only [go_sem, simprocAttr]) | ((refine V_region (by rw [hn]; rfl) ?_); intro K hK) | ((first | with_reducible refine evOps_n ?_ | ((with_reducible apply evOps_g); rfl)); intro K hK; simp (contextual := true) only [go_sem, simprocAttr]) | with_reducible refine evOps_nil ?_ | ((with_reducible refine hK _ ?_); clear hK K) | (with_reducible first | refine And.intro ?_ ?_ | refine nxt_n ?_ | refine nxt_r ?_ | refine nxt_e ?_ | refine blk_n ?_ | refine blk_r ?_ | refine blk_same ?_ | refine blk_other (by decide) ?_ | refine noG_n ?_ | refine noG_r ?_ | refine noG_e ?_ | refine inR_mk ?_ ?_) | (refine fun (hc : (_ : Bool) = _) => ?_; try simp only [hcS] at hc))
    all_goals try exact om_
    · refine ⟨⟨i + 1, by omega, (by trivial)⟩, by simp only; omega, Imp.auto hX (by simp only [go_sem, simprocAttr, e1])⟩
  · have e1 : thn (f.take i) g = thn f g := by rw [List.take_of_length_le hge]
    repeat' (first | (with_reducible first | refine V_seq ?_ | refine V_block ?_ | refine V_skip ?_ | refine V_ret ?_ | refine V_exit ?_) | ((with_reducible refine V_cond ?_); simp only [go_sem, simprocAttr]) | ((refine V_region (by rw [hn]; rfl) ?_); intro K hK) | ((first | with_reducible refine evOps_n ?_ | ((with_reducible apply evOps_g); rfl)); intro K hK; simp (contextual := true) only [go_sem, simprocAttr]) | with_reducible refine evOps_nil ?_ | ((with_reducible refine hK _ ?_); clear hK K) | (with_reducible first | refine And.intro ?_ ?_ | refine nxt_n ?_ | refine nxt_r ?_ | refine nxt_e ?_ | refine blk_n ?_ | refine blk_r ?_ | refine blk_same ?_ | refine blk_other (by decide) ?_ | refine noG_n ?_ | refine noG_r ?_ | refine noG_e ?_ | refine inR_mk ?_ ?_) | (refine fun (hc : (_ : Bool) = _) => ?_; try simp only [hcS] at hc))
    all_goals try exact om_
    · (first | refine ret_auto ?_ | refine ret_auto' ?_); simp only [go_sem, simprocAttr, Tryz.f37]
      rw [e1]
structure ThF (f g : Fun) : Prop where
  src : CatB f.src
  tgt : CatB g.tgt
  lo : f.obs.length ≤ 1048576
  la : f.ars.length ≤ 1048576
  go : g.obs.length ≤ 1048576
  ga : g.ars.length ≤ 1048576
  wo : Within f.obs g.obs.length
  wa : Within f.ars g.ars.length
theorem cal_Functor_then : Callable Tryz.prog 44 := ⟨_, Tryz.func44, rfl, rfl⟩
theorem sp_Functor_then {f g : Fun} (h : ThF f g) : Spec Tryz.prog 44 [.bptr [] (funD f), .bptr [] (funD g)] [] (.agg [iv (thF f g).src.ob, .sl 0, .sl 1, .sl 2, .sl 3, iv (thF f g).tgt.ob, .sl 4, .sl 5, .sl 6, .sl 7, .sl 8, .sl 9]) [(0, ⟨1, .arr (ints (thF f g).src.fr)⟩), (1, ⟨1, .arr (ints (thF f g).src.to)⟩), (2, ⟨1, .arr (ints (thF f g).src.id)⟩), (3, ⟨1, .arr (intss (thF f g).src.co)⟩), (4, ⟨1, .arr (ints (thF f g).tgt.fr)⟩), (5, ⟨1, .arr (ints (thF f g).tgt.to)⟩), (6, ⟨1, .arr (ints (thF f g).tgt.id)⟩), (7, ⟨1, .arr (intss (thF f g).tgt.co)⟩), (8, ⟨1, .arr (ints (thF f g).obs)⟩), (9, ⟨1, .arr (ints (thF f g).ars)⟩)] := by
  refine spec_of_V (E := TE) 0 Tryz.func44 rfl (by simp [Tryz.f44]) fun X hn hX => ?_
  obtain ⟨b1, b2, b3, b4, b5, b6, b7, b8⟩ := h
  have l1 := thn_len f.obs g.obs
  have l2 := thn_len f.ars g.ars
  repeat' (first | (with_reducible first | refine V_seq ?_ | refine V_skip ?_ | refine V_ret ?_) | ((with_reducible refine V_cond ?_); simp only [go_sem, simprocAttr]) | ((first | refine V_region (by rw [hn]; rfl) ?_ | refine V_drawn hmix (by rw [hn]; rfl) ?_); intro K hK) | ((first | with_reducible refine evOps_n ?_ | ((with_reducible apply evOps_g); rfl) | with_reducible refine evOpsD_n ?_ | ((with_reducible apply evOpsD_g); rfl)); intro K hK; simp (contextual := true) only [go_sem, simprocAttr]) | with_reducible refine evOps_nil ?_ | ((with_reducible refine evOpsD_nil ?_ ?_); kernel_rfl) | ((with_reducible refine hK _ ?_); clear hK K) | (with_reducible first | refine And.intro ?_ ?_ | refine nxt_n ?_ | refine nxt_r ?_ | refine inR_mk ?_ ?_) | ((with_reducible refine evCall_at 65 ?_); refine EvCall.rq (a := (sp_then (f:=f.obs) (g:=g.obs) ?_ ?_ ?_)) (b := cal_then) (c := ?_); all_goals try simp only [go_sem, simprocAttr]) | ((with_reducible refine evCall_at 65 ?_); refine EvCall.rq (a := (sp_then (f:=f.ars) (g:=g.ars) ?_ ?_ ?_)) (b := cal_then) (c := ?_); all_goals try simp only [go_sem, simprocAttr]) | ((with_reducible refine evCall_at 63 ?_); refine EvCall.rq (a := (sp_functor (c:=f.src) (d:=g.tgt) (p:=thn f.obs g.obs) (q:=thn f.ars g.ars) ?_ ?_ ?_ ?_)) (b := cal_functor) (c := ?_); all_goals try simp only [go_sem, simprocAttr]) | (refine fun (hc : (_ : Bool) = _) => ?_; try simp only [hcS] at hc))
  all_goals try exact om_
  all_goals ((first | refine ret_auto ?_ | refine ret_auto' ?_); simp only [go_sem, simprocAttr, Tryz.f44])
  all_goals exact ⟨⟨rfl, rfl, rfl, rfl, rfl, rfl, rfl, rfl, rfl, rfl⟩, rfl⟩
theorem cal_l06Then : Callable Tryz.prog 18 := ⟨_, Tryz.func18, rfl, rfl⟩
theorem sp_l06Then {f g : Fun} (h : ThF f g) : Spec Tryz.prog 18 [funV f, funV g] [] (.agg [iv (thF f g).src.ob, .sl 0, .sl 1, .sl 2, .sl 3, iv (thF f g).tgt.ob, .sl 4, .sl 5, .sl 6, .sl 7, .sl 8, .sl 9]) [(0, ⟨1, .arr (ints (thF f g).src.fr)⟩), (1, ⟨1, .arr (ints (thF f g).src.to)⟩), (2, ⟨1, .arr (ints (thF f g).src.id)⟩), (3, ⟨1, .arr (intss (thF f g).src.co)⟩), (4, ⟨1, .arr (ints (thF f g).tgt.fr)⟩), (5, ⟨1, .arr (ints (thF f g).tgt.to)⟩), (6, ⟨1, .arr (ints (thF f g).tgt.id)⟩), (7, ⟨1, .arr (intss (thF f g).tgt.co)⟩), (8, ⟨1, .arr (ints (thF f g).obs)⟩), (9, ⟨1, .arr (ints (thF f g).ars)⟩)] := by
  refine spec_of_V (E := TE) 0 Tryz.func18 rfl (by simp [Tryz.f18]) fun X hn hX => ?_
  obtain ⟨b1, b2, b3, b4, b5, b6, b7, b8⟩ := h
  have l1 := thn_len f.obs g.obs
  have l2 := thn_len f.ars g.ars
  repeat' (first | (with_reducible first | refine V_seq ?_ | refine V_skip ?_ | refine V_ret ?_) | ((with_reducible refine V_cond ?_); simp only [go_sem, simprocAttr]) | ((first | refine V_region (by rw [hn]; rfl) ?_ | refine V_drawn hmix (by rw [hn]; rfl) ?_); intro K hK) | ((first | with_reducible refine evOps_n ?_ | ((with_reducible apply evOps_g); rfl) | with_reducible refine evOpsD_n ?_ | ((with_reducible apply evOpsD_g); rfl)); intro K hK; simp (contextual := true) only [go_sem, simprocAttr]) | with_reducible refine evOps_nil ?_ | ((with_reducible refine evOpsD_nil ?_ ?_); kernel_rfl) | ((with_reducible refine hK _ ?_); clear hK K) | (with_reducible first | refine And.intro ?_ ?_ | refine nxt_n ?_ | refine nxt_r ?_ | refine inR_mk ?_ ?_) | ((with_reducible refine evCall_at 37 ?_); refine EvCall.rq (a := (sp_l01Then (f:=f.obs) (g:=g.obs) ?_ ?_ ?_)) (b := cal_l01Then) (c := ?_); all_goals try simp only [go_sem, simprocAttr]) | ((with_reducible refine evCall_at 37 ?_); refine EvCall.rq (a := (sp_l01Then (f:=f.ars) (g:=g.ars) ?_ ?_ ?_)) (b := cal_l01Then) (c := ?_); all_goals try simp only [go_sem, simprocAttr]) | ((with_reducible refine evCall_at 36 ?_); refine EvCall.rq (a := (sp_l06Make (c:=f.src) (d:=g.tgt) (p:=thn f.obs g.obs) (q:=thn f.ars g.ars) ?_ ?_ ?_ ?_)) (b := cal_l06Make) (c := ?_); all_goals try simp only [go_sem, simprocAttr]) | (refine fun (hc : (_ : Bool) = _) => ?_; try simp only [hcS] at hc))
  all_goals try exact om_
  all_goals ((first | refine ret_auto ?_ | refine ret_auto' ?_); simp only [go_sem, simprocAttr, Tryz.f18])
  all_goals exact ⟨⟨rfl, rfl, rfl, rfl, rfl, rfl, rfl, rfl, rfl, rfl⟩, rfl⟩
end Go.Eng
