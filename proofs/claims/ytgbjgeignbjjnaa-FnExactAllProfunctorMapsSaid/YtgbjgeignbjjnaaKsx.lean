/- Maps and functors one behind the other, by the program and by the reference. -/
import Derived.Test.YtgbjgeignbjjnaaC18q
set_option linter.unusedSimpArgs false
set_option linter.unusedVariables false
set_option maxRecDepth 100000
set_option maxHeartbeats 16000000
namespace Go.Eng
open Go Go.Proofs Go.Cats
def _root_.Go.Cats.thn (f g : List Int) : List Int := f.map fun y => g.getD y.toNat 0
theorem _root_.Go.Cats.thn_len (f g : List Int) : (thn f g).length = f.length := by unfold thn; rw [List.length_map]
theorem _root_.Go.Cats.thn_at {f g : List Int} {i : Nat} (hi : i < f.length) : (thn f g).getD i 0 = g.getD (f.getD i 0).toNat 0 := by
  unfold thn
  rw [List.getD_eq_getElem?_getD, List.getElem?_map, List.getElem?_eq_getElem hi, List.getD_eq_getElem?_getD (l := f), List.getElem?_eq_getElem hi]; rfl
theorem thn_fill {f g : List Int} {i : Nat} (hi : i < f.length) : (thn (f.take (i + 1)) g) = thn (f.take i) g ++ [g.getD (f.getD i 0).toNat 0] := by
  unfold thn
  rw [List.take_succ_eq_append_getElem hi, List.map_append, List.getD_eq_getElem?_getD (l := f), List.getElem?_eq_getElem hi]; rfl
theorem thn_nil (g : List Int) : thn [] g = [] := rfl
attribute [local go_sem] List.set_cons_zero List.set_cons_succ thn_nil
theorem cal_then : Callable Try.prog 64 := ⟨_, Try.func64, rfl, rfl⟩
theorem sp_then {f g : List Int} (hf : f.length ≤ 1048576) (hg : g.length ≤ 1048576) (hw : Within f g.length) : Spec Try.prog 64 [.bor [] (ints f), .bor [] (ints g)] [] (.sl 0) [(0, ⟨1, .arr (ints (thn f g))⟩)] := by
  refine spec_of_V (E := TE) 0 Try.func64 rfl (by simp [Try.f64]) fun X hn hX => ?_
  obtain ⟨p, hp⟩ : ∃ p, thn f g = p := ⟨_, rfl⟩
  have hpl : p.length = f.length := by rw [← hp, thn_len]
  have hpa : ∀ i, i < f.length → p.getD i 0 = g.getD (f.getD i 0).toNat 0 := fun i hi => by rw [← hp, thn_at hi]
  rw [hp]
  repeat' (first | (with_reducible first | refine V_seq ?_ | refine V_block ?_ | refine V_skip ?_ | refine V_ret ?_ | refine V_exit ?_) | ((with_reducible refine V_cond ?_); simp only [go_sem, simprocAttr]) | ((refine V_region (by rw [hn]; rfl) ?_); intro K hK) | ((first | with_reducible refine evOps_n ?_ | ((with_reducible apply evOps_g); rfl)); intro K hK; simp (contextual := true) only [go_sem, simprocAttr]) | with_reducible refine evOps_nil ?_ | ((with_reducible refine hK _ ?_); clear hK K) | (with_reducible first | refine And.intro ?_ ?_ | refine nxt_n ?_ | refine nxt_r ?_ | refine nxt_e ?_ | refine blk_n ?_ | refine blk_r ?_ | refine blk_same ?_ | refine blk_other (by decide) ?_ | refine noG_n ?_ | refine noG_r ?_ | refine noG_e ?_ | refine inR_mk ?_ ?_) | (refine fun (hc : (_ : Bool) = _) => ?_; try simp only [hcS] at hc))
  all_goals try exact om_
  refine V_loopK (G := {i : Nat // i ≤ f.length ∧ (True)}) (fun ⟨i, _⟩ => [(13, iv i), (5, .sl 0)]) [1, 4, 11, 12] (fun ⟨i, _⟩ => [(0, ⟨1, .arr (ints (p.take i ++ List.replicate (f.length - i) 0))⟩)]) [0] (fun zz => f.length - zz.1) ⟨0, Nat.zero_le _, by first | trivial | simp⟩ ?_ ?_
  · exact Imp.au hX
  rintro ⟨i, hii, hwi⟩
  simp only [go_sem, simprocAttr]
  have h1 := hw i
  have h2 := hpa i
  have h3 := fill_step p i
  rw [hpl] at h3
  repeat' (first | (with_reducible first | refine V_seq ?_ | refine V_block ?_ | refine V_skip ?_ | refine V_ret ?_ | refine V_exit ?_) | ((with_reducible refine V_cond ?_); simp only [go_sem, simprocAttr]) | ((refine V_region (by rw [hn]; rfl) ?_); intro K hK) | ((first | with_reducible refine evOps_n ?_ | ((with_reducible apply evOps_g); rfl)); intro K hK; simp (contextual := true) only [go_sem, simprocAttr]) | with_reducible refine evOps_nil ?_ | ((with_reducible refine hK _ ?_); clear hK K) | (with_reducible first | refine And.intro ?_ ?_ | refine nxt_n ?_ | refine nxt_r ?_ | refine nxt_e ?_ | refine blk_n ?_ | refine blk_r ?_ | refine blk_same ?_ | refine blk_other (by decide) ?_ | refine noG_n ?_ | refine noG_r ?_ | refine noG_e ?_ | refine inR_mk ?_ ?_) | (refine fun (hc : (_ : Bool) = _) => ?_; try simp only [hcS] at hc))
  all_goals try exact om_
  · refine ⟨⟨i + 1, by omega, (by trivial)⟩, by simp only; omega, Imp.auto hX (by simp only [go_sem, simprocAttr, ← h2 (by omega), h3 (show i < f.length by omega)])⟩
  · (first | refine ret_auto ?_ | refine ret_auto' ?_); simp only [go_sem, simprocAttr, Try.f64]
    rw [show i = f.length by omega]; simp [← hpl]
theorem cal_l01Then : Callable Try.prog 74 := ⟨_, Try.func74, rfl, rfl⟩
theorem sp_l01Then {f g : List Int} (hf : f.length ≤ 1048576) (hg : g.length ≤ 1048576) (hw : Within f g.length) : Spec Try.prog 74 [.bor [] (ints f), .bor [] (ints g)] [] (.sl 0) [(0, ⟨1, .arr (ints (thn f g))⟩)] := by
  refine spec_of_V (E := TE) 0 Try.func74 rfl (by simp [Try.f74]) fun X hn hX => ?_
  repeat' (first | (with_reducible first | refine V_seq ?_ | refine V_block ?_ | refine V_skip ?_ | refine V_ret ?_ | refine V_exit ?_) | ((with_reducible refine V_cond ?_); simp only [go_sem, simprocAttr]) | ((refine V_region (by rw [hn]; rfl) ?_); intro K hK) | ((first | with_reducible refine evOps_n ?_ | ((with_reducible apply evOps_g); rfl)); intro K hK; simp (contextual := true) only [go_sem, simprocAttr]) | with_reducible refine evOps_nil ?_ | ((with_reducible refine hK _ ?_); clear hK K) | (with_reducible first | refine And.intro ?_ ?_ | refine nxt_n ?_ | refine nxt_r ?_ | refine nxt_e ?_ | refine blk_n ?_ | refine blk_r ?_ | refine blk_same ?_ | refine blk_other (by decide) ?_ | refine noG_n ?_ | refine noG_r ?_ | refine noG_e ?_ | refine inR_mk ?_ ?_) | (refine fun (hc : (_ : Bool) = _) => ?_; try simp only [hcS] at hc))
  all_goals try exact om_
  refine V_loopK (G := {i : Nat // i ≤ f.length ∧ (True)}) (fun ⟨i, _⟩ => [(6, iv i), (5, .sl 0)]) [0, 1, 4] (fun ⟨i, _⟩ => [(0, ⟨1, .arr (ints (thn (f.take i) g))⟩)]) [0] (fun zz => f.length - zz.1) ⟨0, Nat.zero_le _, by first | trivial | simp⟩ ?_ ?_
  · exact Imp.au hX
  rintro ⟨i, hii, hwi⟩
  simp only [go_sem, simprocAttr]
  have h1 := hw i
  have hl : (thn (f.take i) g).length ≤ i := by rw [thn_len, List.length_take]; omega
  rcases Nat.lt_or_ge i f.length with hlt | hge
  · have h2 := h1 hlt
    have e1 := thn_fill (g := g) hlt
    repeat' (first | (with_reducible first | refine V_seq ?_ | refine V_block ?_ | refine V_skip ?_ | refine V_ret ?_ | refine V_exit ?_) | ((with_reducible refine V_cond ?_); simp only [go_sem, simprocAttr]) | ((refine V_region (by rw [hn]; rfl) ?_); intro K hK) | ((first | with_reducible refine evOps_n ?_ | ((with_reducible apply evOps_g); rfl)); intro K hK; simp (contextual := true) only [go_sem, simprocAttr]) | with_reducible refine evOps_nil ?_ | ((with_reducible refine hK _ ?_); clear hK K) | (with_reducible first | refine And.intro ?_ ?_ | refine nxt_n ?_ | refine nxt_r ?_ | refine nxt_e ?_ | refine blk_n ?_ | refine blk_r ?_ | refine blk_same ?_ | refine blk_other (by decide) ?_ | refine noG_n ?_ | refine noG_r ?_ | refine noG_e ?_ | refine inR_mk ?_ ?_) | (refine fun (hc : (_ : Bool) = _) => ?_; try simp only [hcS] at hc))
    all_goals try exact om_
    · refine ⟨⟨i + 1, by omega, (by trivial)⟩, by simp only; omega, Imp.auto hX (by simp only [go_sem, simprocAttr, e1])⟩
  · have e1 : thn (f.take i) g = thn f g := by rw [List.take_of_length_le hge]
    repeat' (first | (with_reducible first | refine V_seq ?_ | refine V_block ?_ | refine V_skip ?_ | refine V_ret ?_ | refine V_exit ?_) | ((with_reducible refine V_cond ?_); simp only [go_sem, simprocAttr]) | ((refine V_region (by rw [hn]; rfl) ?_); intro K hK) | ((first | with_reducible refine evOps_n ?_ | ((with_reducible apply evOps_g); rfl)); intro K hK; simp (contextual := true) only [go_sem, simprocAttr]) | with_reducible refine evOps_nil ?_ | ((with_reducible refine hK _ ?_); clear hK K) | (with_reducible first | refine And.intro ?_ ?_ | refine nxt_n ?_ | refine nxt_r ?_ | refine nxt_e ?_ | refine blk_n ?_ | refine blk_r ?_ | refine blk_same ?_ | refine blk_other (by decide) ?_ | refine noG_n ?_ | refine noG_r ?_ | refine noG_e ?_ | refine inR_mk ?_ ?_) | (refine fun (hc : (_ : Bool) = _) => ?_; try simp only [hcS] at hc))
    all_goals try exact om_
    · (first | refine ret_auto ?_ | refine ret_auto' ?_); simp only [go_sem, simprocAttr, Try.f74]
      rw [e1]
structure ThF (f g : Fun) : Prop where
  src : CatB f.src
  tgt : CatB g.tgt
  lo : f.obs.length ≤ 1048576
  la : f.ars.length ≤ 1048576
  go : g.obs.length ≤ 1048576
  ga : g.ars.length ≤ 1048576
  wo : Within f.obs g.obs.length
  wa : Within f.ars g.ars.length
end Go.Eng
