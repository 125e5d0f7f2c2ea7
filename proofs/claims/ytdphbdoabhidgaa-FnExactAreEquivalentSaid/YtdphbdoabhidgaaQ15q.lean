/- The reference: all isomorphisms, at most so many. -/
import Derived.Test.YtdphbdoabhidgaaKdx
import Derived.Test.YtdphbdoabhidgaaQ14q
set_option linter.unusedSimpArgs false
set_option linter.unusedVariables false
set_option maxRecDepth 100000
set_option maxHeartbeats 16000000
namespace Go.Eng
open Go Go.Proofs Go.Cats
attribute [local go_sem] List.set_cons_zero List.set_cons_succ
theorem colF_len1 {c d : Cat} : ∀ {k : Nat} {cc dd : List Int} {n : Nat}, cc.length = c.fr.length → (colF c d k cc dd n).1.length = c.fr.length
  | 0, _, _, _, h => h
  | k + 1, _, _, _, h => by
    rw [colF]
    split
    · exact colA_len
    · exact colF_len1 colA_len
theorem colF_len2 {c d : Cat} : ∀ {k : Nat} {cc dd : List Int} {n : Nat}, dd.length = d.fr.length → (colF c d k cc dd n).2.length = d.fr.length
  | 0, _, _, _, h => h
  | k + 1, _, _, _, h => by
    rw [colF]
    split
    · exact colB_len
    · exact colF_len2 colB_len
noncomputable def allI (c d : Cat) (m : Nat) : List Fun := if c.ob = d.ob ∧ c.fr.length = d.fr.length then (funX c d true c.ob.toNat []).take m else []
theorem cal_l10All : Callable Try.prog 70 := ⟨_, Try.func70, rfl, rfl⟩
theorem sp_l10All {c d : Cat} {m : Nat} (sc : IsCat c) (sd : IsCat d) (bc : CatB c) (bd : CatB d) (hm : 0 < m) (hm2 : m ≤ 4096) : Spec Try.prog 70 [catV c, catV d, iv m] [] (.sl 0) [(0, ⟨1, .arr (funsD (allI c d m))⟩)] := by
  have m40 := sc.toShape.m40
  have n40 := sd.toShape.m40
  have c0 := sc.toShape.ob0
  by_cases he : c.ob = d.ob ∧ c.fr.length = d.fr.length
  · obtain ⟨ho, ha⟩ := he
    rw [allI, if_pos ⟨ho, ha⟩]
    have hcol := sp_l10Colours sc.toShape sd.toShape
    have hk := keepF (k := c.fr.length + d.fr.length + 1) (n := 0) (keep0 (c := c) (d := d))
    have h1 := colF_len1 (c := c) (d := d) (k := c.fr.length + d.fr.length + 1) (cc := col0 c) (dd := col0 d) (n := 0) (by simp [col0])
    have h2 := colF_len2 (c := c) (d := d) (k := c.fr.length + d.fr.length + 1) (cc := col0 c) (dd := col0 d) (n := 0) (by simp [col0])
    generalize colF c d (c.fr.length + d.fr.length + 1) (col0 c) (col0 d) 0 = R at *
    obtain ⟨cc, dd⟩ := R
    simp only at hcol hk h1 h2
    cases hv : dec (AlikeP cc dd) with
    | true =>
      rw [hv] at hcol
      have hrun := sp_l10Objects_n (cc := cc) (dd := dd) sc sd bc bd ho ha hk h1 h2 hm2 c.ob.toNat [] [] (by simp; omega) (by simp [Within]) (by simp [NdI]) (by simpa using hm)
      rw [List.nil_append] at hrun
      refine spec_of_V (E := TE) 0 Try.func70 rfl (by simp [Try.f70]) fun X hn hX => ?_
      repeat' (first | (refine V_at 8 (Imp.closeB 3 2 13 _ _ rfl rfl rfl (by decide)) ?_; simp only [go_sem, simprocAttr]) | (refine V_at 9 (Imp.openB 3 13 _ _ rfl (Nat.succ_le_succ (Nat.zero_le _)) rfl rfl) ?_; simp only [go_sem, simprocAttr]) | (with_reducible first | refine V_seq ?_ | refine V_skip ?_ | refine V_ret ?_) | ((with_reducible refine V_cond ?_); simp only [go_sem, simprocAttr]) | ((refine V_region (by rw [hn]; rfl) ?_); intro K hK) | ((first | with_reducible refine evOps_n ?_ | ((with_reducible apply evOps_g); rfl)); intro K hK; simp (contextual := true) only [go_sem, simprocAttr]) | with_reducible refine evOps_nil ?_ | ((with_reducible refine hK _ ?_); clear hK K) | (with_reducible first | refine And.intro ?_ ?_ | refine nxt_n ?_ | refine nxt_r ?_ | refine inR_mk ?_ ?_) | ((with_reducible refine evCall_at 96 ?_); refine EvCall.mk (hcol) cal_l10Colours [(0,4),(1,5)] [] (by simp [go_sem] <;> (repeat' (first | rfl | constructor))) (by simp [go_sem] <;> (repeat' (first | rfl | constructor))) ?_; all_goals try simp only [go_sem, simprocAttr]) | ((with_reducible refine evCall_at 97 ?_); refine EvCall.mk (hrun) cal_l10Objects [(0,3),(1,4),(2,5),(3,6)] [] (by simp [go_sem] <;> (repeat' (first | rfl | constructor))) (by simp [go_sem] <;> (repeat' (first | rfl | constructor))) ?_; all_goals try simp only [go_sem, simprocAttr]) | (refine fun (hc : (_ : Bool) = _) => ?_; try simp only [hcS] at hc))
      all_goals try (first | (with_reducible assumption) | ((try simp only [Cat.F, Cat.T, Cat.I, Cat.C, Fun.O, Fun.A, Cat.Entry, Int.toNat_natCast] at *); omega))
      all_goals first | (exact absurd ho (by assumption)) | (exfalso; omega) | skip
      (first | refine ret_auto ?_ | refine ret_auto' ?_); simp only [go_sem, simprocAttr, Try.f70]
    | false =>
      rw [hv] at hcol
      have hne : ¬ AlikeP cc dd := fun h => by rw [dec_t h] at hv; cases hv
      rw [alike_no sc sd ho ha hk h1 h2 hne, List.take_nil]
      refine spec_of_V (E := TE) 0 Try.func70 rfl (by simp [Try.f70]) fun X hn hX => ?_
      repeat' (first | (with_reducible first | refine V_seq ?_ | refine V_skip ?_ | refine V_ret ?_) | ((with_reducible refine V_cond ?_); simp only [go_sem, simprocAttr]) | ((refine V_region (by rw [hn]; rfl) ?_); intro K hK) | ((first | with_reducible refine evOps_n ?_ | ((with_reducible apply evOps_g); rfl)); intro K hK; simp (contextual := true) only [go_sem, simprocAttr]) | with_reducible refine evOps_nil ?_ | ((with_reducible refine hK _ ?_); clear hK K) | (with_reducible first | refine And.intro ?_ ?_ | refine nxt_n ?_ | refine nxt_r ?_ | refine inR_mk ?_ ?_) | ((with_reducible refine evCall_at 96 ?_); refine EvCall.mk (hcol) cal_l10Colours [(0,4),(1,5)] [] (by simp [go_sem] <;> (repeat' (first | rfl | constructor))) (by simp [go_sem] <;> (repeat' (first | rfl | constructor))) ?_; all_goals try simp only [go_sem, simprocAttr]) | (refine fun (hc : (_ : Bool) = _) => ?_; try simp only [hcS] at hc))
      all_goals try (first | (with_reducible assumption) | ((try simp only [Cat.F, Cat.T, Cat.I, Cat.C, Fun.O, Fun.A, Cat.Entry, Int.toNat_natCast] at *); omega))
      all_goals first | (exact absurd ho (by assumption)) | (exfalso; omega) | skip
      (first | refine ret_auto ?_ | refine ret_auto' ?_); simp only [go_sem, simprocAttr, Try.f70]
  · rw [allI, if_neg he]
    refine spec_of_V (E := TE) 0 Try.func70 rfl (by simp [Try.f70]) fun X hn hX => ?_
    repeat' (first | (with_reducible first | refine V_seq ?_ | refine V_skip ?_ | refine V_ret ?_) | ((with_reducible refine V_cond ?_); simp only [go_sem, simprocAttr]) | ((refine V_region (by rw [hn]; rfl) ?_); intro K hK) | ((first | with_reducible refine evOps_n ?_ | ((with_reducible apply evOps_g); rfl)); intro K hK; simp (contextual := true) only [go_sem, simprocAttr]) | with_reducible refine evOps_nil ?_ | ((with_reducible refine hK _ ?_); clear hK K) | (with_reducible first | refine And.intro ?_ ?_ | refine nxt_n ?_ | refine nxt_r ?_ | refine inR_mk ?_ ?_) | (refine fun (hc : (_ : Bool) = _) => ?_; try simp only [hcS] at hc))
    all_goals try (first | (with_reducible assumption) | ((try simp only [Cat.F, Cat.T, Cat.I, Cat.C, Fun.O, Fun.A, Cat.Entry, Int.toNat_natCast] at *); omega))
    all_goals first | (exact absurd ⟨by assumption, by omega⟩ he) | skip
    all_goals ((first | refine ret_auto ?_ | refine ret_auto' ?_); simp only [go_sem, simprocAttr, Try.f70])
end Go.Eng
