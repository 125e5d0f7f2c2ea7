/- All isomorphisms, by the reference; the program's function of that name. -/
import Derived.Test.YtmpopmololpaoaaKdx
import Derived.Test.YtmpopmololpaoaaQ18q
set_option linter.unusedSimpArgs false
set_option linter.unusedVariables false
set_option maxRecDepth 100000
set_option maxHeartbeats 16000000
namespace Go.Eng
open Go Go.Proofs Go.Cats
attribute [local go_sem] List.set_cons_zero List.set_cons_succ
theorem sp_l10All_201 {c d : Cat} {F : List Fun} (sc : IsCat c) (sd : IsCat d) (bc : CatB c) (bd : CatB d) (h : allI c d 201 = F) : Spec Try.prog 28 [catV c, catV d, iv 201] [] (.sl 0) [(0, ⟨1, .arr (funsD F)⟩)] := by
  subst h
  exact sp_l10All (m := 201) sc sd bc bd (by decide) (by decide)
theorem cal_spec_AllIsomorphisms : Callable Try.prog 15 := ⟨_, Try.func15, rfl, rfl⟩
theorem sp_spec_AllIsomorphisms_bad {c d : Cat} {code : Int} (hc : CatB c) (hd : CatB d) (h : CodI c d code) (h0 : code ≠ 0) : Spec Try.prog 15 [catV c, catV d] [] (.tup [.v (.slice none 0 0), iv code]) [] := by
  have hcd := sp_l10Code_k hc hd h
  refine spec_of_V (E := TE) 0 Try.func15 rfl (by simp [Try.f15]) fun X hn hX => ?_
  repeat' (first | (with_reducible first | refine V_seq ?_ | refine V_skip ?_ | refine V_ret ?_) | ((with_reducible refine V_cond ?_); simp only [go_sem, simprocAttr]) | ((refine V_region (by rw [hn]; rfl) ?_); intro K hK) | ((first | with_reducible refine evOps_n ?_ | ((with_reducible apply evOps_g); rfl)); intro K hK; simp (contextual := true) only [go_sem, simprocAttr]) | with_reducible refine evOps_nil ?_ | ((with_reducible refine hK _ ?_); clear hK K) | (with_reducible first | refine And.intro ?_ ?_ | refine nxt_n ?_ | refine nxt_r ?_ | refine inR_mk ?_ ?_) | ((with_reducible refine evCall_at 27 ?_); refine EvCall.mk (hcd) cal_l10Code [] [] (by simp [go_sem] <;> (repeat' (first | rfl | constructor))) (by simp [go_sem] <;> (repeat' (first | rfl | constructor))) ?_; all_goals try simp only [go_sem, simprocAttr]) | (refine fun (hc : (_ : Bool) = _) => ?_; try simp only [hcS] at hc))
  all_goals try (first | (with_reducible assumption) | ((try simp only [Cat.F, Cat.T, Cat.I, Cat.C, Fun.O, Fun.A, Cat.Entry, Int.toNat_natCast] at *); omega))
  · (first | refine ret_auto ?_ | refine ret_auto' ?_); simp only [go_sem, simprocAttr, Try.f15]
theorem sp_spec_AllIsomorphisms_big {c d : Cat} {F : List Fun} (hc : CatB c) (hd : CatB d) (h1 : IsCat c) (h2 : IsCat d) (h3 : c.fr.length ≤ 16 ∧ d.fr.length ≤ 16) (hF : allI c d 201 = F) (h : 200 < F.length) : Spec Try.prog 15 [catV c, catV d] [] (.tup [.v (.slice none 0 0), iv 3]) [] := by
  have hcd := sp_l10Code_k hc hd (.inr (.inr ⟨h1, h2, h3, rfl⟩))
  have hal := sp_l10All_201 h1 h2 hc hd hF
  refine spec_of_V (E := TE) 0 Try.func15 rfl (by simp [Try.f15]) fun X hn hX => ?_
  repeat' (first | (with_reducible first | refine V_seq ?_ | refine V_skip ?_ | refine V_ret ?_) | ((with_reducible refine V_cond ?_); simp only [go_sem, simprocAttr]) | ((refine V_region (by rw [hn]; rfl) ?_); intro K hK) | ((first | with_reducible refine evOps_n ?_ | ((with_reducible apply evOps_g); rfl)); intro K hK; simp (contextual := true) only [go_sem, simprocAttr]) | with_reducible refine evOps_nil ?_ | ((with_reducible refine hK _ ?_); clear hK K) | (with_reducible first | refine And.intro ?_ ?_ | refine nxt_n ?_ | refine nxt_r ?_ | refine inR_mk ?_ ?_) | ((with_reducible refine evCall_at 27 ?_); refine EvCall.mk (hcd) cal_l10Code [] [] (by simp [go_sem] <;> (repeat' (first | rfl | constructor))) (by simp [go_sem] <;> (repeat' (first | rfl | constructor))) ?_; all_goals try simp only [go_sem, simprocAttr]) | ((with_reducible refine evCall_at 28 ?_); refine EvCall.mk (hal) cal_l10All [(0,2)] [] (by simp [go_sem] <;> (repeat' (first | rfl | constructor))) (by simp [go_sem] <;> (repeat' (first | rfl | constructor))) ?_; all_goals try simp only [go_sem, simprocAttr]) | (refine fun (hc : (_ : Bool) = _) => ?_; try simp only [hcS] at hc))
  all_goals try (first | (with_reducible assumption) | ((try simp only [Cat.F, Cat.T, Cat.I, Cat.C, Fun.O, Fun.A, Cat.Entry, Int.toNat_natCast] at *); omega))
  · (first | refine ret_auto ?_ | refine ret_auto' ?_); simp only [go_sem, simprocAttr, Try.f15]
theorem sp_spec_AllIsomorphisms_ok {c d : Cat} {F : List Fun} (hc : CatB c) (hd : CatB d) (h1 : IsCat c) (h2 : IsCat d) (h3 : c.fr.length ≤ 16 ∧ d.fr.length ≤ 16) (hF : allI c d 201 = F) (h : F.length ≤ 200) : Spec Try.prog 15 [catV c, catV d] [] (.tup [.sl 0, iv 0]) [(0, ⟨1, .arr (funsD F)⟩)] := by
  have hcd := sp_l10Code_k hc hd (.inr (.inr ⟨h1, h2, h3, rfl⟩))
  have hal := sp_l10All_201 h1 h2 hc hd hF
  refine spec_of_V (E := TE) 0 Try.func15 rfl (by simp [Try.f15]) fun X hn hX => ?_
  repeat' (first | (with_reducible first | refine V_seq ?_ | refine V_skip ?_ | refine V_ret ?_) | ((with_reducible refine V_cond ?_); simp only [go_sem, simprocAttr]) | ((refine V_region (by rw [hn]; rfl) ?_); intro K hK) | ((first | with_reducible refine evOps_n ?_ | ((with_reducible apply evOps_g); rfl)); intro K hK; simp (contextual := true) only [go_sem, simprocAttr]) | with_reducible refine evOps_nil ?_ | ((with_reducible refine hK _ ?_); clear hK K) | (with_reducible first | refine And.intro ?_ ?_ | refine nxt_n ?_ | refine nxt_r ?_ | refine inR_mk ?_ ?_) | ((with_reducible refine evCall_at 27 ?_); refine EvCall.mk (hcd) cal_l10Code [] [] (by simp [go_sem] <;> (repeat' (first | rfl | constructor))) (by simp [go_sem] <;> (repeat' (first | rfl | constructor))) ?_; all_goals try simp only [go_sem, simprocAttr]) | ((with_reducible refine evCall_at 28 ?_); refine EvCall.mk (hal) cal_l10All [(0,2)] [] (by simp [go_sem] <;> (repeat' (first | rfl | constructor))) (by simp [go_sem] <;> (repeat' (first | rfl | constructor))) ?_; all_goals try simp only [go_sem, simprocAttr]) | (refine fun (hc : (_ : Bool) = _) => ?_; try simp only [hcS] at hc))
  all_goals try (first | (with_reducible assumption) | ((try simp only [Cat.F, Cat.T, Cat.I, Cat.C, Fun.O, Fun.A, Cat.Entry, Int.toNat_natCast] at *); omega))
  · (first | refine ret_auto ?_ | refine ret_auto' ?_); simp only [go_sem, simprocAttr, Try.f15]
theorem sp_spec_AllIsomorphisms_at {c d : Cat} {F : List Fun} {code : Int} (hc : CatB c) (hd : CatB d) (h : AOut c d F code) : Spec Try.prog 15 [catV c, catV d] [] (.tup [.sl 0, iv code]) [(0, ⟨1, .arr (funsD F)⟩)] := by
  rcases h with ⟨h, rfl, rfl⟩ | ⟨h1, h2, h, rfl, rfl⟩ | ⟨h1, h2, h3, ⟨h, rfl, rfl⟩ | ⟨e1, e2, h, rfl, rfl⟩ | ⟨e1, e2, h, rfl, rfl⟩⟩
  · exact adoptFs (sp_spec_AllIsomorphisms_bad hc hd (.inl ⟨h, rfl⟩) (by decide))
  · exact adoptFs (sp_spec_AllIsomorphisms_bad hc hd (.inr (.inl ⟨h1, h2, h, rfl⟩)) (by decide))
  · exact sp_spec_AllIsomorphisms_ok hc hd h1 h2 h3 (by rw [allI, if_neg h]) (Nat.zero_le _)
  · exact adoptFs (sp_spec_AllIsomorphisms_big (F := (funX c d true c.ob.toNat []).take 201) hc hd h1 h2 h3 (by rw [allI, if_pos ⟨e1, e2⟩]) (by rw [List.length_take]; omega))
  · exact sp_spec_AllIsomorphisms_ok hc hd h1 h2 h3 (by rw [allI, if_pos ⟨e1, e2⟩, List.take_of_length_le (by omega)]) h
end Go.Eng
