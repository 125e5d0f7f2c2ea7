/- Isomorphisms of two categories: one outcome for all cases; the first isomorphism of any two categories by the reference. -/
import Derived.Test.YtdphbdoabhidgaaKdx
import Derived.Test.YtdphbdoabhidgaaC18q
import Derived.Test.YtdphbdoabhidgaaQ16q
set_option linter.unusedSimpArgs false
set_option linter.unusedVariables false
set_option maxRecDepth 100000
set_option maxHeartbeats 16000000
namespace Go.Eng
open Go Go.Proofs Go.Cats
attribute [local go_sem] List.set_cons_zero List.set_cons_succ
def _root_.Go.Cats.FIOut (c d : Cat) (g : Fun) (code : Int) : Prop := (INo c d code ∧ g = nilF) ∨ (IYes c d g ∧ code = 0)
theorem _root_.Go.Cats.FIOut.ex (c d : Cat) : ∃ g code, FIOut c d g code := by
  by_cases h1 : IsCat c ∧ IsCat d
  · by_cases h2 : c.fr.length ≤ 16 ∧ d.fr.length ≤ 16
    · by_cases h3 : c.ob = d.ob ∧ c.fr.length = d.fr.length
      · cases hF : funX c d true c.ob.toNat [] with
        | nil => exact ⟨_, 4, .inl ⟨.inr (.inr ⟨h1.1, h1.2, h2, .inr hF, rfl⟩), rfl⟩⟩
        | cons g D => exact ⟨g, 0, .inr ⟨⟨h1.1, h1.2, h2, h3.1, h3.2, D, hF⟩, rfl⟩⟩
      · exact ⟨_, 4, .inl ⟨.inr (.inr ⟨h1.1, h1.2, h2, .inl h3, rfl⟩), rfl⟩⟩
    · exact ⟨_, 3, .inl ⟨.inr (.inl ⟨h1.1, h1.2, h2, rfl⟩), rfl⟩⟩
  · exact ⟨_, 1, .inl ⟨.inl ⟨h1, rfl⟩, rfl⟩⟩
theorem sp_FindIsomorphism_o {c d : Cat} {g : Fun} {code : Int} (hc : CatB c) (hd : CatB d) (h : FIOut c d g code) : Spec Try.prog 73 [catV c, catV d] [] (.tup [.agg [iv g.src.ob, .sl 0, .sl 1, .sl 2, .sl 3, iv g.tgt.ob, .sl 4, .sl 5, .sl 6, .sl 7, .sl 8, .sl 9], iv code]) [(0, ⟨1, .arr (ints g.src.fr)⟩), (1, ⟨1, .arr (ints g.src.to)⟩), (2, ⟨1, .arr (ints g.src.id)⟩), (3, ⟨1, .arr (intss g.src.co)⟩), (4, ⟨1, .arr (ints g.tgt.fr)⟩), (5, ⟨1, .arr (ints g.tgt.to)⟩), (6, ⟨1, .arr (ints g.tgt.id)⟩), (7, ⟨1, .arr (intss g.tgt.co)⟩), (8, ⟨1, .arr (ints g.obs)⟩), (9, ⟨1, .arr (ints g.ars)⟩)] := by
  rcases h with ⟨h, rfl⟩ | ⟨h, rfl⟩
  · exact adoptF (sp_FindIsomorphism_no hc hd h)
  · exact sp_FindIsomorphism_yes hc hd h
def _root_.Go.Cats.F1Out (c d : Cat) (g : Fun) (v : Bool) : Prop := (allI c d 1 = [] ∧ g = nilF ∧ v = false) ∨ (allI c d 1 = [g] ∧ v = true)
theorem _root_.Go.Cats.F1Out.ex (c d : Cat) : ∃ g v, F1Out c d g v := by
  unfold F1Out allI
  split
  · cases hF : funX c d true c.ob.toNat [] with
    | nil => exact ⟨_, _, .inl ⟨rfl, rfl, rfl⟩⟩
    | cons g D => exact ⟨g, _, .inr ⟨rfl, rfl⟩⟩
  · exact ⟨_, _, .inl ⟨rfl, rfl, rfl⟩⟩
theorem cal_l10Find : Callable Try.prog 49 := ⟨_, Try.func49, rfl, rfl⟩
theorem sp_l10Find_no {c d : Cat} (sc : IsCat c) (sd : IsCat d) (hc : CatB c) (hd : CatB d) (h : allI c d 1 = []) : Spec Try.prog 49 [catV c, catV d] [] (.tup [.agg [iv 0, .v (.slice none 0 0), .v (.slice none 0 0), .v (.slice none 0 0), .v (.slice none 0 0), iv 0, .v (.slice none 0 0), .v (.slice none 0 0), .v (.slice none 0 0), .v (.slice none 0 0), .v (.slice none 0 0), .v (.slice none 0 0)], bv false]) [] := by
  have hal := sp_l10All_1 sc sd hc hd h
  refine spec_of_V (E := TE) 0 Try.func49 rfl (by simp [Try.f49]) fun X hn hX => ?_
  repeat' (first | (with_reducible first | refine V_seq ?_ | refine V_skip ?_ | refine V_ret ?_) | ((with_reducible refine V_cond ?_); simp only [go_sem, simprocAttr]) | ((refine V_region (by rw [hn]; rfl) ?_); intro K hK) | ((first | with_reducible refine evOps_n ?_ | ((with_reducible apply evOps_g); rfl)); intro K hK; simp (contextual := true) only [go_sem, simprocAttr]) | with_reducible refine evOps_nil ?_ | ((with_reducible refine hK _ ?_); clear hK K) | (with_reducible first | refine And.intro ?_ ?_ | refine nxt_n ?_ | refine nxt_r ?_ | refine inR_mk ?_ ?_) | ((with_reducible refine evCall_at 70 ?_); refine EvCall.mk (hal) cal_l10All [(0,3)] [] (by simp [go_sem] <;> (repeat' (first | rfl | constructor))) (by simp [go_sem] <;> (repeat' (first | rfl | constructor))) ?_; all_goals try simp only [go_sem, simprocAttr]) | (refine fun (hc : (_ : Bool) = _) => ?_; try simp only [hcS] at hc))
  all_goals try (first | (with_reducible assumption) | ((try simp only [Cat.F, Cat.T, Cat.I, Cat.C, Fun.O, Fun.A, Cat.Entry, Int.toNat_natCast] at *); omega))
  · (first | refine ret_auto ?_ | refine ret_auto' ?_); simp only [go_sem, simprocAttr, Try.f49]
theorem sp_l10Find_yes {c d : Cat} {g : Fun} (sc : IsCat c) (sd : IsCat d) (hc : CatB c) (hd : CatB d) (h : allI c d 1 = [g]) : Spec Try.prog 49 [catV c, catV d] [] (.tup [.agg [iv g.src.ob, .sl 0, .sl 1, .sl 2, .sl 3, iv g.tgt.ob, .sl 4, .sl 5, .sl 6, .sl 7, .sl 8, .sl 9], bv true]) [(0, ⟨1, .arr (ints g.src.fr)⟩), (1, ⟨1, .arr (ints g.src.to)⟩), (2, ⟨1, .arr (ints g.src.id)⟩), (3, ⟨1, .arr (intss g.src.co)⟩), (4, ⟨1, .arr (ints g.tgt.fr)⟩), (5, ⟨1, .arr (ints g.tgt.to)⟩), (6, ⟨1, .arr (ints g.tgt.id)⟩), (7, ⟨1, .arr (intss g.tgt.co)⟩), (8, ⟨1, .arr (ints g.obs)⟩), (9, ⟨1, .arr (ints g.ars)⟩)] := by
  have hal := sp_l10All_1 sc sd hc hd h
  refine spec_of_V (E := TE) 0 Try.func49 rfl (by simp [Try.f49]) fun X hn hX => ?_
  repeat' (first | (refine V_at 4 (Imp.takeFun 3 1 g rfl (Nat.le_refl 1) (fun k _ => rsL_free rfl k)) ?_; simp only [go_sem, simprocAttr, takeL]) | (refine V_regionH 4 (by rw [hn]; rfl) ?_; intro K hK) | (refine evOpsH_h ?_; refine hook_takeFun (i := 3) (cv := 11) (j := 4) (g := g) rfl rfl rfl (by simp only [go_sem, simprocAttr]) (by simp only [go_sem, simprocAttr]) ?_; simp only [go_sem, simprocAttr]) | ((with_reducible refine evOpsH_n ?_); simp only [go_sem, simprocAttr]) | (with_reducible refine evOpsH_e ?_) | (with_reducible first | refine V_seq ?_ | refine V_skip ?_ | refine V_ret ?_) | ((with_reducible refine V_cond ?_); simp only [go_sem, simprocAttr]) | ((refine V_region (by rw [hn]; rfl) ?_); intro K hK) | ((first | with_reducible refine evOps_n ?_ | ((with_reducible apply evOps_g); rfl)); intro K hK; simp (contextual := true) only [go_sem, simprocAttr]) | with_reducible refine evOps_nil ?_ | ((with_reducible refine hK _ ?_); clear hK K) | (with_reducible first | refine And.intro ?_ ?_ | refine nxt_n ?_ | refine nxt_r ?_ | refine inR_mk ?_ ?_) | ((with_reducible refine evCall_at 70 ?_); refine EvCall.mk (hal) cal_l10All [(0,3)] [] (by simp [go_sem] <;> (repeat' (first | rfl | constructor))) (by simp [go_sem] <;> (repeat' (first | rfl | constructor))) ?_; all_goals try simp only [go_sem, simprocAttr]) | (refine fun (hc : (_ : Bool) = _) => ?_; try simp only [hcS] at hc))
  all_goals try (first | (with_reducible assumption) | ((try simp only [Cat.F, Cat.T, Cat.I, Cat.C, Fun.O, Fun.A, Cat.Entry, Int.toNat_natCast] at *); omega))
  · (first | refine ret_auto ?_ | refine ret_auto' ?_); simp only [go_sem, simprocAttr, Try.f49]
theorem sp_l10Find_o {c d : Cat} {g : Fun} {v : Bool} (sc : IsCat c) (sd : IsCat d) (hc : CatB c) (hd : CatB d) (h : F1Out c d g v) : Spec Try.prog 49 [catV c, catV d] [] (.tup [.agg [iv g.src.ob, .sl 0, .sl 1, .sl 2, .sl 3, iv g.tgt.ob, .sl 4, .sl 5, .sl 6, .sl 7, .sl 8, .sl 9], bv v]) [(0, ⟨1, .arr (ints g.src.fr)⟩), (1, ⟨1, .arr (ints g.src.to)⟩), (2, ⟨1, .arr (ints g.src.id)⟩), (3, ⟨1, .arr (intss g.src.co)⟩), (4, ⟨1, .arr (ints g.tgt.fr)⟩), (5, ⟨1, .arr (ints g.tgt.to)⟩), (6, ⟨1, .arr (ints g.tgt.id)⟩), (7, ⟨1, .arr (intss g.tgt.co)⟩), (8, ⟨1, .arr (ints g.obs)⟩), (9, ⟨1, .arr (ints g.ars)⟩)] := by
  rcases h with ⟨h, rfl, rfl⟩ | ⟨h, rfl⟩
  · exact adoptF (sp_l10Find_no sc sd hc hd h)
  · exact sp_l10Find_yes sc sd hc hd h
end Go.Eng
