/- Terminal objects by the program; the arrow category, both. -/
import Derived.Test.YtbflkfamigcncaaGreatS04q
import Derived.Test.YtbflkfamigcncaaGreatKbex
set_option linter.unusedSimpArgs false
set_option linter.unusedVariables false
set_option maxRecDepth 100000
set_option maxHeartbeats 16000000
namespace Go.Eng
open Go Go.Proofs Go.Cats
attribute [local go_sem] one_nil_c8 one_ptr_c8
abbrev catL (n : Nat) (c : Cat) : List (Nat × Rs) := [(n, ⟨1, .arr (ints c.fr)⟩), (n + 1, ⟨1, .arr (ints c.to)⟩), (n + 2, ⟨1, .arr (ints c.id)⟩), (n + 3, ⟨1, .arr (intss c.co)⟩)]
theorem shape_b0 {c : Cat} (h : Shape c) : CatB c := by
  have h1 := h.ob0
  have h2 := h.ob8
  have h3 := h.m40
  have h4 := h.tol
  have h5 := h.idl
  have h6 := h.col
  exact ⟨by omega, by omega, by omega, by omega, by omega, by omega, fun f hf => by rw [(h.coe f (by omega)).1]; omega⟩
theorem trmI_succ (c : Cat) (n : Nat) : trmI c (n + 1) = trmI c n ++ (open Classical in if TrmP c n then [(n : Int)] else []) := coll_succ _ _
theorem trmI_zero (c : Cat) : trmI c 0 = [] := rfl
theorem trmI_len (c : Cat) (n : Nat) : (trmI c n).length ≤ n := by
  have := coll_length_le (n := n) (k := 1) (f := fun x => open Classical in if TrmP c x then [(x : Int)] else []) fun x _ => by split <;> simp
  unfold trmI; omega
theorem trmI_yes {c : Cat} {n : Nat} (h : TrmP c n) : trmI c (n + 1) = trmI c n ++ [(n : Int)] := by rw [trmI_succ, if_pos h]
theorem trmI_no {c : Cat} {n : Nat} (h : ¬ TrmP c n) : trmI c (n + 1) = trmI c n := by rw [trmI_succ, if_neg h, List.append_nil]
attribute [local go_sem] trmI_zero
theorem cal_Category_terminal : Callable Tryz.prog 72 := ⟨_, Tryz.func72, rfl, rfl⟩
theorem sp_Category_terminal {c : Cat} (h : Shape c) : Spec Tryz.prog 72 [.bptr [] (catD c)] [] (.sl 0) [(0, ⟨1, .arr (ints (trmL c))⟩)] := by
  refine spec_of_V (E := TE) 0 Tryz.func72 rfl (by simp [Tryz.f72]) fun X hn hX => ?_
  have o1 := h.ob0
  have o2 := h.ob8
  have m4 := h.m40
  have tl := h.tol
  repeat' (first | with_reducible refine St.f ?_ | ((with_reducible refine V_cond ?_); simp only [go_sem, simprocAttr]) | ((refine V_rg ?_); intro K hK) | ((first | with_reducible refine So.f ?_ | ((with_reducible apply evOps_g); rfl)); intro K hK; simp (contextual := true) only [go_sem, simprocAttr]) | ((with_reducible refine hK _ ?_); clear hK K) | (with_reducible first | refine And.intro ?_ ?_ | refine blk_other (by decide) ?_ | refine inR_mk ?_ ?_) | (refine V_scope ?_) | (refine V_label ?_) | (refine fun (hc : (_ : Bool) = _) => ?_; try simp only [hcS] at hc))
  all_goals try exact om_
  refine V_loopK (G := {x : Nat // x ≤ c.ob.toNat ∧ (True)}) (fun ⟨x, _⟩ => [(4, iv x), (3, .sl 0)]) [0, 2] (fun ⟨x, _⟩ => [(0, ⟨1, .arr (ints (trmI c x))⟩)]) [0] (fun zz => c.ob.toNat - zz.1) ⟨0, Nat.zero_le _, by first | trivial | simp⟩ ?_ ?_
  · exact Imp.au hX
  rintro ⟨x, hix, hwx⟩
  simp only [go_sem, simprocAttr]
  have l1 := trmI_len c x
  rcases Nat.lt_or_ge x c.ob.toNat with hlx | hgx
  · repeat' (first | with_reducible refine St.f ?_ | ((with_reducible refine V_cond ?_); simp only [go_sem, simprocAttr]) | ((refine V_rg ?_); intro K hK) | ((first | with_reducible refine So.f ?_ | ((with_reducible apply evOps_g); rfl)); intro K hK; simp (contextual := true) only [go_sem, simprocAttr]) | ((with_reducible refine hK _ ?_); clear hK K) | (with_reducible first | refine And.intro ?_ ?_ | refine blk_other (by decide) ?_ | refine inR_mk ?_ ?_) | (refine fun (hc : (_ : Bool) = _) => ?_; try simp only [hcS] at hc))
    all_goals try exact om_
    all_goals try (exfalso; omega)
    refine V_loopK (G := {y : Nat // y ≤ c.ob.toNat ∧ (∀ k, k < y → (c.hom k x).length = 1)}) (fun ⟨y, _⟩ => [(5, iv y), (4, iv x), (3, .sl 0)]) [0, 2] (fun ⟨y, _⟩ => [(0, ⟨1, .arr (ints (trmI c x))⟩)]) [0] (fun zz => c.ob.toNat - zz.1) ⟨0, Nat.zero_le _, by omega⟩ ?_ ?_
    · exact Imp.au hX
    rintro ⟨y, hiy, hwy⟩
    simp only [go_sem, simprocAttr]
    rcases Nat.lt_or_ge y c.ob.toNat with hly | hgy
    · repeat' (first | with_reducible refine St.f ?_ | ((with_reducible refine V_cond ?_); simp only [go_sem, simprocAttr]) | ((refine V_rg ?_); intro K hK) | ((first | with_reducible refine So.f ?_ | ((with_reducible apply evOps_g); rfl)); intro K hK; simp (contextual := true) only [go_sem, simprocAttr]) | ((with_reducible refine hK _ ?_); clear hK K) | (with_reducible first | refine And.intro ?_ ?_ | refine blk_other (by decide) ?_ | refine inR_mk ?_ ?_) | ((with_reducible refine evCall_at 131 ?_); refine EvCall.rq (a := (sp_Category_hom (x:=y) (y:=x) ?_ ?_)) (b := cal_Category_hom) (c := ?_); all_goals try simp only [go_sem, simprocAttr]) | (refine fun (hc : (_ : Bool) = _) => ?_; try simp only [hcS] at hc))
      all_goals try exact om_
      all_goals try (exfalso; omega)
      · have e1 := trmI_no (c := c) (n := x) fun q => absurd (q y hly) (by omega)
        refine ⟨⟨x + 1, by omega, (by (trivial))⟩, by simp only; omega, Imp.auto hX (by simp only [go_sem, simprocAttr, e1])⟩
      · refine ⟨⟨y + 1, by omega, (by exact all_succ hwy (by omega))⟩, by simp only; omega, Imp.ao hX⟩
    · obtain rfl : y = c.ob.toNat := by omega
      have e1 := trmI_yes (c := c) (n := x) fun k hk => hwy k hk
      repeat' (first | with_reducible refine St.f ?_ | ((with_reducible refine V_cond ?_); simp only [go_sem, simprocAttr]) | ((refine V_rg ?_); intro K hK) | ((first | with_reducible refine So.f ?_ | ((with_reducible apply evOps_g); rfl)); intro K hK; simp (contextual := true) only [go_sem, simprocAttr]) | ((with_reducible refine hK _ ?_); clear hK K) | (with_reducible first | refine And.intro ?_ ?_ | refine blk_other (by decide) ?_ | refine inR_mk ?_ ?_) | (refine fun (hc : (_ : Bool) = _) => ?_; try simp only [hcS] at hc))
      all_goals try exact om_
      all_goals try (exfalso; omega)
      refine ⟨⟨x + 1, by omega, (by (trivial))⟩, by simp only; omega, Imp.auto hX (by simp only [go_sem, simprocAttr, e1])⟩
  · obtain rfl : x = c.ob.toNat := by omega
    repeat' (first | with_reducible refine St.f ?_ | ((with_reducible refine V_cond ?_); simp only [go_sem, simprocAttr]) | ((refine V_rg ?_); intro K hK) | ((first | with_reducible refine So.f ?_ | ((with_reducible apply evOps_g); rfl)); intro K hK; simp (contextual := true) only [go_sem, simprocAttr]) | ((with_reducible refine hK _ ?_); clear hK K) | (with_reducible first | refine And.intro ?_ ?_ | refine blk_other (by decide) ?_ | refine inR_mk ?_ ?_) | (refine fun (hc : (_ : Bool) = _) => ?_; try simp only [hcS] at hc))
    all_goals try exact om_
    all_goals try (exfalso; omega)
    (first | refine ret_auto ?_ | refine ret_auto' ?_); simp only [go_sem, simprocAttr, Tryz.f72]
    rfl
theorem cal_TerminalObjects : Callable Tryz.prog 16 := ⟨_, Tryz.func16, rfl, rfl⟩
theorem sp_TerminalObjects {c : Cat} (h : IsCat c) : Spec Tryz.prog 16 [catV c] [] (.tup [.sl 0, iv 0]) [(0, ⟨1, .arr (ints (trmL c))⟩)] := by
  refine spec_of_V (E := TE) 0 Tryz.func16 rfl (by simp [Tryz.f16]) fun X hn hX => ?_
  have hb := shape_b0 h.toShape
  repeat' (first | with_reducible refine St.f ?_ | ((with_reducible refine V_cond ?_); simp only [go_sem, simprocAttr]) | ((refine V_rg ?_); intro K hK) | ((first | with_reducible refine So.f ?_ | ((with_reducible apply evOps_g); rfl)); intro K hK; simp (contextual := true) only [go_sem, simprocAttr]) | ((with_reducible refine hK _ ?_); clear hK K) | (with_reducible first | refine And.intro ?_ ?_ | refine inR_mk ?_ ?_) | ((with_reducible refine evCall_at 71 ?_); refine EvCall.rq (a := (sp_Category_isCategory ?_)) (b := cal_Category_isCategory) (c := ?_); all_goals try simp only [go_sem, simprocAttr]) | ((with_reducible refine evCall_at 72 ?_); refine EvCall.rq (a := (sp_Category_terminal ?_)) (b := cal_Category_terminal) (c := ?_); all_goals try simp only [go_sem, simprocAttr]) | (refine fun (hc : (_ : Bool) = _) => ?_; try simp only [hcS] at hc))
  all_goals try exact om_
  all_goals try contradiction
  all_goals try exact h.toShape
  (first | refine ret_auto ?_ | refine ret_auto' ?_); simp only [go_sem, simprocAttr, Tryz.f16]
def ArOut (c r : Cat) (code : Int) : Prop := (¬ IsCat c ∧ code = 1 ∧ r = ⟨0, [], [], [], []⟩) ∨ (IsCat c ∧ COut (selfF c) (selfF c) r code)
theorem arOut (c : Cat) : ∃ r code, ArOut c r code := by
  by_cases h : IsCat c
  · obtain ⟨r, code, h2⟩ := cOut (selfF c) (selfF c)
    exact ⟨r, code, .inr ⟨h, h2⟩⟩
  · exact ⟨_, 1, .inl ⟨h, rfl, rfl⟩⟩
theorem ArOut.b {c r : Cat} {code : Int} (h : ArOut c r code) : CatB r := by
  rcases h with ⟨_, _, rfl⟩ | ⟨_, h⟩
  · exact ⟨by simp, by simp, by simp, by simp, by simp, by simp, fun i hi => by simp at hi⟩
  · exact h.b
theorem cal_ArrowCategory : Callable Tryz.prog 19 := ⟨_, Tryz.func19, rfl, rfl⟩
theorem sp_ArrowCategory_bad {c : Cat} (hb : CatB c) (h : ¬ IsCat c) : Spec Tryz.prog 19 [catV c] [] (.tup [.agg [iv 0, .v (.slice none 0 0), .v (.slice none 0 0), .v (.slice none 0 0), .v (.slice none 0 0)], iv 1]) [] := by
  refine spec_of_V (E := TE) 0 Tryz.func19 rfl (by simp [Tryz.f19]) fun X hn hX => ?_
  repeat' (first | with_reducible refine St.f ?_ | ((with_reducible refine V_cond ?_); simp only [go_sem, simprocAttr]) | ((refine V_rg ?_); intro K hK) | ((first | with_reducible refine So.f ?_ | ((with_reducible apply evOps_g); rfl)); intro K hK; simp (contextual := true) only [go_sem, simprocAttr]) | ((with_reducible refine hK _ ?_); clear hK K) | (with_reducible first | refine And.intro ?_ ?_ | refine inR_mk ?_ ?_) | ((with_reducible refine evCall_at 71 ?_); refine EvCall.rq (a := (sp_Category_isCategory ?_)) (b := cal_Category_isCategory) (c := ?_); all_goals try simp only [go_sem, simprocAttr]) | (refine fun (hc : (_ : Bool) = _) => ?_; try simp only [hcS] at hc))
  all_goals try exact om_
  all_goals try contradiction
  (first | refine ret_auto ?_ | refine ret_auto' ?_); simp only [go_sem, simprocAttr, Tryz.f19]
theorem sp_ArrowCategory_big {c : Cat} (hb : CatB c) (h : IsCat c) (h0 : ¬ CYes (selfF c) (selfF c)) : Spec Tryz.prog 19 [catV c] [] (.tup [.agg [iv 0, .v (.slice none 0 0), .v (.slice none 0 0), .v (.slice none 0 0), .v (.slice none 0 0)], iv 3]) [] := by
  refine spec_of_V (E := TE) 0 Tryz.func19 rfl (by simp [Tryz.f19]) fun X hn hX => ?_
  have g1 := selfF_fun h
  have h6 := h.ob0
  have h7 := h.ob8
  repeat' (first | with_reducible refine St.f ?_ | ((with_reducible refine V_cond ?_); simp only [go_sem, simprocAttr]) | ((refine V_rg ?_); intro K hK) | ((first | with_reducible refine So.f ?_ | ((with_reducible apply evOps_g); rfl)); intro K hK; simp (contextual := true) only [go_sem, simprocAttr]) | ((with_reducible refine hK _ ?_); clear hK K) | (with_reducible first | refine And.intro ?_ ?_ | refine inR_mk ?_ ?_) | ((with_reducible refine evCall_at 71 ?_); refine EvCall.rq (a := (sp_Category_isCategory ?_)) (b := cal_Category_isCategory) (c := ?_); all_goals try simp only [go_sem, simprocAttr]) | ((with_reducible refine evCall_at 76 ?_); refine EvCall.rq (a := (sp_identity ?_ ?_ ?_)) (b := cal_identity) (c := ?_); all_goals try simp only [go_sem, simprocAttr]) | ((with_reducible refine evCall_at 77 ?_); refine EvCall.rq (a := (sp_commaOf_none (f:=selfF c) (e:=selfF c) (by first | omega | assumption | rfl) (by first | omega | assumption | rfl) (by first | omega | assumption | rfl) (by first | omega | assumption | rfl))) (b := cal_commaOf) (c := ?_); all_goals try simp only [go_sem, simprocAttr]) | (refine fun (hc : (_ : Bool) = _) => ?_; try simp only [hcS] at hc))
  all_goals try exact om_
  all_goals try contradiction
  (first | refine ret_auto ?_ | refine ret_auto' ?_); simp only [go_sem, simprocAttr, Tryz.f19]
theorem sp_ArrowCategory_yes {c : Cat} (hb : CatB c) (h : IsCat c) (hy : CYes (selfF c) (selfF c)) : Spec Tryz.prog 19 [catV c] [] (.tup [.agg [iv (cmC (selfF c) (selfF c) (cmA (selfF c) (selfF c)).length).ob, .sl 0, .sl 1, .sl 2, .sl 3], iv 0]) (catL 0 (cmC (selfF c) (selfF c) (cmA (selfF c) (selfF c)).length)) := by
  refine spec_of_V (E := TE) 0 Tryz.func19 rfl (by simp [Tryz.f19]) fun X hn hX => ?_
  have y1 := hy.src
  have y3 := hy.one
  have y4 := hy.obs
  have y5 : (cArr (selfF c) (selfF c) (cObj (selfF c) (selfF c))).length ≤ 40 := hy.ars
  have h6 := h.ob0
  have h7 := h.ob8
  repeat' (first | with_reducible refine St.f ?_ | ((with_reducible refine V_cond ?_); simp only [go_sem, simprocAttr]) | ((refine V_rg ?_); intro K hK) | ((first | with_reducible refine So.f ?_ | ((with_reducible apply evOps_g); rfl)); intro K hK; simp (contextual := true) only [go_sem, simprocAttr]) | ((with_reducible refine hK _ ?_); clear hK K) | (with_reducible first | refine And.intro ?_ ?_ | refine inR_mk ?_ ?_) | ((with_reducible refine evCall_at 71 ?_); refine EvCall.rq (a := (sp_Category_isCategory ?_)) (b := cal_Category_isCategory) (c := ?_); all_goals try simp only [go_sem, simprocAttr]) | ((with_reducible refine evCall_at 76 ?_); refine EvCall.rq (a := (sp_identity ?_ ?_ ?_)) (b := cal_identity) (c := ?_); all_goals try simp only [go_sem, simprocAttr]) | ((with_reducible refine evCall_at 77 ?_); refine EvCall.rq (a := (sp_commaOf_ok (f:=selfF c) (e:=selfF c) (by first | omega | assumption | rfl) (by first | omega | assumption | rfl) (by first | omega | assumption | rfl) (by first | omega | assumption | rfl) (by first | omega | assumption | rfl))) (b := cal_commaOf) (c := ?_); all_goals try simp only [go_sem, simprocAttr]) | ((with_reducible refine evCall_at 65 ?_); refine EvCall.rq (a := (sp_comma_category (f:=selfF c) (e:=selfF c) ?_)) (b := cal_comma_category) (c := ?_); all_goals try simp only [go_sem, simprocAttr]) | (refine fun (hc : (_ : Bool) = _) => ?_; try simp only [hcS] at hc))
  all_goals try exact om_
  all_goals try contradiction
  (first | refine ret_auto ?_ | refine ret_auto' ?_); simp only [go_sem, simprocAttr, Tryz.f19]
  exact ⟨⟨rfl, rfl, rfl⟩, rfl⟩
theorem sp_ArrowCategory_at {c r : Cat} {code : Int} (hb : CatB c) (h : ArOut c r code) : Spec Tryz.prog 19 [catV c] [] (.tup [.agg [iv r.ob, .sl 0, .sl 1, .sl 2, .sl 3], iv code]) (catL 0 r) := by
  rcases h with ⟨h1, rfl, rfl⟩ | ⟨h1, h2⟩
  · exact adoptC (sp_ArrowCategory_bad hb h1)
  · rcases h2 with ⟨hy, rfl, rfl⟩ | ⟨hn, rfl⟩
    · exact sp_ArrowCategory_yes hb h1 hy
    · have s1 := selfF_fun h1
      have hno : ¬ CYes (selfF c) (selfF c) := fun hy => by
        have := hy.obs; have := hy.ars
        rcases hn with ⟨q, _⟩ | ⟨_, q, _⟩ | ⟨_, _, q, rfl⟩
        · exact q ⟨s1, s1⟩
        · exact q rfl
        · omega
      obtain rfl : code = 3 := by
        rcases hn with ⟨q, _⟩ | ⟨_, q, _⟩ | ⟨_, _, q, rfl⟩
        · exact absurd ⟨s1, s1⟩ q
        · exact absurd rfl q
        · rfl
      exact adoptC (sp_ArrowCategory_big hb h1 hno)
theorem cal_spec_ArrowCategory : Callable Tryz.prog 20 := ⟨_, Tryz.func20, rfl, rfl⟩
theorem sp_spec_ArrowCategory_bad {c : Cat} (hb : CatB c) (h : ¬ IsCat c) : Spec Tryz.prog 20 [catV c] [] (.tup [.agg [iv 0, .v (.slice none 0 0), .v (.slice none 0 0), .v (.slice none 0 0), .v (.slice none 0 0)], iv 1]) [] := by
  refine spec_of_V (E := TE) 0 Tryz.func20 rfl (by simp [Tryz.f20]) fun X hn hX => ?_
  repeat' (first | with_reducible refine St.f ?_ | ((with_reducible refine V_cond ?_); simp only [go_sem, simprocAttr]) | ((first | refine V_rg ?_ | refine V_dr ?_); intro K hK) | ((first | with_reducible refine So.f ?_ | ((with_reducible apply evOps_g); rfl) | ((with_reducible apply evOpsD_g); rfl)); intro K hK; simp (contextual := true) only [go_sem, simprocAttr]) | ((with_reducible refine evOpsD_nil ?_ ?_); kernel_rfl) | ((with_reducible refine hK _ ?_); clear hK K) | (with_reducible first | refine And.intro ?_ ?_ | refine inR_mk ?_ ?_) | ((with_reducible refine evCall_at 78 ?_); refine EvCall.rq (a := (sp_l02Is ?_)) (b := cal_l02Is) (c := ?_); all_goals try simp only [go_sem, simprocAttr]) | (refine fun (hc : (_ : Bool) = _) => ?_; try simp only [hcS] at hc))
  all_goals try exact om_
  all_goals try contradiction
  (first | refine ret_auto ?_ | refine ret_auto' ?_); simp only [go_sem, simprocAttr, Tryz.f20]
theorem sp_spec_ArrowCategory_cat {c r : Cat} {code : Int} (hb : CatB c) (h : IsCat c) (ho : COut (selfF c) (selfF c) r code) : Spec Tryz.prog 20 [catV c] [] (.tup [.agg [iv r.ob, .sl 0, .sl 1, .sl 2, .sl 3], iv code]) (catL 0 r) := by
  refine spec_of_V (E := TE) 0 Tryz.func20 rfl (by simp [Tryz.f20]) fun X hn hX => ?_
  have h6 := h.ob0
  have h7 := h.ob8
  have g1 := selfF_b hb h
  repeat' (first | with_reducible refine St.f ?_ | ((with_reducible refine V_cond ?_); simp only [go_sem, simprocAttr]) | ((first | refine V_rg ?_ | refine V_dr ?_); intro K hK) | ((first | with_reducible refine So.f ?_ | ((with_reducible apply evOps_g); rfl) | ((with_reducible apply evOpsD_g); rfl)); intro K hK; simp (contextual := true) only [go_sem, simprocAttr]) | ((with_reducible refine evOpsD_nil ?_ ?_); kernel_rfl) | ((with_reducible refine hK _ ?_); clear hK K) | (with_reducible first | refine And.intro ?_ ?_ | refine inR_mk ?_ ?_) | ((with_reducible refine evCall_at 78 ?_); refine EvCall.rq (a := (sp_l02Is ?_)) (b := cal_l02Is) (c := ?_); all_goals try simp only [go_sem, simprocAttr]) | ((with_reducible refine evCall_at 67 ?_); refine EvCall.rq (a := (sp_l06Self ?_ ?_ ?_)) (b := cal_l06Self) (c := ?_); all_goals try simp only [go_sem, simprocAttr]) | ((with_reducible refine evCall_at 46 ?_); refine EvCall.rq (a := (sp_spec_CommaCategory_at (f:=selfF c) (e:=selfF c) (c:=r) (code:=code) (by first | omega | assumption | rfl) (by first | omega | assumption | rfl) (by first | omega | assumption | rfl))) (b := cal_spec_CommaCategory) (c := ?_); all_goals try simp only [go_sem, simprocAttr]) | (refine fun (hc : (_ : Bool) = _) => ?_; try simp only [hcS] at hc))
  all_goals try exact om_
  all_goals try contradiction
  (first | refine ret_auto ?_ | refine ret_auto' ?_); simp only [go_sem, simprocAttr, Tryz.f20]
theorem sp_spec_ArrowCategory_at {c r : Cat} {code : Int} (hb : CatB c) (h : ArOut c r code) : Spec Tryz.prog 20 [catV c] [] (.tup [.agg [iv r.ob, .sl 0, .sl 1, .sl 2, .sl 3], iv code]) (catL 0 r) := by
  rcases h with ⟨h1, rfl, rfl⟩ | ⟨h1, h2⟩
  · exact adoptC (sp_spec_ArrowCategory_bad hb h1)
  · exact sp_spec_ArrowCategory_cat hb h1 h2
end Go.Eng
