/- The law FnExactParseFunctor: its body. -/
import Derived.Test.YtnegknkhccfmfaaDoorY07q
set_option linter.unusedSimpArgs false
set_option linter.unusedVariables false
set_option maxRecDepth 100000
set_option maxHeartbeats 16000000
namespace Go.Eng
open Go Go.Proofs Go.Cats
attribute [local go_sem] List.size_toArray
theorem SpecR.adoptF {P : Program} {F : FuncId} {args : List Sv} {y : Value} {R : World → (Nat → Prop) → Prop} (h : SpecR P F args [] (.tup [.agg [iv 0, .v (.slice none 0 0), .v (.slice none 0 0), .v (.slice none 0 0), .v (.slice none 0 0), iv 0, .v (.slice none 0 0), .v (.slice none 0 0), .v (.slice none 0 0), .v (.slice none 0 0), .v (.slice none 0 0), .v (.slice none 0 0)], .v y]) [] R) : SpecR P F args [] (.tup [.agg [iv nilF.src.ob, .sl 0, .sl 1, .sl 2, .sl 3, iv nilF.tgt.ob, .sl 4, .sl 5, .sl 6, .sl 7, .sl 8, .sl 9], .v y]) [(0, ⟨1, .arr (ints nilF.src.fr)⟩), (1, ⟨1, .arr (ints nilF.src.to)⟩), (2, ⟨1, .arr (ints nilF.src.id)⟩), (3, ⟨1, .arr (intss nilF.src.co)⟩), (4, ⟨1, .arr (ints nilF.tgt.fr)⟩), (5, ⟨1, .arr (ints nilF.tgt.to)⟩), (6, ⟨1, .arr (ints nilF.tgt.id)⟩), (7, ⟨1, .arr (intss nilF.tgt.co)⟩), (8, ⟨1, .arr (ints nilF.obs)⟩), (9, ⟨1, .arr (ints nilF.ars)⟩)] R := by
  refine SpecR.adopt h (emptyL_cons_i (emptyL_cons_i (emptyL_cons_i (emptyL_cons_s (emptyL_cons_i (emptyL_cons_i (emptyL_cons_i (emptyL_cons_s (emptyL_cons_i (emptyL_cons_i emptyL_nil)))))))))) fun w S v cn h => ?_
  simp only [Sv.ok, Sv.okL] at h ⊢
  obtain ⟨vs, rfl, x, r, rfl, ⟨us, rfl, hu⟩, hr⟩ := h
  refine ⟨_, rfl, _, _, rfl, ⟨us, rfl, ?_⟩, hr⟩
  obtain ⟨x0, r0, rfl, e0, x1, r1, rfl, e1, x2, r2, rfl, e2, x3, r3, rfl, e3, x4, r4, rfl, e4, x5, r5, rfl, e5, x6, r6, rfl, e6, x7, r7, rfl, e7, x8, r8, rfl, e8, x9, r9, rfl, e9, x10, r10, rfl, e10, x11, r11, rfl, e11, e12⟩ := hu
  exact ⟨_, _, rfl, e0, _, _, rfl, ⟨Nat.le_refl 1, e1⟩, _, _, rfl, ⟨Nat.le_refl 1, e2⟩, _, _, rfl, ⟨Nat.le_refl 1, e3⟩, _, _, rfl, ⟨Nat.le_refl 1, e4⟩, _, _, rfl, e5, _, _, rfl, ⟨Nat.le_refl 1, e6⟩, _, _, rfl, ⟨Nat.le_refl 1, e7⟩, _, _, rfl, ⟨Nat.le_refl 1, e8⟩, _, _, rfl, ⟨Nat.le_refl 1, e9⟩, _, _, rfl, ⟨Nat.le_refl 1, e10⟩, _, _, rfl, ⟨Nat.le_refl 1, e11⟩, e12⟩
def PfO (c d : Cat) (t : Bts) (g : Fun) (code : Int) : Prop :=
  (¬ (IsCat c ∧ IsCat d) ∧ g = nilF ∧ code = 1) ∨ (IsCat c ∧ IsCat d ∧ ((¬ PrgF c d t ∧ g = nilF ∧ code = 6) ∨ (PrgF c d t ∧ g = ⟨c, d, numsT (Lib.cut t bar).1, numsT (Lib.cut t bar).2.1⟩ ∧ code = 0)))
theorem PfO.ex (c d : Cat) (t : Bts) : ∃ g code, PfO c d t g code := by
  by_cases h : IsCat c ∧ IsCat d
  · by_cases h2 : PrgF c d t
    · exact ⟨_, _, .inr ⟨h.1, h.2, .inr ⟨h2, rfl, rfl⟩⟩⟩
    · exact ⟨_, _, .inr ⟨h.1, h.2, .inl ⟨h2, rfl, rfl⟩⟩⟩
  · exact ⟨_, _, .inl ⟨h, rfl, rfl⟩⟩
theorem PfO.b {c d : Cat} {t : Bts} {g : Fun} {code : Int} (hc : CatB c) (hd : CatB d) (h : PfO c d t g code) : FunB g := by
  rcases h with ⟨_, rfl, _⟩ | ⟨sc, sd, ⟨_, rfl, _⟩ | ⟨hy, rfl, _⟩⟩
  · exact nilF_b
  · exact nilF_b
  · have n1 := hy.fn.fits.obl
    have n2 := hy.fn.fits.arl
    have o1 := sc.toShape.ob8
    have o2 := sc.toShape.m40
    simp only at n1 n2
    exact ⟨hc, hd, by simp only; omega, by simp only; omega⟩
theorem sp_ParseFunctor_at {c d : Cat} {x : Value} {t : Bts} {g : Fun} {code : Int} (hx : ∃ q z, x = .iface q z) (hc : CatB c) (hd : CatB d) (hl : t.length ≤ 1048576) (h : PfO c d t g code) : SpecR Tryd.prog 7 [catV c, catV d, .v (bst t)] [] (.tup [.agg [iv g.src.ob, .sl 0, .sl 1, .sl 2, .sl 3, iv g.tgt.ob, .sl 4, .sl 5, .sl 6, .sl 7, .sl 8, .sl 9], iv code]) [(0, ⟨1, .arr (ints g.src.fr)⟩), (1, ⟨1, .arr (ints g.src.to)⟩), (2, ⟨1, .arr (ints g.src.id)⟩), (3, ⟨1, .arr (intss g.src.co)⟩), (4, ⟨1, .arr (ints g.tgt.fr)⟩), (5, ⟨1, .arr (ints g.tgt.to)⟩), (6, ⟨1, .arr (ints g.tgt.id)⟩), (7, ⟨1, .arr (intss g.tgt.co)⟩), (8, ⟨1, .arr (ints g.obs)⟩), (9, ⟨1, .arr (ints g.ars)⟩)] (ErR x) := by
  rcases h with ⟨h, rfl, rfl⟩ | ⟨sc, sd, ⟨h, rfl, rfl⟩ | ⟨hy, rfl, rfl⟩⟩
  · exact SpecR.adoptF (sp_ParseFunctor_bad hc hd h)
  · exact SpecR.adoptF (sp_ParseFunctor_no hx hc hd hl sc sd h)
  · exact sp_ParseFunctor_yes hx hc hd hl sc sd hy
theorem sp_spec_ParseFunctor_at {c d : Cat} {t : Bts} {g : Fun} {code : Int} (hc : CatB c) (hd : CatB d) (hl : t.length ≤ 1048576) (h : PfO c d t g code) : Spec Tryd.prog 5 [catV c, catV d, .v (bst t)] [] (.tup [.agg [iv g.src.ob, .sl 0, .sl 1, .sl 2, .sl 3, iv g.tgt.ob, .sl 4, .sl 5, .sl 6, .sl 7, .sl 8, .sl 9], iv code]) [(0, ⟨1, .arr (ints g.src.fr)⟩), (1, ⟨1, .arr (ints g.src.to)⟩), (2, ⟨1, .arr (ints g.src.id)⟩), (3, ⟨1, .arr (intss g.src.co)⟩), (4, ⟨1, .arr (ints g.tgt.fr)⟩), (5, ⟨1, .arr (ints g.tgt.to)⟩), (6, ⟨1, .arr (ints g.tgt.id)⟩), (7, ⟨1, .arr (intss g.tgt.co)⟩), (8, ⟨1, .arr (ints g.obs)⟩), (9, ⟨1, .arr (ints g.ars)⟩)] := by
  rcases h with ⟨h, rfl, rfl⟩ | ⟨sc, sd, ⟨h, rfl, rfl⟩ | ⟨hy, rfl, rfl⟩⟩
  · exact adoptF (sp_spec_ParseFunctor_bad hc hd h)
  · by_cases h2 : (parts t).length = 2
    · obtain ⟨a, b, hab⟩ : ∃ a b, parts t = [a, b] := by
        match hp : parts t, h2 with
        | [a, b], _ => exact ⟨a, b, rfl⟩
      exact adoptF (sp_spec_ParseFunctor_rest hc hd hl sc sd hab (.inr ⟨fun hr => h hr.prg.1, rfl, rfl⟩))
    · exact adoptF (sp_spec_ParseFunctor_two hc hd hl sc sd h2)
  · have hr := hy.ref
    exact sp_spec_ParseFunctor_rest hc hd hl sc sd hr.prt (.inl ⟨hr, rfl, rfl⟩)
theorem sp_FnExactParseFunctor_ok {a0 a1 : Cat} {x : Value} {t : Bts} (hx : ∃ q z, x = .iface q z) (tc : CatT a0) (td : CatT a1) (hl : t.length ≤ 1048576) (hz : (catSz a0 : Int) ≤ 1048576) (hz2 : (catSz a1 : Int) ≤ 1048576 - catSz a0) : SpecR Tryd.prog 3 [catV a0, catV a1, .v (bst t)] [] (bv true) [] (ErR x) := by
  have lc := tc.len
  have ld := td.len
  have hb := tc.b1 (by omega)
  have hb2 := td.b1 (by omega)
  obtain ⟨g, code, ho⟩ := PfO.ex a0 a1 t
  have hg := ho.b hb hb2
  have k1 := hb.mkn
  have k3 := hb2.mkn
  have k2 := hg.mkn
  have hpf := sp_ParseFunctor_at hx hb hb2 hl ho
  have sp_spec_ParseFunctor_loc := sp_spec_ParseFunctor_at hb hb2 hl ho
  refine specR_of_V (E := TE) 0 Tryd.func3 rfl (by simp [Tryd.f3]) fun X hn hX hG => ?_
  have hrd : RdOk X (ErR x) := GlR.ok hG
  repeat' (first | (refine (id ?_ : V _ _ (Code.region 13 _ _) _ _); refine V_regionX (by rw [hn]; rfl) ?_; intro K hK) | (refine evOpsX_h ?_; intro K hK; refine HkX.callR (x := .func 7) (args := #[.tmp 46, .tmp 47, .tmp 48]) (f := 7) (caps := []) hrd hpf cal_ParseFunctor [(0,31),(1,32),(2,33),(3,34),(4,35),(5,36),(6,37),(7,38),(8,39),(9,40)] [21,22,23,24,26,27,28,29] (by simp only [go_sem, simprocAttr]) (by simp [go_sem] <;> first | rfl | exact ⟨rfl, rfl⟩ | exact ⟨rfl, rfl, rfl⟩) (by simp [go_sem] <;> first | rfl | exact ⟨rfl, rfl⟩ | exact ⟨rfl, rfl, rfl⟩) ?_; all_goals try simp only [go_sem, simprocAttr]) | ((refine V_drawnX (id := 33) hmix (by rw [hn]; rfl) ?_); intro K hK) | ((with_reducible refine evOpsDX_nil ?_ ?_); kernel_rfl) | (refine evOpsDX_h ?_; intro K hK; refine HkX.callR (x := .func 7) (args := #[.tmp 103, .tmp 105, .tmp 106]) (f := 7) (caps := []) hrd hpf cal_ParseFunctor [(0,58),(1,59),(2,60),(3,61),(4,62),(5,63),(6,64),(7,65),(8,66),(9,67)] [50,51,52,53,54,55,56,57] (by simp only [go_sem, simprocAttr]) (by simp [go_sem] <;> first | rfl | exact ⟨rfl, rfl⟩ | exact ⟨rfl, rfl, rfl⟩) (by simp [go_sem] <;> first | rfl | exact ⟨rfl, rfl⟩ | exact ⟨rfl, rfl, rfl⟩) ?_; all_goals try simp only [go_sem, simprocAttr]) | ((with_reducible refine evOpsDX_n ?_); intro K hK; simp (contextual := true) only [go_sem, simprocAttr]) | ((with_reducible refine evOpsX_n ?_); intro K hK; simp (contextual := true) only [go_sem, simprocAttr]) | (with_reducible refine evOpsX_nil ?_) | (with_reducible first | refine V_seq ?_ | refine V_skip ?_ | refine V_ret ?_) | ((with_reducible refine V_cond ?_); simp only [go_sem, simprocAttr]) | ((first | refine V_region (by rw [hn]; rfl) ?_ | refine V_drawn hmix (by rw [hn]; rfl) ?_); intro K hK) | ((first | with_reducible refine evOps_n ?_ | ((with_reducible apply evOps_g); rfl) | with_reducible refine evOpsD_n ?_ | ((with_reducible apply evOpsD_g); rfl)); intro K hK; simp (contextual := true) only [go_sem, simprocAttr]) | with_reducible refine evOps_nil ?_ | ((with_reducible refine evOpsD_nil ?_ ?_); kernel_rfl) | ((with_reducible refine hK _ ?_); clear hK K) | (with_reducible first | refine And.intro ?_ ?_ | refine nxt_n ?_ | refine nxt_r ?_ | refine inR_mk ?_ ?_) | ((with_reducible refine evCall_at 4 ?_); refine EvCall.rq (a := (sp_szCategory_ok (c:=a0) (by first | omega | assumption | rfl) (by first | omega | assumption | rfl))) (b := cal_szCategory) (c := ?_); all_goals try simp only [go_sem, simprocAttr]) | ((with_reducible refine evCall_at 4 ?_); refine EvCall.rq (a := (sp_szCategory_ok (c:=a1) (by first | omega | assumption | rfl) (by first | omega | assumption | rfl))) (b := cal_szCategory) (c := ?_); all_goals try simp only [go_sem, simprocAttr]) | ((with_reducible refine evCall_at 6 ?_); refine EvCall.rq (a := (sp_toCategory (c:=a0) ?_)) (b := cal_toCategory) (c := ?_); all_goals try simp only [go_sem, simprocAttr]) | ((with_reducible refine evCall_at 6 ?_); refine EvCall.rq (a := (sp_toCategory (c:=a1) ?_)) (b := cal_toCategory) (c := ?_); all_goals try simp only [go_sem, simprocAttr]) | ((with_reducible refine evCall_at 5 ?_); refine EvCall.rq (a := (sp_spec_ParseFunctor_loc)) (b := cal_spec_ParseFunctor) (c := ?_); all_goals try simp only [go_sem, simprocAttr]) | ((with_reducible refine evCall_at 8 ?_); refine EvCall.rq (a := (sp_eqFunctor (f:=g) (g:=g) ?_ ?_)) (b := cal_eqFunctor) (c := ?_); all_goals try simp only [go_sem, simprocAttr]) | ((with_reducible refine evCall_at 9 ?_); refine EvCall.rq (a := (sp_eqCategory (a:=a0) (b:=a0) ?_ ?_)) (b := cal_eqCategory) (c := ?_); all_goals try simp only [go_sem, simprocAttr]) | ((with_reducible refine evCall_at 9 ?_); refine EvCall.rq (a := (sp_eqCategory (a:=a1) (b:=a1) ?_ ?_)) (b := cal_eqCategory) (c := ?_); all_goals try simp only [go_sem, simprocAttr]) | ((with_reducible refine evCall_at 10 ?_); refine EvCall.mu (by first | (simp only [go_sem, simprocAttr]; rfl) | rfl) (by first | (simp only [go_sem, simprocAttr]; rfl) | rfl) (by first | (simp only [go_sem, simprocAttr]; rfl) | rfl) (sp_markCategory (c:=a0) ?_ ?_ ?_) cal_markCategory (by first | (simp only [go_sem, simprocAttr]; rfl) | rfl) (by first | (simp only [go_sem, simprocAttr]; rfl) | rfl) (by simp [go_sem]) (by simp [go_sem]) ?_; all_goals try simp only [go_sem, simprocAttr]) | ((with_reducible refine evCall_at 10 ?_); refine EvCall.mu (by first | (simp only [go_sem, simprocAttr]; rfl) | rfl) (by first | (simp only [go_sem, simprocAttr]; rfl) | rfl) (by first | (simp only [go_sem, simprocAttr]; rfl) | rfl) (sp_markCategory (c:=a1) ?_ ?_ ?_) cal_markCategory (by first | (simp only [go_sem, simprocAttr]; rfl) | rfl) (by first | (simp only [go_sem, simprocAttr]; rfl) | rfl) (by simp [go_sem]) (by simp [go_sem]) ?_; all_goals try simp only [go_sem, simprocAttr]) | ((with_reducible refine evCall_at 11 ?_); refine EvCall.mu (by first | (simp only [go_sem, simprocAttr]; rfl) | rfl) (by first | (simp only [go_sem, simprocAttr]; rfl) | rfl) (by first | (simp only [go_sem, simprocAttr]; rfl) | rfl) (sp_markFunctor (f:=g) ?_ ?_ ?_) cal_markFunctor (by first | (simp only [go_sem, simprocAttr]; rfl) | rfl) (by first | (simp only [go_sem, simprocAttr]; rfl) | rfl) (by simp [go_sem]) (by simp [go_sem]) ?_; all_goals try simp only [go_sem, simprocAttr]) | ((with_reducible refine evCall_at 12 ?_); refine EvCall.rq (a := (sp_heldFunctor_at (d:=g.mk_ 1) (f:=g) (k:=1) (by first | omega | assumption | rfl) (by first | omega | assumption | rfl) (by first | omega | assumption | rfl) (by first | omega | assumption | rfl))) (b := cal_heldFunctor) (c := ?_); all_goals try simp only [go_sem, simprocAttr]) | (refine fun (hc : (_ : Bool) = _) => ?_; try simp only [hcS] at hc))
  all_goals try exact om_
  all_goals try (exfalso; omega)
  (first | refine ret_auto ?_ | refine ret_auto' ?_); simp only [go_sem, simprocAttr, Tryd.f3]
theorem sp_FnExactParseFunctor {a0 a1 : Cat} {x : Value} {t : Bts} (hx : ∃ q z, x = .iface q z) (tc : CatT a0) (td : CatT a1) : SpecR Tryd.prog 3 [catV a0, catV a1, .v (bst t)] [] (bv true) [] (ErR x) := by
  have lc := tc.len
  have ld := td.len
  by_cases hl : t.length ≤ 1048576
  · by_cases hz : (catSz a0 : Int) ≤ 1048576
    · by_cases hz2 : (catSz a1 : Int) ≤ 1048576 - catSz a0
      · exact sp_FnExactParseFunctor_ok hx tc td hl hz hz2
      · refine specR_of_V (E := TE) 0 Tryd.func3 rfl (by simp [Tryd.f3]) fun X hn hX hG => ?_
        repeat' (first | (with_reducible first | refine V_seq ?_ | refine V_skip ?_ | refine V_ret ?_) | ((with_reducible refine V_cond ?_); simp only [go_sem, simprocAttr]) | ((first | refine V_region (by rw [hn]; rfl) ?_ | refine V_drawn hmix (by rw [hn]; rfl) ?_); intro K hK) | ((first | with_reducible refine evOps_n ?_ | ((with_reducible apply evOps_g); rfl) | with_reducible refine evOpsD_n ?_ | ((with_reducible apply evOpsD_g); rfl)); intro K hK; simp (contextual := true) only [go_sem, simprocAttr]) | with_reducible refine evOps_nil ?_ | ((with_reducible refine evOpsD_nil ?_ ?_); kernel_rfl) | ((with_reducible refine hK _ ?_); clear hK K) | (with_reducible first | refine And.intro ?_ ?_ | refine nxt_n ?_ | refine nxt_r ?_ | refine inR_mk ?_ ?_) | ((with_reducible refine evCall_at 4 ?_); refine EvCall.rq (a := (sp_szCategory_ok (c:=a0) (by first | omega | assumption | rfl) (by first | omega | assumption | rfl))) (b := cal_szCategory) (c := ?_); all_goals try simp only [go_sem, simprocAttr]) | ((with_reducible refine evCall_at 4 ?_); refine EvCall.rq (a := (sp_szCategory_no (c:=a1) (by first | omega | assumption | rfl) (by first | omega | assumption | rfl) (by first | omega | assumption | rfl) (by first | omega | assumption | rfl))) (b := cal_szCategory) (c := ?_); all_goals try simp only [go_sem, simprocAttr]) | (refine fun (hc : (_ : Bool) = _) => ?_; try simp only [hcS] at hc))
        all_goals try exact om_
        all_goals try (exfalso; omega)
        (first | refine ret_auto ?_ | refine ret_auto' ?_); simp only [go_sem, simprocAttr, Tryd.f3]
    · refine specR_of_V (E := TE) 0 Tryd.func3 rfl (by simp [Tryd.f3]) fun X hn hX hG => ?_
      repeat' (first | (with_reducible first | refine V_seq ?_ | refine V_skip ?_ | refine V_ret ?_) | ((with_reducible refine V_cond ?_); simp only [go_sem, simprocAttr]) | ((first | refine V_region (by rw [hn]; rfl) ?_ | refine V_drawn hmix (by rw [hn]; rfl) ?_); intro K hK) | ((first | with_reducible refine evOps_n ?_ | ((with_reducible apply evOps_g); rfl) | with_reducible refine evOpsD_n ?_ | ((with_reducible apply evOpsD_g); rfl)); intro K hK; simp (contextual := true) only [go_sem, simprocAttr]) | with_reducible refine evOps_nil ?_ | ((with_reducible refine evOpsD_nil ?_ ?_); kernel_rfl) | ((with_reducible refine hK _ ?_); clear hK K) | (with_reducible first | refine And.intro ?_ ?_ | refine nxt_n ?_ | refine nxt_r ?_ | refine inR_mk ?_ ?_) | ((with_reducible refine evCall_at 4 ?_); refine EvCall.rq (a := (sp_szCategory_no (c:=a0) (by first | omega | assumption | rfl) (by first | omega | assumption | rfl) (by first | omega | assumption | rfl) (by first | omega | assumption | rfl))) (b := cal_szCategory) (c := ?_); all_goals try simp only [go_sem, simprocAttr]) | (refine fun (hc : (_ : Bool) = _) => ?_; try simp only [hcS] at hc))
      all_goals try exact om_
      all_goals try (exfalso; omega)
      (first | refine ret_auto ?_ | refine ret_auto' ?_); simp only [go_sem, simprocAttr, Tryd.f3]
  · refine specR_of_V (E := TE) 0 Tryd.func3 rfl (by simp [Tryd.f3]) fun X hn hX hG => ?_
    repeat' (first | (with_reducible first | refine V_seq ?_ | refine V_skip ?_ | refine V_ret ?_) | ((with_reducible refine V_cond ?_); simp only [go_sem, simprocAttr]) | ((first | refine V_region (by rw [hn]; rfl) ?_ | refine V_drawn hmix (by rw [hn]; rfl) ?_); intro K hK) | ((first | with_reducible refine evOps_n ?_ | ((with_reducible apply evOps_g); rfl) | with_reducible refine evOpsD_n ?_ | ((with_reducible apply evOpsD_g); rfl)); intro K hK; simp (contextual := true) only [go_sem, simprocAttr]) | with_reducible refine evOps_nil ?_ | ((with_reducible refine evOpsD_nil ?_ ?_); kernel_rfl) | ((with_reducible refine hK _ ?_); clear hK K) | (with_reducible first | refine And.intro ?_ ?_ | refine nxt_n ?_ | refine nxt_r ?_ | refine inR_mk ?_ ?_) | (refine fun (hc : (_ : Bool) = _) => ?_; try simp only [hcS] at hc))
    all_goals try exact om_
    all_goals try (exfalso; omega)
    (first | refine ret_auto ?_ | refine ret_auto' ?_); simp only [go_sem, simprocAttr, Tryd.f3]
end Go.Eng
