/- Several texts in one: V01, V02, V03, V04, V05. -/
import Derived.Test.YtfinbajnalaomaaGreatKabx
set_option linter.unusedSimpArgs false
set_option linter.unusedVariables false
set_option maxRecDepth 100000
set_option maxHeartbeats 16000000
section
namespace Go.Cats
open Go.Eng
def kF (c d : Cat) (y : Nat) : Fun := ⟨c, d, cnO c y, cnA c d y⟩
noncomputable def conX (g : Fun) (x : Nat) : List Cone := (natA (kF g.src g.tgt x) g).map fun t => ⟨x, t⟩
noncomputable def conL (g : Fun) (n : Nat) : List Cone := coll n (conX g)
noncomputable def conA (g : Fun) : List Cone := conL g g.tgt.ob.toNat
structure ConOK (g : Fun) (p : Cone) : Prop where
  a0 : 0 ≤ p.apex
  a1 : p.apex < g.tgt.ob
  ll : p.legs.length = g.obs.length
  hom : ∀ j, j < g.obs.length → p.legs.getD j 0 ∈ g.tgt.hom p.apex (g.obs.getD j 0)
def CnMapP (g : Fun) (p q : Cone) (u : Int) : Prop := ∀ j, j < q.legs.length → g.tgt.C u (q.legs.getD j 0) = p.legs.getD j 0
noncomputable def cnMaps (g : Fun) (p q : Cone) (C : List Int) (k : Nat) : List Int := (C.take k).filter fun u => dec (CnMapP g p q u)
noncomputable def cnMapN (g : Fun) (p q : Cone) : Nat := (cnMaps g p q (g.tgt.hom p.apex q.apex) (g.tgt.hom p.apex q.apex).length).length
def UnP (g : Fun) (all : List Cone) (p : Cone) : Prop := ∀ i, i < all.length → cnMapN g (all.getD i default) p = 1
def imC (f : Fun) (p : Cone) : Cone := ⟨f.obs.getD p.apex.toNat 0, thn p.legs f.ars⟩
noncomputable def limL (g : Fun) (all : List Cone) (k : Nat) : List Cone := (all.take k).filter fun p => dec (UnP g all p)
def LimP (d f : Fun) : Prop := (conA d).length ≤ 400 ∧ (conA (thF d f)).length ≤ 400
def LostP (d f : Fun) : Prop := 0 < (limL d (conA d) (conA d).length).length ∧ ¬ UnP (thF d f) (conA (thF d f)) (imC f ((limL d (conA d) (conA d).length).getD 0 default))
section
variable {c d : Cat} {f g : Fun} {x k n y : Nat} {p q : Cone} {C : List Int} {all : List Cone} {u : Int}
theorem conL_zero : conL g 0 = [] := rfl
theorem conL_succ : conL g (n + 1) = conL g n ++ conX g n := by unfold conL; rw [coll_succ]
theorem conX_len : (conX g x).length = (natA (kF g.src g.tgt x) g).length := by unfold conX; rw [List.length_map]
theorem conL_mono (h : k ≤ n) : (conL g k).length ≤ (conL g n).length := by
  induction n with
  | zero => rw [show k = 0 by omega]; exact Nat.le_refl _
  | succ n ih =>
    by_cases e : k = n + 1
    · subst e; exact Nat.le_refl _
    · have := ih (by omega)
      rw [conL_succ, List.length_append]; omega
theorem kF_par (hf : IsFun g) (hx : (x : Int) < g.tgt.ob) : Par (kF g.src g.tgt x) g :=
  ⟨hf.src, hf.tgt, const_fits hf.src hf.tgt hx, hf.fits, rfl, rfl⟩
theorem kO (hy : y < g.src.ob.toNat) : (kF g.src g.tgt x).obs.getD y 0 = x := by
  show (List.replicate _ (x : Int)).getD y 0 = x
  rw [List.getD_eq_getElem?_getD, List.getElem?_replicate, if_pos hy]; rfl
theorem kA (hy : y < g.src.fr.length) : (kF g.src g.tgt x).ars.getD y 0 = g.tgt.id.getD x 0 := by
  show (List.replicate _ (g.tgt.id.getD x 0)).getD y 0 = _
  rw [List.getD_eq_getElem?_getD, List.getElem?_replicate, if_pos hy]; rfl
theorem kSq (hf : IsFun g) {P : List Int} {a : Nat} (ha : a < g.src.fr.length) (ht : P.getD (g.src.to.getD a 0).toNat 0 ∈ g.tgt.hom x (g.obs.getD (g.src.to.getD a 0).toNat 0)) :
    SqP (kF g.src g.tgt x) g P a ↔ g.tgt.C (P.getD (g.src.fr.getD a 0).toNat 0) (g.ars.getD a 0) = P.getD (g.src.to.getD a 0).toNat 0 := by
  obtain ⟨t0, t1, t2, t3⟩ := Cat.mem_hom.1 ht
  unfold SqP
  show g.tgt.C ((kF g.src g.tgt x).ars.getD a 0) (P.getD (g.src.to.getD a 0).toNat 0) = g.tgt.C (P.getD (g.src.fr.getD a 0).toNat 0) (g.ars.getD a 0) ↔ _
  rw [kA ha]
  have e := hf.tgt.unl (P.getD (g.src.to.getD a 0).toNat 0).toNat (by omega)
  rw [Int.toNat_of_nonneg t0, t2] at e
  have e2 : g.tgt.I (x : Int) = g.tgt.id.getD x 0 := by show g.tgt.id.getD (x : Int).toNat 0 = _; rw [Int.toNat_natCast]
  rw [e2] at e
  rw [e]
  exact ⟨fun h => h.symm, fun h => h.symm⟩
theorem conX_ok (hf : IsFun g) (hx : (x : Int) < g.tgt.ob) (hp : p ∈ conX g x) : ConOK g p := by
  obtain ⟨t, ht, rfl⟩ := List.mem_map.1 hp
  obtain ⟨t1, t2⟩ := mem_natA.1 ht
  have ol := hf.fits.obl
  have t1 : t.length = g.src.ob.toNat := t1
  refine ⟨Int.natCast_nonneg _, hx, by show t.length = _; omega, fun j hj => ?_⟩
  have := t2.end_ j (by omega)
  rw [kO (by omega)] at this
  exact this
theorem conL_ok (hf : IsFun g) (hn : n ≤ g.tgt.ob.toNat) (hp : p ∈ conL g n) : ConOK g p := by
  obtain ⟨x, hx, hp⟩ := mem_coll.1 hp
  exact conX_ok hf (by omega) hp
theorem conA_ok (hf : IsFun g) {i : Nat} (hi : i < (conA g).length) : ConOK g ((conA g).getD i default) := conL_ok hf (Nat.le_refl _) (getD_mem hi)
theorem hom_rng {c : Cat} {y z a : Int} (ha : a ∈ c.hom y z) : 0 ≤ a ∧ a < c.fr.length := ⟨(Cat.mem_hom.1 ha).1, (Cat.mem_hom.1 ha).2.1⟩
theorem cnMaps_zero : cnMaps g p q C 0 = [] := rfl
theorem cnMaps_yes (hk : k < C.length) (h : CnMapP g p q (C.getD k 0)) : cnMaps g p q C (k + 1) = cnMaps g p q C k ++ [C.getD k 0] := by
  have e : C.getD k 0 = C[k] := by rw [List.getD_eq_getElem?_getD, List.getElem?_eq_getElem hk]; rfl
  rw [e] at h ⊢
  unfold cnMaps
  rw [List.take_succ_eq_append_getElem hk, List.filter_append]
  simp [dec_t h]
theorem cnMaps_no (hk : k < C.length) (h : ¬ CnMapP g p q (C.getD k 0)) : cnMaps g p q C (k + 1) = cnMaps g p q C k := by
  have e : C.getD k 0 = C[k] := by rw [List.getD_eq_getElem?_getD, List.getElem?_eq_getElem hk]; rfl
  rw [e] at h
  unfold cnMaps
  rw [List.take_succ_eq_append_getElem hk, List.filter_append]
  simp [dec_f h]
theorem cnMaps_len : (cnMaps g p q C k).length ≤ k := by
  unfold cnMaps
  exact Nat.le_trans (List.length_filter_le _ _) (by rw [List.length_take]; omega)
theorem limL_zero : limL g all 0 = [] := rfl
theorem limL_yes (hk : k < all.length) (h : UnP g all (all.getD k default)) : limL g all (k + 1) = limL g all k ++ [all.getD k default] := by
  have e : all.getD k default = all[k] := by rw [List.getD_eq_getElem?_getD, List.getElem?_eq_getElem hk]; rfl
  rw [e] at h ⊢
  unfold limL
  rw [List.take_succ_eq_append_getElem hk, List.filter_append]
  simp [dec_t h]
theorem limL_no (hk : k < all.length) (h : ¬ UnP g all (all.getD k default)) : limL g all (k + 1) = limL g all k := by
  have e : all.getD k default = all[k] := by rw [List.getD_eq_getElem?_getD, List.getElem?_eq_getElem hk]; rfl
  rw [e] at h
  unfold limL
  rw [List.take_succ_eq_append_getElem hk, List.filter_append]
  simp [dec_f h]
theorem limL_first (h0 : limL g all k = []) (hk : k < all.length) (h : UnP g all (all.getD k default)) : 0 < (limL g all all.length).length ∧ (limL g all all.length).getD 0 default = all.getD k default := by
  have e := limL_yes hk h
  rw [h0, List.nil_append] at e
  have hp : ∃ R, limL g all all.length = limL g all (k + 1) ++ R := by
    refine ⟨(all.drop (k + 1)).filter fun p => dec (UnP g all p), ?_⟩
    unfold limL
    rw [← List.filter_append, List.take_length, List.take_append_drop]
  obtain ⟨R, hR⟩ := hp
  rw [hR, e]
  exact ⟨by simp, rfl⟩
theorem limL_none (h0 : limL g all all.length = []) : ¬ 0 < (limL g all all.length).length := by rw [h0]; exact Nat.lt_irrefl 0
theorem imC_ok {e : Fun} (he : Fits e) (hf : IsFun f) (st : e.tgt = f.src) (h : ConOK e p) : ConOK (thF e f) (imC f p) := by
  have ll := h.ll
  have tl : (thF e f).obs.length = e.obs.length := thn_len _ _
  have hob := fit_obj hf.fits h.a0 (by have := h.a1; rw [st] at this; exact this)
  refine ⟨hob.1, hob.2, by show (thn _ _).length = _; rw [thn_len, tl]; exact ll, fun j hj => ?_⟩
  rw [tl] at hj
  obtain ⟨h0, h1, h2, h3⟩ := Cat.mem_hom.1 (h.hom j hj)
  rw [st] at h1 h2 h3
  have := fit_hom (f := f) hf.src.toShape hf.fits (a := (p.legs.getD j 0).toNat) (by omega)
  have e1 : f.src.fr.getD (p.legs.getD j 0).toNat 0 = p.apex := h2
  have e2 : f.src.to.getD (p.legs.getD j 0).toNat 0 = e.obs.getD j 0 := h3
  rw [e1, e2] at this
  have l1 : (imC f p).legs.getD j 0 = f.ars.getD (p.legs.getD j 0).toNat 0 := thn_at (by omega)
  have l2 : (thF e f).obs.getD j 0 = f.obs.getD (e.obs.getD j 0).toNat 0 := thn_at hj
  rw [l1, l2]
  exact this
end
def OkP (L : List Fun) (f : Fun) (k : Nat) : Prop := LimP (L.getD k default) f ∧ ¬ LostP (L.getD k default) f
def LoOut (L : List Fun) (f : Fun) (v code : Int) : Prop := ∃ n, n ≤ L.length ∧ (∀ k, k < n → OkP L f k) ∧
  ((n = L.length ∧ v = -1 ∧ code = 0) ∨ (n < L.length ∧ ¬ LimP (L.getD n default) f ∧ v = 0 ∧ code = 3) ∨ (n < L.length ∧ LimP (L.getD n default) f ∧ LostP (L.getD n default) f ∧ v = n ∧ code = 0))
theorem LoOut.ex (L : List Fun) (f : Fun) : ∃ v code, LoOut L f v code := by
  have h : ∀ n, n ≤ L.length → (∃ v code, LoOut L f v code) ∨ ∀ k, k < n → OkP L f k := fun n => by
    induction n with
    | zero => exact fun _ => .inr fun k hk => absurd hk (Nat.not_lt_zero k)
    | succ n ih =>
      intro hn
      rcases ih (by omega) with h | h
      · exact .inl h
      · by_cases h1 : LimP (L.getD n default) f
        · by_cases h2 : LostP (L.getD n default) f
          · exact .inl ⟨_, _, n, by omega, h, .inr (.inr ⟨by omega, h1, h2, rfl, rfl⟩)⟩
          · refine .inr fun k hk => ?_
            by_cases e : k = n
            · subst e; exact ⟨h1, h2⟩
            · exact h k (by omega)
        · exact .inl ⟨_, _, n, by omega, h, .inr (.inl ⟨by omega, h1, rfl, rfl⟩)⟩
  rcases h L.length (Nat.le_refl _) with h | h
  · exact h
  · exact ⟨_, _, L.length, Nat.le_refl _, h, .inl ⟨rfl, rfl, rfl⟩⟩
section
variable {L : List Fun} {f : Fun} {v code : Int} {i : Nat}
theorem LoOut.end_ (h : LoOut L f v code) (hk : ∀ k, k < L.length → OkP L f k) : v = -1 ∧ code = 0 := by
  obtain ⟨n, hn, h1, ⟨_, e1, e2⟩ | ⟨h2, h3, _⟩ | ⟨h2, _, h3, _⟩⟩ := h
  · exact ⟨e1, e2⟩
  · exact absurd (hk n h2).1 h3
  · exact absurd h3 (hk n h2).2
theorem LoOut.lim (h : LoOut L f v code) (hi : i < L.length) (hk : ∀ k, k < i → OkP L f k) (hl : ¬ LimP (L.getD i default) f) : v = 0 ∧ code = 3 := by
  obtain ⟨n, hn, h1, h2⟩ := h
  have e : ¬ i < n := fun q => hl (h1 i q).1
  rcases h2 with ⟨h2, _⟩ | ⟨h2, h3, e1, e2⟩ | ⟨h2, h3, h4, _⟩
  · omega
  · exact ⟨e1, e2⟩
  · by_cases q : n = i
    · subst q; exact absurd h3 hl
    · exact absurd h4 (hk n (by omega)).2
theorem LoOut.lost (h : LoOut L f v code) (hi : i < L.length) (hk : ∀ k, k < i → OkP L f k) (h0 : LimP (L.getD i default) f) (hl : LostP (L.getD i default) f) : v = i ∧ code = 0 := by
  obtain ⟨n, hn, h1, h2⟩ := h
  have e : ¬ i < n := fun q => (h1 i q).2 hl
  rcases h2 with ⟨h2, _⟩ | ⟨h2, h3, e1, e2⟩ | ⟨h2, h3, h4, e1, e2⟩
  · omega
  · by_cases q : n = i
    · subst q; exact absurd h0 h3
    · exact absurd (hk n (by omega)).1 h3
  · by_cases q : n = i
    · subst q; exact ⟨e1, e2⟩
    · exact absurd h4 (hk n (by omega)).2
theorem ok_succ (hk : ∀ k, k < i → OkP L f k) (h : OkP L f i) : ∀ k, k < i + 1 → OkP L f k := fun k h2 => by
  by_cases e : k = i
  · subst e; exact h
  · exact hk k (by omega)
end
end Go.Cats
end
section
namespace Go.Eng
open Go Go.Proofs Go.Cats
def apexC (C : List Cone) (x : Int) (F : List (List Int)) : List Cone := C ++ F.map fun t => ⟨x, t⟩
theorem apexC_nil (C x) : apexC C x [] = C := by unfold apexC; simp
theorem apexC_snoc (C : List Cone) (x : Int) (F : List (List Int)) (q : List Int) : apexC C x (F ++ [q]) = apexC C x F ++ [⟨x, q⟩] := by unfold apexC; rw [List.map_append, List.append_assoc]; rfl
theorem apexC_len (C : List Cone) (x : Int) (F : List (List Int)) : (apexC C x F).length = C.length + F.length := by unfold apexC; rw [List.length_append, List.length_map]
def moreC (O : List Cone) : Bool := decide (O.length + 1 ≤ 400)
theorem apexC_st1 {C : List Cone} {x : Int} {F : List (List Int)} {q : List Int} (hC : C.length ≤ 400) : moreC (apexC C x F) = (stL (400 - C.length) F q).1 := by
  unfold moreC; rw [stL_1r, apexC_len, decide_eq_decide]; omega
attribute [local go_sem] List.set_cons_zero List.set_cons_succ
theorem cal_allCones_1 : Callable Tryz.prog 67 := ⟨_, Tryz.func67, rfl, rfl⟩
theorem sp_allCones_1 {q : List Int} {O : List Cone} {x : Int} (hO : O.length ≤ 400) (hl : q.length ≤ 1048576) : Spec Tryz.prog 67 [.bor [] (ints q), .ptr 0 0, .ptr 1 0] [(0, ⟨1, .bx [.dead] 0 (conesD O)⟩), (1, ⟨1, .box [iv x]⟩)] (bv (moreC O)) [(0, ⟨1, .bx [.dead] 0 (conesD (O ++ [⟨x, q⟩]))⟩), (1, ⟨1, .box [iv x]⟩)] := by
  refine spec_of_V (E := TE) 2 Tryz.func67 rfl (by simp [Tryz.f67]) fun X hn hX => ?_
  refine V_endQ ?_
  repeat' (first | (refine V_at 1 (Imp.openB 0 0 _ _ rfl (Nat.le_refl 1) rfl rfl) ?_; simp only [go_sem, simprocAttr]) | (with_reducible first | refine V_seq ?_ | refine V_skip ?_ | refine V_ret ?_) | ((with_reducible refine V_cond ?_); simp only [go_sem, simprocAttr]) | ((first | refine V_region (by rw [hn]; rfl) ?_ | refine V_drawn hmix (by rw [hn]; rfl) ?_); intro K hK) | ((first | with_reducible refine evOps_n ?_ | ((with_reducible apply evOps_g); rfl) | with_reducible refine evOpsD_n ?_ | ((with_reducible apply evOpsD_g); rfl)); intro K hK; simp (contextual := true) only [go_sem, simprocAttr]) | with_reducible refine evOps_nil ?_ | ((with_reducible refine evOpsD_nil ?_ ?_); kernel_rfl) | ((with_reducible refine hK _ ?_); clear hK K) | (with_reducible first | refine And.intro ?_ ?_ | refine nxt_n ?_ | refine nxt_r ?_ | refine inR_mk ?_ ?_) | ((with_reducible refine evCall_at 68 ?_); refine EvCall.rq (a := (sp_clone ?_)) (b := cal_clone) (c := ?_); all_goals try simp only [go_sem, simprocAttr]) | (refine fun (hc : (_ : Bool) = _) => ?_; try simp only [hcS] at hc))
  all_goals try exact om_
  refine endQ_mk (Imp.closeB 0 5 0 _ _ rfl rfl rfl (by decide)) ?_
  (first | refine ret_auto ?_ | refine ret_auto' ?_); simp only [go_sem, simprocAttr, Tryz.f67]
  exact congrArg (fun b => Sv.v (.bool b)) (by unfold moreC; rw [decide_eq_decide]; omega)
theorem kF_src (c d : Cat) (y : Nat) : (kF c d y).src = c := rfl
theorem kF_tgt (c d : Cat) (y : Nat) : (kF c d y).tgt = d := rfl
theorem cal_legs_1 : Callable Tryz.prog 83 := ⟨_, Tryz.func83, rfl, rfl⟩
theorem sp_legs_1_n {g : Fun} {y : Nat} {O : List Cone} (hg : IsFun g) (hy : (y : Int) < g.tgt.ob) (hO : O.length ≤ 400) : ∀ (r x : Nat) (P : List Int) (F : List (List Int)), P.length = g.src.ob.toNat → x + r = g.src.ob.toNat → NatK (kF g.src g.tgt y) g (P.take x) → F.length ≤ 400 - O.length →
    Spec Tryz.prog 83 [iv x, .ptr 0 0, .ptr 1 0, .ptr 2 0, .ptr 3 0, .ptr 4 0, .ptr 5 0, .ptr 6 0] [(0, ⟨1, .box [.bptr [] (catD g.src)]⟩), (1, ⟨1, .box [.fn 67 [.ptr 7 0, .ptr 8 0]]⟩), (2, ⟨1, .box [.sl 9]⟩), (3, ⟨1, .box [.bptr [] (catD g.tgt)]⟩), (4, ⟨1, .box [iv y]⟩), (5, ⟨1, .box [.bptr [] (funD g)]⟩), (6, ⟨1, .box [.fn 83 [.ptr 0 0, .ptr 1 0, .ptr 2 0, .ptr 3 0, .ptr 4 0, .ptr 5 0, .ptr 6 0]]⟩), (7, ⟨1, .bx [.dead] 0 (conesD (apexC O y (F)))⟩), (8, ⟨1, .box [iv y]⟩), (9, ⟨1, .arr (ints (P))⟩)] (bv (natRun (kF g.src g.tgt y) g (400 - O.length) r P F).1) [(0, ⟨1, .box [.bptr [] (catD g.src)]⟩), (1, ⟨1, .box [.fn 67 [.ptr 7 0, .ptr 8 0]]⟩), (2, ⟨1, .box [.sl 9]⟩), (3, ⟨1, .box [.bptr [] (catD g.tgt)]⟩), (4, ⟨1, .box [iv y]⟩), (5, ⟨1, .box [.bptr [] (funD g)]⟩), (6, ⟨1, .box [.fn 83 [.ptr 0 0, .ptr 1 0, .ptr 2 0, .ptr 3 0, .ptr 4 0, .ptr 5 0, .ptr 6 0]]⟩), (7, ⟨1, .bx [.dead] 0 (conesD (apexC O y ((natRun (kF g.src g.tgt y) g (400 - O.length) r P F).2.1)))⟩), (8, ⟨1, .box [iv y]⟩), (9, ⟨1, .arr (ints ((natRun (kF g.src g.tgt y) g (400 - O.length) r P F).2.2))⟩)]
  | 0, x, P, F, hP, hx, hNK, hF => by
    have o0 := hg.src.toShape.ob0
    have o8 := hg.src.toShape.ob8
    have hal := apexC_len O (y : Int) F
    have hcl := sp_allCones_1 (q := P) (O := apexC O y F) (x := (y : Int)) (by omega) (by omega)
    rw [apexC_st1 (q := P) hO, ← apexC_snoc] at hcl
    refine spec_of_V (E := TE) 10 Tryz.func83 rfl (by simp [Tryz.f83]) fun X hn hX => ?_
    repeat' (first | (with_reducible first | refine V_scope ?_ | refine V_label ?_) | (with_reducible first | refine V_seq ?_ | refine V_block ?_ | refine V_skip ?_ | refine V_ret ?_ | refine V_exit ?_) | ((with_reducible refine V_cond ?_); simp only [go_sem, simprocAttr]) | ((first | refine V_region (by rw [hn]; rfl) ?_ | refine V_drawn hmix (by rw [hn]; rfl) ?_); intro K hK) | ((first | with_reducible refine evOps_n ?_ | ((with_reducible apply evOps_g); rfl) | with_reducible refine evOpsD_n ?_ | ((with_reducible apply evOpsD_g); rfl)); intro K hK; simp (contextual := true) only [go_sem, simprocAttr]) | with_reducible refine evOps_nil ?_ | ((with_reducible refine evOpsD_nil ?_ ?_); kernel_rfl) | ((with_reducible refine hK _ ?_); clear hK K) | (with_reducible first | refine And.intro ?_ ?_ | refine nxt_n ?_ | refine nxt_r ?_ | refine nxt_e ?_ | refine blk_n ?_ | refine blk_r ?_ | refine blk_same ?_ | refine blk_other (by decide) ?_ | refine noG_n ?_ | refine noG_r ?_ | refine noG_e ?_ | refine inR_mk ?_ ?_) | ((with_reducible refine evCall_at 67 ?_); refine EvCall.mk (hcl) cal_allCones_1 [(0,7),(1,8)] [9] (by simp [go_sem] <;> (repeat' (first | rfl | constructor))) (by simp [go_sem] <;> (repeat' (first | rfl | constructor))) ?_; all_goals try simp only [go_sem, simprocAttr]) | (refine fun (hc : (_ : Bool) = _) => ?_; try simp only [hcS] at hc))
    all_goals try exact om_
    · (first | refine ret_auto ?_ | refine ret_auto' ?_); simp only [go_sem, simprocAttr, Tryz.f83]
      exact ⟨⟨rfl, rfl⟩, rfl⟩
  | r + 1, x, P, F, hP, hx, hNK, hF => by
    have o0 := hg.src.toShape.ob0
    have o8 := hg.src.toShape.ob8
    have m40 := hg.tgt.toShape.m40
    have sm40 := hg.src.toShape.m40
    have tol := hg.tgt.toShape.tol
    have sol := hg.src.toShape.tol
    have obl := hg.fits.obl
    have arl := hg.fits.arl
    have gaw := hg.fits.arw
    obtain ⟨st, hst, hhm⟩ := st_factsH (f := kF g.src g.tgt y) (g := g) (M := 400 - O.length) hg.src.toShape hP hx hNK hF
    rw [kF_tgt, Go.Cats.kO (x := y) (y := x) (g := g) (by omega)] at hst hhm
    have hl := g.tgt.homI_len (y : Int) (g.obs.getD x 0) g.tgt.fr.length
    have hl : (g.tgt.hom (y : Int) (g.obs.getD x 0)).length ≤ g.tgt.fr.length := hl
    obtain ⟨C, hC⟩ : ∃ C, g.tgt.hom (y : Int) (g.obs.getD x 0) = C := ⟨_, rfl⟩
    rw [hC] at hst hl hhm
    rw [hst.all]
    refine spec_of_V (E := TE) 10 Tryz.func83 rfl (by simp [Tryz.f83]) fun X hn hX => ?_
    repeat' (first | (with_reducible first | refine V_scope ?_ | refine V_label ?_) | (rw [hC]) | (with_reducible first | refine V_seq ?_ | refine V_block ?_ | refine V_skip ?_ | refine V_ret ?_ | refine V_exit ?_) | ((with_reducible refine V_cond ?_); simp only [go_sem, simprocAttr]) | ((first | refine V_region (by rw [hn]; rfl) ?_ | refine V_drawn hmix (by rw [hn]; rfl) ?_); intro K hK) | ((first | with_reducible refine evOps_n ?_ | ((with_reducible apply evOps_g); rfl) | with_reducible refine evOpsD_n ?_ | ((with_reducible apply evOpsD_g); rfl)); intro K hK; simp (contextual := true) only [go_sem, simprocAttr]) | with_reducible refine evOps_nil ?_ | ((with_reducible refine evOpsD_nil ?_ ?_); kernel_rfl) | ((with_reducible refine hK _ ?_); clear hK K) | (with_reducible first | refine And.intro ?_ ?_ | refine nxt_n ?_ | refine nxt_r ?_ | refine nxt_e ?_ | refine blk_n ?_ | refine blk_r ?_ | refine blk_same ?_ | refine blk_other (by decide) ?_ | refine noG_n ?_ | refine noG_r ?_ | refine noG_e ?_ | refine inR_mk ?_ ?_) | ((with_reducible refine evCall_at 84 ?_); refine EvCall.rq (a := (sp_Category_hom (c:=g.tgt) ?_ ?_)) (b := cal_Category_hom) (c := ?_); all_goals try simp only [go_sem, simprocAttr]) | (refine fun (hc : (_ : Bool) = _) => ?_; try simp only [hcS] at hc))
    all_goals try exact om_
    refine V_loopK (G := {k : Nat // k ≤ C.length ∧ ((st k).1 = true)}) (fun ⟨k, _⟩ => [(36, iv k), (34, .sl 10)]) [0, 1, 3, 4, 6, 7, 35] (fun ⟨k, _⟩ => [(7, ⟨1, .bx [.dead] 0 (conesD (apexC O y (st k).2.1))⟩), (9, ⟨1, .arr (ints (st k).2.2)⟩), (10, ⟨1, .arr (ints C)⟩)]) [7, 9, 10] (fun zz => C.length - zz.1) ⟨0, Nat.zero_le _, by rw [hst.zero]⟩ ?_ ?_
    · exact Imp.auto hX (by simp [go_sem, simprocAttr, hst.zero])
    rintro ⟨k, hik, hwk⟩
    simp only [go_sem, simprocAttr]
    have hlen : (st k).2.2.length = g.src.ob.toNat := hst.len k (by omega)
    have hfew := hst.few k (by omega) hwk
    rcases Nat.lt_or_ge k C.length with hlt | hge
    · have hrng := hst.rng k hlt
      have hyes := hst.yes k hlt hwk
      have hno := hst.no k hlt hwk
      have hstop := hst.stop k hlt
      have hgood := hst.good k hlt
      have hhm2 := hhm k hlt
      obtain ⟨P2, hP2⟩ : ∃ P2, (st k).2.2.set x (C.getD k 0) = P2 := ⟨_, rfl⟩
      have hl2 : P2.length = g.src.ob.toNat := by rw [← hP2, List.length_set]; exact hlen
      rw [hP2] at hrng hyes hno hgood hhm2
      rw [kF_tgt] at hrng
      repeat' (first | (rw [hP2]) | (with_reducible first | refine V_seq ?_ | refine V_block ?_ | refine V_skip ?_ | refine V_ret ?_ | refine V_exit ?_) | ((with_reducible refine V_cond ?_); simp only [go_sem, simprocAttr]) | ((first | refine V_region (by rw [hn]; rfl) ?_ | refine V_drawn hmix (by rw [hn]; rfl) ?_); intro K hK) | ((first | with_reducible refine evOps_n ?_ | ((with_reducible apply evOps_g); rfl) | with_reducible refine evOpsD_n ?_ | ((with_reducible apply evOpsD_g); rfl)); intro K hK; simp (contextual := true) only [go_sem, simprocAttr]) | with_reducible refine evOps_nil ?_ | ((with_reducible refine evOpsD_nil ?_ ?_); kernel_rfl) | ((with_reducible refine hK _ ?_); clear hK K) | (with_reducible first | refine And.intro ?_ ?_ | refine nxt_n ?_ | refine nxt_r ?_ | refine nxt_e ?_ | refine blk_n ?_ | refine blk_r ?_ | refine blk_same ?_ | refine blk_other (by decide) ?_ | refine noG_n ?_ | refine noG_r ?_ | refine noG_e ?_ | refine inR_mk ?_ ?_) | (refine fun (hc : (_ : Bool) = _) => ?_; try simp only [hcS] at hc))
      all_goals try exact om_
      refine V_loopK (G := {a : Nat // a ≤ g.ars.length ∧ (∀ b, b < a → max (g.src.fr.getD b 0) (g.src.to.getD b 0) = x → SqP (kF g.src g.tgt y) g P2 b)}) (fun ⟨a, _⟩ => [(49, iv a), (34, .sl 10)]) [0, 1, 3, 4, 6, 7, 9, 35, 36, 47, 48] (fun ⟨a, _⟩ => [(9, ⟨1, .arr (ints P2)⟩)]) [9] (fun zz => g.ars.length - zz.1) ⟨0, Nat.zero_le _, by exact (fun b hb => absurd hb (Nat.not_lt_zero b))⟩ ?_ ?_
      · exact Imp.au hX
      rintro ⟨a, hia, hwa⟩
      simp only [go_sem, simprocAttr]
      rcases Nat.lt_or_ge a g.ars.length with hla | hga
      · have f1 := hg.src.toShape.frw a (by omega)
        have f2 := hg.src.toShape.tow a (by omega)
        have ga := gaw a hla
        have hto : max (g.src.fr.getD a 0) (g.src.to.getD a 0) = x → (SqP (kF g.src g.tgt y) g P2 a ↔ g.tgt.C (P2.getD (g.src.fr.getD a 0).toNat 0) (g.ars.getD a 0) = P2.getD (g.src.to.getD a 0).toNat 0) := fun hm => by
          have h1 := hhm2 (g.src.to.getD a 0).toNat (by omega)
          rw [Go.Cats.kO (by omega)] at h1
          exact kSq hg (by omega) h1
        have hco : max (g.src.fr.getD a 0) (g.src.to.getD a 0) = x → Spec Tryz.prog 60 [.bptr [] (catD g.tgt), iv (P2.getD (g.src.fr.getD a 0).toNat 0), iv (g.ars.getD a 0)] [] (iv (g.tgt.C (P2.getD (g.src.fr.getD a 0).toNat 0) (g.ars.getD a 0))) [] := fun hm => by
          have h1 := hrng (g.src.fr.getD a 0).toNat (by omega)
          have r1 := rows_len hg.tgt.toShape h1.1 h1.2
          exact sp_Category_then h1.1 r1.1 ga.1 (by omega)
        repeat' (first | (with_reducible first | refine V_seq ?_ | refine V_block ?_ | refine V_skip ?_ | refine V_ret ?_ | refine V_exit ?_) | ((with_reducible refine V_cond ?_); simp only [go_sem, simprocAttr]) | ((first | refine V_region (by rw [hn]; rfl) ?_ | refine V_drawn hmix (by rw [hn]; rfl) ?_); intro K hK) | ((first | with_reducible refine evOps_n ?_ | ((with_reducible apply evOps_g); rfl) | with_reducible refine evOpsD_n ?_ | ((with_reducible apply evOpsD_g); rfl)); intro K hK; simp (contextual := true) only [go_sem, simprocAttr]) | with_reducible refine evOps_nil ?_ | ((with_reducible refine evOpsD_nil ?_ ?_); kernel_rfl) | ((with_reducible refine hK _ ?_); clear hK K) | (with_reducible first | refine And.intro ?_ ?_ | refine nxt_n ?_ | refine nxt_r ?_ | refine nxt_e ?_ | refine blk_n ?_ | refine blk_r ?_ | refine blk_same ?_ | refine blk_other (by decide) ?_ | refine noG_n ?_ | refine noG_r ?_ | refine noG_e ?_ | refine inR_mk ?_ ?_) | ((with_reducible refine evCall_at 60 ?_); refine EvCall.mk ((hco (by assumption))) cal_Category_then [] [] (by simp [go_sem] <;> (repeat' (first | rfl | constructor))) (by simp [go_sem] <;> (repeat' (first | rfl | constructor))) ?_; all_goals try simp only [go_sem, simprocAttr]) | (refine hook_max2 rfl rfl ?_; simp only [go_sem, simprocAttr]) | (refine fun (hc : (_ : Bool) = _) => ?_; try simp only [hcS] at hc))
        all_goals try exact om_
        · have hn1 := hno fun q => absurd ((hto (by assumption)).1 (q a (by show a < g.src.fr.length; omega) (by assumption))) (by assumption)
          refine ⟨⟨k + 1, by omega, (by rw [hn1])⟩, by simp only; omega, Imp.auto hX (by simp only [go_sem, simprocAttr, hn1])⟩
        · refine ⟨⟨a + 1, by omega, (by exact all_sq (f := kF g.src g.tgt y) hwa (fun _ => (hto (by assumption)).2 (by assumption)))⟩, by simp only; omega, Imp.ao hX⟩
        · refine ⟨⟨a + 1, by omega, (by exact all_sq (f := kF g.src g.tgt y) hwa (fun q => absurd q (by assumption)))⟩, by simp only; omega, Imp.ao hX⟩
      · have hq : SqX (kF g.src g.tgt y) g P2 x := fun b hb hm => hwa b (by have : b < g.src.fr.length := hb; omega) hm
        have hy2 := hyes hq
        have hrec := sp_legs_1_n hg hy hO r (x + 1) P2 (st k).2.1 hl2 (by omega) (hgood hq) hfew
        rw [← hy2, show ((x + 1 : Nat) : Int) = (x : Int) + 1 from by omega] at hrec
        repeat' (first | (with_reducible first | refine V_seq ?_ | refine V_block ?_ | refine V_skip ?_ | refine V_ret ?_ | refine V_exit ?_) | ((with_reducible refine V_cond ?_); simp only [go_sem, simprocAttr]) | ((first | refine V_region (by rw [hn]; rfl) ?_ | refine V_drawn hmix (by rw [hn]; rfl) ?_); intro K hK) | ((first | with_reducible refine evOps_n ?_ | ((with_reducible apply evOps_g); rfl) | with_reducible refine evOpsD_n ?_ | ((with_reducible apply evOpsD_g); rfl)); intro K hK; simp (contextual := true) only [go_sem, simprocAttr]) | with_reducible refine evOps_nil ?_ | ((with_reducible refine evOpsD_nil ?_ ?_); kernel_rfl) | ((with_reducible refine hK _ ?_); clear hK K) | (with_reducible first | refine And.intro ?_ ?_ | refine nxt_n ?_ | refine nxt_r ?_ | refine nxt_e ?_ | refine blk_n ?_ | refine blk_r ?_ | refine blk_same ?_ | refine blk_other (by decide) ?_ | refine noG_n ?_ | refine noG_r ?_ | refine noG_e ?_ | refine inR_mk ?_ ?_) | ((with_reducible refine evCall_at 83 ?_); refine EvCall.mk (hrec) cal_legs_1 [(0,0),(1,1),(2,2),(3,3),(4,4),(5,5),(6,6),(7,7),(8,8),(9,9)] [] (by simp [go_sem] <;> (repeat' (first | rfl | constructor))) (by simp [go_sem] <;> (repeat' (first | rfl | constructor))) ?_; all_goals try simp only [go_sem, simprocAttr]) | (refine fun (hc : (_ : Bool) = _) => ?_; try simp only [hcS] at hc))
        all_goals try exact om_
        · rw [hstop (by assumption)]
          (first | refine ret_auto ?_ | refine ret_auto' ?_); simp only [go_sem, simprocAttr, Tryz.f83]
          rw [(by assumption : (st (k + 1)).1 = false)]
        · refine ⟨⟨k + 1, by omega, (by assumption)⟩, by simp only; omega, Imp.ao hX⟩
    · have ek : k = C.length := by omega
      subst ek
      repeat' (first | (with_reducible first | refine V_seq ?_ | refine V_block ?_ | refine V_skip ?_ | refine V_ret ?_ | refine V_exit ?_) | ((with_reducible refine V_cond ?_); simp only [go_sem, simprocAttr]) | ((first | refine V_region (by rw [hn]; rfl) ?_ | refine V_drawn hmix (by rw [hn]; rfl) ?_); intro K hK) | ((first | with_reducible refine evOps_n ?_ | ((with_reducible apply evOps_g); rfl) | with_reducible refine evOpsD_n ?_ | ((with_reducible apply evOpsD_g); rfl)); intro K hK; simp (contextual := true) only [go_sem, simprocAttr]) | with_reducible refine evOps_nil ?_ | ((with_reducible refine evOpsD_nil ?_ ?_); kernel_rfl) | ((with_reducible refine hK _ ?_); clear hK K) | (with_reducible first | refine And.intro ?_ ?_ | refine nxt_n ?_ | refine nxt_r ?_ | refine nxt_e ?_ | refine blk_n ?_ | refine blk_r ?_ | refine blk_same ?_ | refine blk_other (by decide) ?_ | refine noG_n ?_ | refine noG_r ?_ | refine noG_e ?_ | refine inR_mk ?_ ?_) | (refine fun (hc : (_ : Bool) = _) => ?_; try simp only [hcS] at hc))
      all_goals try exact om_
      · (first | refine ret_auto ?_ | refine ret_auto' ?_); simp only [go_sem, simprocAttr, Tryz.f83]
        rw [hwk]
end Go.Eng
end
section
namespace Go.Eng
open Go Go.Proofs Go.Cats
theorem conL_apex {g : Fun} {x : Nat} : apexC (conL g x) x (natA (kF g.src g.tgt x) g) = conL g (x + 1) := by
  rw [conL_succ]; rfl
attribute [local go_sem] List.set_cons_zero List.set_cons_succ conL_zero
theorem cal_legs : Callable Tryz.prog 66 := ⟨_, Tryz.func66, rfl, rfl⟩
theorem sp_legs {g : Fun} {y : Nat} {O : List Cone} (hg : IsFun g) (hy : (y : Int) < g.tgt.ob) (hO : O.length ≤ 400) : Spec Tryz.prog 66 [.bptr [] (funD g), iv y, .fn 67 [.ptr 0 0, .ptr 1 0]] [(0, ⟨1, .bx [.dead] 0 (conesD O)⟩), (1, ⟨1, .box [iv y]⟩)] (bv (eat (stL (400 - O.length)) [] (natA (kF g.src g.tgt y) g)).1) [(0, ⟨1, .bx [.dead] 0 (conesD (apexC O y (eat (stL (400 - O.length)) [] (natA (kF g.src g.tgt y) g)).2))⟩), (1, ⟨1, .box [iv y]⟩)] := by
  refine spec_of_V (E := TE) 2 Tryz.func66 rfl (by simp [Tryz.f66]) fun X hn hX => ?_
  have o0 := hg.src.toShape.ob0
  have o8 := hg.src.toShape.ob8
  have obl := hg.fits.obl
  have e0 : g.obs.length = g.src.ob.toNat := by omega
  have hrun := sp_legs_1_n hg hy hO g.src.ob.toNat 0 (List.replicate g.src.ob.toNat 0) [] (by rw [List.length_replicate]) (by omega) .nil (Nat.zero_le _)
  obtain ⟨a1, a2⟩ := natRun_all (f := kF g.src g.tgt y) (g := g) (M := 400 - O.length) (F := []) hg.src.toShape (Nat.zero_le _)
  rw [kF_src] at a1 a2
  rw [a1, a2, apexC_nil, ← e0] at hrun
  repeat' (first | (with_reducible first | refine V_seq ?_ | refine V_skip ?_ | refine V_ret ?_) | ((with_reducible refine V_cond ?_); simp only [go_sem, simprocAttr]) | ((first | refine V_region (by rw [hn]; rfl) ?_ | refine V_drawn hmix (by rw [hn]; rfl) ?_); intro K hK) | ((first | with_reducible refine evOps_n ?_ | ((with_reducible apply evOps_g); rfl) | with_reducible refine evOpsD_n ?_ | ((with_reducible apply evOpsD_g); rfl)); intro K hK; simp (contextual := true) only [go_sem, simprocAttr]) | with_reducible refine evOps_nil ?_ | ((with_reducible refine evOpsD_nil ?_ ?_); kernel_rfl) | ((with_reducible refine hK _ ?_); clear hK K) | (with_reducible first | refine And.intro ?_ ?_ | refine nxt_n ?_ | refine nxt_r ?_ | refine inR_mk ?_ ?_) | ((with_reducible refine evCall_at 83 ?_); refine EvCall.mk (hrun) cal_legs_1 [(0,6),(1,4),(2,8),(3,5),(4,3),(5,2),(6,9),(7,0),(8,1),(9,7)] [] (by simp [go_sem] <;> (repeat' (first | rfl | constructor))) (by simp [go_sem] <;> (repeat' (first | rfl | constructor))) ?_; all_goals try simp only [go_sem, simprocAttr]) | (refine fun (hc : (_ : Bool) = _) => ?_; try simp only [hcS] at hc))
  all_goals try exact om_
  · (first | refine ret_auto ?_ | refine ret_auto' ?_); simp only [go_sem, simprocAttr, Tryz.f66]
def AcO (g : Fun) (r : Sv) (L1 : List (Nat × Rs)) : Prop :=
  ((conA g).length ≤ 400 ∧ r = .tup [.sl 0, bv true] ∧ L1 = [(0, ⟨1, .arr (conesD (conA g))⟩)]) ∨ (¬ (conA g).length ≤ 400 ∧ r = .tup [.v (.slice none 0 0), bv false] ∧ L1 = [])
theorem cal_allCones : Callable Tryz.prog 45 := ⟨_, Tryz.func45, rfl, rfl⟩
theorem sp_allCones_o {g : Fun} {r : Sv} {L1 : List (Nat × Rs)} (hg : IsFun g) (ho : AcO g r L1) : Spec Tryz.prog 45 [.bptr [] (funD g)] [] r L1 := by
  have t0 := hg.tgt.toShape.ob0
  have t8 := hg.tgt.toShape.ob8
  refine spec_of_V (E := TE) 0 Tryz.func45 rfl (by simp [Tryz.f45]) fun X hn hX => ?_
  repeat' (first | (refine V_at 2 (Imp.closeB 1 0 0 _ _ rfl rfl rfl (by decide)) ?_; simp only [go_sem, simprocAttr]) | (with_reducible first | refine V_seq ?_ | refine V_block ?_ | refine V_skip ?_ | refine V_ret ?_ | refine V_exit ?_) | ((with_reducible refine V_cond ?_); simp only [go_sem, simprocAttr]) | ((first | refine V_region (by rw [hn]; rfl) ?_ | refine V_drawn hmix (by rw [hn]; rfl) ?_); intro K hK) | ((first | with_reducible refine evOps_n ?_ | ((with_reducible apply evOps_g); rfl) | with_reducible refine evOpsD_n ?_ | ((with_reducible apply evOpsD_g); rfl)); intro K hK; simp (contextual := true) only [go_sem, simprocAttr]) | with_reducible refine evOps_nil ?_ | ((with_reducible refine evOpsD_nil ?_ ?_); kernel_rfl) | ((with_reducible refine hK _ ?_); clear hK K) | (with_reducible first | refine And.intro ?_ ?_ | refine nxt_n ?_ | refine nxt_r ?_ | refine nxt_e ?_ | refine blk_n ?_ | refine blk_r ?_ | refine blk_same ?_ | refine blk_other (by decide) ?_ | refine noG_n ?_ | refine noG_r ?_ | refine noG_e ?_ | refine inR_mk ?_ ?_) | (refine fun (hc : (_ : Bool) = _) => ?_; try simp only [hcS] at hc))
  all_goals try exact om_
  refine V_loopK (G := {x : Nat // x ≤ g.tgt.ob.toNat ∧ ((conL g x).length ≤ 400)}) (fun ⟨x, _⟩ => [(4, .ptr 1 0), (5, .ptr 2 0)]) [0] (fun ⟨x, _⟩ => [(1, ⟨1, .bx [.dead] 0 (conesD (conL g x))⟩), (2, ⟨1, .box [iv x]⟩)]) [1, 2] (fun zz => g.tgt.ob.toNat - zz.1) ⟨0, Nat.zero_le _, by exact Nat.zero_le _⟩ ?_ ?_
  · exact Imp.au hX
  rintro ⟨x, hix, hwx⟩
  simp only [go_sem, simprocAttr]
  rcases Nat.lt_or_ge x g.tgt.ob.toNat with hlx | hgx
  · have hle := sp_legs (y := x) (O := conL g x) hg (by omega) hwx
    rw [eat_L (M := 400 - (conL g x).length) _ _ (Nat.zero_le _), List.nil_append] at hle
    have hl2 : (conL g (x + 1)).length = (conL g x).length + (natA (kF g.src g.tgt x) g).length := by rw [conL_succ, List.length_append, conX_len]
    by_cases hN : (natA (kF g.src g.tgt x) g).length ≤ 400 - (conL g x).length
    · rw [decide_eq_true hN, List.take_of_length_le (by omega), conL_apex] at hle
      have hw2 : (conL g (x + 1)).length ≤ 400 := by omega
      repeat' (first | (with_reducible first | refine V_seq ?_ | refine V_block ?_ | refine V_skip ?_ | refine V_ret ?_ | refine V_exit ?_) | ((with_reducible refine V_cond ?_); simp only [go_sem, simprocAttr]) | ((first | refine V_region (by rw [hn]; rfl) ?_ | refine V_drawn hmix (by rw [hn]; rfl) ?_); intro K hK) | ((first | with_reducible refine evOps_n ?_ | ((with_reducible apply evOps_g); rfl) | with_reducible refine evOpsD_n ?_ | ((with_reducible apply evOpsD_g); rfl)); intro K hK; simp (contextual := true) only [go_sem, simprocAttr]) | with_reducible refine evOps_nil ?_ | ((with_reducible refine evOpsD_nil ?_ ?_); kernel_rfl) | ((with_reducible refine hK _ ?_); clear hK K) | (with_reducible first | refine And.intro ?_ ?_ | refine nxt_n ?_ | refine nxt_r ?_ | refine nxt_e ?_ | refine blk_n ?_ | refine blk_r ?_ | refine blk_same ?_ | refine blk_other (by decide) ?_ | refine noG_n ?_ | refine noG_r ?_ | refine noG_e ?_ | refine inR_mk ?_ ?_) | ((with_reducible refine evCall_at 66 ?_); refine EvCall.mk (hle) cal_legs [(0,1),(1,2)] [] (by simp [go_sem] <;> (repeat' (first | rfl | constructor))) (by simp [go_sem] <;> (repeat' (first | rfl | constructor))) ?_; all_goals try simp only [go_sem, simprocAttr]) | (refine fun (hc : (_ : Bool) = _) => ?_; try simp only [hcS] at hc))
      all_goals try exact om_
      · refine ⟨⟨x + 1, by omega, (by exact hw2)⟩, by simp only; omega, Imp.ao hX⟩
    · rw [decide_eq_false hN] at hle
      rcases ho with ⟨ho, _, _⟩ | ⟨_, rfl, rfl⟩
      · have := conL_mono (g := g) (show x + 1 ≤ g.tgt.ob.toNat from hlx)
        have ho : (conL g g.tgt.ob.toNat).length ≤ 400 := ho
        exact absurd (show (natA (kF g.src g.tgt x) g).length ≤ 400 - (conL g x).length by omega) hN
      · repeat' (first | (with_reducible first | refine V_seq ?_ | refine V_block ?_ | refine V_skip ?_ | refine V_ret ?_ | refine V_exit ?_) | ((with_reducible refine V_cond ?_); simp only [go_sem, simprocAttr]) | ((first | refine V_region (by rw [hn]; rfl) ?_ | refine V_drawn hmix (by rw [hn]; rfl) ?_); intro K hK) | ((first | with_reducible refine evOps_n ?_ | ((with_reducible apply evOps_g); rfl) | with_reducible refine evOpsD_n ?_ | ((with_reducible apply evOpsD_g); rfl)); intro K hK; simp (contextual := true) only [go_sem, simprocAttr]) | with_reducible refine evOps_nil ?_ | ((with_reducible refine evOpsD_nil ?_ ?_); kernel_rfl) | ((with_reducible refine hK _ ?_); clear hK K) | (with_reducible first | refine And.intro ?_ ?_ | refine nxt_n ?_ | refine nxt_r ?_ | refine nxt_e ?_ | refine blk_n ?_ | refine blk_r ?_ | refine blk_same ?_ | refine blk_other (by decide) ?_ | refine noG_n ?_ | refine noG_r ?_ | refine noG_e ?_ | refine inR_mk ?_ ?_) | ((with_reducible refine evCall_at 66 ?_); refine EvCall.mk (hle) cal_legs [(0,1),(1,2)] [] (by simp [go_sem] <;> (repeat' (first | rfl | constructor))) (by simp [go_sem] <;> (repeat' (first | rfl | constructor))) ?_; all_goals try simp only [go_sem, simprocAttr]) | (refine fun (hc : (_ : Bool) = _) => ?_; try simp only [hcS] at hc))
        all_goals try exact om_
        all_goals ((first | refine ret_auto ?_ | refine ret_auto' ?_); simp only [go_sem, simprocAttr, Tryz.f45])
  · have ex : x = g.tgt.ob.toNat := by omega
    subst ex
    rcases ho with ⟨_, rfl, rfl⟩ | ⟨hn2, _, _⟩
    · repeat' (first | (refine V_at 10 (Imp.openB 1 0 _ _ rfl (Nat.succ_le_succ (Nat.zero_le _)) rfl rfl) ?_; simp only [go_sem, simprocAttr]) | (with_reducible first | refine V_seq ?_ | refine V_block ?_ | refine V_skip ?_ | refine V_ret ?_ | refine V_exit ?_) | ((with_reducible refine V_cond ?_); simp only [go_sem, simprocAttr]) | ((first | refine V_region (by rw [hn]; rfl) ?_ | refine V_drawn hmix (by rw [hn]; rfl) ?_); intro K hK) | ((first | with_reducible refine evOps_n ?_ | ((with_reducible apply evOps_g); rfl) | with_reducible refine evOpsD_n ?_ | ((with_reducible apply evOpsD_g); rfl)); intro K hK; simp (contextual := true) only [go_sem, simprocAttr]) | with_reducible refine evOps_nil ?_ | ((with_reducible refine evOpsD_nil ?_ ?_); kernel_rfl) | ((with_reducible refine hK _ ?_); clear hK K) | (with_reducible first | refine And.intro ?_ ?_ | refine nxt_n ?_ | refine nxt_r ?_ | refine nxt_e ?_ | refine blk_n ?_ | refine blk_r ?_ | refine blk_same ?_ | refine blk_other (by decide) ?_ | refine noG_n ?_ | refine noG_r ?_ | refine noG_e ?_ | refine inR_mk ?_ ?_) | (refine fun (hc : (_ : Bool) = _) => ?_; try simp only [hcS] at hc))
      all_goals try exact om_
      · (first | refine ret_auto ?_ | refine ret_auto' ?_); simp only [go_sem, simprocAttr, Tryz.f45]
        rfl
    · exact absurd hwx hn2
end Go.Eng
end
section
namespace Go.Eng
open Go Go.Proofs Go.Cats
attribute [local go_sem] List.set_cons_zero List.set_cons_succ cnMaps_zero
theorem all_legs {P : Nat → Prop} {j : Nat} (h : ∀ b, b < j → P b) (k : P j) : ∀ b, b < j + 1 → P b := fun b hb => by
  by_cases e : b = j
  · subst e; exact k
  · exact h b (by omega)
theorem cal_coneMaps : Callable Tryz.prog 85 := ⟨_, Tryz.func85, rfl, rfl⟩
theorem sp_coneMaps {g : Fun} {p q : Cone} (hg : IsFun g) (hp : ConOK g p) (hq : ConOK g q) : Spec Tryz.prog 85 [.bptr [] (funD g), .agg [iv p.apex, .bor [] (ints p.legs)], .agg [iv q.apex, .bor [] (ints q.legs)]] [] (.sl 0) [(0, ⟨1, .arr (ints (cnMaps g p q (g.tgt.hom p.apex q.apex) (g.tgt.hom p.apex q.apex).length))⟩)] := by
  refine spec_of_V (E := TE) 0 Tryz.func85 rfl (by simp [Tryz.f85]) fun X hn hX => ?_
  have m40 := hg.tgt.toShape.m40
  have tol := hg.tgt.toShape.tol
  have obl := hg.fits.obl
  have s8 := hg.src.toShape.ob8
  have pl := hp.ll
  have ql := hq.ll
  have qh := hq.hom
  have hl := g.tgt.homI_len p.apex q.apex g.tgt.fr.length
  have hl : (g.tgt.hom p.apex q.apex).length ≤ g.tgt.fr.length := hl
  have hcm : ∀ u ∈ g.tgt.hom p.apex q.apex, 0 ≤ u ∧ u < g.tgt.fr.length := fun u hu => hom_rng hu
  obtain ⟨C, hC⟩ : ∃ C, g.tgt.hom p.apex q.apex = C := ⟨_, rfl⟩
  rw [hC] at hl hcm ⊢
  repeat' (first | (with_reducible first | refine V_scope ?_ | refine V_label ?_) | (rw [hC]) | (with_reducible first | refine V_seq ?_ | refine V_block ?_ | refine V_skip ?_ | refine V_ret ?_ | refine V_exit ?_) | ((with_reducible refine V_cond ?_); simp only [go_sem, simprocAttr]) | ((first | refine V_region (by rw [hn]; rfl) ?_ | refine V_drawn hmix (by rw [hn]; rfl) ?_); intro K hK) | ((first | with_reducible refine evOps_n ?_ | ((with_reducible apply evOps_g); rfl) | with_reducible refine evOpsD_n ?_ | ((with_reducible apply evOpsD_g); rfl)); intro K hK; simp (contextual := true) only [go_sem, simprocAttr]) | with_reducible refine evOps_nil ?_ | ((with_reducible refine evOpsD_nil ?_ ?_); kernel_rfl) | ((with_reducible refine hK _ ?_); clear hK K) | (with_reducible first | refine And.intro ?_ ?_ | refine nxt_n ?_ | refine nxt_r ?_ | refine nxt_e ?_ | refine blk_n ?_ | refine blk_r ?_ | refine blk_same ?_ | refine blk_other (by decide) ?_ | refine noG_n ?_ | refine noG_r ?_ | refine noG_e ?_ | refine inR_mk ?_ ?_) | ((with_reducible refine evCall_at 84 ?_); refine EvCall.rq (a := (sp_Category_hom (c:=g.tgt) ?_ ?_)) (b := cal_Category_hom) (c := ?_); all_goals try simp only [go_sem, simprocAttr]) | (refine fun (hc : (_ : Bool) = _) => ?_; try simp only [hcS] at hc))
  all_goals try exact om_
  refine V_loopK (G := {k : Nat // k ≤ C.length ∧ (True)}) (fun ⟨k, _⟩ => [(24, iv k), (4, .ptr 0 0), (5, .ptr 1 0), (8, .sl 2), (22, .sl 3)]) [6, 7, 23] (fun ⟨k, _⟩ => [(2, ⟨1, .arr (ints (cnMaps g p q C k))⟩), (3, ⟨1, .arr (ints C)⟩)]) [2, 3] (fun zz => C.length - zz.1) ⟨0, Nat.zero_le _, by first | trivial | simp⟩ ?_ ?_
  · exact Imp.au hX
  rintro ⟨k, hik, hwk⟩
  simp only [go_sem, simprocAttr]
  have hcl := cnMaps_len (g := g) (p := p) (q := q) (C := C) (k := k)
  rcases Nat.lt_or_ge k C.length with hlk | hgk
  · have hu := hcm _ (getD_mem (d := 0) hlk)
    have r1 := rows_len hg.tgt.toShape hu.1 hu.2
    repeat' (first | (with_reducible first | refine V_seq ?_ | refine V_block ?_ | refine V_skip ?_ | refine V_ret ?_ | refine V_exit ?_) | ((with_reducible refine V_cond ?_); simp only [go_sem, simprocAttr]) | ((first | refine V_region (by rw [hn]; rfl) ?_ | refine V_drawn hmix (by rw [hn]; rfl) ?_); intro K hK) | ((first | with_reducible refine evOps_n ?_ | ((with_reducible apply evOps_g); rfl) | with_reducible refine evOpsD_n ?_ | ((with_reducible apply evOpsD_g); rfl)); intro K hK; simp (contextual := true) only [go_sem, simprocAttr]) | with_reducible refine evOps_nil ?_ | ((with_reducible refine evOpsD_nil ?_ ?_); kernel_rfl) | ((with_reducible refine hK _ ?_); clear hK K) | (with_reducible first | refine And.intro ?_ ?_ | refine nxt_n ?_ | refine nxt_r ?_ | refine nxt_e ?_ | refine blk_n ?_ | refine blk_r ?_ | refine blk_same ?_ | refine blk_other (by decide) ?_ | refine noG_n ?_ | refine noG_r ?_ | refine noG_e ?_ | refine inR_mk ?_ ?_) | (refine fun (hc : (_ : Bool) = _) => ?_; try simp only [hcS] at hc))
    all_goals try exact om_
    refine V_loopK (G := {j : Nat // j ≤ q.legs.length ∧ (∀ b, b < j → g.tgt.C (C.getD k 0) (q.legs.getD b 0) = p.legs.getD b 0)}) (fun ⟨j, _⟩ => [(31, iv j), (24, iv k), (10, iv (C.getD k 0)), (4, .ptr 0 0), (5, .ptr 1 0), (8, .sl 2), (22, .sl 3)]) [6, 7, 23, 29, 30] (fun ⟨j, _⟩ => [(2, ⟨1, .arr (ints (cnMaps g p q C k))⟩), (3, ⟨1, .arr (ints C)⟩)]) [2, 3] (fun zz => q.legs.length - zz.1) ⟨0, Nat.zero_le _, by exact (fun b hb => absurd hb (Nat.not_lt_zero b))⟩ ?_ ?_
    · exact Imp.au hX
    rintro ⟨j, hij, hwj⟩
    simp only [go_sem, simprocAttr]
    rcases Nat.lt_or_ge j q.legs.length with hlj | hgj
    · have hq1 := hom_rng (qh j (by omega))
      have ht := sp_Category_then (c := g.tgt) (f := C.getD k 0) (g := q.legs.getD j 0) hu.1 r1.1 hq1.1 (by omega)
      repeat' (first | (with_reducible first | refine V_seq ?_ | refine V_block ?_ | refine V_skip ?_ | refine V_ret ?_ | refine V_exit ?_) | ((with_reducible refine V_cond ?_); simp only [go_sem, simprocAttr]) | ((first | refine V_region (by rw [hn]; rfl) ?_ | refine V_drawn hmix (by rw [hn]; rfl) ?_); intro K hK) | ((first | with_reducible refine evOps_n ?_ | ((with_reducible apply evOps_g); rfl) | with_reducible refine evOpsD_n ?_ | ((with_reducible apply evOpsD_g); rfl)); intro K hK; simp (contextual := true) only [go_sem, simprocAttr]) | with_reducible refine evOps_nil ?_ | ((with_reducible refine evOpsD_nil ?_ ?_); kernel_rfl) | ((with_reducible refine hK _ ?_); clear hK K) | (with_reducible first | refine And.intro ?_ ?_ | refine nxt_n ?_ | refine nxt_r ?_ | refine nxt_e ?_ | refine blk_n ?_ | refine blk_r ?_ | refine blk_same ?_ | refine blk_other (by decide) ?_ | refine noG_n ?_ | refine noG_r ?_ | refine noG_e ?_ | refine inR_mk ?_ ?_) | ((with_reducible refine evCall_at 60 ?_); refine EvCall.mk (ht) cal_Category_then [] [] (by simp [go_sem] <;> (repeat' (first | rfl | constructor))) (by simp [go_sem] <;> (repeat' (first | rfl | constructor))) ?_; all_goals try simp only [go_sem, simprocAttr]) | (refine fun (hc : (_ : Bool) = _) => ?_; try simp only [hcS] at hc))
      all_goals try exact om_
      · have e2 := cnMaps_no (g := g) (p := p) (q := q) hlk (fun s => hc (s j hlj))
        refine ⟨⟨k + 1, by omega, (by (trivial))⟩, by simp only; omega, Imp.auto hX (by simp only [go_sem, simprocAttr, e2])⟩
      · refine ⟨⟨j + 1, by omega, (by exact all_legs hwj hc)⟩, by simp only; omega, Imp.ao hX⟩
    · have ej : j = q.legs.length := by omega
      subst ej
      have e1 := cnMaps_yes (g := g) (p := p) (q := q) hlk (fun b hb => hwj b hb)
      repeat' (first | (with_reducible first | refine V_seq ?_ | refine V_block ?_ | refine V_skip ?_ | refine V_ret ?_ | refine V_exit ?_) | ((with_reducible refine V_cond ?_); simp only [go_sem, simprocAttr]) | ((first | refine V_region (by rw [hn]; rfl) ?_ | refine V_drawn hmix (by rw [hn]; rfl) ?_); intro K hK) | ((first | with_reducible refine evOps_n ?_ | ((with_reducible apply evOps_g); rfl) | with_reducible refine evOpsD_n ?_ | ((with_reducible apply evOpsD_g); rfl)); intro K hK; simp (contextual := true) only [go_sem, simprocAttr]) | with_reducible refine evOps_nil ?_ | ((with_reducible refine evOpsD_nil ?_ ?_); kernel_rfl) | ((with_reducible refine hK _ ?_); clear hK K) | (with_reducible first | refine And.intro ?_ ?_ | refine nxt_n ?_ | refine nxt_r ?_ | refine nxt_e ?_ | refine blk_n ?_ | refine blk_r ?_ | refine blk_same ?_ | refine blk_other (by decide) ?_ | refine noG_n ?_ | refine noG_r ?_ | refine noG_e ?_ | refine inR_mk ?_ ?_) | (refine fun (hc : (_ : Bool) = _) => ?_; try simp only [hcS] at hc))
      all_goals try exact om_
      · refine ⟨⟨k + 1, by omega, (by (trivial))⟩, by simp only; omega, Imp.auto hX (by simp only [go_sem, simprocAttr, e1])⟩
  · have ek : k = C.length := by omega
    subst ek
    repeat' (first | (with_reducible first | refine V_seq ?_ | refine V_block ?_ | refine V_skip ?_ | refine V_ret ?_ | refine V_exit ?_) | ((with_reducible refine V_cond ?_); simp only [go_sem, simprocAttr]) | ((first | refine V_region (by rw [hn]; rfl) ?_ | refine V_drawn hmix (by rw [hn]; rfl) ?_); intro K hK) | ((first | with_reducible refine evOps_n ?_ | ((with_reducible apply evOps_g); rfl) | with_reducible refine evOpsD_n ?_ | ((with_reducible apply evOpsD_g); rfl)); intro K hK; simp (contextual := true) only [go_sem, simprocAttr]) | with_reducible refine evOps_nil ?_ | ((with_reducible refine evOpsD_nil ?_ ?_); kernel_rfl) | ((with_reducible refine hK _ ?_); clear hK K) | (with_reducible first | refine And.intro ?_ ?_ | refine nxt_n ?_ | refine nxt_r ?_ | refine nxt_e ?_ | refine blk_n ?_ | refine blk_r ?_ | refine blk_same ?_ | refine blk_other (by decide) ?_ | refine noG_n ?_ | refine noG_r ?_ | refine noG_e ?_ | refine inR_mk ?_ ?_) | (refine fun (hc : (_ : Bool) = _) => ?_; try simp only [hcS] at hc))
    all_goals try exact om_
    · (first | refine ret_auto ?_ | refine ret_auto' ?_); simp only [go_sem, simprocAttr, Tryz.f85]
theorem cal_isUniversal : Callable Tryz.prog 69 := ⟨_, Tryz.func69, rfl, rfl⟩
theorem sp_isUniversal {g : Fun} {all : List Cone} {p : Cone} (hg : IsFun g) (ha : ∀ i, i < all.length → ConOK g (all.getD i default)) (hl : all.length ≤ 400) (hp : ConOK g p) : Spec Tryz.prog 69 [.bptr [] (funD g), .bor [] (conesD all), .agg [iv p.apex, .bor [] (ints p.legs)]] [] (bv (dec (UnP g all p))) [] := by
  refine spec_of_V (E := TE) 0 Tryz.func69 rfl (by simp [Tryz.f69]) fun X hn hX => ?_
  have m40 := hg.tgt.toShape.m40
  repeat' (first | (with_reducible first | refine V_seq ?_ | refine V_block ?_ | refine V_skip ?_ | refine V_ret ?_ | refine V_exit ?_) | ((with_reducible refine V_cond ?_); simp only [go_sem, simprocAttr]) | ((refine V_region (by rw [hn]; rfl) ?_); intro K hK) | ((first | with_reducible refine evOps_n ?_ | ((with_reducible apply evOps_g); rfl)); intro K hK; simp (contextual := true) only [go_sem, simprocAttr]) | with_reducible refine evOps_nil ?_ | ((with_reducible refine hK _ ?_); clear hK K) | (with_reducible first | refine And.intro ?_ ?_ | refine nxt_n ?_ | refine nxt_r ?_ | refine nxt_e ?_ | refine blk_n ?_ | refine blk_r ?_ | refine blk_same ?_ | refine blk_other (by decide) ?_ | refine noG_n ?_ | refine noG_r ?_ | refine noG_e ?_ | refine inR_mk ?_ ?_) | (refine fun (hc : (_ : Bool) = _) => ?_; try simp only [hcS] at hc))
  all_goals try exact om_
  refine V_loopK (G := {i : Nat // i ≤ all.length ∧ (∀ z, z < i → cnMapN g (all.getD z default) p = 1)}) (fun ⟨i, _⟩ => [(11, iv i), (5, .ptr 0 0)]) [0, 9, 10] (fun ⟨i, _⟩ => []) [] (fun zz => all.length - zz.1) ⟨0, Nat.zero_le _, by exact (fun b hb => absurd hb (Nat.not_lt_zero b))⟩ ?_ ?_
  · exact Imp.au hX
  rintro ⟨i, hii, hwi⟩
  simp only [go_sem, simprocAttr]
  rcases Nat.lt_or_ge i all.length with hli | hgi
  · have hpt := cones_part all i hli
    have hcm := sp_coneMaps hg (ha i hli) hp
    have hcl : (cnMaps g (all.getD i default) p (g.tgt.hom (all.getD i default).apex p.apex) (g.tgt.hom (all.getD i default).apex p.apex).length).length = cnMapN g (all.getD i default) p := rfl
    repeat' (first | (rw [hpt]; simp only [go_sem, simprocAttr]) | (with_reducible first | refine V_seq ?_ | refine V_block ?_ | refine V_skip ?_ | refine V_ret ?_ | refine V_exit ?_) | ((with_reducible refine V_cond ?_); simp only [go_sem, simprocAttr]) | ((refine V_region (by rw [hn]; rfl) ?_); intro K hK) | ((first | with_reducible refine evOps_n ?_ | ((with_reducible apply evOps_g); rfl)); intro K hK; simp (contextual := true) only [go_sem, simprocAttr]) | with_reducible refine evOps_nil ?_ | ((with_reducible refine hK _ ?_); clear hK K) | (with_reducible first | refine And.intro ?_ ?_ | refine nxt_n ?_ | refine nxt_r ?_ | refine nxt_e ?_ | refine blk_n ?_ | refine blk_r ?_ | refine blk_same ?_ | refine blk_other (by decide) ?_ | refine noG_n ?_ | refine noG_r ?_ | refine noG_e ?_ | refine inR_mk ?_ ?_) | ((with_reducible refine evCall_at 85 ?_); refine EvCall.mk (hcm) cal_coneMaps [(0,2)] [] (by simp [go_sem] <;> (repeat' (first | rfl | constructor))) (by simp [go_sem] <;> (repeat' (first | rfl | constructor))) ?_; all_goals try simp only [go_sem, simprocAttr]) | (refine fun (hc : (_ : Bool) = _) => ?_; try simp only [hcS] at hc))
    all_goals try exact om_
    · (first | refine ret_auto ?_ | refine ret_auto' ?_); simp only [go_sem, simprocAttr, Tryz.f69]
      exact bv_f fun s => hc (by rw [hcl, s i hli]; rfl)
    · refine ⟨⟨i + 1, by omega, (by exact all_legs (P := fun z => cnMapN g (all.getD z default) p = 1) hwi (by have h := hc; rw [hcl] at h; show cnMapN g (all.getD i default) p = 1; omega))⟩, by simp only; omega, Imp.ao hX⟩
  · have ei : i = all.length := by omega
    subst ei
    repeat' (first | (with_reducible first | refine V_seq ?_ | refine V_block ?_ | refine V_skip ?_ | refine V_ret ?_ | refine V_exit ?_) | ((with_reducible refine V_cond ?_); simp only [go_sem, simprocAttr]) | ((refine V_region (by rw [hn]; rfl) ?_); intro K hK) | ((first | with_reducible refine evOps_n ?_ | ((with_reducible apply evOps_g); rfl)); intro K hK; simp (contextual := true) only [go_sem, simprocAttr]) | with_reducible refine evOps_nil ?_ | ((with_reducible refine hK _ ?_); clear hK K) | (with_reducible first | refine And.intro ?_ ?_ | refine nxt_n ?_ | refine nxt_r ?_ | refine nxt_e ?_ | refine blk_n ?_ | refine blk_r ?_ | refine blk_same ?_ | refine blk_other (by decide) ?_ | refine noG_n ?_ | refine noG_r ?_ | refine noG_e ?_ | refine inR_mk ?_ ?_) | (refine fun (hc : (_ : Bool) = _) => ?_; try simp only [hcS] at hc))
    all_goals try exact om_
    · (first | refine ret_auto ?_ | refine ret_auto' ?_); simp only [go_sem, simprocAttr, Tryz.f69]
      exact bv_t hwi
theorem cal_imageCone : Callable Tryz.prog 70 := ⟨_, Tryz.func70, rfl, rfl⟩
theorem sp_imageCone {e f : Fun} {p : Cone} (he : Fits e) (h8 : e.obs.length ≤ 8) (hf : IsFun f) (st : e.tgt = f.src) (h : ConOK e p) : Spec Tryz.prog 70 [.agg [iv p.apex, .bor [] (ints p.legs)], .bptr [] (funD f)] [] (.agg [iv (imC f p).apex, .sl 0]) [(0, ⟨1, .arr (ints (imC f p).legs)⟩)] := by
  refine spec_of_V (E := TE) 0 Tryz.func70 rfl (by simp [Tryz.f70]) fun X hn hX => ?_
  have a0 := h.a0
  have a1 := h.a1
  rw [st] at a1
  have ll := h.ll
  have eo := he.obl
  have fo := hf.fits.obl
  have fa := hf.fits.arl
  have s40 := hf.src.toShape.m40
  have hth := sp_then (f := p.legs) (g := f.ars) (by omega) (by omega) (fun j hj => by
    have h1 := hom_rng (h.hom j (by omega))
    rw [st] at h1
    omega)
  repeat' (first | (with_reducible first | refine V_seq ?_ | refine V_skip ?_ | refine V_ret ?_) | ((with_reducible refine V_cond ?_); simp only [go_sem, simprocAttr]) | ((first | refine V_region (by rw [hn]; rfl) ?_ | refine V_drawn hmix (by rw [hn]; rfl) ?_); intro K hK) | ((first | with_reducible refine evOps_n ?_ | ((with_reducible apply evOps_g); rfl) | with_reducible refine evOpsD_n ?_ | ((with_reducible apply evOpsD_g); rfl)); intro K hK; simp (contextual := true) only [go_sem, simprocAttr]) | with_reducible refine evOps_nil ?_ | ((with_reducible refine evOpsD_nil ?_ ?_); kernel_rfl) | ((with_reducible refine hK _ ?_); clear hK K) | (with_reducible first | refine And.intro ?_ ?_ | refine nxt_n ?_ | refine nxt_r ?_ | refine inR_mk ?_ ?_) | ((with_reducible refine evCall_at 65 ?_); refine EvCall.mk (hth) cal_then [(0,2)] [] (by simp [go_sem] <;> (repeat' (first | rfl | constructor))) (by simp [go_sem] <;> (repeat' (first | rfl | constructor))) ?_; all_goals try simp only [go_sem, simprocAttr]) | (refine fun (hc : (_ : Bool) = _) => ?_; try simp only [hcS] at hc))
  all_goals try exact om_
  · (first | refine ret_auto ?_ | refine ret_auto' ?_); simp only [go_sem, simprocAttr, Tryz.f70]
    exact ⟨rfl, rfl⟩
end Go.Eng
end
section
namespace Go.Eng
open Go Go.Proofs Go.Cats
attribute [local go_sem] List.set_cons_zero List.set_cons_succ cnMaps_zero
theorem catB_of {c : Cat} (s : IsCat c) : CatB c := by
  have h := s.toShape
  have h0 := h.ob0
  have h8 := h.ob8
  have h1 := h.tol
  have h2 := h.idl
  have h3 := h.col
  have h4 := h.m40
  exact ⟨by omega, by omega, by omega, by omega, by omega, by omega, fun f hf => by have := (h.coe f (by omega)).1; omega⟩
def TriK (g : Fun) (p q : Cone) (u : Int) (j : Nat) : Prop := ∀ b, b < j → g.tgt.C u (q.legs.getD b 0) = p.legs.getD b 0
theorem tri_zero (g p q u) : dec (TriK g p q u 0) = true := dec_t fun b hb => absurd hb (Nat.not_lt_zero b)
theorem tri_succ {g : Fun} {p q : Cone} {u : Int} {j : Nat} (h : TriK g p q u j) : dec (TriK g p q u (j + 1)) = decide (g.tgt.C u (q.legs.getD j 0) = p.legs.getD j 0) := by
  rw [← dec_eq]
  exact dec_congr ⟨fun s => s j (Nat.lt_succ_self j), fun k => all_legs h k⟩
theorem cal_l12Maps : Callable Tryz.prog 53 := ⟨_, Tryz.func53, rfl, rfl⟩
theorem sp_l12Maps {g : Fun} {p q : Cone} (hg : IsFun g) (hp : ConOK g p) (hq : ConOK g q) : Spec Tryz.prog 53 [funV g, .agg [iv p.apex, .bor [] (ints p.legs)], .agg [iv q.apex, .bor [] (ints q.legs)]] [] (.sl 0) [(0, ⟨1, .arr (ints (cnMaps g p q (g.tgt.hom p.apex q.apex) (g.tgt.hom p.apex q.apex).length))⟩)] := by
  refine spec_of_V (E := TE) 0 Tryz.func53 rfl (by simp [Tryz.f53]) fun X hn hX => ?_
  have m40 := hg.tgt.toShape.m40
  have tol := hg.tgt.toShape.tol
  have obl := hg.fits.obl
  have s8 := hg.src.toShape.ob8
  have pl := hp.ll
  have ql := hq.ll
  have qh := hq.hom
  have hl := g.tgt.homI_len p.apex q.apex g.tgt.fr.length
  have hl : (g.tgt.hom p.apex q.apex).length ≤ g.tgt.fr.length := hl
  have hcm : ∀ u ∈ g.tgt.hom p.apex q.apex, 0 ≤ u ∧ u < g.tgt.fr.length := fun u hu => hom_rng hu
  obtain ⟨C, hC⟩ : ∃ C, g.tgt.hom p.apex q.apex = C := ⟨_, rfl⟩
  rw [hC] at hl hcm ⊢
  repeat' (first | (rw [hC]) | (with_reducible first | refine V_seq ?_ | refine V_block ?_ | refine V_skip ?_ | refine V_ret ?_ | refine V_exit ?_) | ((with_reducible refine V_cond ?_); simp only [go_sem, simprocAttr]) | ((first | refine V_region (by rw [hn]; rfl) ?_ | refine V_drawn hmix (by rw [hn]; rfl) ?_); intro K hK) | ((first | with_reducible refine evOps_n ?_ | ((with_reducible apply evOps_g); rfl) | with_reducible refine evOpsD_n ?_ | ((with_reducible apply evOpsD_g); rfl)); intro K hK; simp (contextual := true) only [go_sem, simprocAttr]) | with_reducible refine evOps_nil ?_ | ((with_reducible refine evOpsD_nil ?_ ?_); kernel_rfl) | ((with_reducible refine hK _ ?_); clear hK K) | (with_reducible first | refine And.intro ?_ ?_ | refine nxt_n ?_ | refine nxt_r ?_ | refine nxt_e ?_ | refine blk_n ?_ | refine blk_r ?_ | refine blk_same ?_ | refine blk_other (by decide) ?_ | refine noG_n ?_ | refine noG_r ?_ | refine noG_e ?_ | refine inR_mk ?_ ?_) | ((with_reducible refine evCall_at 75 ?_); refine EvCall.rq (a := (sp_l02Hom (c:=g.tgt) ?_ ?_)) (b := cal_l02Hom) (c := ?_); all_goals try simp only [go_sem, simprocAttr]) | (refine fun (hc : (_ : Bool) = _) => ?_; try simp only [hcS] at hc))
  all_goals try exact om_
  refine V_loopK (G := {k : Nat // k ≤ C.length ∧ (True)}) (fun ⟨k, _⟩ => [(9, iv k), (3, .ptr 0 0), (4, .ptr 1 0), (5, .ptr 2 0), (7, .sl 3), (8, .sl 4)]) [6] (fun ⟨k, _⟩ => [(3, ⟨1, .arr (ints C)⟩), (4, ⟨1, .arr (ints (cnMaps g p q C k))⟩)]) [3, 4] (fun zz => C.length - zz.1) ⟨0, Nat.zero_le _, by first | trivial | simp⟩ ?_ ?_
  · exact Imp.au hX
  rintro ⟨k, hik, hwk⟩
  simp only [go_sem, simprocAttr]
  have hcl := cnMaps_len (g := g) (p := p) (q := q) (C := C) (k := k)
  rcases Nat.lt_or_ge k C.length with hlk | hgk
  · have hu := hcm _ (getD_mem (d := 0) hlk)
    have r1 := rows_len hg.tgt.toShape hu.1 hu.2
    repeat' (first | (with_reducible first | refine V_seq ?_ | refine V_block ?_ | refine V_skip ?_ | refine V_ret ?_ | refine V_exit ?_) | ((with_reducible refine V_cond ?_); simp only [go_sem, simprocAttr]) | ((first | refine V_region (by rw [hn]; rfl) ?_ | refine V_drawn hmix (by rw [hn]; rfl) ?_); intro K hK) | ((first | with_reducible refine evOps_n ?_ | ((with_reducible apply evOps_g); rfl) | with_reducible refine evOpsD_n ?_ | ((with_reducible apply evOpsD_g); rfl)); intro K hK; simp (contextual := true) only [go_sem, simprocAttr]) | with_reducible refine evOps_nil ?_ | ((with_reducible refine evOpsD_nil ?_ ?_); kernel_rfl) | ((with_reducible refine hK _ ?_); clear hK K) | (with_reducible first | refine And.intro ?_ ?_ | refine nxt_n ?_ | refine nxt_r ?_ | refine nxt_e ?_ | refine blk_n ?_ | refine blk_r ?_ | refine blk_same ?_ | refine blk_other (by decide) ?_ | refine noG_n ?_ | refine noG_r ?_ | refine noG_e ?_ | refine inR_mk ?_ ?_) | (refine fun (hc : (_ : Bool) = _) => ?_; try simp only [hcS] at hc))
    all_goals try exact om_
    refine V_loopK (G := {j : Nat // j ≤ p.legs.length ∧ (True)}) (fun ⟨j, _⟩ => [(11, iv j), (9, iv k), (10, .v (.bool (dec (TriK g p q (C.getD k 0) j)))), (3, .ptr 0 0), (4, .ptr 1 0), (5, .ptr 2 0), (7, .sl 3), (8, .sl 4)]) [6] (fun ⟨j, _⟩ => [(3, ⟨1, .arr (ints C)⟩), (4, ⟨1, .arr (ints (cnMaps g p q C k))⟩)]) [3, 4] (fun zz => p.legs.length - zz.1) ⟨0, Nat.zero_le _, by trivial⟩ ?_ ?_
    · exact Imp.auto hX (by simp [go_sem, simprocAttr, tri_zero])
    rintro ⟨j, hij, hwj⟩
    simp only [go_sem, simprocAttr]
    rcases Nat.lt_or_ge j p.legs.length with hlj | hgj
    · by_cases hT : TriK g p q (C.getD k 0) j
      · have hq1 := hom_rng (qh j (by omega))
        have ht := sp_l02Then (c := g.tgt) (f := C.getD k 0) (g := q.legs.getD j 0) hu.1 r1.1 hq1.1 (by omega)
        have e1 := tri_succ hT
        repeat' (first | (exact absurd hT (by assumption)) | (exfalso; omega) | (with_reducible first | refine V_seq ?_ | refine V_block ?_ | refine V_skip ?_ | refine V_ret ?_ | refine V_exit ?_) | ((with_reducible refine V_cond ?_); simp only [go_sem, simprocAttr]) | ((first | refine V_region (by rw [hn]; rfl) ?_ | refine V_drawn hmix (by rw [hn]; rfl) ?_); intro K hK) | ((first | with_reducible refine evOps_n ?_ | ((with_reducible apply evOps_g); rfl) | with_reducible refine evOpsD_n ?_ | ((with_reducible apply evOpsD_g); rfl)); intro K hK; simp (contextual := true) only [go_sem, simprocAttr]) | with_reducible refine evOps_nil ?_ | ((with_reducible refine evOpsD_nil ?_ ?_); kernel_rfl) | ((with_reducible refine hK _ ?_); clear hK K) | (with_reducible first | refine And.intro ?_ ?_ | refine nxt_n ?_ | refine nxt_r ?_ | refine nxt_e ?_ | refine blk_n ?_ | refine blk_r ?_ | refine blk_same ?_ | refine blk_other (by decide) ?_ | refine noG_n ?_ | refine noG_r ?_ | refine noG_e ?_ | refine inR_mk ?_ ?_) | ((with_reducible refine evCall_at 76 ?_); refine EvCall.mk (ht) cal_l02Then [] [] (by simp [go_sem] <;> (repeat' (first | rfl | constructor))) (by simp [go_sem] <;> (repeat' (first | rfl | constructor))) ?_; all_goals try simp only [go_sem, simprocAttr]) | (refine fun (hc : (_ : Bool) = _) => ?_; try simp only [hcS] at hc))
        all_goals try exact om_
        · refine ⟨⟨j + 1, by omega, (by trivial)⟩, by simp only; omega, Imp.auto hX (by simp only [go_sem, simprocAttr, e1])⟩
      · have e1 := cnMaps_no (g := g) (p := p) (q := q) hlk (fun s => hT fun b hb => s b (by omega))
        repeat' (first | (exact absurd (by assumption) hT) | (exfalso; omega) | (with_reducible first | refine V_seq ?_ | refine V_block ?_ | refine V_skip ?_ | refine V_ret ?_ | refine V_exit ?_) | ((with_reducible refine V_cond ?_); simp only [go_sem, simprocAttr]) | ((first | refine V_region (by rw [hn]; rfl) ?_ | refine V_drawn hmix (by rw [hn]; rfl) ?_); intro K hK) | ((first | with_reducible refine evOps_n ?_ | ((with_reducible apply evOps_g); rfl) | with_reducible refine evOpsD_n ?_ | ((with_reducible apply evOpsD_g); rfl)); intro K hK; simp (contextual := true) only [go_sem, simprocAttr]) | with_reducible refine evOps_nil ?_ | ((with_reducible refine evOpsD_nil ?_ ?_); kernel_rfl) | ((with_reducible refine hK _ ?_); clear hK K) | (with_reducible first | refine And.intro ?_ ?_ | refine nxt_n ?_ | refine nxt_r ?_ | refine nxt_e ?_ | refine blk_n ?_ | refine blk_r ?_ | refine blk_same ?_ | refine blk_other (by decide) ?_ | refine noG_n ?_ | refine noG_r ?_ | refine noG_e ?_ | refine inR_mk ?_ ?_) | (refine fun (hc : (_ : Bool) = _) => ?_; try simp only [hcS] at hc))
        all_goals try exact om_
        · refine ⟨⟨k + 1, by omega, (by (trivial))⟩, by simp only; omega, Imp.auto hX (by simp only [go_sem, simprocAttr, e1])⟩
    · have ej : j = p.legs.length := by omega
      subst ej
      by_cases hT : TriK g p q (C.getD k 0) p.legs.length
      · have e1 := cnMaps_yes (g := g) (p := p) (q := q) hlk (fun b hb => hT b (by omega))
        repeat' (first | (exact absurd hT (by assumption)) | (exfalso; omega) | (with_reducible first | refine V_seq ?_ | refine V_block ?_ | refine V_skip ?_ | refine V_ret ?_ | refine V_exit ?_) | ((with_reducible refine V_cond ?_); simp only [go_sem, simprocAttr]) | ((first | refine V_region (by rw [hn]; rfl) ?_ | refine V_drawn hmix (by rw [hn]; rfl) ?_); intro K hK) | ((first | with_reducible refine evOps_n ?_ | ((with_reducible apply evOps_g); rfl) | with_reducible refine evOpsD_n ?_ | ((with_reducible apply evOpsD_g); rfl)); intro K hK; simp (contextual := true) only [go_sem, simprocAttr]) | with_reducible refine evOps_nil ?_ | ((with_reducible refine evOpsD_nil ?_ ?_); kernel_rfl) | ((with_reducible refine hK _ ?_); clear hK K) | (with_reducible first | refine And.intro ?_ ?_ | refine nxt_n ?_ | refine nxt_r ?_ | refine nxt_e ?_ | refine blk_n ?_ | refine blk_r ?_ | refine blk_same ?_ | refine blk_other (by decide) ?_ | refine noG_n ?_ | refine noG_r ?_ | refine noG_e ?_ | refine inR_mk ?_ ?_) | (refine fun (hc : (_ : Bool) = _) => ?_; try simp only [hcS] at hc))
        all_goals try exact om_
        · refine ⟨⟨k + 1, by omega, (by (trivial))⟩, by simp only; omega, Imp.auto hX (by simp only [go_sem, simprocAttr, e1])⟩
      · have e1 := cnMaps_no (g := g) (p := p) (q := q) hlk (fun s => hT fun b hb => s b (by omega))
        repeat' (first | (exact absurd (by assumption) hT) | (exfalso; omega) | (with_reducible first | refine V_seq ?_ | refine V_block ?_ | refine V_skip ?_ | refine V_ret ?_ | refine V_exit ?_) | ((with_reducible refine V_cond ?_); simp only [go_sem, simprocAttr]) | ((first | refine V_region (by rw [hn]; rfl) ?_ | refine V_drawn hmix (by rw [hn]; rfl) ?_); intro K hK) | ((first | with_reducible refine evOps_n ?_ | ((with_reducible apply evOps_g); rfl) | with_reducible refine evOpsD_n ?_ | ((with_reducible apply evOpsD_g); rfl)); intro K hK; simp (contextual := true) only [go_sem, simprocAttr]) | with_reducible refine evOps_nil ?_ | ((with_reducible refine evOpsD_nil ?_ ?_); kernel_rfl) | ((with_reducible refine hK _ ?_); clear hK K) | (with_reducible first | refine And.intro ?_ ?_ | refine nxt_n ?_ | refine nxt_r ?_ | refine nxt_e ?_ | refine blk_n ?_ | refine blk_r ?_ | refine blk_same ?_ | refine blk_other (by decide) ?_ | refine noG_n ?_ | refine noG_r ?_ | refine noG_e ?_ | refine inR_mk ?_ ?_) | (refine fun (hc : (_ : Bool) = _) => ?_; try simp only [hcS] at hc))
        all_goals try exact om_
        · refine ⟨⟨k + 1, by omega, (by (trivial))⟩, by simp only; omega, Imp.auto hX (by simp only [go_sem, simprocAttr, e1])⟩
  · have ek : k = C.length := by omega
    subst ek
    repeat' (first | (with_reducible first | refine V_seq ?_ | refine V_block ?_ | refine V_skip ?_ | refine V_ret ?_ | refine V_exit ?_) | ((with_reducible refine V_cond ?_); simp only [go_sem, simprocAttr]) | ((first | refine V_region (by rw [hn]; rfl) ?_ | refine V_drawn hmix (by rw [hn]; rfl) ?_); intro K hK) | ((first | with_reducible refine evOps_n ?_ | ((with_reducible apply evOps_g); rfl) | with_reducible refine evOpsD_n ?_ | ((with_reducible apply evOpsD_g); rfl)); intro K hK; simp (contextual := true) only [go_sem, simprocAttr]) | with_reducible refine evOps_nil ?_ | ((with_reducible refine evOpsD_nil ?_ ?_); kernel_rfl) | ((with_reducible refine hK _ ?_); clear hK K) | (with_reducible first | refine And.intro ?_ ?_ | refine nxt_n ?_ | refine nxt_r ?_ | refine nxt_e ?_ | refine blk_n ?_ | refine blk_r ?_ | refine blk_same ?_ | refine blk_other (by decide) ?_ | refine noG_n ?_ | refine noG_r ?_ | refine noG_e ?_ | refine inR_mk ?_ ?_) | (refine fun (hc : (_ : Bool) = _) => ?_; try simp only [hcS] at hc))
    all_goals try exact om_
    · (first | refine ret_auto ?_ | refine ret_auto' ?_); simp only [go_sem, simprocAttr, Tryz.f53]
theorem cal_l12Universal : Callable Tryz.prog 34 := ⟨_, Tryz.func34, rfl, rfl⟩
theorem sp_l12Universal {g : Fun} {all : List Cone} {p : Cone} (hg : IsFun g) (ha : ∀ i, i < all.length → ConOK g (all.getD i default)) (hl : all.length ≤ 1048576) (hp : ConOK g p) : Spec Tryz.prog 34 [funV g, .bor [] (conesD all), .agg [iv p.apex, .bor [] (ints p.legs)]] [] (bv (dec (UnP g all p))) [] := by
  refine spec_of_V (E := TE) 0 Tryz.func34 rfl (by simp [Tryz.f34]) fun X hn hX => ?_
  have m40 := hg.tgt.toShape.m40
  repeat' (first | (with_reducible first | refine V_seq ?_ | refine V_block ?_ | refine V_skip ?_ | refine V_ret ?_ | refine V_exit ?_) | ((with_reducible refine V_cond ?_); simp only [go_sem, simprocAttr]) | ((first | refine V_region (by rw [hn]; rfl) ?_ | refine V_drawn hmix (by rw [hn]; rfl) ?_); intro K hK) | ((first | with_reducible refine evOps_n ?_ | ((with_reducible apply evOps_g); rfl) | with_reducible refine evOpsD_n ?_ | ((with_reducible apply evOpsD_g); rfl)); intro K hK; simp (contextual := true) only [go_sem, simprocAttr]) | with_reducible refine evOps_nil ?_ | ((with_reducible refine evOpsD_nil ?_ ?_); kernel_rfl) | ((with_reducible refine hK _ ?_); clear hK K) | (with_reducible first | refine And.intro ?_ ?_ | refine nxt_n ?_ | refine nxt_r ?_ | refine nxt_e ?_ | refine blk_n ?_ | refine blk_r ?_ | refine blk_same ?_ | refine blk_other (by decide) ?_ | refine noG_n ?_ | refine noG_r ?_ | refine noG_e ?_ | refine inR_mk ?_ ?_) | (refine fun (hc : (_ : Bool) = _) => ?_; try simp only [hcS] at hc))
  all_goals try exact om_
  refine V_loopK (G := {i : Nat // i ≤ all.length ∧ (∀ z, z < i → cnMapN g (all.getD z default) p = 1)}) (fun ⟨i, _⟩ => [(7, iv i), (3, .ptr 0 0), (5, .ptr 1 0)]) [1] (fun ⟨i, _⟩ => []) [] (fun zz => all.length - zz.1) ⟨0, Nat.zero_le _, by exact (fun b hb => absurd hb (Nat.not_lt_zero b))⟩ ?_ ?_
  · exact Imp.au hX
  rintro ⟨i, hii, hwi⟩
  simp only [go_sem, simprocAttr]
  rcases Nat.lt_or_ge i all.length with hli | hgi
  · have hpt := cones_part all i hli
    have hcm := sp_l12Maps hg (ha i hli) hp
    have hcl : (cnMaps g (all.getD i default) p (g.tgt.hom (all.getD i default).apex p.apex) (g.tgt.hom (all.getD i default).apex p.apex).length).length = cnMapN g (all.getD i default) p := rfl
    repeat' (first | (rw [hpt]; simp only [go_sem, simprocAttr]) | (with_reducible first | refine V_seq ?_ | refine V_block ?_ | refine V_skip ?_ | refine V_ret ?_ | refine V_exit ?_) | ((with_reducible refine V_cond ?_); simp only [go_sem, simprocAttr]) | ((first | refine V_region (by rw [hn]; rfl) ?_ | refine V_drawn hmix (by rw [hn]; rfl) ?_); intro K hK) | ((first | with_reducible refine evOps_n ?_ | ((with_reducible apply evOps_g); rfl) | with_reducible refine evOpsD_n ?_ | ((with_reducible apply evOpsD_g); rfl)); intro K hK; simp (contextual := true) only [go_sem, simprocAttr]) | with_reducible refine evOps_nil ?_ | ((with_reducible refine evOpsD_nil ?_ ?_); kernel_rfl) | ((with_reducible refine hK _ ?_); clear hK K) | (with_reducible first | refine And.intro ?_ ?_ | refine nxt_n ?_ | refine nxt_r ?_ | refine nxt_e ?_ | refine blk_n ?_ | refine blk_r ?_ | refine blk_same ?_ | refine blk_other (by decide) ?_ | refine noG_n ?_ | refine noG_r ?_ | refine noG_e ?_ | refine inR_mk ?_ ?_) | ((with_reducible refine evCall_at 53 ?_); refine EvCall.mk (hcm) cal_l12Maps [(0,2)] [] (by simp [go_sem] <;> (repeat' (first | rfl | constructor))) (by simp [go_sem] <;> (repeat' (first | rfl | constructor))) ?_; all_goals try simp only [go_sem, simprocAttr]) | (refine fun (hc : (_ : Bool) = _) => ?_; try simp only [hcS] at hc))
    all_goals try exact om_
    · (first | refine ret_auto ?_ | refine ret_auto' ?_); simp only [go_sem, simprocAttr, Tryz.f34]
      exact bv_f fun s => hc (by rw [hcl, s i hli]; rfl)
    · refine ⟨⟨i + 1, by omega, (by exact all_legs (P := fun z => cnMapN g (all.getD z default) p = 1) hwi (by have h := hc; rw [hcl] at h; show cnMapN g (all.getD i default) p = 1; omega))⟩, by simp only; omega, Imp.ao hX⟩
  · have ei : i = all.length := by omega
    subst ei
    repeat' (first | (with_reducible first | refine V_seq ?_ | refine V_block ?_ | refine V_skip ?_ | refine V_ret ?_ | refine V_exit ?_) | ((with_reducible refine V_cond ?_); simp only [go_sem, simprocAttr]) | ((first | refine V_region (by rw [hn]; rfl) ?_ | refine V_drawn hmix (by rw [hn]; rfl) ?_); intro K hK) | ((first | with_reducible refine evOps_n ?_ | ((with_reducible apply evOps_g); rfl) | with_reducible refine evOpsD_n ?_ | ((with_reducible apply evOpsD_g); rfl)); intro K hK; simp (contextual := true) only [go_sem, simprocAttr]) | with_reducible refine evOps_nil ?_ | ((with_reducible refine evOpsD_nil ?_ ?_); kernel_rfl) | ((with_reducible refine hK _ ?_); clear hK K) | (with_reducible first | refine And.intro ?_ ?_ | refine nxt_n ?_ | refine nxt_r ?_ | refine nxt_e ?_ | refine blk_n ?_ | refine blk_r ?_ | refine blk_same ?_ | refine blk_other (by decide) ?_ | refine noG_n ?_ | refine noG_r ?_ | refine noG_e ?_ | refine inR_mk ?_ ?_) | (refine fun (hc : (_ : Bool) = _) => ?_; try simp only [hcS] at hc))
    all_goals try exact om_
    · (first | refine ret_auto ?_ | refine ret_auto' ?_); simp only [go_sem, simprocAttr, Tryz.f34]
      exact bv_t hwi
theorem cal_l14Image : Callable Tryz.prog 35 := ⟨_, Tryz.func35, rfl, rfl⟩
theorem sp_l14Image {e f : Fun} {p : Cone} (he : Fits e) (h8 : e.obs.length ≤ 8) (hf : IsFun f) (st : e.tgt = f.src) (h : ConOK e p) : Spec Tryz.prog 35 [.agg [iv p.apex, .bor [] (ints p.legs)], funV f] [] (.agg [iv (imC f p).apex, .sl 0]) [(0, ⟨1, .arr (ints (imC f p).legs)⟩)] := by
  refine spec_of_V (E := TE) 0 Tryz.func35 rfl (by simp [Tryz.f35]) fun X hn hX => ?_
  have a0 := h.a0
  have a1 := h.a1
  rw [st] at a1
  have ll := h.ll
  have eo := he.obl
  have fo := hf.fits.obl
  have fa := hf.fits.arl
  have s40 := hf.src.toShape.m40
  have hth := sp_l01Then (f := p.legs) (g := f.ars) (by omega) (by omega) (fun j hj => by
    have h1 := hom_rng (h.hom j (by omega))
    rw [st] at h1
    omega)
  repeat' (first | (with_reducible first | refine V_seq ?_ | refine V_skip ?_ | refine V_ret ?_) | ((with_reducible refine V_cond ?_); simp only [go_sem, simprocAttr]) | ((first | refine V_region (by rw [hn]; rfl) ?_ | refine V_drawn hmix (by rw [hn]; rfl) ?_); intro K hK) | ((first | with_reducible refine evOps_n ?_ | ((with_reducible apply evOps_g); rfl) | with_reducible refine evOpsD_n ?_ | ((with_reducible apply evOpsD_g); rfl)); intro K hK; simp (contextual := true) only [go_sem, simprocAttr]) | with_reducible refine evOps_nil ?_ | ((with_reducible refine evOpsD_nil ?_ ?_); kernel_rfl) | ((with_reducible refine hK _ ?_); clear hK K) | (with_reducible first | refine And.intro ?_ ?_ | refine nxt_n ?_ | refine nxt_r ?_ | refine inR_mk ?_ ?_) | ((with_reducible refine evCall_at 37 ?_); refine EvCall.mk (hth) cal_l01Then [(0,3)] [] (by simp [go_sem] <;> (repeat' (first | rfl | constructor))) (by simp [go_sem] <;> (repeat' (first | rfl | constructor))) ?_; all_goals try simp only [go_sem, simprocAttr]) | (refine fun (hc : (_ : Bool) = _) => ?_; try simp only [hcS] at hc))
  all_goals try exact om_
  · (first | refine ret_auto ?_ | refine ret_auto' ?_); simp only [go_sem, simprocAttr, Tryz.f35]
    exact ⟨rfl, rfl⟩
end Go.Eng
end
