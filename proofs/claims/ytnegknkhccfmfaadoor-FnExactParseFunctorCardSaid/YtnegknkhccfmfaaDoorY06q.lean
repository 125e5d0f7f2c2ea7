/- Functors read from texts, by the program. -/
import Derived.Test.YtnegknkhccfmfaaDoorY05q
import Derived.Test.YtnegknkhccfmfaaDoorC18q
import Derived.Test.YtnegknkhccfmfaaDoorKalx
set_option linter.unusedSimpArgs false
set_option linter.unusedVariables false
set_option maxRecDepth 100000
set_option maxHeartbeats 16000000
namespace Go.Eng
open Go Go.Proofs Go.Cats
theorem SpecR.adopt {P : Program} {f : FuncId} {args : List Sv} {r r' : Sv} {L1 : List (Nat × Rs)} {R : World → (Nat → Prop) → Prop} (h : SpecR P f args [] r [] R) (hL : EmptyL L1)
    (hr : ∀ (w : World) (S : Nat → Prop) (v : Value) (c : Nat → Cn), r.ok w S c (rsL []) v → r'.ok w S (fun _ => ⟨0, .slice none 0 0, fun _ => False⟩) (rsL L1) v) : SpecR P f args [] r' L1 R := by
  intro w0 U S c0 vs hR hp ha
  refine (h w0 U S c0 vs hR hp ha).mono fun e w' ⟨v, c1, he, hp1, hv, _⟩ => ⟨v, fun _ => ⟨0, .slice none 0 0, fun _ => False⟩, he, ?_, hr _ _ _ _ hv, fun i hi => by simp [rsL_nil] at hi⟩
  refine ⟨hp1.os, hp1.tape, hp1.output, hp1.size, hp1.unch, hp1.sub, hp1.ult, fun i => ?_, fun i b hb => hb.elim, fun i b hb => hb.elim, fun i j b _ hb => hb.elim, fun i => rfl⟩
  rcases emptyL_get hL i with e | ⟨sz, df, h0, e⟩
  · rw [e]; exact fun b hb => hb
  · rw [e]
    refine ⟨?_, fun _ _ _ hh => by cases hh⟩
    simp [OwV, h0]
def LO (s : Bts) (x : Value) (l : List Int) (e : Value) : Prop := (LsO s ∧ l = numsT s ∧ e = .nilIface) ∨ (¬ LsO s ∧ l = [] ∧ e = x)
theorem LO.ex (s : Bts) (x : Value) : ∃ l e, LO s x l e := by
  by_cases h : LsO s
  · exact ⟨_, _, .inl ⟨h, rfl, rfl⟩⟩
  · exact ⟨_, _, .inr ⟨h, rfl, rfl⟩⟩
theorem joinT_len {c : UInt8} : ∀ {x : List Bts}, (∀ w ∈ x, 0 < w.length) → 2 * x.length ≤ (joinT c x).length
  | [], _ => by simp
  | w :: r, h => by
    have h1 := joinT_len (c := c) (x := r) fun v hv => h v (by simp [hv])
    have h2 := h w (by simp)
    simp only [joinT, List.length_cons, List.length_append]
    omega
theorem LsO.len {s : Bts} (hl : s.length ≤ 1048576) (h : LsO s) : (numsT s).length ≤ 1048576 := by
  unfold LsO at h
  unfold numsT
  rw [List.length_map]
  unfold wordsT at h ⊢
  split
  · simp
  · rename_i hs
    rw [if_neg hs] at h
    have h1 := joinT_len (c := 32) (x := spl 32 s) fun w hw => (h w hw).ref.pos
    rw [joinT_spl] at h1
    simp only [List.length_cons] at h1
    omega
theorem LO.len {s : Bts} {x e : Value} {l : List Int} (hl : s.length ≤ 1048576) (h : LO s x l e) : l.length ≤ 1048576 := by
  rcases h with ⟨h, rfl, _⟩ | ⟨_, rfl, _⟩
  · exact h.len hl
  · simp
theorem sp_list_o {x e : Value} {s : Bts} {l : List Int} (hx : ∃ q z, x = .iface q z) (hl : s.length ≤ 1048576) (ho : LO s x l e) : SpecR Tryd.prog 25 [.v (bst s)] [] (.tup [.sl 0, .v e]) [(0, ⟨1, .arr (ints l)⟩)] (ErR x) := by
  obtain ⟨q, z, hx⟩ := hx
  rcases ho with ⟨h, rfl, rfl⟩ | ⟨h, rfl, rfl⟩
  · by_cases hs : s = [45]
    · exact sp_list_dash hs
    · exact sp_list_yes (.inr ⟨q, z, hx⟩) hl hs h
  · have hs : ¬ s = [45] := fun hs => h fun w hw => by unfold wordsT at hw; rw [if_pos hs] at hw; simp at hw
    refine SpecR.adopt (sp_list_no (u := .nilIface) hx hl hs h) (emptyL_cons_i emptyL_nil) fun w S v cn h => ?_
    simp only [Sv.ok, Sv.okL] at h ⊢
    obtain ⟨vs, rfl, y, r, rfl, hu, hr⟩ := h
    exact ⟨_, rfl, _, _, rfl, ⟨Nat.le_refl 1, hu⟩, hr⟩
theorem cal_strings_Cut : Callable Tryd.prog 24 := ⟨_, Tryd.func24, rfl, rfl⟩
theorem sp_strings_Cut {x : Value} {s : Bts} (hl : s.length ≤ 1048576) : SpecR Tryd.prog 24 [.v (bst s), .v (bst bar)] [] (.tup [.v (bst (Lib.cut s bar).1), .v (bst (Lib.cut s bar).2.1), .v (.bool (Lib.cut s bar).2.2)]) [] (ErR x) :=
  specR_cut (P := Tryd.prog) (f := 24) (g1 := 1) (R := ErR x) (s := s) (sep := bar) ErR.m (fun s sep m w a b => Tryd.strings_Cut s sep m w a b) (by omega)
theorem cut_len {s : Bts} : (Lib.cut s bar).1.length ≤ s.length ∧ (Lib.cut s bar).2.1.length ≤ s.length := by
  unfold Lib.cut
  split
  · simp only [List.length_take, List.length_drop]; omega
  · simp
theorem view0L_catC (c : Cat) {V : List Nat} {rs : Nat → Rs} : view0L V rs [iv c.ob, .bor [] (ints c.fr), .bor [] (ints c.to), .bor [] (ints c.id), .bor [] (intss c.co)] (catD c) :=
  ⟨_, _, rfl, .inl rfl, _, _, rfl, ⟨rfl, tagV_nil _, fun p hp => by cases hp⟩, _, _, rfl, ⟨rfl, tagV_nil _, fun p hp => by cases hp⟩, _, _, rfl, ⟨rfl, tagV_nil _, fun p hp => by cases hp⟩, _, _, rfl, ⟨rfl, tagV_nil _, fun p hp => by cases hp⟩, rfl⟩
theorem Imp.lendC {X : Cx} {σ : Ss} (k i cv : Nat) (c : Cat) (hk : lk σ.tm k = .ptr i 0) (hi : rsL σ.rs i = ⟨cv, .box [iv c.ob, .bor [] (ints c.fr), .bor [] (ints c.to), .bor [] (ints c.id), .bor [] (intss c.co)]⟩) (hcv : 1 ≤ cv) : Imp X σ ⟨(k, .bptr [(i, cv)] (catD c)) :: σ.tm, σ.rs, σ.nx⟩ := by
  have h := Imp.lendPtr (X := X) (σ := σ) k i 0 (catD c) [i] hk ⟨List.mem_singleton.2 rfl, .inl ⟨_, by rw [hi], view0L_catC c⟩⟩ (fun j hj => by rw [List.mem_singleton.1 hj, hi]; exact hcv)
  rw [List.map_cons, List.map_nil, hi] at h
  exact h
theorem cal_ParseFunctor : Callable Tryd.prog 7 := ⟨_, Tryd.func7, rfl, rfl⟩
theorem sp_ParseFunctor_bad {c d : Cat} {x : Value} {t : Bts} (bc : CatB c) (bd : CatB d) (h : ¬ (IsCat c ∧ IsCat d)) : SpecR Tryd.prog 7 [catV c, catV d, .v (bst t)] [] (.tup [.agg [iv 0, .v (.slice none 0 0), .v (.slice none 0 0), .v (.slice none 0 0), .v (.slice none 0 0), iv 0, .v (.slice none 0 0), .v (.slice none 0 0), .v (.slice none 0 0), .v (.slice none 0 0), .v (.slice none 0 0), .v (.slice none 0 0)], iv 1]) [] (ErR x) := by
  have v1 := dec_f h
  have sp_areCategories_loc := sp_areCategories_two bc bd
  rw [v1] at sp_areCategories_loc
  refine specR_of_V (E := TE) 0 Tryd.func7 rfl (by simp [Tryd.f7]) fun X hn hX hG => ?_
  repeat' (first | (refine V_at 1 (Imp.trans (Imp.lendC 3 0 1 c rfl rfl (Nat.le_refl 1)) (Imp.lendC 4 1 1 d rfl rfl (Nat.le_refl 1))) ?_; simp only [go_sem, simprocAttr]) | (with_reducible first | refine V_seq ?_ | refine V_skip ?_ | refine V_ret ?_) | ((with_reducible refine V_cond ?_); simp only [go_sem, simprocAttr]) | ((refine V_region (by rw [hn]; rfl) ?_); intro K hK) | ((first | with_reducible refine evOps_n ?_ | ((with_reducible apply evOps_g); rfl)); intro K hK; simp (contextual := true) only [go_sem, simprocAttr]) | with_reducible refine evOps_nil ?_ | ((with_reducible refine hK _ ?_); clear hK K) | (with_reducible first | refine And.intro ?_ ?_ | refine nxt_n ?_ | refine nxt_r ?_ | refine inR_mk ?_ ?_) | ((with_reducible refine evCall_at 23 ?_); refine EvCall.rq (a := (sp_areCategories_loc)) (b := cal_areCategories) (c := ?_); all_goals try simp only [go_sem, simprocAttr]) | (refine fun (hc : (_ : Bool) = _) => ?_; try simp only [hcS] at hc))
  all_goals try exact om_
  all_goals ((first | refine ret_auto ?_ | refine ret_auto' ?_); simp only [go_sem, simprocAttr, Tryd.f7])
theorem sp_ParseFunctor_yes {c d : Cat} {x : Value} {t : Bts} (hx : ∃ q z, x = .iface q z) (bc : CatB c) (bd : CatB d) (hl : t.length ≤ 1048576) (sc : IsCat c) (sd : IsCat d) (h : PrgF c d t) : SpecR Tryd.prog 7 [catV c, catV d, .v (bst t)] [] (.tup [.agg [iv (Fun.mk c d (numsT (Lib.cut t bar).1) (numsT (Lib.cut t bar).2.1)).src.ob, .sl 0, .sl 1, .sl 2, .sl 3, iv (Fun.mk c d (numsT (Lib.cut t bar).1) (numsT (Lib.cut t bar).2.1)).tgt.ob, .sl 4, .sl 5, .sl 6, .sl 7, .sl 8, .sl 9], iv 0]) [(0, ⟨1, .arr (ints (Fun.mk c d (numsT (Lib.cut t bar).1) (numsT (Lib.cut t bar).2.1)).src.fr)⟩), (1, ⟨1, .arr (ints (Fun.mk c d (numsT (Lib.cut t bar).1) (numsT (Lib.cut t bar).2.1)).src.to)⟩), (2, ⟨1, .arr (ints (Fun.mk c d (numsT (Lib.cut t bar).1) (numsT (Lib.cut t bar).2.1)).src.id)⟩), (3, ⟨1, .arr (intss (Fun.mk c d (numsT (Lib.cut t bar).1) (numsT (Lib.cut t bar).2.1)).src.co)⟩), (4, ⟨1, .arr (ints (Fun.mk c d (numsT (Lib.cut t bar).1) (numsT (Lib.cut t bar).2.1)).tgt.fr)⟩), (5, ⟨1, .arr (ints (Fun.mk c d (numsT (Lib.cut t bar).1) (numsT (Lib.cut t bar).2.1)).tgt.to)⟩), (6, ⟨1, .arr (ints (Fun.mk c d (numsT (Lib.cut t bar).1) (numsT (Lib.cut t bar).2.1)).tgt.id)⟩), (7, ⟨1, .arr (intss (Fun.mk c d (numsT (Lib.cut t bar).1) (numsT (Lib.cut t bar).2.1)).tgt.co)⟩), (8, ⟨1, .arr (ints (Fun.mk c d (numsT (Lib.cut t bar).1) (numsT (Lib.cut t bar).2.1)).obs)⟩), (9, ⟨1, .arr (ints (Fun.mk c d (numsT (Lib.cut t bar).1) (numsT (Lib.cut t bar).2.1)).ars)⟩)] (ErR x) := by
  have v1 := dec_t (And.intro sc sd)
  have sp_areCategories_loc := sp_areCategories_two bc bd
  rw [v1] at sp_areCategories_loc
  obtain ⟨k1, k2⟩ := cut_len (s := t)
  have hcut := sp_strings_Cut (x := x) hl
  rw [h.found] at hcut
  obtain ⟨A, hA⟩ : ∃ A, (Lib.cut t bar).1 = A := ⟨_, rfl⟩
  obtain ⟨B, hB⟩ : ∃ B, (Lib.cut t bar).2.1 = B := ⟨_, rfl⟩
  have h1 := h.one
  have h2 := h.two
  have h3 := h.fn
  rw [hA] at k1 h1 h3 hcut ⊢
  rw [hB] at k2 h2 h3 hcut ⊢
  have l1 := sp_list_o hx (by omega) (.inl ⟨h1, rfl, rfl⟩ : LO A x (numsT A) .nilIface)
  have l2 := sp_list_o hx (by omega) (.inl ⟨h2, rfl, rfl⟩ : LO B x (numsT B) .nilIface)
  have n1 := h3.fits.obl
  have n2 := h3.fits.arl
  have o1 := sc.toShape.ob8
  have o2 := sc.toShape.m40
  simp only at n1 n2
  have fb : FunB ⟨c, d, numsT A, numsT B⟩ := ⟨bc, bd, by simp only; omega, by simp only; omega⟩
  have sp_Functor_isFunctor_loc := sp_Functor_isFunctor fb
  rw [dec_t h3] at sp_Functor_isFunctor_loc
  refine specR_of_V (E := TE) 0 Tryd.func7 rfl (by simp [Tryd.f7]) fun X hn hX hG => ?_
  have hrd : RdOk X (ErR x) := GlR.ok hG
  repeat' (first | (refine V_at 1 (Imp.trans (Imp.lendC 3 0 1 c rfl rfl (Nat.le_refl 1)) (Imp.lendC 4 1 1 d rfl rfl (Nat.le_refl 1))) ?_; simp only [go_sem, simprocAttr]) | (refine (id ?_ : V _ _ (Code.region 3 _ _) _ _); refine V_regionX (by rw [hn]; rfl) ?_; intro K hK) | (refine (id ?_ : V _ _ (Code.region 4 _ _) _ _); refine V_regionX (by rw [hn]; rfl) ?_; intro K hK) | (refine (id ?_ : V _ _ (Code.region 5 _ _) _ _); refine V_regionX (by rw [hn]; rfl) ?_; intro K hK) | (refine evOpsX_h ?_; intro K hK; refine HkX.callR (x := .func 24) (args := #[.tmp 21, .const (bst bar)]) (f := 24) (caps := []) hrd hcut cal_strings_Cut [] [] (by simp only [go_sem, simprocAttr]) (by simp [go_sem] <;> first | rfl | exact ⟨rfl, rfl⟩ | exact ⟨rfl, rfl, rfl⟩) (by simp [go_sem] <;> first | rfl | exact ⟨rfl, rfl⟩ | exact ⟨rfl, rfl, rfl⟩) ?_; all_goals try simp only [go_sem, simprocAttr]) | (refine evOpsX_h ?_; intro K hK; refine HkX.callR (x := .func 25) (args := #[.tmp 27]) (f := 25) (caps := []) hrd l1 cal_list [(0,4)] [] (by simp only [go_sem, simprocAttr]) (by simp [go_sem] <;> first | rfl | exact ⟨rfl, rfl⟩ | exact ⟨rfl, rfl, rfl⟩) (by simp [go_sem] <;> first | rfl | exact ⟨rfl, rfl⟩ | exact ⟨rfl, rfl, rfl⟩) ?_; all_goals try simp only [go_sem, simprocAttr]) | (refine evOpsX_h ?_; intro K hK; refine HkX.callR (x := .func 25) (args := #[.tmp 32]) (f := 25) (caps := []) hrd l2 cal_list [(0,5)] [] (by simp only [go_sem, simprocAttr]) (by simp [go_sem] <;> first | rfl | exact ⟨rfl, rfl⟩ | exact ⟨rfl, rfl, rfl⟩) (by simp [go_sem] <;> first | rfl | exact ⟨rfl, rfl⟩ | exact ⟨rfl, rfl, rfl⟩) ?_; all_goals try simp only [go_sem, simprocAttr]) | ((with_reducible refine evOpsX_n ?_); intro K hK; simp (contextual := true) only [go_sem, simprocAttr]) | (with_reducible refine evOpsX_nil ?_) | (with_reducible first | refine V_seq ?_ | refine V_skip ?_ | refine V_ret ?_) | ((with_reducible refine V_cond ?_); simp only [go_sem, simprocAttr]) | ((refine V_region (by rw [hn]; rfl) ?_); intro K hK) | ((first | with_reducible refine evOps_n ?_ | ((with_reducible apply evOps_g); rfl)); intro K hK; simp (contextual := true) only [go_sem, simprocAttr]) | with_reducible refine evOps_nil ?_ | ((with_reducible refine hK _ ?_); clear hK K) | (with_reducible first | refine And.intro ?_ ?_ | refine nxt_n ?_ | refine nxt_r ?_ | refine inR_mk ?_ ?_) | ((with_reducible refine evCall_at 23 ?_); refine EvCall.rq (a := (sp_areCategories_loc)) (b := cal_areCategories) (c := ?_); all_goals try simp only [go_sem, simprocAttr]) | ((with_reducible refine evCall_at 26 ?_); refine EvCall.rq (a := (sp_functor (c:=c) (d:=d) (p:=numsT A) (q:=numsT B) ?_ ?_ ?_ ?_)) (b := cal_functor) (c := ?_); all_goals try simp only [go_sem, simprocAttr]) | ((with_reducible refine evCall_at 27 ?_); refine EvCall.rq (a := (sp_Functor_isFunctor_loc)) (b := cal_Functor_isFunctor) (c := ?_); all_goals try simp only [go_sem, simprocAttr]) | (refine hook_ene (x := .tmp 42) (v := .nilIface) Tryd.underlying55 (by simp only [go_sem, simprocAttr]) (.inl rfl) ?_; simp only [go_sem, simprocAttr, isErr]) | (refine hook_ene (x := .tmp 46) (v := .nilIface) Tryd.underlying55 (by simp only [go_sem, simprocAttr]) (.inl rfl) ?_; simp only [go_sem, simprocAttr, isErr]) | (refine fun (hc : (_ : Bool) = _) => ?_; try simp only [hcS] at hc))
  all_goals try exact om_
  (first | refine ret_auto ?_ | refine ret_auto' ?_); simp only [go_sem, simprocAttr, Tryd.f7]
theorem isErr_x {x : Value} (hx : ∃ q z, x = .iface q z) : isErr x = true := by
  obtain ⟨q, z, rfl⟩ := hx
  rfl
theorem sp_ParseFunctor_no {c d : Cat} {x : Value} {t : Bts} (hx : ∃ q z, x = .iface q z) (bc : CatB c) (bd : CatB d) (hl : t.length ≤ 1048576) (sc : IsCat c) (sd : IsCat d) (h : ¬ PrgF c d t) : SpecR Tryd.prog 7 [catV c, catV d, .v (bst t)] [] (.tup [.agg [iv 0, .v (.slice none 0 0), .v (.slice none 0 0), .v (.slice none 0 0), .v (.slice none 0 0), iv 0, .v (.slice none 0 0), .v (.slice none 0 0), .v (.slice none 0 0), .v (.slice none 0 0), .v (.slice none 0 0), .v (.slice none 0 0)], iv 6]) [] (ErR x) := by
  have v1 := dec_t (And.intro sc sd)
  have sp_areCategories_loc := sp_areCategories_two bc bd
  rw [v1] at sp_areCategories_loc
  obtain ⟨k1, k2⟩ := cut_len (s := t)
  have hcut := sp_strings_Cut (x := x) hl
  have hxe := isErr_x hx
  obtain ⟨q, z, hxq⟩ := hx
  have hx2 : x = .nilIface ∨ ∃ u z, x = .iface u z := .inr ⟨q, z, hxq⟩
  have hx : ∃ q z, x = .iface q z := ⟨q, z, hxq⟩
  obtain ⟨A, hA⟩ : ∃ A, (Lib.cut t bar).1 = A := ⟨_, rfl⟩
  obtain ⟨B, hB⟩ : ∃ B, (Lib.cut t bar).2.1 = B := ⟨_, rfl⟩
  obtain ⟨b, hb⟩ : ∃ b, (Lib.cut t bar).2.2 = b := ⟨_, rfl⟩
  have hno : b = true → LsO A → LsO B → ¬ IsFun ⟨c, d, numsT A, numsT B⟩ := fun h0 h1 h2 h3 => h ⟨by rw [hb]; exact h0, by rw [hA]; exact h1, by rw [hB]; exact h2, by rw [hA, hB]; exact h3⟩
  rw [hA] at k1 hcut
  rw [hB] at k2 hcut
  rw [hb] at hcut
  obtain ⟨p, e1, hp⟩ := LO.ex A x
  obtain ⟨r, e2, hr⟩ := LO.ex B x
  have l1 := sp_list_o hx (by omega) hp
  have l2 := sp_list_o hx (by omega) hr
  have n1 := hp.len (by omega)
  have n2 := hr.len (by omega)
  have fb : FunB ⟨c, d, p, r⟩ := ⟨bc, bd, n1, n2⟩
  have sp_Functor_isFunctor_loc := sp_Functor_isFunctor fb
  refine specR_of_V (E := TE) 0 Tryd.func7 rfl (by simp [Tryd.f7]) fun X hn hX hG => ?_
  have hrd : RdOk X (ErR x) := GlR.ok hG
  cases b with
  | false =>
    repeat' (first | (refine V_at 1 (Imp.trans (Imp.lendC 3 0 1 c rfl rfl (Nat.le_refl 1)) (Imp.lendC 4 1 1 d rfl rfl (Nat.le_refl 1))) ?_; simp only [go_sem, simprocAttr]) | (refine (id ?_ : V _ _ (Code.region 3 _ _) _ _); refine V_regionX (by rw [hn]; rfl) ?_; intro K hK) | (refine (id ?_ : V _ _ (Code.region 4 _ _) _ _); refine V_regionX (by rw [hn]; rfl) ?_; intro K hK) | (refine (id ?_ : V _ _ (Code.region 5 _ _) _ _); refine V_regionX (by rw [hn]; rfl) ?_; intro K hK) | (refine evOpsX_h ?_; intro K hK; refine HkX.callR (x := .func 24) (args := #[.tmp 21, .const (bst bar)]) (f := 24) (caps := []) hrd hcut cal_strings_Cut [] [] (by simp only [go_sem, simprocAttr]) (by simp [go_sem] <;> first | rfl | exact ⟨rfl, rfl⟩ | exact ⟨rfl, rfl, rfl⟩) (by simp [go_sem] <;> first | rfl | exact ⟨rfl, rfl⟩ | exact ⟨rfl, rfl, rfl⟩) ?_; all_goals try simp only [go_sem, simprocAttr]) | (refine evOpsX_h ?_; intro K hK; refine HkX.callR (x := .func 25) (args := #[.tmp 27]) (f := 25) (caps := []) hrd l1 cal_list [(0,4)] [] (by simp only [go_sem, simprocAttr]) (by simp [go_sem] <;> first | rfl | exact ⟨rfl, rfl⟩ | exact ⟨rfl, rfl, rfl⟩) (by simp [go_sem] <;> first | rfl | exact ⟨rfl, rfl⟩ | exact ⟨rfl, rfl, rfl⟩) ?_; all_goals try simp only [go_sem, simprocAttr]) | (refine evOpsX_h ?_; intro K hK; refine HkX.callR (x := .func 25) (args := #[.tmp 32]) (f := 25) (caps := []) hrd l2 cal_list [(0,5)] [] (by simp only [go_sem, simprocAttr]) (by simp [go_sem] <;> first | rfl | exact ⟨rfl, rfl⟩ | exact ⟨rfl, rfl, rfl⟩) (by simp [go_sem] <;> first | rfl | exact ⟨rfl, rfl⟩ | exact ⟨rfl, rfl, rfl⟩) ?_; all_goals try simp only [go_sem, simprocAttr]) | ((with_reducible refine evOpsX_n ?_); intro K hK; simp (contextual := true) only [go_sem, simprocAttr]) | (with_reducible refine evOpsX_nil ?_) | (with_reducible first | refine V_seq ?_ | refine V_skip ?_ | refine V_ret ?_) | ((with_reducible refine V_cond ?_); simp only [go_sem, simprocAttr]) | ((refine V_region (by rw [hn]; rfl) ?_); intro K hK) | ((first | with_reducible refine evOps_n ?_ | ((with_reducible apply evOps_g); rfl)); intro K hK; simp (contextual := true) only [go_sem, simprocAttr]) | with_reducible refine evOps_nil ?_ | ((with_reducible refine hK _ ?_); clear hK K) | (with_reducible first | refine And.intro ?_ ?_ | refine nxt_n ?_ | refine nxt_r ?_ | refine inR_mk ?_ ?_) | ((with_reducible refine evCall_at 23 ?_); refine EvCall.rq (a := (sp_areCategories_loc)) (b := cal_areCategories) (c := ?_); all_goals try simp only [go_sem, simprocAttr]) | ((with_reducible refine evCall_at 26 ?_); refine EvCall.rq (a := (sp_functor (c:=c) (d:=d) (p:=p) (q:=r) ?_ ?_ ?_ ?_)) (b := cal_functor) (c := ?_); all_goals try simp only [go_sem, simprocAttr]) | (refine fun (hc : (_ : Bool) = _) => ?_; try simp only [hcS] at hc))
    all_goals try exact om_
    (first | refine ret_auto ?_ | refine ret_auto' ?_); simp only [go_sem, simprocAttr, Tryd.f7]
  | true =>
    rcases hp with ⟨h1, rfl, rfl⟩ | ⟨h1, rfl, rfl⟩
    · rcases hr with ⟨h2, rfl, rfl⟩ | ⟨h2, rfl, rfl⟩
      · rw [dec_f (hno rfl h1 h2)] at sp_Functor_isFunctor_loc
        repeat' (first | (refine V_at 1 (Imp.trans (Imp.lendC 3 0 1 c rfl rfl (Nat.le_refl 1)) (Imp.lendC 4 1 1 d rfl rfl (Nat.le_refl 1))) ?_; simp only [go_sem, simprocAttr]) | (refine (id ?_ : V _ _ (Code.region 3 _ _) _ _); refine V_regionX (by rw [hn]; rfl) ?_; intro K hK) | (refine (id ?_ : V _ _ (Code.region 4 _ _) _ _); refine V_regionX (by rw [hn]; rfl) ?_; intro K hK) | (refine (id ?_ : V _ _ (Code.region 5 _ _) _ _); refine V_regionX (by rw [hn]; rfl) ?_; intro K hK) | (refine evOpsX_h ?_; intro K hK; refine HkX.callR (x := .func 24) (args := #[.tmp 21, .const (bst bar)]) (f := 24) (caps := []) hrd hcut cal_strings_Cut [] [] (by simp only [go_sem, simprocAttr]) (by simp [go_sem] <;> first | rfl | exact ⟨rfl, rfl⟩ | exact ⟨rfl, rfl, rfl⟩) (by simp [go_sem] <;> first | rfl | exact ⟨rfl, rfl⟩ | exact ⟨rfl, rfl, rfl⟩) ?_; all_goals try simp only [go_sem, simprocAttr]) | (refine evOpsX_h ?_; intro K hK; refine HkX.callR (x := .func 25) (args := #[.tmp 27]) (f := 25) (caps := []) hrd l1 cal_list [(0,4)] [] (by simp only [go_sem, simprocAttr]) (by simp [go_sem] <;> first | rfl | exact ⟨rfl, rfl⟩ | exact ⟨rfl, rfl, rfl⟩) (by simp [go_sem] <;> first | rfl | exact ⟨rfl, rfl⟩ | exact ⟨rfl, rfl, rfl⟩) ?_; all_goals try simp only [go_sem, simprocAttr]) | (refine evOpsX_h ?_; intro K hK; refine HkX.callR (x := .func 25) (args := #[.tmp 32]) (f := 25) (caps := []) hrd l2 cal_list [(0,5)] [] (by simp only [go_sem, simprocAttr]) (by simp [go_sem] <;> first | rfl | exact ⟨rfl, rfl⟩ | exact ⟨rfl, rfl, rfl⟩) (by simp [go_sem] <;> first | rfl | exact ⟨rfl, rfl⟩ | exact ⟨rfl, rfl, rfl⟩) ?_; all_goals try simp only [go_sem, simprocAttr]) | ((with_reducible refine evOpsX_n ?_); intro K hK; simp (contextual := true) only [go_sem, simprocAttr]) | (with_reducible refine evOpsX_nil ?_) | (with_reducible first | refine V_seq ?_ | refine V_skip ?_ | refine V_ret ?_) | ((with_reducible refine V_cond ?_); simp only [go_sem, simprocAttr]) | ((refine V_region (by rw [hn]; rfl) ?_); intro K hK) | ((first | with_reducible refine evOps_n ?_ | ((with_reducible apply evOps_g); rfl)); intro K hK; simp (contextual := true) only [go_sem, simprocAttr]) | with_reducible refine evOps_nil ?_ | ((with_reducible refine hK _ ?_); clear hK K) | (with_reducible first | refine And.intro ?_ ?_ | refine nxt_n ?_ | refine nxt_r ?_ | refine inR_mk ?_ ?_) | ((with_reducible refine evCall_at 23 ?_); refine EvCall.rq (a := (sp_areCategories_loc)) (b := cal_areCategories) (c := ?_); all_goals try simp only [go_sem, simprocAttr]) | ((with_reducible refine evCall_at 26 ?_); refine EvCall.rq (a := (sp_functor (c:=c) (d:=d) (p:=numsT A) (q:=numsT B) ?_ ?_ ?_ ?_)) (b := cal_functor) (c := ?_); all_goals try simp only [go_sem, simprocAttr]) | ((with_reducible refine evCall_at 27 ?_); refine EvCall.rq (a := (sp_Functor_isFunctor_loc)) (b := cal_Functor_isFunctor) (c := ?_); all_goals try simp only [go_sem, simprocAttr]) | (refine hook_ene (x := .tmp 42) (v := .nilIface) Tryd.underlying55 (by simp only [go_sem, simprocAttr]) (.inl rfl) ?_; simp only [go_sem, simprocAttr, isErr]) | (refine hook_ene (x := .tmp 46) (v := .nilIface) Tryd.underlying55 (by simp only [go_sem, simprocAttr]) (.inl rfl) ?_; simp only [go_sem, simprocAttr, isErr]) | (refine fun (hc : (_ : Bool) = _) => ?_; try simp only [hcS] at hc))
        all_goals try exact om_
        (first | refine ret_auto ?_ | refine ret_auto' ?_); simp only [go_sem, simprocAttr, Tryd.f7]
      · repeat' (first | (refine V_at 1 (Imp.trans (Imp.lendC 3 0 1 c rfl rfl (Nat.le_refl 1)) (Imp.lendC 4 1 1 d rfl rfl (Nat.le_refl 1))) ?_; simp only [go_sem, simprocAttr]) | (refine (id ?_ : V _ _ (Code.region 3 _ _) _ _); refine V_regionX (by rw [hn]; rfl) ?_; intro K hK) | (refine (id ?_ : V _ _ (Code.region 4 _ _) _ _); refine V_regionX (by rw [hn]; rfl) ?_; intro K hK) | (refine (id ?_ : V _ _ (Code.region 5 _ _) _ _); refine V_regionX (by rw [hn]; rfl) ?_; intro K hK) | (refine evOpsX_h ?_; intro K hK; refine HkX.callR (x := .func 24) (args := #[.tmp 21, .const (bst bar)]) (f := 24) (caps := []) hrd hcut cal_strings_Cut [] [] (by simp only [go_sem, simprocAttr]) (by simp [go_sem] <;> first | rfl | exact ⟨rfl, rfl⟩ | exact ⟨rfl, rfl, rfl⟩) (by simp [go_sem] <;> first | rfl | exact ⟨rfl, rfl⟩ | exact ⟨rfl, rfl, rfl⟩) ?_; all_goals try simp only [go_sem, simprocAttr]) | (refine evOpsX_h ?_; intro K hK; refine HkX.callR (x := .func 25) (args := #[.tmp 27]) (f := 25) (caps := []) hrd l1 cal_list [(0,4)] [] (by simp only [go_sem, simprocAttr]) (by simp [go_sem] <;> first | rfl | exact ⟨rfl, rfl⟩ | exact ⟨rfl, rfl, rfl⟩) (by simp [go_sem] <;> first | rfl | exact ⟨rfl, rfl⟩ | exact ⟨rfl, rfl, rfl⟩) ?_; all_goals try simp only [go_sem, simprocAttr]) | (refine evOpsX_h ?_; intro K hK; refine HkX.callR (x := .func 25) (args := #[.tmp 32]) (f := 25) (caps := []) hrd l2 cal_list [(0,5)] [] (by simp only [go_sem, simprocAttr]) (by simp [go_sem] <;> first | rfl | exact ⟨rfl, rfl⟩ | exact ⟨rfl, rfl, rfl⟩) (by simp [go_sem] <;> first | rfl | exact ⟨rfl, rfl⟩ | exact ⟨rfl, rfl, rfl⟩) ?_; all_goals try simp only [go_sem, simprocAttr]) | ((with_reducible refine evOpsX_n ?_); intro K hK; simp (contextual := true) only [go_sem, simprocAttr]) | (with_reducible refine evOpsX_nil ?_) | (with_reducible first | refine V_seq ?_ | refine V_skip ?_ | refine V_ret ?_) | ((with_reducible refine V_cond ?_); simp only [go_sem, simprocAttr]) | ((refine V_region (by rw [hn]; rfl) ?_); intro K hK) | ((first | with_reducible refine evOps_n ?_ | ((with_reducible apply evOps_g); rfl)); intro K hK; simp (contextual := true) only [go_sem, simprocAttr]) | with_reducible refine evOps_nil ?_ | ((with_reducible refine hK _ ?_); clear hK K) | (with_reducible first | refine And.intro ?_ ?_ | refine nxt_n ?_ | refine nxt_r ?_ | refine inR_mk ?_ ?_) | ((with_reducible refine evCall_at 23 ?_); refine EvCall.rq (a := (sp_areCategories_loc)) (b := cal_areCategories) (c := ?_); all_goals try simp only [go_sem, simprocAttr]) | ((with_reducible refine evCall_at 26 ?_); refine EvCall.rq (a := (sp_functor (c:=c) (d:=d) (p:=numsT A) (q:=[]) ?_ ?_ ?_ ?_)) (b := cal_functor) (c := ?_); all_goals try simp only [go_sem, simprocAttr]) | (refine hook_ene (x := .tmp 42) (v := .nilIface) Tryd.underlying55 (by simp only [go_sem, simprocAttr]) (.inl rfl) ?_; simp only [go_sem, simprocAttr, isErr]) | (refine hook_ene (x := .tmp 46) (v := e2) Tryd.underlying55 (by simp only [go_sem, simprocAttr]) hx2 ?_; simp only [go_sem, simprocAttr, hxe]) | (refine fun (hc : (_ : Bool) = _) => ?_; try simp only [hcS] at hc))
        all_goals try exact om_
        (first | refine ret_auto ?_ | refine ret_auto' ?_); simp only [go_sem, simprocAttr, Tryd.f7]
    · repeat' (first | (refine V_at 1 (Imp.trans (Imp.lendC 3 0 1 c rfl rfl (Nat.le_refl 1)) (Imp.lendC 4 1 1 d rfl rfl (Nat.le_refl 1))) ?_; simp only [go_sem, simprocAttr]) | (refine (id ?_ : V _ _ (Code.region 3 _ _) _ _); refine V_regionX (by rw [hn]; rfl) ?_; intro K hK) | (refine (id ?_ : V _ _ (Code.region 4 _ _) _ _); refine V_regionX (by rw [hn]; rfl) ?_; intro K hK) | (refine (id ?_ : V _ _ (Code.region 5 _ _) _ _); refine V_regionX (by rw [hn]; rfl) ?_; intro K hK) | (refine evOpsX_h ?_; intro K hK; refine HkX.callR (x := .func 24) (args := #[.tmp 21, .const (bst bar)]) (f := 24) (caps := []) hrd hcut cal_strings_Cut [] [] (by simp only [go_sem, simprocAttr]) (by simp [go_sem] <;> first | rfl | exact ⟨rfl, rfl⟩ | exact ⟨rfl, rfl, rfl⟩) (by simp [go_sem] <;> first | rfl | exact ⟨rfl, rfl⟩ | exact ⟨rfl, rfl, rfl⟩) ?_; all_goals try simp only [go_sem, simprocAttr]) | (refine evOpsX_h ?_; intro K hK; refine HkX.callR (x := .func 25) (args := #[.tmp 27]) (f := 25) (caps := []) hrd l1 cal_list [(0,4)] [] (by simp only [go_sem, simprocAttr]) (by simp [go_sem] <;> first | rfl | exact ⟨rfl, rfl⟩ | exact ⟨rfl, rfl, rfl⟩) (by simp [go_sem] <;> first | rfl | exact ⟨rfl, rfl⟩ | exact ⟨rfl, rfl, rfl⟩) ?_; all_goals try simp only [go_sem, simprocAttr]) | (refine evOpsX_h ?_; intro K hK; refine HkX.callR (x := .func 25) (args := #[.tmp 32]) (f := 25) (caps := []) hrd l2 cal_list [(0,5)] [] (by simp only [go_sem, simprocAttr]) (by simp [go_sem] <;> first | rfl | exact ⟨rfl, rfl⟩ | exact ⟨rfl, rfl, rfl⟩) (by simp [go_sem] <;> first | rfl | exact ⟨rfl, rfl⟩ | exact ⟨rfl, rfl, rfl⟩) ?_; all_goals try simp only [go_sem, simprocAttr]) | ((with_reducible refine evOpsX_n ?_); intro K hK; simp (contextual := true) only [go_sem, simprocAttr]) | (with_reducible refine evOpsX_nil ?_) | (with_reducible first | refine V_seq ?_ | refine V_skip ?_ | refine V_ret ?_) | ((with_reducible refine V_cond ?_); simp only [go_sem, simprocAttr]) | ((refine V_region (by rw [hn]; rfl) ?_); intro K hK) | ((first | with_reducible refine evOps_n ?_ | ((with_reducible apply evOps_g); rfl)); intro K hK; simp (contextual := true) only [go_sem, simprocAttr]) | with_reducible refine evOps_nil ?_ | ((with_reducible refine hK _ ?_); clear hK K) | (with_reducible first | refine And.intro ?_ ?_ | refine nxt_n ?_ | refine nxt_r ?_ | refine inR_mk ?_ ?_) | ((with_reducible refine evCall_at 23 ?_); refine EvCall.rq (a := (sp_areCategories_loc)) (b := cal_areCategories) (c := ?_); all_goals try simp only [go_sem, simprocAttr]) | ((with_reducible refine evCall_at 26 ?_); refine EvCall.rq (a := (sp_functor (c:=c) (d:=d) (p:=[]) (q:=r) ?_ ?_ ?_ ?_)) (b := cal_functor) (c := ?_); all_goals try simp only [go_sem, simprocAttr]) | (refine hook_ene (x := .tmp 42) (v := e1) Tryd.underlying55 (by simp only [go_sem, simprocAttr]) hx2 ?_; simp only [go_sem, simprocAttr, hxe]) | (refine fun (hc : (_ : Bool) = _) => ?_; try simp only [hcS] at hc))
      all_goals try exact om_
      (first | refine ret_auto ?_ | refine ret_auto' ?_); simp only [go_sem, simprocAttr, Tryd.f7]
end Go.Eng
