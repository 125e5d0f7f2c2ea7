/- Several texts in one: C14, C15. -/
import Derived.Test.YtbflkfamigcncaaGreatC07q
set_option linter.unusedSimpArgs false
set_option linter.unusedVariables false
set_option maxRecDepth 100000
set_option maxHeartbeats 16000000
section
namespace Go.Eng
open Go Go.Proofs Go.Cats
def comD (f e : Fun) (O A : List (List Int)) : List Dt := [.pt (funD f), .pt (funD e), intss O, intss A]
section
variable {f e : Fun} {O A : List (List Int)} {ts : List (Nat × Nat)}
@[go_sem] theorem comD_0 : (comD f e O A).take 1 = [.pt (funD f)] := rfl
@[go_sem] theorem comD_1 : ((comD f e O A).drop 1).take 1 = [.pt (funD e)] := rfl
@[go_sem] theorem comD_2 : ((comD f e O A).drop 2).take 1 = [intss O] := rfl
@[go_sem] theorem comD_3 : ((comD f e O A).drop 3).take 1 = [intss A] := rfl
@[go_sem] theorem comD_l : (comD f e O A).length = 4 := rfl
@[go_sem] theorem comD_a : (comD f e O A).take 4 = comD f e O A := rfl
end
def kL (r : List Int) : Lit := .string (keyS [r]).data.toList
def pm (A : List (List Int)) : Nat → DataW Unit
  | 0 => .map []
  | i + 1 => (pm A i).put (kL (A.getD i [])) (.lit (.int .i64 i))
theorem pm_map (A : List (List Int)) : ∀ i, Go.Maps.IsMap (pm A i)
  | 0 => Go.Maps.isMap_empty
  | i + 1 => (pm_map A i).put _ _
theorem ofNat_inj {a b : Int} (a0 : 0 ≤ a) (a1 : a < 256) (b0 : 0 ≤ b) (b1 : b < 256) (h : UInt8.ofNat a.toNat = UInt8.ofNat b.toNat) : a = b := by
  have h1 := congrArg UInt8.toNat h
  simp only [UInt8.toNat_ofNat'] at h1
  omega
theorem map_ofNat_inj : ∀ {l m : List Int}, (∀ x ∈ l, 0 ≤ x ∧ x < 256) → (∀ x ∈ m, 0 ≤ x ∧ x < 256) → l.map (fun n => UInt8.ofNat n.toNat) = m.map (fun n => UInt8.ofNat n.toNat) → l = m
  | [], [], _, _, _ => rfl
  | [], _ :: _, _, _, h => by simp at h
  | _ :: _, [], _, _, h => by simp at h
  | a :: l, b :: m, hl, hm, h => by
    simp only [List.map_cons, List.cons.injEq] at h
    have h1 := hl a (by simp)
    have h2 := hm b (by simp)
    rw [ofNat_inj h1.1 h1.2 h2.1 h2.2 h.1, map_ofNat_inj (fun x hx => hl x (by simp [hx])) (fun x hx => hm x (by simp [hx])) h.2]
theorem kL_inj {r s : List Int} (hr : ∀ x ∈ r, 0 ≤ x ∧ x < 256) (hs : ∀ x ∈ s, 0 ≤ x ∧ x < 256) (h : kL r = kL s) : r = s := by
  unfold kL at h
  simp only [Lit.string.injEq, keyS, strOfNums_data, keyL, List.flatMap_cons, List.flatMap_nil, List.append_nil] at h
  have h2 : r ++ [255] = s ++ [255] := map_ofNat_inj (fun x hx => by
    rcases List.mem_append.1 hx with hx | hx
    · exact hr x hx
    · simp at hx; omega) (fun x hx => by
    rcases List.mem_append.1 hx with hx | hx
    · exact hs x hx
    · simp at hx; omega) h
  exact List.append_cancel_right h2
structure KeyOK (A : List (List Int)) : Prop where
  b : ∀ r ∈ A, ∀ x ∈ r, 0 ≤ x ∧ x < 256
  nd : A.Nodup
theorem pm_at {A : List (List Int)} (h : KeyOK A) (z : DataW Unit) : ∀ {i k : Nat}, k < i → i ≤ A.length → (pm A i).atKey (kL (A.getD k [])) z = .lit (.int .i64 k)
  | 0, _, hk, _ => by omega
  | i + 1, k, hk, hi => by
    have mi : A.getD i [] ∈ A := memL_getD (by omega)
    have mk : A.getD k [] ∈ A := memL_getD (by omega)
    by_cases e : k = i
    · subst e
      exact Go.Maps.atKey_put_same (pm_map A k) (show Go.WideAt.IsKeyLit (.string _) by simp [Go.WideAt.IsKeyLit]) _ _
    · rw [pm, Go.Maps.atKey_put_other, pm_at h z (by omega) (by omega)]
      intro hh
      have := kL_inj (h.b _ mk) (h.b _ mi) hh
      refine e ?_
      have hnd := h.nd
      unfold List.Nodup at hnd
      rw [List.pairwise_iff_getElem] at hnd
      rw [getD_get (by omega), getD_get (by omega)] at this
      rcases Nat.lt_trichotomy k i with hl | hl | hl
      · exact absurd this (hnd k i (by omega) (by omega) hl)
      · exact hl
      · exact absurd this.symm (hnd i k (by omega) (by omega) hl)
theorem pm_fnd {A : List (List Int)} (h : KeyOK A) (z : DataW Unit) {r : List Int} (hr : r ∈ A) : (pm A A.length).atKey (kL r) z = .lit (.int .i64 (fnd A r)) := by
  obtain ⟨i, hi, e, hf⟩ := fnd_mem hr
  rw [hf, ← e]
  exact pm_at h z hi (Nat.le_refl _)
theorem key_size {r : List Int} (h : r.length ≤ 64) : (keyS [r]).size ≤ maxLen := by
  unfold keyS
  rw [strOfNums_size]
  simp only [keyL, List.flatMap_cons, List.flatMap_nil, List.length_append, List.length_cons, List.length_nil]
  unfold maxLen; omega
theorem sp_key_one {r : List Int} (hl : r.length ≤ 64) (hb : ∀ x ∈ r, 0 ≤ x ∧ x < 256) : Spec Tryz.prog 136 [.bor [] (intss [r])] [] (.v (.string (keyS [r]))) [] := by
  refine sp_key (ls := [r]) (by simp) (fun i hi => ?_) fun i j hi hj => ?_
  · have : i = 0 := by simp at hi; exact hi
    subst this; exact hl
  · have : i = 0 := by simp at hi; exact hi
    subst this
    exact hb _ (mem_getI hj)
theorem mapT : MapT Tryz.prog 114 9 2 := ⟨Tryz.underlying114, Tryz.underlying9, Tryz.underlying2, fun w => by
  have h1 : (Tryz.prog.info? 2).bind (·.zero) = some (.int .i64 0) := by
    show (Tryz.prog.types[2]?).bind (·.zero) = _
    rw [Tryz.type2]; rfl
  cases h2 : Tryz.prog.info? 2 with
  | none => rw [h2] at h1; cases h1
  | some i =>
    rw [h2] at h1
    have h3 : i.zero = some (.int .i64 0) := h1
    simp [zeroValue, typeInfo, h2, h3]⟩
theorem keyOK_cm {f e : Fun} (h : CYes f e) : KeyOK (cmA f e) := by
  refine ⟨fun r hr x hx => ?_, cArr_nodup f e _⟩
  obtain ⟨s, t, u, v, hs, ht, hu, hv, _, rfl⟩ := mem_cArr.1 hr
  have h1 := mem_cU.1 hu
  have h2 := mem_cU.1 hv
  have h3 := h.obs
  have h4 := h.src.src.m40
  have h5 := h.tgt.src.m40
  simp only [List.mem_cons, List.not_mem_nil, or_false] at hx
  rcases hx with rfl | rfl | rfl | rfl <;> omega
theorem bKey_mem {f e : Fun} (h : CYes f e) {a b : Nat} (ha : a < (cmA f e).length) (hb : b < (cmA f e).length) (hc : rw' (cmA f e) a 1 = rw' (cmA f e) b 0) : bKey (cmA f e) f.src e.src a b ∈ cmA f e := by
  have ma : (cmA f e).getD a [] ∈ cArr f e (cObj f e) := memL_getD ha
  have mb : (cmA f e).getD b [] ∈ cArr f e (cObj f e) := memL_getD hb
  obtain ⟨s, t, u, v, hs, ht, hu, hv, hcc, e1⟩ := mem_cArr.1 ma
  obtain ⟨s', t', u', v', hs', ht', hu', hv', hcc', e2⟩ := mem_cArr.1 mb
  unfold rw' at hc
  unfold bKey rw'
  rw [e1, e2] at hc ⊢
  have et : t = s' := by
    have : (t : Int) = (s' : Int) := by simpa using hc
    omega
  subst et
  exact cArr_comp h.src h.tgt h.one (cObj_ok h.src h.tgt h.one) hs ht ht' hu hv hcc hu' hv' hcc'
theorem sp_comma_category_1 {f e : Fun} (hy : CYes f e) {a b : Nat} (ha : a < (cmA f e).length) (hb : b < (cmA f e).length) (hc : rw' (cmA f e) a 1 = rw' (cmA f e) b 0) : Spec Tryz.prog 138 [iv a, iv b, .bptr [] [.pt (comD f e (cObj f e) (cmA f e))], .bptr [] [mapD Tryz.prog 9 2 (cmA f e).length (pm (cmA f e) (cmA f e).length)], .bptr [] [.pt (catD f.src)], .bptr [] [.pt (catD e.src)]] [] (iv (fnd (cmA f e) (bKey (cmA f e) f.src e.src a b))) [] := by
  refine spec_of_V (E := TE) 0 Tryz.func138 rfl (by simp [Tryz.f138]) fun X hn hX => ?_
  have ok := cArr_ok f e (cObj f e)
  have oa : ArrR f.src e.src ((cmA f e).getD a []) := ok a ha
  have ob : ArrR f.src e.src ((cmA f e).getD b []) := ok b hb
  obtain ⟨a4, au0, au1, av0, av1⟩ := oa
  obtain ⟨b4, bu0, bu1, bv0, bv1⟩ := ob
  have f6 := hy.src.src.toShape.col
  have f7 := hy.src.src.toShape.comp_row au0 au1
  have e6 := hy.tgt.src.toShape.col
  have e7 := hy.tgt.src.toShape.comp_row av0 av1
  have km := bKey_mem hy ha hb hc
  have k1 : (bKey (cmA f e) f.src e.src a b).length ≤ 64 := by simp [bKey]
  have k2 := (keyOK_cm hy).b _ km
  have k3 := key_size k1
  have k4 := pm_fnd (keyOK_cm hy) (.lit (.int .i64 0)) km
  repeat' (first | with_reducible refine St.f ?_ | ((with_reducible refine V_cond ?_); simp only [go_sem, simprocAttr]) | ((first | refine V_rg ?_ | refine V_dr ?_); intro K hK) | ((first | with_reducible refine So.f ?_ | ((with_reducible apply evOps_g); rfl) | ((with_reducible apply evOpsD_g); rfl)); intro K hK; simp (contextual := true) only [go_sem, simprocAttr]) | ((with_reducible refine evOpsD_nil ?_ ?_); kernel_rfl) | ((with_reducible refine hK _ ?_); clear hK K) | (with_reducible first | refine And.intro ?_ ?_ | refine inR_mk ?_ ?_) | ((with_reducible refine evCall_at 139 ?_); refine EvCall.rq (a := (sp_Category_then (c:=f.src) ?_ ?_ ?_ ?_)) (b := cal_Category_then) (c := ?_); all_goals try simp only [go_sem, simprocAttr]) | ((with_reducible refine evCall_at 139 ?_); refine EvCall.rq (a := (sp_Category_then (c:=e.src) ?_ ?_ ?_ ?_)) (b := cal_Category_then) (c := ?_); all_goals try simp only [go_sem, simprocAttr]) | ((with_reducible refine evCall_at 136 ?_); refine EvCall.rq (a := (sp_key_one (r:=bKey (cmA f e) f.src e.src a b) (by first | omega | assumption | rfl) (by first | omega | assumption | rfl))) (b := cal_key) (c := ?_); all_goals try simp only [go_sem, simprocAttr]) | (refine hook_lookup_b mapT (by simp only [go_sem, simprocAttr]; rfl) (by simp only [go_sem, simprocAttr]) (by simp only [go_sem, simprocAttr]) k3 k4 ?_; simp only [go_sem, simprocAttr]) | (refine fun (hc : (_ : Bool) = _) => ?_; try simp only [hcS] at hc))
  all_goals try exact om_
  (first | refine ret_auto ?_ | refine ret_auto' ?_); simp only [go_sem, simprocAttr, Tryz.f138]
def flS (n : Nat) (F : Nat → Int) (i : Nat) : List Int := tb i F ++ List.replicate (n - i) 0
theorem flS_zero (n : Nat) (F : Nat → Int) : flS n F 0 = List.replicate n 0 := by simp [flS, tb_zero]
theorem flS_len {n : Nat} {F : Nat → Int} {i : Nat} (h : i ≤ n) : (flS n F i).length = n := by simp [flS, tb_len]; omega
theorem flS_set {n : Nat} {F : Nat → Int} {i : Nat} (h : i < n) : (flS n F i).set i (F i) = flS n F (i + 1) := by
  have e : n - i = n - (i + 1) + 1 := by omega
  unfold flS
  rw [List.set_append_right _ _ (by rw [tb_len]; omega), tb_len, Nat.sub_self, e, tb_succ]
  simp [List.replicate_succ]
theorem flS_full (n : Nat) (F : Nat → Int) : flS n F n = tb n F := by simp [flS]
noncomputable abbrev cmId (f e : Fun) : Nat → Int := bId (cmA f e) f.src e.src (colN (cObj f e) 0 (cObj f e).length) (colN (cObj f e) 1 (cObj f e).length)
def iKey (f e : Fun) (p : Nat) : List Int := [(p : Int), (p : Int), f.src.id.getD (((cObj f e).getD p []).getD 0 0).toNat 0, e.src.id.getD (((cObj f e).getD p []).getD 1 0).toNat 0]
theorem iKey_mem {f e : Fun} (h : CYes f e) {p : Nat} (hp : p < (cObj f e).length) : iKey f e p ∈ cmA f e := cArr_id h.src h.tgt h.one (cObj_ok h.src h.tgt h.one) hp
theorem cmId_eq {f e : Fun} {p : Nat} (hp : p < (cObj f e).length) : cmId f e p = fnd (cmA f e) (iKey f e p) := by
  unfold cmId bId iKey
  rw [colN_at hp (Nat.le_refl _), colN_at hp (Nat.le_refl _)]
theorem cm_tbl (f e : Fun) : tRows (colN (cmA f e) 0 (cmA f e).length) (colN (cmA f e) 1 (cmA f e).length) (fun a b => fnd (cmA f e) (bKey (cmA f e) f.src e.src a b)) (cmA f e).length = (cmC f e (cmA f e).length).co := by
  unfold tRows cmC bCat tb
  have hl : (colN (cmA f e) 0 (cmA f e).length).length = (cmA f e).length := by simp [colN_len]
  rw [hl]
  refine List.map_congr_left fun i hi => List.map_congr_left fun j hj => ?_
  have hi' := List.mem_range.1 hi
  have hj' := List.mem_range.1 hj
  unfold tEnt bEnt
  rw [colN_at hi' (Nat.le_refl _), colN_at hj' (Nat.le_refl _)]
theorem cal_comma_category_1 : Callable Tryz.prog 138 := ⟨_, Tryz.func138, rfl, rfl⟩
noncomputable def cmLC (f e : Fun) : LC := ⟨[.bptr [] [.pt (comD f e (cObj f e) (cmA f e))], .bptr [] [mapD Tryz.prog 9 2 (cmA f e).length (pm (cmA f e) (cmA f e).length)], .bptr [] [.pt (catD f.src)], .bptr [] [.pt (catD e.src)]], rfl⟩
@[go_sem] theorem cmLC_l (f e : Fun) : (cmLC f e).l = [.bptr [] [.pt (comD f e (cObj f e) (cmA f e))], .bptr [] [mapD Tryz.prog 9 2 (cmA f e).length (pm (cmA f e) (cmA f e).length)], .bptr [] [.pt (catD f.src)], .bptr [] [.pt (catD e.src)]] := rfl
@[go_sem] theorem pm_zero (A : List (List Int)) : pm A 0 = .map [] := rfl
attribute [local go_sem] colN_zero flS_zero
theorem cal_comma_category : Callable Tryz.prog 65 := ⟨_, Tryz.func65, rfl, rfl⟩
theorem sp_comma_category {f e : Fun} (hy : CYes f e) : Spec Tryz.prog 65 [.bptr [] (comD f e (cObj f e) (cmA f e))] [] (.agg [iv (cObj f e).length, .sl 0, .sl 1, .sl 2, .sl 3]) [(0, ⟨1, .arr (ints (colN (cmA f e) 0 (cmA f e).length))⟩), (1, ⟨1, .arr (ints (colN (cmA f e) 1 (cmA f e).length))⟩), (2, ⟨1, .arr (ints (cmC f e 0).id)⟩), (3, ⟨1, .arr (intss (cmC f e (cmA f e).length).co)⟩)] := by
  refine spec_of_V (E := TE) 0 Tryz.func65 rfl (by simp [Tryz.f65]) fun X hn hX => ?_
  have hk := keyOK_cm hy
  have y4 := hy.obs
  have y5 := hy.ars
  have ok := cArr_ok f e (cObj f e)
  have oo := cObj_ok hy.src hy.tgt hy.one
  repeat' (first | (refine V_at 3 (Imp.adoptI 3 1 _ _ rfl rfl rfl (by rw [hX]; rfl)) ?_; refine V_at 3 (Imp.adoptI 3 2 _ _ rfl rfl rfl (by rw [hX]; rfl)) ?_; simp only [List.set_cons_succ, List.set_cons_zero]) | with_reducible refine St.f ?_ | ((with_reducible refine V_cond ?_); simp only [go_sem, simprocAttr]) | ((first | refine V_rg ?_ | refine V_dr ?_); intro K hK) | ((first | with_reducible refine So.f ?_ | ((with_reducible apply evOps_g); rfl) | ((with_reducible apply evOpsD_g); rfl)); intro K hK; simp (contextual := true) only [go_sem, simprocAttr]) | ((with_reducible refine evOpsD_nil ?_ ?_); kernel_rfl) | ((with_reducible refine hK _ ?_); clear hK K) | (with_reducible first | refine And.intro ?_ ?_ | refine blk_other (by decide) ?_ | refine inR_mk ?_ ?_) | (refine hook_makeMap (k := 9) (e := 2) (by simp only [go_sem, simprocAttr]) ?_; simp only [go_sem, simprocAttr]) | (refine fun (hc : (_ : Bool) = _) => ?_; try simp only [hcS] at hc))
  all_goals try exact om_
  refine V_loopK (G := {i : Nat // i ≤ (cmA f e).length ∧ (True)}) (fun ⟨i, _⟩ => [(29, iv i)]) [1, 2, 3, 4, 27, 28] (fun ⟨i, _⟩ => [(3, ⟨1, .box [iv (cObj f e).length, .sl 6, .sl 7, .sl 2, .v (.slice none 0 0)]⟩), (6, ⟨1, .arr (ints (colN (cmA f e) 0 i))⟩), (7, ⟨1, .arr (ints (colN (cmA f e) 1 i))⟩), (4, ⟨1, .arr (mapD Tryz.prog 9 2 i (pm (cmA f e) i))⟩)]) [3, 4, 6, 7] (fun zz => (cmA f e).length - zz.1) ⟨0, Nat.zero_le _, by first | trivial | simp⟩ ?_ ?_
  · exact Imp.au hX
  rintro ⟨i, hii, hwi⟩
  simp only [go_sem, simprocAttr]
  have l0 := fun h => colN_succ (l := cmA f e) (k := 0) (n := i) h
  have l1 := fun h => colN_succ (l := cmA f e) (k := 1) (n := i) h
  have l2 := colN_len (cmA f e) 0 i
  have l3 := colN_len (cmA f e) 1 i
  have m0 := fun h => memL_getD (l := cmA f e) (i := i) h
  have m1 := fun h : i < (cmA f e).length => (ok i h).len
  have m2 : i < (cmA f e).length → ((cmA f e).getD i []).length = 4 := m1
  have m3 : i < (cmA f e).length → ((cmA f e).getD i []).length ≤ 64 := fun h => by have := m2 h; omega
  have m4 : i < (cmA f e).length → ∀ x ∈ (cmA f e).getD i [], 0 ≤ x ∧ x < 256 := fun h => hk.b _ (m0 h)
  have m5 := fun h => key_size (m3 h)
  have m6 : i < maxLen := by unfold maxLen; omega
  repeat' (first | with_reducible refine St.f ?_ | ((with_reducible refine V_cond ?_); simp only [go_sem, simprocAttr]) | ((first | refine V_rg ?_ | refine V_dr ?_); intro K hK) | ((first | with_reducible refine So.f ?_ | ((with_reducible apply evOps_g); rfl) | ((with_reducible apply evOpsD_g); rfl)); intro K hK; simp (contextual := true) only [go_sem, simprocAttr]) | ((with_reducible refine evOpsD_nil ?_ ?_); kernel_rfl) | ((with_reducible refine hK _ ?_); clear hK K) | (with_reducible first | refine And.intro ?_ ?_ | refine blk_other (by decide) ?_ | refine inR_mk ?_ ?_) | ((with_reducible refine evCall_at 136 ?_); refine EvCall.rq (a := (sp_key_one (r:=(cmA f e).getD i []) (m3 (by omega)) (m4 (by omega)))) (b := cal_key) (c := ?_); all_goals try simp only [go_sem, simprocAttr]) | (refine hook_mapUpdate (i := 4) (cv := 1) (n := i) (z := (i : Int)) (D := pm (cmA f e) i) mapT rfl (by simp only [go_sem, simprocAttr]) (by simp only [go_sem, simprocAttr]) (by simp only [go_sem, simprocAttr]) (m5 (by omega)) (by simp only [go_sem, simprocAttr]) ⟨by omega, by omega⟩ m6 ?_; simp only [go_sem, simprocAttr]) | (refine fun (hc : (_ : Bool) = _) => ?_; try simp only [hcS] at hc))
  all_goals try exact om_
  · have e9 : pm (cmA f e) (i + 1) = (pm (cmA f e) i).put (.string (keyS [(cmA f e).getD i []]).data.toList) (.lit (.int .i64 i)) := rfl
    have l0' := l0 (by omega)
    have l1' := l1 (by omega)
    refine ⟨⟨i + 1, by omega, (by trivial)⟩, by simp only; omega, Imp.auto hX (by simp only [go_sem, simprocAttr, l0', l1', e9])⟩
  · have e : i = (cmA f e).length := by omega
    subst e
    clear l0 l1 m0 m1 m2 m3 m4 m5
    refine V_loopK (G := {p : Nat // p ≤ (cObj f e).length ∧ (True)}) (fun ⟨p, _⟩ => [(73, iv p)]) [1, 2, 3, 4, 7, 8, 71, 72] (fun ⟨p, _⟩ => [(2, ⟨1, .arr (ints (flS (cObj f e).length (cmId f e) p))⟩)]) [2] (fun zz => (cObj f e).length - zz.1) ⟨0, Nat.zero_le _, by first | trivial | simp⟩ ?_ ?_
    · exact Imp.au hX
    rintro ⟨p, hip, hwp⟩
    simp only [go_sem, simprocAttr]
    have n0 := fun h : p < (cObj f e).length => oo p h
    have n1 : p < (cObj f e).length → ((cObj f e).getD p []).length = 3 ∧ 0 ≤ ((cObj f e).getD p []).getD 0 0 ∧ ((cObj f e).getD p []).getD 0 0 < f.src.ob ∧ 0 ≤ ((cObj f e).getD p []).getD 1 0 ∧ ((cObj f e).getD p []).getD 1 0 < e.src.ob := fun h => ⟨(n0 h).len, (n0 h).lo, (n0 h).lh, (n0 h).ro, (n0 h).rh⟩
    have i1 := hy.src.src.idl
    have i2 := hy.tgt.src.idl
    have n2 := fun h : p < (cObj f e).length => iKey_mem hy h
    have n3 : (iKey f e p).length ≤ 64 := by simp [iKey]
    have n4 := fun h => hk.b _ (n2 h)
    have n5 := key_size n3
    have n6 := fun h => pm_fnd hk (.lit (.int .i64 0)) (n2 h)
    have n7 := flS_len (n := (cObj f e).length) (F := cmId f e) (i := p) (by omega)
    have c0 := colN_len (cmA f e) 0 (cmA f e).length
    have c1 := colN_len (cmA f e) 1 (cmA f e).length
    have T := sp_Category_table (ob := ((cObj f e).length : Int)) (fr := colN (cmA f e) 0 (cmA f e).length) (to := colN (cmA f e) 1 (cmA f e).length) (id := flS (cObj f e).length (cmId f e) p) (F := 138) (cp := cmLC f e) (h := fun a b => fnd (cmA f e) (bKey (cmA f e) f.src e.src a b))
      cal_comma_category_1 (fun a b ha hb hc => sp_comma_category_1 hy (by omega) (by omega) (by rw [colN_at (by omega) (Nat.le_refl _), colN_at (by omega) (Nat.le_refl _)] at hc; exact hc)) (by omega) (by omega) (by omega)
    repeat' (first | with_reducible refine St.f ?_ | ((with_reducible refine V_cond ?_); simp only [go_sem, simprocAttr]) | ((first | refine V_rg ?_ | refine V_dr ?_); intro K hK) | ((first | with_reducible refine So.f ?_ | ((with_reducible apply evOps_g); rfl) | ((with_reducible apply evOpsD_g); rfl)); intro K hK; simp (contextual := true) only [go_sem, simprocAttr]) | ((with_reducible refine evOpsD_nil ?_ ?_); kernel_rfl) | ((with_reducible refine hK _ ?_); clear hK K) | (with_reducible first | refine And.intro ?_ ?_ | refine blk_other (by decide) ?_ | refine inR_mk ?_ ?_) | ((with_reducible refine evCall_at 137 ?_); refine EvCall.mq (T) cal_Category_table [(0,3),(1,6),(2,7),(3,2),(4,10)] [0,5,8,9,4] ?_; all_goals try simp only [go_sem, simprocAttr]) | ((with_reducible refine evCall_at 136 ?_); refine EvCall.rq (a := (sp_key_one (r:=iKey f e p) n3 (n4 (by omega)))) (b := cal_key) (c := ?_); all_goals try simp only [go_sem, simprocAttr]) | (refine hook_lookup (i := 4) (cv := 1) (n := (cmA f e).length) mapT (by simp only [go_sem, simprocAttr]) (by simp only [go_sem, simprocAttr]) (by simp only [go_sem, simprocAttr]) n5 (n6 (by omega)) ?_; simp only [go_sem, simprocAttr]) | (refine fun (hc : (_ : Bool) = _) => ?_; try simp only [hcS] at hc))
    all_goals try exact om_
    · have e9 : (flS (cObj f e).length (cmId f e) p).set p (fnd (cmA f e) (iKey f e p)) = flS (cObj f e).length (cmId f e) (p + 1) := by
        rw [← cmId_eq (by omega)]; exact flS_set (by omega)
      refine ⟨⟨p + 1, by omega, (by trivial)⟩, by simp only; omega, Imp.auto hX (by simp only [go_sem, simprocAttr, e9])⟩
    · have e : p = (cObj f e).length := by omega
      subst e
      have e9 := cm_tbl f e
      have e8 : (cmC f e 0).id = flS (cObj f e).length (cmId f e) (cObj f e).length := (flS_full _ _).symm
      have e7 : (colN (cmA f e) 0 (cmA f e).length).length = (cmA f e).length := by omega
      (first | refine ret_auto ?_ | refine ret_auto' ?_); simp only [go_sem, simprocAttr, Tryz.f65]
      simp only [e7, e8, e9, Nat.min_self, and_self]
end Go.Eng
end
section
namespace Go.Eng
open Go Go.Proofs Go.Cats
attribute [local go_sem] one_nil_c8 one_ptr_c8
end Go.Eng
end
