/- Several texts in one: EngCr, V07, V08. -/
import Derived.Test.YtfinbajnalaomaaGreatKaux
set_option linter.unusedVariables false
set_option linter.unusedSimpArgs false
set_option maxRecDepth 100000
set_option maxHeartbeats 16000000
section
namespace Go.Eng
open Go Go.Cats
abbrev Zc := List (Cone × RawV)
def conR (p : Cone × RawV) : List Dt := [.v (.int .i64 p.1.apex), .v p.2.x]
def conesR (Z : Zc) : Dt := .sl 2 (.v (.int .i64 0)) (Z.flatMap conR)
theorem conesR_cells (Z : Zc) : (Z.flatMap conR).length = Z.length * 2 := by
  induction Z with
  | nil => rfl
  | cons f l ih => rw [List.flatMap_cons, List.length_append, ih, List.length_cons]; show 2 + _ = _; omega
@[go_sem] theorem conesR_isSl (l) : (conesR l).isSl = true := rfl
@[go_sem] theorem conesR_sz (l) : (conesR l).sz = 2 := rfl
@[go_sem] theorem conesR_nc (l : Zc) : (conesR l).nc = l.length * 2 := conesR_cells l
@[go_sem] theorem conesR_len (l : Zc) : (conesR l).len = l.length := by
  unfold Dt.len
  rw [conesR_nc, conesR_sz]; omega
@[go_sem] theorem ofDt_conesR (ts) (l : Zc) : Sv.ofDt ts (conesR l) = .bor ts (conesR l) := rfl
theorem conesR_mem {l : Zc} {d : Dt} (h : d ∈ l.flatMap conR) : ∃ x : Value, x.oneCell' = true ∧ d = .v x := by
  obtain ⟨f, _, hf⟩ := List.mem_flatMap.1 h
  simp only [conR, List.mem_cons, List.not_mem_nil, or_false] at hf
  rcases hf with rfl | rfl
  · exact ⟨_, rfl, rfl⟩
  · exact ⟨_, f.2.one, rfl⟩
@[go_sem] theorem conesR_ones (l : Zc) : (conesR l).ones = true := by
  unfold conesR Dt.ones Dt.cells
  rw [List.all_eq_true]
  intro d hd
  obtain ⟨x, hx, rfl⟩ := conesR_mem hd
  exact hx
@[go_sem] theorem conesR_flat (l : Zc) : (conesR l).flat = true := by
  unfold conesR Dt.flat Dt.cells
  rw [List.all_eq_true]
  intro d hd
  obtain ⟨x, hx, rfl⟩ := conesR_mem hd
  rfl
@[go_sem] theorem conesR_app (l m : Zc) : Dt.app 2 (.v (.int .i64 0)) (conesR l) (conesR m) = conesR (l ++ m) := by simp [conesR, Dt.app, Dt.cells]
@[go_sem] theorem conesR_nil : Dt.sl 2 (.v (.int .i64 0)) [] = conesR [] := rfl
theorem conesR_one' (p : Cone × RawV) : Dt.sl 2 (.v (.int .i64 0)) [.v (.int .i64 p.1.apex), .v p.2.x] = conesR [p] := rfl
theorem conesR_part (l : Zc) (i : Nat) (h : i < l.length) : (conesR l).part (i * 2) 2 = conR (l.getD i default) := by
  unfold conesR Dt.part
  simp only [Dt.cells]
  induction l generalizing i with
  | nil => simp at h
  | cons p l ih =>
    cases i with
    | zero => rfl
    | succ i =>
      rw [List.flatMap_cons, show (i + 1) * 2 = 2 + i * 2 by omega, ← List.drop_drop, List.getD_cons_succ]
      exact ih i (by simpa using h)
def CLent (Z : Zc) (w : World) (S : Nat → Prop) : Prop := ∀ p ∈ Z, RdV w S (ints p.1.legs) p.2.x
theorem CLent.at {Z : Zc} {X : Cx} (h : CLent Z X.w0 X.S) : RdOk X (CLent Z) := fun w S ag hS p hp => RdV.mono hS _ _ (RdV.frame ag _ _ (h p hp))
theorem conesR_rdL {w : World} {S : Nat → Prop} : ∀ {Z : Zc} {vs : List Value}, CLent Z w S → RdL w S (Z.flatMap conR) vs → RdL w S ((Z.map (·.1)).flatMap conC) vs
  | [], vs, _, h => h
  | p :: Z, vs, hl, h => by
    simp only [List.flatMap_cons, conR, List.cons_append, List.nil_append, RdL, RdV] at h
    obtain ⟨_, r, rfl, rfl, _, q, rfl, rfl, h⟩ := h
    simp only [List.map_cons, List.flatMap_cons, conC, List.cons_append, List.nil_append, RdL]
    exact ⟨_, _, rfl, by simp [RdV], _, _, rfl, hl p (List.mem_cons_self ..), conesR_rdL (fun y hy => hl y (List.mem_cons_of_mem _ hy)) h⟩
theorem conesD_nil_iff {A : List Cone} (h : A.flatMap conC = []) : A = [] := by
  cases A with
  | nil => rfl
  | cons p A => simp [conC] at h
theorem conesR_rd {w : World} {S : Nat → Prop} {Z : Zc} {u : Value} (hl : CLent Z w S) (h : RdV w S (conesR Z) u) : RdV w S (conesD (Z.map (·.1))) u := by
  unfold conesR at h
  unfold conesD
  simp only [RdV] at h ⊢
  obtain ⟨h0, ⟨e1, e2⟩ | ⟨g, off, sp, n, cap, vs, e1, e2, e3, e4, e5, e6, e7⟩⟩ := h
  · refine ⟨h0, .inl ⟨e1, ?_⟩⟩
    cases Z with
    | nil => rfl
    | cons p Z => simp [conR] at e2
  · refine ⟨h0, .inr ⟨g, off, sp, n, cap, vs, e1, ?_, e3, e4, fun hne => e5 fun q => hne ?_, conesR_rdL hl e6, e7⟩⟩
    · rw [e2, conesR_cells, cones_cells, List.length_map]
    · cases Z with
      | nil => rfl
      | cons p Z => simp [conR] at q
theorem conesR_nameL {w : World} {S : Nat → Prop} : ∀ {A : List Cone} {vs : List Value}, RdL w S (A.flatMap conC) vs → ∃ Z : Zc, Z.map (·.1) = A ∧ CLent Z w S ∧ RdL w S (Z.flatMap conR) vs
  | [], vs, h => ⟨[], rfl, fun _ hp => (nomatch hp), h⟩
  | p :: A, vs, h => by
    simp only [List.flatMap_cons, conC, List.cons_append, List.nil_append, RdL] at h
    obtain ⟨y, r, rfl, h1, x, q, rfl, h2, h⟩ := h
    simp only [RdV] at h1
    subst h1
    obtain ⟨Z, z1, z2, z3⟩ := conesR_nameL h
    have hone : x.oneCell' = true := bor_one rfl h2
    refine ⟨(p, rawOf x) :: Z, by rw [List.map_cons, z1], fun y hy => ?_, ?_⟩
    · rcases List.mem_cons.1 hy with rfl | hy
      · show RdV w S (ints p.legs) (rawOf x).x
        rw [rawOf_x hone]; exact h2
      · exact z2 y hy
    · simp only [List.flatMap_cons, conR, List.cons_append, List.nil_append, RdL]
      exact ⟨_, _, rfl, by simp [RdV], _, _, rfl, by rw [rawOf_x hone]; simp [RdV], z3⟩
theorem conesR_name {w : World} {S : Nat → Prop} {A : List Cone} {u : Value} (h : RdV w S (conesD A) u) : ∃ Z : Zc, Z.map (·.1) = A ∧ CLent Z w S ∧ RdV w S (conesR Z) u := by
  unfold conesD at h
  simp only [RdV] at h
  obtain ⟨h0, ⟨e1, e2⟩ | ⟨g, off, sp, n, cap, vs, e1, e2, e3, e4, e5, e6, e7⟩⟩ := h
  · have hA := conesD_nil_iff e2
    subst hA
    exact ⟨[], rfl, fun _ hp => (nomatch hp), by unfold conesR; simp only [RdV]; exact ⟨h0, .inl ⟨e1, rfl⟩⟩⟩
  · obtain ⟨Z, z1, z2, z3⟩ := conesR_nameL e6
    refine ⟨Z, z1, z2, ?_⟩
    unfold conesR
    simp only [RdV]
    refine ⟨h0, .inr ⟨g, off, sp, n, cap, vs, e1, ?_, e3, e4, fun hne => e5 fun q => hne ?_, z3, e7⟩⟩
    · rw [e2, conesR_cells, cones_cells, ← z1, List.length_map]
    · have hA := conesD_nil_iff q
      rw [← z1] at hA
      have : Z = [] := by simpa using hA
      rw [this]; rfl
theorem SpecR.of {P : Program} {f : FuncId} {args args' : List Sv} {r : Sv} {L1 : List (Nat × Rs)} {R : World → (Nat → Prop) → Prop} (h : Spec P f args [] r L1)
    (ha : ∀ (w : World) (S : Nat → Prop) (c : Nat → Cn) (vs : List Value), R w S → Sv.okL w S c (rsL []) args' vs → Sv.okL w S c (rsL []) args vs) : SpecR P f args' [] r L1 R :=
  fun w0 U S c0 vs hR hp hv => h w0 U S c0 vs hp (ha w0 S c0 vs hR hv)
theorem SpecR.to {P : Program} {f : FuncId} {args : List Sv} {r : Sv} {L1 : List (Nat × Rs)} {Y : Type} {args' : Y → List Sv} {R : Y → World → (Nat → Prop) → Prop} {G : Y → Prop} (h : ∀ y, G y → SpecR P f (args' y) [] r L1 (R y))
    (ha : ∀ (w : World) (S : Nat → Prop) (c : Nat → Cn) (vs : List Value), Sv.okL w S c (rsL []) args vs → ∃ y, G y ∧ R y w S ∧ Sv.okL w S c (rsL []) (args' y) vs) : Spec P f args [] r L1 :=
  fun w0 U S c0 vs hp hv => by
    obtain ⟨y, hy, hR, hv'⟩ := ha w0 S c0 vs hv
    exact h y hy w0 U S c0 vs hR hp hv'
def mvD (d e f : Fun) (A B : Dt) : List Dt := funD d ++ funD e ++ [.pt (funD f), A, B]
section
variable (d e f : Fun) (A B : Dt)
@[go_sem] theorem mvD_0 : ((mvD d e f A B).drop 0).take 12 = funD d := rfl
@[go_sem] theorem mvD_0' : (mvD d e f A B).take 12 = funD d := rfl
@[go_sem] theorem mvD_1 : ((mvD d e f A B).drop 12).take 12 = funD e := rfl
@[go_sem] theorem mvD_2 : ((mvD d e f A B).drop 24).take 1 = [.pt (funD f)] := rfl
@[go_sem] theorem mvD_3 : ((mvD d e f A B).drop 25).take 1 = [A] := rfl
@[go_sem] theorem mvD_4 : ((mvD d e f A B).drop 26).take 1 = [B] := rfl
@[go_sem] theorem mvD_l : (mvD d e f A B).length = 27 := rfl
@[go_sem] theorem mvD_a : (mvD d e f A B).take 27 = mvD d e f A B := rfl
end
theorem mvD_name {w : World} {S : Nat → Prop} {c : Nat → Cn} {d e f : Fun} {A : List Cone} {B : Dt} {u : Value} (hu : Sv.ok w S c (rsL []) (.bptr [] (mvD d e f (conesD A) B)) u) : ∃ Z : Zc, Z.map (·.1) = A ∧ CLent Z w S ∧ Sv.ok w S c (rsL []) (.bptr [] (mvD d e f (conesR Z) B)) u := by
  simp only [Sv.ok] at hu
  have ht : TagV (rsL []) [] := fun p hp => (nomatch hp)
  obtain ⟨b, o, vs, e1, e2, e3, e4⟩ := hu.2.2 ht
  have hS : ∀ x, Reg S c [] x → S x := fun x hx => hx.elim id fun ⟨p, hp, _⟩ => (nomatch hp)
  have hS' : ∀ x, S x → Reg S c [] x := fun x hx => .inl hx
  have key : ∀ (l : List Dt) (vs : List Value), RdL w (Reg S c []) (l ++ [conesD A, B]) vs → ∃ Z : Zc, Z.map (·.1) = A ∧ CLent Z w S ∧ RdL w (Reg S c []) (l ++ [conesR Z, B]) vs := by
    intro l
    induction l with
    | nil =>
      intro vs h1
      simp only [List.nil_append, RdL] at h1 ⊢
      obtain ⟨x, r, rfl, h2, h3⟩ := h1
      obtain ⟨Z, z1, z2, z3⟩ := conesR_name (RdV.mono hS _ _ h2)
      exact ⟨Z, z1, z2, x, r, rfl, RdV.mono hS' _ _ z3, h3⟩
    | cons d l ih =>
      intro vs h1
      simp only [List.cons_append, RdL] at h1 ⊢
      obtain ⟨x, r, rfl, h2, h3⟩ := h1
      obtain ⟨Z, z1, z2, z3⟩ := ih r h3
      exact ⟨Z, z1, z2, x, r, rfl, h2, z3⟩
  have e3' : RdL w (Reg S c []) ((funD d ++ funD e ++ [.pt (funD f)]) ++ [conesD A, B]) vs := by
    rw [List.append_assoc]; exact e3
  obtain ⟨Z, z1, z2, z3⟩ := key _ _ e3'
  rw [List.append_assoc] at z3
  exact ⟨Z, z1, z2, by simp only [Sv.ok]; exact ⟨hu.1, hu.2.1, fun _ => ⟨b, o, vs, e1, fun _ => e2 (by simp [mvD]), z3, e4⟩⟩⟩
end Go.Eng
end
section
namespace Go.Eng
open Go Go.Proofs Go.Cats
attribute [local go_sem] List.set_cons_zero List.set_cons_succ
noncomputable def limZ (d : Fun) (Z : Zc) (k : Nat) : Zc := (Z.take k).filter fun p => dec (UnP d (Z.map (·.1)) p.1)
section
variable {d : Fun} {Z : Zc} {k i : Nat}
theorem limZ_zero : limZ d Z 0 = [] := rfl
theorem limZ_yes (hk : k < Z.length) (h : UnP d (Z.map (·.1)) (Z.getD k default).1) : limZ d Z (k + 1) = limZ d Z k ++ [Z.getD k default] := by
  have e : Z.getD k default = Z[k] := by rw [List.getD_eq_getElem?_getD, List.getElem?_eq_getElem hk]; rfl
  rw [e] at h ⊢
  unfold limZ
  rw [List.take_succ_eq_append_getElem hk, List.filter_append]
  simp [dec_t h]
theorem limZ_no (hk : k < Z.length) (h : ¬ UnP d (Z.map (·.1)) (Z.getD k default).1) : limZ d Z (k + 1) = limZ d Z k := by
  have e : Z.getD k default = Z[k] := by rw [List.getD_eq_getElem?_getD, List.getElem?_eq_getElem hk]; rfl
  rw [e] at h
  unfold limZ
  rw [List.take_succ_eq_append_getElem hk, List.filter_append]
  simp [dec_f h]
theorem limZ_len : (limZ d Z k).length ≤ k := by
  unfold limZ
  exact Nat.le_trans (List.length_filter_le _ _) (by rw [List.length_take]; omega)
theorem limZ_map : (limZ d Z k).map (·.1) = limL d (Z.map (·.1)) k := by
  unfold limZ limL
  rw [← List.map_take, List.filter_map]; rfl
theorem zc_at (hi : i < Z.length) : (Z.map (·.1)).getD i default = (Z.getD i default).1 := by
  rw [List.getD_eq_getElem?_getD, List.getElem?_map, List.getElem?_eq_getElem hi, List.getD_eq_getElem?_getD (l := Z), List.getElem?_eq_getElem hi]; rfl
theorem limZ_mem (hi : i < (limZ d Z k).length) : (limZ d Z k).getD i default ∈ Z := by
  have h1 : (limZ d Z k).getD i default ∈ limZ d Z k := getD_mem hi
  exact List.mem_of_mem_take (List.mem_filter.1 h1).1
end
theorem cr_nil : conesD [] = conesR [] := rfl
theorem reg_s {w : World} {S : Nat → Prop} {c : Nat → Cn} {d : Dt} {u : Value} (h : RdV w (Reg S c []) d u) : RdV w S d u := RdV.mono (fun x hx => hx.elim id fun ⟨p, hp, _⟩ => (nomatch hp)) _ _ h
theorem s_reg {w : World} {S : Nat → Prop} {c : Nat → Cn} {d : Dt} {u : Value} (h : RdV w S d u) : RdV w (Reg S c []) d u := RdV.mono (fun x hx => .inl hx) _ _ h
def LegR (p : Cone) (x : RawV) (w : World) (S : Nat → Prop) : Prop := RdV w S (ints p.legs) x.x
theorem legR_ok {w : World} {S : Nat → Prop} {c : Nat → Cn} {p : Cone} {x : RawV} {u : Value} (h : LegR p x w S) (hu : Sv.ok w S c (rsL []) (.agg [iv p.apex, .v x.x]) u) : Sv.ok w S c (rsL []) (.agg [iv p.apex, .bor [] (ints p.legs)]) u := by
  simp only [Sv.ok, Sv.okL] at hu ⊢
  obtain ⟨vs, rfl, y, r, rfl, e1, z, q, rfl, rfl, rfl⟩ := hu
  exact ⟨_, rfl, _, _, rfl, e1, _, _, rfl, ⟨fun p hp => (nomatch hp), x.one, fun _ => s_reg h⟩, rfl⟩
theorem sp_isUniversal_R {g : Fun} {Z : Zc} {p : Cone} {x : RawV} (hg : IsFun g) (ha : ∀ i, i < Z.length → ConOK g (Z.getD i default).1) (hl : Z.length ≤ 400) (hp : ConOK g p) :
    SpecR Tryz.prog 69 [.bptr [] (funD g), .bor [] (conesR Z), .agg [iv p.apex, .v x.x]] [] (bv (dec (UnP g (Z.map (·.1)) p))) [] (fun w S => CLent Z w S ∧ LegR p x w S) :=
  SpecR.of (sp_isUniversal (all := Z.map (·.1)) hg (fun i hi => by rw [List.length_map] at hi; rw [zc_at hi]; exact ha i hi) (by rw [List.length_map]; exact hl) hp) fun w S c vs hR hv => by
    simp only [Sv.okL] at hv ⊢
    obtain ⟨a, r, rfl, h1, b, r2, rfl, h2, u, r3, rfl, h3, rfl⟩ := hv
    refine ⟨a, _, rfl, h1, b, _, rfl, ?_, u, _, rfl, legR_ok hR.2 h3, rfl⟩
    simp only [Sv.ok] at h2 ⊢
    exact ⟨h2.1, h2.2.1, fun ht => s_reg (conesR_rd hR.1 (reg_s (h2.2.2 ht)))⟩
theorem cal_moved_limits : Callable Tryz.prog 46 := ⟨_, Tryz.func46, rfl, rfl⟩
theorem sp_moved_limits_R {d e f : Fun} {Z : Zc} {B : Dt} (hd : IsFun d) (hz : ∀ i, i < Z.length → ConOK d (Z.getD i default).1) (hl : Z.length ≤ 400) : SpecR Tryz.prog 46 [.bptr [] (mvD d e f (conesR Z) B)] [] (.sl 0) [(0, ⟨1, .arr (conesR (limZ d Z Z.length))⟩)] (CLent Z) := by
  refine specR_of_V (E := TE) 0 Tryz.func46 rfl (by simp [Tryz.f46]) fun X hn hX hR => ?_
  repeat' (first | (with_reducible first | refine V_seq ?_ | refine V_block ?_ | refine V_skip ?_ | refine V_ret ?_ | refine V_exit ?_) | ((with_reducible refine V_cond ?_); simp only [go_sem, simprocAttr]) | ((first | refine V_region (by rw [hn]; rfl) ?_ | refine V_drawn hmix (by rw [hn]; rfl) ?_); intro K hK) | ((first | with_reducible refine evOps_n ?_ | ((with_reducible apply evOps_g); rfl) | with_reducible refine evOpsD_n ?_ | ((with_reducible apply evOpsD_g); rfl)); intro K hK; simp (contextual := true) only [go_sem, simprocAttr]) | with_reducible refine evOps_nil ?_ | ((with_reducible refine evOpsD_nil ?_ ?_); kernel_rfl) | ((with_reducible refine hK _ ?_); clear hK K) | (with_reducible first | refine And.intro ?_ ?_ | refine nxt_n ?_ | refine nxt_r ?_ | refine nxt_e ?_ | refine blk_n ?_ | refine blk_r ?_ | refine blk_same ?_ | refine blk_other (by decide) ?_ | refine noG_n ?_ | refine noG_r ?_ | refine noG_e ?_ | refine inR_mk ?_ ?_) | (refine fun (hc : (_ : Bool) = _) => ?_; try simp only [hcS] at hc))
  all_goals try exact om_
  refine V_loopK (G := {i : Nat // i ≤ Z.length ∧ (True)}) (fun ⟨i, _⟩ => [(12, iv i), (3, .sl 0)]) [0, 2, 10, 11] (fun ⟨i, _⟩ => [(0, ⟨1, .arr (conesR (limZ d Z i))⟩)]) [0] (fun zz => Z.length - zz.1) ⟨0, Nat.zero_le _, by first | trivial | simp⟩ ?_ ?_
  · exact Imp.auto hX (by simp [go_sem, simprocAttr, limZ_zero, cr_nil])
  rintro ⟨i, hii, hwi⟩
  simp only [go_sem, simprocAttr]
  have hll := limZ_len (d := d) (Z := Z) (k := i)
  rcases Nat.lt_or_ge i Z.length with hli | hgi
  · have hpt := conesR_part Z i hli
    rw [conR] at hpt
    have h1 := conesR_one' (Z.getD i default)
    have hun := sp_isUniversal_R (x := (Z.getD i default).2) hd hz hl (hz i hli)
    have hrd : RdOk X (fun w S => CLent Z w S ∧ LegR (Z.getD i default).1 (Z.getD i default).2 w S) := fun w S ag hS => ⟨hR.at w S ag hS, hR.at w S ag hS _ (getD_mem hli)⟩
    repeat' (first | (rw [hpt]; simp only [go_sem, simprocAttr]) | (rw [h1]) | ((refine V_drawnX (id := 5) hmix (by rw [hn]; rfl) ?_); intro K hK) | ((with_reducible refine evOpsDX_nil ?_ ?_); kernel_rfl) | (refine evOpsDX_h ?_; intro K hK; refine HkX.callR (f := 69) (caps := []) hrd hun cal_isUniversal [] [] (by simp only [go_sem, simprocAttr]) (by simp [go_sem] <;> first | rfl | exact ⟨rfl, rfl⟩) (by simp [go_sem] <;> first | rfl | exact ⟨rfl, rfl⟩ ) ?_; all_goals try simp only [go_sem, simprocAttr]) | ((with_reducible refine evOpsDX_n ?_); intro K hK; simp (contextual := true) only [go_sem, simprocAttr]) | (with_reducible first | refine V_seq ?_ | refine V_block ?_ | refine V_skip ?_ | refine V_ret ?_ | refine V_exit ?_) | ((with_reducible refine V_cond ?_); simp only [go_sem, simprocAttr]) | ((first | refine V_region (by rw [hn]; rfl) ?_ | refine V_drawn hmix (by rw [hn]; rfl) ?_); intro K hK) | ((first | with_reducible refine evOps_n ?_ | ((with_reducible apply evOps_g); rfl) | with_reducible refine evOpsD_n ?_ | ((with_reducible apply evOpsD_g); rfl)); intro K hK; simp (contextual := true) only [go_sem, simprocAttr]) | with_reducible refine evOps_nil ?_ | ((with_reducible refine evOpsD_nil ?_ ?_); kernel_rfl) | ((with_reducible refine hK _ ?_); clear hK K) | (with_reducible first | refine And.intro ?_ ?_ | refine nxt_n ?_ | refine nxt_r ?_ | refine nxt_e ?_ | refine blk_n ?_ | refine blk_r ?_ | refine blk_same ?_ | refine blk_other (by decide) ?_ | refine noG_n ?_ | refine noG_r ?_ | refine noG_e ?_ | refine inR_mk ?_ ?_) | (refine fun (hc : (_ : Bool) = _) => ?_; try simp only [hcS] at hc))
    all_goals try exact om_
    · have e1 := limZ_yes hli (by assumption)
      refine ⟨⟨i + 1, by omega, (by trivial)⟩, by simp only; omega, Imp.auto hX (by simp only [go_sem, simprocAttr, ← e1])⟩
    · have e1 := limZ_no hli (by assumption)
      refine ⟨⟨i + 1, by omega, (by trivial)⟩, by simp only; omega, Imp.auto hX (by simp only [go_sem, simprocAttr, ← e1])⟩
  · have ei : i = Z.length := by omega
    subst ei
    repeat' (first | (with_reducible first | refine V_seq ?_ | refine V_block ?_ | refine V_skip ?_ | refine V_ret ?_ | refine V_exit ?_) | ((with_reducible refine V_cond ?_); simp only [go_sem, simprocAttr]) | ((first | refine V_region (by rw [hn]; rfl) ?_ | refine V_drawn hmix (by rw [hn]; rfl) ?_); intro K hK) | ((first | with_reducible refine evOps_n ?_ | ((with_reducible apply evOps_g); rfl) | with_reducible refine evOpsD_n ?_ | ((with_reducible apply evOpsD_g); rfl)); intro K hK; simp (contextual := true) only [go_sem, simprocAttr]) | with_reducible refine evOps_nil ?_ | ((with_reducible refine evOpsD_nil ?_ ?_); kernel_rfl) | ((with_reducible refine hK _ ?_); clear hK K) | (with_reducible first | refine And.intro ?_ ?_ | refine nxt_n ?_ | refine nxt_r ?_ | refine nxt_e ?_ | refine blk_n ?_ | refine blk_r ?_ | refine blk_same ?_ | refine blk_other (by decide) ?_ | refine noG_n ?_ | refine noG_r ?_ | refine noG_e ?_ | refine inR_mk ?_ ?_) | (refine fun (hc : (_ : Bool) = _) => ?_; try simp only [hcS] at hc))
    all_goals try exact om_
    · (first | refine ret_auto ?_ | refine ret_auto' ?_); simp only [go_sem, simprocAttr, Tryz.f46]
theorem cal_moved_arrives : Callable Tryz.prog 47 := ⟨_, Tryz.func47, rfl, rfl⟩
theorem sp_moved_arrives {d f : Fun} {A : Dt} {B : List Cone} {p : Cone} (hd : IsFun d) (hf : IsFun f) (he : IsFun (thF d f)) (st : d.tgt = f.src) (hb : ∀ i, i < B.length → ConOK (thF d f) (B.getD i default)) (hl : B.length ≤ 400) (hp : ConOK d p) : Spec Tryz.prog 47 [.bptr [] (mvD d (thF d f) f A (conesD B)), .agg [iv p.apex, .bor [] (ints p.legs)]] [] (bv (dec (UnP (thF d f) B (imC f p)))) [] := by
  have obl := hd.fits.obl
  have s8 := hd.src.toShape.ob8
  have s0 := hd.src.toShape.ob0
  have him := sp_imageCone (e := d) (f := f) (p := p) hd.fits (by omega) hf st hp
  have hun := sp_isUniversal (g := thF d f) (all := B) (p := imC f p) he hb hl (imC_ok hd.fits hf st hp)
  refine spec_of_V (E := TE) 0 Tryz.func47 rfl (by simp [Tryz.f47]) fun X hn hX => ?_
  repeat' (first | (with_reducible first | refine V_seq ?_ | refine V_skip ?_ | refine V_ret ?_) | ((with_reducible refine V_cond ?_); simp only [go_sem, simprocAttr]) | ((first | refine V_region (by rw [hn]; rfl) ?_ | refine V_drawn hmix (by rw [hn]; rfl) ?_); intro K hK) | ((first | with_reducible refine evOps_n ?_ | ((with_reducible apply evOps_g); rfl) | with_reducible refine evOpsD_n ?_ | ((with_reducible apply evOpsD_g); rfl)); intro K hK; simp (contextual := true) only [go_sem, simprocAttr]) | with_reducible refine evOps_nil ?_ | ((with_reducible refine evOpsD_nil ?_ ?_); kernel_rfl) | ((with_reducible refine hK _ ?_); clear hK K) | (with_reducible first | refine And.intro ?_ ?_ | refine nxt_n ?_ | refine nxt_r ?_ | refine inR_mk ?_ ?_) | ((with_reducible refine evCall_at 70 ?_); refine EvCall.mk (him) cal_imageCone [(0,1)] [] (by simp [go_sem] <;> (repeat' (first | rfl | constructor))) (by simp [go_sem] <;> (repeat' (first | rfl | constructor))) ?_; all_goals try simp only [go_sem, simprocAttr]) | ((with_reducible refine evCall_at 69 ?_); refine EvCall.mk (hun) cal_isUniversal [] [1] (by simp [go_sem] <;> (repeat' (first | rfl | constructor))) (by simp [go_sem] <;> (repeat' (first | rfl | constructor))) ?_; all_goals try simp only [go_sem, simprocAttr]) | (refine fun (hc : (_ : Bool) = _) => ?_; try simp only [hcS] at hc))
  all_goals try exact om_
  · (first | refine ret_auto ?_ | refine ret_auto' ?_); simp only [go_sem, simprocAttr, Tryz.f47]
theorem sp_moved_arrives_R {d f : Fun} {A : Dt} {B : List Cone} {p : Cone} {x : RawV} (hd : IsFun d) (hf : IsFun f) (he : IsFun (thF d f)) (st : d.tgt = f.src) (hb : ∀ i, i < B.length → ConOK (thF d f) (B.getD i default)) (hl : B.length ≤ 400) (hp : ConOK d p) :
    SpecR Tryz.prog 47 [.bptr [] (mvD d (thF d f) f A (conesD B)), .agg [iv p.apex, .v x.x]] [] (bv (dec (UnP (thF d f) B (imC f p)))) [] (LegR p x) :=
  SpecR.of (sp_moved_arrives (A := A) hd hf he st hb hl hp) fun w S c vs hR hv => by
    simp only [Sv.okL] at hv ⊢
    obtain ⟨a, r, rfl, h1, b, r2, rfl, h2, rfl⟩ := hv
    exact ⟨a, _, rfl, h1, b, _, rfl, legR_ok hR h2, rfl⟩
end Go.Eng
end
section
namespace Go.Eng
open Go Go.Proofs Go.Cats
attribute [local go_sem] List.set_cons_zero List.set_cons_succ
def KeO (d f : Fun) (A B : List Cone) (k t : Bool) : Prop := (limL d A A.length = [] ∧ k = false ∧ t = false) ∨ (0 < (limL d A A.length).length ∧ k = dec (UnP (thF d f) B (imC f ((limL d A A.length).getD 0 default))) ∧ t = true)
theorem KeO.ex (d f : Fun) (A B : List Cone) : ∃ k t, KeO d f A B k t := by
  by_cases h : limL d A A.length = []
  · exact ⟨_, _, .inl ⟨h, rfl, rfl⟩⟩
  · exact ⟨_, _, .inr ⟨List.length_pos_iff.2 h, rfl, rfl⟩⟩
structure MvOK (d f : Fun) (A B : List Cone) : Prop where
  hd : IsFun d
  hf : IsFun f
  he : IsFun (thF d f)
  st : d.tgt = f.src
  ha : ∀ i, i < A.length → ConOK d (A.getD i default)
  hb : ∀ i, i < B.length → ConOK (thF d f) (B.getD i default)
  al : A.length ≤ 400
  bl : B.length ≤ 400
theorem cal_moved_keeps : Callable Tryz.prog 25 := ⟨_, Tryz.func25, rfl, rfl⟩
theorem sp_moved_keeps_R {d f : Fun} {Z : Zc} {B : List Cone} {k t : Bool} (hm : MvOK d f (Z.map (·.1)) B) (ho : KeO d f (Z.map (·.1)) B k t) : SpecR Tryz.prog 25 [.bptr [] (mvD d (thF d f) f (conesR Z) (conesD B))] [] (.tup [bv k, bv t]) [] (CLent Z) := by
  obtain ⟨hd, hf, he, st, ha, hb, al, bl⟩ := hm
  rw [List.length_map] at al ha
  have hz : ∀ i, i < Z.length → ConOK d (Z.getD i default).1 := fun i hi => by have := ha i hi; rwa [zc_at hi] at this
  have hli := sp_moved_limits_R (e := thF d f) (f := f) (B := conesD B) hd hz al
  have hlm := limZ_map (d := d) (Z := Z) (k := Z.length)
  have hwl := limZ_len (d := d) (Z := Z) (k := Z.length)
  have hwm := fun i hi => limZ_mem (d := d) (Z := Z) (k := Z.length) (i := i) hi
  obtain ⟨W, hW⟩ : ∃ W, limZ d Z Z.length = W := ⟨_, rfl⟩
  rw [hW] at hli hlm hwl hwm
  unfold KeO at ho
  rw [List.length_map, ← hlm] at ho
  refine specR_of_V (E := TE) 0 Tryz.func25 rfl (by simp [Tryz.f25]) fun X hn hX hR => ?_
  have hrd : RdOk X (CLent Z) := hR.at
  rcases ho with ⟨h0, rfl, rfl⟩ | ⟨h0, rfl, rfl⟩
  · have hW0 : W = [] := by simpa using h0
    subst hW0
    repeat' (first | (refine V_regionX (id := 1) (by rw [hn]; rfl) ?_; intro K hK) | (refine evOpsX_h ?_; intro K hK; refine (id ?_ : HkX _ _ _ (Op.call { callee := .value (.func 46), args := _, argTypes := _ }) _ _); refine HkX.callR (f := 46) (caps := []) hrd hli cal_moved_limits [(0,0)] [] (by simp only [go_sem, simprocAttr]) (by simp [go_sem] <;> first | rfl | exact ⟨rfl, rfl⟩) (by simp [go_sem] <;> first | rfl | exact ⟨rfl, rfl⟩ ) ?_; all_goals try simp only [go_sem, simprocAttr]) | ((with_reducible refine evOpsX_n ?_); intro K hK; simp (contextual := true) only [go_sem, simprocAttr]) | (with_reducible refine evOpsX_nil ?_) | (with_reducible first | refine V_seq ?_ | refine V_skip ?_ | refine V_ret ?_) | ((with_reducible refine V_cond ?_); simp only [go_sem, simprocAttr]) | ((refine V_region (by rw [hn]; rfl) ?_); intro K hK) | ((first | with_reducible refine evOps_n ?_ | ((with_reducible apply evOps_g); rfl)); intro K hK; simp (contextual := true) only [go_sem, simprocAttr]) | with_reducible refine evOps_nil ?_ | ((with_reducible refine hK _ ?_); clear hK K) | (with_reducible first | refine And.intro ?_ ?_ | refine nxt_n ?_ | refine nxt_r ?_ | refine inR_mk ?_ ?_) | (refine fun (hc : (_ : Bool) = _) => ?_; try simp only [hcS] at hc))
    all_goals try exact om_
    all_goals ((first | refine ret_auto ?_ | refine ret_auto' ?_); simp only [go_sem, simprocAttr, Tryz.f25])
  · rw [List.length_map] at h0
    have hm0 := hwm 0 h0
    obtain ⟨j, hj, hje⟩ := List.mem_iff_getElem.1 hm0
    have hpc : ConOK d (W.getD 0 default).1 := by
      have := hz j hj
      rwa [show Z.getD j default = W.getD 0 default by rw [List.getD_eq_getElem?_getD, List.getElem?_eq_getElem hj, ← hje]; rfl] at this
    have hpt : (conesR W).part 0 2 = conR (W.getD 0 default) := conesR_part W 0 h0
    rw [conR] at hpt
    have har := sp_moved_arrives_R (x := (W.getD 0 default).2) (A := conesR Z) hd hf he st hb bl hpc
    have hrd2 : RdOk X (LegR (W.getD 0 default).1 (W.getD 0 default).2) := fun w S ag hS => hR.at w S ag hS _ hm0
    have hfs : (W.map (·.1)).getD 0 default = (W.getD 0 default).1 := zc_at h0
    rw [hfs]
    repeat' (first | (rw [hpt]; simp only [go_sem, simprocAttr]) | (refine V_regionX (id := 1) (by rw [hn]; rfl) ?_; intro K hK) | (refine evOpsX_h ?_; intro K hK; refine (id ?_ : HkX _ _ _ (Op.call { callee := .value (.func 46), args := _, argTypes := _ }) _ _); refine HkX.callR (f := 46) (caps := []) hrd hli cal_moved_limits [(0,0)] [] (by simp only [go_sem, simprocAttr]) (by simp [go_sem] <;> first | rfl | exact ⟨rfl, rfl⟩) (by simp [go_sem] <;> first | rfl | exact ⟨rfl, rfl⟩ ) ?_; all_goals try simp only [go_sem, simprocAttr]) | (refine V_regionX (id := 4) (by rw [hn]; rfl) ?_; intro K hK) | (refine evOpsX_h ?_; intro K hK; refine (id ?_ : HkX _ _ _ (Op.call { callee := .value (.func 47), args := _, argTypes := _ }) _ _); refine HkX.callR (f := 47) (caps := []) hrd2 har cal_moved_arrives [] [] (by simp only [go_sem, simprocAttr]) (by simp [go_sem] <;> first | rfl | exact ⟨rfl, rfl⟩) (by simp [go_sem] <;> first | rfl | exact ⟨rfl, rfl⟩ ) ?_; all_goals try simp only [go_sem, simprocAttr]) | ((with_reducible refine evOpsX_n ?_); intro K hK; simp (contextual := true) only [go_sem, simprocAttr]) | (with_reducible refine evOpsX_nil ?_) | (with_reducible first | refine V_seq ?_ | refine V_skip ?_ | refine V_ret ?_) | ((with_reducible refine V_cond ?_); simp only [go_sem, simprocAttr]) | ((refine V_region (by rw [hn]; rfl) ?_); intro K hK) | ((first | with_reducible refine evOps_n ?_ | ((with_reducible apply evOps_g); rfl)); intro K hK; simp (contextual := true) only [go_sem, simprocAttr]) | with_reducible refine evOps_nil ?_ | ((with_reducible refine hK _ ?_); clear hK K) | (with_reducible first | refine And.intro ?_ ?_ | refine nxt_n ?_ | refine nxt_r ?_ | refine inR_mk ?_ ?_) | (refine fun (hc : (_ : Bool) = _) => ?_; try simp only [hcS] at hc))
    all_goals try exact om_
    all_goals ((first | refine ret_auto ?_ | refine ret_auto' ?_); simp only [go_sem, simprocAttr, Tryz.f25])
theorem sp_moved_keeps {d f : Fun} {A B : List Cone} {k t : Bool} (hm : MvOK d f A B) (ho : KeO d f A B k t) : Spec Tryz.prog 25 [.bptr [] (mvD d (thF d f) f (conesD A) (conesD B))] [] (.tup [bv k, bv t]) [] :=
  SpecR.to (G := fun Z : Zc => Z.map (·.1) = A) (R := CLent) (args' := fun Z => [.bptr [] (mvD d (thF d f) f (conesR Z) (conesD B))]) (fun Z hZ => by subst hZ; exact sp_moved_keeps_R hm ho) fun w S c vs hv => by
    simp only [Sv.okL] at hv ⊢
    obtain ⟨a, r, rfl, h1, rfl⟩ := hv
    obtain ⟨Z, z1, z2, z3⟩ := mvD_name h1
    exact ⟨Z, z1, z2, a, _, rfl, z3, rfl⟩
theorem thF_th {d f : Fun} (hd : IsFun d) (hf : IsFun f) (st : d.tgt = f.src) : ThF d f := by
  have a1 := hd.fits.obl
  have a2 := hd.fits.arl
  have a3 := hd.fits.obw
  have a4 := hd.fits.arw
  have b1 := hf.fits.obl
  have b2 := hf.fits.arl
  have c8 := hd.src.toShape.ob8
  have c40 := hd.src.toShape.m40
  have e8 := hf.src.toShape.ob8
  have e40 := hf.src.toShape.m40
  exact ⟨(catB_of hd.src), (catB_of hf.tgt), by omega, by omega, by omega, by omega, fun i hi => by have := a3 i hi; rw [st] at this; omega, fun i hi => by have := a4 i hi; rw [st] at this; omega⟩
theorem thF_is {d f : Fun} (hd : IsFun d) (hf : IsFun f) (st : d.tgt = f.src) : IsFun (thF d f) := ⟨hd.src, hf.tgt, thF_fits hd.src.toShape hd.tgt.toShape hd.fits hf.fits st.symm⟩
theorem mvOK {d f : Fun} (hd : IsFun d) (hf : IsFun f) (st : d.tgt = f.src) (hl : LimP d f) : MvOK d f (conA d) (conA (thF d f)) := ⟨hd, hf, thF_is hd hf st, st, fun i hi => conA_ok hd hi, fun i hi => conA_ok (thF_is hd hf st) hi, hl.1, hl.2⟩
theorem cal_movedBy : Callable Tryz.prog 24 := ⟨_, Tryz.func24, rfl, rfl⟩
theorem sp_movedBy_yes {d f : Fun} (hd : IsFun d) (hf : IsFun f) (st : d.tgt = f.src) (hl : LimP d f) : Spec Tryz.prog 24 [.bptr [] (funD d), .bptr [] (funD f)] [] (.tup [.ptr 0 0, bv true]) [(0, ⟨1, .box [iv d.src.ob, .bor [] (ints d.src.fr), .bor [] (ints d.src.to), .bor [] (ints d.src.id), .bor [] (intss d.src.co), iv d.tgt.ob, .bor [] (ints d.tgt.fr), .bor [] (ints d.tgt.to), .bor [] (ints d.tgt.id), .bor [] (intss d.tgt.co), .bor [] (ints d.obs), .bor [] (ints d.ars), iv (thF d f).src.ob, .sl 1, .sl 2, .sl 3, .sl 4, iv (thF d f).tgt.ob, .sl 5, .sl 6, .sl 7, .sl 8, .sl 9, .sl 10, .bptr [] (funD f), .sl 11, .sl 12]⟩), (1, ⟨1, .arr (ints (thF d f).src.fr)⟩), (2, ⟨1, .arr (ints (thF d f).src.to)⟩), (3, ⟨1, .arr (ints (thF d f).src.id)⟩), (4, ⟨1, .arr (intss (thF d f).src.co)⟩), (5, ⟨1, .arr (ints (thF d f).tgt.fr)⟩), (6, ⟨1, .arr (ints (thF d f).tgt.to)⟩), (7, ⟨1, .arr (ints (thF d f).tgt.id)⟩), (8, ⟨1, .arr (intss (thF d f).tgt.co)⟩), (9, ⟨1, .arr (ints (thF d f).obs)⟩), (10, ⟨1, .arr (ints (thF d f).ars)⟩), (11, ⟨1, .arr (conesD (conA d))⟩), (12, ⟨1, .arr (conesD (conA (thF d f)))⟩)] := by
  have ht := sp_Functor_then (thF_th hd hf st)
  have h1 := sp_allCones_o hd (.inl ⟨hl.1, rfl, rfl⟩)
  have h2 := sp_allCones_o (thF_is hd hf st) (.inl ⟨hl.2, rfl, rfl⟩)
  refine spec_of_V (E := TE) 0 Tryz.func24 rfl (by simp [Tryz.f24]) fun X hn hX => ?_
  repeat' (first | (with_reducible first | refine V_seq ?_ | refine V_skip ?_ | refine V_ret ?_) | ((with_reducible refine V_cond ?_); simp only [go_sem, simprocAttr]) | ((first | refine V_region (by rw [hn]; rfl) ?_ | refine V_drawn hmix (by rw [hn]; rfl) ?_); intro K hK) | ((first | with_reducible refine evOps_n ?_ | ((with_reducible apply evOps_g); rfl) | with_reducible refine evOpsD_n ?_ | ((with_reducible apply evOpsD_g); rfl)); intro K hK; simp (contextual := true) only [go_sem, simprocAttr]) | with_reducible refine evOps_nil ?_ | ((with_reducible refine evOpsD_nil ?_ ?_); kernel_rfl) | ((with_reducible refine hK _ ?_); clear hK K) | (with_reducible first | refine And.intro ?_ ?_ | refine nxt_n ?_ | refine nxt_r ?_ | refine inR_mk ?_ ?_) | ((with_reducible refine evCall_at 44 ?_); refine EvCall.mk (ht) cal_Functor_then [(0,0),(1,1),(2,2),(3,3),(4,4),(5,5),(6,6),(7,7),(8,8),(9,9)] [] (by simp [go_sem] <;> (repeat' (first | rfl | constructor))) (by simp [go_sem] <;> (repeat' (first | rfl | constructor))) ?_; all_goals try simp only [go_sem, simprocAttr]) | ((with_reducible refine (id ?_ : EvCall _ _ [.ptr 10 0] _ _)); refine EvCall.mk (h1) cal_allCones [(0,11)] [10] (by simp [go_sem] <;> (repeat' (first | rfl | constructor))) (by simp [go_sem] <;> (repeat' (first | rfl | constructor))) ?_; all_goals try simp only [go_sem, simprocAttr]) | ((with_reducible refine (id ?_ : EvCall _ _ [.ptr 10 12] _ _)); refine EvCall.mk (h2) cal_allCones [(0,12)] [10,0,1,2,3,4,5,6,7,8,9] (by simp [go_sem] <;> (repeat' (first | rfl | constructor))) (by simp [go_sem] <;> (repeat' (first | rfl | constructor))) ?_; all_goals try simp only [go_sem, simprocAttr]) | (refine fun (hc : (_ : Bool) = _) => ?_; try simp only [hcS] at hc))
  all_goals try exact om_
  · (first | refine ret_auto ?_ | refine ret_auto' ?_); simp only [go_sem, simprocAttr, Tryz.f24]
theorem sp_movedBy_no {d f : Fun} (hd : IsFun d) (hf : IsFun f) (st : d.tgt = f.src) (hl : ¬ LimP d f) : Spec Tryz.prog 24 [.bptr [] (funD d), .bptr [] (funD f)] [] (.tup [.dead, bv false]) [] := by
  have ht := sp_Functor_then (thF_th hd hf st)
  by_cases l1 : (conA d).length ≤ 400
  · have l2 : ¬ (conA (thF d f)).length ≤ 400 := fun l2 => hl ⟨l1, l2⟩
    have h1 := sp_allCones_o hd (.inl ⟨l1, rfl, rfl⟩)
    have h2 := sp_allCones_o (thF_is hd hf st) (.inr ⟨l2, rfl, rfl⟩)
    refine spec_of_V (E := TE) 0 Tryz.func24 rfl (by simp [Tryz.f24]) fun X hn hX => ?_
    repeat' (first | (with_reducible first | refine V_seq ?_ | refine V_skip ?_ | refine V_ret ?_) | ((with_reducible refine V_cond ?_); simp only [go_sem, simprocAttr]) | ((first | refine V_region (by rw [hn]; rfl) ?_ | refine V_drawn hmix (by rw [hn]; rfl) ?_); intro K hK) | ((first | with_reducible refine evOps_n ?_ | ((with_reducible apply evOps_g); rfl) | with_reducible refine evOpsD_n ?_ | ((with_reducible apply evOpsD_g); rfl)); intro K hK; simp (contextual := true) only [go_sem, simprocAttr]) | with_reducible refine evOps_nil ?_ | ((with_reducible refine evOpsD_nil ?_ ?_); kernel_rfl) | ((with_reducible refine hK _ ?_); clear hK K) | (with_reducible first | refine And.intro ?_ ?_ | refine nxt_n ?_ | refine nxt_r ?_ | refine inR_mk ?_ ?_) | ((with_reducible refine evCall_at 44 ?_); refine EvCall.mk (ht) cal_Functor_then [(0,0),(1,1),(2,2),(3,3),(4,4),(5,5),(6,6),(7,7),(8,8),(9,9)] [] (by simp [go_sem] <;> (repeat' (first | rfl | constructor))) (by simp [go_sem] <;> (repeat' (first | rfl | constructor))) ?_; all_goals try simp only [go_sem, simprocAttr]) | ((with_reducible refine (id ?_ : EvCall _ _ [.ptr 10 0] _ _)); refine EvCall.mk (h1) cal_allCones [(0,11)] [10] (by simp [go_sem] <;> (repeat' (first | rfl | constructor))) (by simp [go_sem] <;> (repeat' (first | rfl | constructor))) ?_; all_goals try simp only [go_sem, simprocAttr]) | ((with_reducible refine (id ?_ : EvCall _ _ [.ptr 10 12] _ _)); refine EvCall.mk (h2) cal_allCones [] [10,0,1,2,3,4,5,6,7,8,9] (by simp [go_sem] <;> (repeat' (first | rfl | constructor))) (by simp [go_sem] <;> (repeat' (first | rfl | constructor))) ?_; all_goals try simp only [go_sem, simprocAttr]) | (refine fun (hc : (_ : Bool) = _) => ?_; try simp only [hcS] at hc))
    all_goals try exact om_
    · (first | refine ret_auto ?_ | refine ret_auto' ?_); simp only [go_sem, simprocAttr, Tryz.f24]
  · have h1 := sp_allCones_o hd (.inr ⟨l1, rfl, rfl⟩)
    by_cases l2 : (conA (thF d f)).length ≤ 400
    · have h2 := sp_allCones_o (thF_is hd hf st) (.inl ⟨l2, rfl, rfl⟩)
      refine spec_of_V (E := TE) 0 Tryz.func24 rfl (by simp [Tryz.f24]) fun X hn hX => ?_
      repeat' (first | (with_reducible first | refine V_seq ?_ | refine V_skip ?_ | refine V_ret ?_) | ((with_reducible refine V_cond ?_); simp only [go_sem, simprocAttr]) | ((first | refine V_region (by rw [hn]; rfl) ?_ | refine V_drawn hmix (by rw [hn]; rfl) ?_); intro K hK) | ((first | with_reducible refine evOps_n ?_ | ((with_reducible apply evOps_g); rfl) | with_reducible refine evOpsD_n ?_ | ((with_reducible apply evOpsD_g); rfl)); intro K hK; simp (contextual := true) only [go_sem, simprocAttr]) | with_reducible refine evOps_nil ?_ | ((with_reducible refine evOpsD_nil ?_ ?_); kernel_rfl) | ((with_reducible refine hK _ ?_); clear hK K) | (with_reducible first | refine And.intro ?_ ?_ | refine nxt_n ?_ | refine nxt_r ?_ | refine inR_mk ?_ ?_) | ((with_reducible refine evCall_at 44 ?_); refine EvCall.mk (ht) cal_Functor_then [(0,0),(1,1),(2,2),(3,3),(4,4),(5,5),(6,6),(7,7),(8,8),(9,9)] [] (by simp [go_sem] <;> (repeat' (first | rfl | constructor))) (by simp [go_sem] <;> (repeat' (first | rfl | constructor))) ?_; all_goals try simp only [go_sem, simprocAttr]) | ((with_reducible refine (id ?_ : EvCall _ _ [.ptr 10 0] _ _)); refine EvCall.mk (h1) cal_allCones [] [10] (by simp [go_sem] <;> (repeat' (first | rfl | constructor))) (by simp [go_sem] <;> (repeat' (first | rfl | constructor))) ?_; all_goals try simp only [go_sem, simprocAttr]) | ((with_reducible refine (id ?_ : EvCall _ _ [.ptr 10 12] _ _)); refine EvCall.mk (h2) cal_allCones [(0,11)] [10,0,1,2,3,4,5,6,7,8,9] (by simp [go_sem] <;> (repeat' (first | rfl | constructor))) (by simp [go_sem] <;> (repeat' (first | rfl | constructor))) ?_; all_goals try simp only [go_sem, simprocAttr]) | (refine fun (hc : (_ : Bool) = _) => ?_; try simp only [hcS] at hc))
      all_goals try exact om_
      · (first | refine ret_auto ?_ | refine ret_auto' ?_); simp only [go_sem, simprocAttr, Tryz.f24]
    · have h2 := sp_allCones_o (thF_is hd hf st) (.inr ⟨l2, rfl, rfl⟩)
      refine spec_of_V (E := TE) 0 Tryz.func24 rfl (by simp [Tryz.f24]) fun X hn hX => ?_
      repeat' (first | (with_reducible first | refine V_seq ?_ | refine V_skip ?_ | refine V_ret ?_) | ((with_reducible refine V_cond ?_); simp only [go_sem, simprocAttr]) | ((first | refine V_region (by rw [hn]; rfl) ?_ | refine V_drawn hmix (by rw [hn]; rfl) ?_); intro K hK) | ((first | with_reducible refine evOps_n ?_ | ((with_reducible apply evOps_g); rfl) | with_reducible refine evOpsD_n ?_ | ((with_reducible apply evOpsD_g); rfl)); intro K hK; simp (contextual := true) only [go_sem, simprocAttr]) | with_reducible refine evOps_nil ?_ | ((with_reducible refine evOpsD_nil ?_ ?_); kernel_rfl) | ((with_reducible refine hK _ ?_); clear hK K) | (with_reducible first | refine And.intro ?_ ?_ | refine nxt_n ?_ | refine nxt_r ?_ | refine inR_mk ?_ ?_) | ((with_reducible refine evCall_at 44 ?_); refine EvCall.mk (ht) cal_Functor_then [(0,0),(1,1),(2,2),(3,3),(4,4),(5,5),(6,6),(7,7),(8,8),(9,9)] [] (by simp [go_sem] <;> (repeat' (first | rfl | constructor))) (by simp [go_sem] <;> (repeat' (first | rfl | constructor))) ?_; all_goals try simp only [go_sem, simprocAttr]) | ((with_reducible refine (id ?_ : EvCall _ _ [.ptr 10 0] _ _)); refine EvCall.mk (h1) cal_allCones [] [10] (by simp [go_sem] <;> (repeat' (first | rfl | constructor))) (by simp [go_sem] <;> (repeat' (first | rfl | constructor))) ?_; all_goals try simp only [go_sem, simprocAttr]) | ((with_reducible refine (id ?_ : EvCall _ _ [.ptr 10 12] _ _)); refine EvCall.mk (h2) cal_allCones [] [10,0,1,2,3,4,5,6,7,8,9] (by simp [go_sem] <;> (repeat' (first | rfl | constructor))) (by simp [go_sem] <;> (repeat' (first | rfl | constructor))) ?_; all_goals try simp only [go_sem, simprocAttr]) | (refine fun (hc : (_ : Bool) = _) => ?_; try simp only [hcS] at hc))
      all_goals try exact om_
      · (first | refine ret_auto ?_ | refine ret_auto' ?_); simp only [go_sem, simprocAttr, Tryz.f24]
end Go.Eng
end
