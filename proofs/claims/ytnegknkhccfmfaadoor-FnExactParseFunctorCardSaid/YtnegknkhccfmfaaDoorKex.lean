/- Several texts in one: EngRF, EngBX, EngMp, EngCl, EngDr, EngHk, EngNm. -/
import Derived.Test.YtnegknkhccfmfaaDoorKdx
import Derived.RangeFuncIn
import Derived.Maps.Views
import Derived.Laws.BytesArg
import Derived.Carry
set_option linter.unusedVariables false
set_option linter.unusedSimpArgs false
section
namespace Go.Eng
open Go
def idML (ids : List Nat) : List (Nat × Nat) := ids.map fun i => (i, i)
end Go.Eng
end
section
namespace Go.Eng
open Go
section
variable {X : Cx} {σ : Ss}
end
end Go.Eng
end
section
namespace Go.Eng
open Go Go.Maps Go.RowKit Go.WideMaps
structure MapT (P : Program) (t k e : TypeId) : Prop where
  und : P.underlying t = some (.map k e)
  key : P.underlying k = some .string
  el : P.underlying e = some (.int .i64)
  z : ∀ w, (zeroValue e).run P w = .ok (.int .i64 0) w
section
variable {E : Env} {d : Option Nat} {σ : Ss} {K : Ss → Prop}
theorem hook_int {src dst : TypeId} {k : IntKind} {q : IntKind} {x : Operand} {n : Int} (hs : (E.P.underlying src).isSome = true) (ht : E.P.underlying dst = some (.int k)) (hx : σ.opd x = .v (.int q n)) (hK : K (σ.ap d (.v (.int k (k.wrap n))) [] σ.nx)) : EvHook E d (.convert src dst x) σ K := by
  refine ⟨[], _, [], _, fun X o _ hd ho hdn tm rs h1 h2 => ?_, hK, fun i hi => by simp at hi⟩
  refine step_val (E := E) (by rw [hd]; exact hdn) _ fun ac w c hp h => ?_
  have hx1 := h x
  have ex : opd tm x = σ.opd x := h1 x (by rw [ho]; simp [Op.operands])
  rw [ex, hx] at hx1
  simp only [Sv.ok] at hx1
  obtain ⟨u, hu⟩ := Option.isSome_iff_exists.mp hs
  simp [execOp, ho, hx1, convert, run_underlying hu, run_underlying ht, Conv.intToInt]
theorem wrap_u8 {n : Int} (h0 : 0 ≤ n) (h1 : n < 256) : IntKind.wrap .u8 n = n := by
  unfold IntKind.wrap
  simp [IntKind.bits, IntKind.signed]
  omega
theorem hook_u8 {src dst : TypeId} {q : IntKind} {x : Operand} {n : Int} (hs : (E.P.underlying src).isSome = true) (ht : E.P.underlying dst = some (.int .u8)) (hx : σ.opd x = .v (.int q n)) (h0 : 0 ≤ n) (h1 : n < 256) (hK : K (σ.ap d (.v (.int .u8 n)) [] σ.nx)) : EvHook E d (.convert src dst x) σ K :=
  hook_int hs ht hx (by rw [wrap_u8 h0 h1]; exact hK)
def bys (l : List Int) : Dt := .sl 1 (.v (.int .u8 0)) (l.map fun n => .v (.int .u8 n))
theorem hook_str {src dst e : TypeId} {x : Operand} {i cv : Nat} {l : List Int} (hs : E.P.underlying src = some (.slice e)) (he : E.P.underlying e = some (.int .u8)) (ht : E.P.underlying dst = some .string) (hx : σ.opd x = .sl i) (hi : σ.get i = ⟨cv, .arr (bys l)⟩)
    (hK : K (σ.ap d (.v (.string (strOfNums l))) [] σ.nx)) : EvHook E d (.convert src dst x) σ K := by
  refine ⟨[i], _, [], _, fun X o _ hd ho hdn tm rs h1 h2 => ?_, hK, fun j hj => .inl ?_⟩
  · have hr : rs i = ⟨cv, .arr (bys l)⟩ := (h2 i (by simp)).trans hi
    refine step_val (E := E) (by rw [hd]; exact hdn) _ fun ac w c hp h => ?_
    have hx1 := h x
    have ex : opd tm x = σ.opd x := h1 x (by rw [ho]; simp [Op.operands])
    rw [ex, hx] at hx1
    simp only [Sv.ok] at hx1
    have hres := hp.res i
    rw [hr] at hres
    obtain ⟨h3, h4⟩ := hres
    simp only [bys, OwV] at h3
    obtain ⟨_, h3⟩ := h3
    rcases h3 with ⟨e1, e2⟩ | ⟨g, n, cap, cur, e', e1, e2, e3, e4, e5, e6, e7, e8⟩
    · have : l = [] := by simpa using e2
      subst this
      simp only [execOp, ho, hx1.2, e1, Sem.run_bind]
      rw [run_convert_bytes_nil w src e hs he 0 0 dst ht]
      rfl
    · have hln : n = l.length := by simpa using e2
      have hcur : cur.toList.take l.length = l.map (Value.int .u8) := by
        have hfl : (l.map fun n => Dt.v (.int .u8 n)).all Dt.isV = true := by simp [Dt.isV]
        have := (OwL.flat hfl).1 e8
        simpa [Dt.val, Function.comp_def] using this
      simp only [execOp, ho, hx1.2, e1, Sem.run_bind]
      rw [run_convert_bytes_arg w src e hs he g 0 n cap l hln.symm (fun j hj => by
        have hjl : j < l.length := by omega
        have h5 : (cur.toList.take l.length)[j]? = some (.int .u8 (l.getD j 0)) := by
          rw [hcur]; simp [hjl]
        rw [List.getElem?_take, if_pos hjl] at h5
        simp [World.cell?, e6]
        simpa using h5) dst ht]
      rfl
  · simp only [List.mem_singleton] at hj
    subst hj
    exact reach_self (by simp [Op.operands, hx, Sv.ids])
end
end Go.Eng
end
section
namespace Go.Eng
open Go
structure LC where
  l : List Sv
  ok : SvPure l = true
theorem pure_cases {s : Sv} (h : s.pure = true) : (∃ x, s = .v x) ∨ (∃ d, s = .bor [] d) ∨ ∃ ds, s = .bptr [] ds := by
  cases s with
  | v x => exact .inl ⟨x, rfl⟩
  | bor ts d =>
    cases ts with
    | nil => exact .inr (.inl ⟨d, rfl⟩)
    | cons _ _ => cases h
  | bptr ts d =>
    cases ts with
    | nil => exact .inr (.inr ⟨d, rfl⟩)
    | cons _ _ => cases h
  | _ => cases h
theorem idsL_pure : ∀ {l : List Sv}, SvPure l = true → Sv.idsL l = []
  | [], _ => by simp [Sv.idsL]
  | s :: l, h => by
    simp only [SvPure, Bool.and_eq_true] at h
    rcases pure_cases h.1 with ⟨x, rfl⟩ | ⟨d, rfl⟩ | ⟨d, rfl⟩ <;> simp [Sv.idsL, Sv.ids, idsL_pure h.2]
theorem renL_pure {R : Rn} (hR : R.vt = []) : ∀ {l : List Sv}, SvPure l = true → Sv.renL R l = l
  | [], _ => by simp [Sv.renL]
  | s :: l, h => by
    simp only [SvPure, Bool.and_eq_true] at h
    rcases pure_cases h.1 with ⟨x, rfl⟩ | ⟨d, rfl⟩ | ⟨d, rfl⟩ <;> simp [Sv.renL, Sv.ren, renT, hR, renL_pure hR h.2]
theorem rvL_pure {rs : Nat → Rs} : ∀ {l : List Sv}, SvPure l = true → rvL rs l = l
  | [], _ => by simp [rvL]
  | s :: l, h => by
    simp only [SvPure, Bool.and_eq_true] at h
    rcases pure_cases h.1 with ⟨x, rfl⟩ | ⟨d, rfl⟩ | ⟨d, rfl⟩ <;> simp [rvL, rvS, rvL_pure h.2]
theorem pSvL_pure : ∀ {l : List Sv}, SvPure l = true → pSvL l l = []
  | [], _ => by simp [pSvL]
  | s :: l, h => by
    simp only [SvPure, Bool.and_eq_true] at h
    rcases pure_cases h.1 with ⟨x, rfl⟩ | ⟨d, rfl⟩ | ⟨d, rfl⟩ <;> simp [pSvL, pSv, pSvL_pure h.2]
@[go_sem] theorem idsL_lc (c : LC) : Sv.idsL c.l = [] := idsL_pure c.ok
@[go_sem] theorem renL_lc (c : LC) (ML : List (Nat × Nat)) (f g : Nat → Nat) : Sv.renL ⟨ML, f, g, []⟩ c.l = c.l := renL_pure rfl c.ok
@[go_sem] theorem rvL_lc (c : LC) (rs : Nat → Rs) : rvL rs c.l = c.l := rvL_pure c.ok
@[go_sem] theorem pSvL_lc (c : LC) : pSvL c.l c.l = [] := pSvL_pure c.ok
@[go_sem] theorem mtL_lc (c : LC) (ML : List (Nat × Nat)) (V : List Nat) (rs rs0 : Nat → Rs) : Sv.mtL ML V rs rs0 c.l c.l ↔ True := ⟨fun _ => trivial, fun _ => mtL_pure c.ok⟩
/-! ### Nil slices in a result, told as empty lists of one's own -/
def EmptyL (L : List (Nat × Rs)) : Prop := ∀ p ∈ L, ∃ sz df, 0 < sz ∧ p.2 = ⟨1, .arr (.sl sz df [])⟩
theorem emptyL_get : ∀ {L : List (Nat × Rs)}, EmptyL L → ∀ i, rsL L i = ⟨0, .gone⟩ ∨ ∃ sz df, 0 < sz ∧ rsL L i = ⟨1, .arr (.sl sz df [])⟩
  | [], _, i => .inl rfl
  | (j, r) :: l, h, i => by
    rw [rsL_cons]
    split
    · exact .inr (h (j, r) (by simp))
    · exact emptyL_get (fun p hp => h p (by simp [hp])) i
theorem Spec.adopt {P : Program} {f : FuncId} {args : List Sv} {r r' : Sv} {L1 : List (Nat × Rs)} (h : Spec P f args [] r []) (hL : EmptyL L1)
    (hr : ∀ (w : World) (S : Nat → Prop) (v : Value) (c : Nat → Cn), r.ok w S c (rsL []) v → r'.ok w S (fun _ => ⟨0, .slice none 0 0, fun _ => False⟩) (rsL L1) v) : Spec P f args [] r' L1 := by
  intro w0 U S c0 vs hp ha
  refine (h w0 U S c0 vs hp ha).mono fun e w' ⟨v, c1, he, hp1, hv, _⟩ => ⟨v, fun _ => ⟨0, .slice none 0 0, fun _ => False⟩, he, ?_, hr _ _ _ _ hv, fun i hi => by simp [rsL_nil] at hi⟩
  refine ⟨hp1.os, hp1.tape, hp1.output, hp1.size, hp1.unch, hp1.sub, hp1.ult, fun i => ?_, fun i b hb => hb.elim, fun i b hb => hb.elim, fun i j b _ hb => hb.elim, fun i => rfl⟩
  rcases emptyL_get hL i with e | ⟨sz, df, h0, e⟩
  · rw [e]; exact fun b hb => hb
  · rw [e]
    refine ⟨?_, fun _ _ _ hh => by cases hh⟩
    simp [OwV, h0]
theorem emptyL_cons_i {i : Nat} {L : List (Nat × Rs)} (h : EmptyL L) : EmptyL ((i, ⟨1, .arr (ints [])⟩) :: L) := fun p hp => by
  rcases List.mem_cons.1 hp with rfl | hp
  · exact ⟨_, _, Nat.one_pos, rfl⟩
  · exact h p hp
theorem emptyL_cons_s {i : Nat} {L : List (Nat × Rs)} (h : EmptyL L) : EmptyL ((i, ⟨1, .arr (intss [])⟩) :: L) := fun p hp => by
  rcases List.mem_cons.1 hp with rfl | hp
  · exact ⟨_, _, Nat.one_pos, rfl⟩
  · exact h p hp
theorem emptyL_nil : EmptyL [] := fun p hp => by simp at hp
/-! ### A table that is being filled -/
theorem intsN_at {p : List (List Int)} {m k : Nat} (h : k < p.length) : (intsN p m).at k = ints (p.getD k []) := by
  simp [intsN, Dt.at, Dt.cells, Dt.df, List.getD_eq_getElem?_getD, List.getElem?_append, h]
@[go_sem ↓ high] theorem view0_vv {V : List Nat} {rs : Nat → Rs} (x y : Value) : Sv.view0 V rs (.v x) (.v y) ↔ y = x := by
  simp [Sv.view0]
@[go_sem high] theorem view0L_nil2 {V : List Nat} {rs : Nat → Rs} : view0L V rs [] [] ↔ True := view0L_nil
@[go_sem high] theorem view0L_cons2 {V : List Nat} {rs : Nat → Rs} (s : Sv) (l : List Sv) (d : Dt) (r : List Dt) : view0L V rs (s :: l) (d :: r) ↔ s.view0 V rs d ∧ view0L V rs l r := view0L_cons s l d r
end Go.Eng
end
section
namespace Go.Eng
open Go
/-! ### Lists of lists of lists of numbers -/
@[go_sem] theorem intsss_nil1 : Dt.sl 1 (intss []) [] = intsss [] := rfl
@[go_sem] theorem intsss_one1 (q : List (List Int)) : Dt.sl 1 (intss []) [intss q] = intsss [q] := rfl
@[go_sem] theorem intsss_flat1 (q : List (List Int)) : (intsss [q]).flat = false := rfl
@[go_sem] theorem intsss_ones (l : List (List (List Int))) : (intsss l).ones = true := by
  simp only [intsss, Dt.ones, Dt.cells, List.all_map]
  exact List.all_eq_true.2 fun _ _ => rfl
@[go_sem] theorem intsss_app (l m : List (List (List Int))) : Dt.app 1 (intss []) (intsss l) (intsss m) = intsss (l ++ m) := by simp [intsss, intss, Dt.app, Dt.cells, List.map_append]
end Go.Eng
end
section
namespace Go.Eng
open Go
/-! ### An operation answered by what is known of the frame -/
def HkX (X : Cx) (E : Env) (d : Option Nat) (op : Op) (σ : Ss) (K : Ss → Prop) : Prop :=
  ∃ foot sv ru nx, (∀ w1 U1 ds, Reb X w1 U1 ds → ∀ o : Oper, o.dst = d → o.op = op → (∀ k, d = some k → k < X.n) → LStep (X.at w1 U1 ds) E.P o (lk σ.tm) (rsL σ.rs) foot sv ru) ∧ K (σ.ap d sv ru nx) ∧
    ∀ i ∈ foot, i ∈ reach (rsL σ.rs) (deepOp op) (op.operands.toList.flatMap fun x => (σ.opd x).ids) ∨ i ∈ ru.map (·.1)
def evOx (X : Cx) (E : Env) (opsA : List Oper) (o : Oper) (σ : Ss) (K : Ss → Prop) : Prop := evO E opsA o σ K ∨ ((o.guard = none ∨ ∃ j want g, o.guard = some (j, want) ∧ gdSlot opsA j = some g ∧ lk σ.tm g = .v (.bool want)) ∧ HkX X E o.dst o.op σ K)
def evOpsX (X : Cx) (E : Env) (opsA : List Oper) : List Oper → Ss → (Ss → Prop) → Prop
  | [], σ, K => K σ
  | o :: r, σ, K => evOx X E opsA o σ fun σ' => evOpsX X E opsA r σ' K
def evOpsDX (X : Cx) (E : Env) (opsA : List Oper) : List Oper → Ss → List (List Nat × List Nat) → (Ss → Prop) → Prop
  | [], σ, acc, K => confB opsA acc.reverse = true ∧ K σ
  | o :: r, σ, acc, K => evOx X E opsA o σ fun σ' => evOpsDX X E opsA r σ' ((ftOf σ o, (σ'.rs.take (σ'.rs.length - σ.rs.length)).map (·.1)) :: acc) K
section
variable {X : Cx} {E : Env} {w1 : World} {U1 : Nat → Prop} {ds : List Deferred}
theorem evOx_found (hr : Reb X w1 U1 ds) (hk : E.hk X.c0 X.rs0) {opsA : List Oper} {o : Oper} {σ : Ss} {K : Ss → Prop} (hn : ∀ o' ∈ opsA, ∀ k, o'.dst = some k → k < X.n) (ho : ∀ k, o.dst = some k → k < X.n) (h : evOx X E opsA o σ K) :
    (∃ foot sv ru nx, LStep (X.at w1 U1 ds) E.P o (lk σ.tm) (rsL σ.rs) foot sv ru ∧ K (σ.ap o.dst sv ru nx) ∧ (∀ i ∈ foot, i ∈ ftOf σ o ∨ i ∈ ru.map (·.1)) ∧ (o.guard = none ∨ ∃ j want d, o.guard = some (j, want) ∧ gdSlot opsA j = some d ∧ d < X.n ∧ lk σ.tm d = .v (.bool want))) ∨
    (K (σ.ap o.dst (.v undef) [] σ.nx) ∧ ∃ j want d v, o.guard = some (j, want) ∧ gdSlot opsA j = some d ∧ d < X.n ∧ lk σ.tm d = .v v ∧ v ≠ .bool want) := by
  rcases h with h | ⟨hg, foot, sv, ru, nx, h1, h2, h3⟩
  · exact evO_found (X := X.at w1 U1 ds) hk hn ho h
  · refine .inl ⟨foot, sv, ru, nx, h1 w1 U1 ds hr o rfl rfl ho, h2, h3, ?_⟩
    rcases hg with hg | ⟨j, want, g, g1, g2, g3⟩
    · exact .inl hg
    · refine .inr ⟨j, want, g, g1, g2, ?_, g3⟩
      have hd := g2
      unfold gdSlot at hd
      cases ho' : opsA[j]? with
      | none => rw [ho'] at hd; cases hd
      | some o' => rw [ho'] at hd; exact hn o' (List.mem_of_getElem? ho') g hd
theorem evOpsX_text (hr : Reb X w1 U1 ds) (hk : E.hk X.c0 X.rs0) {opsA : List Oper} {K : Ss → Prop} (hn : ∀ o' ∈ opsA, ∀ k, o'.dst = some k → k < X.n) : ∀ (l : List Oper) (σ : Ss), (∀ o ∈ l, ∀ k, o.dst = some k → k < X.n) → evOpsX X E opsA l σ K →
    ∀ a w (Q : Exit → Act → World → Prop), Gam (X.at w1 U1 ds) (lk σ.tm) (rsL σ.rs) a w → (∀ s a' w', Gam (X.at w1 U1 ds) (lk s.tm) (rsL s.rs) a' w' → K s → Q .normal a' w') → wpListIn X.F 0 E.P opsA.toArray Q l a w
  | [], σ, _, h, a, w, Q, hg, hQ => wpListIn_nil (hQ σ a w hg h)
  | o :: l, σ, hl, h, a, w, Q, hg, hQ => by
    simp only [evOpsX] at h
    have ih := fun (s : Ss) (hs : evOpsX X E opsA l s K) => evOpsX_text hr hk hn l s (fun o ho => hl o (by simp [ho])) hs
    rcases evOx_found hr hk hn (hl o (by simp)) h with ⟨foot, sv, ru, nx, h1, h2, _, h3⟩ | ⟨h2, j, want, d, v, g1, g2, g3, g4, g5⟩
    · have hwant : Region.wanted o (yielded opsA.toArray a.tmps) = true := by
        rcases h3 with h3 | ⟨j, want, d, g1, g2, g3, g4⟩
        · simp [Region.wanted, h3]
        · simp [Region.wanted, g1, yielded_of (X := X.at w1 U1 ds) hg g2 g4 g3]
      unfold wpListIn
      rw [if_pos hwant]
      refine h1 _ _ (fun _ _ => rfl) (fun _ _ => rfl) a w _ Q hg fun a' w' hg' => ?_
      refine ih _ h2 a' w' Q ?_ hQ
      rw [lk_ap, rsL_ap]; exact hg'
    · have hwant : Region.wanted o (yielded opsA.toArray a.tmps) = false := by
        simp only [Region.wanted, g1, yielded_of (X := X.at w1 U1 ds) hg g2 g4 g3]
        cases v <;> simp_all
      unfold wpListIn
      rw [if_neg (by rw [hwant]; exact Bool.false_ne_true)]
      refine ⟨fun f _ => X.F_fn f, ih _ h2 _ w Q ?_ hQ⟩
      obtain ⟨q1, q2, c, hp, ht, hpin⟩ := hg
      rw [lk_ap, rsL_ap]
      exact gam_put (X := X.at w1 U1 ds) q1 q2 ht hpin (Ext.refl _ _ _ _) hp (hl o (by simp)) (by simp [Sv.ok])
theorem evOpsDX_tx (hr : Reb X w1 U1 ds) {opsA : List Oper} {K : Ss → Prop} (hk : E.hk X.c0 X.rs0) (hn : ∀ o' ∈ opsA, ∀ k, o'.dst = some k → k < X.n) : ∀ (l : List Oper) (σ : Ss) (acc : List (List Nat × List Nat)), (∀ o ∈ l, ∀ k, o.dst = some k → k < X.n) →
    evOpsDX X E opsA l σ acc K → ∃ en τ, Tx (X.at w1 U1 ds) E opsA l σ en τ ∧ confB opsA (acc.reverse ++ FU en) = true ∧ K τ
  | [], σ, acc, _, h => ⟨[], σ, ⟨rfl, rfl⟩, by simpa [FU] using h.1, h.2⟩
  | o :: l, σ, acc, hl, h => by
    simp only [evOpsDX] at h
    have key : ∀ (sv : Sv) (ru : List (Nat × Rs)) (nx : Nat), ((σ.ap o.dst sv ru nx).rs.take ((σ.ap o.dst sv ru nx).rs.length - σ.rs.length)).map (·.1) = ru.map (·.1) := fun sv ru nx => by
      simp [Ss.ap]
    rcases evOx_found hr hk hn (hl o (by simp)) h with ⟨foot, sv, ru, nx, h1, h2, h3, h4⟩ | ⟨h2, h4⟩
    · obtain ⟨en, τ, g1, g2, g3⟩ := evOpsDX_tx hr hk hn l _ _ (fun o ho => hl o (by simp [ho])) h2
      refine ⟨⟨sv, ru, ftOf σ o⟩ :: en, τ, ⟨_, en, nx, rfl, .inl ⟨foot, h1, h3, h4⟩, g1⟩, ?_, g3⟩
      rw [key] at g2
      simpa [FU] using g2
    · obtain ⟨en, τ, g1, g2, g3⟩ := evOpsDX_tx hr hk hn l _ _ (fun o ho => hl o (by simp [ho])) h2
      refine ⟨⟨.v undef, [], ftOf σ o⟩ :: en, τ, ⟨_, en, σ.nx, rfl, .inr ⟨rfl, rfl, h4⟩, g1⟩, ?_, g3⟩
      rw [key] at g2
      simpa [FU] using g2
theorem wp_drawnX (hr : Reb X w1 U1 ds) {l : List Oper} {id : Nat} {σ : Ss} {K : Ss → Prop} {Q : Exit → Act → World → Prop} (hk : E.hk X.c0 X.rs0) (hm : E.P.follows .mixedOrders = true) (hn : ∀ o ∈ l, ∀ k, o.dst = some k → k < X.n) (h : evOpsDX X E l l σ [] K)
    {a : Act} {w : World} (hg : Gam (X.at w1 U1 ds) (lk σ.tm) (rsL σ.rs) a w) (hQ : ∀ s a' w', Gam (X.at w1 U1 ds) (lk s.tm) (rsL s.rs) a' w' → K s → Q .normal a' w') : (Code.region id l.toArray true).wpIn X.F 0 E.P Q a w := by
  obtain ⟨en, τ, h1, h2, h3⟩ := evOpsDX_tx hr hk hn l σ [] hn h
  refine wpIn_region_any hm ?_
  have hgd : ∀ j, (Array.replicate l.toArray.size false).getD j false = false := fun j => by
    simp only [Array.getD]; split <;> simp
  refine any_of_tx (X := X.at w1 U1 ds) hn h1 (by simpa using h2) (fun a' w' hg' => hQ τ a' w' hg' h3) _ _ a _ (by simp) ?_ (fun j o _ hd => by simp only [hgd] at hd; cases hd) ?_
  · have : ∀ n D, cnt n D ≤ n := by
      intro n D
      induction n with
      | zero => exact Nat.le_refl _
      | succ n ih => simp only [cnt]; split <;> omega
    simpa using this _ _
  · have e1 : apD (lk σ.tm) (TU l en) 0 (fun j => (Array.replicate l.toArray.size false).getD j false) = lk σ.tm := funext fun s => apD_none _ _ _ _ _ fun j _ _ _ => hgd _
    have e2 : apD (rsL σ.rs) (RU en) 0 (fun j => (Array.replicate l.toArray.size false).getD j false) = rsL σ.rs := funext fun s => apD_none _ _ _ _ _ fun j _ _ _ => hgd _
    rw [e1, e2]
    exact gam_draw hg
theorem V_regionX {σ : Ss} {Q : Exit → Ss → Prop} {l : List Oper} {id : Nat} (hn : l.all (fun o => o.dst.all (fun k => decide (k < X.n))) = true) (h : ∀ K : Ss → Prop, (∀ s, Q .normal s → K s) → evOpsX X E l l σ K) : V X E (.region id l.toArray false) σ Q := fun hk a w hg => by
  obtain ⟨w1, U1, ds, hr, hg⟩ := hg
  have hn' : ∀ o' ∈ l, ∀ k, o'.dst = some k → k < X.n := fun o ho k hk => by
    have := List.all_eq_true.1 hn o ho
    rw [hk] at this
    simpa using this
  exact wpIn_region_list (evOpsX_text hr hk hn' l σ hn' (h _ fun _ h => h) a w _ hg fun s a' w' hg' hK => ⟨s, ⟨w1, U1, ds, hr, hg'⟩, hK⟩)
theorem V_drawnX {σ : Ss} {Q : Exit → Ss → Prop} {l : List Oper} {id : Nat} (hm : E.P.follows .mixedOrders = true) (hn : l.all (fun o => o.dst.all (fun k => decide (k < X.n))) = true) (h : ∀ K : Ss → Prop, (∀ s, Q .normal s → K s) → evOpsDX X E l l σ [] K) : V X E (.region id l.toArray true) σ Q := fun hk a w hg => by
  obtain ⟨w1, U1, ds, hr, hg⟩ := hg
  have hn' : ∀ o' ∈ l, ∀ k, o'.dst = some k → k < X.n := fun o ho k hk => by
    have := List.all_eq_true.1 hn o ho
    rw [hk] at this
    simpa using this
  exact wp_drawnX hr hk hm hn' (h _ fun _ h => h) hg fun s a' w' hg' hK => ⟨s, ⟨w1, U1, ds, hr, hg'⟩, hK⟩
variable {A r : List Oper} {σ : Ss} {K : Ss → Prop} {d : Option Nat} {op : Op} {t : TypeId} {p : String} {af : Array Edge} {j : Nat} {want : Bool} {acc : List (List Nat × List Nat)}
theorem evOpsX_nil (h : K σ) : evOpsX X E A [] σ K := h
theorem evOpsX_n (h : ∀ K' : Ss → Prop, (∀ s, evOpsX X E A r s K → K' s) → evOp E d op σ K') : evOpsX X E A (⟨d, op, t, p, af, none⟩ :: r) σ K := .inl (h _ fun _ h => h)
theorem evOpsX_h (h : ∀ K' : Ss → Prop, (∀ s, evOpsX X E A r s K → K' s) → HkX X E d op σ K') : evOpsX X E A (⟨d, op, t, p, af, none⟩ :: r) σ K := .inr ⟨.inl rfl, h _ fun _ h => h⟩
theorem evOpsDX_nil (h1 : confB A acc.reverse = true) (h : K σ) : evOpsDX X E A [] σ acc K := ⟨h1, h⟩
theorem evOpsDX_n (h : ∀ K' : Ss → Prop, (∀ s, evOpsDX X E A r s ((ftOf σ ⟨d, op, t, p, af, none⟩, (s.rs.take (s.rs.length - σ.rs.length)).map (·.1)) :: acc) K → K' s) → evOp E d op σ K') : evOpsDX X E A (⟨d, op, t, p, af, none⟩ :: r) σ acc K := .inl (h _ fun _ h => h)
theorem evOpsDX_h (h : ∀ K' : Ss → Prop, (∀ s, evOpsDX X E A r s ((ftOf σ ⟨d, op, t, p, af, none⟩, (s.rs.take (s.rs.length - σ.rs.length)).map (·.1)) :: acc) K → K' s) → HkX X E d op σ K') : evOpsDX X E A (⟨d, op, t, p, af, none⟩ :: r) σ acc K := .inr ⟨.inl rfl, h _ fun _ h => h⟩
end
/-! ### Contracts that ask something of what may be read -/
def SpecR (P : Program) (f : FuncId) (args : List Sv) (L0 : List (Nat × Rs)) (r : Sv) (L1 : List (Nat × Rs)) (R : World → (Nat → Prop) → Prop) : Prop :=
  ∀ (w0 : World) (U S : Nat → Prop) (c0 : Nat → Cn) (vs : List Value), R w0 S → Hp w0 U S c0 (rsL L0) w0 → Sv.okL w0 S c0 (rsL L0) args vs →
    Calls P f vs.toArray w0 fun e w' => ∃ v c1, e = .returned v ∧ Hp w0 U S c1 (rsL L1) w' ∧ Sv.ok w' S c1 (rsL L1) r v ∧
      (∀ i, 1 ≤ (rsL L0 i).cv → 1 ≤ (rsL L1 i).cv ∧ (c1 i).blk = (c0 i).blk ∧ (c1 i).hdr = (c0 i).hdr)
theorem specR_of_V {E : Env} {R : World → (Nat → Prop) → Prop} {f : FuncId} {fn : Func} {c : Code} {args : List Sv} {L0 L1 : List (Nat × Rs)} {r : Sv} (nx : Nat) (hf : E.P.funcs[f]? = some fn) (hb : fn.body = some c) (hn : args.length ≤ fn.ntmps)
    (h : ∀ X : Cx, X.n = fn.ntmps → X.rs0 = rsL L0 → R X.w0 X.S → V X E c ⟨argTm 0 args, L0, nx⟩ (retQ E fn.results.toList L0 r L1)) (hE : ∀ c rs, E.hk c rs := by exact fun _ _ => trivial) : SpecR E.P f args L0 r L1 R := by
  intro w0 U S c0 vs hR hp ha
  have hlen := ha.length
  refine callsIn_wide.1 (callsIn_of_wp_marks (F := Fence.wide) (n := 0) hf hb trivial (wpIn_mono (h ⟨w0, U, S, c0, rsL L0, fn.ntmps, none, []⟩ rfl rfl hR (hE _ _) _ _ ⟨w0, U, [], .refl hp.sub hp.ult, rfl, ?_, c0, hp, fun s => ?_, fun i hi => ⟨hi, rfl, rfl⟩⟩) fun e a' w' ⟨t, h1, h2⟩ => ?_))
  · simp; omega
  · have h1 := argTm_ok args vs 0 [] (List.replicate (fn.ntmps - vs.length) undef) rfl ha s
    have h2 : vs.toArray ++ Array.replicate (fn.ntmps - vs.toArray.size) undef = ([] ++ vs ++ List.replicate (fn.ntmps - vs.length) undef).toArray := by
      apply Array.ext'; simp
    rw [h2]; exact h1
  · have key : (∃ ML, evRes E t fn.results.toList fun s => evSub L0 ML ⟨[(0, s)], t.rs, 0⟩ ⟨[(0, r)], L1, 0⟩) → LeavesInM Fence.wide 0 E.P fn a'.tmps (fun e w' => ∃ v' c1, e = .returned v' ∧ Hp w0 U S c1 (rsL L1) w' ∧ Sv.ok w' S c1 (rsL L1) r v' ∧
        (∀ i, 1 ≤ (rsL L0 i).cv → 1 ≤ (rsL L1 i).cv ∧ (c1 i).blk = (c0 i).blk ∧ (c1 i).hdr = (c0 i).hdr)) a'.defers .returning w' := by
      rintro ⟨ML, hres⟩
      obtain ⟨w1, U1, ds, hrb, hd, hn', c, hp', ht, hpin⟩ := h1
      obtain ⟨l, hds, hnd, hmk⟩ := hrb.marks
      have hd' : a'.defers = l.map mkD := by rw [hd]; show ds = _; rw [hds]; exact List.append_nil _
      rw [hd']
      refine leaves_marks l w' hnd (fun r' hr' => ?_) fun w2 e1 e2 e3 e4 e5 => ?_
      · obtain ⟨m1, m2, m3⟩ := hmk r' hr'
        rw [hp'.unch r' m1]; exact m3
      obtain ⟨hp2, hx2⟩ := Hp.shut hrb hp' (fun r' hr' => ⟨(hmk r' hr').1, (hmk r' hr').2.1⟩) e1 e2 e3 e4 e5
      obtain ⟨v, s, hv1, hv2, g1, g2, g3, g4, g5, g6⟩ := results_run hp2 (fun s => Sv.ok_ext hx2 _ _ (ht s)) hres
      obtain ⟨c1, hp1, hren, hc⟩ := sub_core (σ := ⟨[(0, s)], t.rs, 0⟩) (τ := ⟨[(0, r)], L1, 0⟩) hp2 g1 g2 g5 g4
      refine ⟨v, hv1, v, c1, rfl, hp1, ?_, fun i hi => ?_⟩
      · have := Sv.ren_ok hren _ _ hv2
        have e : s.ren (subRn ML ⟨[(0, s)], t.rs, 0⟩ ⟨[(0, r)], L1, 0⟩) = r := g6.1
        rw [e] at this
        exact this
      · have hm := subP_get g3 i hi
        obtain ⟨_, q2, q3⟩ := hpin i hi
        have q := hc _ hm
        simp only at q
        refine ⟨(subM_get g5 _ hm).1, ?_, ?_⟩
        · rw [q]; exact q2
        · rw [q]; exact q3
    cases e with
    | normal => exact key h2
    | ret => exact key h2
    | exit i => exact h2.elim
    | goto l => exact h2.elim
    | panic ch => exact h2.elim
    | outgrown => exact h2.elim
def RdOk (X : Cx) (R : World → (Nat → Prop) → Prop) : Prop := ∀ (w : World) (S : Nat → Prop), Agree X.S X.w0 w → (∀ b, X.S b → S b) → R w S
theorem step_callR {X : Cx} {E : Env} {o : Oper} {tm : Nat → Sv} {rs : Nat → Rs} {R : World → (Nat → Prop) → Prop} (hR : ∀ (w : World) (S : Nat → Prop), Agree X.S X.w0 w → (∀ b, X.S b → S b) → R w S)
    (hdn : ∀ k, o.dst = some k → k < X.n) (x : Operand) (xs : List Operand) (tys : Array TypeId) (ho : o.op = .call { callee := .value x, args := xs.toArray, argTypes := tys }) (f : FuncId) (caps : List Sv) (hx : opd tm x = .fn f caps)
    (hf : Callable E.P f) (args : List Sv) (L0 : List (Nat × Rs)) (r : Sv) (L1 : List (Nat × Rs)) (hs : SpecR E.P f args L0 r L1 R) (ML : List (Nat × Nat)) (V : List Nat) (hco : CallOk rs L0 ML V)
    (hm : Sv.mtL ML V rs (rsL L0) (xs.map (opd tm) ++ caps) args) :
    SStep X E.P o tm rs (r.ren (callRn rs (rsL L1) ML V)) (retRu (callRn rs (rsL L1) ML V) (rsL L1)) := by
  refine SStep0.inn ?_
  rintro a w K Q ⟨hd, hn, c, hp, ht, hpin⟩ hK
  have hopd := fun z => opd_ok (X := X) (rs := rs) (tm := tm) (a := a) (w := w) (c := c) ht z
  have hx1 := hopd x
  rw [hx] at hx1
  simp only [Sv.ok] at hx1
  obtain ⟨cvs, hx1, hx2⟩ := hx1
  have hargs := Sv.mtL_ok (rs0 := rsL L0) (ML := ML) (V := V) hp _ _ _ hm ((opdL_ok hopd xs).append hx2)
  have hcall := hs w _ _ _ _ (hR w (SV X.S c V) (hp.unch.mono hp.sub) fun b hb => .inl hb) (call_pre hp hco) hargs
  unfold Oper.wp
  have hrun : (execOp a.eval o).run E.P w = .ok (.enter f (xs.map a.eval ++ cvs).toArray) w := by
    simp [execOp, ho, resolve, Deferred.ofValue, hx1, invoke, callFunc_run hf]
  rw [hrun]
  refine hcall.mono fun e w' hh => ?_
  obtain ⟨v, c1, rfl, hp1, hv, hpin1⟩ := hh
  obtain ⟨c2, hp2, hx2, hren⟩ := call_heap hp hco c1 hp1 hpin1
  exact hK _ _ (gam_put hd hn ht hpin hx2 hp2 hdn (Sv.ren_ok hren _ _ hv))
end Go.Eng
end
section
namespace Go.Eng
open Go Go.Cats
def Lent (X : Cx) (x : Value) (d : Dt) : Prop := RdV X.w0 X.S d x
theorem RdOk.at {X : Cx} {w1 : World} {U1 : Nat → Prop} {ds : List Deferred} (hr : Reb X w1 U1 ds) {R : World → (Nat → Prop) → Prop} (h : RdOk X R) : RdOk (X.at w1 U1 ds) R := fun w S ag hS => h w S ((hr.agree.mono hr.ssub).trans ag) hS
theorem HkX.callR {X : Cx} {E : Env} {d : Option Nat} {x : Operand} {args : Array Operand} {tys : Array TypeId} {σ : Ss} {K : Ss → Prop} {f : FuncId} {caps es : List Sv} {L0 L1 : List (Nat × Rs)} {r : Sv} {R : World → (Nat → Prop) → Prop}
    (hR : RdOk X R) (hs : SpecR E.P f es L0 r L1 R) (hc : Callable E.P f) (ML : List (Nat × Nat)) (V : List Nat) (hx : σ.opd x = .fn f caps)
    (h1 : evCO (rsL σ.rs) (reach (rsL σ.rs) 3 ((Sv.fn f caps).ids ++ (args.toList.map σ.opd).flatMap Sv.ids)) L0 ML V) (h2 : Sv.mtL ML V (rsL σ.rs) (rsL L0) (args.toList.map σ.opd ++ caps) es)
    (h3 : K (σ.ap d (r.ren (callRn (rsL σ.rs) (rsL L1) ML V)) (retRu (callRn (rsL σ.rs) (rsL L1) ML V) (rsL L1)) (nxOf σ.nx (retRu (callRn (rsL σ.rs) (rsL L1) ML V) (rsL L1))))) :
    HkX X E d (.call { callee := .value x, args := args, argTypes := tys }) σ K := by
  obtain ⟨a1, a2, a3, a4, a5⟩ := h1
  have hV := fun i (hi : i ∈ V) => (coV_get a4 i hi).2.2
  have hco : CallOk (rsL σ.rs) L0 ML V := ⟨a1, a2, fun i hi => (coV_get a4 i hi).1, fun i hi => (coV_get a4 i hi).2.1, fun k => (coL_get a3 k).1, fun k => (coL_get a3 k).2, coM_get a5⟩
  refine ⟨V ++ ML.map (·.2), _, _, _, fun w1 U1 ds hr o hd ho hdn tm rs g1 g2 => ?_, h3, fun i hi => ?foot⟩
  case foot =>
    rcases List.mem_append.1 hi with hi | hi
    · refine .inl ?_
      have := hV i hi
      rw [← hx] at this
      simpa [deepOp, Op.operands, Call.operands, List.flatMap_map] using this
    · exact .inr (by simpa [retRu, callRn, Function.comp_def] using hi)
  have he : ∀ i ∈ V, rs i = rsL σ.rs i := fun i hi => g2 i (by simp [hi])
  have hM : ∀ i ∈ ML.map (·.2), rs i = rsL σ.rs i := fun i hi => g2 i (List.mem_append_right _ hi)
  have hx' : opd tm x = σ.opd x := g1 x (by simp [ho, Op.operands, Call.operands])
  have hargs : args.toList.map (opd tm) = args.toList.map σ.opd := List.map_congr_left fun y hy => g1 y (by
    simp only [ho, Op.operands, Call.operands]
    simp at hy ⊢
    exact .inr hy)
  have := step_callR (X := X.at w1 U1 ds) (E := E) (tm := tm) (rs := rs) (hR.at hr) (by rw [hd]; exact hdn) x args.toList tys (by simpa using ho) f caps (hx'.trans hx) hc es L0 r L1 hs ML V (callOk_congr hco he hM) (by rw [hargs]; exact mtL_congr he _ _ h2)
  rw [callRn_congr _ he hM] at this
  exact this
end Go.Eng
end
