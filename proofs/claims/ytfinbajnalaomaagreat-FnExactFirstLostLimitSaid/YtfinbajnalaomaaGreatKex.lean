/- Several texts in one: EngRF, EngBX, EngMp, EngCl, EngDr, EngUn, EngHk, EngNm, EngMs, EngMt, EngLk, EngRw, EngPt. -/
import Derived.Test.YtfinbajnalaomaaGreatKdx
import Derived.RangeFuncIn
import Derived.Maps.Views
import Derived.Laws.BytesArg
import Derived.Carry
set_option linter.unusedVariables false
set_option linter.unusedSimpArgs false
section
namespace Go.Eng
open Go
def idML (ids : List Nat) : List (Nat × Nat) := ids.map fun i => (i, i)
end Go.Eng
end
section
namespace Go.Eng
open Go
section
variable {X : Cx} {σ : Ss}
theorem Imp.openB (i k : Nat) (cells : List Sv) (d : Dt) (hi : (σ.get i).k = .bx cells k d) (hcv : 1 ≤ (σ.get i).cv) (hsl : d.isSl = true) (hf : σ.get σ.nx = ⟨0, .gone⟩) :
    Imp X σ ⟨σ.tm, (i, ⟨(σ.get i).cv + 1, .box (cells.set k (.sl σ.nx))⟩) :: (σ.nx, ⟨1, .arr d⟩) :: σ.rs, σ.nx + 1⟩ := by
  rintro w1 U1 ds a w ⟨hd, hn, c, hp, ht, hpin⟩
  have hij : i ≠ σ.nx := fun e => by rw [e, hf] at hcv; simp at hcv
  have h1 : Rk.ok w X.S c (rsL σ.rs) (c i) (.bx cells k d) := by
    have := hp.res i
    unfold Ss.get at hi; rw [hi] at this; exact this
  obtain ⟨q1, cur, e, F, x, q2, q3, q4, q5, q6⟩ := h1
  have hone : x.oneCell' = true := bor_one hsl (OwV.rd _ _ q6)
  have hblk : ∃ g : Nat, ∀ a m k, x = .slice (some a) m k → a = ⟨g, 0, none⟩ := by
    cases d with
    | v y => cases hsl
    | pt l => cases hsl
    | ab p => cases hsl
    | sl sz' df' l =>
      simp only [OwV] at q6
      rcases q6.2 with ⟨rfl, _⟩ | ⟨g, m', cap', cur', e', r1, _⟩
      · exact ⟨0, fun _ _ _ h => by cases h⟩
      · exact ⟨g, fun a m k h => by rw [r1] at h; simp at h; exact h.1.symm⟩
  obtain ⟨g, hg⟩ := hblk
  obtain ⟨c', p1, p2, hp', hext⟩ := split_res hp i σ.nx hij hf ((σ.get i).cv + 1) (Nat.lt_succ_self _) (.box (cells.set k (.sl σ.nx))) (.arr d) ⟨g, x, F⟩ (fun b hb => (q4 b hb).1) hone (fun hx' => by
    refine ⟨⟨⟨q1, fun h => (q4 _ h).2 rfl⟩, cur, e, q2, ?_⟩, q6, hg⟩
    have h2 := Sv.okL_ext hx' _ _ q3
    have h3 := Sv.okL.set (k := k) (s := .sl σ.nx) (x := x) h2 (by
      simp only [Sv.ok, upd_other _ _ (Ne.symm hij), upd_same]
      exact ⟨Nat.le_refl _, trivial⟩)
    have h4 : cur.toList.set k x = cur.toList := by
      apply List.ext_getElem?
      intro n
      rw [List.getElem?_set]
      split
      · rename_i hn'
        subst hn'
        split
        · exact q5.symm
        · rename_i hlt
          rw [List.getElem?_eq_none (by omega)]
      · rfl
    rwa [h4] at h3)
  refine ⟨hd, hn, c', hp', fun s => Sv.ok_ext hext _ _ (ht s), fun l hl => ?_⟩
  obtain ⟨r1, r2, r3⟩ := hpin l hl
  obtain ⟨r4, r5⟩ := hext.cn l r1
  exact ⟨Nat.le_trans r1 (hext.ver l), r4.trans r2, r5.trans r3⟩
theorem Imp.closeB (i j k : Nat) (cells : List Sv) (d : Dt) (hi : (σ.get i).k = .box cells) (hc : cells[k]? = some (.sl j)) (hj : (σ.get j).k = .arr d) (hij : i ≠ j) :
    Imp X σ ⟨σ.tm, (i, ⟨(σ.get i).cv + 1, .bx (cells.set k .dead) k d⟩) :: (j, ⟨(σ.get j).cv, .gone⟩) :: σ.rs, σ.nx⟩ := by
  rintro w1 U1 ds a w ⟨hd, hn, c, hp, ht, hpin⟩
  have h1 := hp.res i
  have h2 := hp.res j
  unfold Ss.get at hi hj
  rw [hi] at h1
  rw [hj] at h2
  obtain ⟨q1, cur, e, q2, q3⟩ := h1
  obtain ⟨x, hx1, hx2⟩ := Sv.okL.get q3 hc
  simp only [Sv.ok] at hx2
  have hr := rearr (X := X.at w1 U1 ds) hp i ⟨(c i).blk, (c i).hdr, fun b => (c i).fp b ∨ (c j).fp b⟩ ((σ.get i).cv + 1) (.bx (cells.set k .dead) k d) [j] (by simpa using hij) (Nat.lt_succ_self _) (.inr ⟨rfl, rfl⟩) rfl rfl rfl (Nat.le_refl _) (Agree.refl _ _)
    (fun b hb => hb.elim .inl fun h => .inr (.inl ⟨j, by simp, h⟩)) (hp.one i) (fun hx => by
      refine ⟨.inl q1, cur, e, (c j).fp, x, q2, ?_, fun b hb => ⟨.inr hb, fun h => hp.dis i j b hij (by rw [h]; exact q1) hb⟩, hx1, by rw [hx2.2]; exact h2.1⟩
      have h3 := Sv.okL.set (k := k) (s := .dead) (x := x) (Sv.okL_ext hx _ _ q3) (by simp [Sv.ok])
      have h4 : cur.toList.set k x = cur.toList := by
        apply List.ext_getElem?
        intro n
        rw [List.getElem?_set]
        split
        · rename_i hn'
          subst hn'
          split
          · exact hx1.symm
          · rename_i hlt
            rw [List.getElem?_eq_none (by omega)]
        · rfl
      rwa [h4] at h3)
  obtain ⟨hp', hext⟩ := hr
  refine ⟨hd, hn, _, hp', fun s => Sv.ok_ext hext _ _ (ht s), fun l hl => ?_⟩
  obtain ⟨r1, r2, r3⟩ := hpin l hl
  obtain ⟨r4, r5⟩ := hext.cn l r1
  exact ⟨Nat.le_trans r1 (hext.ver l), r4.trans r2, r5.trans r3⟩
end
end Go.Eng
end
section
namespace Go.Eng
open Go Go.Maps Go.RowKit Go.WideMaps
structure MapT (P : Program) (t k e : TypeId) : Prop where
  und : P.underlying t = some (.map k e)
  key : P.underlying k = some .string
  el : P.underlying e = some (.int .i64)
  z : ∀ w, (zeroValue e).run P w = .ok (.int .i64 0) w
section
variable {E : Env} {d : Option Nat} {σ : Ss} {K : Ss → Prop}
def bys (l : List Int) : Dt := .sl 1 (.v (.int .u8 0)) (l.map fun n => .v (.int .u8 n))
end
end Go.Eng
end
section
namespace Go.Eng
open Go
structure LC where
  l : List Sv
  ok : SvPure l = true
theorem pure_cases {s : Sv} (h : s.pure = true) : (∃ x, s = .v x) ∨ (∃ d, s = .bor [] d) ∨ ∃ ds, s = .bptr [] ds := by
  cases s with
  | v x => exact .inl ⟨x, rfl⟩
  | bor ts d =>
    cases ts with
    | nil => exact .inr (.inl ⟨d, rfl⟩)
    | cons _ _ => cases h
  | bptr ts d =>
    cases ts with
    | nil => exact .inr (.inr ⟨d, rfl⟩)
    | cons _ _ => cases h
  | _ => cases h
theorem idsL_pure : ∀ {l : List Sv}, SvPure l = true → Sv.idsL l = []
  | [], _ => by simp [Sv.idsL]
  | s :: l, h => by
    simp only [SvPure, Bool.and_eq_true] at h
    rcases pure_cases h.1 with ⟨x, rfl⟩ | ⟨d, rfl⟩ | ⟨d, rfl⟩ <;> simp [Sv.idsL, Sv.ids, idsL_pure h.2]
theorem renL_pure {R : Rn} (hR : R.vt = []) : ∀ {l : List Sv}, SvPure l = true → Sv.renL R l = l
  | [], _ => by simp [Sv.renL]
  | s :: l, h => by
    simp only [SvPure, Bool.and_eq_true] at h
    rcases pure_cases h.1 with ⟨x, rfl⟩ | ⟨d, rfl⟩ | ⟨d, rfl⟩ <;> simp [Sv.renL, Sv.ren, renT, hR, renL_pure hR h.2]
theorem rvL_pure {rs : Nat → Rs} : ∀ {l : List Sv}, SvPure l = true → rvL rs l = l
  | [], _ => by simp [rvL]
  | s :: l, h => by
    simp only [SvPure, Bool.and_eq_true] at h
    rcases pure_cases h.1 with ⟨x, rfl⟩ | ⟨d, rfl⟩ | ⟨d, rfl⟩ <;> simp [rvL, rvS, rvL_pure h.2]
theorem pSvL_pure : ∀ {l : List Sv}, SvPure l = true → pSvL l l = []
  | [], _ => by simp [pSvL]
  | s :: l, h => by
    simp only [SvPure, Bool.and_eq_true] at h
    rcases pure_cases h.1 with ⟨x, rfl⟩ | ⟨d, rfl⟩ | ⟨d, rfl⟩ <;> simp [pSvL, pSv, pSvL_pure h.2]
@[go_sem] theorem idsL_lc (c : LC) : Sv.idsL c.l = [] := idsL_pure c.ok
@[go_sem] theorem renL_lc (c : LC) (ML : List (Nat × Nat)) (f g : Nat → Nat) : Sv.renL ⟨ML, f, g, []⟩ c.l = c.l := renL_pure rfl c.ok
@[go_sem] theorem rvL_lc (c : LC) (rs : Nat → Rs) : rvL rs c.l = c.l := rvL_pure c.ok
@[go_sem] theorem pSvL_lc (c : LC) : pSvL c.l c.l = [] := pSvL_pure c.ok
@[go_sem] theorem mtL_lc (c : LC) (ML : List (Nat × Nat)) (V : List Nat) (rs rs0 : Nat → Rs) : Sv.mtL ML V rs rs0 c.l c.l ↔ True := ⟨fun _ => trivial, fun _ => mtL_pure c.ok⟩
theorem V_end {X : Cx} {E : Env} {c : Code} {σ : Ss} {Q : Exit → Ss → Prop} (h : V X E c σ (fun e τ => ∃ υ, Imp X τ υ ∧ Q e υ)) : V X E c σ Q := fun hk a w hg =>
  wpIn_mono (h hk a w hg) fun e a' w' ⟨τ, ⟨w1, U1, ds, hr, hg'⟩, υ, hi, hq⟩ => ⟨υ, ⟨w1, U1, ds, hr, hi w1 U1 ds a' w' hg'⟩, hq⟩
/-! ### A table that is being filled -/
theorem intsN_at {p : List (List Int)} {m k : Nat} (h : k < p.length) : (intsN p m).at k = ints (p.getD k []) := by
  simp [intsN, Dt.at, Dt.cells, Dt.df, List.getD_eq_getElem?_getD, List.getElem?_append, h]
@[go_sem ↓ high] theorem view0_vv {V : List Nat} {rs : Nat → Rs} (x y : Value) : Sv.view0 V rs (.v x) (.v y) ↔ y = x := by
  simp [Sv.view0]
@[go_sem high] theorem view0L_nil2 {V : List Nat} {rs : Nat → Rs} : view0L V rs [] [] ↔ True := view0L_nil
@[go_sem high] theorem view0L_cons2 {V : List Nat} {rs : Nat → Rs} (s : Sv) (l : List Sv) (d : Dt) (r : List Dt) : view0L V rs (s :: l) (d :: r) ↔ s.view0 V rs d ∧ view0L V rs l r := view0L_cons s l d r
end Go.Eng
end
section
namespace Go.Eng
open Go
theorem Imp.drop {X : Cx} {σ : Ss} (i : Nat) (hcv : 1 ≤ (σ.get i).cv) : Imp X σ ⟨σ.tm, (i, ⟨(σ.get i).cv + 1, .gone⟩) :: σ.rs, σ.nx⟩ := by
  rintro w1 U1 ds a w ⟨hd, hn, c, hp, ht, hpin⟩
  have hr := rearr (X := X.at w1 U1 ds) hp i ⟨(c i).blk, (c i).hdr, fun _ => False⟩ ((σ.get i).cv + 1) .gone [] (by simp) (Nat.lt_succ_self _) (.inr ⟨rfl, rfl⟩) rfl rfl rfl (Nat.le_refl _) (Agree.refl _ _)
    (fun b hb => hb.elim) (hp.one i) (fun hx => fun b hb => hb)
  obtain ⟨hp', hext⟩ := hr
  refine ⟨hd, hn, _, hp', fun s => Sv.ok_ext hext _ _ (ht s), fun l hl => ?_⟩
  obtain ⟨r1, r2, r3⟩ := hpin l hl
  obtain ⟨r4, r5⟩ := hext.cn l r1
  exact ⟨Nat.le_trans r1 (hext.ver l), r4.trans r2, r5.trans r3⟩
def endQ (X : Cx) (Q : Exit → Ss → Prop) (e : Exit) (τ : Ss) : Prop := ∃ υ, Imp X τ υ ∧ Q e υ
theorem V_endQ {X : Cx} {E : Env} {c : Code} {σ : Ss} {Q : Exit → Ss → Prop} (h : V X E c σ (endQ X Q)) : V X E c σ Q := V_end h
theorem endQ_mk {X : Cx} {Q : Exit → Ss → Prop} {e : Exit} {τ υ : Ss} (h : Imp X τ υ) (q : Q e υ) : endQ X Q e τ := ⟨υ, h, q⟩
/-! ### Lists of lists of lists of numbers -/
@[go_sem] theorem intsss_nil1 : Dt.sl 1 (intss []) [] = intsss [] := rfl
@[go_sem] theorem intsss_one1 (q : List (List Int)) : Dt.sl 1 (intss []) [intss q] = intsss [q] := rfl
@[go_sem] theorem intsss_flat1 (q : List (List Int)) : (intsss [q]).flat = false := rfl
@[go_sem] theorem intsss_ones (l : List (List (List Int))) : (intsss l).ones = true := by
  simp only [intsss, Dt.ones, Dt.cells, List.all_map]
  exact List.all_eq_true.2 fun _ _ => rfl
@[go_sem] theorem intsss_app (l m : List (List (List Int))) : Dt.app 1 (intss []) (intsss l) (intsss m) = intsss (l ++ m) := by simp [intsss, intss, Dt.app, Dt.cells, List.map_append]
end Go.Eng
end
section
namespace Go.Eng
open Go
section
variable {E : Env} {l : List Oper} {σ : Ss} {K : Ss → Prop} {d : Option Nat} {op : Op} {t : TypeId} {p : String} {af : Array Edge}
end
end Go.Eng
end
section
namespace Go.Eng
open Go
/-! ### An operation answered by what is known of the frame -/
def HkX (X : Cx) (E : Env) (d : Option Nat) (op : Op) (σ : Ss) (K : Ss → Prop) : Prop :=
  ∃ foot sv ru nx, (∀ w1 U1 ds, Reb X w1 U1 ds → ∀ o : Oper, o.dst = d → o.op = op → (∀ k, d = some k → k < X.n) → LStep (X.at w1 U1 ds) E.P o (lk σ.tm) (rsL σ.rs) foot sv ru) ∧ K (σ.ap d sv ru nx) ∧
    ∀ i ∈ foot, i ∈ reach (rsL σ.rs) (deepOp op) (op.operands.toList.flatMap fun x => (σ.opd x).ids) ∨ i ∈ ru.map (·.1)
def evOx (X : Cx) (E : Env) (opsA : List Oper) (o : Oper) (σ : Ss) (K : Ss → Prop) : Prop := evO E opsA o σ K ∨ ((o.guard = none ∨ ∃ j want g, o.guard = some (j, want) ∧ gdSlot opsA j = some g ∧ lk σ.tm g = .v (.bool want)) ∧ HkX X E o.dst o.op σ K)
def evOpsX (X : Cx) (E : Env) (opsA : List Oper) : List Oper → Ss → (Ss → Prop) → Prop
  | [], σ, K => K σ
  | o :: r, σ, K => evOx X E opsA o σ fun σ' => evOpsX X E opsA r σ' K
def evOpsDX (X : Cx) (E : Env) (opsA : List Oper) : List Oper → Ss → List (List Nat × List Nat) → (Ss → Prop) → Prop
  | [], σ, acc, K => confB opsA acc.reverse = true ∧ K σ
  | o :: r, σ, acc, K => evOx X E opsA o σ fun σ' => evOpsDX X E opsA r σ' ((ftOf σ o, (σ'.rs.take (σ'.rs.length - σ.rs.length)).map (·.1)) :: acc) K
section
variable {X : Cx} {E : Env} {w1 : World} {U1 : Nat → Prop} {ds : List Deferred}
theorem evOx_found (hr : Reb X w1 U1 ds) (hk : E.hk X.c0 X.rs0) {opsA : List Oper} {o : Oper} {σ : Ss} {K : Ss → Prop} (hn : ∀ o' ∈ opsA, ∀ k, o'.dst = some k → k < X.n) (ho : ∀ k, o.dst = some k → k < X.n) (h : evOx X E opsA o σ K) :
    (∃ foot sv ru nx, LStep (X.at w1 U1 ds) E.P o (lk σ.tm) (rsL σ.rs) foot sv ru ∧ K (σ.ap o.dst sv ru nx) ∧ (∀ i ∈ foot, i ∈ ftOf σ o ∨ i ∈ ru.map (·.1)) ∧ (o.guard = none ∨ ∃ j want d, o.guard = some (j, want) ∧ gdSlot opsA j = some d ∧ d < X.n ∧ lk σ.tm d = .v (.bool want))) ∨
    (K (σ.ap o.dst (.v undef) [] σ.nx) ∧ ∃ j want d v, o.guard = some (j, want) ∧ gdSlot opsA j = some d ∧ d < X.n ∧ lk σ.tm d = .v v ∧ v ≠ .bool want) := by
  rcases h with h | ⟨hg, foot, sv, ru, nx, h1, h2, h3⟩
  · exact evO_found (X := X.at w1 U1 ds) hk hn ho h
  · refine .inl ⟨foot, sv, ru, nx, h1 w1 U1 ds hr o rfl rfl ho, h2, h3, ?_⟩
    rcases hg with hg | ⟨j, want, g, g1, g2, g3⟩
    · exact .inl hg
    · refine .inr ⟨j, want, g, g1, g2, ?_, g3⟩
      have hd := g2
      unfold gdSlot at hd
      cases ho' : opsA[j]? with
      | none => rw [ho'] at hd; cases hd
      | some o' => rw [ho'] at hd; exact hn o' (List.mem_of_getElem? ho') g hd
theorem evOpsX_text (hr : Reb X w1 U1 ds) (hk : E.hk X.c0 X.rs0) {opsA : List Oper} {K : Ss → Prop} (hn : ∀ o' ∈ opsA, ∀ k, o'.dst = some k → k < X.n) : ∀ (l : List Oper) (σ : Ss), (∀ o ∈ l, ∀ k, o.dst = some k → k < X.n) → evOpsX X E opsA l σ K →
    ∀ a w (Q : Exit → Act → World → Prop), Gam (X.at w1 U1 ds) (lk σ.tm) (rsL σ.rs) a w → (∀ s a' w', Gam (X.at w1 U1 ds) (lk s.tm) (rsL s.rs) a' w' → K s → Q .normal a' w') → wpListIn X.F 0 E.P opsA.toArray Q l a w
  | [], σ, _, h, a, w, Q, hg, hQ => wpListIn_nil (hQ σ a w hg h)
  | o :: l, σ, hl, h, a, w, Q, hg, hQ => by
    simp only [evOpsX] at h
    have ih := fun (s : Ss) (hs : evOpsX X E opsA l s K) => evOpsX_text hr hk hn l s (fun o ho => hl o (by simp [ho])) hs
    rcases evOx_found hr hk hn (hl o (by simp)) h with ⟨foot, sv, ru, nx, h1, h2, _, h3⟩ | ⟨h2, j, want, d, v, g1, g2, g3, g4, g5⟩
    · have hwant : Region.wanted o (yielded opsA.toArray a.tmps) = true := by
        rcases h3 with h3 | ⟨j, want, d, g1, g2, g3, g4⟩
        · simp [Region.wanted, h3]
        · simp [Region.wanted, g1, yielded_of (X := X.at w1 U1 ds) hg g2 g4 g3]
      unfold wpListIn
      rw [if_pos hwant]
      refine h1 _ _ (fun _ _ => rfl) (fun _ _ => rfl) a w _ Q hg fun a' w' hg' => ?_
      refine ih _ h2 a' w' Q ?_ hQ
      rw [lk_ap, rsL_ap]; exact hg'
    · have hwant : Region.wanted o (yielded opsA.toArray a.tmps) = false := by
        simp only [Region.wanted, g1, yielded_of (X := X.at w1 U1 ds) hg g2 g4 g3]
        cases v <;> simp_all
      unfold wpListIn
      rw [if_neg (by rw [hwant]; exact Bool.false_ne_true)]
      refine ⟨fun f _ => X.F_fn f, ih _ h2 _ w Q ?_ hQ⟩
      obtain ⟨q1, q2, c, hp, ht, hpin⟩ := hg
      rw [lk_ap, rsL_ap]
      exact gam_put (X := X.at w1 U1 ds) q1 q2 ht hpin (Ext.refl _ _ _ _) hp (hl o (by simp)) (by simp [Sv.ok])
theorem evOpsDX_tx (hr : Reb X w1 U1 ds) {opsA : List Oper} {K : Ss → Prop} (hk : E.hk X.c0 X.rs0) (hn : ∀ o' ∈ opsA, ∀ k, o'.dst = some k → k < X.n) : ∀ (l : List Oper) (σ : Ss) (acc : List (List Nat × List Nat)), (∀ o ∈ l, ∀ k, o.dst = some k → k < X.n) →
    evOpsDX X E opsA l σ acc K → ∃ en τ, Tx (X.at w1 U1 ds) E opsA l σ en τ ∧ confB opsA (acc.reverse ++ FU en) = true ∧ K τ
  | [], σ, acc, _, h => ⟨[], σ, ⟨rfl, rfl⟩, by simpa [FU] using h.1, h.2⟩
  | o :: l, σ, acc, hl, h => by
    simp only [evOpsDX] at h
    have key : ∀ (sv : Sv) (ru : List (Nat × Rs)) (nx : Nat), ((σ.ap o.dst sv ru nx).rs.take ((σ.ap o.dst sv ru nx).rs.length - σ.rs.length)).map (·.1) = ru.map (·.1) := fun sv ru nx => by
      simp [Ss.ap]
    rcases evOx_found hr hk hn (hl o (by simp)) h with ⟨foot, sv, ru, nx, h1, h2, h3, h4⟩ | ⟨h2, h4⟩
    · obtain ⟨en, τ, g1, g2, g3⟩ := evOpsDX_tx hr hk hn l _ _ (fun o ho => hl o (by simp [ho])) h2
      refine ⟨⟨sv, ru, ftOf σ o⟩ :: en, τ, ⟨_, en, nx, rfl, .inl ⟨foot, h1, h3, h4⟩, g1⟩, ?_, g3⟩
      rw [key] at g2
      simpa [FU] using g2
    · obtain ⟨en, τ, g1, g2, g3⟩ := evOpsDX_tx hr hk hn l _ _ (fun o ho => hl o (by simp [ho])) h2
      refine ⟨⟨.v undef, [], ftOf σ o⟩ :: en, τ, ⟨_, en, σ.nx, rfl, .inr ⟨rfl, rfl, h4⟩, g1⟩, ?_, g3⟩
      rw [key] at g2
      simpa [FU] using g2
theorem wp_drawnX (hr : Reb X w1 U1 ds) {l : List Oper} {id : Nat} {σ : Ss} {K : Ss → Prop} {Q : Exit → Act → World → Prop} (hk : E.hk X.c0 X.rs0) (hm : E.P.follows .mixedOrders = true) (hn : ∀ o ∈ l, ∀ k, o.dst = some k → k < X.n) (h : evOpsDX X E l l σ [] K)
    {a : Act} {w : World} (hg : Gam (X.at w1 U1 ds) (lk σ.tm) (rsL σ.rs) a w) (hQ : ∀ s a' w', Gam (X.at w1 U1 ds) (lk s.tm) (rsL s.rs) a' w' → K s → Q .normal a' w') : (Code.region id l.toArray true).wpIn X.F 0 E.P Q a w := by
  obtain ⟨en, τ, h1, h2, h3⟩ := evOpsDX_tx hr hk hn l σ [] hn h
  refine wpIn_region_any hm ?_
  have hgd : ∀ j, (Array.replicate l.toArray.size false).getD j false = false := fun j => by
    simp only [Array.getD]; split <;> simp
  refine any_of_tx (X := X.at w1 U1 ds) hn h1 (by simpa using h2) (fun a' w' hg' => hQ τ a' w' hg' h3) _ _ a _ (by simp) ?_ (fun j o _ hd => by simp only [hgd] at hd; cases hd) ?_
  · have : ∀ n D, cnt n D ≤ n := by
      intro n D
      induction n with
      | zero => exact Nat.le_refl _
      | succ n ih => simp only [cnt]; split <;> omega
    simpa using this _ _
  · have e1 : apD (lk σ.tm) (TU l en) 0 (fun j => (Array.replicate l.toArray.size false).getD j false) = lk σ.tm := funext fun s => apD_none _ _ _ _ _ fun j _ _ _ => hgd _
    have e2 : apD (rsL σ.rs) (RU en) 0 (fun j => (Array.replicate l.toArray.size false).getD j false) = rsL σ.rs := funext fun s => apD_none _ _ _ _ _ fun j _ _ _ => hgd _
    rw [e1, e2]
    exact gam_draw hg
theorem V_regionX {σ : Ss} {Q : Exit → Ss → Prop} {l : List Oper} {id : Nat} (hn : l.all (fun o => o.dst.all (fun k => decide (k < X.n))) = true) (h : ∀ K : Ss → Prop, (∀ s, Q .normal s → K s) → evOpsX X E l l σ K) : V X E (.region id l.toArray false) σ Q := fun hk a w hg => by
  obtain ⟨w1, U1, ds, hr, hg⟩ := hg
  have hn' : ∀ o' ∈ l, ∀ k, o'.dst = some k → k < X.n := fun o ho k hk => by
    have := List.all_eq_true.1 hn o ho
    rw [hk] at this
    simpa using this
  exact wpIn_region_list (evOpsX_text hr hk hn' l σ hn' (h _ fun _ h => h) a w _ hg fun s a' w' hg' hK => ⟨s, ⟨w1, U1, ds, hr, hg'⟩, hK⟩)
theorem V_drawnX {σ : Ss} {Q : Exit → Ss → Prop} {l : List Oper} {id : Nat} (hm : E.P.follows .mixedOrders = true) (hn : l.all (fun o => o.dst.all (fun k => decide (k < X.n))) = true) (h : ∀ K : Ss → Prop, (∀ s, Q .normal s → K s) → evOpsDX X E l l σ [] K) : V X E (.region id l.toArray true) σ Q := fun hk a w hg => by
  obtain ⟨w1, U1, ds, hr, hg⟩ := hg
  have hn' : ∀ o' ∈ l, ∀ k, o'.dst = some k → k < X.n := fun o ho k hk => by
    have := List.all_eq_true.1 hn o ho
    rw [hk] at this
    simpa using this
  exact wp_drawnX hr hk hm hn' (h _ fun _ h => h) hg fun s a' w' hg' hK => ⟨s, ⟨w1, U1, ds, hr, hg'⟩, hK⟩
variable {A r : List Oper} {σ : Ss} {K : Ss → Prop} {d : Option Nat} {op : Op} {t : TypeId} {p : String} {af : Array Edge} {j : Nat} {want : Bool} {acc : List (List Nat × List Nat)}
theorem evOpsX_nil (h : K σ) : evOpsX X E A [] σ K := h
theorem evOpsX_n (h : ∀ K' : Ss → Prop, (∀ s, evOpsX X E A r s K → K' s) → evOp E d op σ K') : evOpsX X E A (⟨d, op, t, p, af, none⟩ :: r) σ K := .inl (h _ fun _ h => h)
theorem evOpsX_h (h : ∀ K' : Ss → Prop, (∀ s, evOpsX X E A r s K → K' s) → HkX X E d op σ K') : evOpsX X E A (⟨d, op, t, p, af, none⟩ :: r) σ K := .inr ⟨.inl rfl, h _ fun _ h => h⟩
theorem evOpsDX_nil (h1 : confB A acc.reverse = true) (h : K σ) : evOpsDX X E A [] σ acc K := ⟨h1, h⟩
theorem evOpsDX_n (h : ∀ K' : Ss → Prop, (∀ s, evOpsDX X E A r s ((ftOf σ ⟨d, op, t, p, af, none⟩, (s.rs.take (s.rs.length - σ.rs.length)).map (·.1)) :: acc) K → K' s) → evOp E d op σ K') : evOpsDX X E A (⟨d, op, t, p, af, none⟩ :: r) σ acc K := .inl (h _ fun _ h => h)
theorem evOpsDX_h (h : ∀ K' : Ss → Prop, (∀ s, evOpsDX X E A r s ((ftOf σ ⟨d, op, t, p, af, none⟩, (s.rs.take (s.rs.length - σ.rs.length)).map (·.1)) :: acc) K → K' s) → HkX X E d op σ K') : evOpsDX X E A (⟨d, op, t, p, af, none⟩ :: r) σ acc K := .inr ⟨.inl rfl, h _ fun _ h => h⟩
end
/-! ### Contracts that ask something of what may be read -/
def SpecR (P : Program) (f : FuncId) (args : List Sv) (L0 : List (Nat × Rs)) (r : Sv) (L1 : List (Nat × Rs)) (R : World → (Nat → Prop) → Prop) : Prop :=
  ∀ (w0 : World) (U S : Nat → Prop) (c0 : Nat → Cn) (vs : List Value), R w0 S → Hp w0 U S c0 (rsL L0) w0 → Sv.okL w0 S c0 (rsL L0) args vs →
    Calls P f vs.toArray w0 fun e w' => ∃ v c1, e = .returned v ∧ Hp w0 U S c1 (rsL L1) w' ∧ Sv.ok w' S c1 (rsL L1) r v ∧
      (∀ i, 1 ≤ (rsL L0 i).cv → 1 ≤ (rsL L1 i).cv ∧ (c1 i).blk = (c0 i).blk ∧ (c1 i).hdr = (c0 i).hdr)
theorem specR_of_V {E : Env} {R : World → (Nat → Prop) → Prop} {f : FuncId} {fn : Func} {c : Code} {args : List Sv} {L0 L1 : List (Nat × Rs)} {r : Sv} (nx : Nat) (hf : E.P.funcs[f]? = some fn) (hb : fn.body = some c) (hn : args.length ≤ fn.ntmps)
    (h : ∀ X : Cx, X.n = fn.ntmps → X.rs0 = rsL L0 → R X.w0 X.S → V X E c ⟨argTm 0 args, L0, nx⟩ (retQ E fn.results.toList L0 r L1)) (hE : ∀ c rs, E.hk c rs := by exact fun _ _ => trivial) : SpecR E.P f args L0 r L1 R := by
  intro w0 U S c0 vs hR hp ha
  have hlen := ha.length
  refine callsIn_wide.1 (callsIn_of_wp_marks (F := Fence.wide) (n := 0) hf hb trivial (wpIn_mono (h ⟨w0, U, S, c0, rsL L0, fn.ntmps, none, []⟩ rfl rfl hR (hE _ _) _ _ ⟨w0, U, [], .refl hp.sub hp.ult, rfl, ?_, c0, hp, fun s => ?_, fun i hi => ⟨hi, rfl, rfl⟩⟩) fun e a' w' ⟨t, h1, h2⟩ => ?_))
  · simp; omega
  · have h1 := argTm_ok args vs 0 [] (List.replicate (fn.ntmps - vs.length) undef) rfl ha s
    have h2 : vs.toArray ++ Array.replicate (fn.ntmps - vs.toArray.size) undef = ([] ++ vs ++ List.replicate (fn.ntmps - vs.length) undef).toArray := by
      apply Array.ext'; simp
    rw [h2]; exact h1
  · have key : (∃ ML, evRes E t fn.results.toList fun s => evSub L0 ML ⟨[(0, s)], t.rs, 0⟩ ⟨[(0, r)], L1, 0⟩) → LeavesInM Fence.wide 0 E.P fn a'.tmps (fun e w' => ∃ v' c1, e = .returned v' ∧ Hp w0 U S c1 (rsL L1) w' ∧ Sv.ok w' S c1 (rsL L1) r v' ∧
        (∀ i, 1 ≤ (rsL L0 i).cv → 1 ≤ (rsL L1 i).cv ∧ (c1 i).blk = (c0 i).blk ∧ (c1 i).hdr = (c0 i).hdr)) a'.defers .returning w' := by
      rintro ⟨ML, hres⟩
      obtain ⟨w1, U1, ds, hrb, hd, hn', c, hp', ht, hpin⟩ := h1
      obtain ⟨l, hds, hnd, hmk⟩ := hrb.marks
      have hd' : a'.defers = l.map mkD := by rw [hd]; show ds = _; rw [hds]; exact List.append_nil _
      rw [hd']
      refine leaves_marks l w' hnd (fun r' hr' => ?_) fun w2 e1 e2 e3 e4 e5 => ?_
      · obtain ⟨m1, m2, m3⟩ := hmk r' hr'
        rw [hp'.unch r' m1]; exact m3
      obtain ⟨hp2, hx2⟩ := Hp.shut hrb hp' (fun r' hr' => ⟨(hmk r' hr').1, (hmk r' hr').2.1⟩) e1 e2 e3 e4 e5
      obtain ⟨v, s, hv1, hv2, g1, g2, g3, g4, g5, g6⟩ := results_run hp2 (fun s => Sv.ok_ext hx2 _ _ (ht s)) hres
      obtain ⟨c1, hp1, hren, hc⟩ := sub_core (σ := ⟨[(0, s)], t.rs, 0⟩) (τ := ⟨[(0, r)], L1, 0⟩) hp2 g1 g2 g5 g4
      refine ⟨v, hv1, v, c1, rfl, hp1, ?_, fun i hi => ?_⟩
      · have := Sv.ren_ok hren _ _ hv2
        have e : s.ren (subRn ML ⟨[(0, s)], t.rs, 0⟩ ⟨[(0, r)], L1, 0⟩) = r := g6.1
        rw [e] at this
        exact this
      · have hm := subP_get g3 i hi
        obtain ⟨_, q2, q3⟩ := hpin i hi
        have q := hc _ hm
        simp only at q
        refine ⟨(subM_get g5 _ hm).1, ?_, ?_⟩
        · rw [q]; exact q2
        · rw [q]; exact q3
    cases e with
    | normal => exact key h2
    | ret => exact key h2
    | exit i => exact h2.elim
    | goto l => exact h2.elim
    | panic ch => exact h2.elim
    | outgrown => exact h2.elim
def RdOk (X : Cx) (R : World → (Nat → Prop) → Prop) : Prop := ∀ (w : World) (S : Nat → Prop), Agree X.S X.w0 w → (∀ b, X.S b → S b) → R w S
theorem step_callR {X : Cx} {E : Env} {o : Oper} {tm : Nat → Sv} {rs : Nat → Rs} {R : World → (Nat → Prop) → Prop} (hR : ∀ (w : World) (S : Nat → Prop), Agree X.S X.w0 w → (∀ b, X.S b → S b) → R w S)
    (hdn : ∀ k, o.dst = some k → k < X.n) (x : Operand) (xs : List Operand) (tys : Array TypeId) (ho : o.op = .call { callee := .value x, args := xs.toArray, argTypes := tys }) (f : FuncId) (caps : List Sv) (hx : opd tm x = .fn f caps)
    (hf : Callable E.P f) (args : List Sv) (L0 : List (Nat × Rs)) (r : Sv) (L1 : List (Nat × Rs)) (hs : SpecR E.P f args L0 r L1 R) (ML : List (Nat × Nat)) (V : List Nat) (hco : CallOk rs L0 ML V)
    (hm : Sv.mtL ML V rs (rsL L0) (xs.map (opd tm) ++ caps) args) :
    SStep X E.P o tm rs (r.ren (callRn rs (rsL L1) ML V)) (retRu (callRn rs (rsL L1) ML V) (rsL L1)) := by
  refine SStep0.inn ?_
  rintro a w K Q ⟨hd, hn, c, hp, ht, hpin⟩ hK
  have hopd := fun z => opd_ok (X := X) (rs := rs) (tm := tm) (a := a) (w := w) (c := c) ht z
  have hx1 := hopd x
  rw [hx] at hx1
  simp only [Sv.ok] at hx1
  obtain ⟨cvs, hx1, hx2⟩ := hx1
  have hargs := Sv.mtL_ok (rs0 := rsL L0) (ML := ML) (V := V) hp _ _ _ hm ((opdL_ok hopd xs).append hx2)
  have hcall := hs w _ _ _ _ (hR w (SV X.S c V) (hp.unch.mono hp.sub) fun b hb => .inl hb) (call_pre hp hco) hargs
  unfold Oper.wp
  have hrun : (execOp a.eval o).run E.P w = .ok (.enter f (xs.map a.eval ++ cvs).toArray) w := by
    simp [execOp, ho, resolve, Deferred.ofValue, hx1, invoke, callFunc_run hf]
  rw [hrun]
  refine hcall.mono fun e w' hh => ?_
  obtain ⟨v, c1, rfl, hp1, hv, hpin1⟩ := hh
  obtain ⟨c2, hp2, hx2, hren⟩ := call_heap hp hco c1 hp1 hpin1
  exact hK _ _ (gam_put hd hn ht hpin hx2 hp2 hdn (Sv.ren_ok hren _ _ hv))
end Go.Eng
end
section
namespace Go.Eng
open Go Go.Cats
def Lent (X : Cx) (x : Value) (d : Dt) : Prop := RdV X.w0 X.S d x
theorem RdOk.at {X : Cx} {w1 : World} {U1 : Nat → Prop} {ds : List Deferred} (hr : Reb X w1 U1 ds) {R : World → (Nat → Prop) → Prop} (h : RdOk X R) : RdOk (X.at w1 U1 ds) R := fun w S ag hS => h w S ((hr.agree.mono hr.ssub).trans ag) hS
theorem HkX.callR {X : Cx} {E : Env} {d : Option Nat} {x : Operand} {args : Array Operand} {tys : Array TypeId} {σ : Ss} {K : Ss → Prop} {f : FuncId} {caps es : List Sv} {L0 L1 : List (Nat × Rs)} {r : Sv} {R : World → (Nat → Prop) → Prop}
    (hR : RdOk X R) (hs : SpecR E.P f es L0 r L1 R) (hc : Callable E.P f) (ML : List (Nat × Nat)) (V : List Nat) (hx : σ.opd x = .fn f caps)
    (h1 : evCO (rsL σ.rs) (reach (rsL σ.rs) 3 ((Sv.fn f caps).ids ++ (args.toList.map σ.opd).flatMap Sv.ids)) L0 ML V) (h2 : Sv.mtL ML V (rsL σ.rs) (rsL L0) (args.toList.map σ.opd ++ caps) es)
    (h3 : K (σ.ap d (r.ren (callRn (rsL σ.rs) (rsL L1) ML V)) (retRu (callRn (rsL σ.rs) (rsL L1) ML V) (rsL L1)) (nxOf σ.nx (retRu (callRn (rsL σ.rs) (rsL L1) ML V) (rsL L1))))) :
    HkX X E d (.call { callee := .value x, args := args, argTypes := tys }) σ K := by
  obtain ⟨a1, a2, a3, a4, a5⟩ := h1
  have hV := fun i (hi : i ∈ V) => (coV_get a4 i hi).2.2
  have hco : CallOk (rsL σ.rs) L0 ML V := ⟨a1, a2, fun i hi => (coV_get a4 i hi).1, fun i hi => (coV_get a4 i hi).2.1, fun k => (coL_get a3 k).1, fun k => (coL_get a3 k).2, coM_get a5⟩
  refine ⟨V ++ ML.map (·.2), _, _, _, fun w1 U1 ds hr o hd ho hdn tm rs g1 g2 => ?_, h3, fun i hi => ?foot⟩
  case foot =>
    rcases List.mem_append.1 hi with hi | hi
    · refine .inl ?_
      have := hV i hi
      rw [← hx] at this
      simpa [deepOp, Op.operands, Call.operands, List.flatMap_map] using this
    · exact .inr (by simpa [retRu, callRn, Function.comp_def] using hi)
  have he : ∀ i ∈ V, rs i = rsL σ.rs i := fun i hi => g2 i (by simp [hi])
  have hM : ∀ i ∈ ML.map (·.2), rs i = rsL σ.rs i := fun i hi => g2 i (List.mem_append_right _ hi)
  have hx' : opd tm x = σ.opd x := g1 x (by simp [ho, Op.operands, Call.operands])
  have hargs : args.toList.map (opd tm) = args.toList.map σ.opd := List.map_congr_left fun y hy => g1 y (by
    simp only [ho, Op.operands, Call.operands]
    simp at hy ⊢
    exact .inr hy)
  have := step_callR (X := X.at w1 U1 ds) (E := E) (tm := tm) (rs := rs) (hR.at hr) (by rw [hd]; exact hdn) x args.toList tys (by simpa using ho) f caps (hx'.trans hx) hc es L0 r L1 hs ML V (callOk_congr hco he hM) (by rw [hargs]; exact mtL_congr he _ _ h2)
  rw [callRn_congr _ he hM] at this
  exact this
end Go.Eng
end
section
namespace Go.Eng
open Go Go.Maps Go.RowKit Go.WideMaps
/-! ### One cell's tree taken out of many -/
def anyD : Dt := .ab ⟨fun _ _ _ => True, fun _ _ => trivial⟩
/-! ### The maps -/
structure MapL (P : Program) (t k e : TypeId) : Prop where
  und : P.underlying t = some (.map k e)
  key : P.underlying k = some (.int .i64)
  z : ∀ w, (zeroValue e).run P w = .ok (.slice none 0 0) w
section
variable {E : Env} {d : Option Nat} {σ : Ss} {K : Ss → Prop}
end
end Go.Eng
end
section
namespace Go.Eng
open Go Go.Maps Go.RowKit Go.WideMaps Go.Cats
section
variable {E : Env} {d : Option Nat} {σ : Ss} {K : Ss → Prop}
end
/-! ### Values that are called by name -/
structure RawV where
  x : Value
  one : x.oneCell' = true
instance : Inhabited RawV := ⟨⟨.slice none 0 0, rfl⟩⟩
def rawOf (x : Value) : RawV := if h : x.oneCell' = true then ⟨x, h⟩ else default
theorem rawOf_x {x : Value} (h : x.oneCell' = true) : (rawOf x).x = x := by unfold rawOf; rw [dif_pos h]
@[go_sem] theorem one_raw (x : RawV) : x.x.oneCell' = true := x.one
/-! ### Rules with the names of their lists -/
def rulesD (l : List (Rule × RawV)) : Dt := .sl 3 (.v (.int .i64 0)) (l.flatMap fun p => [.v (.int .i64 p.1.fr), .v (.int .i64 p.1.to), .v p.2.x])
theorem rules_cl (l : List (Rule × RawV)) : (l.flatMap fun p => ([.v (.int .i64 p.1.fr), .v (.int .i64 p.1.to), .v p.2.x] : List Dt)).length = l.length * 3 := by
  induction l with
  | nil => rfl
  | cons p l ih => rw [List.flatMap_cons, List.length_append, ih]; simp; omega
@[go_sem] theorem rules_isSl (l) : (rulesD l).isSl = true := rfl
@[go_sem] theorem rules_sz (l) : (rulesD l).sz = 3 := rfl
@[go_sem] theorem rules_nc (l : List (Rule × RawV)) : (rulesD l).nc = l.length * 3 := by simp only [rulesD, Dt.nc, Dt.cells]; exact rules_cl l
@[go_sem] theorem rules_len (l : List (Rule × RawV)) : (rulesD l).len = l.length := by
  have := rules_nc l
  unfold Dt.len
  rw [this, rules_sz]; omega
@[go_sem] theorem rules_ones (l : List (Rule × RawV)) : (rulesD l).ones = true := by
  simp only [rulesD, Dt.ones, Dt.cells, List.all_eq_true, List.mem_flatMap, forall_exists_index, and_imp]
  rintro x p _ hx
  simp only [List.mem_cons, List.not_mem_nil, or_false] at hx
  rcases hx with rfl | rfl | rfl
  · rfl
  · rfl
  · exact p.2.one
@[go_sem] theorem rules_flat (l : List (Rule × RawV)) : (rulesD l).flat = true := by
  simp only [rulesD, Dt.flat, Dt.cells, List.all_eq_true, List.mem_flatMap, forall_exists_index, and_imp]
  rintro x p _ hx
  simp only [List.mem_cons, List.not_mem_nil, or_false] at hx
  rcases hx with rfl | rfl | rfl <;> rfl
@[go_sem] theorem rules_app (l m : List (Rule × RawV)) : Dt.app 3 (.v (.int .i64 0)) (rulesD l) (rulesD m) = rulesD (l ++ m) := by simp [rulesD, Dt.app, Dt.cells, List.flatMap_append]
@[go_sem] theorem rules_nil : Dt.sl 3 (.v (.int .i64 0)) [] = rulesD [] := rfl
@[go_sem] theorem ofDt_rules (ts) (l : List (Rule × RawV)) : Sv.ofDt ts (rulesD l) = .bor ts (rulesD l) := rfl
def RLent (rvs : List (Rule × RawV)) (w : World) (S : Nat → Prop) : Prop := ∀ p ∈ rvs, RdV w S (ints p.1.by_) p.2.x
end Go.Eng
end
section
namespace Go.Eng
open Go Go.Cats
def linkC (p : Link × RawV) : List Dt := [.v (.int .i64 p.1.i), .v (.int .i64 p.1.j), .v p.2.x, ints p.1.right]
def linksD (l : List (Link × RawV)) : Dt := .sl 4 (.v (.int .i64 0)) (l.flatMap linkC)
theorem links_cl (l : List (Link × RawV)) : (l.flatMap linkC).length = l.length * 4 := by
  induction l with
  | nil => rfl
  | cons p l ih => rw [List.flatMap_cons, List.length_append, ih]; simp [linkC]; omega
@[go_sem] theorem links_isSl (l) : (linksD l).isSl = true := rfl
@[go_sem] theorem links_sz (l) : (linksD l).sz = 4 := rfl
@[go_sem] theorem links_nc (l : List (Link × RawV)) : (linksD l).nc = l.length * 4 := by simp only [linksD, Dt.nc, Dt.cells]; exact links_cl l
@[go_sem] theorem links_len (l : List (Link × RawV)) : (linksD l).len = l.length := by
  have := links_nc l
  unfold Dt.len
  rw [this, links_sz]; omega
@[go_sem] theorem links_app (l m : List (Link × RawV)) : Dt.app 4 (.v (.int .i64 0)) (linksD l) (linksD m) = linksD (l ++ m) := by simp [linksD, Dt.app, Dt.cells, List.flatMap_append]
@[go_sem] theorem links_nil : Dt.sl 4 (.v (.int .i64 0)) [] = linksD [] := rfl
@[go_sem] theorem ofDt_links (ts) (l : List (Link × RawV)) : Sv.ofDt ts (linksD l) = .bor ts (linksD l) := rfl
def LLent (lvs : List (Link × RawV)) (w : World) (S : Nat → Prop) : Prop := ∀ p ∈ lvs, RdV w S (ints p.1.left) p.2.x
end Go.Eng
end
section
namespace Go.Eng
open Go Go.Cats
def rawsD (xs : List RawV) : Dt := .sl 1 (.v (.slice none 0 0)) (xs.map fun x => .v x.x)
@[go_sem] theorem raws_isSl (l) : (rawsD l).isSl = true := rfl
@[go_sem] theorem raws_sz (l) : (rawsD l).sz = 1 := rfl
@[go_sem] theorem raws_nc (l : List RawV) : (rawsD l).nc = l.length := by simp [rawsD, Dt.nc, Dt.cells]
@[go_sem] theorem raws_len (l : List RawV) : (rawsD l).len = l.length := by simp [rawsD, Dt.len, Dt.sz, Dt.nc, Dt.cells]
@[go_sem] theorem raws_at (l : List RawV) (k : Nat) : (rawsD l).at k = .v (l.getD k default).x := by
  simp [rawsD, Dt.at, Dt.cells, Dt.df, List.getD_eq_getElem?_getD]
  cases l[k]? <;> rfl
@[go_sem] theorem ofDt_raws (ts) (l : List RawV) : Sv.ofDt ts (rawsD l) = .bor ts (rawsD l) := rfl
def sfWS (ts : List (Nat × Nat)) (f : SF) (xs : List RawV) : List Sv := [iv f.shape.ob, .bor ts (ints f.shape.fr), .bor ts (ints f.shape.to), .bor ts (ints f.shape.id), .bor ts (intss f.shape.co), .bor ts (ints f.sizes), .bor ts (rawsD xs)]
section
variable (f : SF) (xs : List RawV) (ts : List (Nat × Nat))
attribute [go_sem] sfWS
end
section
variable {X : Cx} {E : Env} {c : Code} {σ : Ss} {Q : Exit → Ss → Prop}
end
def rvsT (acts : List (List Int)) (xs : List RawV) (T : List Tr) : List (Rule × RawV) := T.map fun t => (ruleT acts t, xs.getD t.2.1 default)
def lvsT (acts : List (List Int)) (S : List Nat) (xs : List RawV) (T : List Tr) : List (Link × RawV) := T.map fun t => (linkT acts S t, xs.getD t.2.1 default)
section
variable {acts : List (List Int)} {xs : List RawV} {T T' : List Tr} {S : List Nat} {X : Cx}
end
end Go.Eng
end
section
namespace Go.Eng
open Go
def ptsD (l : List Dt) : Dt := .sl 1 (.v (.pointer none)) l
section
variable {X : Cx} {E : Env} {c : Code} {σ : Ss} {Q : Exit → Ss → Prop}
end
section
variable (l m : List Dt)
@[go_sem] theorem pts_isSl : (ptsD l).isSl = true := rfl
@[go_sem] theorem pts_sz : (ptsD l).sz = 1 := rfl
@[go_sem] theorem pts_nc : (ptsD l).nc = l.length := by simp [ptsD, Dt.nc, Dt.cells]
@[go_sem] theorem pts_len : (ptsD l).len = l.length := by simp [ptsD, Dt.len, Dt.sz, Dt.nc, Dt.cells]
@[go_sem] theorem ofDt_pts (ts) : Sv.ofDt ts (ptsD l) = .bor ts (ptsD l) := rfl
@[go_sem] theorem pts_app : Dt.app 1 (.v (.pointer none)) (ptsD l) (ptsD m) = ptsD (l ++ m) := by simp [ptsD, Dt.app, Dt.cells]
@[go_sem] theorem pts_nil : Dt.sl 1 (.v (.pointer none)) [] = ptsD [] := rfl
@[go_sem] theorem pts_one (x : Value) : Dt.sl 1 (.v (.pointer none)) [.v x] = ptsD [.v x] := rfl
@[go_sem] theorem pts_flat1 (x : Value) : (ptsD [.v x]).flat = true := rfl
def rawA (l : List (List (List Int))) (x : Value) : Dt := .sl 1 (intss []) (l.map intss ++ [.v x])
def rawO (x : Value) : Dt := .sl 1 (intss []) [.v x]
@[go_sem] theorem rawA_isSl (l) (x : Value) : (rawA l x).isSl = true := rfl
@[go_sem] theorem rawA_sz (l) (x : Value) : (rawA l x).sz = 1 := rfl
@[go_sem] theorem rawO_isSl (x : Value) : (rawO x).isSl = true := rfl
@[go_sem] theorem rawO_sz (x : Value) : (rawO x).sz = 1 := rfl
@[go_sem] theorem rawO_nc (x : Value) : (rawO x).nc = 1 := rfl
@[go_sem] theorem rawO_len (x : Value) : (rawO x).len = 1 := by simp [rawO, Dt.len, Dt.sz, Dt.nc, Dt.cells]
@[go_sem] theorem rawO_one (x : Value) : Dt.sl 1 (intss []) [.v x] = rawO x := rfl
@[go_sem] theorem rawO_flat (x : Value) : (rawO x).flat = true := rfl
@[go_sem] theorem rawO_app (l) (x : Value) : Dt.app 1 (intss []) (intsss l) (rawO x) = rawA l x := by simp [intsss, rawO, rawA, Dt.app, Dt.cells]
end
end Go.Eng
end
