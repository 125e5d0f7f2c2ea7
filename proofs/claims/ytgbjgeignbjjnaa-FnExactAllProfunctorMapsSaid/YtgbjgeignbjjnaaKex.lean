/- Several texts in one: EngRF, EngBX, EngMp, EngCl, EngDr, EngUn, EngHk, EngNm, EngMs, EngMt, EngLk, EngRw. -/
import Derived.Test.YtgbjgeignbjjnaaKdx
import Derived.RangeFuncIn
import Derived.Maps.Views
import Derived.Laws.BytesArg
import Derived.Carry
set_option linter.unusedVariables false
set_option linter.unusedSimpArgs false
section
namespace Go.Eng
open Go
def idML (ids : List Nat) : List (Nat × Nat) := ids.map fun i => (i, i)
end Go.Eng
end
section
namespace Go.Eng
open Go
section
variable {X : Cx} {σ : Ss}
theorem Imp.openB (i k : Nat) (cells : List Sv) (d : Dt) (hi : (σ.get i).k = .bx cells k d) (hcv : 1 ≤ (σ.get i).cv) (hsl : d.isSl = true) (hf : σ.get σ.nx = ⟨0, .gone⟩) :
    Imp X σ ⟨σ.tm, (i, ⟨(σ.get i).cv + 1, .box (cells.set k (.sl σ.nx))⟩) :: (σ.nx, ⟨1, .arr d⟩) :: σ.rs, σ.nx + 1⟩ := by
  rintro w1 U1 ds a w ⟨hd, hn, c, hp, ht, hpin⟩
  have hij : i ≠ σ.nx := fun e => by rw [e, hf] at hcv; simp at hcv
  have h1 : Rk.ok w X.S c (rsL σ.rs) (c i) (.bx cells k d) := by
    have := hp.res i
    unfold Ss.get at hi; rw [hi] at this; exact this
  obtain ⟨q1, cur, e, F, x, q2, q3, q4, q5, q6⟩ := h1
  have hone : x.oneCell' = true := bor_one hsl (OwV.rd _ _ q6)
  have hblk : ∃ g : Nat, ∀ a m k, x = .slice (some a) m k → a = ⟨g, 0, none⟩ := by
    cases d with
    | v y => cases hsl
    | pt l => cases hsl
    | ab p => cases hsl
    | sl sz' df' l =>
      simp only [OwV] at q6
      rcases q6.2 with ⟨rfl, _⟩ | ⟨g, m', cap', cur', e', r1, _⟩
      · exact ⟨0, fun _ _ _ h => by cases h⟩
      · exact ⟨g, fun a m k h => by rw [r1] at h; simp at h; exact h.1.symm⟩
  obtain ⟨g, hg⟩ := hblk
  obtain ⟨c', p1, p2, hp', hext⟩ := split_res hp i σ.nx hij hf ((σ.get i).cv + 1) (Nat.lt_succ_self _) (.box (cells.set k (.sl σ.nx))) (.arr d) ⟨g, x, F⟩ (fun b hb => (q4 b hb).1) hone (fun hx' => by
    refine ⟨⟨⟨q1, fun h => (q4 _ h).2 rfl⟩, cur, e, q2, ?_⟩, q6, hg⟩
    have h2 := Sv.okL_ext hx' _ _ q3
    have h3 := Sv.okL.set (k := k) (s := .sl σ.nx) (x := x) h2 (by
      simp only [Sv.ok, upd_other _ _ (Ne.symm hij), upd_same]
      exact ⟨Nat.le_refl _, trivial⟩)
    have h4 : cur.toList.set k x = cur.toList := by
      apply List.ext_getElem?
      intro n
      rw [List.getElem?_set]
      split
      · rename_i hn'
        subst hn'
        split
        · exact q5.symm
        · rename_i hlt
          rw [List.getElem?_eq_none (by omega)]
      · rfl
    rwa [h4] at h3)
  refine ⟨hd, hn, c', hp', fun s => Sv.ok_ext hext _ _ (ht s), fun l hl => ?_⟩
  obtain ⟨r1, r2, r3⟩ := hpin l hl
  obtain ⟨r4, r5⟩ := hext.cn l r1
  exact ⟨Nat.le_trans r1 (hext.ver l), r4.trans r2, r5.trans r3⟩
theorem Imp.closeB (i j k : Nat) (cells : List Sv) (d : Dt) (hi : (σ.get i).k = .box cells) (hc : cells[k]? = some (.sl j)) (hj : (σ.get j).k = .arr d) (hij : i ≠ j) :
    Imp X σ ⟨σ.tm, (i, ⟨(σ.get i).cv + 1, .bx (cells.set k .dead) k d⟩) :: (j, ⟨(σ.get j).cv, .gone⟩) :: σ.rs, σ.nx⟩ := by
  rintro w1 U1 ds a w ⟨hd, hn, c, hp, ht, hpin⟩
  have h1 := hp.res i
  have h2 := hp.res j
  unfold Ss.get at hi hj
  rw [hi] at h1
  rw [hj] at h2
  obtain ⟨q1, cur, e, q2, q3⟩ := h1
  obtain ⟨x, hx1, hx2⟩ := Sv.okL.get q3 hc
  simp only [Sv.ok] at hx2
  have hr := rearr (X := X.at w1 U1 ds) hp i ⟨(c i).blk, (c i).hdr, fun b => (c i).fp b ∨ (c j).fp b⟩ ((σ.get i).cv + 1) (.bx (cells.set k .dead) k d) [j] (by simpa using hij) (Nat.lt_succ_self _) (.inr ⟨rfl, rfl⟩) rfl rfl rfl (Nat.le_refl _) (Agree.refl _ _)
    (fun b hb => hb.elim .inl fun h => .inr (.inl ⟨j, by simp, h⟩)) (hp.one i) (fun hx => by
      refine ⟨.inl q1, cur, e, (c j).fp, x, q2, ?_, fun b hb => ⟨.inr hb, fun h => hp.dis i j b hij (by rw [h]; exact q1) hb⟩, hx1, by rw [hx2.2]; exact h2.1⟩
      have h3 := Sv.okL.set (k := k) (s := .dead) (x := x) (Sv.okL_ext hx _ _ q3) (by simp [Sv.ok])
      have h4 : cur.toList.set k x = cur.toList := by
        apply List.ext_getElem?
        intro n
        rw [List.getElem?_set]
        split
        · rename_i hn'
          subst hn'
          split
          · exact hx1.symm
          · rename_i hlt
            rw [List.getElem?_eq_none (by omega)]
        · rfl
      rwa [h4] at h3)
  obtain ⟨hp', hext⟩ := hr
  refine ⟨hd, hn, _, hp', fun s => Sv.ok_ext hext _ _ (ht s), fun l hl => ?_⟩
  obtain ⟨r1, r2, r3⟩ := hpin l hl
  obtain ⟨r4, r5⟩ := hext.cn l r1
  exact ⟨Nat.le_trans r1 (hext.ver l), r4.trans r2, r5.trans r3⟩
end
end Go.Eng
end
section
namespace Go.Eng
open Go Go.Maps Go.RowKit Go.WideMaps
structure MapT (P : Program) (t k e : TypeId) : Prop where
  und : P.underlying t = some (.map k e)
  key : P.underlying k = some .string
  el : P.underlying e = some (.int .i64)
  z : ∀ w, (zeroValue e).run P w = .ok (.int .i64 0) w
section
variable {E : Env} {d : Option Nat} {σ : Ss} {K : Ss → Prop}
def bys (l : List Int) : Dt := .sl 1 (.v (.int .u8 0)) (l.map fun n => .v (.int .u8 n))
end
end Go.Eng
end
section
namespace Go.Eng
open Go
structure LC where
  l : List Sv
  ok : SvPure l = true
theorem pure_cases {s : Sv} (h : s.pure = true) : (∃ x, s = .v x) ∨ (∃ d, s = .bor [] d) ∨ ∃ ds, s = .bptr [] ds := by
  cases s with
  | v x => exact .inl ⟨x, rfl⟩
  | bor ts d =>
    cases ts with
    | nil => exact .inr (.inl ⟨d, rfl⟩)
    | cons _ _ => cases h
  | bptr ts d =>
    cases ts with
    | nil => exact .inr (.inr ⟨d, rfl⟩)
    | cons _ _ => cases h
  | _ => cases h
theorem idsL_pure : ∀ {l : List Sv}, SvPure l = true → Sv.idsL l = []
  | [], _ => by simp [Sv.idsL]
  | s :: l, h => by
    simp only [SvPure, Bool.and_eq_true] at h
    rcases pure_cases h.1 with ⟨x, rfl⟩ | ⟨d, rfl⟩ | ⟨d, rfl⟩ <;> simp [Sv.idsL, Sv.ids, idsL_pure h.2]
theorem renL_pure {R : Rn} (hR : R.vt = []) : ∀ {l : List Sv}, SvPure l = true → Sv.renL R l = l
  | [], _ => by simp [Sv.renL]
  | s :: l, h => by
    simp only [SvPure, Bool.and_eq_true] at h
    rcases pure_cases h.1 with ⟨x, rfl⟩ | ⟨d, rfl⟩ | ⟨d, rfl⟩ <;> simp [Sv.renL, Sv.ren, renT, hR, renL_pure hR h.2]
theorem rvL_pure {rs : Nat → Rs} : ∀ {l : List Sv}, SvPure l = true → rvL rs l = l
  | [], _ => by simp [rvL]
  | s :: l, h => by
    simp only [SvPure, Bool.and_eq_true] at h
    rcases pure_cases h.1 with ⟨x, rfl⟩ | ⟨d, rfl⟩ | ⟨d, rfl⟩ <;> simp [rvL, rvS, rvL_pure h.2]
theorem pSvL_pure : ∀ {l : List Sv}, SvPure l = true → pSvL l l = []
  | [], _ => by simp [pSvL]
  | s :: l, h => by
    simp only [SvPure, Bool.and_eq_true] at h
    rcases pure_cases h.1 with ⟨x, rfl⟩ | ⟨d, rfl⟩ | ⟨d, rfl⟩ <;> simp [pSvL, pSv, pSvL_pure h.2]
@[go_sem] theorem idsL_lc (c : LC) : Sv.idsL c.l = [] := idsL_pure c.ok
@[go_sem] theorem renL_lc (c : LC) (ML : List (Nat × Nat)) (f g : Nat → Nat) : Sv.renL ⟨ML, f, g, []⟩ c.l = c.l := renL_pure rfl c.ok
@[go_sem] theorem rvL_lc (c : LC) (rs : Nat → Rs) : rvL rs c.l = c.l := rvL_pure c.ok
@[go_sem] theorem pSvL_lc (c : LC) : pSvL c.l c.l = [] := pSvL_pure c.ok
@[go_sem] theorem mtL_lc (c : LC) (ML : List (Nat × Nat)) (V : List Nat) (rs rs0 : Nat → Rs) : Sv.mtL ML V rs rs0 c.l c.l ↔ True := ⟨fun _ => trivial, fun _ => mtL_pure c.ok⟩
theorem V_end {X : Cx} {E : Env} {c : Code} {σ : Ss} {Q : Exit → Ss → Prop} (h : V X E c σ (fun e τ => ∃ υ, Imp X τ υ ∧ Q e υ)) : V X E c σ Q := fun hk a w hg =>
  wpIn_mono (h hk a w hg) fun e a' w' ⟨τ, ⟨w1, U1, ds, hr, hg'⟩, υ, hi, hq⟩ => ⟨υ, ⟨w1, U1, ds, hr, hi w1 U1 ds a' w' hg'⟩, hq⟩
/-! ### Nil slices in a result, told as empty lists of one's own -/
def EmptyL (L : List (Nat × Rs)) : Prop := ∀ p ∈ L, ∃ sz df, 0 < sz ∧ p.2 = ⟨1, .arr (.sl sz df [])⟩
theorem emptyL_get : ∀ {L : List (Nat × Rs)}, EmptyL L → ∀ i, rsL L i = ⟨0, .gone⟩ ∨ ∃ sz df, 0 < sz ∧ rsL L i = ⟨1, .arr (.sl sz df [])⟩
  | [], _, i => .inl rfl
  | (j, r) :: l, h, i => by
    rw [rsL_cons]
    split
    · exact .inr (h (j, r) (by simp))
    · exact emptyL_get (fun p hp => h p (by simp [hp])) i
theorem Spec.adopt {P : Program} {f : FuncId} {args : List Sv} {r r' : Sv} {L1 : List (Nat × Rs)} (h : Spec P f args [] r []) (hL : EmptyL L1)
    (hr : ∀ (w : World) (S : Nat → Prop) (v : Value) (c : Nat → Cn), r.ok w S c (rsL []) v → r'.ok w S (fun _ => ⟨0, .slice none 0 0, fun _ => False⟩) (rsL L1) v) : Spec P f args [] r' L1 := by
  intro w0 U S c0 vs hp ha
  refine (h w0 U S c0 vs hp ha).mono fun e w' ⟨v, c1, he, hp1, hv, _⟩ => ⟨v, fun _ => ⟨0, .slice none 0 0, fun _ => False⟩, he, ?_, hr _ _ _ _ hv, fun i hi => by simp [rsL_nil] at hi⟩
  refine ⟨hp1.os, hp1.tape, hp1.output, hp1.size, hp1.unch, hp1.sub, hp1.ult, fun i => ?_, fun i b hb => hb.elim, fun i b hb => hb.elim, fun i j b _ hb => hb.elim, fun i => rfl⟩
  rcases emptyL_get hL i with e | ⟨sz, df, h0, e⟩
  · rw [e]; exact fun b hb => hb
  · rw [e]
    refine ⟨?_, fun _ _ _ hh => by cases hh⟩
    simp [OwV, h0]
/-! ### A table that is being filled -/
theorem intsN_at {p : List (List Int)} {m k : Nat} (h : k < p.length) : (intsN p m).at k = ints (p.getD k []) := by
  simp [intsN, Dt.at, Dt.cells, Dt.df, List.getD_eq_getElem?_getD, List.getElem?_append, h]
@[go_sem ↓ high] theorem view0_vv {V : List Nat} {rs : Nat → Rs} (x y : Value) : Sv.view0 V rs (.v x) (.v y) ↔ y = x := by
  simp [Sv.view0]
@[go_sem high] theorem view0L_nil2 {V : List Nat} {rs : Nat → Rs} : view0L V rs [] [] ↔ True := view0L_nil
@[go_sem high] theorem view0L_cons2 {V : List Nat} {rs : Nat → Rs} (s : Sv) (l : List Sv) (d : Dt) (r : List Dt) : view0L V rs (s :: l) (d :: r) ↔ s.view0 V rs d ∧ view0L V rs l r := view0L_cons s l d r
end Go.Eng
end
section
namespace Go.Eng
open Go
theorem Imp.drop {X : Cx} {σ : Ss} (i : Nat) (hcv : 1 ≤ (σ.get i).cv) : Imp X σ ⟨σ.tm, (i, ⟨(σ.get i).cv + 1, .gone⟩) :: σ.rs, σ.nx⟩ := by
  rintro w1 U1 ds a w ⟨hd, hn, c, hp, ht, hpin⟩
  have hr := rearr (X := X.at w1 U1 ds) hp i ⟨(c i).blk, (c i).hdr, fun _ => False⟩ ((σ.get i).cv + 1) .gone [] (by simp) (Nat.lt_succ_self _) (.inr ⟨rfl, rfl⟩) rfl rfl rfl (Nat.le_refl _) (Agree.refl _ _)
    (fun b hb => hb.elim) (hp.one i) (fun hx => fun b hb => hb)
  obtain ⟨hp', hext⟩ := hr
  refine ⟨hd, hn, _, hp', fun s => Sv.ok_ext hext _ _ (ht s), fun l hl => ?_⟩
  obtain ⟨r1, r2, r3⟩ := hpin l hl
  obtain ⟨r4, r5⟩ := hext.cn l r1
  exact ⟨Nat.le_trans r1 (hext.ver l), r4.trans r2, r5.trans r3⟩
def endQ (X : Cx) (Q : Exit → Ss → Prop) (e : Exit) (τ : Ss) : Prop := ∃ υ, Imp X τ υ ∧ Q e υ
theorem V_endQ {X : Cx} {E : Env} {c : Code} {σ : Ss} {Q : Exit → Ss → Prop} (h : V X E c σ (endQ X Q)) : V X E c σ Q := V_end h
theorem endQ_mk {X : Cx} {Q : Exit → Ss → Prop} {e : Exit} {τ υ : Ss} (h : Imp X τ υ) (q : Q e υ) : endQ X Q e τ := ⟨υ, h, q⟩
/-! ### Lists of lists of lists of numbers -/
@[go_sem] theorem intsss_nil1 : Dt.sl 1 (intss []) [] = intsss [] := rfl
@[go_sem] theorem intsss_one1 (q : List (List Int)) : Dt.sl 1 (intss []) [intss q] = intsss [q] := rfl
@[go_sem] theorem intsss_flat1 (q : List (List Int)) : (intsss [q]).flat = false := rfl
@[go_sem] theorem intsss_ones (l : List (List (List Int))) : (intsss l).ones = true := by
  simp only [intsss, Dt.ones, Dt.cells, List.all_map]
  exact List.all_eq_true.2 fun _ _ => rfl
@[go_sem] theorem intsss_app (l m : List (List (List Int))) : Dt.app 1 (intss []) (intsss l) (intsss m) = intsss (l ++ m) := by simp [intsss, intss, Dt.app, Dt.cells, List.map_append]
end Go.Eng
end
section
namespace Go.Eng
open Go
section
variable {E : Env} {l : List Oper} {σ : Ss} {K : Ss → Prop} {d : Option Nat} {op : Op} {t : TypeId} {p : String} {af : Array Edge}
end
end Go.Eng
end
section
namespace Go.Eng
open Go
/-! ### An operation answered by what is known of the frame -/
def HkX (X : Cx) (E : Env) (d : Option Nat) (op : Op) (σ : Ss) (K : Ss → Prop) : Prop :=
  ∃ foot sv ru nx, (∀ w1 U1 ds, Reb X w1 U1 ds → ∀ o : Oper, o.dst = d → o.op = op → (∀ k, d = some k → k < X.n) → LStep (X.at w1 U1 ds) E.P o (lk σ.tm) (rsL σ.rs) foot sv ru) ∧ K (σ.ap d sv ru nx) ∧
    ∀ i ∈ foot, i ∈ reach (rsL σ.rs) (deepOp op) (op.operands.toList.flatMap fun x => (σ.opd x).ids) ∨ i ∈ ru.map (·.1)
def evOx (X : Cx) (E : Env) (opsA : List Oper) (o : Oper) (σ : Ss) (K : Ss → Prop) : Prop := evO E opsA o σ K ∨ ((o.guard = none ∨ ∃ j want g, o.guard = some (j, want) ∧ gdSlot opsA j = some g ∧ lk σ.tm g = .v (.bool want)) ∧ HkX X E o.dst o.op σ K)
def evOpsX (X : Cx) (E : Env) (opsA : List Oper) : List Oper → Ss → (Ss → Prop) → Prop
  | [], σ, K => K σ
  | o :: r, σ, K => evOx X E opsA o σ fun σ' => evOpsX X E opsA r σ' K
def evOpsDX (X : Cx) (E : Env) (opsA : List Oper) : List Oper → Ss → List (List Nat × List Nat) → (Ss → Prop) → Prop
  | [], σ, acc, K => confB opsA acc.reverse = true ∧ K σ
  | o :: r, σ, acc, K => evOx X E opsA o σ fun σ' => evOpsDX X E opsA r σ' ((ftOf σ o, (σ'.rs.take (σ'.rs.length - σ.rs.length)).map (·.1)) :: acc) K
section
variable {X : Cx} {E : Env} {w1 : World} {U1 : Nat → Prop} {ds : List Deferred}
theorem evOx_found (hr : Reb X w1 U1 ds) (hk : E.hk X.c0 X.rs0) {opsA : List Oper} {o : Oper} {σ : Ss} {K : Ss → Prop} (hn : ∀ o' ∈ opsA, ∀ k, o'.dst = some k → k < X.n) (ho : ∀ k, o.dst = some k → k < X.n) (h : evOx X E opsA o σ K) :
    (∃ foot sv ru nx, LStep (X.at w1 U1 ds) E.P o (lk σ.tm) (rsL σ.rs) foot sv ru ∧ K (σ.ap o.dst sv ru nx) ∧ (∀ i ∈ foot, i ∈ ftOf σ o ∨ i ∈ ru.map (·.1)) ∧ (o.guard = none ∨ ∃ j want d, o.guard = some (j, want) ∧ gdSlot opsA j = some d ∧ d < X.n ∧ lk σ.tm d = .v (.bool want))) ∨
    (K (σ.ap o.dst (.v undef) [] σ.nx) ∧ ∃ j want d v, o.guard = some (j, want) ∧ gdSlot opsA j = some d ∧ d < X.n ∧ lk σ.tm d = .v v ∧ v ≠ .bool want) := by
  rcases h with h | ⟨hg, foot, sv, ru, nx, h1, h2, h3⟩
  · exact evO_found (X := X.at w1 U1 ds) hk hn ho h
  · refine .inl ⟨foot, sv, ru, nx, h1 w1 U1 ds hr o rfl rfl ho, h2, h3, ?_⟩
    rcases hg with hg | ⟨j, want, g, g1, g2, g3⟩
    · exact .inl hg
    · refine .inr ⟨j, want, g, g1, g2, ?_, g3⟩
      have hd := g2
      unfold gdSlot at hd
      cases ho' : opsA[j]? with
      | none => rw [ho'] at hd; cases hd
      | some o' => rw [ho'] at hd; exact hn o' (List.mem_of_getElem? ho') g hd
theorem evOpsX_text (hr : Reb X w1 U1 ds) (hk : E.hk X.c0 X.rs0) {opsA : List Oper} {K : Ss → Prop} (hn : ∀ o' ∈ opsA, ∀ k, o'.dst = some k → k < X.n) : ∀ (l : List Oper) (σ : Ss), (∀ o ∈ l, ∀ k, o.dst = some k → k < X.n) → evOpsX X E opsA l σ K →
    ∀ a w (Q : Exit → Act → World → Prop), Gam (X.at w1 U1 ds) (lk σ.tm) (rsL σ.rs) a w → (∀ s a' w', Gam (X.at w1 U1 ds) (lk s.tm) (rsL s.rs) a' w' → K s → Q .normal a' w') → wpListIn X.F 0 E.P opsA.toArray Q l a w
  | [], σ, _, h, a, w, Q, hg, hQ => wpListIn_nil (hQ σ a w hg h)
  | o :: l, σ, hl, h, a, w, Q, hg, hQ => by
    simp only [evOpsX] at h
    have ih := fun (s : Ss) (hs : evOpsX X E opsA l s K) => evOpsX_text hr hk hn l s (fun o ho => hl o (by simp [ho])) hs
    rcases evOx_found hr hk hn (hl o (by simp)) h with ⟨foot, sv, ru, nx, h1, h2, _, h3⟩ | ⟨h2, j, want, d, v, g1, g2, g3, g4, g5⟩
    · have hwant : Region.wanted o (yielded opsA.toArray a.tmps) = true := by
        rcases h3 with h3 | ⟨j, want, d, g1, g2, g3, g4⟩
        · simp [Region.wanted, h3]
        · simp [Region.wanted, g1, yielded_of (X := X.at w1 U1 ds) hg g2 g4 g3]
      unfold wpListIn
      rw [if_pos hwant]
      refine h1 _ _ (fun _ _ => rfl) (fun _ _ => rfl) a w _ Q hg fun a' w' hg' => ?_
      refine ih _ h2 a' w' Q ?_ hQ
      rw [lk_ap, rsL_ap]; exact hg'
    · have hwant : Region.wanted o (yielded opsA.toArray a.tmps) = false := by
        simp only [Region.wanted, g1, yielded_of (X := X.at w1 U1 ds) hg g2 g4 g3]
        cases v <;> simp_all
      unfold wpListIn
      rw [if_neg (by rw [hwant]; exact Bool.false_ne_true)]
      refine ⟨fun f _ => X.F_fn f, ih _ h2 _ w Q ?_ hQ⟩
      obtain ⟨q1, q2, c, hp, ht, hpin⟩ := hg
      rw [lk_ap, rsL_ap]
      exact gam_put (X := X.at w1 U1 ds) q1 q2 ht hpin (Ext.refl _ _ _ _) hp (hl o (by simp)) (by simp [Sv.ok])
theorem evOpsDX_tx (hr : Reb X w1 U1 ds) {opsA : List Oper} {K : Ss → Prop} (hk : E.hk X.c0 X.rs0) (hn : ∀ o' ∈ opsA, ∀ k, o'.dst = some k → k < X.n) : ∀ (l : List Oper) (σ : Ss) (acc : List (List Nat × List Nat)), (∀ o ∈ l, ∀ k, o.dst = some k → k < X.n) →
    evOpsDX X E opsA l σ acc K → ∃ en τ, Tx (X.at w1 U1 ds) E opsA l σ en τ ∧ confB opsA (acc.reverse ++ FU en) = true ∧ K τ
  | [], σ, acc, _, h => ⟨[], σ, ⟨rfl, rfl⟩, by simpa [FU] using h.1, h.2⟩
  | o :: l, σ, acc, hl, h => by
    simp only [evOpsDX] at h
    have key : ∀ (sv : Sv) (ru : List (Nat × Rs)) (nx : Nat), ((σ.ap o.dst sv ru nx).rs.take ((σ.ap o.dst sv ru nx).rs.length - σ.rs.length)).map (·.1) = ru.map (·.1) := fun sv ru nx => by
      simp [Ss.ap]
    rcases evOx_found hr hk hn (hl o (by simp)) h with ⟨foot, sv, ru, nx, h1, h2, h3, h4⟩ | ⟨h2, h4⟩
    · obtain ⟨en, τ, g1, g2, g3⟩ := evOpsDX_tx hr hk hn l _ _ (fun o ho => hl o (by simp [ho])) h2
      refine ⟨⟨sv, ru, ftOf σ o⟩ :: en, τ, ⟨_, en, nx, rfl, .inl ⟨foot, h1, h3, h4⟩, g1⟩, ?_, g3⟩
      rw [key] at g2
      simpa [FU] using g2
    · obtain ⟨en, τ, g1, g2, g3⟩ := evOpsDX_tx hr hk hn l _ _ (fun o ho => hl o (by simp [ho])) h2
      refine ⟨⟨.v undef, [], ftOf σ o⟩ :: en, τ, ⟨_, en, σ.nx, rfl, .inr ⟨rfl, rfl, h4⟩, g1⟩, ?_, g3⟩
      rw [key] at g2
      simpa [FU] using g2
theorem wp_drawnX (hr : Reb X w1 U1 ds) {l : List Oper} {id : Nat} {σ : Ss} {K : Ss → Prop} {Q : Exit → Act → World → Prop} (hk : E.hk X.c0 X.rs0) (hm : E.P.follows .mixedOrders = true) (hn : ∀ o ∈ l, ∀ k, o.dst = some k → k < X.n) (h : evOpsDX X E l l σ [] K)
    {a : Act} {w : World} (hg : Gam (X.at w1 U1 ds) (lk σ.tm) (rsL σ.rs) a w) (hQ : ∀ s a' w', Gam (X.at w1 U1 ds) (lk s.tm) (rsL s.rs) a' w' → K s → Q .normal a' w') : (Code.region id l.toArray true).wpIn X.F 0 E.P Q a w := by
  obtain ⟨en, τ, h1, h2, h3⟩ := evOpsDX_tx hr hk hn l σ [] hn h
  refine wpIn_region_any hm ?_
  have hgd : ∀ j, (Array.replicate l.toArray.size false).getD j false = false := fun j => by
    simp only [Array.getD]; split <;> simp
  refine any_of_tx (X := X.at w1 U1 ds) hn h1 (by simpa using h2) (fun a' w' hg' => hQ τ a' w' hg' h3) _ _ a _ (by simp) ?_ (fun j o _ hd => by simp only [hgd] at hd; cases hd) ?_
  · have : ∀ n D, cnt n D ≤ n := by
      intro n D
      induction n with
      | zero => exact Nat.le_refl _
      | succ n ih => simp only [cnt]; split <;> omega
    simpa using this _ _
  · have e1 : apD (lk σ.tm) (TU l en) 0 (fun j => (Array.replicate l.toArray.size false).getD j false) = lk σ.tm := funext fun s => apD_none _ _ _ _ _ fun j _ _ _ => hgd _
    have e2 : apD (rsL σ.rs) (RU en) 0 (fun j => (Array.replicate l.toArray.size false).getD j false) = rsL σ.rs := funext fun s => apD_none _ _ _ _ _ fun j _ _ _ => hgd _
    rw [e1, e2]
    exact gam_draw hg
theorem V_regionX {σ : Ss} {Q : Exit → Ss → Prop} {l : List Oper} {id : Nat} (hn : l.all (fun o => o.dst.all (fun k => decide (k < X.n))) = true) (h : ∀ K : Ss → Prop, (∀ s, Q .normal s → K s) → evOpsX X E l l σ K) : V X E (.region id l.toArray false) σ Q := fun hk a w hg => by
  obtain ⟨w1, U1, ds, hr, hg⟩ := hg
  have hn' : ∀ o' ∈ l, ∀ k, o'.dst = some k → k < X.n := fun o ho k hk => by
    have := List.all_eq_true.1 hn o ho
    rw [hk] at this
    simpa using this
  exact wpIn_region_list (evOpsX_text hr hk hn' l σ hn' (h _ fun _ h => h) a w _ hg fun s a' w' hg' hK => ⟨s, ⟨w1, U1, ds, hr, hg'⟩, hK⟩)
theorem V_drawnX {σ : Ss} {Q : Exit → Ss → Prop} {l : List Oper} {id : Nat} (hm : E.P.follows .mixedOrders = true) (hn : l.all (fun o => o.dst.all (fun k => decide (k < X.n))) = true) (h : ∀ K : Ss → Prop, (∀ s, Q .normal s → K s) → evOpsDX X E l l σ [] K) : V X E (.region id l.toArray true) σ Q := fun hk a w hg => by
  obtain ⟨w1, U1, ds, hr, hg⟩ := hg
  have hn' : ∀ o' ∈ l, ∀ k, o'.dst = some k → k < X.n := fun o ho k hk => by
    have := List.all_eq_true.1 hn o ho
    rw [hk] at this
    simpa using this
  exact wp_drawnX hr hk hm hn' (h _ fun _ h => h) hg fun s a' w' hg' hK => ⟨s, ⟨w1, U1, ds, hr, hg'⟩, hK⟩
variable {A r : List Oper} {σ : Ss} {K : Ss → Prop} {d : Option Nat} {op : Op} {t : TypeId} {p : String} {af : Array Edge} {j : Nat} {want : Bool} {acc : List (List Nat × List Nat)}
theorem evOpsX_nil (h : K σ) : evOpsX X E A [] σ K := h
theorem evOpsX_n (h : ∀ K' : Ss → Prop, (∀ s, evOpsX X E A r s K → K' s) → evOp E d op σ K') : evOpsX X E A (⟨d, op, t, p, af, none⟩ :: r) σ K := .inl (h _ fun _ h => h)
theorem evOpsX_h (h : ∀ K' : Ss → Prop, (∀ s, evOpsX X E A r s K → K' s) → HkX X E d op σ K') : evOpsX X E A (⟨d, op, t, p, af, none⟩ :: r) σ K := .inr ⟨.inl rfl, h _ fun _ h => h⟩
theorem evOpsX_gh {g : Nat} (hs : gdSlot A j = some g) (hl : lk σ.tm g = .v (.bool want)) (h : ∀ K' : Ss → Prop, (∀ s, evOpsX X E A r s K → K' s) → HkX X E d op σ K') : evOpsX X E A (⟨d, op, t, p, af, some (j, want)⟩ :: r) σ K := .inr ⟨.inr ⟨_, _, _, rfl, hs, hl⟩, h _ fun _ h => h⟩
theorem evOpsX_g {g : Nat} (hs : gdSlot A j = some g) (h : ∀ K' : Ss → Prop, (∀ s, evOpsX X E A r s K → K' s) → evGd (lk σ.tm g) want (evOp E d op σ K') (K' (σ.ap d (.v undef) [] σ.nx))) : evOpsX X E A (⟨d, op, t, p, af, some (j, want)⟩ :: r) σ K := by
  have h1 := h _ fun _ h => h
  refine .inl ?_
  simp only [evO, gdSv, hs]
  exact h1
theorem evOpsDX_nil (h1 : confB A acc.reverse = true) (h : K σ) : evOpsDX X E A [] σ acc K := ⟨h1, h⟩
theorem evOpsDX_n (h : ∀ K' : Ss → Prop, (∀ s, evOpsDX X E A r s ((ftOf σ ⟨d, op, t, p, af, none⟩, (s.rs.take (s.rs.length - σ.rs.length)).map (·.1)) :: acc) K → K' s) → evOp E d op σ K') : evOpsDX X E A (⟨d, op, t, p, af, none⟩ :: r) σ acc K := .inl (h _ fun _ h => h)
theorem evOpsDX_h (h : ∀ K' : Ss → Prop, (∀ s, evOpsDX X E A r s ((ftOf σ ⟨d, op, t, p, af, none⟩, (s.rs.take (s.rs.length - σ.rs.length)).map (·.1)) :: acc) K → K' s) → HkX X E d op σ K') : evOpsDX X E A (⟨d, op, t, p, af, none⟩ :: r) σ acc K := .inr ⟨.inl rfl, h _ fun _ h => h⟩
end
/-! ### Contracts that ask something of what may be read -/
def SpecR (P : Program) (f : FuncId) (args : List Sv) (L0 : List (Nat × Rs)) (r : Sv) (L1 : List (Nat × Rs)) (R : World → (Nat → Prop) → Prop) : Prop :=
  ∀ (w0 : World) (U S : Nat → Prop) (c0 : Nat → Cn) (vs : List Value), R w0 S → Hp w0 U S c0 (rsL L0) w0 → Sv.okL w0 S c0 (rsL L0) args vs →
    Calls P f vs.toArray w0 fun e w' => ∃ v c1, e = .returned v ∧ Hp w0 U S c1 (rsL L1) w' ∧ Sv.ok w' S c1 (rsL L1) r v ∧
      (∀ i, 1 ≤ (rsL L0 i).cv → 1 ≤ (rsL L1 i).cv ∧ (c1 i).blk = (c0 i).blk ∧ (c1 i).hdr = (c0 i).hdr)
theorem specR_of_V {E : Env} {R : World → (Nat → Prop) → Prop} {f : FuncId} {fn : Func} {c : Code} {args : List Sv} {L0 L1 : List (Nat × Rs)} {r : Sv} (nx : Nat) (hf : E.P.funcs[f]? = some fn) (hb : fn.body = some c) (hn : args.length ≤ fn.ntmps)
    (h : ∀ X : Cx, X.n = fn.ntmps → X.rs0 = rsL L0 → R X.w0 X.S → V X E c ⟨argTm 0 args, L0, nx⟩ (retQ E fn.results.toList L0 r L1)) (hE : ∀ c rs, E.hk c rs := by exact fun _ _ => trivial) : SpecR E.P f args L0 r L1 R := by
  intro w0 U S c0 vs hR hp ha
  have hlen := ha.length
  refine callsIn_wide.1 (callsIn_of_wp_marks (F := Fence.wide) (n := 0) hf hb trivial (wpIn_mono (h ⟨w0, U, S, c0, rsL L0, fn.ntmps, none, []⟩ rfl rfl hR (hE _ _) _ _ ⟨w0, U, [], .refl hp.sub hp.ult, rfl, ?_, c0, hp, fun s => ?_, fun i hi => ⟨hi, rfl, rfl⟩⟩) fun e a' w' ⟨t, h1, h2⟩ => ?_))
  · simp; omega
  · have h1 := argTm_ok args vs 0 [] (List.replicate (fn.ntmps - vs.length) undef) rfl ha s
    have h2 : vs.toArray ++ Array.replicate (fn.ntmps - vs.toArray.size) undef = ([] ++ vs ++ List.replicate (fn.ntmps - vs.length) undef).toArray := by
      apply Array.ext'; simp
    rw [h2]; exact h1
  · have key : (∃ ML, evRes E t fn.results.toList fun s => evSub L0 ML ⟨[(0, s)], t.rs, 0⟩ ⟨[(0, r)], L1, 0⟩) → LeavesInM Fence.wide 0 E.P fn a'.tmps (fun e w' => ∃ v' c1, e = .returned v' ∧ Hp w0 U S c1 (rsL L1) w' ∧ Sv.ok w' S c1 (rsL L1) r v' ∧
        (∀ i, 1 ≤ (rsL L0 i).cv → 1 ≤ (rsL L1 i).cv ∧ (c1 i).blk = (c0 i).blk ∧ (c1 i).hdr = (c0 i).hdr)) a'.defers .returning w' := by
      rintro ⟨ML, hres⟩
      obtain ⟨w1, U1, ds, hrb, hd, hn', c, hp', ht, hpin⟩ := h1
      obtain ⟨l, hds, hnd, hmk⟩ := hrb.marks
      have hd' : a'.defers = l.map mkD := by rw [hd]; show ds = _; rw [hds]; exact List.append_nil _
      rw [hd']
      refine leaves_marks l w' hnd (fun r' hr' => ?_) fun w2 e1 e2 e3 e4 e5 => ?_
      · obtain ⟨m1, m2, m3⟩ := hmk r' hr'
        rw [hp'.unch r' m1]; exact m3
      obtain ⟨hp2, hx2⟩ := Hp.shut hrb hp' (fun r' hr' => ⟨(hmk r' hr').1, (hmk r' hr').2.1⟩) e1 e2 e3 e4 e5
      obtain ⟨v, s, hv1, hv2, g1, g2, g3, g4, g5, g6⟩ := results_run hp2 (fun s => Sv.ok_ext hx2 _ _ (ht s)) hres
      obtain ⟨c1, hp1, hren, hc⟩ := sub_core (σ := ⟨[(0, s)], t.rs, 0⟩) (τ := ⟨[(0, r)], L1, 0⟩) hp2 g1 g2 g5 g4
      refine ⟨v, hv1, v, c1, rfl, hp1, ?_, fun i hi => ?_⟩
      · have := Sv.ren_ok hren _ _ hv2
        have e : s.ren (subRn ML ⟨[(0, s)], t.rs, 0⟩ ⟨[(0, r)], L1, 0⟩) = r := g6.1
        rw [e] at this
        exact this
      · have hm := subP_get g3 i hi
        obtain ⟨_, q2, q3⟩ := hpin i hi
        have q := hc _ hm
        simp only at q
        refine ⟨(subM_get g5 _ hm).1, ?_, ?_⟩
        · rw [q]; exact q2
        · rw [q]; exact q3
    cases e with
    | normal => exact key h2
    | ret => exact key h2
    | exit i => exact h2.elim
    | goto l => exact h2.elim
    | panic ch => exact h2.elim
    | outgrown => exact h2.elim
def RdOk (X : Cx) (R : World → (Nat → Prop) → Prop) : Prop := ∀ (w : World) (S : Nat → Prop), Agree X.S X.w0 w → (∀ b, X.S b → S b) → R w S
theorem step_callR {X : Cx} {E : Env} {o : Oper} {tm : Nat → Sv} {rs : Nat → Rs} {R : World → (Nat → Prop) → Prop} (hR : ∀ (w : World) (S : Nat → Prop), Agree X.S X.w0 w → (∀ b, X.S b → S b) → R w S)
    (hdn : ∀ k, o.dst = some k → k < X.n) (x : Operand) (xs : List Operand) (tys : Array TypeId) (ho : o.op = .call { callee := .value x, args := xs.toArray, argTypes := tys }) (f : FuncId) (caps : List Sv) (hx : opd tm x = .fn f caps)
    (hf : Callable E.P f) (args : List Sv) (L0 : List (Nat × Rs)) (r : Sv) (L1 : List (Nat × Rs)) (hs : SpecR E.P f args L0 r L1 R) (ML : List (Nat × Nat)) (V : List Nat) (hco : CallOk rs L0 ML V)
    (hm : Sv.mtL ML V rs (rsL L0) (xs.map (opd tm) ++ caps) args) :
    SStep X E.P o tm rs (r.ren (callRn rs (rsL L1) ML V)) (retRu (callRn rs (rsL L1) ML V) (rsL L1)) := by
  refine SStep0.inn ?_
  rintro a w K Q ⟨hd, hn, c, hp, ht, hpin⟩ hK
  have hopd := fun z => opd_ok (X := X) (rs := rs) (tm := tm) (a := a) (w := w) (c := c) ht z
  have hx1 := hopd x
  rw [hx] at hx1
  simp only [Sv.ok] at hx1
  obtain ⟨cvs, hx1, hx2⟩ := hx1
  have hargs := Sv.mtL_ok (rs0 := rsL L0) (ML := ML) (V := V) hp _ _ _ hm ((opdL_ok hopd xs).append hx2)
  have hcall := hs w _ _ _ _ (hR w (SV X.S c V) (hp.unch.mono hp.sub) fun b hb => .inl hb) (call_pre hp hco) hargs
  unfold Oper.wp
  have hrun : (execOp a.eval o).run E.P w = .ok (.enter f (xs.map a.eval ++ cvs).toArray) w := by
    simp [execOp, ho, resolve, Deferred.ofValue, hx1, invoke, callFunc_run hf]
  rw [hrun]
  refine hcall.mono fun e w' hh => ?_
  obtain ⟨v, c1, rfl, hp1, hv, hpin1⟩ := hh
  obtain ⟨c2, hp2, hx2, hren⟩ := call_heap hp hco c1 hp1 hpin1
  exact hK _ _ (gam_put hd hn ht hpin hx2 hp2 hdn (Sv.ren_ok hren _ _ hv))
end Go.Eng
end
section
namespace Go.Eng
open Go Go.Cats
def Lent (X : Cx) (x : Value) (d : Dt) : Prop := RdV X.w0 X.S d x
theorem Lent.at {X : Cx} {x : Value} {d : Dt} (h : Lent X x d) {w : World} {S : Nat → Prop} (ag : Agree X.S X.w0 w) (hS : ∀ b, X.S b → S b) : RdV w S d x := RdV.mono hS _ _ (RdV.frame ag _ _ h)
theorem Reb.lent {X : Cx} {w1 : World} {U1 : Nat → Prop} {ds : List Deferred} (hr : Reb X w1 U1 ds) {x : Value} {d : Dt} (h : Lent X x d) : Lent (X.at w1 U1 ds) x d := RdV.frame (hr.agree.mono hr.ssub) _ _ h
theorem RdOk.at {X : Cx} {w1 : World} {U1 : Nat → Prop} {ds : List Deferred} (hr : Reb X w1 U1 ds) {R : World → (Nat → Prop) → Prop} (h : RdOk X R) : RdOk (X.at w1 U1 ds) R := fun w S ag hS => h w S ((hr.agree.mono hr.ssub).trans ag) hS
theorem HkX.callR {X : Cx} {E : Env} {d : Option Nat} {x : Operand} {args : Array Operand} {tys : Array TypeId} {σ : Ss} {K : Ss → Prop} {f : FuncId} {caps es : List Sv} {L0 L1 : List (Nat × Rs)} {r : Sv} {R : World → (Nat → Prop) → Prop}
    (hR : RdOk X R) (hs : SpecR E.P f es L0 r L1 R) (hc : Callable E.P f) (ML : List (Nat × Nat)) (V : List Nat) (hx : σ.opd x = .fn f caps)
    (h1 : evCO (rsL σ.rs) (reach (rsL σ.rs) 3 ((Sv.fn f caps).ids ++ (args.toList.map σ.opd).flatMap Sv.ids)) L0 ML V) (h2 : Sv.mtL ML V (rsL σ.rs) (rsL L0) (args.toList.map σ.opd ++ caps) es)
    (h3 : K (σ.ap d (r.ren (callRn (rsL σ.rs) (rsL L1) ML V)) (retRu (callRn (rsL σ.rs) (rsL L1) ML V) (rsL L1)) (nxOf σ.nx (retRu (callRn (rsL σ.rs) (rsL L1) ML V) (rsL L1))))) :
    HkX X E d (.call { callee := .value x, args := args, argTypes := tys }) σ K := by
  obtain ⟨a1, a2, a3, a4, a5⟩ := h1
  have hV := fun i (hi : i ∈ V) => (coV_get a4 i hi).2.2
  have hco : CallOk (rsL σ.rs) L0 ML V := ⟨a1, a2, fun i hi => (coV_get a4 i hi).1, fun i hi => (coV_get a4 i hi).2.1, fun k => (coL_get a3 k).1, fun k => (coL_get a3 k).2, coM_get a5⟩
  refine ⟨V ++ ML.map (·.2), _, _, _, fun w1 U1 ds hr o hd ho hdn tm rs g1 g2 => ?_, h3, fun i hi => ?foot⟩
  case foot =>
    rcases List.mem_append.1 hi with hi | hi
    · refine .inl ?_
      have := hV i hi
      rw [← hx] at this
      simpa [deepOp, Op.operands, Call.operands, List.flatMap_map] using this
    · exact .inr (by simpa [retRu, callRn, Function.comp_def] using hi)
  have he : ∀ i ∈ V, rs i = rsL σ.rs i := fun i hi => g2 i (by simp [hi])
  have hM : ∀ i ∈ ML.map (·.2), rs i = rsL σ.rs i := fun i hi => g2 i (List.mem_append_right _ hi)
  have hx' : opd tm x = σ.opd x := g1 x (by simp [ho, Op.operands, Call.operands])
  have hargs : args.toList.map (opd tm) = args.toList.map σ.opd := List.map_congr_left fun y hy => g1 y (by
    simp only [ho, Op.operands, Call.operands]
    simp at hy ⊢
    exact .inr hy)
  have := step_callR (X := X.at w1 U1 ds) (E := E) (tm := tm) (rs := rs) (hR.at hr) (by rw [hd]; exact hdn) x args.toList tys (by simpa using ho) f caps (hx'.trans hx) hc es L0 r L1 hs ML V (callOk_congr hco he hM) (by rw [hargs]; exact mtL_congr he _ _ h2)
  rw [callRn_congr _ he hM] at this
  exact this
theorem step_index_raw {X : Cx} {E : Env} {o : Oper} {tm : Nat → Sv} {rs : Nat → Rs} (hdn : ∀ k, o.dst = some k → k < X.n) (t : TypeId) (x y : Operand) (ho : o.op = .indexAddr t x y)
    (k : IntKind) (n : Int) (hy : opd tm y = .v (.int k n)) (e : TypeId) (eby : Nat) (ez : List Value) (hk : (E.ti t).k = .sli e 1 eby ez) (u : Value) (hx : opd tm x = .v u) {A : List Int} (hl : Lent X u (ints A)) (h0 : 0 ≤ n) (h1 : n.toNat < A.length) :
    SStep X E.P o tm rs (.bptr [] [.v (.int .i64 (A.getD n.toNat 0))]) [] :=
  step_quiet hdn fun a w c hp h => by
    have hx1 := h x
    have hy1 := h y
    rw [hx] at hx1
    rw [hy] at hy1
    simp only [Sv.ok] at hx1 hy1
    have h3 := hl.at (hp.unch.mono hp.sub) (fun _ h => h)
    simp only [ints, RdV] at h3
    rcases h3.2 with ⟨_, h4⟩ | ⟨g, off, sp, m, cap, vs, e1, e2, _, _, e5', e6, e7⟩
    · simp at h4; subst h4; simp at h1
    · have hne : (A.map fun n => Dt.v (.int .i64 n)) ≠ [] := fun q => by simp at q; subst q; simp at h1
      obtain ⟨rfl, e5⟩ := e5' hne
      have e2' : m = A.length := by simpa using e2
      have h6 : n < m := by omega
      refine ⟨.pointer (some ⟨g, off + n.toNat * 1, none⟩), ?_, ?_⟩
      · simp only [execOp, ho, hy1, hx1, e1, Sem.run_bind, indexAt_run hk _ _ _ _ k n h0 h6, Result.andThen_ok]
        rfl
      · simp only [Sv.ok]
        refine ⟨tagB_nil _, rfl, fun _ => ⟨g, off + n.toNat * 1, [.int .i64 (A.getD n.toNat 0)], rfl, fun _ => .inl e5, by simp [RdL, RdV], fun j x hj => ?_⟩⟩
        have hfl : (A.map fun n => Dt.v (.int .i64 n)).all Dt.isV = true := by simp [Dt.isV]
        have hv := (RdL.flat hfl).1 e6
        have hv' : vs = A.map (Value.int .i64) := by rw [hv]; simp [Dt.val, Function.comp_def]
        cases j with
        | zero =>
          simp at hj
          subst hj
          have := e7 n.toNat (.int .i64 (A.getD n.toNat 0)) (by rw [hv']; simp [List.getD_eq_getElem?_getD, h1])
          simpa using this
        | succ j => simp at hj
theorem hook_idxR {X : Cx} {E : Env} {d : Option Nat} {t : TypeId} {x y : Operand} {σ : Ss} {K : Ss → Prop} {k : IntKind} {n : Int} {e : TypeId} {eby : Nat} {ez : List Value} {u : Value} {A : List Int}
    (hy : σ.opd y = .v (.int k n)) (hx : σ.opd x = .v u) (hl : Lent X u (ints A)) (hk : (E.ti t).k = .sli e 1 eby ez) (h0 : 0 ≤ n) (h1 : n.toNat < A.length)
    (hK : K (σ.ap d (.bptr [] [.v (.int .i64 (A.getD n.toNat 0))]) [] σ.nx)) : HkX X E d (.indexAddr t x y) σ K := by
  refine ⟨[], _, [], _, fun w1 U1 ds hr o hd ho hdn tm rs g1 g2 => ?_, hK, fun i hi => by simp at hi⟩
  exact step_index_raw (X := X.at w1 U1 ds) (E := E) (by rw [hd]; exact hdn) t x y ho k n (by rw [g1 y (by rw [ho]; simp [Op.operands])]; exact hy) e eby ez hk u (by rw [g1 x (by rw [ho]; simp [Op.operands])]; exact hx) (hr.lent hl) h0 h1
end Go.Eng
end
section
namespace Go.Eng
open Go Go.Maps Go.RowKit Go.WideMaps
theorem split_res2 {X : Cx} {rs : Nat → Rs} {w : World} {c : Nat → Cn} (hp : Hp X.w0 X.U X.S c rs w) (i j : Nat) (hij : i ≠ j) (hj : rs j = ⟨0, .gone⟩) (cv' : Nat) (hcv : (rs i).cv < cv') (k kj : Rk) (n : Cn)
    (hF : ∀ b, n.fp b → (c i).fp b) (hn : n.hdr.oneCell' = true)
    (hk : Ext X.S w w c (upd (upd c j n) i ⟨(c i).blk, (c i).hdr, fun b => (c i).fp b ∧ ¬ n.fp b⟩) rs (upd (upd rs j ⟨1, kj⟩) i ⟨cv', k⟩) →
      k.ok w X.S (upd (upd c j n) i ⟨(c i).blk, (c i).hdr, fun b => (c i).fp b ∧ ¬ n.fp b⟩) (upd (upd rs j ⟨1, kj⟩) i ⟨cv', k⟩) ⟨(c i).blk, (c i).hdr, fun b => (c i).fp b ∧ ¬ n.fp b⟩ ∧
      kj.ok w X.S (upd (upd c j n) i ⟨(c i).blk, (c i).hdr, fun b => (c i).fp b ∧ ¬ n.fp b⟩) (upd (upd rs j ⟨1, kj⟩) i ⟨cv', k⟩) n) :
    Hp X.w0 X.U X.S (upd (upd c j n) i ⟨(c i).blk, (c i).hdr, fun b => (c i).fp b ∧ ¬ n.fp b⟩) (upd (upd rs j ⟨1, kj⟩) i ⟨cv', k⟩) w ∧ Ext X.S w w c (upd (upd c j n) i ⟨(c i).blk, (c i).hdr, fun b => (c i).fp b ∧ ¬ n.fp b⟩) rs (upd (upd rs j ⟨1, kj⟩) i ⟨cv', k⟩) := by
  have hx : Ext X.S w w c (upd (upd c j n) i ⟨(c i).blk, (c i).hdr, fun b => (c i).fp b ∧ ¬ n.fp b⟩) rs (upd (upd rs j ⟨1, kj⟩) i ⟨cv', k⟩) := by
    refine ⟨fun l => ?_, Agree.refl _ _, fun l hl => ?_, fun l hl he ha => ?_⟩
    · by_cases e : l = i
      · subst e; rw [upd_same]; exact Nat.le_of_lt hcv
      · rw [upd_other _ _ e]
        by_cases e' : l = j
        · subst e'; rw [hj]; exact Nat.zero_le _
        · rw [upd_other _ _ e']; exact Nat.le_refl _
    · by_cases e : l = i
      · subst e; rw [upd_same]; exact ⟨rfl, rfl⟩
      · rw [upd_other _ _ e]
        by_cases e' : l = j
        · subst e'; rw [hj] at hl; simp at hl
        · rw [upd_other _ _ e']; exact ⟨rfl, rfl⟩
    · by_cases e : l = i
      · subst e; rw [upd_same] at he; simp at he; omega
      · rw [upd_other _ _ e] at he ha ⊢
        by_cases e' : l = j
        · subst e'; rw [hj] at hl; simp at hl
        · rw [upd_other _ _ e'] at ha ⊢
          exact ⟨ha, fun _ h => h, Agree.refl _ _⟩
  obtain ⟨hk1, hk2⟩ := hk hx
  have hgone : ∀ b, ¬ (c j).fp b := fun b hb => by
    have := hp.res j
    rw [hj] at this
    exact this b hb
  refine ⟨⟨hp.os, hp.tape, hp.output, hp.size, hp.unch, hp.sub, hp.ult, fun l => ?_, fun l b hb => ?_, fun l b hb => ?_, fun l m b hlm hl hm => ?_, fun l => ?_⟩, hx⟩
  · by_cases e : l = i
    · subst e; rw [upd_same, upd_same]; exact hk1
    · by_cases e' : l = j
      · subst e'
        rw [upd_other _ _ e, upd_same, upd_other _ _ e, upd_same]; exact hk2
      · have := Rk.ok_ext hx (Agree.refl (c l).fp w) _ (hp.res l)
        rw [upd_other _ _ e, upd_other _ _ e', upd_other _ _ e, upd_other _ _ e']
        exact this
  · by_cases e : l = i
    · subst e; rw [upd_same] at hb; exact hp.flt l b hb.1
    · rw [upd_other _ _ e] at hb
      by_cases e' : l = j
      · subst e'; rw [upd_same] at hb; exact hp.flt i b (hF b hb)
      · rw [upd_other _ _ e'] at hb; exact hp.flt l b hb
  · by_cases e : l = i
    · subst e; rw [upd_same] at hb; exact hp.fu l b hb.1
    · rw [upd_other _ _ e] at hb
      by_cases e' : l = j
      · subst e'; rw [upd_same] at hb; exact hp.fu i b (hF b hb)
      · rw [upd_other _ _ e'] at hb; exact hp.fu l b hb
  · have key : ∀ l, (upd (upd c j n) i ⟨(c i).blk, (c i).hdr, fun b => (c i).fp b ∧ ¬ n.fp b⟩ l).fp b → (l = i ∧ (c i).fp b ∧ ¬ n.fp b) ∨ (l = j ∧ n.fp b) ∨ (l ≠ i ∧ l ≠ j ∧ (c l).fp b) := fun l h => by
      by_cases e : l = i
      · subst e; rw [upd_same] at h; exact .inl ⟨rfl, h⟩
      · rw [upd_other _ _ e] at h
        by_cases e' : l = j
        · subst e'; rw [upd_same] at h; exact .inr (.inl ⟨rfl, h⟩)
        · rw [upd_other _ _ e'] at h; exact .inr (.inr ⟨e, e', h⟩)
    rcases key l hl with ⟨rfl, h1, h2⟩ | ⟨rfl, h1⟩ | ⟨e1, e2, h1⟩ <;> rcases key m hm with ⟨rfl, g1, g2⟩ | ⟨rfl, g1⟩ | ⟨f1, f2, g1⟩
    · exact hlm rfl
    · exact h2 g1
    · exact hp.dis _ _ b (Ne.symm f1) h1 g1
    · exact g2 h1
    · exact hlm rfl
    · exact hp.dis _ _ b (Ne.symm f1) (hF b h1) g1
    · exact hp.dis _ _ b e1 h1 g1
    · exact hp.dis _ _ b e1 h1 (hF b g1)
    · exact hp.dis _ _ b hlm h1 g1
  · by_cases e : l = i
    · subst e; rw [upd_same]; exact hp.one l
    · rw [upd_other _ _ e]
      by_cases e' : l = j
      · subst e'; rw [upd_same]; exact hn
      · rw [upd_other _ _ e']; exact hp.one l
/-! ### One cell's tree taken out of many -/
def anyD : Dt := .ab ⟨fun _ _ _ => True, fun _ _ => trivial⟩
theorem OwL.take : ∀ {ds : List Dt} {vs : List Value} {k : Nat} {d : Dt} {w : World} {F : Nat → Prop}, OwL w F ds vs → (∀ x ∈ vs, x.oneCell' = true) → ds[k]? = some d →
    ∃ x F1 F2, vs[k]? = some x ∧ (∀ b, F1 b → F b) ∧ (∀ b, F2 b → F b) ∧ (∀ b, F1 b → F2 b → False) ∧ OwV w F1 d x ∧ OwL w F2 (ds.set k anyD) vs
  | [], _, _, _, _, _, _, _, h => by simp at h
  | d :: ds, vs, k, d', w, F, h, ho, hk => by
    simp only [OwL] at h
    obtain ⟨x, r, F1, F2, rfl, f1, f2, f3, h2, h3⟩ := h
    cases k with
    | zero =>
      simp at hk; subst hk
      refine ⟨x, F1, F2, by simp, f1, f2, f3, h2, ?_⟩
      simp only [List.set_cons_zero, OwL]
      exact ⟨x, r, fun _ => False, F2, rfl, fun _ h => h.elim, fun _ h => h, fun _ h _ => h, by simp only [anyD, OwV]; exact ⟨ho x (by simp), fun _ => False, fun _ h => h.elim, trivial⟩, h3⟩
    | succ k =>
      simp at hk
      obtain ⟨y, G1, G2, g0, g1, g2, g3, g4, g5⟩ := OwL.take h3 (fun x hx => ho x (by simp [hx])) hk
      refine ⟨y, G1, fun b => F1 b ∨ G2 b, by simpa using g0, fun b hb => f2 b (g1 b hb), fun b hb => hb.elim (f1 b) fun h => f2 b (g2 b h), fun b h1 h4 => h4.elim (fun h => f3 b h (g1 b h1)) (g3 b h1), g4, ?_⟩
      simp only [List.set_cons_succ, OwL]
      exact ⟨x, r, F1, G2, rfl, fun b h => .inl h, fun b h => .inr h, fun b h1 h4 => f3 b h1 (g2 b h4), h2, g5⟩
/-! ### The maps -/
structure MapL (P : Program) (t k e : TypeId) : Prop where
  und : P.underlying t = some (.map k e)
  key : P.underlying k = some (.int .i64)
  z : ∀ w, (zeroValue e).run P w = .ok (.slice none 0 0) w
def rawElem (v : Value) : Option (DataW Value × List MemPlace) := some (.held v, [])
def rowsAb (P : Program) (k : TypeId) (n : Nat) (rows : List Dt) : Ab :=
  ⟨fun w v F => ∃ b vals D, v = .map (some b) ∧ F b ∧ w.ownsMap P k rawElem b n D ∧ Maps.IsMap D ∧ (∀ x ∈ vals, x.oneCell' = true) ∧ (∀ i, i < rows.length → D.atKey (.int .i64 i) (.held (.slice none 0 0)) = .held (vals.getD i (.slice none 0 0))) ∧ OwL w (fun b' => F b' ∧ b' ≠ b) rows vals, by
    rintro w w' v F ag ⟨b, vals, D, h1, h2, ⟨es, clock, h3, h4⟩, h5, h6, h7, h8⟩
    exact ⟨b, vals, D, h1, h2, ⟨es, clock, (ag b h2).trans h3, h4⟩, h5, h6, h7, OwL.frame (ag.mono fun b hb => hb.1) _ _ h8⟩⟩
def rowsD (P : Program) (k : TypeId) (n : Nat) (rows : List Dt) : Dt := .ab (rowsAb P k n rows)
@[go_sem] theorem ofDt_rowsD {P : Program} {k : TypeId} {n : Nat} {rows : List Dt} (ts : List (Nat × Nat)) : Sv.ofDt ts (rowsD P k n rows) = .bor ts (rowsD P k n rows) := rfl
theorem rows_of_own {P : Program} {k : TypeId} {n : Nat} {rows : List Dt} {w : World} {F : Nat → Prop} {u : Value} (h : OwV w F (rowsD P k n rows) u) : ∃ b vals D, u = .map (some b) ∧ F b ∧ w.ownsMap P k rawElem b n D ∧ Maps.IsMap D ∧ (∀ x ∈ vals, x.oneCell' = true) ∧ (∀ i, i < rows.length → D.atKey (.int .i64 i) (.held (.slice none 0 0)) = .held (vals.getD i (.slice none 0 0))) ∧ OwL w (fun b' => F b' ∧ b' ≠ b) rows vals := by
  simp only [rowsD, OwV] at h
  obtain ⟨_, F', h1, b, vals, D, h2, h3, h4, h5, h6, h7, h8⟩ := h
  exact ⟨b, vals, D, h2, h1 b h3, h4, h5, h6, h7, OwL.mono (fun b hb => ⟨h1 b hb.1, hb.2⟩) _ _ h8⟩
theorem rows_own {P : Program} {k : TypeId} {n : Nat} {rows : List Dt} {w : World} {F : Nat → Prop} {b : Nat} {vals : List Value} {D : DataW Value} (h1 : F b) (h2 : w.ownsMap P k rawElem b n D) (h3 : Maps.IsMap D) (h4 : ∀ x ∈ vals, x.oneCell' = true)
    (h5 : ∀ i, i < rows.length → D.atKey (.int .i64 i) (.held (.slice none 0 0)) = .held (vals.getD i (.slice none 0 0))) (h6 : OwL w (fun b' => F b' ∧ b' ≠ b) rows vals) : OwV w F (rowsD P k n rows) (.map (some b)) := by
  simp only [rowsD, OwV]
  exact ⟨rfl, F, fun _ h => h, b, vals, D, rfl, h1, h2, h3, h4, h5, h6⟩
theorem keyI {P : Program} {k : TypeId} (hk : P.underlying k = some (.int .i64)) {z : Int} (hz : inR z) : keyOf P k (.int .i64 z) = some (.int .i64 z) :=
  keyOf_int_mk hk (by have := hz; unfold inR at this; simp [Lit.wf, IntKind.min, IntKind.max, IntKind.signed, IntKind.bits]; omega)
section
variable {E : Env} {d : Option Nat} {σ : Ss} {K : Ss → Prop}
theorem hook_makeRows {t k : TypeId} (m sz : Nat) (df : Dt) (hs : 0 < sz) (hf : σ.get σ.nx = ⟨0, .gone⟩) (hK : K (σ.ap d (.sl σ.nx) [(σ.nx, ⟨1, .arr (rowsD E.P k 0 (List.replicate m (.sl sz df [])))⟩)] (σ.nx + 1))) : EvHook E d (.makeMap t none) σ K := by
  refine ⟨[σ.nx], _, [(σ.nx, _)], _, fun X o _ hd ho hdn tm rs h1 h2 => ?_, hK, fun i hi => .inr hi⟩
  have hu : rs σ.nx = ⟨0, .gone⟩ := (h2 _ (by simp)).trans hf
  refine SStep0.inn ?_
  rintro a w K Q ⟨hdf, hn, c, hp, ht, hpin⟩ hK
  have hag : Agree (fun b => b < w.heap.size) w (w.alloc (.map #[] 0)) := fun b hb => Go.RowKit.Below.heap_alloc w _ b hb
  have hrows : ∀ m, OwL (w.alloc (.map #[] 0)) (fun b' => (b' = w.heap.size) ∧ b' ≠ w.heap.size) (List.replicate m (Dt.sl sz df [])) (List.replicate m (.slice none 0 0)) := fun m => by
    induction m with
    | zero => simp [OwL]
    | succ m ih =>
      simp only [List.replicate_succ, OwL]
      exact ⟨_, _, fun _ => False, _, rfl, fun _ h => h.elim, fun _ h => h, fun _ h _ => h, by simp [OwV, hs], ih⟩
  obtain ⟨hp', hx⟩ := new_res (X := X) (w' := w.alloc (.map #[] 0)) hp σ.nx hu ⟨w.heap.size, .map (some w.heap.size), fun b => b = w.heap.size⟩ (.arr (rowsD E.P k 0 (List.replicate m (.sl sz df [])))) rfl rfl rfl (by simp) hag
    (fun b hb => by have hb' : b = w.heap.size := hb; subst hb'; simp) rfl (fun _ => ⟨rows_own (vals := List.replicate m (.slice none 0 0)) rfl (World.ownsMap_made w E.P k rawElem) Maps.isMap_empty (fun x hx => by rw [(List.mem_replicate.1 hx).2]; rfl)
      (fun i hi => by
        have : (List.replicate m (Value.slice none 0 0)).getD i (.slice none 0 0) = .slice none 0 0 := by
          rw [List.getD_eq_getElem?_getD, List.getElem?_replicate]
          split <;> rfl
        rw [this]; rfl) (hrows m), fun _ _ _ h => by cases h⟩)
  unfold Oper.wp
  have hrun : (execOp a.eval o).run E.P w = .ok (.value (.map (some w.heap.size))) (w.alloc (.map #[] 0)) := by
    simp [execOp, ho, run_makeMap]
  rw [hrun]
  refine hK _ _ (gam_put hdf hn ht hpin hx hp' (by rw [hd]; exact hdn) ?_)
  simp [Sv.ok, upd_same]
theorem look_rows {P : Program} {t k e : TypeId} (hT : MapL P t k e) {w : World} {b n : Nat} {D : DataW Value} {vals : List Value} {rows : List Dt} (hown : w.ownsMap P k rawElem b n D)
    (hat : ∀ i, i < rows.length → D.atKey (.int .i64 i) (.held (.slice none 0 0)) = .held (vals.getD i (.slice none 0 0))) {z : Nat} (hz : z < rows.length) (hz2 : inR z) :
    (Instr.lookup t (.map (some b)) (.int .i64 z) false).run P w = .ok (vals.getD z (.slice none 0 0)) w := by
  obtain ⟨v, ps, hrun, hv⟩ := hown.lookup (t := t) (int_keyed hT.key) hT.und (hT.z w) (zd := .held (.slice none 0 0)) (zp := []) rfl (keyI hT.key hz2)
  rw [hat z hz] at hv
  simp only [rawElem, Option.some.injEq, Prod.mk.injEq, DataW.held.injEq] at hv
  rw [hrun, hv.1]
theorem hook_takeRow {t k e : TypeId} {m x : Operand} {i n cv : Nat} {rows : List Dt} {z : Nat} (hT : MapL E.P t k e) (hm : σ.opd m = .sl i) (hi : σ.get i = ⟨cv, .arr (rowsD E.P k n rows)⟩) (hcv : 1 ≤ cv)
    (hx : σ.opd x = .v (.int .i64 z)) (hz : z < rows.length) (hz2 : inR z) (hsl : (rows.getD z anyD).isSl = true) (hf : σ.get σ.nx = ⟨0, .gone⟩)
    (hK : K (σ.ap d (.sl σ.nx) [(i, ⟨cv + 1, .arr (rowsD E.P k n (rows.set z anyD))⟩), (σ.nx, ⟨1, .arr (rows.getD z anyD)⟩)] (σ.nx + 1))) : EvHook E d (.lookup t m x false) σ K := by
  refine ⟨[i, σ.nx], _, _, _, fun X o _ hd ho hdn tm rs h1 h2 => ?_, hK, fun j hj => .inr (by simpa using hj)⟩
  have hr : rs i = ⟨cv, .arr (rowsD E.P k n rows)⟩ := (h2 i (by simp)).trans hi
  have hu : rs σ.nx = ⟨0, .gone⟩ := (h2 _ (by simp)).trans hf
  have em : opd tm m = σ.opd m := h1 m (by rw [ho]; simp [Op.operands])
  have ex : opd tm x = σ.opd x := h1 x (by rw [ho]; simp [Op.operands])
  have hij : i ≠ σ.nx := fun q => by rw [← q, hr] at hu; simp at hu
  refine SStep0.inn ?_
  rintro a w K Q ⟨hdf, hn, c, hp, ht, hpin⟩ hK
  have hm1 := opd_ok ht m
  have hx1 := opd_ok ht x
  rw [em, hm] at hm1
  rw [ex, hx] at hx1
  simp only [Sv.ok] at hm1 hx1
  have hres := hp.res i
  rw [hr] at hres
  obtain ⟨b, vals, D, g1, g2, g3, g4, g5, g6, g7⟩ := rows_of_own hres.1
  have hrow : rows[z]? = some (rows.getD z anyD) := by rw [List.getD_eq_getElem?_getD, List.getElem?_eq_getElem hz]; rfl
  obtain ⟨u, F1, F2, q0, q1, q2, q3, q4, q5⟩ := OwL.take g7 g5 hrow
  have hone : u.oneCell' = true := bor_one hsl (OwV.rd _ _ q4)
  have hblk : ∃ g : Nat, ∀ a m k, u = .slice (some a) m k → a = ⟨g, 0, none⟩ := by
    cases hc : rows.getD z anyD with
    | v y => rw [hc] at hsl; cases hsl
    | pt l => rw [hc] at hsl; cases hsl
    | ab p => rw [hc] at hsl; cases hsl
    | sl sz' df' l =>
      rw [hc] at q4
      simp only [OwV] at q4
      rcases q4.2 with ⟨rfl, _⟩ | ⟨g, m', cap', cur', e', r1, _⟩
      · exact ⟨0, fun _ _ _ h => by cases h⟩
      · exact ⟨g, fun a m k h => by rw [r1] at h; simp at h; exact h.1.symm⟩
  obtain ⟨g, hg⟩ := hblk
  have hval : vals.getD z (.slice none 0 0) = u := by rw [List.getD_eq_getElem?_getD, q0]; rfl
  have hrun := look_rows hT g3 g6 hz hz2
  rw [hval] at hrun
  obtain ⟨hp', hext⟩ := split_res2 (X := X) hp i σ.nx hij hu (cv + 1) (by rw [hr]; exact Nat.lt_succ_self _) (.arr (rowsD E.P k n (rows.set z anyD))) (.arr (rows.getD z anyD)) ⟨g, u, F1⟩ (fun b hb => (q1 b hb).1) hone (fun _ => by
    refine ⟨⟨?_, fun a m k h => by rw [g1] at h; cases h⟩, q4, hg⟩
    rw [g1]
    refine rows_own (vals := vals) ⟨g2, fun h => (q1 b h).2 rfl⟩ g3 g4 g5 (fun i hi => g6 i (by simpa using hi)) (OwL.mono (fun b' hb => ⟨⟨(q2 b' hb).1, fun h => q3 b' h hb⟩, (q2 b' hb).2⟩) _ _ q5))
  unfold Oper.wp
  have hrun2 : (execOp a.eval o).run E.P w = .ok (.value u) w := by
    simp [execOp, ho, hm1.2, g1, hx1, hrun]
  rw [hrun2]
  refine hK _ _ (gam_put hdf hn ht hpin hext hp' (by rw [hd]; exact hdn) ?_)
  simp only [Sv.ok, upd_other _ _ (Ne.symm hij), upd_same]
  exact ⟨Nat.le_refl _, trivial⟩
theorem hook_putRow {t k e : TypeId} {m x v : Operand} {i j n cv : Nat} {rows : List Dt} {row : Dt} {z : Nat} (hT : MapL E.P t k e) (hd0 : d = none) (hm : σ.opd m = .sl i) (hi : σ.get i = ⟨cv, .arr (rowsD E.P k n rows)⟩) (hij : i ≠ j)
    (hx : σ.opd x = .v (.int .i64 z)) (hz : z < rows.length) (hz2 : inR z) (hv : σ.opd v = .sl j) (hj : (σ.get j).k = .arr row) (hsl : row.isSl = true) (hn : n < maxLen)
    (hK : K (σ.ap d .dead [(i, ⟨cv + 1, .arr (rowsD E.P k (n + 1) (rows.set z row))⟩), (j, ⟨(σ.get j).cv, .gone⟩)] σ.nx)) : EvHook E d (.mapUpdate t m x v) σ K := by
  refine ⟨[i, j], _, _, _, fun X o _ hd ho hdn tm rs h1 h2 => ?_, hK, fun l hl => .inr (by simpa using hl)⟩
  have hr : rs i = ⟨cv, .arr (rowsD E.P k n rows)⟩ := (h2 i (by simp)).trans hi
  have hrj : rs j = σ.get j := h2 j (by simp)
  have em : opd tm m = σ.opd m := h1 m (by rw [ho]; simp [Op.operands])
  have ex : opd tm x = σ.opd x := h1 x (by rw [ho]; simp [Op.operands])
  have ev : opd tm v = σ.opd v := h1 v (by rw [ho]; simp [Op.operands])
  refine SStep0.inn ?_
  rintro a w K Q ⟨hdf, hnn, c, hp, ht, hpin⟩ hK
  have hm1 := opd_ok ht m
  have hx1 := opd_ok ht x
  have hv1 := opd_ok ht v
  rw [em, hm] at hm1
  rw [ex, hx] at hx1
  rw [ev, hv] at hv1
  simp only [Sv.ok] at hm1 hx1 hv1
  have hres := hp.res i
  rw [hr] at hres
  have hresj := hp.res j
  rw [hrj, hj] at hresj
  obtain ⟨b, vals, D, g1, g2, g3, g4, g5, g6, g7⟩ := rows_of_own hres.1
  have hlen : vals.length = rows.length := OwL.length g7
  have hone : (c j).hdr.oneCell' = true := hp.one j
  obtain ⟨w', hrun, hown', hg⟩ := g3.update (t := t) (int_keyed hT.key) hT.und hn (key := .int .i64 z) (kl := .int .i64 z) (val := (c j).hdr) (d := .held (c j).hdr) (ps := []) (keyI hT.key hz2) rfl
  have hsz : w'.heap.size = w.heap.size := by
    obtain ⟨es, clock, q1, q2, q3, _⟩ := g3
    obtain ⟨es', clock', hrun3, _⟩ := Maps.fit_store (R' := rawElem) (int_keyed hT.key) hT.und q1 q2 (Nat.lt_of_le_of_lt q3 hn) (fun _ _ _ _ h => h) (keyI hT.key hz2) (val := (c j).hdr) rfl
    rw [hrun3] at hrun
    injection hrun with _ e
    rw [← e]
    simp [Go.ChangeMaps.setBlock]
  have hagb : ∀ l, l ≠ b → w'.heap[l]? = w.heap[l]? := fun l hl => by
    by_cases hlt : l < w.heap.size
    · exact hg.block l hlt (fun h => hl (by injection h))
    · rw [Array.getElem?_eq_none (by omega), Array.getElem?_eq_none (by omega)]
  have hbj : ¬ (c j).fp b := fun h => hp.dis i j b hij g2 h
  obtain ⟨hp', hx'⟩ := rearr (X := X) (w' := w') hp i ⟨(c i).blk, (c i).hdr, fun b => (c i).fp b ∨ (c j).fp b⟩ (cv + 1) (.arr (rowsD E.P k (n + 1) (rows.set z row))) [j] (by simpa using hij) (by rw [hr]; exact Nat.lt_succ_self _) (.inr ⟨rfl, rfl⟩)
    hg.os hg.tape hg.output (by omega) (fun l hl => hagb l (fun q => hl.2.1 (by rw [q]; exact g2)))
    (fun b hb => hb.elim .inl fun h => .inr (.inl ⟨j, by simp, h⟩)) (hp.one i) (fun hx => by
      refine ⟨?_, fun a m k h => by rw [g1] at h; cases h⟩
      rw [g1]
      refine rows_own (vals := vals.set z (c j).hdr) (.inl g2) hown' (by obtain ⟨es, rfl⟩ := g4; exact ⟨_, rfl⟩) (fun x hx => ?_) (fun l hl => ?_) ?_
      · rcases List.mem_or_eq_of_mem_set hx with hx | rfl
        · exact g5 x hx
        · exact hone
      · rw [List.length_set] at hl
        by_cases q : l = z
        · subst q
          rw [Maps.atKey_put_same g4 (show Go.WideAt.IsKeyLit (.int _ _) by simp [Go.WideAt.IsKeyLit]), List.getD_eq_getElem?_getD, List.getElem?_set_self (by omega)]
          rfl
        · rw [Maps.atKey_put_other (fun e => q (by injection e with _ e; omega)), g6 l hl, List.getD_eq_getElem?_getD, List.getD_eq_getElem?_getD, List.getElem?_set_ne (fun e => q e.symm)]
      · have hA : OwL w' (fun b' => (c i).fp b' ∧ b' ≠ b) rows vals := OwL.frame (fun l hl => hagb l hl.2) _ _ g7
        have hB : OwV w' (c j).fp row (c j).hdr := OwV.frame (fun l hl => hagb l (fun q => hbj (by rw [← q]; exact hl))) _ _ hresj.1
        exact OwL.set hA hB (fun b' hb => ⟨.inl hb.1, hb.2⟩) (fun b' hb => ⟨.inr hb, fun q => hbj (by rw [← q]; exact hb)⟩) (fun b' h1 h2 => hp.dis i j b' hij h1.1 h2))
  unfold Oper.wp
  have hrun2 : (execOp a.eval o).run E.P w = .ok .skip w' := by
    simp [execOp, ho, hm1.2, g1, hx1, hv1.2, hrun]
  rw [hrun2]
  have hru : updl rs [(i, (⟨cv + 1, .arr (rowsD E.P k (n + 1) (rows.set z row))⟩ : Rs)), (j, ⟨(σ.get j).cv, .gone⟩)] = upd (updl rs (goneL rs [j])) i ⟨cv + 1, .arr (rowsD E.P k (n + 1) (rows.set z row))⟩ := by
    simp only [updl, goneL, List.map_cons, List.map_nil, hrj]
  refine hK _ _ ?_
  rw [hru]
  exact gam_put hdf hnn ht hpin hx' hp' (by rw [hd]; exact hdn) (by simp [Sv.ok])
end
end Go.Eng
end
section
namespace Go.Eng
open Go Go.Maps Go.RowKit Go.WideMaps Go.Cats
theorem rows_of_rd {P : Program} {k : TypeId} {n : Nat} {rows : List Dt} {w : World} {F : Nat → Prop} {u : Value} (h : RdV w F (rowsD P k n rows) u) : ∃ b vals D, u = .map (some b) ∧ F b ∧ w.ownsMap P k rawElem b n D ∧ Maps.IsMap D ∧ (∀ x ∈ vals, x.oneCell' = true) ∧ (∀ i, i < rows.length → D.atKey (.int .i64 i) (.held (.slice none 0 0)) = .held (vals.getD i (.slice none 0 0))) ∧ OwL w (fun b' => F b' ∧ b' ≠ b) rows vals := by
  simp only [rowsD, RdV] at h
  obtain ⟨_, F', h1, b, vals, D, h2, h3, h4, h5, h6, h7, h8⟩ := h
  exact ⟨b, vals, D, h2, h1 b h3, h4, h5, h6, h7, OwL.mono (fun b hb => ⟨h1 b hb.1, hb.2⟩) _ _ h8⟩
section
variable {E : Env} {d : Option Nat} {σ : Ss} {K : Ss → Prop}
theorem hook_lendRow_b {t k e : TypeId} {m x : Operand} {n : Nat} {ts : List (Nat × Nat)} {rows : List Dt} {z : Nat} (hT : MapL E.P t k e) (hm : σ.opd m = .bor ts (rowsD E.P k n rows)) (htg : tagOk σ ts)
    (hx : σ.opd x = .v (.int .i64 z)) (hz : z < rows.length) (hz2 : inR z) (hsl : (rows.getD z anyD).isSl = true)
    (hK : K (σ.ap d (.bor ts (rows.getD z anyD)) [] σ.nx)) : EvHook E d (.lookup t m x false) σ K := by
  refine ⟨ts.map (·.1), _, _, _, fun X o _ hd ho hdn tm rs h1 h2 => ?_, hK, fun j hj => .inl ?_⟩
  · have htv : TagV rs ts := fun p hp => by
      have h3 := tagOk_v htg p hp
      rw [h2 p.1 (List.mem_map.2 ⟨p, hp, rfl⟩)]
      exact h3
    have em : opd tm m = σ.opd m := h1 m (by rw [ho]; simp [Op.operands])
    have ex : opd tm x = σ.opd x := h1 x (by rw [ho]; simp [Op.operands])
    refine step_quiet (E := E) (by rw [hd]; exact hdn) fun a w c hp h => ?_
    have hm1 := h m
    have hx1 := h x
    rw [em, hm] at hm1
    rw [ex, hx] at hx1
    simp only [Sv.ok] at hm1 hx1
    obtain ⟨b, vals, D, g1, g2, g3, g4, g5, g6, g7⟩ := rows_of_rd (hm1.2.2 htv)
    have hrun := look_rows hT g3 g6 hz hz2
    obtain ⟨u, q1, q2⟩ := OwL.get (k := z) (d := rows.getD z anyD) g7 (by rw [List.getD_eq_getElem?_getD, List.getElem?_eq_getElem hz]; rfl)
    have hval : vals.getD z (.slice none 0 0) = u := by rw [List.getD_eq_getElem?_getD, q1]; rfl
    rw [hval] at hrun
    refine ⟨u, ?_, ?_⟩
    · simp [execOp, ho, g1, hx1, hrun]
    · simp only [Sv.ok]
      exact ⟨hm1.1, bor_one hsl (OwV.rd _ _ q2), fun _ => RdV.mono (fun b' hb => hb.1) _ _ (OwV.rd _ _ q2)⟩
  · exact reach_self (by simp only [Op.operands, List.flatMap_cons, List.toList_toArray]; rw [hm]; exact List.mem_append_left _ (by simpa [Sv.ids] using hj))
end
/-! ### Values that are called by name -/
structure RawV where
  x : Value
  one : x.oneCell' = true
instance : Inhabited RawV := ⟨⟨.slice none 0 0, rfl⟩⟩
def rawOf (x : Value) : RawV := if h : x.oneCell' = true then ⟨x, h⟩ else default
theorem rawOf_x {x : Value} (h : x.oneCell' = true) : (rawOf x).x = x := by unfold rawOf; rw [dif_pos h]
@[go_sem] theorem one_raw (x : RawV) : x.x.oneCell' = true := x.one
/-! ### Rules with the names of their lists -/
def rulesD (l : List (Rule × RawV)) : Dt := .sl 3 (.v (.int .i64 0)) (l.flatMap fun p => [.v (.int .i64 p.1.fr), .v (.int .i64 p.1.to), .v p.2.x])
theorem rules_cl (l : List (Rule × RawV)) : (l.flatMap fun p => ([.v (.int .i64 p.1.fr), .v (.int .i64 p.1.to), .v p.2.x] : List Dt)).length = l.length * 3 := by
  induction l with
  | nil => rfl
  | cons p l ih => rw [List.flatMap_cons, List.length_append, ih]; simp; omega
@[go_sem] theorem rules_isSl (l) : (rulesD l).isSl = true := rfl
@[go_sem] theorem rules_sz (l) : (rulesD l).sz = 3 := rfl
@[go_sem] theorem rules_nc (l : List (Rule × RawV)) : (rulesD l).nc = l.length * 3 := by simp only [rulesD, Dt.nc, Dt.cells]; exact rules_cl l
@[go_sem] theorem rules_len (l : List (Rule × RawV)) : (rulesD l).len = l.length := by
  have := rules_nc l
  unfold Dt.len
  rw [this, rules_sz]; omega
@[go_sem] theorem rules_ones (l : List (Rule × RawV)) : (rulesD l).ones = true := by
  simp only [rulesD, Dt.ones, Dt.cells, List.all_eq_true, List.mem_flatMap, forall_exists_index, and_imp]
  rintro x p _ hx
  simp only [List.mem_cons, List.not_mem_nil, or_false] at hx
  rcases hx with rfl | rfl | rfl
  · rfl
  · rfl
  · exact p.2.one
@[go_sem] theorem rules_flat (l : List (Rule × RawV)) : (rulesD l).flat = true := by
  simp only [rulesD, Dt.flat, Dt.cells, List.all_eq_true, List.mem_flatMap, forall_exists_index, and_imp]
  rintro x p _ hx
  simp only [List.mem_cons, List.not_mem_nil, or_false] at hx
  rcases hx with rfl | rfl | rfl <;> rfl
@[go_sem] theorem rules_app (l m : List (Rule × RawV)) : Dt.app 3 (.v (.int .i64 0)) (rulesD l) (rulesD m) = rulesD (l ++ m) := by simp [rulesD, Dt.app, Dt.cells, List.flatMap_append]
@[go_sem] theorem rules_nil : Dt.sl 3 (.v (.int .i64 0)) [] = rulesD [] := rfl
@[go_sem] theorem ofDt_rules (ts) (l : List (Rule × RawV)) : Sv.ofDt ts (rulesD l) = .bor ts (rulesD l) := rfl
theorem rules_part (l : List (Rule × RawV)) (i : Nat) (h : i < l.length) : (rulesD l).part (i * 3) 3 = [.v (.int .i64 (l.getD i default).1.fr), .v (.int .i64 (l.getD i default).1.to), .v (l.getD i default).2.x] := by
  unfold rulesD Dt.part
  simp only [Dt.cells]
  induction l generalizing i with
  | nil => simp at h
  | cons p l ih =>
    cases i with
    | zero => rfl
    | succ i =>
      have := ih i (by simpa using h)
      rw [show (i + 1) * 3 = i * 3 + 3 by omega]
      simpa using this
def rulesV (rvs : List (Rule × RawV)) (i : Nat) : List (Rule × RawV) := rvs.filter fun p => decide (p.1.fr = i)
theorem rulesV_at (rvs : List (Rule × RawV)) (i : Nat) : (rulesV rvs i).map (·.1) = rulesAt (rvs.map (·.1)) i := by
  unfold rulesV rulesAt
  rw [List.filter_map]
  rfl
def rowsR (rvs : List (Rule × RawV)) (m : Nat) : List Dt := (List.range m).map fun i => rulesD (rulesV rvs i)
theorem rowsR_len (rvs : List (Rule × RawV)) (m : Nat) : (rowsR rvs m).length = m := by simp [rowsR]
theorem rowsR_at (rvs : List (Rule × RawV)) {m i : Nat} (h : i < m) : (rowsR rvs m).getD i anyD = rulesD (rulesV rvs i) := by
  simp [rowsR, List.getD_eq_getElem?_getD, h]
def RLent (rvs : List (Rule × RawV)) (w : World) (S : Nat → Prop) : Prop := ∀ p ∈ rvs, RdV w S (ints p.1.by_) p.2.x
theorem RLent.ok {X : Cx} {rvs : List (Rule × RawV)} (h : RLent rvs X.w0 X.S) : RdOk X (RLent rvs) := fun w S ag hS p hp => Lent.at (X := X) (h p hp) ag hS
end Go.Eng
end
section
namespace Go.Eng
open Go Go.Cats
def linkC (p : Link × RawV) : List Dt := [.v (.int .i64 p.1.i), .v (.int .i64 p.1.j), .v p.2.x, ints p.1.right]
def linksD (l : List (Link × RawV)) : Dt := .sl 4 (.v (.int .i64 0)) (l.flatMap linkC)
theorem links_cl (l : List (Link × RawV)) : (l.flatMap linkC).length = l.length * 4 := by
  induction l with
  | nil => rfl
  | cons p l ih => rw [List.flatMap_cons, List.length_append, ih]; simp [linkC]; omega
@[go_sem] theorem links_isSl (l) : (linksD l).isSl = true := rfl
@[go_sem] theorem links_sz (l) : (linksD l).sz = 4 := rfl
@[go_sem] theorem links_nc (l : List (Link × RawV)) : (linksD l).nc = l.length * 4 := by simp only [linksD, Dt.nc, Dt.cells]; exact links_cl l
@[go_sem] theorem links_len (l : List (Link × RawV)) : (linksD l).len = l.length := by
  have := links_nc l
  unfold Dt.len
  rw [this, links_sz]; omega
@[go_sem] theorem links_app (l m : List (Link × RawV)) : Dt.app 4 (.v (.int .i64 0)) (linksD l) (linksD m) = linksD (l ++ m) := by simp [linksD, Dt.app, Dt.cells, List.flatMap_append]
@[go_sem] theorem links_nil : Dt.sl 4 (.v (.int .i64 0)) [] = linksD [] := rfl
@[go_sem] theorem ofDt_links (ts) (l : List (Link × RawV)) : Sv.ofDt ts (linksD l) = .bor ts (linksD l) := rfl
theorem links_part (l : List (Link × RawV)) (i : Nat) (h : i < l.length) : (linksD l).part (i * 4) 4 = linkC (l.getD i default) := by
  unfold linksD Dt.part
  simp only [Dt.cells]
  induction l generalizing i with
  | nil => simp at h
  | cons p l ih =>
    cases i with
    | zero => rfl
    | succ i =>
      have := ih i (by simpa using h)
      rw [show (i + 1) * 4 = i * 4 + 4 by omega]
      simpa [linkC] using this
def LLent (lvs : List (Link × RawV)) (w : World) (S : Nat → Prop) : Prop := ∀ p ∈ lvs, RdV w S (ints p.1.left) p.2.x
theorem LLent.ok {X : Cx} {lvs : List (Link × RawV)} (h : LLent lvs X.w0 X.S) : RdOk X (LLent lvs) := fun w S ag hS p hp => Lent.at (X := X) (h p hp) ag hS
end Go.Eng
end
section
namespace Go.Eng
open Go Go.Cats
def rawsD (xs : List RawV) : Dt := .sl 1 (.v (.slice none 0 0)) (xs.map fun x => .v x.x)
@[go_sem] theorem raws_isSl (l) : (rawsD l).isSl = true := rfl
@[go_sem] theorem raws_sz (l) : (rawsD l).sz = 1 := rfl
@[go_sem] theorem raws_nc (l : List RawV) : (rawsD l).nc = l.length := by simp [rawsD, Dt.nc, Dt.cells]
@[go_sem] theorem raws_len (l : List RawV) : (rawsD l).len = l.length := by simp [rawsD, Dt.len, Dt.sz, Dt.nc, Dt.cells]
@[go_sem] theorem raws_at (l : List RawV) (k : Nat) : (rawsD l).at k = .v (l.getD k default).x := by
  simp [rawsD, Dt.at, Dt.cells, Dt.df, List.getD_eq_getElem?_getD]
  cases l[k]? <;> rfl
@[go_sem] theorem ofDt_raws (ts) (l : List RawV) : Sv.ofDt ts (rawsD l) = .bor ts (rawsD l) := rfl
theorem rd_names {w : World} {R : Nat → Prop} {L : List (List Int)} {u : Value} (h : RdV w R (intss L) u) : ∃ xs : List RawV, xs.length = L.length ∧ (∀ i, i < L.length → RdV w R (ints (L.getD i [])) (xs.getD i default).x) ∧ RdV w R (rawsD xs) u := by
  have h0 := h
  simp only [intss, RdV] at h
  obtain ⟨_, h⟩ := h
  rcases h with ⟨rfl, q⟩ | ⟨g, off, sp, m, cap, us, q1, q2, q3, q4, q5, q6, q7⟩
  · have hA : L = [] := by simpa using q
    subst hA
    exact ⟨[], rfl, fun i hi => by simp at hi, by simp [rawsD, RdV]⟩
  · have hl := RdL.length q6
    have hl' : us.length = L.length := by simpa using hl
    have hat : ∀ i, i < L.length → RdV w R (ints (L.getD i [])) (us.getD i (.slice none 0 0)) := fun i hi => by
      obtain ⟨y, g1, g2⟩ := RdL.get (k := i) (d := ints (L.getD i [])) q6 (by simp [List.getD_eq_getElem?_getD, hi])
      have e : us.getD i (.slice none 0 0) = y := by rw [List.getD_eq_getElem?_getD, g1]; rfl
      rw [e]
      exact g2
    have hone : ∀ x ∈ us, x.oneCell' = true := fun x hm => by
      obtain ⟨i, hi, e⟩ := List.getElem_of_mem hm
      have := hat i (by omega)
      have e' : us.getD i (.slice none 0 0) = x := by rw [List.getD_eq_getElem?_getD, List.getElem?_eq_getElem hi]; exact e
      rw [e'] at this
      exact bor_one rfl this
    have e1 : (us.map rawOf).map (·.x) = us := by
      rw [List.map_map]
      conv => rhs; rw [← List.map_id us]
      exact List.map_congr_left fun x hm => rawOf_x (hone x hm)
    have e2 : ((us.map rawOf).map fun x : RawV => Dt.v x.x) = us.map Dt.v := by
      have e3 : ((us.map rawOf).map fun x : RawV => Dt.v x.x) = ((us.map rawOf).map fun x : RawV => x.x).map Dt.v := by simp [List.map_map, Function.comp_def]
      rw [e3, e1]
    refine ⟨us.map rawOf, by simpa using hl', fun i hi => ?_, ?_⟩
    · have h1 := hat i hi
      have hi' : i < us.length := by omega
      have e' : us.getD i (.slice none 0 0) = us[i] := by rw [List.getD_eq_getElem?_getD, List.getElem?_eq_getElem hi']; rfl
      have e'' : (us.map rawOf).getD i default = rawOf us[i] := by rw [List.getD_eq_getElem?_getD, List.getElem?_map, List.getElem?_eq_getElem hi']; rfl
      rw [e'', rawOf_x (hone _ (List.getElem_mem _))]
      rw [e'] at h1
      exact h1
    · simp only [rawsD, RdV]
      rw [e2]
      have hfl : (us.map Dt.v).all Dt.isV = true := by simp [Dt.isV]
      refine ⟨Nat.one_pos, .inr ⟨g, off, sp, m, cap, us, q1, ?_, q3, q4, fun hne => q5 (fun he => hne ?_), (RdL.flat hfl).2 (by simp [Dt.val, Function.comp_def]), q7⟩⟩
      · rw [q2]; simp [hl']
      · have : us = [] := by
          apply List.length_eq_zero_iff.1
          rw [hl, he]; rfl
        simp [this]
def sfWS (ts : List (Nat × Nat)) (f : SF) (xs : List RawV) : List Sv := [iv f.shape.ob, .bor ts (ints f.shape.fr), .bor ts (ints f.shape.to), .bor ts (ints f.shape.id), .bor ts (intss f.shape.co), .bor ts (ints f.sizes), .bor ts (rawsD xs)]
section
variable (f : SF) (xs : List RawV) (ts : List (Nat × Nat))
attribute [go_sem] sfWS
end
section
variable {X : Cx} {E : Env} {c : Code} {σ : Ss} {Q : Exit → Ss → Prop}
end
def rvsT (acts : List (List Int)) (xs : List RawV) (T : List Tr) : List (Rule × RawV) := T.map fun t => (ruleT acts t, xs.getD t.2.1 default)
def lvsT (acts : List (List Int)) (S : List Nat) (xs : List RawV) (T : List Tr) : List (Link × RawV) := T.map fun t => (linkT acts S t, xs.getD t.2.1 default)
section
variable {acts : List (List Int)} {xs : List RawV} {T T' : List Tr} {S : List Nat} {X : Cx}
end
end Go.Eng
end
