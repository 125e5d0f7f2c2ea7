/- Several texts in one: EngRF, EngBX, EngMp, EngCl, EngUn, EngDr. -/
import Derived.Test.YtjcilokfgngpmaaKdx
import Derived.RangeFuncIn
import Derived.Maps.Views
import Derived.Laws.BytesArg
import Derived.Carry
section

/- The engine, part RF: loops over functions: the record of a loop, a round, the statement. -/
set_option linter.unusedVariables false
set_option linter.unusedSimpArgs false
namespace Go.Eng
open Go

/-- The blocks and headers of some resources are these. -/
def pinH (ids : List Nat) (B : Nat → Nat × Value) : (Nat → Cn) → Prop := fun c => ∀ i ∈ ids, (c i).blk = (B i).1 ∧ (c i).hdr = (B i).2

def idML (ids : List Nat) : List (Nat × Nat) := ids.map fun i => (i, i)

end Go.Eng
end

section

/- The engine, part BX: a box with a cell that owns a list; contents whose blocks are held fast. -/
set_option linter.unusedVariables false
set_option linter.unusedSimpArgs false
namespace Go.Eng
open Go
section
variable {X : Cx} {σ : Ss}

/-- **The list that a box's cell owns becomes a resource of its own.** -/
theorem Imp.openB (i k : Nat) (cells : List Sv) (d : Dt) (hi : (σ.get i).k = .bx cells k d) (hcv : 1 ≤ (σ.get i).cv) (hsl : d.isSl = true) (hf : σ.get σ.nx = ⟨0, .gone⟩) :
    Imp X σ ⟨σ.tm, (i, ⟨(σ.get i).cv + 1, .box (cells.set k (.sl σ.nx))⟩) :: (σ.nx, ⟨1, .arr d⟩) :: σ.rs, σ.nx + 1⟩ := by
  rintro w1 U1 ds a w ⟨hd, hn, c, hp, ht, hpin⟩
  have hij : i ≠ σ.nx := fun e => by rw [e, hf] at hcv; simp at hcv
  have h1 : Rk.ok w X.S c (rsL σ.rs) (c i) (.bx cells k d) := by
    have := hp.res i
    unfold Ss.get at hi; rw [hi] at this; exact this
  obtain ⟨q1, cur, e, F, x, q2, q3, q4, q5, q6⟩ := h1
  have hone : x.oneCell' = true := bor_one hsl (OwV.rd _ _ q6)
  have hblk : ∃ g : Nat, ∀ a m k, x = .slice (some a) m k → a = ⟨g, 0, none⟩ := by
    cases d with
    | v y => cases hsl
    | pt l => cases hsl
    | ab p => cases hsl
    | sl sz' df' l =>
      simp only [OwV] at q6
      rcases q6.2 with ⟨rfl, _⟩ | ⟨g, m', cap', cur', e', r1, _⟩
      · exact ⟨0, fun _ _ _ h => by cases h⟩
      · exact ⟨g, fun a m k h => by rw [r1] at h; simp at h; exact h.1.symm⟩
  obtain ⟨g, hg⟩ := hblk
  obtain ⟨c', p1, p2, hp', hext⟩ := split_res hp i σ.nx hij hf ((σ.get i).cv + 1) (Nat.lt_succ_self _) (.box (cells.set k (.sl σ.nx))) (.arr d) ⟨g, x, F⟩ (fun b hb => (q4 b hb).1) hone (fun hx' => by
    refine ⟨⟨⟨q1, fun h => (q4 _ h).2 rfl⟩, cur, e, q2, ?_⟩, q6, hg⟩
    have h2 := Sv.okL_ext hx' _ _ q3
    have h3 := Sv.okL.set (k := k) (s := .sl σ.nx) (x := x) h2 (by
      simp only [Sv.ok, upd_other _ _ (Ne.symm hij), upd_same]
      exact ⟨Nat.le_refl _, trivial⟩)
    have h4 : cur.toList.set k x = cur.toList := by
      apply List.ext_getElem?
      intro n
      rw [List.getElem?_set]
      split
      · rename_i hn'
        subst hn'
        split
        · exact q5.symm
        · rename_i hlt
          rw [List.getElem?_eq_none (by omega)]
      · rfl
    rwa [h4] at h3)
  refine ⟨hd, hn, c', hp', fun s => Sv.ok_ext hext _ _ (ht s), fun l hl => ?_⟩
  obtain ⟨r1, r2, r3⟩ := hpin l hl
  obtain ⟨r4, r5⟩ := hext.cn l r1
  exact ⟨Nat.le_trans r1 (hext.ver l), r4.trans r2, r5.trans r3⟩

/-- **A list that a box's cell leads to becomes the cell's own.** -/
theorem Imp.closeB (i j k : Nat) (cells : List Sv) (d : Dt) (hi : (σ.get i).k = .box cells) (hc : cells[k]? = some (.sl j)) (hj : (σ.get j).k = .arr d) (hij : i ≠ j) :
    Imp X σ ⟨σ.tm, (i, ⟨(σ.get i).cv + 1, .bx (cells.set k .dead) k d⟩) :: (j, ⟨(σ.get j).cv, .gone⟩) :: σ.rs, σ.nx⟩ := by
  rintro w1 U1 ds a w ⟨hd, hn, c, hp, ht, hpin⟩
  have h1 := hp.res i
  have h2 := hp.res j
  unfold Ss.get at hi hj
  rw [hi] at h1
  rw [hj] at h2
  obtain ⟨q1, cur, e, q2, q3⟩ := h1
  obtain ⟨x, hx1, hx2⟩ := Sv.okL.get q3 hc
  simp only [Sv.ok] at hx2
  have hr := rearr (X := X.at w1 U1 ds) hp i ⟨(c i).blk, (c i).hdr, fun b => (c i).fp b ∨ (c j).fp b⟩ ((σ.get i).cv + 1) (.bx (cells.set k .dead) k d) [j] (by simpa using hij) (Nat.lt_succ_self _) (.inr ⟨rfl, rfl⟩) rfl rfl rfl (Nat.le_refl _) (Agree.refl _ _)
    (fun b hb => hb.elim .inl fun h => .inr (.inl ⟨j, by simp, h⟩)) (hp.one i) (fun hx => by
      refine ⟨.inl q1, cur, e, (c j).fp, x, q2, ?_, fun b hb => ⟨.inr hb, fun h => hp.dis i j b hij (by rw [h]; exact q1) hb⟩, hx1, by rw [hx2.2]; exact h2.1⟩
      have h3 := Sv.okL.set (k := k) (s := .dead) (x := x) (Sv.okL_ext hx _ _ q3) (by simp [Sv.ok])
      have h4 : cur.toList.set k x = cur.toList := by
        apply List.ext_getElem?
        intro n
        rw [List.getElem?_set]
        split
        · rename_i hn'
          subst hn'
          split
          · exact hx1.symm
          · rename_i hlt
            rw [List.getElem?_eq_none (by omega)]
        · rfl
      rwa [h4] at h3)
  obtain ⟨hp', hext⟩ := hr
  refine ⟨hd, hn, _, hp', fun s => Sv.ok_ext hext _ _ (ht s), fun l hl => ?_⟩
  obtain ⟨r1, r2, r3⟩ := hpin l hl
  obtain ⟨r4, r5⟩ := hext.cn l r1
  exact ⟨Nat.le_trans r1 (hext.ver l), r4.trans r2, r5.trans r3⟩

end

/-! ### Calls of a loop's body -/
theorem EvYield.mk {E : Env} {l : Nat} {args es : List Sv} {σ : Ss} {K : Sv → List (Nat × Rs) → Prop} {L0 L1 : List (Nat × Rs)} {r : Sv} {H : (Nat → Cn) → Prop} (hs : RSpec E.P l es L0 r L1 H) (ML : List (Nat × Nat)) (V : List Nat)
    (h1 : evCO (rsL σ.rs) (reach (rsL σ.rs) 3 (args.flatMap Sv.ids)) L0 ML V) (h2 : Sv.mtL ML V (rsL σ.rs) (rsL L0) args es)
    (hH : ∀ (X : Cx) (c : Nat → Cn), E.hk X.c0 X.rs0 → (∀ i, 1 ≤ (X.rs0 i).cv → (c i).blk = (X.c0 i).blk ∧ (c i).hdr = (X.c0 i).hdr) → H (cnM c ML (rsL L0)))
    (h3 : K (r.ren (callRn (rsL σ.rs) (rsL L1) ML V)) (retRu (callRn (rsL σ.rs) (rsL L1) ML V) (rsL L1))) : EvYield E l args σ K := by
  obtain ⟨a1, a2, a3, a4, a5⟩ := h1
  exact ⟨es, L0, r, L1, ML, V, H, fun i hi => (coV_get a4 i hi).2.2, hs,
    ⟨a1, a2, fun i hi => (coV_get a4 i hi).1, fun i hi => (coV_get a4 i hi).2.1, fun k => (coL_get a3 k).1, fun k => (coL_get a3 k).2, coM_get a5⟩, h2, hH, h3⟩
/-- What is held fast while a function that is ranged over runs. -/
def pinK (ids : List Nat) (B : Nat → Nat × Value) (c : Nat → Cn) (rs : Nat → Rs) : Prop := pinH ids B c ∧ ∀ i ∈ ids, 1 ≤ (rs i).cv
end Go.Eng
end

section

/- The engine, part MP: maps with strings as keys that the call itself makes; conversions of numbers and of bytes. -/
set_option linter.unusedVariables false
set_option linter.unusedSimpArgs false
namespace Go.Eng
open Go Go.Maps Go.RowKit Go.WideMaps

/-- What is known of a map's type. -/
structure MapT (P : Program) (t k e : TypeId) : Prop where
  und : P.underlying t = some (.map k e)
  key : P.underlying k = some .string
  el : P.underlying e = some (.int .i64)
  z : ∀ w, (zeroValue e).run P w = .ok (.int .i64 0) w

/-- A map: at most n entries, read as D. -/
def mapAb (P : Program) (k e : TypeId) (n : Nat) (D : DataW Unit) : Ab :=
  ⟨fun w v F => ∃ b, v = .map (some b) ∧ F b ∧ w.ownsMap P k (plainElem P e) b n D, by
    rintro w w' v F ag ⟨b, h1, h2, es, clock, h3, h4⟩
    exact ⟨b, h1, h2, es, clock, (ag b h2).trans h3, h4⟩⟩

def mapD (P : Program) (k e : TypeId) (n : Nat) (D : DataW Unit) : Dt := .ab (mapAb P k e n D)

section
variable {E : Env} {d : Option Nat} {σ : Ss} {K : Ss → Prop}

@[go_sem] theorem ofDt_mapD {P : Program} {k e : TypeId} {n : Nat} {D : DataW Unit} (ts : List (Nat × Nat)) : Sv.ofDt ts (mapD P k e n D) = .bor ts (mapD P k e n D) := rfl

/-- Bytes. -/
def bys (l : List Int) : Dt := .sl 1 (.v (.int .u8 0)) (l.map fun n => .v (.int .u8 n))

end
end Go.Eng
end

section

/- The engine, part CL: closures that only read, handed on. -/
set_option linter.unusedVariables false
set_option linter.unusedSimpArgs false
namespace Go.Eng
open Go

/-- What a closure that only reads has captured. -/
structure LC where
  l : List Sv
  ok : SvPure l = true

theorem pure_cases {s : Sv} (h : s.pure = true) : (∃ x, s = .v x) ∨ (∃ d, s = .bor [] d) ∨ ∃ ds, s = .bptr [] ds := by
  cases s with
  | v x => exact .inl ⟨x, rfl⟩
  | bor ts d =>
    cases ts with
    | nil => exact .inr (.inl ⟨d, rfl⟩)
    | cons _ _ => cases h
  | bptr ts d =>
    cases ts with
    | nil => exact .inr (.inr ⟨d, rfl⟩)
    | cons _ _ => cases h
  | _ => cases h

theorem idsL_pure : ∀ {l : List Sv}, SvPure l = true → Sv.idsL l = []
  | [], _ => by simp [Sv.idsL]
  | s :: l, h => by
    simp only [SvPure, Bool.and_eq_true] at h
    rcases pure_cases h.1 with ⟨x, rfl⟩ | ⟨d, rfl⟩ | ⟨d, rfl⟩ <;> simp [Sv.idsL, Sv.ids, idsL_pure h.2]
theorem renL_pure {R : Rn} (hR : R.vt = []) : ∀ {l : List Sv}, SvPure l = true → Sv.renL R l = l
  | [], _ => by simp [Sv.renL]
  | s :: l, h => by
    simp only [SvPure, Bool.and_eq_true] at h
    rcases pure_cases h.1 with ⟨x, rfl⟩ | ⟨d, rfl⟩ | ⟨d, rfl⟩ <;> simp [Sv.renL, Sv.ren, renT, hR, renL_pure hR h.2]
theorem rvL_pure {rs : Nat → Rs} : ∀ {l : List Sv}, SvPure l = true → rvL rs l = l
  | [], _ => by simp [rvL]
  | s :: l, h => by
    simp only [SvPure, Bool.and_eq_true] at h
    rcases pure_cases h.1 with ⟨x, rfl⟩ | ⟨d, rfl⟩ | ⟨d, rfl⟩ <;> simp [rvL, rvS, rvL_pure h.2]
theorem pSvL_pure : ∀ {l : List Sv}, SvPure l = true → pSvL l l = []
  | [], _ => by simp [pSvL]
  | s :: l, h => by
    simp only [SvPure, Bool.and_eq_true] at h
    rcases pure_cases h.1 with ⟨x, rfl⟩ | ⟨d, rfl⟩ | ⟨d, rfl⟩ <;> simp [pSvL, pSv, pSvL_pure h.2]

@[go_sem] theorem idsL_lc (c : LC) : Sv.idsL c.l = [] := idsL_pure c.ok
@[go_sem] theorem renL_lc (c : LC) (ML : List (Nat × Nat)) (f g : Nat → Nat) : Sv.renL ⟨ML, f, g, []⟩ c.l = c.l := renL_pure rfl c.ok
@[go_sem] theorem rvL_lc (c : LC) (rs : Nat → Rs) : rvL rs c.l = c.l := rvL_pure c.ok
@[go_sem] theorem pSvL_lc (c : LC) : pSvL c.l c.l = [] := pSvL_pure c.ok
@[go_sem] theorem mtL_lc (c : LC) (ML : List (Nat × Nat)) (V : List Nat) (rs rs0 : Nat → Rs) : Sv.mtL ML V rs rs0 c.l c.l ↔ True := ⟨fun _ => trivial, fun _ => mtL_pure c.ok⟩

/-- A call of a closure that only reads. -/
theorem EvCall.lc {E : Env} {f : FuncId} {c : LC} {args : List Sv} {σ : Ss} {K : Sv → List (Nat × Rs) → Prop} {x : Value} (hp : SvPure args = true) (hs : Spec E.P f (args ++ c.l) [] (.v x) []) (hc : Callable E.P f) (hK : K (.v x) []) : EvCall E (.fn f c.l) args σ K := by
  refine EvCall.mk hs hc [] [] ?_ ?_ ?_
  · simp [evCO, coL, coV, coM]
  · have : SvPure (args ++ c.l) = true := by
      have h2 := c.ok
      clear hs
      revert h2 hp
      generalize c.l = m
      induction args with
      | nil => intro _ h; exact h
      | cons s l ih =>
        intro h k
        simp only [SvPure, Bool.and_eq_true] at h
        simp only [List.cons_append, SvPure, Bool.and_eq_true]
        exact ⟨h.1, ih h.2 k⟩
    exact mtL_pure this
  · simpa [Sv.ren, retRu, callRn] using hK

/-- What comes out may be told otherwise. -/
theorem V_end {X : Cx} {E : Env} {c : Code} {σ : Ss} {Q : Exit → Ss → Prop} (h : V X E c σ (fun e τ => ∃ υ, Imp X τ υ ∧ Q e υ)) : V X E c σ Q := fun hk a w hg =>
  wpIn_mono (h hk a w hg) fun e a' w' ⟨τ, ⟨w1, U1, ds, hr, hg'⟩, υ, hi, hq⟩ => ⟨υ, ⟨w1, U1, ds, hr, hi w1 U1 ds a' w' hg'⟩, hq⟩
/-! ### Nil slices in a result, told as empty lists of one's own -/
def EmptyL (L : List (Nat × Rs)) : Prop := ∀ p ∈ L, ∃ sz df, 0 < sz ∧ p.2 = ⟨1, .arr (.sl sz df [])⟩
theorem emptyL_get : ∀ {L : List (Nat × Rs)}, EmptyL L → ∀ i, rsL L i = ⟨0, .gone⟩ ∨ ∃ sz df, 0 < sz ∧ rsL L i = ⟨1, .arr (.sl sz df [])⟩
  | [], _, i => .inl rfl
  | (j, r) :: l, h, i => by
    rw [rsL_cons]
    split
    · exact .inr (h (j, r) (by simp))
    · exact emptyL_get (fun p hp => h p (by simp [hp])) i
theorem Spec.adopt {P : Program} {f : FuncId} {args : List Sv} {r r' : Sv} {L1 : List (Nat × Rs)} (h : Spec P f args [] r []) (hL : EmptyL L1)
    (hr : ∀ (w : World) (S : Nat → Prop) (v : Value) (c : Nat → Cn), r.ok w S c (rsL []) v → r'.ok w S (fun _ => ⟨0, .slice none 0 0, fun _ => False⟩) (rsL L1) v) : Spec P f args [] r' L1 := by
  intro w0 U S c0 vs hp ha
  refine (h w0 U S c0 vs hp ha).mono fun e w' ⟨v, c1, he, hp1, hv, _⟩ => ⟨v, fun _ => ⟨0, .slice none 0 0, fun _ => False⟩, he, ?_, hr _ _ _ _ hv, fun i hi => by simp [rsL_nil] at hi⟩
  refine ⟨hp1.os, hp1.tape, hp1.output, hp1.size, hp1.unch, hp1.sub, hp1.ult, fun i => ?_, fun i b hb => hb.elim, fun i b hb => hb.elim, fun i j b _ hb => hb.elim, fun i => rfl⟩
  rcases emptyL_get hL i with e | ⟨sz, df, h0, e⟩
  · rw [e]; exact fun b hb => hb
  · rw [e]
    refine ⟨?_, fun _ _ _ hh => by cases hh⟩
    simp [OwV, h0]
theorem emptyL_cons_s {i : Nat} {L : List (Nat × Rs)} (h : EmptyL L) : EmptyL ((i, ⟨1, .arr (intss [])⟩) :: L) := fun p hp => by
  rcases List.mem_cons.1 hp with rfl | hp
  · exact ⟨_, _, Nat.one_pos, rfl⟩
  · exact h p hp
theorem emptyL_nil : EmptyL [] := fun p hp => by simp at hp

/-! ### A table that is being filled -/
theorem intsN_at {p : List (List Int)} {m k : Nat} (h : k < p.length) : (intsN p m).at k = ints (p.getD k []) := by
  simp [intsN, Dt.at, Dt.cells, Dt.df, List.getD_eq_getElem?_getD, List.getElem?_append, h]
@[go_sem ↓ high] theorem view0_vv {V : List Nat} {rs : Nat → Rs} (x y : Value) : Sv.view0 V rs (.v x) (.v y) ↔ y = x := by
  simp [Sv.view0]
@[go_sem high] theorem view0L_nil2 {V : List Nat} {rs : Nat → Rs} : view0L V rs [] [] ↔ True := view0L_nil
@[go_sem high] theorem view0L_cons2 {V : List Nat} {rs : Nat → Rs} (s : Sv) (l : List Sv) (d : Dt) (r : List Dt) : view0L V rs (s :: l) (d :: r) ↔ s.view0 V rs d ∧ view0L V rs l r := view0L_cons s l d r
end Go.Eng
end

section

/- The engine, part UN: loops of a known number of rounds, round by round. -/
set_option linter.unusedVariables false
namespace Go.Eng
open Go

/-- So many rounds, the last of which leaves. -/
def VR (X : Cx) (E : Env) (c : Code) (Q : Exit → Ss → Prop) : Nat → Ss → Prop
  | 0, _ => False
  | n + 1, σ => V X E c σ (nxt (fun t => VR X E c Q n t) Q)

@[congr] theorem VR_congr {X : Cx} {E : Env} {c : Code} {σ τ : Ss} {Q : Exit → Ss → Prop} {n : Nat} (h : Unit → σ = τ) : VR X E c Q n σ = VR X E c Q n τ := by rw [h ()]

section
variable {E : Env} {l : List Oper} {σ : Ss} {K : Ss → Prop} {d : Option Nat} {op : Op} {t : TypeId} {p : String} {af : Array Edge}
end

end Go.Eng
end

section

/- The engine, part DR: a resource is given up. -/
set_option linter.unusedVariables false
set_option linter.unusedSimpArgs false
namespace Go.Eng
open Go

/-- What one owns may be forgotten. -/
theorem Imp.drop {X : Cx} {σ : Ss} (i : Nat) (hcv : 1 ≤ (σ.get i).cv) : Imp X σ ⟨σ.tm, (i, ⟨(σ.get i).cv + 1, .gone⟩) :: σ.rs, σ.nx⟩ := by
  rintro w1 U1 ds a w ⟨hd, hn, c, hp, ht, hpin⟩
  have hr := rearr (X := X.at w1 U1 ds) hp i ⟨(c i).blk, (c i).hdr, fun _ => False⟩ ((σ.get i).cv + 1) .gone [] (by simp) (Nat.lt_succ_self _) (.inr ⟨rfl, rfl⟩) rfl rfl rfl (Nat.le_refl _) (Agree.refl _ _)
    (fun b hb => hb.elim) (hp.one i) (fun hx => fun b hb => hb)
  obtain ⟨hp', hext⟩ := hr
  refine ⟨hd, hn, _, hp', fun s => Sv.ok_ext hext _ _ (ht s), fun l hl => ?_⟩
  obtain ⟨r1, r2, r3⟩ := hpin l hl
  obtain ⟨r4, r5⟩ := hext.cn l r1
  exact ⟨Nat.le_trans r1 (hext.ver l), r4.trans r2, r5.trans r3⟩

/-- What comes out may be told otherwise: kept folded. -/
def endQ (X : Cx) (Q : Exit → Ss → Prop) (e : Exit) (τ : Ss) : Prop := ∃ υ, Imp X τ υ ∧ Q e υ
theorem V_endQ {X : Cx} {E : Env} {c : Code} {σ : Ss} {Q : Exit → Ss → Prop} (h : V X E c σ (endQ X Q)) : V X E c σ Q := V_end h
theorem endQ_mk {X : Cx} {Q : Exit → Ss → Prop} {e : Exit} {τ υ : Ss} (h : Imp X τ υ) (q : Q e υ) : endQ X Q e τ := ⟨υ, h, q⟩

theorem Imp.adoptBsss {X : Cx} {tm : List (Nat × Sv)} {rs : List (Nat × Rs)} {nx : Nat} (i k cv : Nat) (cells : List Sv) (hi : rsL rs i = ⟨cv, .box cells⟩) (hk : cells[k]? = some (.v (.slice none 0 0))) (hf : rsL rs nx = ⟨0, .gone⟩) (hx : (X.rs0 nx).cv = 0) :
    Imp X ⟨tm, rs, nx⟩ ⟨tm, (i, ⟨cv, .box (cells.set k (.sl nx))⟩) :: (nx, ⟨1, .arr (intsss [])⟩) :: rs, nx + 1⟩ := by
  have h := Imp.adoptB (X := X) (σ := ⟨tm, rs, nx⟩) i k 1 (.sl 1 (.sl 1 (.v (.int .i64 0)) []) []) cells (by decide) (by unfold Ss.get; rw [hi]) hk hf hx
  have e : ((⟨tm, rs, nx⟩ : Ss).get i).cv = cv := by unfold Ss.get; rw [hi]
  rw [e] at h
  exact h

/-! ### Lists of lists of lists of numbers -/
@[go_sem] theorem intsss_nil1 : Dt.sl 1 (intss []) [] = intsss [] := rfl
@[go_sem] theorem intsss_one1 (q : List (List Int)) : Dt.sl 1 (intss []) [intss q] = intsss [q] := rfl
@[go_sem] theorem intsss_flat1 (q : List (List Int)) : (intsss [q]).flat = false := rfl
@[go_sem] theorem intsss_ones (l : List (List (List Int))) : (intsss l).ones = true := by
  simp only [intsss, Dt.ones, Dt.cells, List.all_map]
  exact List.all_eq_true.2 fun _ _ => rfl
@[go_sem] theorem intsss_app (l m : List (List (List Int))) : Dt.app 1 (intss []) (intsss l) (intsss m) = intsss (l ++ m) := by simp [intsss, intss, Dt.app, Dt.cells, List.map_append]
end Go.Eng
end
