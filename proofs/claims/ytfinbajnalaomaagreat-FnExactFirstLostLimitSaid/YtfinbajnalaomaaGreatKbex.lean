/- Several texts in one: EngCo, EngSo. -/
import Derived.Test.YtfinbajnalaomaaGreatKux
import Derived.Scope
import Derived.Laws.Small
set_option linter.unusedVariables false
set_option linter.unusedSimpArgs false
section
namespace Go.Eng
open Go Go.Cats
structure _root_.Go.Cats.Cone where
  apex : Int
  legs : List Int
instance : Inhabited Cone := ⟨⟨0, []⟩⟩
def conC (p : Cone) : List Dt := [.v (.int .i64 p.apex), ints p.legs]
def conesD (l : List Cone) : Dt := .sl 2 (.v (.int .i64 0)) (l.flatMap conC)
theorem conC_len (p : Cone) : (conC p).length = 2 := rfl
theorem cones_cells (l : List Cone) : (l.flatMap conC).length = l.length * 2 := by
  induction l with
  | nil => rfl
  | cons f l ih => rw [List.flatMap_cons, List.length_append, ih, conC_len, List.length_cons]; omega
@[go_sem] theorem cones_isSl (l) : (conesD l).isSl = true := rfl
@[go_sem] theorem cones_sz (l) : (conesD l).sz = 2 := rfl
@[go_sem] theorem cones_nc (l : List Cone) : (conesD l).nc = l.length * 2 := cones_cells l
@[go_sem] theorem cones_len (l : List Cone) : (conesD l).len = l.length := by
  unfold Dt.len
  rw [cones_nc, cones_sz]; omega
@[go_sem] theorem ofDt_cones (ts) (l : List Cone) : Sv.ofDt ts (conesD l) = .bor ts (conesD l) := rfl
@[go_sem] theorem cones_ones (l : List Cone) : (conesD l).ones = true := by
  unfold conesD Dt.ones Dt.cells
  rw [List.all_eq_true]
  intro d hd
  obtain ⟨f, _, hf⟩ := List.mem_flatMap.1 hd
  simp only [conC, List.mem_cons, List.not_mem_nil, or_false] at hf
  rcases hf with rfl | rfl <;> rfl
@[go_sem] theorem cones_app (l m : List Cone) : Dt.app 2 (.v (.int .i64 0)) (conesD l) (conesD m) = conesD (l ++ m) := by simp [conesD, Dt.app, Dt.cells]
@[go_sem] theorem cones_nil : Dt.sl 2 (.v (.int .i64 0)) [] = conesD [] := rfl
@[go_sem] theorem cones_one (o : Int) (a : List Int) : Dt.sl 2 (.v (.int .i64 0)) [.v (.int .i64 o), ints a] = conesD [⟨o, a⟩] := rfl
@[go_sem] theorem cones_flat1 (f : Cone) : (conesD [f]).flat = false := rfl
theorem cones_part (l : List Cone) (i : Nat) (h : i < l.length) : (conesD l).part (i * 2) 2 = [.v (.int .i64 (l.getD i default).apex), ints (l.getD i default).legs] := by
  unfold conesD Dt.part
  simp only [Dt.cells]
  induction l generalizing i with
  | nil => simp at h
  | cons p l ih =>
    cases i with
    | zero => rfl
    | succ i =>
      rw [List.flatMap_cons, show (i + 1) * 2 = 2 + i * 2 by omega, ← List.drop_drop, List.getD_cons_succ]
      exact ih i (by simpa using h)
end Go.Eng
end
section
namespace Go.Eng
open Go
section
variable {P : Program} {b : Frame} {a : Act} {k : List Item} {cs : List Frame} {w : World} {Q : Exit → Act → World → Prop}
theorem stepR_scope {c : Code} : step P (lone (b.atR a (.code (.scope c) :: k)) cs w) = .next (lone (b.atR a (.code c :: .inScope c :: k)) cs w) :=
  step_lone_go (by simp [stepG, stepG.exec, Frame.atR])
theorem stepR_inScope {c : Code} : step P (lone (b.atR a (.inScope c :: k)) cs w) = .next (lone (b.atR a k) cs w) :=
  step_lone_go (by simp [stepG, stepG.exec, Frame.atR])
theorem wpIn_scope {F : Fence} {n : Nat} {c : Code} (h : c.wpIn F n P (Exit.noGoto Q) a w) : (Code.scope c).wpIn F n P Q a w := by
  intro b k cs hro hb hr
  have h0 : (lone (b.atR a (.code (.scope c) :: k)) cs w).fenced P F := fenced_calm hb hr rfl
  obtain ⟨e, a₁, w₁, hq, harr⟩ := h b (.inScope c :: k) cs hro hb hr
  cases e with
  | normal => exact ⟨.normal, a₁, w₁, hq, .head h0 stepR_scope (StepsIn.trans harr (.one (fenced_calm hb hr rfl) stepR_inScope))⟩
  | exit id =>
    have hx : exitTo id (.inScope c :: k) = exitTo id k := by simp [exitTo]
    exact ⟨_, a₁, w₁, hq, fun k' hk => .head h0 stepR_scope (harr.1 k' (by rw [hx]; exact hk)),
      fun hr' hk => let ⟨k₁, h1, h2⟩ := harr.2 hr' (by rw [hx]; exact hk); ⟨k₁, h1, .head h0 stepR_scope h2⟩⟩
  | goto l => exact hq.elim
  | ret => exact ⟨_, a₁, w₁, hq, .of_steps (.one h0 stepR_scope) harr⟩
  | panic ch => exact ⟨_, a₁, w₁, hq, .of_steps (.one h0 stepR_scope) harr⟩
  | outgrown => exact ⟨_, a₁, w₁, hq, .of_steps (.one h0 stepR_scope) harr⟩
end
section
variable {X : Cx} {E : Env} {σ : Ss} {Q : Exit → Ss → Prop}
theorem V_scope {c : Code} (h : V X E c σ (noG Q)) : V X E (.scope c) σ Q := fun hk a w hg =>
  wpIn_scope (wpIn_mono (h hk a w hg) fun e a' w' ⟨t, h1, h2⟩ => by
    cases e with
    | goto l => exact h2.elim
    | normal => exact ⟨t, h1, h2⟩
    | exit i => exact ⟨t, h1, h2⟩
    | ret => exact ⟨t, h1, h2⟩
    | panic ch => exact ⟨t, h1, h2⟩
    | outgrown => exact ⟨t, h1, h2⟩)
theorem V_label {l : Nat} (h : Q .normal σ) : V X E (.label l) σ Q := fun _ _ _ hg => wpIn_label ⟨σ, hg, h⟩
end
section
variable {E : Env} {d : Option Nat} {σ : Ss} {K : Ss → Prop}
theorem hook_max2 {ts : Array TypeId} {x y : Operand} {p q : Int} (hx : σ.opd x = .v (.int .i64 p)) (hy : σ.opd y = .v (.int .i64 q))
    (hK : K (σ.ap d (.v (.int .i64 (max p q))) [] σ.nx)) : EvHook E d (.call { callee := .builtin .max, args := #[x, y], argTypes := ts }) σ K := by
  refine ⟨[], _, [], _, fun X o _ hd ho hdn tm rs h1 h2 => ?_, hK, fun i hi => by simp at hi⟩
  refine step_val (E := E) (by rw [hd]; exact hdn) _ fun ac w c hp h => ?_
  have hx1 := h x
  have hy1 := h y
  have ex : opd tm x = σ.opd x := h1 x (by rw [ho]; simp [Op.operands, Call.operands])
  have ey : opd tm y = σ.opd y := h1 y (by rw [ho]; simp [Op.operands, Call.operands])
  rw [ex, hx] at hx1
  rw [ey, hy] at hy1
  simp only [Sv.ok] at hx1 hy1
  have e : (if q > p then q else p) = max p q := by split <;> omega
  simp [execOp, ho, resolve, invoke, builtin, hx1, hy1, run_max_int2, e]
end
end Go.Eng
end
