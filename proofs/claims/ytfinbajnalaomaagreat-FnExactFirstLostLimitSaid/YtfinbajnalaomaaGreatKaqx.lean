/- Several texts in one: EngFm, EngMo. -/
import Derived.Test.YtfinbajnalaomaaGreatKox
import Derived.Test.YtfinbajnalaomaaGreatKalx
set_option linter.unusedVariables false
set_option linter.unusedSimpArgs false
section
namespace Go.Eng
open Go Go.Cats
section
variable {A B : List Fun} {cs : List Dt} {k : Nat} {e : Dt}
variable {X : Cx} {tm : List (Nat × Sv)} {rs : List (Nat × Rs)} {nx : Nat}
end
section
variable {a0 a1 a2 a3 a4 a5 a6 a7 a8 a9 a10 a11 : Dt} {A B : List Fun} {e : Dt}
@[go_sem] theorem mid_z (n : Nat) : n * 12 + 0 = n * 12 := rfl
@[go_sem] theorem mid_51 (n : Nat) : n * 12 + 5 + 1 = n * 12 + 6 := rfl
@[go_sem] theorem mid_52 (n : Nat) : n * 12 + 5 + 2 = n * 12 + 7 := rfl
@[go_sem] theorem mid_53 (n : Nat) : n * 12 + 5 + 3 = n * 12 + 8 := rfl
@[go_sem] theorem mid_54 (n : Nat) : n * 12 + 5 + 4 = n * 12 + 9 := rfl
@[go_sem] theorem mid_50 (n : Nat) : n * 12 + 5 + 0 = n * 12 + 5 := rfl
end
end Go.Eng
end
section
namespace Go.Eng
open Go Go.Cats
structure _root_.Go.Cats.Mon where
  on : Fun
  unit : List Int
  join : List Int
instance : Inhabited Mon := ⟨⟨default, [], []⟩⟩
def monC (m : Mon) : List Dt := [.v (.int .i64 m.on.src.ob), ints m.on.src.fr, ints m.on.src.to, ints m.on.src.id, intss m.on.src.co, .v (.int .i64 m.on.tgt.ob), ints m.on.tgt.fr, ints m.on.tgt.to, ints m.on.tgt.id, intss m.on.tgt.co, ints m.on.obs, ints m.on.ars, ints m.unit, ints m.join]
def monsD (l : List Mon) : Dt := .sl 14 (.v (.int .i64 0)) (l.flatMap monC)
theorem monC_len (f : Mon) : (monC f).length = 14 := rfl
theorem mons_cells (l : List Mon) : (l.flatMap monC).length = l.length * 14 := by
  induction l with
  | nil => rfl
  | cons f l ih => rw [List.flatMap_cons, List.length_append, ih, monC_len, List.length_cons]; omega
@[go_sem] theorem mons_isSl (l) : (monsD l).isSl = true := rfl
@[go_sem] theorem mons_sz (l) : (monsD l).sz = 14 := rfl
@[go_sem] theorem mons_nc (l : List Mon) : (monsD l).nc = l.length * 14 := mons_cells l
@[go_sem] theorem mons_len (l : List Mon) : (monsD l).len = l.length := by
  unfold Dt.len
  rw [mons_nc, mons_sz]; omega
@[go_sem] theorem ofDt_mons (ts) (l : List Mon) : Sv.ofDt ts (monsD l) = .bor ts (monsD l) := rfl
@[go_sem] theorem mons_ones (l : List Mon) : (monsD l).ones = true := by
  unfold monsD Dt.ones Dt.cells
  rw [List.all_eq_true]
  intro d hd
  obtain ⟨f, _, hf⟩ := List.mem_flatMap.1 hd
  simp only [monC, List.mem_cons, List.not_mem_nil, or_false] at hf
  rcases hf with rfl | rfl | rfl | rfl | rfl | rfl | rfl | rfl | rfl | rfl | rfl | rfl | rfl | rfl <;> rfl
@[go_sem] theorem mons_app (l m : List Mon) : Dt.app 14 (.v (.int .i64 0)) (monsD l) (monsD m) = monsD (l ++ m) := by simp [monsD, Dt.app, Dt.cells]
@[go_sem] theorem mons_nil : Dt.sl 14 (.v (.int .i64 0)) [] = monsD [] := rfl
@[go_sem] theorem mons_one (o p : Int) (a b c e f g q r s t : List Int) (d h : List (List Int)) : Dt.sl 14 (.v (.int .i64 0)) [.v (.int .i64 o), ints a, ints b, ints c, intss d, .v (.int .i64 p), ints e, ints f, ints g, intss h, ints q, ints r, ints s, ints t] = monsD [⟨⟨⟨o, a, b, c, d⟩, ⟨p, e, f, g, h⟩, q, r⟩, s, t⟩] := rfl
@[go_sem] theorem mons_flat1 (f : Mon) : (monsD [f]).flat = false := rfl
section
variable {A B : List Mon} {cs : List Dt} {k : Nat} {e : Dt}
variable {X : Cx} {tm : List (Nat × Sv)} {rs : List (Nat × Rs)} {nx : Nat}
end
section
variable {a0 a1 a2 a3 a4 a5 a6 a7 a8 a9 a10 a11 a12 a13 : Dt} {A B : List Mon} {e : Dt}
@[go_sem] theorem mim_z (n : Nat) : n * 14 + 0 = n * 14 := rfl
@[go_sem] theorem mim_51 (n : Nat) : n * 14 + 5 + 1 = n * 14 + 6 := rfl
@[go_sem] theorem mim_52 (n : Nat) : n * 14 + 5 + 2 = n * 14 + 7 := rfl
@[go_sem] theorem mim_53 (n : Nat) : n * 14 + 5 + 3 = n * 14 + 8 := rfl
@[go_sem] theorem mim_54 (n : Nat) : n * 14 + 5 + 4 = n * 14 + 9 := rfl
@[go_sem] theorem mim_50 (n : Nat) : n * 14 + 5 + 0 = n * 14 + 5 := rfl
end
end Go.Eng
end
