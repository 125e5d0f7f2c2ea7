/- The engine, part FM: one functor in the middle of a list of functors, cell by cell. -/
import Derived.Test.YtmpopmololpaoaaGreatKox
import Derived.Test.YtmpopmololpaoaaGreatEngFtq
set_option linter.unusedVariables false
set_option linter.unusedSimpArgs false
namespace Go.Eng
open Go Go.Cats
def midD (A : List Fun) (cs : List Dt) (B : List Fun) : Dt := .sl 12 (.v (.int .i64 0)) (A.flatMap funC ++ (cs ++ B.flatMap funC))
theorem midD_fun (A : List Fun) (g : Fun) (B : List Fun) : midD A (funC g) B = funsD (A ++ g :: B) := by simp [midD, funsD, List.flatMap_append, List.flatMap_cons]
section
variable {A B : List Fun} {cs : List Dt} {k : Nat} {e : Dt}
@[go_sem] theorem mid_isSl (A cs B) : (midD A cs B).isSl = true := rfl
@[go_sem] theorem mid_sz (A cs B) : (midD A cs B).sz = 12 := rfl
@[go_sem] theorem mid_df (A cs B) : (midD A cs B).df = .v (.int .i64 0) := rfl
theorem mid_nc (h : cs.length = 12) : (midD A cs B).nc = (A.length + 1 + B.length) * 12 := by
  unfold midD Dt.nc Dt.cells
  rw [List.length_append, List.length_append, funs_cells, funs_cells, h]; omega
theorem mid_len (h : cs.length = 12) : (midD A cs B).len = A.length + 1 + B.length := by
  unfold Dt.len
  rw [mid_nc h, mid_sz]; omega
theorem mid_at (h : k < cs.length) : (midD A cs B).at (A.length * 12 + k) = cs.getD k (.v (.int .i64 0)) := by
  unfold midD Dt.at Dt.cells Dt.df
  have ha := funs_cells A
  rw [List.getD_eq_getElem?_getD, List.getElem?_append_right (by omega), ha, Nat.add_sub_cancel_left, List.getElem?_append_left h, ← List.getD_eq_getElem?_getD]
theorem mid_put (h : k < cs.length) : (midD A cs B).put (A.length * 12 + k) e = midD A (cs.set k e) B := by
  unfold midD Dt.put Dt.cells Dt.sz Dt.df
  have ha := funs_cells A
  rw [List.set_append_right _ _ (by omega), ha, Nat.add_sub_cancel_left, List.set_append_left _ _ h]
variable {X : Cx} {tm : List (Nat × Sv)} {rs : List (Nat × Rs)} {nx : Nat}
theorem Imp.midOpen (i k cv : Nat) (e : Dt) (hi : rsL rs i = ⟨cv, .arr (midD A cs B)⟩) (hcv : 1 ≤ cv) (hk : k < cs.length) (h12 : cs.length = 12) (he : cs.getD k (.v (.int .i64 0)) = e) (hsl : e.isSl = true) (hf : rsL rs nx = ⟨0, .gone⟩) :
    Imp X ⟨tm, rs, nx⟩ ⟨tm, (i, ⟨cv + 1, .hol (midD A cs B) [(A.length * 12 + k, .sl nx)]⟩) :: (nx, ⟨1, .arr e⟩) :: rs, nx + 1⟩ :=
  Imp.open1 i (A.length * 12 + k) cv _ e [] (.inr ⟨hi, rfl⟩) hcv (by rw [mid_nc h12]; omega) rfl (by rw [mid_at hk]; exact he) hsl hf
theorem Imp.midClose (i j k cv cj : Nat) (e : Dt) (hi : rsL rs i = ⟨cv, .hol (midD A cs B) [(A.length * 12 + k, .sl j)]⟩) (hj : rsL rs j = ⟨cj, .arr e⟩) (hij : i ≠ j) (hk : k < cs.length) (h12 : cs.length = 12) :
    Imp X ⟨tm, rs, nx⟩ ⟨tm, (i, ⟨cv + 1, .arr (midD A (cs.set k e) B)⟩) :: (j, ⟨cj, .gone⟩) :: rs, nx⟩ := by
  have h := Imp.closeA (X := X) (σ := ⟨tm, rs, nx⟩) i j (A.length * 12 + k) (midD A cs B) e (by unfold Ss.get; rw [hi]) (by unfold Ss.get; rw [hj]) hij (by rw [mid_nc h12]; omega)
  unfold Ss.get at h
  rw [hi, hj, mid_put hk] at h
  exact h
end
section
variable {a0 a1 a2 a3 a4 a5 a6 a7 a8 a9 a10 a11 : Dt} {A B : List Fun} {e : Dt}
@[go_sem] theorem mid_nc12 : (midD A [a0, a1, a2, a3, a4, a5, a6, a7, a8, a9, a10, a11] B).nc = (A.length + 1 + B.length) * 12 := mid_nc rfl
@[go_sem] theorem mid_len12 : (midD A [a0, a1, a2, a3, a4, a5, a6, a7, a8, a9, a10, a11] B).len = A.length + 1 + B.length := mid_len rfl
@[go_sem] theorem mid_at0 : (midD A [a0, a1, a2, a3, a4, a5, a6, a7, a8, a9, a10, a11] B).at (A.length * 12) = a0 := mid_at (cs := [a0, a1, a2, a3, a4, a5, a6, a7, a8, a9, a10, a11]) (k := 0) (by decide : 0 < 12)
@[go_sem] theorem mid_put0 : (midD A [a0, a1, a2, a3, a4, a5, a6, a7, a8, a9, a10, a11] B).put (A.length * 12) e = midD A [e, a1, a2, a3, a4, a5, a6, a7, a8, a9, a10, a11] B := mid_put (cs := [a0, a1, a2, a3, a4, a5, a6, a7, a8, a9, a10, a11]) (k := 0) (by decide : 0 < 12)
@[go_sem] theorem mid_at1 : (midD A [a0, a1, a2, a3, a4, a5, a6, a7, a8, a9, a10, a11] B).at (A.length * 12 + 1) = a1 := mid_at (cs := [a0, a1, a2, a3, a4, a5, a6, a7, a8, a9, a10, a11]) (k := 1) (by decide : 1 < 12)
@[go_sem] theorem mid_put1 : (midD A [a0, a1, a2, a3, a4, a5, a6, a7, a8, a9, a10, a11] B).put (A.length * 12 + 1) e = midD A [a0, e, a2, a3, a4, a5, a6, a7, a8, a9, a10, a11] B := mid_put (cs := [a0, a1, a2, a3, a4, a5, a6, a7, a8, a9, a10, a11]) (k := 1) (by decide : 1 < 12)
@[go_sem] theorem mid_at2 : (midD A [a0, a1, a2, a3, a4, a5, a6, a7, a8, a9, a10, a11] B).at (A.length * 12 + 2) = a2 := mid_at (cs := [a0, a1, a2, a3, a4, a5, a6, a7, a8, a9, a10, a11]) (k := 2) (by decide : 2 < 12)
@[go_sem] theorem mid_put2 : (midD A [a0, a1, a2, a3, a4, a5, a6, a7, a8, a9, a10, a11] B).put (A.length * 12 + 2) e = midD A [a0, a1, e, a3, a4, a5, a6, a7, a8, a9, a10, a11] B := mid_put (cs := [a0, a1, a2, a3, a4, a5, a6, a7, a8, a9, a10, a11]) (k := 2) (by decide : 2 < 12)
@[go_sem] theorem mid_at3 : (midD A [a0, a1, a2, a3, a4, a5, a6, a7, a8, a9, a10, a11] B).at (A.length * 12 + 3) = a3 := mid_at (cs := [a0, a1, a2, a3, a4, a5, a6, a7, a8, a9, a10, a11]) (k := 3) (by decide : 3 < 12)
@[go_sem] theorem mid_put3 : (midD A [a0, a1, a2, a3, a4, a5, a6, a7, a8, a9, a10, a11] B).put (A.length * 12 + 3) e = midD A [a0, a1, a2, e, a4, a5, a6, a7, a8, a9, a10, a11] B := mid_put (cs := [a0, a1, a2, a3, a4, a5, a6, a7, a8, a9, a10, a11]) (k := 3) (by decide : 3 < 12)
@[go_sem] theorem mid_at4 : (midD A [a0, a1, a2, a3, a4, a5, a6, a7, a8, a9, a10, a11] B).at (A.length * 12 + 4) = a4 := mid_at (cs := [a0, a1, a2, a3, a4, a5, a6, a7, a8, a9, a10, a11]) (k := 4) (by decide : 4 < 12)
@[go_sem] theorem mid_put4 : (midD A [a0, a1, a2, a3, a4, a5, a6, a7, a8, a9, a10, a11] B).put (A.length * 12 + 4) e = midD A [a0, a1, a2, a3, e, a5, a6, a7, a8, a9, a10, a11] B := mid_put (cs := [a0, a1, a2, a3, a4, a5, a6, a7, a8, a9, a10, a11]) (k := 4) (by decide : 4 < 12)
@[go_sem] theorem mid_at5 : (midD A [a0, a1, a2, a3, a4, a5, a6, a7, a8, a9, a10, a11] B).at (A.length * 12 + 5) = a5 := mid_at (cs := [a0, a1, a2, a3, a4, a5, a6, a7, a8, a9, a10, a11]) (k := 5) (by decide : 5 < 12)
@[go_sem] theorem mid_put5 : (midD A [a0, a1, a2, a3, a4, a5, a6, a7, a8, a9, a10, a11] B).put (A.length * 12 + 5) e = midD A [a0, a1, a2, a3, a4, e, a6, a7, a8, a9, a10, a11] B := mid_put (cs := [a0, a1, a2, a3, a4, a5, a6, a7, a8, a9, a10, a11]) (k := 5) (by decide : 5 < 12)
@[go_sem] theorem mid_at6 : (midD A [a0, a1, a2, a3, a4, a5, a6, a7, a8, a9, a10, a11] B).at (A.length * 12 + 6) = a6 := mid_at (cs := [a0, a1, a2, a3, a4, a5, a6, a7, a8, a9, a10, a11]) (k := 6) (by decide : 6 < 12)
@[go_sem] theorem mid_put6 : (midD A [a0, a1, a2, a3, a4, a5, a6, a7, a8, a9, a10, a11] B).put (A.length * 12 + 6) e = midD A [a0, a1, a2, a3, a4, a5, e, a7, a8, a9, a10, a11] B := mid_put (cs := [a0, a1, a2, a3, a4, a5, a6, a7, a8, a9, a10, a11]) (k := 6) (by decide : 6 < 12)
@[go_sem] theorem mid_at7 : (midD A [a0, a1, a2, a3, a4, a5, a6, a7, a8, a9, a10, a11] B).at (A.length * 12 + 7) = a7 := mid_at (cs := [a0, a1, a2, a3, a4, a5, a6, a7, a8, a9, a10, a11]) (k := 7) (by decide : 7 < 12)
@[go_sem] theorem mid_put7 : (midD A [a0, a1, a2, a3, a4, a5, a6, a7, a8, a9, a10, a11] B).put (A.length * 12 + 7) e = midD A [a0, a1, a2, a3, a4, a5, a6, e, a8, a9, a10, a11] B := mid_put (cs := [a0, a1, a2, a3, a4, a5, a6, a7, a8, a9, a10, a11]) (k := 7) (by decide : 7 < 12)
@[go_sem] theorem mid_at8 : (midD A [a0, a1, a2, a3, a4, a5, a6, a7, a8, a9, a10, a11] B).at (A.length * 12 + 8) = a8 := mid_at (cs := [a0, a1, a2, a3, a4, a5, a6, a7, a8, a9, a10, a11]) (k := 8) (by decide : 8 < 12)
@[go_sem] theorem mid_put8 : (midD A [a0, a1, a2, a3, a4, a5, a6, a7, a8, a9, a10, a11] B).put (A.length * 12 + 8) e = midD A [a0, a1, a2, a3, a4, a5, a6, a7, e, a9, a10, a11] B := mid_put (cs := [a0, a1, a2, a3, a4, a5, a6, a7, a8, a9, a10, a11]) (k := 8) (by decide : 8 < 12)
@[go_sem] theorem mid_at9 : (midD A [a0, a1, a2, a3, a4, a5, a6, a7, a8, a9, a10, a11] B).at (A.length * 12 + 9) = a9 := mid_at (cs := [a0, a1, a2, a3, a4, a5, a6, a7, a8, a9, a10, a11]) (k := 9) (by decide : 9 < 12)
@[go_sem] theorem mid_put9 : (midD A [a0, a1, a2, a3, a4, a5, a6, a7, a8, a9, a10, a11] B).put (A.length * 12 + 9) e = midD A [a0, a1, a2, a3, a4, a5, a6, a7, a8, e, a10, a11] B := mid_put (cs := [a0, a1, a2, a3, a4, a5, a6, a7, a8, a9, a10, a11]) (k := 9) (by decide : 9 < 12)
@[go_sem] theorem mid_at10 : (midD A [a0, a1, a2, a3, a4, a5, a6, a7, a8, a9, a10, a11] B).at (A.length * 12 + 10) = a10 := mid_at (cs := [a0, a1, a2, a3, a4, a5, a6, a7, a8, a9, a10, a11]) (k := 10) (by decide : 10 < 12)
@[go_sem] theorem mid_put10 : (midD A [a0, a1, a2, a3, a4, a5, a6, a7, a8, a9, a10, a11] B).put (A.length * 12 + 10) e = midD A [a0, a1, a2, a3, a4, a5, a6, a7, a8, a9, e, a11] B := mid_put (cs := [a0, a1, a2, a3, a4, a5, a6, a7, a8, a9, a10, a11]) (k := 10) (by decide : 10 < 12)
@[go_sem] theorem mid_at11 : (midD A [a0, a1, a2, a3, a4, a5, a6, a7, a8, a9, a10, a11] B).at (A.length * 12 + 11) = a11 := mid_at (cs := [a0, a1, a2, a3, a4, a5, a6, a7, a8, a9, a10, a11]) (k := 11) (by decide : 11 < 12)
@[go_sem] theorem mid_put11 : (midD A [a0, a1, a2, a3, a4, a5, a6, a7, a8, a9, a10, a11] B).put (A.length * 12 + 11) e = midD A [a0, a1, a2, a3, a4, a5, a6, a7, a8, a9, a10, e] B := mid_put (cs := [a0, a1, a2, a3, a4, a5, a6, a7, a8, a9, a10, a11]) (k := 11) (by decide : 11 < 12)
@[go_sem] theorem mid_z (n : Nat) : n * 12 + 0 = n * 12 := rfl
@[go_sem] theorem mid_51 (n : Nat) : n * 12 + 5 + 1 = n * 12 + 6 := rfl
@[go_sem] theorem mid_52 (n : Nat) : n * 12 + 5 + 2 = n * 12 + 7 := rfl
@[go_sem] theorem mid_53 (n : Nat) : n * 12 + 5 + 3 = n * 12 + 8 := rfl
@[go_sem] theorem mid_54 (n : Nat) : n * 12 + 5 + 4 = n * 12 + 9 := rfl
@[go_sem] theorem mid_50 (n : Nat) : n * 12 + 5 + 0 = n * 12 + 5 := rfl
end
/-! ### Marked functors -/
def mkF1 (k : Int) (f : Fun) : Fun := ⟨⟨k, marks (k + 1) f.src.fr.length, marks (k + 1 + f.src.fr.length) f.src.to.length, marks (k + 1 + f.src.fr.length + f.src.to.length) f.src.id.length, marksS (k + 1 + f.src.fr.length + f.src.to.length + f.src.id.length) f.src.co⟩, ⟨k + 1 + f.src.fr.length + f.src.to.length + f.src.id.length + sumLen f.src.co, marks (k + 1 + f.src.fr.length + f.src.to.length + f.src.id.length + sumLen f.src.co + 1) f.tgt.fr.length, marks (k + 1 + f.src.fr.length + f.src.to.length + f.src.id.length + sumLen f.src.co + 1 + f.tgt.fr.length) f.tgt.to.length, marks (k + 1 + f.src.fr.length + f.src.to.length + f.src.id.length + sumLen f.src.co + 1 + f.tgt.fr.length + f.tgt.to.length) f.tgt.id.length, marksS (k + 1 + f.src.fr.length + f.src.to.length + f.src.id.length + sumLen f.src.co + 1 + f.tgt.fr.length + f.tgt.to.length + f.tgt.id.length) f.tgt.co⟩, marks (k + 1 + f.src.fr.length + f.src.to.length + f.src.id.length + sumLen f.src.co + 1 + f.tgt.fr.length + f.tgt.to.length + f.tgt.id.length + sumLen f.tgt.co) f.obs.length, marks (k + 1 + f.src.fr.length + f.src.to.length + f.src.id.length + sumLen f.src.co + 1 + f.tgt.fr.length + f.tgt.to.length + f.tgt.id.length + sumLen f.tgt.co + f.obs.length) f.ars.length⟩
def mkFs (k : Int) : List Fun → List Fun
  | [] => []
  | f :: l => mkF1 k f :: mkFs (k + (f.mkn + 2 : Nat)) l
def mkFn : List Fun → Nat
  | [] => 0
  | f :: l => f.mkn + 2 + mkFn l
theorem mkFs_len : ∀ (k : Int) (l : List Fun), (mkFs k l).length = l.length
  | _, [] => rfl
  | k, f :: l => by simp [mkFs, mkFs_len]
theorem mkFs_snoc : ∀ (k : Int) (l : List Fun) (f : Fun), mkFs k (l ++ [f]) = mkFs k l ++ [mkF1 (k + mkFn l) f]
  | k, [], f => by simp [mkFs, mkFn]
  | k, g :: l, f => by
    have e : k + ((g.mkn + 2 : Nat) : Int) + mkFn l = k + ((g.mkn + 2 + mkFn l : Nat) : Int) := by omega
    rw [List.cons_append, mkFs, mkFs_snoc, mkFs, mkFn, List.cons_append, e]
theorem mkFn_snoc (f : Fun) : ∀ l : List Fun, mkFn (l ++ [f]) = mkFn l + (f.mkn + 2)
  | [] => by simp [mkFn]
  | g :: l => by rw [List.cons_append, mkFn, mkFn_snoc f l, mkFn]; omega
end Go.Eng
