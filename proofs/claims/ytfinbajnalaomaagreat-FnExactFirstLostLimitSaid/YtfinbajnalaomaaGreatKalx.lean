/- Several texts in one: EngFt, EngBg, EngMv. -/
import Derived.Test.YtfinbajnalaomaaGreatKux
set_option linter.unusedVariables false
set_option linter.unusedSimpArgs false
section
namespace Go.Eng
open Go Go.Cats
section
variable {E : Env} {dst : Option Nat} {σ : Ss} {K : Ss → Prop}
end
theorem Imp.lendPtr {X : Cx} {σ : Ss} (k i o : Nat) (ds : List Dt) (V : List Nat) (hk : lk σ.tm k = .ptr i o) (hv : Sv.viewP V (rsL σ.rs) (.ptr i o) ds) (hV : ∀ j ∈ V, 1 ≤ (rsL σ.rs j).cv) :
    Imp X σ ⟨(k, .bptr (V.map fun j => (j, (rsL σ.rs j).cv)) ds) :: σ.tm, σ.rs, σ.nx⟩ := by
  rintro w1 U1 dfs a w ⟨hd, hn, c, hp, ht, hpin⟩
  refine ⟨hd, hn, c, hp, fun s => ?_, hpin⟩
  by_cases e : s = k
  · subst e
    have h1 := ht s
    rw [hk] at h1
    obtain ⟨g1, g2⟩ := viewP_ok hp hv h1
    show Sv.ok w X.S c (rsL σ.rs) (lk ((s, _) :: σ.tm) s) _
    simp only [lk, if_pos]
    simp only [Sv.ok]
    refine ⟨fun p hp' => ?_, g2, fun _ => PtrTo.mono (fun b hb => ?_) g1⟩
    · obtain ⟨j, hj, rfl⟩ := List.mem_map.1 hp'
      exact ⟨hV j hj, Nat.le_refl _⟩
    · rcases hb with hb | ⟨j, hj, hb⟩
      · exact .inl hb
      · exact .inr ⟨_, List.mem_map.2 ⟨j, hj, rfl⟩, hb⟩
  · show Sv.ok w X.S c (rsL σ.rs) (lk ((k, _) :: σ.tm) s) _
    simp only [lk, if_neg e]
    exact ht s
end Go.Eng
end
section
namespace Go.Eng
open Go
def rawsV (ys : List Value) : Dt := .sl 1 (.sl 1 (.v (.int .i64 0)) []) (ys.map Dt.v)
@[go_sem] theorem rawsV_isSl (l) : (rawsV l).isSl = true := rfl
@[go_sem] theorem rawsV_sz (l) : (rawsV l).sz = 1 := rfl
@[go_sem] theorem rawsV_nc (l : List Value) : (rawsV l).nc = l.length := by simp [rawsV, Dt.nc, Dt.cells]
@[go_sem] theorem rawsV_len (l : List Value) : (rawsV l).len = l.length := by simp [rawsV, Dt.len, Dt.sz, Dt.nc, Dt.cells]
@[go_sem] theorem ofDt_rawsV (ts) (l : List Value) : Sv.ofDt ts (rawsV l) = .bor ts (rawsV l) := rfl
@[go_sem] theorem rawsV_put (l : List Value) (k : Nat) (x : Value) : (rawsV l).put k (.v x) = rawsV (l.set k x) := by simp [rawsV, Dt.put, Dt.cells, Dt.sz, Dt.df, List.map_set]
@[go_sem] theorem rawsV_flat (l : List Value) : (rawsV l).flat = true := by simp [rawsV, Dt.flat, Dt.cells, Dt.isV]
@[go_sem] theorem rawsV_app (l m : List Value) : Dt.app 1 (.sl 1 (.v (.int .i64 0)) []) (rawsV l) (rawsV m) = rawsV (l ++ m) := by simp [rawsV, Dt.app, Dt.cells]
@[go_sem] theorem rawsV_app' (l m : List Value) : Dt.app 1 (ints []) (rawsV l) (rawsV m) = rawsV (l ++ m) := rawsV_app l m
@[go_sem] theorem rawsV_app0 (m : List Value) : Dt.app 1 (ints []) (intss []) (rawsV m) = rawsV m := rawsV_app [] m
@[go_sem] theorem rawsV_one (x : Value) : Dt.sl 1 (ints []) [.v x] = rawsV [x] := rfl
@[go_sem] theorem rawsV_nil : rawsV [] = intss [] := rfl
/-! ### To the lists told apart, and back -/
section
variable {X : Cx} {E : Env} {c : Code} {σ : Ss} {Q : Exit → Ss → Prop}
end
/-! ### Headers and their lists, shown to a callee -/
def Shows (V : List Nat) (rs0 : Nat → Rs) (s e : Sv) : Prop := ∀ (w0 w : World) (U S : Nat → Prop) (c c' : Nat → Cn) (rs : Nat → Rs) (u : Value), Hp w0 U S c rs w → (∀ i ∈ V, rs i = rs0 i) → s.ok w S c rs u → e.ok w (SV S c V) c' (rsL []) u
def ShowsL (V : List Nat) (rs0 : Nat → Rs) : List Sv → List Sv → Prop
  | [], [] => True
  | s :: l, e :: m => Shows V rs0 s e ∧ ShowsL V rs0 l m
  | _, _ => False
end Go.Eng
end
section
namespace Go.Eng
open Go
theorem Imp.mv {X : Cx} {σ : Ss} (k i cv : Nat) (d : Dt) (hk : lk σ.tm k = .sl i) (hi : rsL σ.rs i = ⟨cv, .arr d⟩) (hcv : 1 ≤ cv) (hf : rsL σ.rs σ.nx = ⟨0, .gone⟩) (hx : (X.rs0 σ.nx).cv = 0) :
    Imp X σ ⟨(k, .sl σ.nx) :: σ.tm, (σ.nx, ⟨1, .arr d⟩) :: (i, ⟨cv, .gone⟩) :: σ.rs, σ.nx + 1⟩ := by
  rintro w1 U1 ds a w ⟨hd, hn, c, hp, ht, hpin⟩
  have hne : i ≠ σ.nx := fun e => by rw [e, hf] at hi; cases hi
  have hres := hp.res i
  rw [hi] at hres
  have hr := rearr (X := X.at w1 U1 ds) (w' := w) hp σ.nx (c i) 1 (.arr d) [i] (by simpa using Ne.symm hne) (by rw [hf]; exact Nat.one_pos) (.inl hf) rfl rfl rfl (Nat.le_refl _) (Agree.refl _ _)
    (fun b hb => .inr (.inl ⟨i, List.mem_singleton.2 rfl, hb⟩)) (hp.one i) (fun hx => hres)
  obtain ⟨hp', hext⟩ := hr
  have e : upd (updl (rsL σ.rs) (goneL (rsL σ.rs) [i])) σ.nx ⟨1, .arr d⟩ = rsL ((σ.nx, (⟨1, .arr d⟩ : Rs)) :: (i, ⟨cv, .gone⟩) :: σ.rs) := by
    have : (⟨(rsL σ.rs i).cv, .gone⟩ : Rs) = ⟨cv, .gone⟩ := by rw [hi]
    rw [← this]; rfl
  rw [e] at hp' hext
  refine ⟨hd, hn, _, hp', fun s => ?_, fun l hl => ?_⟩
  · by_cases q : s = k
    · subst q
      have h1 := ht s
      rw [hk] at h1
      show Sv.ok _ _ _ _ (lk ((s, _) :: σ.tm) s) _
      simp only [lk, if_pos]
      simp only [Sv.ok] at h1 ⊢
      refine ⟨?_, ?_⟩
      · rw [rsL_cons, if_pos rfl]; exact Nat.le_refl _
      · rw [h1.2]
        simp [cnU, upd]
    · have := Sv.ok_ext hext _ _ (ht s)
      show Sv.ok _ _ _ _ (lk ((k, _) :: σ.tm) s) _
      simp only [lk, if_neg q]
      exact this
  · obtain ⟨r1, r2, r3⟩ := hpin l hl
    obtain ⟨r4, r5⟩ := hext.cn l r1
    exact ⟨Nat.le_trans r1 (hext.ver l), r4.trans r2, r5.trans r3⟩
end Go.Eng
end
