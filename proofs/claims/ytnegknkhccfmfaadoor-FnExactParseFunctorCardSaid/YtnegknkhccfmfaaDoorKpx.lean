/- Several texts in one: D01, D03. -/
import Derived.Test.YtnegknkhccfmfaaDoorC02q
set_option linter.unusedSimpArgs false
set_option linter.unusedVariables false
set_option maxRecDepth 100000
section
namespace Go.Eng
open Go Go.Proofs Go.Cats Go.ChangeShapes
structure CatT (c : Cat) : Prop where
  len : CatL c
  ob : In64 c.ob
  fr : ∀ n ∈ c.fr, In64 n
  to : ∀ n ∈ c.to, In64 n
  id : ∀ n ∈ c.id, In64 n
  co : ∀ r ∈ c.co, ∀ n ∈ r, In64 n
section
variable {H : Type} {enc : TypeId × Value → H} {w : World} {held : Bool} {cn : Nat → Cn} {rs : Nat → Rs}
theorem okL_bor {d : Dt} {u : Value} (h1 : u.oneCell' = true) (h2 : RdV w (Old w) d u) : Sv.okL w (Old w) cn rs [.bor [] d] [u] := by
  simp only [Sv.okL, Sv.ok]
  exact ⟨u, [], rfl, ⟨fun p hp => (by simp at hp), h1, fun _ => h2.mono (fun b hb => .inl hb)⟩, rfl⟩
theorem okL_int {n : Int} : Sv.okL w (Old w) cn rs [iv n] [.int .i64 n] := by
  simp only [Sv.okL, Sv.ok, iv]
  exact ⟨_, [], rfl, rfl, rfl⟩
theorem rd_cat {fuel : Nat} {cs : List Value} {x : DataW H × List MemPlace} (h : DataW.trod enc Tryd.prog w 0 (fun _ => true) held fuel 25 cs = some x) :
    ∃ c, CatT c ∧ ∀ cn rs, Sv.okL w (Old w) cn rs (catS [] c) cs := by
  obtain ⟨hl, m, hf⟩ := fld Tryd.underlying25 h
  have h5 : Tryd.prog.cellsOf 25 = 5 := by kernel_rfl
  have c1 : Tryd.prog.cellsOf 2 = 1 := by kernel_rfl
  have c2 : Tryd.prog.cellsOf 22 = 1 := by kernel_rfl
  have c3 : Tryd.prog.cellsOf 23 = 1 := by kernel_rfl
  rw [h5] at hl
  obtain ⟨y0, g0⟩ := hf 0 2 0 rfl
  obtain ⟨y1, g1⟩ := hf 1 22 1 rfl
  obtain ⟨y2, g2⟩ := hf 2 22 2 rfl
  obtain ⟨y3, g3⟩ := hf 3 22 3 rfl
  obtain ⟨y4, g4⟩ := hf 4 23 4 rfl
  rw [c1] at g0; rw [c2] at g1 g2 g3; rw [c3] at g4
  obtain ⟨n, k0, _, e0⟩ := DataW.trod_int Tryd.underlying2 g0
  obtain ⟨u1, l1, k1, o1, r1, b1, e1⟩ := rd_ints Tryd.underlying22 Tryd.underlying2 c1 g1
  obtain ⟨u2, l2, k2, o2, r2, b2, e2⟩ := rd_ints Tryd.underlying22 Tryd.underlying2 c1 g2
  obtain ⟨u3, l3, k3, o3, r3, b3, e3⟩ := rd_ints Tryd.underlying22 Tryd.underlying2 c1 g3
  obtain ⟨u4, l4, k4, o4, r4, b4, b5, e4⟩ := rd_intss Tryd.underlying23 Tryd.underlying22 c2 Tryd.underlying2 c1 g4
  refine ⟨⟨n, l1, l2, l3, l4⟩, ⟨⟨b1, b2, b3, b4, b5⟩, ?_, e1, e2, e3, e4⟩, fun cn rs => ?_⟩
  · unfold In64
    simp [Lit.wf, IntKind.min, IntKind.max, IntKind.bits, IntKind.signed] at e0
    omega
  · have q : cs = [.int .i64 n] ++ ([u1] ++ ([u2] ++ ([u3] ++ ([u4] ++ [])))) := by
      rw [← k0, ← k1, ← k2, ← k3, ← k4]
      rcases cs with _ | ⟨a, _ | ⟨b, _ | ⟨c, _ | ⟨d, _ | ⟨e, _ | ⟨f, r⟩⟩⟩⟩⟩⟩ <;> simp at hl ⊢
    rw [q]
    exact Sv.okL.append (l := [_]) okL_int (Sv.okL.append (l := [_]) (okL_bor o1 r1) (Sv.okL.append (l := [_]) (okL_bor o2 r2) (Sv.okL.append (l := [_]) (okL_bor o3 r3) (Sv.okL.append (l := [_]) (okL_bor o4 r4) (by simp [Sv.okL])))))
structure SFT (f : SF) : Prop where
  shape : CatT f.shape
  bsz : (f.sizes.length : Int) ≤ 9223372036854775807
  bac : (f.acts.length : Int) ≤ 9223372036854775807
  row : ∀ a, a < f.acts.length → ((f.acts.getD a []).length : Int) ≤ 9223372036854775807
  sizes : ∀ n ∈ f.sizes, In64 n
  acts : ∀ r ∈ f.acts, ∀ n ∈ r, In64 n
end
end Go.Eng
end
section
namespace Go.Eng
open Go Go.Proofs Go.Cats Go.ChangeShapes
structure FunT (f : Fun) : Prop where
  src : CatT f.src
  tgt : CatT f.tgt
  bob : (f.obs.length : Int) ≤ 9223372036854775807
  bar : (f.ars.length : Int) ≤ 9223372036854775807
  obs : ∀ n ∈ f.obs, In64 n
  ars : ∀ n ∈ f.ars, In64 n
theorem CatT.b1 {c : Cat} (h : CatT c) (k : catSz c ≤ 1048576) : CatB c := by
  unfold catSz at k
  have h0 := h.ob
  unfold In64 at h0
  exact ⟨h0.1, h0.2, by omega, by omega, by omega, by omega, fun f hf => by have := sumLen_get c.co f hf; omega⟩
section
variable {H : Type} {enc : TypeId × Value → H} {w : World} {held : Bool} {cn : Nat → Cn} {rs : Nat → Rs}
end
end Go.Eng
end
