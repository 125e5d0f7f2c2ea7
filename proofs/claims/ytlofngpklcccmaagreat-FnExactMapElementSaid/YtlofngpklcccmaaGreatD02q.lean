/- The door: set maps handed to a law. -/
import Derived.Test.YtlofngpklcccmaaGreatH01q
import Derived.Test.YtlofngpklcccmaaGreatD01q
set_option linter.unusedSimpArgs false
set_option linter.unusedVariables false
set_option maxRecDepth 100000
namespace Go.Eng
open Go Go.Proofs Go.Cats Go.ChangeShapes

structure SMT (m : SM) : Prop where
  src : SFT m.src
  tgt : SFT m.tgt
  bpa : (m.parts.length : Int) ≤ 9223372036854775807
  row : ∀ a, a < m.parts.length → ((m.parts.getD a []).length : Int) ≤ 9223372036854775807
  parts : ∀ r ∈ m.parts, ∀ n ∈ r, In64 n

section
variable {H : Type} {enc : TypeId × Value → H} {w : World} {held : Bool} {cn : Nat → Cn} {rs : Nat → Rs}
theorem rd_sm {fuel : Nat} {cs : List Value} {x : DataW H × List MemPlace} (h : DataW.trod enc Tryz.prog w 0 (fun _ => true) held fuel 43 cs = some x) :
    ∃ f, SMT f ∧ ∀ cn rs, Sv.okL w (Old w) cn rs (smS [] f) cs := by
  obtain ⟨hl, m, hf⟩ := fld Tryz.underlying43 h
  have h15 : Tryz.prog.cellsOf 43 = 15 := by kernel_rfl
  have h7 : Tryz.prog.cellsOf 27 = 7 := by kernel_rfl
  have c1 : Tryz.prog.cellsOf 2 = 1 := by kernel_rfl
  have c2 : Tryz.prog.cellsOf 22 = 1 := by kernel_rfl
  have c3 : Tryz.prog.cellsOf 23 = 1 := by kernel_rfl
  rw [h15] at hl
  obtain ⟨y0, g0⟩ := hf 0 27 0 rfl
  obtain ⟨y1, g1⟩ := hf 1 27 7 rfl
  obtain ⟨y2, g2⟩ := hf 2 23 14 rfl
  rw [h7] at g0 g1; rw [c3] at g2
  obtain ⟨a, ha, ka⟩ := rd_sf g0
  obtain ⟨b, hb, kb⟩ := rd_sf g1
  obtain ⟨u4, l4, k4, o4, r4, b4, b5, e4⟩ := rd_intss Tryz.underlying23 Tryz.underlying22 c2 Tryz.underlying2 c1 g2
  refine ⟨⟨a, b, l4⟩, ⟨ha, hb, b4, b5, e4⟩, fun cn rs => ?_⟩
  have q : cs = (cs.drop 0).take 7 ++ ((cs.drop 7).take 7 ++ ([u4] ++ [])) := by
    rw [← k4]
    have q0 := dropTake cs 0 7
    have q1 := dropTake cs 7 7
    have q2 := dropTake cs 14 1
    have q3 : cs.drop 15 = [] := List.drop_eq_nil_of_le (by omega)
    simp only [Nat.zero_add, Nat.reduceAdd] at q0 q1 q2
    rw [q3] at q2
    rw [← q2, ← q1, ← q0, List.drop_zero]
  rw [q]
  exact Sv.okL.append (l := sfS [] a) (ka cn rs) (Sv.okL.append (l := sfS [] b) (kb cn rs) (Sv.okL.append (l := [_]) (okL_bor o4 r4) (by simp [Sv.okL])))
end
end Go.Eng
