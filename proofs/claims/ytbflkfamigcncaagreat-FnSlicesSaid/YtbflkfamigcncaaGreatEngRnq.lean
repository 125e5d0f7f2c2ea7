/- The engine, part RN: sources of numbers: bits of uint64, bytes that are lent, the source's box. -/
import Derived.Test.YtbflkfamigcncaaGreatKex
set_option linter.unusedVariables false
set_option linter.unusedSimpArgs false
namespace Go.Eng
open Go
theorem hook_shr {E : Env} {d : Option Nat} {t u : TypeId} {x y : Operand} {σ : Ss} {K : Ss → Prop} {k q : IntKind} {a b : Int} (hx : σ.opd x = .v (.int k a)) (hy : σ.opd y = .v (.int q b)) (hb : 0 ≤ b)
    (hK : K (σ.ap d (.v (.int k (a.fdiv (2 ^ min b.toNat k.bits)))) [] σ.nx)) : EvHook E d (.binOp .shr t x y u) σ K := by
  refine ⟨[], _, [], _, fun X o _ hd ho hdn tm rs h1 h2 => ?_, hK, fun i hi => by simp at hi⟩
  refine step_val (E := E) (by rw [hd]; exact hdn) _ fun ac w c hp h => ?_
  have hx1 := h x
  have hy1 := h y
  rw [h1 x (by rw [ho]; simp [Op.operands]), show opd (lk σ.tm) x = σ.opd x from rfl, hx] at hx1
  rw [h1 y (by rw [ho]; simp [Op.operands]), show opd (lk σ.tm) y = σ.opd y from rfl, hy] at hy1
  simp only [Sv.ok] at hx1 hy1
  have hn : ¬ b < 0 := by omega
  simp [execOp, ho, hx1, hy1, eqGuard, binOp, Op.shift, hn]
def lowB (k : IntKind) (a b : Int) : Int := k.wrap (BitVec.ofInt k.bits a &&& BitVec.ofInt k.bits b).toNat
theorem hook_and {E : Env} {d : Option Nat} {t u : TypeId} {x y : Operand} {σ : Ss} {K : Ss → Prop} {k : IntKind} {a b : Int} (hx : σ.opd x = .v (.int k a)) (hy : σ.opd y = .v (.int k b))
    (hK : K (σ.ap d (.v (.int k (lowB k a b))) [] σ.nx)) : EvHook E d (.binOp .and t x y u) σ K := by
  refine ⟨[], _, [], _, fun X o _ hd ho hdn tm rs h1 h2 => ?_, hK, fun i hi => by simp at hi⟩
  refine step_val (E := E) (by rw [hd]; exact hdn) _ fun ac w c hp h => ?_
  have hx1 := h x
  have hy1 := h y
  rw [h1 x (by rw [ho]; simp [Op.operands]), show opd (lk σ.tm) x = σ.opd x from rfl, hx] at hx1
  rw [h1 y (by rw [ho]; simp [Op.operands]), show opd (lk σ.tm) y = σ.opd y from rfl, hy] at hy1
  simp only [Sv.ok] at hx1 hy1
  simp [execOp, ho, hx1, hy1, eqGuard, binOp, Op.intBits, lowB]
theorem lowB_24 (a : Int) : 0 ≤ lowB .u64 a 16777215 ∧ lowB .u64 a 16777215 < 16777216 := by
  have h : (BitVec.ofInt 64 a &&& BitVec.ofInt 64 16777215).toNat ≤ 16777215 := by
    rw [BitVec.toNat_and]
    exact Nat.le_trans (Nat.and_le_right) (by decide)
  have e : lowB .u64 a 16777215 = IntKind.u64.wrap ((BitVec.ofInt 64 a &&& BitVec.ofInt 64 16777215).toNat : Nat) := rfl
  rw [e]
  generalize (BitVec.ofInt 64 a &&& BitVec.ofInt 64 16777215).toNat = z at h
  have e2 : IntKind.u64.wrap (z : Int) = z := by
    unfold IntKind.wrap IntKind.bits IntKind.signed
    simp
    omega
  rw [e2]
  omega
structure RnS where
  code : List Int
  at_ : Nat
  hash : Int
structure RnOk (s : RnS) : Prop where
  len : s.code.length ≤ 4096
  le : s.at_ ≤ s.code.length
  b : ∀ i, i < s.code.length → 0 ≤ s.code.getD i 0 ∧ s.code.getD i 0 < 256
abbrev srcK (s : RnS) : Rk := .box [.bor [] (bys s.code), iv s.at_, .v (.int .u64 s.hash)]
abbrev srcR (s : RnS) : Rs := ⟨1, srcK s⟩
theorem bys_at (l : List Int) (k : Nat) : (bys l).at k = .v (.int .u8 (l.getD k 0)) := by
  simp only [bys, Dt.at, Dt.cells, Dt.df, List.getD_eq_getElem?_getD, List.getElem?_map]
  cases l[k]? <;> rfl
@[go_sem] theorem ofDt_bys (ts) (l : List Int) : Sv.ofDt ts (bys l) = .bor ts (bys l) := rfl
attribute [go_sem] bys_at
end Go.Eng
