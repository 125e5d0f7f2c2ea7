/-
  No cell of these rows narrows 'for every input' (looked for: loops, veiled, ifaces, maps, wideKeys, modest, calm, conditions, laid).
  DERIVED. THE GIVEN ROWS OF THIS SEAT. 9 by the template 'for every input the law returns true; each argument reads behind the call as it read before'; 0 by the template 'total and deterministic' (their statements: YtmpopmololpaoaaGreatTotals.lean).
  GIVEN WITH THE SEED: the statements are not yours to turn. If you find one false, say at which input.
  Laid BY PROGRAM, IN A SANDBOX (cutbox-rows.mjs): the forced cells as the released guide's own fill.sh prints them over the translation 748f749d62d54f04… (all of the seat's roots in one cut). By AI agents, Wed Nov 11 2026. No macro, syntax, notation, axiom, sorry.
-/
import Derived.Test.YtmpopmololpaoaaGreatChecked
import GoSem.Claim
import GoSem.ClaimJoined
import GoSem.ClaimMapViews
import Derived.JoinedTies
import Derived.KernelRfl
namespace Go.Proofs.YtmpopmololpaoaaGreat
/- THE CELL 'sum', in the pinned program and in every row, IS THE sha256 OF THE DUMP (.gsa) THAT YtmpopmololpaoaaGreatProg.lean LOADS. Nothing in Lean hashes anything: it is a label: what it is worth is what the hold of that sum in a sandbox is worth. -/
noncomputable def Tryz.pinned : Pinned := { name := "ytmpopmololpaoaagreat", sum := "748f749d62d54f046484719ececb397b300f5dc0d1a800d8a483678bcd7465ed", checked := Tryz.checked }
namespace Rows
def none {H : Type} : Left H := { results := [], args := [] }

/-- 'laws.FnExactFunctorCategory': WHATEVER THE INPUT: true; the input reads as it did. -/
def fnExactFunctorCategorySpec : ChangeSpec := { name := "fnExactFunctorCategory", fn := fun _ => fun
  | [d1, d2] => { results := [.lit (.bool true)], args := [d1, d2] }
  | _ => none }
def fnExactFunctorCategoryRow : OpenClaim := { program := "ytmpopmololpaoaagreat", sum := "748f749d62d54f046484719ececb397b300f5dc0d1a800d8a483678bcd7465ed", func := "loop.example/g01083/laws.FnExactFunctorCategory", spec := "fnExactFunctorCategory", unfollowed := true, recurses := true, apart := false }
def FnExactFunctorCategorySaid : Prop := fnExactFunctorCategoryRow.holds Tryz.pinned (OpenSpec.ofChange fnExactFunctorCategorySpec)

/-- ITS FALSE NEIGHBOUR: 'it returns false'. Refute it at one input. -/
def fnExactFunctorCategoryWrong : ChangeSpec := { name := "fnExactFunctorCategory", fn := fun _ => fun
  | [d1, d2] => { results := [.lit (.bool false)], args := [d1, d2] }
  | _ => none }
def FnExactFunctorCategoryWrongFalsely : Prop := fnExactFunctorCategoryRow.holds Tryz.pinned (OpenSpec.ofChange fnExactFunctorCategoryWrong)

/-- 'laws.FnExactEvaluationFunctor': WHATEVER THE INPUT: true; the input reads as it did. -/
def fnExactEvaluationFunctorSpec : ChangeSpec := { name := "fnExactEvaluationFunctor", fn := fun _ => fun
  | [d1, d2, d3] => { results := [.lit (.bool true)], args := [d1, d2, d3] }
  | _ => none }
def fnExactEvaluationFunctorRow : OpenClaim := { program := "ytmpopmololpaoaagreat", sum := "748f749d62d54f046484719ececb397b300f5dc0d1a800d8a483678bcd7465ed", func := "loop.example/g01083/laws.FnExactEvaluationFunctor", spec := "fnExactEvaluationFunctor", unfollowed := true, recurses := true, apart := false }
def FnExactEvaluationFunctorSaid : Prop := fnExactEvaluationFunctorRow.holds Tryz.pinned (OpenSpec.ofChange fnExactEvaluationFunctorSpec)

/-- ITS FALSE NEIGHBOUR: 'it returns false'. Refute it at one input. -/
def fnExactEvaluationFunctorWrong : ChangeSpec := { name := "fnExactEvaluationFunctor", fn := fun _ => fun
  | [d1, d2, d3] => { results := [.lit (.bool false)], args := [d1, d2, d3] }
  | _ => none }
def FnExactEvaluationFunctorWrongFalsely : Prop := fnExactEvaluationFunctorRow.holds Tryz.pinned (OpenSpec.ofChange fnExactEvaluationFunctorWrong)

/-- 'laws.FnExactDiagonalFunctor': WHATEVER THE INPUT: true; the input reads as it did. -/
def fnExactDiagonalFunctorSpec : ChangeSpec := { name := "fnExactDiagonalFunctor", fn := fun _ => fun
  | [d1, d2] => { results := [.lit (.bool true)], args := [d1, d2] }
  | _ => none }
def fnExactDiagonalFunctorRow : OpenClaim := { program := "ytmpopmololpaoaagreat", sum := "748f749d62d54f046484719ececb397b300f5dc0d1a800d8a483678bcd7465ed", func := "loop.example/g01083/laws.FnExactDiagonalFunctor", spec := "fnExactDiagonalFunctor", unfollowed := true, recurses := true, apart := false }
def FnExactDiagonalFunctorSaid : Prop := fnExactDiagonalFunctorRow.holds Tryz.pinned (OpenSpec.ofChange fnExactDiagonalFunctorSpec)

/-- ITS FALSE NEIGHBOUR: 'it returns false'. Refute it at one input. -/
def fnExactDiagonalFunctorWrong : ChangeSpec := { name := "fnExactDiagonalFunctor", fn := fun _ => fun
  | [d1, d2] => { results := [.lit (.bool false)], args := [d1, d2] }
  | _ => none }
def FnExactDiagonalFunctorWrongFalsely : Prop := fnExactDiagonalFunctorRow.holds Tryz.pinned (OpenSpec.ofChange fnExactDiagonalFunctorWrong)

/-- 'laws.FnExactComposeBefore': WHATEVER THE INPUT: true; the input reads as it did. -/
def fnExactComposeBeforeSpec : ChangeSpec := { name := "fnExactComposeBefore", fn := fun _ => fun
  | [d1, d2] => { results := [.lit (.bool true)], args := [d1, d2] }
  | _ => none }
def fnExactComposeBeforeRow : OpenClaim := { program := "ytmpopmololpaoaagreat", sum := "748f749d62d54f046484719ececb397b300f5dc0d1a800d8a483678bcd7465ed", func := "loop.example/g01083/laws.FnExactComposeBefore", spec := "fnExactComposeBefore", unfollowed := true, recurses := true, apart := false }
def FnExactComposeBeforeSaid : Prop := fnExactComposeBeforeRow.holds Tryz.pinned (OpenSpec.ofChange fnExactComposeBeforeSpec)

/-- ITS FALSE NEIGHBOUR: 'it returns false'. Refute it at one input. -/
def fnExactComposeBeforeWrong : ChangeSpec := { name := "fnExactComposeBefore", fn := fun _ => fun
  | [d1, d2] => { results := [.lit (.bool false)], args := [d1, d2] }
  | _ => none }
def FnExactComposeBeforeWrongFalsely : Prop := fnExactComposeBeforeRow.holds Tryz.pinned (OpenSpec.ofChange fnExactComposeBeforeWrong)

/-- 'laws.FnExactComposeBehind': WHATEVER THE INPUT: true; the input reads as it did. -/
def fnExactComposeBehindSpec : ChangeSpec := { name := "fnExactComposeBehind", fn := fun _ => fun
  | [d1, d2] => { results := [.lit (.bool true)], args := [d1, d2] }
  | _ => none }
def fnExactComposeBehindRow : OpenClaim := { program := "ytmpopmololpaoaagreat", sum := "748f749d62d54f046484719ececb397b300f5dc0d1a800d8a483678bcd7465ed", func := "loop.example/g01083/laws.FnExactComposeBehind", spec := "fnExactComposeBehind", unfollowed := true, recurses := true, apart := false }
def FnExactComposeBehindSaid : Prop := fnExactComposeBehindRow.holds Tryz.pinned (OpenSpec.ofChange fnExactComposeBehindSpec)

/-- ITS FALSE NEIGHBOUR: 'it returns false'. Refute it at one input. -/
def fnExactComposeBehindWrong : ChangeSpec := { name := "fnExactComposeBehind", fn := fun _ => fun
  | [d1, d2] => { results := [.lit (.bool false)], args := [d1, d2] }
  | _ => none }
def FnExactComposeBehindWrongFalsely : Prop := fnExactComposeBehindRow.holds Tryz.pinned (OpenSpec.ofChange fnExactComposeBehindWrong)

/-- 'laws.FnExactUncurryFunctor': WHATEVER THE INPUT: true; the input reads as it did. -/
def fnExactUncurryFunctorSpec : ChangeSpec := { name := "fnExactUncurryFunctor", fn := fun _ => fun
  | [d1, d2, d3, d4] => { results := [.lit (.bool true)], args := [d1, d2, d3, d4] }
  | _ => none }
def fnExactUncurryFunctorRow : OpenClaim := { program := "ytmpopmololpaoaagreat", sum := "748f749d62d54f046484719ececb397b300f5dc0d1a800d8a483678bcd7465ed", func := "loop.example/g01083/laws.FnExactUncurryFunctor", spec := "fnExactUncurryFunctor", unfollowed := true, recurses := true, apart := false }
def FnExactUncurryFunctorSaid : Prop := fnExactUncurryFunctorRow.holds Tryz.pinned (OpenSpec.ofChange fnExactUncurryFunctorSpec)

/-- ITS FALSE NEIGHBOUR: 'it returns false'. Refute it at one input. -/
def fnExactUncurryFunctorWrong : ChangeSpec := { name := "fnExactUncurryFunctor", fn := fun _ => fun
  | [d1, d2, d3, d4] => { results := [.lit (.bool false)], args := [d1, d2, d3, d4] }
  | _ => none }
def FnExactUncurryFunctorWrongFalsely : Prop := fnExactUncurryFunctorRow.holds Tryz.pinned (OpenSpec.ofChange fnExactUncurryFunctorWrong)

/-- 'laws.FnExactCurryFunctor': WHATEVER THE INPUT: true; the input reads as it did. -/
def fnExactCurryFunctorSpec : ChangeSpec := { name := "fnExactCurryFunctor", fn := fun _ => fun
  | [d1, d2, d3] => { results := [.lit (.bool true)], args := [d1, d2, d3] }
  | _ => none }
def fnExactCurryFunctorRow : OpenClaim := { program := "ytmpopmololpaoaagreat", sum := "748f749d62d54f046484719ececb397b300f5dc0d1a800d8a483678bcd7465ed", func := "loop.example/g01083/laws.FnExactCurryFunctor", spec := "fnExactCurryFunctor", unfollowed := true, recurses := true, apart := false }
def FnExactCurryFunctorSaid : Prop := fnExactCurryFunctorRow.holds Tryz.pinned (OpenSpec.ofChange fnExactCurryFunctorSpec)

/-- ITS FALSE NEIGHBOUR: 'it returns false'. Refute it at one input. -/
def fnExactCurryFunctorWrong : ChangeSpec := { name := "fnExactCurryFunctor", fn := fun _ => fun
  | [d1, d2, d3] => { results := [.lit (.bool false)], args := [d1, d2, d3] }
  | _ => none }
def FnExactCurryFunctorWrongFalsely : Prop := fnExactCurryFunctorRow.holds Tryz.pinned (OpenSpec.ofChange fnExactCurryFunctorWrong)

/-- 'laws.FnExactFirstLostLimit': WHATEVER THE INPUT: true; the input reads as it did. -/
def fnExactFirstLostLimitSpec : ChangeSpec := { name := "fnExactFirstLostLimit", fn := fun _ => fun
  | [d1, d2] => { results := [.lit (.bool true)], args := [d1, d2] }
  | _ => none }
def fnExactFirstLostLimitRow : OpenClaim := { program := "ytmpopmololpaoaagreat", sum := "748f749d62d54f046484719ececb397b300f5dc0d1a800d8a483678bcd7465ed", func := "loop.example/g01083/laws.FnExactFirstLostLimit", spec := "fnExactFirstLostLimit", unfollowed := true, recurses := true, apart := false }
def FnExactFirstLostLimitSaid : Prop := fnExactFirstLostLimitRow.holds Tryz.pinned (OpenSpec.ofChange fnExactFirstLostLimitSpec)

/-- ITS FALSE NEIGHBOUR: 'it returns false'. Refute it at one input. -/
def fnExactFirstLostLimitWrong : ChangeSpec := { name := "fnExactFirstLostLimit", fn := fun _ => fun
  | [d1, d2] => { results := [.lit (.bool false)], args := [d1, d2] }
  | _ => none }
def FnExactFirstLostLimitWrongFalsely : Prop := fnExactFirstLostLimitRow.holds Tryz.pinned (OpenSpec.ofChange fnExactFirstLostLimitWrong)

/-- 'laws.FnExactAllMonads': WHATEVER THE INPUT: true; the input reads as it did. -/
def fnExactAllMonadsSpec : ChangeSpec := { name := "fnExactAllMonads", fn := fun _ => fun
  | [d] => { results := [.lit (.bool true)], args := [d] }
  | _ => none }
def fnExactAllMonadsRow : OpenClaim := { program := "ytmpopmololpaoaagreat", sum := "748f749d62d54f046484719ececb397b300f5dc0d1a800d8a483678bcd7465ed", func := "loop.example/g01083/laws.FnExactAllMonads", spec := "fnExactAllMonads", unfollowed := true, recurses := true, apart := false }
def FnExactAllMonadsSaid : Prop := fnExactAllMonadsRow.holds Tryz.pinned (OpenSpec.ofChange fnExactAllMonadsSpec)

/-- ITS FALSE NEIGHBOUR: 'it returns false'. Refute it at one input. -/
def fnExactAllMonadsWrong : ChangeSpec := { name := "fnExactAllMonads", fn := fun _ => fun
  | [d] => { results := [.lit (.bool false)], args := [d] }
  | _ => none }
def FnExactAllMonadsWrongFalsely : Prop := fnExactAllMonadsRow.holds Tryz.pinned (OpenSpec.ofChange fnExactAllMonadsWrong)

/- THE SECOND FORM. 'bulk': how many values and letters a reading holds, each counted each time it is reached (what is shared counts as often as it is met; a slice's spare places count too). A statement '..UptoSaid' is the law's where the arguments, and the package variables that the reading takes, are together of bulk at most 1048576: NARROWER than '..Said'. Prove '..Said' where nothing that the law and all that it calls make is longer than what came in: it says more and counts as full. Else prove '..UptoSaid'. A law counts once. -/
mutual
def uptoBulk {H : Type} : DataW H → Nat
  | .lit (.string bytes) => bytes.length + 1
  | .lit _ => 1
  | .nil => 1
  | .ptr d => uptoBulk d + 1
  | .slice elems spare => uptoBulkAll elems + uptoBulkAll spare + 1
  | .agg parts => uptoBulkAll parts + 1
  | .iface _ d => uptoBulk d + 1
  | .map entries => uptoBulkEntries entries + 1
  | .held _ => 1
def uptoBulkAll {H : Type} : List (DataW H) → Nat
  | [] => 0
  | d :: r => uptoBulk d + uptoBulkAll r
def uptoBulkEntries {H : Type} : List (Lit × DataW H) → Nat
  | [] => 0
  | x :: r => uptoBulkEntry x + uptoBulkEntries r
def uptoBulkEntry {H : Type} : Lit × DataW H → Nat
  | (.string bytes, d) => bytes.length + uptoBulk d + 1
  | (_, d) => uptoBulk d + 1
 end
def uptoSmall : (H : Type) → List (DataW H) → Bool := fun _ ds => decide (uptoBulkAll ds ≤ 1048576)
def OpenSpec.upto (s : _root_.Go.ChangeSpec) : _root_.Go.OpenSpec := { _root_.Go.OpenSpec.ofChange s with cond := some uptoSmall }

/-- 'laws.FnExactFunctorCategory', WHERE WHAT IT READS IS OF BULK AT MOST 1048576: true; the input reads as it did. -/
def fnExactFunctorCategoryUptoRow : OpenClaim := { program := "ytmpopmololpaoaagreat", sum := "748f749d62d54f046484719ececb397b300f5dc0d1a800d8a483678bcd7465ed", func := "loop.example/g01083/laws.FnExactFunctorCategory", spec := "fnExactFunctorCategory", unfollowed := true, recurses := true, apart := false, narrowed := true }
def FnExactFunctorCategoryUptoSaid : Prop := fnExactFunctorCategoryUptoRow.holds Tryz.pinned (OpenSpec.upto fnExactFunctorCategorySpec)

/-- 'laws.FnExactEvaluationFunctor', WHERE WHAT IT READS IS OF BULK AT MOST 1048576: true; the input reads as it did. -/
def fnExactEvaluationFunctorUptoRow : OpenClaim := { program := "ytmpopmololpaoaagreat", sum := "748f749d62d54f046484719ececb397b300f5dc0d1a800d8a483678bcd7465ed", func := "loop.example/g01083/laws.FnExactEvaluationFunctor", spec := "fnExactEvaluationFunctor", unfollowed := true, recurses := true, apart := false, narrowed := true }
def FnExactEvaluationFunctorUptoSaid : Prop := fnExactEvaluationFunctorUptoRow.holds Tryz.pinned (OpenSpec.upto fnExactEvaluationFunctorSpec)

/-- 'laws.FnExactDiagonalFunctor', WHERE WHAT IT READS IS OF BULK AT MOST 1048576: true; the input reads as it did. -/
def fnExactDiagonalFunctorUptoRow : OpenClaim := { program := "ytmpopmololpaoaagreat", sum := "748f749d62d54f046484719ececb397b300f5dc0d1a800d8a483678bcd7465ed", func := "loop.example/g01083/laws.FnExactDiagonalFunctor", spec := "fnExactDiagonalFunctor", unfollowed := true, recurses := true, apart := false, narrowed := true }
def FnExactDiagonalFunctorUptoSaid : Prop := fnExactDiagonalFunctorUptoRow.holds Tryz.pinned (OpenSpec.upto fnExactDiagonalFunctorSpec)

/-- 'laws.FnExactComposeBefore', WHERE WHAT IT READS IS OF BULK AT MOST 1048576: true; the input reads as it did. -/
def fnExactComposeBeforeUptoRow : OpenClaim := { program := "ytmpopmololpaoaagreat", sum := "748f749d62d54f046484719ececb397b300f5dc0d1a800d8a483678bcd7465ed", func := "loop.example/g01083/laws.FnExactComposeBefore", spec := "fnExactComposeBefore", unfollowed := true, recurses := true, apart := false, narrowed := true }
def FnExactComposeBeforeUptoSaid : Prop := fnExactComposeBeforeUptoRow.holds Tryz.pinned (OpenSpec.upto fnExactComposeBeforeSpec)

/-- 'laws.FnExactComposeBehind', WHERE WHAT IT READS IS OF BULK AT MOST 1048576: true; the input reads as it did. -/
def fnExactComposeBehindUptoRow : OpenClaim := { program := "ytmpopmololpaoaagreat", sum := "748f749d62d54f046484719ececb397b300f5dc0d1a800d8a483678bcd7465ed", func := "loop.example/g01083/laws.FnExactComposeBehind", spec := "fnExactComposeBehind", unfollowed := true, recurses := true, apart := false, narrowed := true }
def FnExactComposeBehindUptoSaid : Prop := fnExactComposeBehindUptoRow.holds Tryz.pinned (OpenSpec.upto fnExactComposeBehindSpec)

/-- 'laws.FnExactUncurryFunctor', WHERE WHAT IT READS IS OF BULK AT MOST 1048576: true; the input reads as it did. -/
def fnExactUncurryFunctorUptoRow : OpenClaim := { program := "ytmpopmololpaoaagreat", sum := "748f749d62d54f046484719ececb397b300f5dc0d1a800d8a483678bcd7465ed", func := "loop.example/g01083/laws.FnExactUncurryFunctor", spec := "fnExactUncurryFunctor", unfollowed := true, recurses := true, apart := false, narrowed := true }
def FnExactUncurryFunctorUptoSaid : Prop := fnExactUncurryFunctorUptoRow.holds Tryz.pinned (OpenSpec.upto fnExactUncurryFunctorSpec)

/-- 'laws.FnExactCurryFunctor', WHERE WHAT IT READS IS OF BULK AT MOST 1048576: true; the input reads as it did. -/
def fnExactCurryFunctorUptoRow : OpenClaim := { program := "ytmpopmololpaoaagreat", sum := "748f749d62d54f046484719ececb397b300f5dc0d1a800d8a483678bcd7465ed", func := "loop.example/g01083/laws.FnExactCurryFunctor", spec := "fnExactCurryFunctor", unfollowed := true, recurses := true, apart := false, narrowed := true }
def FnExactCurryFunctorUptoSaid : Prop := fnExactCurryFunctorUptoRow.holds Tryz.pinned (OpenSpec.upto fnExactCurryFunctorSpec)

/-- 'laws.FnExactFirstLostLimit', WHERE WHAT IT READS IS OF BULK AT MOST 1048576: true; the input reads as it did. -/
def fnExactFirstLostLimitUptoRow : OpenClaim := { program := "ytmpopmololpaoaagreat", sum := "748f749d62d54f046484719ececb397b300f5dc0d1a800d8a483678bcd7465ed", func := "loop.example/g01083/laws.FnExactFirstLostLimit", spec := "fnExactFirstLostLimit", unfollowed := true, recurses := true, apart := false, narrowed := true }
def FnExactFirstLostLimitUptoSaid : Prop := fnExactFirstLostLimitUptoRow.holds Tryz.pinned (OpenSpec.upto fnExactFirstLostLimitSpec)

/-- 'laws.FnExactAllMonads', WHERE WHAT IT READS IS OF BULK AT MOST 1048576: true; the input reads as it did. -/
def fnExactAllMonadsUptoRow : OpenClaim := { program := "ytmpopmololpaoaagreat", sum := "748f749d62d54f046484719ececb397b300f5dc0d1a800d8a483678bcd7465ed", func := "loop.example/g01083/laws.FnExactAllMonads", spec := "fnExactAllMonads", unfollowed := true, recurses := true, apart := false, narrowed := true }
def FnExactAllMonadsUptoSaid : Prop := fnExactAllMonadsUptoRow.holds Tryz.pinned (OpenSpec.upto fnExactAllMonadsSpec)

end Rows
end Go.Proofs.YtmpopmololpaoaaGreat
