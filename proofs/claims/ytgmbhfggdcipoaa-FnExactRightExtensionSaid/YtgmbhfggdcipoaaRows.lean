/-
  No cell of these rows narrows 'for every input' (looked for: loops, veiled, ifaces, maps, wideKeys, modest, calm, conditions, laid).
  DERIVED. THE GIVEN ROWS OF THIS SEAT. 6 by the template 'for every input the law returns true; each argument reads behind the call as it read before'; 0 by the template 'total and deterministic' (their statements: YtgmbhfggdcipoaaTotals.lean).
  GIVEN WITH THE SEED: the statements are not yours to turn. If you find one false, say at which input.
  Laid BY PROGRAM, IN A SANDBOX (cutbox-rows.mjs): the forced cells as the released guide's own fill.sh prints them over the translation 9db0d64f2df7f5d1… (all of the seat's roots in one cut). By AI agents, Wed Nov 11 2026. No macro, syntax, notation, axiom, sorry.
-/
import Derived.Test.YtgmbhfggdcipoaaChecked
import GoSem.Claim
import GoSem.ClaimJoined
import GoSem.ClaimMapViews
import Derived.JoinedTies
import Derived.KernelRfl
namespace Go.Proofs.Ytgmbhfggdcipoaa
/- THE CELL 'sum', in the pinned program and in every row, IS THE sha256 OF THE DUMP (.gsa) THAT YtgmbhfggdcipoaaProg.lean LOADS. Nothing in Lean hashes anything: it is a label: what it is worth is what the hold of that sum in a sandbox is worth. -/
noncomputable def Try.pinned : Pinned := { name := "ytgmbhfggdcipoaa", sum := "9db0d64f2df7f5d112efa9099dc8cbb24a0483af58aa12597447f34191c1599d", checked := Try.checked }
namespace Rows
def none {H : Type} : Left H := { results := [], args := [] }

/-- 'laws.FnExactMatchingFamilies': WHATEVER THE INPUT: true; the input reads as it did. -/
def fnExactMatchingFamiliesSpec : ChangeSpec := { name := "fnExactMatchingFamilies", fn := fun _ => fun
  | [d1, d2, d3] => { results := [.lit (.bool true)], args := [d1, d2, d3] }
  | _ => none }
def fnExactMatchingFamiliesRow : OpenClaim := { program := "ytgmbhfggdcipoaa", sum := "9db0d64f2df7f5d112efa9099dc8cbb24a0483af58aa12597447f34191c1599d", func := "loop.example/g01083/laws.FnExactMatchingFamilies", spec := "fnExactMatchingFamilies", unfollowed := true, recurses := true, leaving := true, apart := false }
def FnExactMatchingFamiliesSaid : Prop := fnExactMatchingFamiliesRow.holds Try.pinned (OpenSpec.ofChange fnExactMatchingFamiliesSpec)

/-- ITS FALSE NEIGHBOUR: 'it returns false'. Refute it at one input. -/
def fnExactMatchingFamiliesWrong : ChangeSpec := { name := "fnExactMatchingFamilies", fn := fun _ => fun
  | [d1, d2, d3] => { results := [.lit (.bool false)], args := [d1, d2, d3] }
  | _ => none }
def FnExactMatchingFamiliesWrongFalsely : Prop := fnExactMatchingFamiliesRow.holds Try.pinned (OpenSpec.ofChange fnExactMatchingFamiliesWrong)

/-- 'laws.FnExactPowerLists': WHATEVER THE INPUT: true; the input reads as it did. -/
def fnExactPowerListsSpec : ChangeSpec := { name := "fnExactPowerLists", fn := fun _ => fun
  | [d1, d2, d3] => { results := [.lit (.bool true)], args := [d1, d2, d3] }
  | _ => none }
def fnExactPowerListsRow : OpenClaim := { program := "ytgmbhfggdcipoaa", sum := "9db0d64f2df7f5d112efa9099dc8cbb24a0483af58aa12597447f34191c1599d", func := "loop.example/g01083/laws.FnExactPowerLists", spec := "fnExactPowerLists", unfollowed := true, recurses := true, leaving := true, apart := false }
def FnExactPowerListsSaid : Prop := fnExactPowerListsRow.holds Try.pinned (OpenSpec.ofChange fnExactPowerListsSpec)

/-- ITS FALSE NEIGHBOUR: 'it returns false'. Refute it at one input. -/
def fnExactPowerListsWrong : ChangeSpec := { name := "fnExactPowerLists", fn := fun _ => fun
  | [d1, d2, d3] => { results := [.lit (.bool false)], args := [d1, d2, d3] }
  | _ => none }
def FnExactPowerListsWrongFalsely : Prop := fnExactPowerListsRow.holds Try.pinned (OpenSpec.ofChange fnExactPowerListsWrong)

/-- 'laws.FnExactEvaluatePower': WHATEVER THE INPUT: true; the input reads as it did. -/
def fnExactEvaluatePowerSpec : ChangeSpec := { name := "fnExactEvaluatePower", fn := fun _ => fun
  | [d1, d2, d3, d4, d5] => { results := [.lit (.bool true)], args := [d1, d2, d3, d4, d5] }
  | _ => none }
def fnExactEvaluatePowerRow : OpenClaim := { program := "ytgmbhfggdcipoaa", sum := "9db0d64f2df7f5d112efa9099dc8cbb24a0483af58aa12597447f34191c1599d", func := "loop.example/g01083/laws.FnExactEvaluatePower", spec := "fnExactEvaluatePower", unfollowed := true, recurses := true, leaving := true, apart := false }
def FnExactEvaluatePowerSaid : Prop := fnExactEvaluatePowerRow.holds Try.pinned (OpenSpec.ofChange fnExactEvaluatePowerSpec)

/-- ITS FALSE NEIGHBOUR: 'it returns false'. Refute it at one input. -/
def fnExactEvaluatePowerWrong : ChangeSpec := { name := "fnExactEvaluatePower", fn := fun _ => fun
  | [d1, d2, d3, d4, d5] => { results := [.lit (.bool false)], args := [d1, d2, d3, d4, d5] }
  | _ => none }
def FnExactEvaluatePowerWrongFalsely : Prop := fnExactEvaluatePowerRow.holds Try.pinned (OpenSpec.ofChange fnExactEvaluatePowerWrong)

/-- 'laws.FnExactRightLists': WHATEVER THE INPUT: true; the input reads as it did. -/
def fnExactRightListsSpec : ChangeSpec := { name := "fnExactRightLists", fn := fun _ => fun
  | [d1, d2, d3] => { results := [.lit (.bool true)], args := [d1, d2, d3] }
  | _ => none }
def fnExactRightListsRow : OpenClaim := { program := "ytgmbhfggdcipoaa", sum := "9db0d64f2df7f5d112efa9099dc8cbb24a0483af58aa12597447f34191c1599d", func := "loop.example/g01083/laws.FnExactRightLists", spec := "fnExactRightLists", unfollowed := true, recurses := true, leaving := true, apart := false }
def FnExactRightListsSaid : Prop := fnExactRightListsRow.holds Try.pinned (OpenSpec.ofChange fnExactRightListsSpec)

/-- ITS FALSE NEIGHBOUR: 'it returns false'. Refute it at one input. -/
def fnExactRightListsWrong : ChangeSpec := { name := "fnExactRightLists", fn := fun _ => fun
  | [d1, d2, d3] => { results := [.lit (.bool false)], args := [d1, d2, d3] }
  | _ => none }
def FnExactRightListsWrongFalsely : Prop := fnExactRightListsRow.holds Try.pinned (OpenSpec.ofChange fnExactRightListsWrong)

/-- 'laws.FnExactPowerSets': WHATEVER THE INPUT: true; the input reads as it did. -/
def fnExactPowerSetsSpec : ChangeSpec := { name := "fnExactPowerSets", fn := fun _ => fun
  | [d1, d2] => { results := [.lit (.bool true)], args := [d1, d2] }
  | _ => none }
def fnExactPowerSetsRow : OpenClaim := { program := "ytgmbhfggdcipoaa", sum := "9db0d64f2df7f5d112efa9099dc8cbb24a0483af58aa12597447f34191c1599d", func := "loop.example/g01083/laws.FnExactPowerSets", spec := "fnExactPowerSets", unfollowed := true, recurses := true, leaving := true, apart := false }
def FnExactPowerSetsSaid : Prop := fnExactPowerSetsRow.holds Try.pinned (OpenSpec.ofChange fnExactPowerSetsSpec)

/-- ITS FALSE NEIGHBOUR: 'it returns false'. Refute it at one input. -/
def fnExactPowerSetsWrong : ChangeSpec := { name := "fnExactPowerSets", fn := fun _ => fun
  | [d1, d2] => { results := [.lit (.bool false)], args := [d1, d2] }
  | _ => none }
def FnExactPowerSetsWrongFalsely : Prop := fnExactPowerSetsRow.holds Try.pinned (OpenSpec.ofChange fnExactPowerSetsWrong)

/-- 'laws.FnExactRightExtension': WHATEVER THE INPUT: true; the input reads as it did. -/
def fnExactRightExtensionSpec : ChangeSpec := { name := "fnExactRightExtension", fn := fun _ => fun
  | [d1, d2] => { results := [.lit (.bool true)], args := [d1, d2] }
  | _ => none }
def fnExactRightExtensionRow : OpenClaim := { program := "ytgmbhfggdcipoaa", sum := "9db0d64f2df7f5d112efa9099dc8cbb24a0483af58aa12597447f34191c1599d", func := "loop.example/g01083/laws.FnExactRightExtension", spec := "fnExactRightExtension", unfollowed := true, recurses := true, leaving := true, apart := false }
def FnExactRightExtensionSaid : Prop := fnExactRightExtensionRow.holds Try.pinned (OpenSpec.ofChange fnExactRightExtensionSpec)

/-- ITS FALSE NEIGHBOUR: 'it returns false'. Refute it at one input. -/
def fnExactRightExtensionWrong : ChangeSpec := { name := "fnExactRightExtension", fn := fun _ => fun
  | [d1, d2] => { results := [.lit (.bool false)], args := [d1, d2] }
  | _ => none }
def FnExactRightExtensionWrongFalsely : Prop := fnExactRightExtensionRow.holds Try.pinned (OpenSpec.ofChange fnExactRightExtensionWrong)

/- THE SECOND FORM. 'bulk': how many values and letters a reading holds, each counted each time it is reached (what is shared counts as often as it is met; a slice's spare places count too). A statement '..UptoSaid' is the law's where the arguments, and the package variables that the reading takes, are together of bulk at most 1048576: NARROWER than '..Said'. Prove '..Said' where nothing that the law and all that it calls make is longer than what came in: it says more and counts as full. Else prove '..UptoSaid'. A law counts once. -/
mutual
def uptoBulk {H : Type} : DataW H → Nat
  | .lit (.string bytes) => bytes.length + 1
  | .lit _ => 1
  | .nil => 1
  | .ptr d => uptoBulk d + 1
  | .slice elems spare => uptoBulkAll elems + uptoBulkAll spare + 1
  | .agg parts => uptoBulkAll parts + 1
  | .iface _ d => uptoBulk d + 1
  | .map entries => uptoBulkEntries entries + 1
  | .held _ => 1
def uptoBulkAll {H : Type} : List (DataW H) → Nat
  | [] => 0
  | d :: r => uptoBulk d + uptoBulkAll r
def uptoBulkEntries {H : Type} : List (Lit × DataW H) → Nat
  | [] => 0
  | x :: r => uptoBulkEntry x + uptoBulkEntries r
def uptoBulkEntry {H : Type} : Lit × DataW H → Nat
  | (.string bytes, d) => bytes.length + uptoBulk d + 1
  | (_, d) => uptoBulk d + 1
 end
def uptoSmall : (H : Type) → List (DataW H) → Bool := fun _ ds => decide (uptoBulkAll ds ≤ 1048576)
def OpenSpec.upto (s : _root_.Go.ChangeSpec) : _root_.Go.OpenSpec := { _root_.Go.OpenSpec.ofChange s with cond := some uptoSmall }

/-- 'laws.FnExactMatchingFamilies', WHERE WHAT IT READS IS OF BULK AT MOST 1048576: true; the input reads as it did. -/
def fnExactMatchingFamiliesUptoRow : OpenClaim := { program := "ytgmbhfggdcipoaa", sum := "9db0d64f2df7f5d112efa9099dc8cbb24a0483af58aa12597447f34191c1599d", func := "loop.example/g01083/laws.FnExactMatchingFamilies", spec := "fnExactMatchingFamilies", unfollowed := true, recurses := true, leaving := true, apart := false, narrowed := true }
def FnExactMatchingFamiliesUptoSaid : Prop := fnExactMatchingFamiliesUptoRow.holds Try.pinned (OpenSpec.upto fnExactMatchingFamiliesSpec)

/-- 'laws.FnExactPowerLists', WHERE WHAT IT READS IS OF BULK AT MOST 1048576: true; the input reads as it did. -/
def fnExactPowerListsUptoRow : OpenClaim := { program := "ytgmbhfggdcipoaa", sum := "9db0d64f2df7f5d112efa9099dc8cbb24a0483af58aa12597447f34191c1599d", func := "loop.example/g01083/laws.FnExactPowerLists", spec := "fnExactPowerLists", unfollowed := true, recurses := true, leaving := true, apart := false, narrowed := true }
def FnExactPowerListsUptoSaid : Prop := fnExactPowerListsUptoRow.holds Try.pinned (OpenSpec.upto fnExactPowerListsSpec)

/-- 'laws.FnExactEvaluatePower', WHERE WHAT IT READS IS OF BULK AT MOST 1048576: true; the input reads as it did. -/
def fnExactEvaluatePowerUptoRow : OpenClaim := { program := "ytgmbhfggdcipoaa", sum := "9db0d64f2df7f5d112efa9099dc8cbb24a0483af58aa12597447f34191c1599d", func := "loop.example/g01083/laws.FnExactEvaluatePower", spec := "fnExactEvaluatePower", unfollowed := true, recurses := true, leaving := true, apart := false, narrowed := true }
def FnExactEvaluatePowerUptoSaid : Prop := fnExactEvaluatePowerUptoRow.holds Try.pinned (OpenSpec.upto fnExactEvaluatePowerSpec)

/-- 'laws.FnExactRightLists', WHERE WHAT IT READS IS OF BULK AT MOST 1048576: true; the input reads as it did. -/
def fnExactRightListsUptoRow : OpenClaim := { program := "ytgmbhfggdcipoaa", sum := "9db0d64f2df7f5d112efa9099dc8cbb24a0483af58aa12597447f34191c1599d", func := "loop.example/g01083/laws.FnExactRightLists", spec := "fnExactRightLists", unfollowed := true, recurses := true, leaving := true, apart := false, narrowed := true }
def FnExactRightListsUptoSaid : Prop := fnExactRightListsUptoRow.holds Try.pinned (OpenSpec.upto fnExactRightListsSpec)

/-- 'laws.FnExactPowerSets', WHERE WHAT IT READS IS OF BULK AT MOST 1048576: true; the input reads as it did. -/
def fnExactPowerSetsUptoRow : OpenClaim := { program := "ytgmbhfggdcipoaa", sum := "9db0d64f2df7f5d112efa9099dc8cbb24a0483af58aa12597447f34191c1599d", func := "loop.example/g01083/laws.FnExactPowerSets", spec := "fnExactPowerSets", unfollowed := true, recurses := true, leaving := true, apart := false, narrowed := true }
def FnExactPowerSetsUptoSaid : Prop := fnExactPowerSetsUptoRow.holds Try.pinned (OpenSpec.upto fnExactPowerSetsSpec)

/-- 'laws.FnExactRightExtension', WHERE WHAT IT READS IS OF BULK AT MOST 1048576: true; the input reads as it did. -/
def fnExactRightExtensionUptoRow : OpenClaim := { program := "ytgmbhfggdcipoaa", sum := "9db0d64f2df7f5d112efa9099dc8cbb24a0483af58aa12597447f34191c1599d", func := "loop.example/g01083/laws.FnExactRightExtension", spec := "fnExactRightExtension", unfollowed := true, recurses := true, leaving := true, apart := false, narrowed := true }
def FnExactRightExtensionUptoSaid : Prop := fnExactRightExtensionUptoRow.holds Try.pinned (OpenSpec.upto fnExactRightExtensionSpec)

end Rows
end Go.Proofs.Ytgmbhfggdcipoaa
