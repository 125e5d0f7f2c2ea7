/-
  No cell of these rows narrows 'for every input' (looked for: loops, veiled, ifaces, maps, wideKeys, modest, calm, conditions, laid).
  DERIVED. THE GIVEN ROWS OF THIS SEAT. 3 by the template 'for every input the law returns true; each argument reads behind the call as it read before'; 0 by the template 'total and deterministic' (their statements: YtjdjkmgjgghodaaGreatTotals.lean).
  GIVEN WITH THE SEED: the statements are not yours to turn. If you find one false, say at which input.
  Laid BY PROGRAM, IN A SANDBOX (cutbox-rows.mjs): the forced cells as the released guide's own fill.sh prints them over the translation bf5c9da214ffd335… (all of the seat's roots in one cut). By AI agents, Wed Nov 11 2026. No macro, syntax, notation, axiom, sorry.
-/
import Derived.Test.YtjdjkmgjgghodaaGreatChecked
import GoSem.Claim
import GoSem.ClaimJoined
import GoSem.ClaimMapViews
import Derived.JoinedTies
import Derived.KernelRfl
namespace Go.Proofs.YtjdjkmgjgghodaaGreat
/- THE CELL 'sum', in the pinned program and in every row, IS THE sha256 OF THE DUMP (.gsa) THAT YtjdjkmgjgghodaaGreatProg.lean LOADS. Nothing in Lean hashes anything: it is a label: what it is worth is what the hold of that sum in a sandbox is worth. -/
noncomputable def Tryz.pinned : Pinned := { name := "ytjdjkmgjgghodaagreat", sum := "bf5c9da214ffd335ad225659d939042ff017f8ade4bd3351d9fdeff5f6137d54", checked := Tryz.checked }
namespace Rows
def none {H : Type} : Left H := { results := [], args := [] }

/-- 'laws.FnExactRightCounit': WHATEVER THE INPUT: true; the input reads as it did. -/
def fnExactRightCounitSpec : ChangeSpec := { name := "fnExactRightCounit", fn := fun _ => fun
  | [d1, d2] => { results := [.lit (.bool true)], args := [d1, d2] }
  | _ => none }
def fnExactRightCounitRow : OpenClaim := { program := "ytjdjkmgjgghodaagreat", sum := "bf5c9da214ffd335ad225659d939042ff017f8ade4bd3351d9fdeff5f6137d54", func := "loop.example/g01083/laws.FnExactRightCounit", spec := "fnExactRightCounit", unfollowed := true, recurses := true, apart := false }
def FnExactRightCounitSaid : Prop := fnExactRightCounitRow.holds Tryz.pinned (OpenSpec.ofChange fnExactRightCounitSpec)

/-- ITS FALSE NEIGHBOUR: 'it returns false'. Refute it at one input. -/
def fnExactRightCounitWrong : ChangeSpec := { name := "fnExactRightCounit", fn := fun _ => fun
  | [d1, d2] => { results := [.lit (.bool false)], args := [d1, d2] }
  | _ => none }
def FnExactRightCounitWrongFalsely : Prop := fnExactRightCounitRow.holds Tryz.pinned (OpenSpec.ofChange fnExactRightCounitWrong)

/-- 'laws.FnExactRightOfMap': WHATEVER THE INPUT: true; the input reads as it did. -/
def fnExactRightOfMapSpec : ChangeSpec := { name := "fnExactRightOfMap", fn := fun _ => fun
  | [d1, d2] => { results := [.lit (.bool true)], args := [d1, d2] }
  | _ => none }
def fnExactRightOfMapRow : OpenClaim := { program := "ytjdjkmgjgghodaagreat", sum := "bf5c9da214ffd335ad225659d939042ff017f8ade4bd3351d9fdeff5f6137d54", func := "loop.example/g01083/laws.FnExactRightOfMap", spec := "fnExactRightOfMap", unfollowed := true, recurses := true, apart := false }
def FnExactRightOfMapSaid : Prop := fnExactRightOfMapRow.holds Tryz.pinned (OpenSpec.ofChange fnExactRightOfMapSpec)

/-- ITS FALSE NEIGHBOUR: 'it returns false'. Refute it at one input. -/
def fnExactRightOfMapWrong : ChangeSpec := { name := "fnExactRightOfMap", fn := fun _ => fun
  | [d1, d2] => { results := [.lit (.bool false)], args := [d1, d2] }
  | _ => none }
def FnExactRightOfMapWrongFalsely : Prop := fnExactRightOfMapRow.holds Tryz.pinned (OpenSpec.ofChange fnExactRightOfMapWrong)

/-- 'laws.FnExactRightExtended': WHATEVER THE INPUT: true; the input reads as it did. -/
def fnExactRightExtendedSpec : ChangeSpec := { name := "fnExactRightExtended", fn := fun _ => fun
  | [d1, d2, d3] => { results := [.lit (.bool true)], args := [d1, d2, d3] }
  | _ => none }
def fnExactRightExtendedRow : OpenClaim := { program := "ytjdjkmgjgghodaagreat", sum := "bf5c9da214ffd335ad225659d939042ff017f8ade4bd3351d9fdeff5f6137d54", func := "loop.example/g01083/laws.FnExactRightExtended", spec := "fnExactRightExtended", unfollowed := true, recurses := true, apart := false }
def FnExactRightExtendedSaid : Prop := fnExactRightExtendedRow.holds Tryz.pinned (OpenSpec.ofChange fnExactRightExtendedSpec)

/-- ITS FALSE NEIGHBOUR: 'it returns false'. Refute it at one input. -/
def fnExactRightExtendedWrong : ChangeSpec := { name := "fnExactRightExtended", fn := fun _ => fun
  | [d1, d2, d3] => { results := [.lit (.bool false)], args := [d1, d2, d3] }
  | _ => none }
def FnExactRightExtendedWrongFalsely : Prop := fnExactRightExtendedRow.holds Tryz.pinned (OpenSpec.ofChange fnExactRightExtendedWrong)

/- THE SECOND FORM. 'bulk': how many values and letters a reading holds, each counted each time it is reached (what is shared counts as often as it is met; a slice's spare places count too). A statement '..UptoSaid' is the law's where the arguments, and the package variables that the reading takes, are together of bulk at most 1048576: NARROWER than '..Said'. Prove '..Said' where nothing that the law and all that it calls make is longer than what came in: it says more and counts as full. Else prove '..UptoSaid'. A law counts once. -/
mutual
def uptoBulk {H : Type} : DataW H → Nat
  | .lit (.string bytes) => bytes.length + 1
  | .lit _ => 1
  | .nil => 1
  | .ptr d => uptoBulk d + 1
  | .slice elems spare => uptoBulkAll elems + uptoBulkAll spare + 1
  | .agg parts => uptoBulkAll parts + 1
  | .iface _ d => uptoBulk d + 1
  | .map entries => uptoBulkEntries entries + 1
  | .held _ => 1
def uptoBulkAll {H : Type} : List (DataW H) → Nat
  | [] => 0
  | d :: r => uptoBulk d + uptoBulkAll r
def uptoBulkEntries {H : Type} : List (Lit × DataW H) → Nat
  | [] => 0
  | x :: r => uptoBulkEntry x + uptoBulkEntries r
def uptoBulkEntry {H : Type} : Lit × DataW H → Nat
  | (.string bytes, d) => bytes.length + uptoBulk d + 1
  | (_, d) => uptoBulk d + 1
 end
def uptoSmall : (H : Type) → List (DataW H) → Bool := fun _ ds => decide (uptoBulkAll ds ≤ 1048576)
def OpenSpec.upto (s : _root_.Go.ChangeSpec) : _root_.Go.OpenSpec := { _root_.Go.OpenSpec.ofChange s with cond := some uptoSmall }

/-- 'laws.FnExactRightCounit', WHERE WHAT IT READS IS OF BULK AT MOST 1048576: true; the input reads as it did. -/
def fnExactRightCounitUptoRow : OpenClaim := { program := "ytjdjkmgjgghodaagreat", sum := "bf5c9da214ffd335ad225659d939042ff017f8ade4bd3351d9fdeff5f6137d54", func := "loop.example/g01083/laws.FnExactRightCounit", spec := "fnExactRightCounit", unfollowed := true, recurses := true, apart := false, narrowed := true }
def FnExactRightCounitUptoSaid : Prop := fnExactRightCounitUptoRow.holds Tryz.pinned (OpenSpec.upto fnExactRightCounitSpec)

/-- 'laws.FnExactRightOfMap', WHERE WHAT IT READS IS OF BULK AT MOST 1048576: true; the input reads as it did. -/
def fnExactRightOfMapUptoRow : OpenClaim := { program := "ytjdjkmgjgghodaagreat", sum := "bf5c9da214ffd335ad225659d939042ff017f8ade4bd3351d9fdeff5f6137d54", func := "loop.example/g01083/laws.FnExactRightOfMap", spec := "fnExactRightOfMap", unfollowed := true, recurses := true, apart := false, narrowed := true }
def FnExactRightOfMapUptoSaid : Prop := fnExactRightOfMapUptoRow.holds Tryz.pinned (OpenSpec.upto fnExactRightOfMapSpec)

/-- 'laws.FnExactRightExtended', WHERE WHAT IT READS IS OF BULK AT MOST 1048576: true; the input reads as it did. -/
def fnExactRightExtendedUptoRow : OpenClaim := { program := "ytjdjkmgjgghodaagreat", sum := "bf5c9da214ffd335ad225659d939042ff017f8ade4bd3351d9fdeff5f6137d54", func := "loop.example/g01083/laws.FnExactRightExtended", spec := "fnExactRightExtended", unfollowed := true, recurses := true, apart := false, narrowed := true }
def FnExactRightExtendedUptoSaid : Prop := fnExactRightExtendedUptoRow.holds Tryz.pinned (OpenSpec.upto fnExactRightExtendedSpec)

end Rows
end Go.Proofs.YtjdjkmgjgghodaaGreat
