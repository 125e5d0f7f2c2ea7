/-
  No cell of these rows narrows 'for every input' (looked for: loops, veiled, ifaces, maps, wideKeys, modest, calm, conditions, laid).
  DERIVED. THE GIVEN ROWS OF THIS SEAT. 6 by the template 'for every input the law returns true; each argument reads behind the call as it read before'; 0 by the template 'total and deterministic' (their statements: YtbflkfamigcncaaGreatTotals.lean).
  GIVEN WITH THE SEED: the statements are not yours to turn. If you find one false, say at which input.
  Laid BY PROGRAM, IN A SANDBOX (cutbox-rows.mjs): the forced cells as the released guide's own fill.sh prints them over the translation 1c56c43233051b9f… (all of the seat's roots in one cut). By AI agents, Wed Nov 11 2026. No macro, syntax, notation, axiom, sorry.
-/
import Derived.Test.YtbflkfamigcncaaGreatChecked
import GoSem.Claim
import GoSem.ClaimJoined
import GoSem.ClaimMapViews
import Derived.JoinedTies
import Derived.KernelRfl
namespace Go.Proofs.YtbflkfamigcncaaGreat
/- THE CELL 'sum', in the pinned program and in every row, IS THE sha256 OF THE DUMP (.gsa) THAT YtbflkfamigcncaaGreatProg.lean LOADS. Nothing in Lean hashes anything: it is a label: what it is worth is what the hold of that sum in a sandbox is worth. -/
noncomputable def Tryz.pinned : Pinned := { name := "ytbflkfamigcncaagreat", sum := "1c56c43233051b9f3dd99dbe449b8e241ee0cc0f25da0843c7b0c040fa45b96a", checked := Tryz.checked }
namespace Rows
def none {H : Type} : Left H := { results := [], args := [] }

/-- 'laws.FnSlices': WHATEVER THE INPUT: true; the input reads as it did. -/
def fnSlicesSpec : ChangeSpec := { name := "fnSlices", fn := fun _ => fun
  | [d] => { results := [.lit (.bool true)], args := [d] }
  | _ => none }
def fnSlicesRow : OpenClaim := { program := "ytbflkfamigcncaagreat", sum := "1c56c43233051b9f3dd99dbe449b8e241ee0cc0f25da0843c7b0c040fa45b96a", func := "loop.example/g01083/laws.FnSlices", spec := "fnSlices", unfollowed := true, recurses := true, apart := false }
def FnSlicesSaid : Prop := fnSlicesRow.holds Tryz.pinned (OpenSpec.ofChange fnSlicesSpec)

/-- ITS FALSE NEIGHBOUR: 'it returns false'. Refute it at one input. -/
def fnSlicesWrong : ChangeSpec := { name := "fnSlices", fn := fun _ => fun
  | [d] => { results := [.lit (.bool false)], args := [d] }
  | _ => none }
def FnSlicesWrongFalsely : Prop := fnSlicesRow.holds Tryz.pinned (OpenSpec.ofChange fnSlicesWrong)

/-- 'laws.FnDiagonals': WHATEVER THE INPUT: true; the input reads as it did. -/
def fnDiagonalsSpec : ChangeSpec := { name := "fnDiagonals", fn := fun _ => fun
  | [d] => { results := [.lit (.bool true)], args := [d] }
  | _ => none }
def fnDiagonalsRow : OpenClaim := { program := "ytbflkfamigcncaagreat", sum := "1c56c43233051b9f3dd99dbe449b8e241ee0cc0f25da0843c7b0c040fa45b96a", func := "loop.example/g01083/laws.FnDiagonals", spec := "fnDiagonals", unfollowed := true, recurses := true, apart := false }
def FnDiagonalsSaid : Prop := fnDiagonalsRow.holds Tryz.pinned (OpenSpec.ofChange fnDiagonalsSpec)

/-- ITS FALSE NEIGHBOUR: 'it returns false'. Refute it at one input. -/
def fnDiagonalsWrong : ChangeSpec := { name := "fnDiagonals", fn := fun _ => fun
  | [d] => { results := [.lit (.bool false)], args := [d] }
  | _ => none }
def FnDiagonalsWrongFalsely : Prop := fnDiagonalsRow.holds Tryz.pinned (OpenSpec.ofChange fnDiagonalsWrong)

/-- 'laws.FnAutomorphismGroups': WHATEVER THE INPUT: true; the input reads as it did. -/
def fnAutomorphismGroupsSpec : ChangeSpec := { name := "fnAutomorphismGroups", fn := fun _ => fun
  | [d] => { results := [.lit (.bool true)], args := [d] }
  | _ => none }
def fnAutomorphismGroupsRow : OpenClaim := { program := "ytbflkfamigcncaagreat", sum := "1c56c43233051b9f3dd99dbe449b8e241ee0cc0f25da0843c7b0c040fa45b96a", func := "loop.example/g01083/laws.FnAutomorphismGroups", spec := "fnAutomorphismGroups", unfollowed := true, recurses := true, apart := false }
def FnAutomorphismGroupsSaid : Prop := fnAutomorphismGroupsRow.holds Tryz.pinned (OpenSpec.ofChange fnAutomorphismGroupsSpec)

/-- ITS FALSE NEIGHBOUR: 'it returns false'. Refute it at one input. -/
def fnAutomorphismGroupsWrong : ChangeSpec := { name := "fnAutomorphismGroups", fn := fun _ => fun
  | [d] => { results := [.lit (.bool false)], args := [d] }
  | _ => none }
def FnAutomorphismGroupsWrongFalsely : Prop := fnAutomorphismGroupsRow.holds Tryz.pinned (OpenSpec.ofChange fnAutomorphismGroupsWrong)

/-- 'laws.FnFunctorSpaces': WHATEVER THE INPUT: true; the input reads as it did. -/
def fnFunctorSpacesSpec : ChangeSpec := { name := "fnFunctorSpaces", fn := fun _ => fun
  | [d] => { results := [.lit (.bool true)], args := [d] }
  | _ => none }
def fnFunctorSpacesRow : OpenClaim := { program := "ytbflkfamigcncaagreat", sum := "1c56c43233051b9f3dd99dbe449b8e241ee0cc0f25da0843c7b0c040fa45b96a", func := "loop.example/g01083/laws.FnFunctorSpaces", spec := "fnFunctorSpaces", unfollowed := true, recurses := true, apart := false }
def FnFunctorSpacesSaid : Prop := fnFunctorSpacesRow.holds Tryz.pinned (OpenSpec.ofChange fnFunctorSpacesSpec)

/-- ITS FALSE NEIGHBOUR: 'it returns false'. Refute it at one input. -/
def fnFunctorSpacesWrong : ChangeSpec := { name := "fnFunctorSpaces", fn := fun _ => fun
  | [d] => { results := [.lit (.bool false)], args := [d] }
  | _ => none }
def FnFunctorSpacesWrongFalsely : Prop := fnFunctorSpacesRow.holds Tryz.pinned (OpenSpec.ofChange fnFunctorSpacesWrong)

/-- 'laws.FnCommaSquares': WHATEVER THE INPUT: true; the input reads as it did. -/
def fnCommaSquaresSpec : ChangeSpec := { name := "fnCommaSquares", fn := fun _ => fun
  | [d] => { results := [.lit (.bool true)], args := [d] }
  | _ => none }
def fnCommaSquaresRow : OpenClaim := { program := "ytbflkfamigcncaagreat", sum := "1c56c43233051b9f3dd99dbe449b8e241ee0cc0f25da0843c7b0c040fa45b96a", func := "loop.example/g01083/laws.FnCommaSquares", spec := "fnCommaSquares", unfollowed := true, recurses := true, apart := false }
def FnCommaSquaresSaid : Prop := fnCommaSquaresRow.holds Tryz.pinned (OpenSpec.ofChange fnCommaSquaresSpec)

/-- ITS FALSE NEIGHBOUR: 'it returns false'. Refute it at one input. -/
def fnCommaSquaresWrong : ChangeSpec := { name := "fnCommaSquares", fn := fun _ => fun
  | [d] => { results := [.lit (.bool false)], args := [d] }
  | _ => none }
def FnCommaSquaresWrongFalsely : Prop := fnCommaSquaresRow.holds Tryz.pinned (OpenSpec.ofChange fnCommaSquaresWrong)

/-- 'laws.FnYonedaArrows': WHATEVER THE INPUT: true; the input reads as it did. -/
def fnYonedaArrowsSpec : ChangeSpec := { name := "fnYonedaArrows", fn := fun _ => fun
  | [d] => { results := [.lit (.bool true)], args := [d] }
  | _ => none }
def fnYonedaArrowsRow : OpenClaim := { program := "ytbflkfamigcncaagreat", sum := "1c56c43233051b9f3dd99dbe449b8e241ee0cc0f25da0843c7b0c040fa45b96a", func := "loop.example/g01083/laws.FnYonedaArrows", spec := "fnYonedaArrows", inPlace := ["sync/atomic.LoadUint32", "(*internal/sync.Mutex).Lock", "internal/race.Disable", "sync/atomic.CompareAndSwapInt32", "internal/race.Enable", "internal/race.Acquire", "(*internal/sync.Mutex).lockSlow", "internal/sync.runtime_canSpin", "internal/sync.runtime_doSpin", "internal/sync.throw", "internal/sync.runtime_nanotime", "internal/sync.runtime_SemacquireMutex", "sync/atomic.AddInt32", "(*internal/sync.Mutex).Unlock", "internal/race.ReleaseMerge", "(*internal/sync.Mutex).unlockSlow", "internal/sync.fatal", "internal/sync.runtime_Semrelease", "sync/atomic.StoreUint32"], unfollowed := true, recurses := true, apart := false }
def FnYonedaArrowsSaid : Prop := fnYonedaArrowsRow.holds Tryz.pinned (OpenSpec.ofChange fnYonedaArrowsSpec)

/-- ITS FALSE NEIGHBOUR: 'it returns false'. Refute it at one input. -/
def fnYonedaArrowsWrong : ChangeSpec := { name := "fnYonedaArrows", fn := fun _ => fun
  | [d] => { results := [.lit (.bool false)], args := [d] }
  | _ => none }
def FnYonedaArrowsWrongFalsely : Prop := fnYonedaArrowsRow.holds Tryz.pinned (OpenSpec.ofChange fnYonedaArrowsWrong)

/- THE SECOND FORM. 'bulk': how many values and letters a reading holds, each counted each time it is reached (what is shared counts as often as it is met; a slice's spare places count too). A statement '..UptoSaid' is the law's where the arguments, and the package variables that the reading takes, are together of bulk at most 1048576: NARROWER than '..Said'. Prove '..Said' where nothing that the law and all that it calls make is longer than what came in: it says more and counts as full. Else prove '..UptoSaid'. A law counts once. -/
mutual
def uptoBulk {H : Type} : DataW H → Nat
  | .lit (.string bytes) => bytes.length + 1
  | .lit _ => 1
  | .nil => 1
  | .ptr d => uptoBulk d + 1
  | .slice elems spare => uptoBulkAll elems + uptoBulkAll spare + 1
  | .agg parts => uptoBulkAll parts + 1
  | .iface _ d => uptoBulk d + 1
  | .map entries => uptoBulkEntries entries + 1
  | .held _ => 1
def uptoBulkAll {H : Type} : List (DataW H) → Nat
  | [] => 0
  | d :: r => uptoBulk d + uptoBulkAll r
def uptoBulkEntries {H : Type} : List (Lit × DataW H) → Nat
  | [] => 0
  | x :: r => uptoBulkEntry x + uptoBulkEntries r
def uptoBulkEntry {H : Type} : Lit × DataW H → Nat
  | (.string bytes, d) => bytes.length + uptoBulk d + 1
  | (_, d) => uptoBulk d + 1
 end
def uptoSmall : (H : Type) → List (DataW H) → Bool := fun _ ds => decide (uptoBulkAll ds ≤ 1048576)
def OpenSpec.upto (s : _root_.Go.ChangeSpec) : _root_.Go.OpenSpec := { _root_.Go.OpenSpec.ofChange s with cond := some uptoSmall }

/-- 'laws.FnSlices', WHERE WHAT IT READS IS OF BULK AT MOST 1048576: true; the input reads as it did. -/
def fnSlicesUptoRow : OpenClaim := { program := "ytbflkfamigcncaagreat", sum := "1c56c43233051b9f3dd99dbe449b8e241ee0cc0f25da0843c7b0c040fa45b96a", func := "loop.example/g01083/laws.FnSlices", spec := "fnSlices", unfollowed := true, recurses := true, apart := false, narrowed := true }
def FnSlicesUptoSaid : Prop := fnSlicesUptoRow.holds Tryz.pinned (OpenSpec.upto fnSlicesSpec)

/-- 'laws.FnDiagonals', WHERE WHAT IT READS IS OF BULK AT MOST 1048576: true; the input reads as it did. -/
def fnDiagonalsUptoRow : OpenClaim := { program := "ytbflkfamigcncaagreat", sum := "1c56c43233051b9f3dd99dbe449b8e241ee0cc0f25da0843c7b0c040fa45b96a", func := "loop.example/g01083/laws.FnDiagonals", spec := "fnDiagonals", unfollowed := true, recurses := true, apart := false, narrowed := true }
def FnDiagonalsUptoSaid : Prop := fnDiagonalsUptoRow.holds Tryz.pinned (OpenSpec.upto fnDiagonalsSpec)

/-- 'laws.FnAutomorphismGroups', WHERE WHAT IT READS IS OF BULK AT MOST 1048576: true; the input reads as it did. -/
def fnAutomorphismGroupsUptoRow : OpenClaim := { program := "ytbflkfamigcncaagreat", sum := "1c56c43233051b9f3dd99dbe449b8e241ee0cc0f25da0843c7b0c040fa45b96a", func := "loop.example/g01083/laws.FnAutomorphismGroups", spec := "fnAutomorphismGroups", unfollowed := true, recurses := true, apart := false, narrowed := true }
def FnAutomorphismGroupsUptoSaid : Prop := fnAutomorphismGroupsUptoRow.holds Tryz.pinned (OpenSpec.upto fnAutomorphismGroupsSpec)

/-- 'laws.FnFunctorSpaces', WHERE WHAT IT READS IS OF BULK AT MOST 1048576: true; the input reads as it did. -/
def fnFunctorSpacesUptoRow : OpenClaim := { program := "ytbflkfamigcncaagreat", sum := "1c56c43233051b9f3dd99dbe449b8e241ee0cc0f25da0843c7b0c040fa45b96a", func := "loop.example/g01083/laws.FnFunctorSpaces", spec := "fnFunctorSpaces", unfollowed := true, recurses := true, apart := false, narrowed := true }
def FnFunctorSpacesUptoSaid : Prop := fnFunctorSpacesUptoRow.holds Tryz.pinned (OpenSpec.upto fnFunctorSpacesSpec)

/-- 'laws.FnCommaSquares', WHERE WHAT IT READS IS OF BULK AT MOST 1048576: true; the input reads as it did. -/
def fnCommaSquaresUptoRow : OpenClaim := { program := "ytbflkfamigcncaagreat", sum := "1c56c43233051b9f3dd99dbe449b8e241ee0cc0f25da0843c7b0c040fa45b96a", func := "loop.example/g01083/laws.FnCommaSquares", spec := "fnCommaSquares", unfollowed := true, recurses := true, apart := false, narrowed := true }
def FnCommaSquaresUptoSaid : Prop := fnCommaSquaresUptoRow.holds Tryz.pinned (OpenSpec.upto fnCommaSquaresSpec)

/-- 'laws.FnYonedaArrows', WHERE WHAT IT READS IS OF BULK AT MOST 1048576: true; the input reads as it did. -/
def fnYonedaArrowsUptoRow : OpenClaim := { program := "ytbflkfamigcncaagreat", sum := "1c56c43233051b9f3dd99dbe449b8e241ee0cc0f25da0843c7b0c040fa45b96a", func := "loop.example/g01083/laws.FnYonedaArrows", spec := "fnYonedaArrows", inPlace := ["sync/atomic.LoadUint32", "(*internal/sync.Mutex).Lock", "internal/race.Disable", "sync/atomic.CompareAndSwapInt32", "internal/race.Enable", "internal/race.Acquire", "(*internal/sync.Mutex).lockSlow", "internal/sync.runtime_canSpin", "internal/sync.runtime_doSpin", "internal/sync.throw", "internal/sync.runtime_nanotime", "internal/sync.runtime_SemacquireMutex", "sync/atomic.AddInt32", "(*internal/sync.Mutex).Unlock", "internal/race.ReleaseMerge", "(*internal/sync.Mutex).unlockSlow", "internal/sync.fatal", "internal/sync.runtime_Semrelease", "sync/atomic.StoreUint32"], unfollowed := true, recurses := true, apart := false, narrowed := true }
def FnYonedaArrowsUptoSaid : Prop := fnYonedaArrowsUptoRow.holds Tryz.pinned (OpenSpec.upto fnYonedaArrowsSpec)

end Rows
end Go.Proofs.YtbflkfamigcncaaGreat
