/-
  No cell of these rows narrows 'for every input' (looked for: loops, veiled, ifaces, maps, wideKeys, modest, calm, conditions, laid).
  DERIVED. THE GIVEN ROWS OF THIS SEAT. 4 by the template 'for every input the law returns true; each argument reads behind the call as it read before'; 0 by the template 'total and deterministic' (their statements: YtipohdpnhodnmaaGreatTotals.lean).
  GIVEN WITH THE SEED: the statements are not yours to turn. If you find one false, say at which input.
  Laid BY PROGRAM, IN A SANDBOX (cutbox-rows.mjs): the forced cells as the released guide's own fill.sh prints them over the translation b0f777906437e419… (all of the seat's roots in one cut). By AI agents, Wed Nov 11 2026. No macro, syntax, notation, axiom, sorry.
-/
import Derived.Test.YtipohdpnhodnmaaGreatChecked
import GoSem.Claim
import GoSem.ClaimJoined
import GoSem.ClaimMapViews
import Derived.JoinedTies
import Derived.KernelRfl
namespace Go.Proofs.YtipohdpnhodnmaaGreat
/- THE CELL 'sum', in the pinned program and in every row, IS THE sha256 OF THE DUMP (.gsa) THAT YtipohdpnhodnmaaGreatProg.lean LOADS. Nothing in Lean hashes anything: it is a label: what it is worth is what the hold of that sum in a sandbox is worth. -/
noncomputable def Tryz.pinned : Pinned := { name := "ytipohdpnhodnmaagreat", sum := "b0f777906437e419f6e7b07d82d08af287701c4af2fcef8c03008af6e38177bb", checked := Tryz.checked }
namespace Rows
def none {H : Type} : Left H := { results := [], args := [] }

/-- 'laws.FnAllSetMaps': WHATEVER THE INPUT: true; the input reads as it did. -/
def fnAllSetMapsSpec : ChangeSpec := { name := "fnAllSetMaps", fn := fun _ => fun
  | [d] => { results := [.lit (.bool true)], args := [d] }
  | _ => none }
def fnAllSetMapsRow : OpenClaim := { program := "ytipohdpnhodnmaagreat", sum := "b0f777906437e419f6e7b07d82d08af287701c4af2fcef8c03008af6e38177bb", func := "loop.example/g01083/laws.FnAllSetMaps", spec := "fnAllSetMaps", unfollowed := true, recurses := true, apart := false }
def FnAllSetMapsSaid : Prop := fnAllSetMapsRow.holds Tryz.pinned (OpenSpec.ofChange fnAllSetMapsSpec)

/-- ITS FALSE NEIGHBOUR: 'it returns false'. Refute it at one input. -/
def fnAllSetMapsWrong : ChangeSpec := { name := "fnAllSetMaps", fn := fun _ => fun
  | [d] => { results := [.lit (.bool false)], args := [d] }
  | _ => none }
def FnAllSetMapsWrongFalsely : Prop := fnAllSetMapsRow.holds Tryz.pinned (OpenSpec.ofChange fnAllSetMapsWrong)

/-- 'laws.FnUniversalElements': WHATEVER THE INPUT: true; the input reads as it did. -/
def fnUniversalElementsSpec : ChangeSpec := { name := "fnUniversalElements", fn := fun _ => fun
  | [d] => { results := [.lit (.bool true)], args := [d] }
  | _ => none }
def fnUniversalElementsRow : OpenClaim := { program := "ytipohdpnhodnmaagreat", sum := "b0f777906437e419f6e7b07d82d08af287701c4af2fcef8c03008af6e38177bb", func := "loop.example/g01083/laws.FnUniversalElements", spec := "fnUniversalElements", inPlace := ["sync/atomic.LoadUint32", "(*internal/sync.Mutex).Lock", "internal/race.Disable", "sync/atomic.CompareAndSwapInt32", "internal/race.Enable", "internal/race.Acquire", "(*internal/sync.Mutex).lockSlow", "internal/sync.runtime_canSpin", "internal/sync.runtime_doSpin", "internal/sync.throw", "internal/sync.runtime_nanotime", "internal/sync.runtime_SemacquireMutex", "sync/atomic.AddInt32", "(*internal/sync.Mutex).Unlock", "internal/race.ReleaseMerge", "(*internal/sync.Mutex).unlockSlow", "internal/sync.fatal", "internal/sync.runtime_Semrelease", "sync/atomic.StoreUint32"], unfollowed := true, recurses := true, apart := false }
def FnUniversalElementsSaid : Prop := fnUniversalElementsRow.holds Tryz.pinned (OpenSpec.ofChange fnUniversalElementsSpec)

/-- ITS FALSE NEIGHBOUR: 'it returns false'. Refute it at one input. -/
def fnUniversalElementsWrong : ChangeSpec := { name := "fnUniversalElements", fn := fun _ => fun
  | [d] => { results := [.lit (.bool false)], args := [d] }
  | _ => none }
def FnUniversalElementsWrongFalsely : Prop := fnUniversalElementsRow.holds Tryz.pinned (OpenSpec.ofChange fnUniversalElementsWrong)

/-- 'laws.FnLeastForms': WHATEVER THE INPUT: true; the input reads as it did. -/
def fnLeastFormsSpec : ChangeSpec := { name := "fnLeastForms", fn := fun _ => fun
  | [d] => { results := [.lit (.bool true)], args := [d] }
  | _ => none }
def fnLeastFormsRow : OpenClaim := { program := "ytipohdpnhodnmaagreat", sum := "b0f777906437e419f6e7b07d82d08af287701c4af2fcef8c03008af6e38177bb", func := "loop.example/g01083/laws.FnLeastForms", spec := "fnLeastForms", unfollowed := true, recurses := true, apart := false }
def FnLeastFormsSaid : Prop := fnLeastFormsRow.holds Tryz.pinned (OpenSpec.ofChange fnLeastFormsSpec)

/-- ITS FALSE NEIGHBOUR: 'it returns false'. Refute it at one input. -/
def fnLeastFormsWrong : ChangeSpec := { name := "fnLeastForms", fn := fun _ => fun
  | [d] => { results := [.lit (.bool false)], args := [d] }
  | _ => none }
def FnLeastFormsWrongFalsely : Prop := fnLeastFormsRow.holds Tryz.pinned (OpenSpec.ofChange fnLeastFormsWrong)

/-- 'laws.FnAdjointsKeep': WHATEVER THE INPUT: true; the input reads as it did. -/
def fnAdjointsKeepSpec : ChangeSpec := { name := "fnAdjointsKeep", fn := fun _ => fun
  | [d] => { results := [.lit (.bool true)], args := [d] }
  | _ => none }
def fnAdjointsKeepRow : OpenClaim := { program := "ytipohdpnhodnmaagreat", sum := "b0f777906437e419f6e7b07d82d08af287701c4af2fcef8c03008af6e38177bb", func := "loop.example/g01083/laws.FnAdjointsKeep", spec := "fnAdjointsKeep", unfollowed := true, recurses := true, apart := false }
def FnAdjointsKeepSaid : Prop := fnAdjointsKeepRow.holds Tryz.pinned (OpenSpec.ofChange fnAdjointsKeepSpec)

/-- ITS FALSE NEIGHBOUR: 'it returns false'. Refute it at one input. -/
def fnAdjointsKeepWrong : ChangeSpec := { name := "fnAdjointsKeep", fn := fun _ => fun
  | [d] => { results := [.lit (.bool false)], args := [d] }
  | _ => none }
def FnAdjointsKeepWrongFalsely : Prop := fnAdjointsKeepRow.holds Tryz.pinned (OpenSpec.ofChange fnAdjointsKeepWrong)

/- THE SECOND FORM. 'bulk': how many values and letters a reading holds, each counted each time it is reached (what is shared counts as often as it is met; a slice's spare places count too). A statement '..UptoSaid' is the law's where the arguments, and the package variables that the reading takes, are together of bulk at most 1048576: NARROWER than '..Said'. Prove '..Said' where nothing that the law and all that it calls make is longer than what came in: it says more and counts as full. Else prove '..UptoSaid'. A law counts once. -/
mutual
def uptoBulk {H : Type} : DataW H → Nat
  | .lit (.string bytes) => bytes.length + 1
  | .lit _ => 1
  | .nil => 1
  | .ptr d => uptoBulk d + 1
  | .slice elems spare => uptoBulkAll elems + uptoBulkAll spare + 1
  | .agg parts => uptoBulkAll parts + 1
  | .iface _ d => uptoBulk d + 1
  | .map entries => uptoBulkEntries entries + 1
  | .held _ => 1
def uptoBulkAll {H : Type} : List (DataW H) → Nat
  | [] => 0
  | d :: r => uptoBulk d + uptoBulkAll r
def uptoBulkEntries {H : Type} : List (Lit × DataW H) → Nat
  | [] => 0
  | x :: r => uptoBulkEntry x + uptoBulkEntries r
def uptoBulkEntry {H : Type} : Lit × DataW H → Nat
  | (.string bytes, d) => bytes.length + uptoBulk d + 1
  | (_, d) => uptoBulk d + 1
 end
def uptoSmall : (H : Type) → List (DataW H) → Bool := fun _ ds => decide (uptoBulkAll ds ≤ 1048576)
def OpenSpec.upto (s : _root_.Go.ChangeSpec) : _root_.Go.OpenSpec := { _root_.Go.OpenSpec.ofChange s with cond := some uptoSmall }

/-- 'laws.FnAllSetMaps', WHERE WHAT IT READS IS OF BULK AT MOST 1048576: true; the input reads as it did. -/
def fnAllSetMapsUptoRow : OpenClaim := { program := "ytipohdpnhodnmaagreat", sum := "b0f777906437e419f6e7b07d82d08af287701c4af2fcef8c03008af6e38177bb", func := "loop.example/g01083/laws.FnAllSetMaps", spec := "fnAllSetMaps", unfollowed := true, recurses := true, apart := false, narrowed := true }
def FnAllSetMapsUptoSaid : Prop := fnAllSetMapsUptoRow.holds Tryz.pinned (OpenSpec.upto fnAllSetMapsSpec)

/-- 'laws.FnUniversalElements', WHERE WHAT IT READS IS OF BULK AT MOST 1048576: true; the input reads as it did. -/
def fnUniversalElementsUptoRow : OpenClaim := { program := "ytipohdpnhodnmaagreat", sum := "b0f777906437e419f6e7b07d82d08af287701c4af2fcef8c03008af6e38177bb", func := "loop.example/g01083/laws.FnUniversalElements", spec := "fnUniversalElements", inPlace := ["sync/atomic.LoadUint32", "(*internal/sync.Mutex).Lock", "internal/race.Disable", "sync/atomic.CompareAndSwapInt32", "internal/race.Enable", "internal/race.Acquire", "(*internal/sync.Mutex).lockSlow", "internal/sync.runtime_canSpin", "internal/sync.runtime_doSpin", "internal/sync.throw", "internal/sync.runtime_nanotime", "internal/sync.runtime_SemacquireMutex", "sync/atomic.AddInt32", "(*internal/sync.Mutex).Unlock", "internal/race.ReleaseMerge", "(*internal/sync.Mutex).unlockSlow", "internal/sync.fatal", "internal/sync.runtime_Semrelease", "sync/atomic.StoreUint32"], unfollowed := true, recurses := true, apart := false, narrowed := true }
def FnUniversalElementsUptoSaid : Prop := fnUniversalElementsUptoRow.holds Tryz.pinned (OpenSpec.upto fnUniversalElementsSpec)

/-- 'laws.FnLeastForms', WHERE WHAT IT READS IS OF BULK AT MOST 1048576: true; the input reads as it did. -/
def fnLeastFormsUptoRow : OpenClaim := { program := "ytipohdpnhodnmaagreat", sum := "b0f777906437e419f6e7b07d82d08af287701c4af2fcef8c03008af6e38177bb", func := "loop.example/g01083/laws.FnLeastForms", spec := "fnLeastForms", unfollowed := true, recurses := true, apart := false, narrowed := true }
def FnLeastFormsUptoSaid : Prop := fnLeastFormsUptoRow.holds Tryz.pinned (OpenSpec.upto fnLeastFormsSpec)

/-- 'laws.FnAdjointsKeep', WHERE WHAT IT READS IS OF BULK AT MOST 1048576: true; the input reads as it did. -/
def fnAdjointsKeepUptoRow : OpenClaim := { program := "ytipohdpnhodnmaagreat", sum := "b0f777906437e419f6e7b07d82d08af287701c4af2fcef8c03008af6e38177bb", func := "loop.example/g01083/laws.FnAdjointsKeep", spec := "fnAdjointsKeep", unfollowed := true, recurses := true, apart := false, narrowed := true }
def FnAdjointsKeepUptoSaid : Prop := fnAdjointsKeepUptoRow.holds Tryz.pinned (OpenSpec.upto fnAdjointsKeepSpec)

end Rows
end Go.Proofs.YtipohdpnhodnmaaGreat
