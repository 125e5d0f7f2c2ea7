/-
  No cell of these rows narrows 'for every input' (looked for: loops, veiled, ifaces, maps, wideKeys, modest, calm, conditions, laid).
  DERIVED. THE GIVEN ROWS OF THIS SEAT. 3 by the template 'for every input the law returns true; each argument reads behind the call as it read before'; 0 by the template 'total and deterministic' (their statements: YtmpopmololpaoaaTotals.lean).
  GIVEN WITH THE SEED: the statements are not yours to turn. If you find one false, say at which input.
  Laid BY PROGRAM, IN A SANDBOX (cutbox-rows.mjs): the forced cells as the released guide's own fill.sh prints them over the translation 96384f23b3955510… (all of the seat's roots in one cut). By AI agents, Wed Nov 11 2026. No macro, syntax, notation, axiom, sorry.
-/
import Derived.Test.YtmpopmololpaoaaChecked
import GoSem.Claim
import GoSem.ClaimJoined
import GoSem.ClaimMapViews
import Derived.JoinedTies
import Derived.KernelRfl
namespace Go.Proofs.Ytmpopmololpaoaa
/- THE CELL 'sum', in the pinned program and in every row, IS THE sha256 OF THE DUMP (.gsa) THAT YtmpopmololpaoaaProg.lean LOADS. Nothing in Lean hashes anything: it is a label: what it is worth is what the hold of that sum in a sandbox is worth. -/
noncomputable def Try.pinned : Pinned := { name := "ytmpopmololpaoaa", sum := "96384f23b395551071f7853302e539f2014de0c465eea11adba7b0d0f51d4ff6", checked := Try.checked }
namespace Rows
def none {H : Type} : Left H := { results := [], args := [] }

/-- 'laws.FnExactFindIsomorphism': WHATEVER THE INPUT: true; the input reads as it did. -/
def fnExactFindIsomorphismSpec : ChangeSpec := { name := "fnExactFindIsomorphism", fn := fun _ => fun
  | [d1, d2] => { results := [.lit (.bool true)], args := [d1, d2] }
  | _ => none }
def fnExactFindIsomorphismRow : OpenClaim := { program := "ytmpopmololpaoaa", sum := "96384f23b395551071f7853302e539f2014de0c465eea11adba7b0d0f51d4ff6", func := "loop.example/g01083/laws.FnExactFindIsomorphism", spec := "fnExactFindIsomorphism", unfollowed := true, recurses := true, apart := false }
def FnExactFindIsomorphismSaid : Prop := fnExactFindIsomorphismRow.holds Try.pinned (OpenSpec.ofChange fnExactFindIsomorphismSpec)

/-- ITS FALSE NEIGHBOUR: 'it returns false'. Refute it at one input. -/
def fnExactFindIsomorphismWrong : ChangeSpec := { name := "fnExactFindIsomorphism", fn := fun _ => fun
  | [d1, d2] => { results := [.lit (.bool false)], args := [d1, d2] }
  | _ => none }
def FnExactFindIsomorphismWrongFalsely : Prop := fnExactFindIsomorphismRow.holds Try.pinned (OpenSpec.ofChange fnExactFindIsomorphismWrong)

/-- 'laws.FnExactAllIsomorphisms': WHATEVER THE INPUT: true; the input reads as it did. -/
def fnExactAllIsomorphismsSpec : ChangeSpec := { name := "fnExactAllIsomorphisms", fn := fun _ => fun
  | [d1, d2] => { results := [.lit (.bool true)], args := [d1, d2] }
  | _ => none }
def fnExactAllIsomorphismsRow : OpenClaim := { program := "ytmpopmololpaoaa", sum := "96384f23b395551071f7853302e539f2014de0c465eea11adba7b0d0f51d4ff6", func := "loop.example/g01083/laws.FnExactAllIsomorphisms", spec := "fnExactAllIsomorphisms", unfollowed := true, recurses := true, apart := false }
def FnExactAllIsomorphismsSaid : Prop := fnExactAllIsomorphismsRow.holds Try.pinned (OpenSpec.ofChange fnExactAllIsomorphismsSpec)

/-- ITS FALSE NEIGHBOUR: 'it returns false'. Refute it at one input. -/
def fnExactAllIsomorphismsWrong : ChangeSpec := { name := "fnExactAllIsomorphisms", fn := fun _ => fun
  | [d1, d2] => { results := [.lit (.bool false)], args := [d1, d2] }
  | _ => none }
def FnExactAllIsomorphismsWrongFalsely : Prop := fnExactAllIsomorphismsRow.holds Try.pinned (OpenSpec.ofChange fnExactAllIsomorphismsWrong)

/-- 'laws.FnExactObjectOrbits': WHATEVER THE INPUT: true; the input reads as it did. -/
def fnExactObjectOrbitsSpec : ChangeSpec := { name := "fnExactObjectOrbits", fn := fun _ => fun
  | [d] => { results := [.lit (.bool true)], args := [d] }
  | _ => none }
def fnExactObjectOrbitsRow : OpenClaim := { program := "ytmpopmololpaoaa", sum := "96384f23b395551071f7853302e539f2014de0c465eea11adba7b0d0f51d4ff6", func := "loop.example/g01083/laws.FnExactObjectOrbits", spec := "fnExactObjectOrbits", unfollowed := true, recurses := true, apart := false }
def FnExactObjectOrbitsSaid : Prop := fnExactObjectOrbitsRow.holds Try.pinned (OpenSpec.ofChange fnExactObjectOrbitsSpec)

/-- ITS FALSE NEIGHBOUR: 'it returns false'. Refute it at one input. -/
def fnExactObjectOrbitsWrong : ChangeSpec := { name := "fnExactObjectOrbits", fn := fun _ => fun
  | [d] => { results := [.lit (.bool false)], args := [d] }
  | _ => none }
def FnExactObjectOrbitsWrongFalsely : Prop := fnExactObjectOrbitsRow.holds Try.pinned (OpenSpec.ofChange fnExactObjectOrbitsWrong)

/- THE SECOND FORM. 'bulk': how many values and letters a reading holds, each counted each time it is reached (what is shared counts as often as it is met; a slice's spare places count too). A statement '..UptoSaid' is the law's where the arguments, and the package variables that the reading takes, are together of bulk at most 1048576: NARROWER than '..Said'. Prove '..Said' where nothing that the law and all that it calls make is longer than what came in: it says more and counts as full. Else prove '..UptoSaid'. A law counts once. -/
mutual
def uptoBulk {H : Type} : DataW H → Nat
  | .lit (.string bytes) => bytes.length + 1
  | .lit _ => 1
  | .nil => 1
  | .ptr d => uptoBulk d + 1
  | .slice elems spare => uptoBulkAll elems + uptoBulkAll spare + 1
  | .agg parts => uptoBulkAll parts + 1
  | .iface _ d => uptoBulk d + 1
  | .map entries => uptoBulkEntries entries + 1
  | .held _ => 1
def uptoBulkAll {H : Type} : List (DataW H) → Nat
  | [] => 0
  | d :: r => uptoBulk d + uptoBulkAll r
def uptoBulkEntries {H : Type} : List (Lit × DataW H) → Nat
  | [] => 0
  | x :: r => uptoBulkEntry x + uptoBulkEntries r
def uptoBulkEntry {H : Type} : Lit × DataW H → Nat
  | (.string bytes, d) => bytes.length + uptoBulk d + 1
  | (_, d) => uptoBulk d + 1
 end
def uptoSmall : (H : Type) → List (DataW H) → Bool := fun _ ds => decide (uptoBulkAll ds ≤ 1048576)
def OpenSpec.upto (s : _root_.Go.ChangeSpec) : _root_.Go.OpenSpec := { _root_.Go.OpenSpec.ofChange s with cond := some uptoSmall }

/-- 'laws.FnExactFindIsomorphism', WHERE WHAT IT READS IS OF BULK AT MOST 1048576: true; the input reads as it did. -/
def fnExactFindIsomorphismUptoRow : OpenClaim := { program := "ytmpopmololpaoaa", sum := "96384f23b395551071f7853302e539f2014de0c465eea11adba7b0d0f51d4ff6", func := "loop.example/g01083/laws.FnExactFindIsomorphism", spec := "fnExactFindIsomorphism", unfollowed := true, recurses := true, apart := false, narrowed := true }
def FnExactFindIsomorphismUptoSaid : Prop := fnExactFindIsomorphismUptoRow.holds Try.pinned (OpenSpec.upto fnExactFindIsomorphismSpec)

/-- 'laws.FnExactAllIsomorphisms', WHERE WHAT IT READS IS OF BULK AT MOST 1048576: true; the input reads as it did. -/
def fnExactAllIsomorphismsUptoRow : OpenClaim := { program := "ytmpopmololpaoaa", sum := "96384f23b395551071f7853302e539f2014de0c465eea11adba7b0d0f51d4ff6", func := "loop.example/g01083/laws.FnExactAllIsomorphisms", spec := "fnExactAllIsomorphisms", unfollowed := true, recurses := true, apart := false, narrowed := true }
def FnExactAllIsomorphismsUptoSaid : Prop := fnExactAllIsomorphismsUptoRow.holds Try.pinned (OpenSpec.upto fnExactAllIsomorphismsSpec)

/-- 'laws.FnExactObjectOrbits', WHERE WHAT IT READS IS OF BULK AT MOST 1048576: true; the input reads as it did. -/
def fnExactObjectOrbitsUptoRow : OpenClaim := { program := "ytmpopmololpaoaa", sum := "96384f23b395551071f7853302e539f2014de0c465eea11adba7b0d0f51d4ff6", func := "loop.example/g01083/laws.FnExactObjectOrbits", spec := "fnExactObjectOrbits", unfollowed := true, recurses := true, apart := false, narrowed := true }
def FnExactObjectOrbitsUptoSaid : Prop := fnExactObjectOrbitsUptoRow.holds Try.pinned (OpenSpec.upto fnExactObjectOrbitsSpec)

end Rows
end Go.Proofs.Ytmpopmololpaoaa
