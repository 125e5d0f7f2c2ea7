/-
  No cell of these rows narrows 'for every input' (looked for: loops, veiled, ifaces, maps, wideKeys, modest, calm, conditions, laid).
  DERIVED. THE GIVEN ROWS OF THIS SEAT. 8 by the template 'for every input the law returns true; each argument reads behind the call as it read before'; 0 by the template 'total and deterministic' (their statements: YtjcilokfgngpmaaTotals.lean).
  GIVEN WITH THE SEED: the statements are not yours to turn. If you find one false, say at which input.
  Laid BY PROGRAM, IN A SANDBOX (cutbox-rows.mjs): the forced cells as the released guide's own fill.sh prints them over the translation bd7951749204f9d2… (all of the seat's roots in one cut). By AI agents, Wed Nov 11 2026. No macro, syntax, notation, axiom, sorry.
-/
import Derived.Test.YtjcilokfgngpmaaChecked
import GoSem.Claim
import GoSem.ClaimJoined
import GoSem.ClaimMapViews
import Derived.JoinedTies
import Derived.KernelRfl
namespace Go.Proofs.Ytjcilokfgngpmaa
/- THE CELL 'sum', in the pinned program and in every row, IS THE sha256 OF THE DUMP (.gsa) THAT YtjcilokfgngpmaaProg.lean LOADS. Nothing in Lean hashes anything: it is a label: what it is worth is what the hold of that sum in a sandbox is worth. -/
noncomputable def Try.pinned : Pinned := { name := "ytjcilokfgngpmaa", sum := "bd7951749204f9d2bef8f78e6d25da45563a03949eb15d6ac38ca6902fa7f448", checked := Try.checked }
namespace Rows
def none {H : Type} : Left H := { results := [], args := [] }

/-- 'laws.FnExactFindSetIso': WHATEVER THE INPUT: true; the input reads as it did. -/
def fnExactFindSetIsoSpec : ChangeSpec := { name := "fnExactFindSetIso", fn := fun _ => fun
  | [d1, d2] => { results := [.lit (.bool true)], args := [d1, d2] }
  | _ => none }
def fnExactFindSetIsoRow : OpenClaim := { program := "ytjcilokfgngpmaa", sum := "bd7951749204f9d2bef8f78e6d25da45563a03949eb15d6ac38ca6902fa7f448", func := "loop.example/g01083/laws.FnExactFindSetIso", spec := "fnExactFindSetIso", unfollowed := true, recurses := true, apart := false }
def FnExactFindSetIsoSaid : Prop := fnExactFindSetIsoRow.holds Try.pinned (OpenSpec.ofChange fnExactFindSetIsoSpec)

/-- ITS FALSE NEIGHBOUR: 'it returns false'. Refute it at one input. -/
def fnExactFindSetIsoWrong : ChangeSpec := { name := "fnExactFindSetIso", fn := fun _ => fun
  | [d1, d2] => { results := [.lit (.bool false)], args := [d1, d2] }
  | _ => none }
def FnExactFindSetIsoWrongFalsely : Prop := fnExactFindSetIsoRow.holds Try.pinned (OpenSpec.ofChange fnExactFindSetIsoWrong)

/-- 'laws.FnExactAllSetMaps': WHATEVER THE INPUT: true; the input reads as it did. -/
def fnExactAllSetMapsSpec : ChangeSpec := { name := "fnExactAllSetMaps", fn := fun _ => fun
  | [d1, d2] => { results := [.lit (.bool true)], args := [d1, d2] }
  | _ => none }
def fnExactAllSetMapsRow : OpenClaim := { program := "ytjcilokfgngpmaa", sum := "bd7951749204f9d2bef8f78e6d25da45563a03949eb15d6ac38ca6902fa7f448", func := "loop.example/g01083/laws.FnExactAllSetMaps", spec := "fnExactAllSetMaps", unfollowed := true, recurses := true, apart := false }
def FnExactAllSetMapsSaid : Prop := fnExactAllSetMapsRow.holds Try.pinned (OpenSpec.ofChange fnExactAllSetMapsSpec)

/-- ITS FALSE NEIGHBOUR: 'it returns false'. Refute it at one input. -/
def fnExactAllSetMapsWrong : ChangeSpec := { name := "fnExactAllSetMaps", fn := fun _ => fun
  | [d1, d2] => { results := [.lit (.bool false)], args := [d1, d2] }
  | _ => none }
def FnExactAllSetMapsWrongFalsely : Prop := fnExactAllSetMapsRow.holds Try.pinned (OpenSpec.ofChange fnExactAllSetMapsWrong)

/-- 'laws.FnExactMatchingFamilies': WHATEVER THE INPUT: true; the input reads as it did. -/
def fnExactMatchingFamiliesSpec : ChangeSpec := { name := "fnExactMatchingFamilies", fn := fun _ => fun
  | [d1, d2, d3] => { results := [.lit (.bool true)], args := [d1, d2, d3] }
  | _ => none }
def fnExactMatchingFamiliesRow : OpenClaim := { program := "ytjcilokfgngpmaa", sum := "bd7951749204f9d2bef8f78e6d25da45563a03949eb15d6ac38ca6902fa7f448", func := "loop.example/g01083/laws.FnExactMatchingFamilies", spec := "fnExactMatchingFamilies", unfollowed := true, recurses := true, apart := false }
def FnExactMatchingFamiliesSaid : Prop := fnExactMatchingFamiliesRow.holds Try.pinned (OpenSpec.ofChange fnExactMatchingFamiliesSpec)

/-- ITS FALSE NEIGHBOUR: 'it returns false'. Refute it at one input. -/
def fnExactMatchingFamiliesWrong : ChangeSpec := { name := "fnExactMatchingFamilies", fn := fun _ => fun
  | [d1, d2, d3] => { results := [.lit (.bool false)], args := [d1, d2, d3] }
  | _ => none }
def FnExactMatchingFamiliesWrongFalsely : Prop := fnExactMatchingFamiliesRow.holds Try.pinned (OpenSpec.ofChange fnExactMatchingFamiliesWrong)

/-- 'laws.FnExactFindIsomorphism': WHATEVER THE INPUT: true; the input reads as it did. -/
def fnExactFindIsomorphismSpec : ChangeSpec := { name := "fnExactFindIsomorphism", fn := fun _ => fun
  | [d1, d2] => { results := [.lit (.bool true)], args := [d1, d2] }
  | _ => none }
def fnExactFindIsomorphismRow : OpenClaim := { program := "ytjcilokfgngpmaa", sum := "bd7951749204f9d2bef8f78e6d25da45563a03949eb15d6ac38ca6902fa7f448", func := "loop.example/g01083/laws.FnExactFindIsomorphism", spec := "fnExactFindIsomorphism", unfollowed := true, recurses := true, apart := false }
def FnExactFindIsomorphismSaid : Prop := fnExactFindIsomorphismRow.holds Try.pinned (OpenSpec.ofChange fnExactFindIsomorphismSpec)

/-- ITS FALSE NEIGHBOUR: 'it returns false'. Refute it at one input. -/
def fnExactFindIsomorphismWrong : ChangeSpec := { name := "fnExactFindIsomorphism", fn := fun _ => fun
  | [d1, d2] => { results := [.lit (.bool false)], args := [d1, d2] }
  | _ => none }
def FnExactFindIsomorphismWrongFalsely : Prop := fnExactFindIsomorphismRow.holds Try.pinned (OpenSpec.ofChange fnExactFindIsomorphismWrong)

/-- 'laws.FnExactObjectOrbits': WHATEVER THE INPUT: true; the input reads as it did. -/
def fnExactObjectOrbitsSpec : ChangeSpec := { name := "fnExactObjectOrbits", fn := fun _ => fun
  | [d] => { results := [.lit (.bool true)], args := [d] }
  | _ => none }
def fnExactObjectOrbitsRow : OpenClaim := { program := "ytjcilokfgngpmaa", sum := "bd7951749204f9d2bef8f78e6d25da45563a03949eb15d6ac38ca6902fa7f448", func := "loop.example/g01083/laws.FnExactObjectOrbits", spec := "fnExactObjectOrbits", unfollowed := true, recurses := true, apart := false }
def FnExactObjectOrbitsSaid : Prop := fnExactObjectOrbitsRow.holds Try.pinned (OpenSpec.ofChange fnExactObjectOrbitsSpec)

/-- ITS FALSE NEIGHBOUR: 'it returns false'. Refute it at one input. -/
def fnExactObjectOrbitsWrong : ChangeSpec := { name := "fnExactObjectOrbits", fn := fun _ => fun
  | [d] => { results := [.lit (.bool false)], args := [d] }
  | _ => none }
def FnExactObjectOrbitsWrongFalsely : Prop := fnExactObjectOrbitsRow.holds Try.pinned (OpenSpec.ofChange fnExactObjectOrbitsWrong)

/-- 'laws.FnExactAllIsomorphisms': WHATEVER THE INPUT: true; the input reads as it did. -/
def fnExactAllIsomorphismsSpec : ChangeSpec := { name := "fnExactAllIsomorphisms", fn := fun _ => fun
  | [d1, d2] => { results := [.lit (.bool true)], args := [d1, d2] }
  | _ => none }
def fnExactAllIsomorphismsRow : OpenClaim := { program := "ytjcilokfgngpmaa", sum := "bd7951749204f9d2bef8f78e6d25da45563a03949eb15d6ac38ca6902fa7f448", func := "loop.example/g01083/laws.FnExactAllIsomorphisms", spec := "fnExactAllIsomorphisms", unfollowed := true, recurses := true, apart := false }
def FnExactAllIsomorphismsSaid : Prop := fnExactAllIsomorphismsRow.holds Try.pinned (OpenSpec.ofChange fnExactAllIsomorphismsSpec)

/-- ITS FALSE NEIGHBOUR: 'it returns false'. Refute it at one input. -/
def fnExactAllIsomorphismsWrong : ChangeSpec := { name := "fnExactAllIsomorphisms", fn := fun _ => fun
  | [d1, d2] => { results := [.lit (.bool false)], args := [d1, d2] }
  | _ => none }
def FnExactAllIsomorphismsWrongFalsely : Prop := fnExactAllIsomorphismsRow.holds Try.pinned (OpenSpec.ofChange fnExactAllIsomorphismsWrong)

/-- 'laws.FnExactCosliceFunctor': WHATEVER THE INPUT: true; the input reads as it did. -/
def fnExactCosliceFunctorSpec : ChangeSpec := { name := "fnExactCosliceFunctor", fn := fun _ => fun
  | [d1, d2] => { results := [.lit (.bool true)], args := [d1, d2] }
  | _ => none }
def fnExactCosliceFunctorRow : OpenClaim := { program := "ytjcilokfgngpmaa", sum := "bd7951749204f9d2bef8f78e6d25da45563a03949eb15d6ac38ca6902fa7f448", func := "loop.example/g01083/laws.FnExactCosliceFunctor", spec := "fnExactCosliceFunctor", unfollowed := true, recurses := true, apart := false }
def FnExactCosliceFunctorSaid : Prop := fnExactCosliceFunctorRow.holds Try.pinned (OpenSpec.ofChange fnExactCosliceFunctorSpec)

/-- ITS FALSE NEIGHBOUR: 'it returns false'. Refute it at one input. -/
def fnExactCosliceFunctorWrong : ChangeSpec := { name := "fnExactCosliceFunctor", fn := fun _ => fun
  | [d1, d2] => { results := [.lit (.bool false)], args := [d1, d2] }
  | _ => none }
def FnExactCosliceFunctorWrongFalsely : Prop := fnExactCosliceFunctorRow.holds Try.pinned (OpenSpec.ofChange fnExactCosliceFunctorWrong)

/-- 'laws.FnExactSliceFunctor': WHATEVER THE INPUT: true; the input reads as it did. -/
def fnExactSliceFunctorSpec : ChangeSpec := { name := "fnExactSliceFunctor", fn := fun _ => fun
  | [d1, d2] => { results := [.lit (.bool true)], args := [d1, d2] }
  | _ => none }
def fnExactSliceFunctorRow : OpenClaim := { program := "ytjcilokfgngpmaa", sum := "bd7951749204f9d2bef8f78e6d25da45563a03949eb15d6ac38ca6902fa7f448", func := "loop.example/g01083/laws.FnExactSliceFunctor", spec := "fnExactSliceFunctor", unfollowed := true, recurses := true, apart := false }
def FnExactSliceFunctorSaid : Prop := fnExactSliceFunctorRow.holds Try.pinned (OpenSpec.ofChange fnExactSliceFunctorSpec)

/-- ITS FALSE NEIGHBOUR: 'it returns false'. Refute it at one input. -/
def fnExactSliceFunctorWrong : ChangeSpec := { name := "fnExactSliceFunctor", fn := fun _ => fun
  | [d1, d2] => { results := [.lit (.bool false)], args := [d1, d2] }
  | _ => none }
def FnExactSliceFunctorWrongFalsely : Prop := fnExactSliceFunctorRow.holds Try.pinned (OpenSpec.ofChange fnExactSliceFunctorWrong)

/- THE SECOND FORM. 'bulk': how many values and letters a reading holds, each counted each time it is reached (what is shared counts as often as it is met; a slice's spare places count too). A statement '..UptoSaid' is the law's where the arguments, and the package variables that the reading takes, are together of bulk at most 1048576: NARROWER than '..Said'. Prove '..Said' where nothing that the law and all that it calls make is longer than what came in: it says more and counts as full. Else prove '..UptoSaid'. A law counts once. -/
mutual
def uptoBulk {H : Type} : DataW H → Nat
  | .lit (.string bytes) => bytes.length + 1
  | .lit _ => 1
  | .nil => 1
  | .ptr d => uptoBulk d + 1
  | .slice elems spare => uptoBulkAll elems + uptoBulkAll spare + 1
  | .agg parts => uptoBulkAll parts + 1
  | .iface _ d => uptoBulk d + 1
  | .map entries => uptoBulkEntries entries + 1
  | .held _ => 1
def uptoBulkAll {H : Type} : List (DataW H) → Nat
  | [] => 0
  | d :: r => uptoBulk d + uptoBulkAll r
def uptoBulkEntries {H : Type} : List (Lit × DataW H) → Nat
  | [] => 0
  | x :: r => uptoBulkEntry x + uptoBulkEntries r
def uptoBulkEntry {H : Type} : Lit × DataW H → Nat
  | (.string bytes, d) => bytes.length + uptoBulk d + 1
  | (_, d) => uptoBulk d + 1
 end
def uptoSmall : (H : Type) → List (DataW H) → Bool := fun _ ds => decide (uptoBulkAll ds ≤ 1048576)
def OpenSpec.upto (s : _root_.Go.ChangeSpec) : _root_.Go.OpenSpec := { _root_.Go.OpenSpec.ofChange s with cond := some uptoSmall }

/-- 'laws.FnExactFindSetIso', WHERE WHAT IT READS IS OF BULK AT MOST 1048576: true; the input reads as it did. -/
def fnExactFindSetIsoUptoRow : OpenClaim := { program := "ytjcilokfgngpmaa", sum := "bd7951749204f9d2bef8f78e6d25da45563a03949eb15d6ac38ca6902fa7f448", func := "loop.example/g01083/laws.FnExactFindSetIso", spec := "fnExactFindSetIso", unfollowed := true, recurses := true, apart := false, narrowed := true }
def FnExactFindSetIsoUptoSaid : Prop := fnExactFindSetIsoUptoRow.holds Try.pinned (OpenSpec.upto fnExactFindSetIsoSpec)

/-- 'laws.FnExactAllSetMaps', WHERE WHAT IT READS IS OF BULK AT MOST 1048576: true; the input reads as it did. -/
def fnExactAllSetMapsUptoRow : OpenClaim := { program := "ytjcilokfgngpmaa", sum := "bd7951749204f9d2bef8f78e6d25da45563a03949eb15d6ac38ca6902fa7f448", func := "loop.example/g01083/laws.FnExactAllSetMaps", spec := "fnExactAllSetMaps", unfollowed := true, recurses := true, apart := false, narrowed := true }
def FnExactAllSetMapsUptoSaid : Prop := fnExactAllSetMapsUptoRow.holds Try.pinned (OpenSpec.upto fnExactAllSetMapsSpec)

/-- 'laws.FnExactMatchingFamilies', WHERE WHAT IT READS IS OF BULK AT MOST 1048576: true; the input reads as it did. -/
def fnExactMatchingFamiliesUptoRow : OpenClaim := { program := "ytjcilokfgngpmaa", sum := "bd7951749204f9d2bef8f78e6d25da45563a03949eb15d6ac38ca6902fa7f448", func := "loop.example/g01083/laws.FnExactMatchingFamilies", spec := "fnExactMatchingFamilies", unfollowed := true, recurses := true, apart := false, narrowed := true }
def FnExactMatchingFamiliesUptoSaid : Prop := fnExactMatchingFamiliesUptoRow.holds Try.pinned (OpenSpec.upto fnExactMatchingFamiliesSpec)

/-- 'laws.FnExactFindIsomorphism', WHERE WHAT IT READS IS OF BULK AT MOST 1048576: true; the input reads as it did. -/
def fnExactFindIsomorphismUptoRow : OpenClaim := { program := "ytjcilokfgngpmaa", sum := "bd7951749204f9d2bef8f78e6d25da45563a03949eb15d6ac38ca6902fa7f448", func := "loop.example/g01083/laws.FnExactFindIsomorphism", spec := "fnExactFindIsomorphism", unfollowed := true, recurses := true, apart := false, narrowed := true }
def FnExactFindIsomorphismUptoSaid : Prop := fnExactFindIsomorphismUptoRow.holds Try.pinned (OpenSpec.upto fnExactFindIsomorphismSpec)

/-- 'laws.FnExactObjectOrbits', WHERE WHAT IT READS IS OF BULK AT MOST 1048576: true; the input reads as it did. -/
def fnExactObjectOrbitsUptoRow : OpenClaim := { program := "ytjcilokfgngpmaa", sum := "bd7951749204f9d2bef8f78e6d25da45563a03949eb15d6ac38ca6902fa7f448", func := "loop.example/g01083/laws.FnExactObjectOrbits", spec := "fnExactObjectOrbits", unfollowed := true, recurses := true, apart := false, narrowed := true }
def FnExactObjectOrbitsUptoSaid : Prop := fnExactObjectOrbitsUptoRow.holds Try.pinned (OpenSpec.upto fnExactObjectOrbitsSpec)

/-- 'laws.FnExactAllIsomorphisms', WHERE WHAT IT READS IS OF BULK AT MOST 1048576: true; the input reads as it did. -/
def fnExactAllIsomorphismsUptoRow : OpenClaim := { program := "ytjcilokfgngpmaa", sum := "bd7951749204f9d2bef8f78e6d25da45563a03949eb15d6ac38ca6902fa7f448", func := "loop.example/g01083/laws.FnExactAllIsomorphisms", spec := "fnExactAllIsomorphisms", unfollowed := true, recurses := true, apart := false, narrowed := true }
def FnExactAllIsomorphismsUptoSaid : Prop := fnExactAllIsomorphismsUptoRow.holds Try.pinned (OpenSpec.upto fnExactAllIsomorphismsSpec)

/-- 'laws.FnExactCosliceFunctor', WHERE WHAT IT READS IS OF BULK AT MOST 1048576: true; the input reads as it did. -/
def fnExactCosliceFunctorUptoRow : OpenClaim := { program := "ytjcilokfgngpmaa", sum := "bd7951749204f9d2bef8f78e6d25da45563a03949eb15d6ac38ca6902fa7f448", func := "loop.example/g01083/laws.FnExactCosliceFunctor", spec := "fnExactCosliceFunctor", unfollowed := true, recurses := true, apart := false, narrowed := true }
def FnExactCosliceFunctorUptoSaid : Prop := fnExactCosliceFunctorUptoRow.holds Try.pinned (OpenSpec.upto fnExactCosliceFunctorSpec)

/-- 'laws.FnExactSliceFunctor', WHERE WHAT IT READS IS OF BULK AT MOST 1048576: true; the input reads as it did. -/
def fnExactSliceFunctorUptoRow : OpenClaim := { program := "ytjcilokfgngpmaa", sum := "bd7951749204f9d2bef8f78e6d25da45563a03949eb15d6ac38ca6902fa7f448", func := "loop.example/g01083/laws.FnExactSliceFunctor", spec := "fnExactSliceFunctor", unfollowed := true, recurses := true, apart := false, narrowed := true }
def FnExactSliceFunctorUptoSaid : Prop := fnExactSliceFunctorUptoRow.holds Try.pinned (OpenSpec.upto fnExactSliceFunctorSpec)

end Rows
end Go.Proofs.Ytjcilokfgngpmaa
