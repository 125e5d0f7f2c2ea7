/-
  No cell of these rows narrows 'for every input' (looked for: loops, veiled, ifaces, maps, wideKeys, modest, calm, conditions, laid).
  DERIVED. THE GIVEN ROWS OF THIS SEAT. 9 by the template 'for every input the law returns true; each argument reads behind the call as it read before'; 0 by the template 'total and deterministic' (their statements: YtlofngpklcccmaaTotals.lean).
  GIVEN WITH THE SEED: the statements are not yours to turn. If you find one false, say at which input.
  Laid BY PROGRAM, IN A SANDBOX (cutbox-rows.mjs): the forced cells as the released guide's own fill.sh prints them over the translation bedeb898d93484ea… (all of the seat's roots in one cut). By AI agents, Wed Nov 11 2026. No macro, syntax, notation, axiom, sorry.
-/
import Derived.Test.YtlofngpklcccmaaChecked
import GoSem.Claim
import GoSem.ClaimJoined
import GoSem.ClaimMapViews
import Derived.JoinedTies
import Derived.KernelRfl
namespace Go.Proofs.Ytlofngpklcccmaa
/- THE CELL 'sum', in the pinned program and in every row, IS THE sha256 OF THE DUMP (.gsa) THAT YtlofngpklcccmaaProg.lean LOADS. Nothing in Lean hashes anything: it is a label: what it is worth is what the hold of that sum in a sandbox is worth. -/
noncomputable def Try.pinned : Pinned := { name := "ytlofngpklcccmaa", sum := "bedeb898d93484eac02285b03b706b83d2ea04ead12e71e7f8c48db1bca2e159", checked := Try.checked }
namespace Rows
def none {H : Type} : Left H := { results := [], args := [] }

/-- 'laws.FnExactCommaCategory': WHATEVER THE INPUT: true; the input reads as it did. -/
def fnExactCommaCategorySpec : ChangeSpec := { name := "fnExactCommaCategory", fn := fun _ => fun
  | [d1, d2] => { results := [.lit (.bool true)], args := [d1, d2] }
  | _ => none }
def fnExactCommaCategoryRow : OpenClaim := { program := "ytlofngpklcccmaa", sum := "bedeb898d93484eac02285b03b706b83d2ea04ead12e71e7f8c48db1bca2e159", func := "loop.example/g01083/laws.FnExactCommaCategory", spec := "fnExactCommaCategory", unfollowed := true, recurses := true, apart := false }
def FnExactCommaCategorySaid : Prop := fnExactCommaCategoryRow.holds Try.pinned (OpenSpec.ofChange fnExactCommaCategorySpec)

/-- ITS FALSE NEIGHBOUR: 'it returns false'. Refute it at one input. -/
def fnExactCommaCategoryWrong : ChangeSpec := { name := "fnExactCommaCategory", fn := fun _ => fun
  | [d1, d2] => { results := [.lit (.bool false)], args := [d1, d2] }
  | _ => none }
def FnExactCommaCategoryWrongFalsely : Prop := fnExactCommaCategoryRow.holds Try.pinned (OpenSpec.ofChange fnExactCommaCategoryWrong)

/-- 'laws.FnExactFindSetIso': WHATEVER THE INPUT: true; the input reads as it did. -/
def fnExactFindSetIsoSpec : ChangeSpec := { name := "fnExactFindSetIso", fn := fun _ => fun
  | [d1, d2] => { results := [.lit (.bool true)], args := [d1, d2] }
  | _ => none }
def fnExactFindSetIsoRow : OpenClaim := { program := "ytlofngpklcccmaa", sum := "bedeb898d93484eac02285b03b706b83d2ea04ead12e71e7f8c48db1bca2e159", func := "loop.example/g01083/laws.FnExactFindSetIso", spec := "fnExactFindSetIso", unfollowed := true, recurses := true, apart := false }
def FnExactFindSetIsoSaid : Prop := fnExactFindSetIsoRow.holds Try.pinned (OpenSpec.ofChange fnExactFindSetIsoSpec)

/-- ITS FALSE NEIGHBOUR: 'it returns false'. Refute it at one input. -/
def fnExactFindSetIsoWrong : ChangeSpec := { name := "fnExactFindSetIso", fn := fun _ => fun
  | [d1, d2] => { results := [.lit (.bool false)], args := [d1, d2] }
  | _ => none }
def FnExactFindSetIsoWrongFalsely : Prop := fnExactFindSetIsoRow.holds Try.pinned (OpenSpec.ofChange fnExactFindSetIsoWrong)

/-- 'laws.FnExactAllSetMaps': WHATEVER THE INPUT: true; the input reads as it did. -/
def fnExactAllSetMapsSpec : ChangeSpec := { name := "fnExactAllSetMaps", fn := fun _ => fun
  | [d1, d2] => { results := [.lit (.bool true)], args := [d1, d2] }
  | _ => none }
def fnExactAllSetMapsRow : OpenClaim := { program := "ytlofngpklcccmaa", sum := "bedeb898d93484eac02285b03b706b83d2ea04ead12e71e7f8c48db1bca2e159", func := "loop.example/g01083/laws.FnExactAllSetMaps", spec := "fnExactAllSetMaps", unfollowed := true, recurses := true, apart := false }
def FnExactAllSetMapsSaid : Prop := fnExactAllSetMapsRow.holds Try.pinned (OpenSpec.ofChange fnExactAllSetMapsSpec)

/-- ITS FALSE NEIGHBOUR: 'it returns false'. Refute it at one input. -/
def fnExactAllSetMapsWrong : ChangeSpec := { name := "fnExactAllSetMaps", fn := fun _ => fun
  | [d1, d2] => { results := [.lit (.bool false)], args := [d1, d2] }
  | _ => none }
def FnExactAllSetMapsWrongFalsely : Prop := fnExactAllSetMapsRow.holds Try.pinned (OpenSpec.ofChange fnExactAllSetMapsWrong)

/-- 'laws.FnExactCommaLeft': WHATEVER THE INPUT: true; the input reads as it did. -/
def fnExactCommaLeftSpec : ChangeSpec := { name := "fnExactCommaLeft", fn := fun _ => fun
  | [d1, d2] => { results := [.lit (.bool true)], args := [d1, d2] }
  | _ => none }
def fnExactCommaLeftRow : OpenClaim := { program := "ytlofngpklcccmaa", sum := "bedeb898d93484eac02285b03b706b83d2ea04ead12e71e7f8c48db1bca2e159", func := "loop.example/g01083/laws.FnExactCommaLeft", spec := "fnExactCommaLeft", unfollowed := true, recurses := true, apart := false }
def FnExactCommaLeftSaid : Prop := fnExactCommaLeftRow.holds Try.pinned (OpenSpec.ofChange fnExactCommaLeftSpec)

/-- ITS FALSE NEIGHBOUR: 'it returns false'. Refute it at one input. -/
def fnExactCommaLeftWrong : ChangeSpec := { name := "fnExactCommaLeft", fn := fun _ => fun
  | [d1, d2] => { results := [.lit (.bool false)], args := [d1, d2] }
  | _ => none }
def FnExactCommaLeftWrongFalsely : Prop := fnExactCommaLeftRow.holds Try.pinned (OpenSpec.ofChange fnExactCommaLeftWrong)

/-- 'laws.FnExactCommaRight': WHATEVER THE INPUT: true; the input reads as it did. -/
def fnExactCommaRightSpec : ChangeSpec := { name := "fnExactCommaRight", fn := fun _ => fun
  | [d1, d2] => { results := [.lit (.bool true)], args := [d1, d2] }
  | _ => none }
def fnExactCommaRightRow : OpenClaim := { program := "ytlofngpklcccmaa", sum := "bedeb898d93484eac02285b03b706b83d2ea04ead12e71e7f8c48db1bca2e159", func := "loop.example/g01083/laws.FnExactCommaRight", spec := "fnExactCommaRight", unfollowed := true, recurses := true, apart := false }
def FnExactCommaRightSaid : Prop := fnExactCommaRightRow.holds Try.pinned (OpenSpec.ofChange fnExactCommaRightSpec)

/-- ITS FALSE NEIGHBOUR: 'it returns false'. Refute it at one input. -/
def fnExactCommaRightWrong : ChangeSpec := { name := "fnExactCommaRight", fn := fun _ => fun
  | [d1, d2] => { results := [.lit (.bool false)], args := [d1, d2] }
  | _ => none }
def FnExactCommaRightWrongFalsely : Prop := fnExactCommaRightRow.holds Try.pinned (OpenSpec.ofChange fnExactCommaRightWrong)

/-- 'laws.FnExactMatchingFamilies': WHATEVER THE INPUT: true; the input reads as it did. -/
def fnExactMatchingFamiliesSpec : ChangeSpec := { name := "fnExactMatchingFamilies", fn := fun _ => fun
  | [d1, d2, d3] => { results := [.lit (.bool true)], args := [d1, d2, d3] }
  | _ => none }
def fnExactMatchingFamiliesRow : OpenClaim := { program := "ytlofngpklcccmaa", sum := "bedeb898d93484eac02285b03b706b83d2ea04ead12e71e7f8c48db1bca2e159", func := "loop.example/g01083/laws.FnExactMatchingFamilies", spec := "fnExactMatchingFamilies", unfollowed := true, recurses := true, apart := false }
def FnExactMatchingFamiliesSaid : Prop := fnExactMatchingFamiliesRow.holds Try.pinned (OpenSpec.ofChange fnExactMatchingFamiliesSpec)

/-- ITS FALSE NEIGHBOUR: 'it returns false'. Refute it at one input. -/
def fnExactMatchingFamiliesWrong : ChangeSpec := { name := "fnExactMatchingFamilies", fn := fun _ => fun
  | [d1, d2, d3] => { results := [.lit (.bool false)], args := [d1, d2, d3] }
  | _ => none }
def FnExactMatchingFamiliesWrongFalsely : Prop := fnExactMatchingFamiliesRow.holds Try.pinned (OpenSpec.ofChange fnExactMatchingFamiliesWrong)

/-- 'laws.FnExactCosliceCategory': WHATEVER THE INPUT: true; the input reads as it did. -/
def fnExactCosliceCategorySpec : ChangeSpec := { name := "fnExactCosliceCategory", fn := fun _ => fun
  | [d1, d2] => { results := [.lit (.bool true)], args := [d1, d2] }
  | _ => none }
def fnExactCosliceCategoryRow : OpenClaim := { program := "ytlofngpklcccmaa", sum := "bedeb898d93484eac02285b03b706b83d2ea04ead12e71e7f8c48db1bca2e159", func := "loop.example/g01083/laws.FnExactCosliceCategory", spec := "fnExactCosliceCategory", unfollowed := true, recurses := true, apart := false }
def FnExactCosliceCategorySaid : Prop := fnExactCosliceCategoryRow.holds Try.pinned (OpenSpec.ofChange fnExactCosliceCategorySpec)

/-- ITS FALSE NEIGHBOUR: 'it returns false'. Refute it at one input. -/
def fnExactCosliceCategoryWrong : ChangeSpec := { name := "fnExactCosliceCategory", fn := fun _ => fun
  | [d1, d2] => { results := [.lit (.bool false)], args := [d1, d2] }
  | _ => none }
def FnExactCosliceCategoryWrongFalsely : Prop := fnExactCosliceCategoryRow.holds Try.pinned (OpenSpec.ofChange fnExactCosliceCategoryWrong)

/-- 'laws.FnExactSliceCategory': WHATEVER THE INPUT: true; the input reads as it did. -/
def fnExactSliceCategorySpec : ChangeSpec := { name := "fnExactSliceCategory", fn := fun _ => fun
  | [d1, d2] => { results := [.lit (.bool true)], args := [d1, d2] }
  | _ => none }
def fnExactSliceCategoryRow : OpenClaim := { program := "ytlofngpklcccmaa", sum := "bedeb898d93484eac02285b03b706b83d2ea04ead12e71e7f8c48db1bca2e159", func := "loop.example/g01083/laws.FnExactSliceCategory", spec := "fnExactSliceCategory", unfollowed := true, recurses := true, apart := false }
def FnExactSliceCategorySaid : Prop := fnExactSliceCategoryRow.holds Try.pinned (OpenSpec.ofChange fnExactSliceCategorySpec)

/-- ITS FALSE NEIGHBOUR: 'it returns false'. Refute it at one input. -/
def fnExactSliceCategoryWrong : ChangeSpec := { name := "fnExactSliceCategory", fn := fun _ => fun
  | [d1, d2] => { results := [.lit (.bool false)], args := [d1, d2] }
  | _ => none }
def FnExactSliceCategoryWrongFalsely : Prop := fnExactSliceCategoryRow.holds Try.pinned (OpenSpec.ofChange fnExactSliceCategoryWrong)

/-- 'laws.FnExactFindIsomorphism': WHATEVER THE INPUT: true; the input reads as it did. -/
def fnExactFindIsomorphismSpec : ChangeSpec := { name := "fnExactFindIsomorphism", fn := fun _ => fun
  | [d1, d2] => { results := [.lit (.bool true)], args := [d1, d2] }
  | _ => none }
def fnExactFindIsomorphismRow : OpenClaim := { program := "ytlofngpklcccmaa", sum := "bedeb898d93484eac02285b03b706b83d2ea04ead12e71e7f8c48db1bca2e159", func := "loop.example/g01083/laws.FnExactFindIsomorphism", spec := "fnExactFindIsomorphism", unfollowed := true, recurses := true, apart := false }
def FnExactFindIsomorphismSaid : Prop := fnExactFindIsomorphismRow.holds Try.pinned (OpenSpec.ofChange fnExactFindIsomorphismSpec)

/-- ITS FALSE NEIGHBOUR: 'it returns false'. Refute it at one input. -/
def fnExactFindIsomorphismWrong : ChangeSpec := { name := "fnExactFindIsomorphism", fn := fun _ => fun
  | [d1, d2] => { results := [.lit (.bool false)], args := [d1, d2] }
  | _ => none }
def FnExactFindIsomorphismWrongFalsely : Prop := fnExactFindIsomorphismRow.holds Try.pinned (OpenSpec.ofChange fnExactFindIsomorphismWrong)

/- THE SECOND FORM. 'bulk': how many values and letters a reading holds, each counted each time it is reached (what is shared counts as often as it is met; a slice's spare places count too). A statement '..UptoSaid' is the law's where the arguments, and the package variables that the reading takes, are together of bulk at most 1048576: NARROWER than '..Said'. Prove '..Said' where nothing that the law and all that it calls make is longer than what came in: it says more and counts as full. Else prove '..UptoSaid'. A law counts once. -/
mutual
def uptoBulk {H : Type} : DataW H → Nat
  | .lit (.string bytes) => bytes.length + 1
  | .lit _ => 1
  | .nil => 1
  | .ptr d => uptoBulk d + 1
  | .slice elems spare => uptoBulkAll elems + uptoBulkAll spare + 1
  | .agg parts => uptoBulkAll parts + 1
  | .iface _ d => uptoBulk d + 1
  | .map entries => uptoBulkEntries entries + 1
  | .held _ => 1
def uptoBulkAll {H : Type} : List (DataW H) → Nat
  | [] => 0
  | d :: r => uptoBulk d + uptoBulkAll r
def uptoBulkEntries {H : Type} : List (Lit × DataW H) → Nat
  | [] => 0
  | x :: r => uptoBulkEntry x + uptoBulkEntries r
def uptoBulkEntry {H : Type} : Lit × DataW H → Nat
  | (.string bytes, d) => bytes.length + uptoBulk d + 1
  | (_, d) => uptoBulk d + 1
 end
def uptoSmall : (H : Type) → List (DataW H) → Bool := fun _ ds => decide (uptoBulkAll ds ≤ 1048576)
def OpenSpec.upto (s : _root_.Go.ChangeSpec) : _root_.Go.OpenSpec := { _root_.Go.OpenSpec.ofChange s with cond := some uptoSmall }

/-- 'laws.FnExactCommaCategory', WHERE WHAT IT READS IS OF BULK AT MOST 1048576: true; the input reads as it did. -/
def fnExactCommaCategoryUptoRow : OpenClaim := { program := "ytlofngpklcccmaa", sum := "bedeb898d93484eac02285b03b706b83d2ea04ead12e71e7f8c48db1bca2e159", func := "loop.example/g01083/laws.FnExactCommaCategory", spec := "fnExactCommaCategory", unfollowed := true, recurses := true, apart := false, narrowed := true }
def FnExactCommaCategoryUptoSaid : Prop := fnExactCommaCategoryUptoRow.holds Try.pinned (OpenSpec.upto fnExactCommaCategorySpec)

/-- 'laws.FnExactFindSetIso', WHERE WHAT IT READS IS OF BULK AT MOST 1048576: true; the input reads as it did. -/
def fnExactFindSetIsoUptoRow : OpenClaim := { program := "ytlofngpklcccmaa", sum := "bedeb898d93484eac02285b03b706b83d2ea04ead12e71e7f8c48db1bca2e159", func := "loop.example/g01083/laws.FnExactFindSetIso", spec := "fnExactFindSetIso", unfollowed := true, recurses := true, apart := false, narrowed := true }
def FnExactFindSetIsoUptoSaid : Prop := fnExactFindSetIsoUptoRow.holds Try.pinned (OpenSpec.upto fnExactFindSetIsoSpec)

/-- 'laws.FnExactAllSetMaps', WHERE WHAT IT READS IS OF BULK AT MOST 1048576: true; the input reads as it did. -/
def fnExactAllSetMapsUptoRow : OpenClaim := { program := "ytlofngpklcccmaa", sum := "bedeb898d93484eac02285b03b706b83d2ea04ead12e71e7f8c48db1bca2e159", func := "loop.example/g01083/laws.FnExactAllSetMaps", spec := "fnExactAllSetMaps", unfollowed := true, recurses := true, apart := false, narrowed := true }
def FnExactAllSetMapsUptoSaid : Prop := fnExactAllSetMapsUptoRow.holds Try.pinned (OpenSpec.upto fnExactAllSetMapsSpec)

/-- 'laws.FnExactCommaLeft', WHERE WHAT IT READS IS OF BULK AT MOST 1048576: true; the input reads as it did. -/
def fnExactCommaLeftUptoRow : OpenClaim := { program := "ytlofngpklcccmaa", sum := "bedeb898d93484eac02285b03b706b83d2ea04ead12e71e7f8c48db1bca2e159", func := "loop.example/g01083/laws.FnExactCommaLeft", spec := "fnExactCommaLeft", unfollowed := true, recurses := true, apart := false, narrowed := true }
def FnExactCommaLeftUptoSaid : Prop := fnExactCommaLeftUptoRow.holds Try.pinned (OpenSpec.upto fnExactCommaLeftSpec)

/-- 'laws.FnExactCommaRight', WHERE WHAT IT READS IS OF BULK AT MOST 1048576: true; the input reads as it did. -/
def fnExactCommaRightUptoRow : OpenClaim := { program := "ytlofngpklcccmaa", sum := "bedeb898d93484eac02285b03b706b83d2ea04ead12e71e7f8c48db1bca2e159", func := "loop.example/g01083/laws.FnExactCommaRight", spec := "fnExactCommaRight", unfollowed := true, recurses := true, apart := false, narrowed := true }
def FnExactCommaRightUptoSaid : Prop := fnExactCommaRightUptoRow.holds Try.pinned (OpenSpec.upto fnExactCommaRightSpec)

/-- 'laws.FnExactMatchingFamilies', WHERE WHAT IT READS IS OF BULK AT MOST 1048576: true; the input reads as it did. -/
def fnExactMatchingFamiliesUptoRow : OpenClaim := { program := "ytlofngpklcccmaa", sum := "bedeb898d93484eac02285b03b706b83d2ea04ead12e71e7f8c48db1bca2e159", func := "loop.example/g01083/laws.FnExactMatchingFamilies", spec := "fnExactMatchingFamilies", unfollowed := true, recurses := true, apart := false, narrowed := true }
def FnExactMatchingFamiliesUptoSaid : Prop := fnExactMatchingFamiliesUptoRow.holds Try.pinned (OpenSpec.upto fnExactMatchingFamiliesSpec)

/-- 'laws.FnExactCosliceCategory', WHERE WHAT IT READS IS OF BULK AT MOST 1048576: true; the input reads as it did. -/
def fnExactCosliceCategoryUptoRow : OpenClaim := { program := "ytlofngpklcccmaa", sum := "bedeb898d93484eac02285b03b706b83d2ea04ead12e71e7f8c48db1bca2e159", func := "loop.example/g01083/laws.FnExactCosliceCategory", spec := "fnExactCosliceCategory", unfollowed := true, recurses := true, apart := false, narrowed := true }
def FnExactCosliceCategoryUptoSaid : Prop := fnExactCosliceCategoryUptoRow.holds Try.pinned (OpenSpec.upto fnExactCosliceCategorySpec)

/-- 'laws.FnExactSliceCategory', WHERE WHAT IT READS IS OF BULK AT MOST 1048576: true; the input reads as it did. -/
def fnExactSliceCategoryUptoRow : OpenClaim := { program := "ytlofngpklcccmaa", sum := "bedeb898d93484eac02285b03b706b83d2ea04ead12e71e7f8c48db1bca2e159", func := "loop.example/g01083/laws.FnExactSliceCategory", spec := "fnExactSliceCategory", unfollowed := true, recurses := true, apart := false, narrowed := true }
def FnExactSliceCategoryUptoSaid : Prop := fnExactSliceCategoryUptoRow.holds Try.pinned (OpenSpec.upto fnExactSliceCategorySpec)

/-- 'laws.FnExactFindIsomorphism', WHERE WHAT IT READS IS OF BULK AT MOST 1048576: true; the input reads as it did. -/
def fnExactFindIsomorphismUptoRow : OpenClaim := { program := "ytlofngpklcccmaa", sum := "bedeb898d93484eac02285b03b706b83d2ea04ead12e71e7f8c48db1bca2e159", func := "loop.example/g01083/laws.FnExactFindIsomorphism", spec := "fnExactFindIsomorphism", unfollowed := true, recurses := true, apart := false, narrowed := true }
def FnExactFindIsomorphismUptoSaid : Prop := fnExactFindIsomorphismUptoRow.holds Try.pinned (OpenSpec.upto fnExactFindIsomorphismSpec)

end Rows
end Go.Proofs.Ytlofngpklcccmaa
