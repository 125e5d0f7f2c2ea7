/-
  DERIVED. GIVEN WITH THE SEED: THE CARDS: each row of YtnegknkhccfmfaaDoorRows.lean that lists a variable, with what it lists TIED to the program's text (the seventh form; the later family's looks); each row that meets fmt, with fmt's text TOLD by the authors' own Lean function (tested against real Go, not proved from fmt's source: count such statements apart). THE CARD IS WHAT COUNTS. Prove the row's statement (the work); the ties are given (YtnegknkhccfmfaaDoorTie.lean); close each card by the builder's one call (the guide's Derived/Test/ToyasCard.lean, 'card_holds'). Laid BY PROGRAM, IN A SANDBOX (cutbox-door.mjs). By AI agents, Wed Nov 11 2026. No macro, syntax, notation, axiom, sorry.
-/
import Derived.Test.YtnegknkhccfmfaaDoorRows
import GoSem.ClaimSeven
namespace Go.Proofs.YtnegknkhccfmfaaDoor
namespace Rows

/-- THE TIED CARD OF 'laws.FnExactParseFunctor'. -/
def fnExactParseFunctorCard : Claim7 := { stood := { row := fnExactParseFunctorRow, standIns := [], harness := (true, "736edd3787bf8c039032a20821f285f5df1205bc7e57f0c23342038287a17418"), looks := false }, kinds := [], alts := [], laidByText := true, laidKinds := [.data, .sentinel, .pinned], laidTests := true, laidLooks := .later }
def FnExactParseFunctorCardSaid : Prop := Claim7.holds Tryd.pinned (.plain (OpenSpec.ofChange fnExactParseFunctorSpec)) fnExactParseFunctorCard

/-- THE SECOND FORM's CARD OF 'laws.FnExactParseFunctor'. -/
def fnExactParseFunctorUptoCard : Claim7 := { stood := { row := fnExactParseFunctorUptoRow, standIns := [], harness := (true, "736edd3787bf8c039032a20821f285f5df1205bc7e57f0c23342038287a17418"), looks := false }, kinds := [], alts := [], laidByText := true, laidKinds := [.data, .sentinel, .pinned], laidTests := true, laidLooks := .later }
def FnExactParseFunctorUptoCardSaid : Prop := Claim7.holds Tryd.pinned (.plain (OpenSpec.upto fnExactParseFunctorSpec)) fnExactParseFunctorUptoCard
end Rows
end Go.Proofs.YtnegknkhccfmfaaDoor
