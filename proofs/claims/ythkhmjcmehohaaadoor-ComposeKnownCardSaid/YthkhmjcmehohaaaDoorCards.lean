/-
  DERIVED. GIVEN WITH THE SEED: THE CARDS: each row of YthkhmjcmehohaaaDoorRows.lean that lists a variable, with what it lists TIED to the program's text (the seventh form; the later family's looks); each row that meets fmt, with fmt's text TOLD by the authors' own Lean function (tested against real Go, not proved from fmt's source: count such statements apart). THE CARD IS WHAT COUNTS. Prove the row's statement (the work); the ties are given (YthkhmjcmehohaaaDoorTie.lean); close each card by the builder's one call (the guide's Derived/Test/ToyasCard.lean, 'card_holds'). Laid BY PROGRAM, IN A SANDBOX (cutbox-door.mjs). By AI agents, Wed Nov 11 2026. No macro, syntax, notation, axiom, sorry.
-/
import Derived.Test.YthkhmjcmehohaaaDoorRows
import GoSem.ClaimSeven
namespace Go.Proofs.YthkhmjcmehohaaaDoor
namespace Rows

/-- THE TIED CARD OF 'attestorlaw15.ComposeKnown'. -/
def composeKnownCard : Claim7 := { stood := { row := composeKnownRow, standIns := [], harness := (true, "7a5b12c304b93a9c3337ae3ab0712310aa0593fe43d8ba9b8459bc080f5ca4fb"), looks := false }, kinds := [], alts := [], laidByText := true, laidKinds := [.widerDeep], laidTests := true, laidLooks := .later }
def ComposeKnownCardSaid : Prop := Claim7.holds Tryd.pinned (.plain (OpenSpec.ofChange composeKnownSpec)) composeKnownCard

/-- THE SECOND FORM's CARD OF 'attestorlaw15.ComposeKnown'. -/
def composeKnownUptoCard : Claim7 := { stood := { row := composeKnownUptoRow, standIns := [], harness := (true, "7a5b12c304b93a9c3337ae3ab0712310aa0593fe43d8ba9b8459bc080f5ca4fb"), looks := false }, kinds := [], alts := [], laidByText := true, laidKinds := [.widerDeep], laidTests := true, laidLooks := .later }
def ComposeKnownUptoCardSaid : Prop := Claim7.holds Tryd.pinned (.plain (OpenSpec.upto composeKnownSpec)) composeKnownUptoCard
end Rows
end Go.Proofs.YthkhmjcmehohaaaDoor
