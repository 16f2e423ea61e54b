/-
  DERIVED. GIVEN WITH THE SEED: THE CARDS: each row of YteamclmopokioaaDoorRows.lean that lists a variable, with what it lists TIED to the program's text (the seventh form; the later family's looks); each row that meets fmt, with fmt's text TOLD by the authors' own Lean function (tested against real Go, not proved from fmt's source: count such statements apart). THE CARD IS WHAT COUNTS. Prove the row's statement (the work); the ties are given (YteamclmopokioaaDoorTie.lean); close each card by the builder's one call (the guide's Derived/Test/ToyasCard.lean, 'card_holds'). Laid BY PROGRAM, IN A SANDBOX (cutbox-door.mjs). By AI agents, Wed Nov 11 2026. No macro, syntax, notation, axiom, sorry.
-/
import Derived.Test.YteamclmopokioaaDoorRows
import GoSem.ClaimSeven
namespace Go.Proofs.YteamclmopokioaaDoor
namespace Rows

/-- THE TIED CARD OF 'attestorlaw30.CircuitCanonical'. -/
def circuitCanonicalCard : Claim7 := { stood := { row := circuitCanonicalRow, standIns := [], harness := (true, "5c76cce581e7bcdc4e1e98e364da076c32564aa721fff4b97ce6b78be4e6ab99"), looks := false }, kinds := [], alts := [], laidByText := true, laidKinds := [.widerDeep], laidTests := true, laidLooks := .later }
def CircuitCanonicalCardSaid : Prop := Claim7.holds Tryd.pinned (.plain (OpenSpec.ofChange circuitCanonicalSpec)) circuitCanonicalCard

/-- THE TIED CARD OF 'attestorlaw30.CircuitClimbs'. -/
def circuitClimbsCard : Claim7 := { stood := { row := circuitClimbsRow, standIns := [], harness := (true, "5c76cce581e7bcdc4e1e98e364da076c32564aa721fff4b97ce6b78be4e6ab99"), looks := false }, kinds := [], alts := [], laidByText := true, laidKinds := [.widerDeep], laidTests := true, laidLooks := .later }
def CircuitClimbsCardSaid : Prop := Claim7.holds Tryd.pinned (.plain (OpenSpec.ofChange circuitClimbsSpec)) circuitClimbsCard

/-- THE TIED CARD OF 'attestorlaw30.CircuitKnown'. -/
def circuitKnownCard : Claim7 := { stood := { row := circuitKnownRow, standIns := [], harness := (true, "5c76cce581e7bcdc4e1e98e364da076c32564aa721fff4b97ce6b78be4e6ab99"), looks := false }, kinds := [], alts := [], laidByText := true, laidKinds := [.widerDeep], laidTests := true, laidLooks := .later }
def CircuitKnownCardSaid : Prop := Claim7.holds Tryd.pinned (.plain (OpenSpec.ofChange circuitKnownSpec)) circuitKnownCard

/-- THE TIED CARD OF 'attestorlaw30.CircuitHashes'. -/
def circuitHashesCard : Claim7 := { stood := { row := circuitHashesRow, standIns := [], harness := (true, "5c76cce581e7bcdc4e1e98e364da076c32564aa721fff4b97ce6b78be4e6ab99"), looks := false }, kinds := [], alts := [], laidByText := true, laidKinds := [.widerDeep], laidTests := true, laidLooks := .later }
def CircuitHashesCardSaid : Prop := Claim7.holds Tryd.pinned (.plain (OpenSpec.ofChange circuitHashesSpec)) circuitHashesCard

/-- THE TIED CARD OF 'attestorlaw30.CircuitBits'. -/
def circuitBitsCard : Claim7 := { stood := { row := circuitBitsRow, standIns := [], harness := (true, "5c76cce581e7bcdc4e1e98e364da076c32564aa721fff4b97ce6b78be4e6ab99"), looks := false }, kinds := [], alts := [], laidByText := true, laidKinds := [.widerDeep], laidTests := true, laidLooks := .later }
def CircuitBitsCardSaid : Prop := Claim7.holds Tryd.pinned (.plain (OpenSpec.ofChange circuitBitsSpec)) circuitBitsCard

/-- THE TIED CARD OF 'attestorlaw30.CircuitNil'. -/
def circuitNilCard : Claim7 := { stood := { row := circuitNilRow, standIns := [], harness := (true, "5c76cce581e7bcdc4e1e98e364da076c32564aa721fff4b97ce6b78be4e6ab99"), looks := false }, kinds := [], alts := [], laidByText := true, laidKinds := [.widerDeep], laidTests := true, laidLooks := .later }
def CircuitNilCardSaid : Prop := Claim7.holds Tryd.pinned (.plain (OpenSpec.ofChange circuitNilSpec)) circuitNilCard

/-- THE SECOND FORM's CARD OF 'attestorlaw30.CircuitCanonical'. -/
def circuitCanonicalUptoCard : Claim7 := { stood := { row := circuitCanonicalUptoRow, standIns := [], harness := (true, "5c76cce581e7bcdc4e1e98e364da076c32564aa721fff4b97ce6b78be4e6ab99"), looks := false }, kinds := [], alts := [], laidByText := true, laidKinds := [.widerDeep], laidTests := true, laidLooks := .later }
def CircuitCanonicalUptoCardSaid : Prop := Claim7.holds Tryd.pinned (.plain (OpenSpec.upto circuitCanonicalSpec)) circuitCanonicalUptoCard

/-- THE SECOND FORM's CARD OF 'attestorlaw30.CircuitClimbs'. -/
def circuitClimbsUptoCard : Claim7 := { stood := { row := circuitClimbsUptoRow, standIns := [], harness := (true, "5c76cce581e7bcdc4e1e98e364da076c32564aa721fff4b97ce6b78be4e6ab99"), looks := false }, kinds := [], alts := [], laidByText := true, laidKinds := [.widerDeep], laidTests := true, laidLooks := .later }
def CircuitClimbsUptoCardSaid : Prop := Claim7.holds Tryd.pinned (.plain (OpenSpec.upto circuitClimbsSpec)) circuitClimbsUptoCard

/-- THE SECOND FORM's CARD OF 'attestorlaw30.CircuitKnown'. -/
def circuitKnownUptoCard : Claim7 := { stood := { row := circuitKnownUptoRow, standIns := [], harness := (true, "5c76cce581e7bcdc4e1e98e364da076c32564aa721fff4b97ce6b78be4e6ab99"), looks := false }, kinds := [], alts := [], laidByText := true, laidKinds := [.widerDeep], laidTests := true, laidLooks := .later }
def CircuitKnownUptoCardSaid : Prop := Claim7.holds Tryd.pinned (.plain (OpenSpec.upto circuitKnownSpec)) circuitKnownUptoCard

/-- THE SECOND FORM's CARD OF 'attestorlaw30.CircuitHashes'. -/
def circuitHashesUptoCard : Claim7 := { stood := { row := circuitHashesUptoRow, standIns := [], harness := (true, "5c76cce581e7bcdc4e1e98e364da076c32564aa721fff4b97ce6b78be4e6ab99"), looks := false }, kinds := [], alts := [], laidByText := true, laidKinds := [.widerDeep], laidTests := true, laidLooks := .later }
def CircuitHashesUptoCardSaid : Prop := Claim7.holds Tryd.pinned (.plain (OpenSpec.upto circuitHashesSpec)) circuitHashesUptoCard

/-- THE SECOND FORM's CARD OF 'attestorlaw30.CircuitBits'. -/
def circuitBitsUptoCard : Claim7 := { stood := { row := circuitBitsUptoRow, standIns := [], harness := (true, "5c76cce581e7bcdc4e1e98e364da076c32564aa721fff4b97ce6b78be4e6ab99"), looks := false }, kinds := [], alts := [], laidByText := true, laidKinds := [.widerDeep], laidTests := true, laidLooks := .later }
def CircuitBitsUptoCardSaid : Prop := Claim7.holds Tryd.pinned (.plain (OpenSpec.upto circuitBitsSpec)) circuitBitsUptoCard

/-- THE SECOND FORM's CARD OF 'attestorlaw30.CircuitNil'. -/
def circuitNilUptoCard : Claim7 := { stood := { row := circuitNilUptoRow, standIns := [], harness := (true, "5c76cce581e7bcdc4e1e98e364da076c32564aa721fff4b97ce6b78be4e6ab99"), looks := false }, kinds := [], alts := [], laidByText := true, laidKinds := [.widerDeep], laidTests := true, laidLooks := .later }
def CircuitNilUptoCardSaid : Prop := Claim7.holds Tryd.pinned (.plain (OpenSpec.upto circuitNilSpec)) circuitNilUptoCard
end Rows
end Go.Proofs.YteamclmopokioaaDoor
