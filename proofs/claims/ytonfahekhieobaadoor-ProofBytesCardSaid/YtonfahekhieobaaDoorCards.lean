/-
  DERIVED. GIVEN WITH THE SEED: THE CARDS: each row of YtonfahekhieobaaDoorRows.lean that lists a variable, with what it lists TIED to the program's text (the seventh form; the later family's looks); each row that meets fmt, with fmt's text TOLD by the authors' own Lean function (tested against real Go, not proved from fmt's source: count such statements apart). THE CARD IS WHAT COUNTS. Prove the row's statement (the work); the ties are given (YtonfahekhieobaaDoorTie.lean); close each card by the builder's one call (the guide's Derived/Test/ToyasCard.lean, 'card_holds'). Laid BY PROGRAM, IN A SANDBOX (cutbox-door.mjs). By AI agents, Wed Nov 11 2026. No macro, syntax, notation, axiom, sorry.
-/
import Derived.Test.YtonfahekhieobaaDoorRows
import GoSem.ClaimSeven
namespace Go.Proofs.YtonfahekhieobaaDoor
namespace Rows

/-- THE TIED CARD OF 'attestorlaw17.ProofShapes'. -/
def proofShapesCard : Claim7 := { stood := { row := proofShapesRow, standIns := [], harness := (true, "591ca527095e26df220353c8340c1e2c342f4fd1f0bdb2bc889bcdebb1b7c9c2"), looks := false }, kinds := [], alts := [], laidByText := true, laidKinds := [.widerDeep], laidTests := true, laidLooks := .later }
def ProofShapesCardSaid : Prop := Claim7.holds Tryd.pinned (.plain (OpenSpec.ofChange proofShapesSpec)) proofShapesCard

/-- THE TIED CARD OF 'attestorlaw17.ProofDecodes'. -/
def proofDecodesCard : Claim7 := { stood := { row := proofDecodesRow, standIns := [], harness := (true, "591ca527095e26df220353c8340c1e2c342f4fd1f0bdb2bc889bcdebb1b7c9c2"), looks := false }, kinds := [], alts := [], laidByText := true, laidKinds := [.widerDeep], laidTests := true, laidLooks := .later }
def ProofDecodesCardSaid : Prop := Claim7.holds Tryd.pinned (.plain (OpenSpec.ofChange proofDecodesSpec)) proofDecodesCard

/-- THE TIED CARD OF 'attestorlaw17.ProofRound'. -/
def proofRoundCard : Claim7 := { stood := { row := proofRoundRow, standIns := [], harness := (true, "591ca527095e26df220353c8340c1e2c342f4fd1f0bdb2bc889bcdebb1b7c9c2"), looks := false }, kinds := [], alts := [], laidByText := true, laidKinds := [.widerDeep], laidTests := true, laidLooks := .later }
def ProofRoundCardSaid : Prop := Claim7.holds Tryd.pinned (.plain (OpenSpec.ofChange proofRoundSpec)) proofRoundCard

/-- THE TIED CARD OF 'attestorlaw17.ProofBytes'. -/
def proofBytesCard : Claim7 := { stood := { row := proofBytesRow, standIns := [], harness := (true, "591ca527095e26df220353c8340c1e2c342f4fd1f0bdb2bc889bcdebb1b7c9c2"), looks := false }, kinds := [], alts := [], laidByText := true, laidKinds := [.widerDeep], laidTests := true, laidLooks := .later }
def ProofBytesCardSaid : Prop := Claim7.holds Tryd.pinned (.plain (OpenSpec.ofChange proofBytesSpec)) proofBytesCard

/-- THE TIED CARD OF 'attestorlaw17.ProofOrder'. -/
def proofOrderCard : Claim7 := { stood := { row := proofOrderRow, standIns := [], harness := (true, "591ca527095e26df220353c8340c1e2c342f4fd1f0bdb2bc889bcdebb1b7c9c2"), looks := false }, kinds := [], alts := [], laidByText := true, laidKinds := [.widerDeep], laidTests := true, laidLooks := .later }
def ProofOrderCardSaid : Prop := Claim7.holds Tryd.pinned (.plain (OpenSpec.ofChange proofOrderSpec)) proofOrderCard

/-- THE TIED CARD OF 'attestorlaw17.ProofKnown'. -/
def proofKnownCard : Claim7 := { stood := { row := proofKnownRow, standIns := [], harness := (true, "591ca527095e26df220353c8340c1e2c342f4fd1f0bdb2bc889bcdebb1b7c9c2"), looks := false }, kinds := [], alts := [], laidByText := true, laidKinds := [.widerDeep], laidTests := true, laidLooks := .later }
def ProofKnownCardSaid : Prop := Claim7.holds Tryd.pinned (.plain (OpenSpec.ofChange proofKnownSpec)) proofKnownCard

/-- THE TIED CARD OF 'attestorlaw17.ProofEncodes'. -/
def proofEncodesCard : Claim7 := { stood := { row := proofEncodesRow, standIns := [], harness := (true, "591ca527095e26df220353c8340c1e2c342f4fd1f0bdb2bc889bcdebb1b7c9c2"), looks := false }, kinds := [], alts := [], laidByText := true, laidKinds := [.widerDeep], laidTests := true, laidLooks := .later }
def ProofEncodesCardSaid : Prop := Claim7.holds Tryd.pinned (.plain (OpenSpec.ofChange proofEncodesSpec)) proofEncodesCard

/-- THE SECOND FORM's CARD OF 'attestorlaw17.ProofShapes'. -/
def proofShapesUptoCard : Claim7 := { stood := { row := proofShapesUptoRow, standIns := [], harness := (true, "591ca527095e26df220353c8340c1e2c342f4fd1f0bdb2bc889bcdebb1b7c9c2"), looks := false }, kinds := [], alts := [], laidByText := true, laidKinds := [.widerDeep], laidTests := true, laidLooks := .later }
def ProofShapesUptoCardSaid : Prop := Claim7.holds Tryd.pinned (.plain (OpenSpec.upto proofShapesSpec)) proofShapesUptoCard

/-- THE SECOND FORM's CARD OF 'attestorlaw17.ProofDecodes'. -/
def proofDecodesUptoCard : Claim7 := { stood := { row := proofDecodesUptoRow, standIns := [], harness := (true, "591ca527095e26df220353c8340c1e2c342f4fd1f0bdb2bc889bcdebb1b7c9c2"), looks := false }, kinds := [], alts := [], laidByText := true, laidKinds := [.widerDeep], laidTests := true, laidLooks := .later }
def ProofDecodesUptoCardSaid : Prop := Claim7.holds Tryd.pinned (.plain (OpenSpec.upto proofDecodesSpec)) proofDecodesUptoCard

/-- THE SECOND FORM's CARD OF 'attestorlaw17.ProofRound'. -/
def proofRoundUptoCard : Claim7 := { stood := { row := proofRoundUptoRow, standIns := [], harness := (true, "591ca527095e26df220353c8340c1e2c342f4fd1f0bdb2bc889bcdebb1b7c9c2"), looks := false }, kinds := [], alts := [], laidByText := true, laidKinds := [.widerDeep], laidTests := true, laidLooks := .later }
def ProofRoundUptoCardSaid : Prop := Claim7.holds Tryd.pinned (.plain (OpenSpec.upto proofRoundSpec)) proofRoundUptoCard

/-- THE SECOND FORM's CARD OF 'attestorlaw17.ProofBytes'. -/
def proofBytesUptoCard : Claim7 := { stood := { row := proofBytesUptoRow, standIns := [], harness := (true, "591ca527095e26df220353c8340c1e2c342f4fd1f0bdb2bc889bcdebb1b7c9c2"), looks := false }, kinds := [], alts := [], laidByText := true, laidKinds := [.widerDeep], laidTests := true, laidLooks := .later }
def ProofBytesUptoCardSaid : Prop := Claim7.holds Tryd.pinned (.plain (OpenSpec.upto proofBytesSpec)) proofBytesUptoCard

/-- THE SECOND FORM's CARD OF 'attestorlaw17.ProofOrder'. -/
def proofOrderUptoCard : Claim7 := { stood := { row := proofOrderUptoRow, standIns := [], harness := (true, "591ca527095e26df220353c8340c1e2c342f4fd1f0bdb2bc889bcdebb1b7c9c2"), looks := false }, kinds := [], alts := [], laidByText := true, laidKinds := [.widerDeep], laidTests := true, laidLooks := .later }
def ProofOrderUptoCardSaid : Prop := Claim7.holds Tryd.pinned (.plain (OpenSpec.upto proofOrderSpec)) proofOrderUptoCard

/-- THE SECOND FORM's CARD OF 'attestorlaw17.ProofKnown'. -/
def proofKnownUptoCard : Claim7 := { stood := { row := proofKnownUptoRow, standIns := [], harness := (true, "591ca527095e26df220353c8340c1e2c342f4fd1f0bdb2bc889bcdebb1b7c9c2"), looks := false }, kinds := [], alts := [], laidByText := true, laidKinds := [.widerDeep], laidTests := true, laidLooks := .later }
def ProofKnownUptoCardSaid : Prop := Claim7.holds Tryd.pinned (.plain (OpenSpec.upto proofKnownSpec)) proofKnownUptoCard

/-- THE SECOND FORM's CARD OF 'attestorlaw17.ProofEncodes'. -/
def proofEncodesUptoCard : Claim7 := { stood := { row := proofEncodesUptoRow, standIns := [], harness := (true, "591ca527095e26df220353c8340c1e2c342f4fd1f0bdb2bc889bcdebb1b7c9c2"), looks := false }, kinds := [], alts := [], laidByText := true, laidKinds := [.widerDeep], laidTests := true, laidLooks := .later }
def ProofEncodesUptoCardSaid : Prop := Claim7.holds Tryd.pinned (.plain (OpenSpec.upto proofEncodesSpec)) proofEncodesUptoCard
end Rows
end Go.Proofs.YtonfahekhieobaaDoor
