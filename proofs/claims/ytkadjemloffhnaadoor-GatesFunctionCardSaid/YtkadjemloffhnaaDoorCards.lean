/-
  DERIVED. GIVEN WITH THE SEED: THE CARDS: each row of YtkadjemloffhnaaDoorRows.lean that lists a variable, with what it lists TIED to the program's text (the seventh form; the later family's looks); each row that meets fmt, with fmt's text TOLD by the authors' own Lean function (tested against real Go, not proved from fmt's source: count such statements apart). THE CARD IS WHAT COUNTS. Prove the row's statement (the work); the ties are given (YtkadjemloffhnaaDoorTie.lean); close each card by the builder's one call (the guide's Derived/Test/ToyasCard.lean, 'card_holds'). Laid BY PROGRAM, IN A SANDBOX (cutbox-door.mjs). By AI agents, Wed Nov 11 2026. No macro, syntax, notation, axiom, sorry.
-/
import Derived.Test.YtkadjemloffhnaaDoorRows
import GoSem.ClaimSeven
namespace Go.Proofs.YtkadjemloffhnaaDoor
namespace Rows

/-- THE TIED CARD OF 'attestorlaw23.GatesHold'. -/
def gatesHoldCard : Claim7 := { stood := { row := gatesHoldRow, standIns := [], harness := (true, "44df7daf55985aea251c66f49be4a90269b22bd9e8426c195f22f9f5aabd0083"), looks := false }, kinds := [], alts := [], laidByText := true, laidKinds := [.widerDeep], laidTests := true, laidLooks := .later }
def GatesHoldCardSaid : Prop := Claim7.holds Tryd.pinned (.plain (OpenSpec.ofChange gatesHoldSpec)) gatesHoldCard

/-- THE TIED CARD OF 'attestorlaw23.GatesFunction'. -/
def gatesFunctionCard : Claim7 := { stood := { row := gatesFunctionRow, standIns := [], harness := (true, "44df7daf55985aea251c66f49be4a90269b22bd9e8426c195f22f9f5aabd0083"), looks := false }, kinds := [], alts := [], laidByText := true, laidKinds := [.widerDeep], laidTests := true, laidLooks := .later }
def GatesFunctionCardSaid : Prop := Claim7.holds Tryd.pinned (.plain (OpenSpec.ofChange gatesFunctionSpec)) gatesFunctionCard

/-- THE TIED CARD OF 'attestorlaw23.GatesRun'. -/
def gatesRunCard : Claim7 := { stood := { row := gatesRunRow, standIns := [], harness := (true, "44df7daf55985aea251c66f49be4a90269b22bd9e8426c195f22f9f5aabd0083"), looks := false }, kinds := [], alts := [], laidByText := true, laidKinds := [.widerDeep], laidTests := true, laidLooks := .later }
def GatesRunCardSaid : Prop := Claim7.holds Tryd.pinned (.plain (OpenSpec.ofChange gatesRunSpec)) gatesRunCard

/-- THE TIED CARD OF 'attestorlaw23.GatesPerm'. -/
def gatesPermCard : Claim7 := { stood := { row := gatesPermRow, standIns := [], harness := (true, "44df7daf55985aea251c66f49be4a90269b22bd9e8426c195f22f9f5aabd0083"), looks := false }, kinds := [], alts := [], laidByText := true, laidKinds := [.widerDeep], laidTests := true, laidLooks := .later }
def GatesPermCardSaid : Prop := Claim7.holds Tryd.pinned (.plain (OpenSpec.ofChange gatesPermSpec)) gatesPermCard

/-- THE TIED CARD OF 'attestorlaw23.GatesKnown'. -/
def gatesKnownCard : Claim7 := { stood := { row := gatesKnownRow, standIns := [], harness := (true, "44df7daf55985aea251c66f49be4a90269b22bd9e8426c195f22f9f5aabd0083"), looks := false }, kinds := [], alts := [], laidByText := true, laidKinds := [.widerDeep], laidTests := true, laidLooks := .later }
def GatesKnownCardSaid : Prop := Claim7.holds Tryd.pinned (.plain (OpenSpec.ofChange gatesKnownSpec)) gatesKnownCard

/-- THE SECOND FORM's CARD OF 'attestorlaw23.GatesHold'. -/
def gatesHoldUptoCard : Claim7 := { stood := { row := gatesHoldUptoRow, standIns := [], harness := (true, "44df7daf55985aea251c66f49be4a90269b22bd9e8426c195f22f9f5aabd0083"), looks := false }, kinds := [], alts := [], laidByText := true, laidKinds := [.widerDeep], laidTests := true, laidLooks := .later }
def GatesHoldUptoCardSaid : Prop := Claim7.holds Tryd.pinned (.plain (OpenSpec.upto gatesHoldSpec)) gatesHoldUptoCard

/-- THE SECOND FORM's CARD OF 'attestorlaw23.GatesFunction'. -/
def gatesFunctionUptoCard : Claim7 := { stood := { row := gatesFunctionUptoRow, standIns := [], harness := (true, "44df7daf55985aea251c66f49be4a90269b22bd9e8426c195f22f9f5aabd0083"), looks := false }, kinds := [], alts := [], laidByText := true, laidKinds := [.widerDeep], laidTests := true, laidLooks := .later }
def GatesFunctionUptoCardSaid : Prop := Claim7.holds Tryd.pinned (.plain (OpenSpec.upto gatesFunctionSpec)) gatesFunctionUptoCard

/-- THE SECOND FORM's CARD OF 'attestorlaw23.GatesRun'. -/
def gatesRunUptoCard : Claim7 := { stood := { row := gatesRunUptoRow, standIns := [], harness := (true, "44df7daf55985aea251c66f49be4a90269b22bd9e8426c195f22f9f5aabd0083"), looks := false }, kinds := [], alts := [], laidByText := true, laidKinds := [.widerDeep], laidTests := true, laidLooks := .later }
def GatesRunUptoCardSaid : Prop := Claim7.holds Tryd.pinned (.plain (OpenSpec.upto gatesRunSpec)) gatesRunUptoCard

/-- THE SECOND FORM's CARD OF 'attestorlaw23.GatesPerm'. -/
def gatesPermUptoCard : Claim7 := { stood := { row := gatesPermUptoRow, standIns := [], harness := (true, "44df7daf55985aea251c66f49be4a90269b22bd9e8426c195f22f9f5aabd0083"), looks := false }, kinds := [], alts := [], laidByText := true, laidKinds := [.widerDeep], laidTests := true, laidLooks := .later }
def GatesPermUptoCardSaid : Prop := Claim7.holds Tryd.pinned (.plain (OpenSpec.upto gatesPermSpec)) gatesPermUptoCard

/-- THE SECOND FORM's CARD OF 'attestorlaw23.GatesKnown'. -/
def gatesKnownUptoCard : Claim7 := { stood := { row := gatesKnownUptoRow, standIns := [], harness := (true, "44df7daf55985aea251c66f49be4a90269b22bd9e8426c195f22f9f5aabd0083"), looks := false }, kinds := [], alts := [], laidByText := true, laidKinds := [.widerDeep], laidTests := true, laidLooks := .later }
def GatesKnownUptoCardSaid : Prop := Claim7.holds Tryd.pinned (.plain (OpenSpec.upto gatesKnownSpec)) gatesKnownUptoCard
end Rows
end Go.Proofs.YtkadjemloffhnaaDoor
