/-
  DERIVED. GIVEN WITH THE SEED: THE CARDS: each row of YtedoeeeomfgjnaaDoorRows.lean that lists a variable, with what it lists TIED to the program's text (the seventh form; the later family's looks); each row that meets fmt, with fmt's text TOLD by the authors' own Lean function (tested against real Go, not proved from fmt's source: count such statements apart). THE CARD IS WHAT COUNTS. Prove the row's statement (the work); the ties are given (YtedoeeeomfgjnaaDoorTie.lean); close each card by the builder's one call (the guide's Derived/Test/ToyasCard.lean, 'card_holds'). Laid BY PROGRAM, IN A SANDBOX (cutbox-door.mjs). By AI agents, Wed Nov 11 2026. No macro, syntax, notation, axiom, sorry.
-/
import Derived.Test.YtedoeeeomfgjnaaDoorRows
import GoSem.ClaimSeven
namespace Go.Proofs.YtedoeeeomfgjnaaDoor
namespace Rows

/-- THE TIED CARD OF 'attestorlaw20.LexisTokens'. -/
def lexisTokensCard : Claim7 := { stood := { row := lexisTokensRow, standIns := [], harness := (true, "7c61891a59ef3a47f147f2b415bc6de609cf0b739dec45fbe43b46c7b8c619fd"), looks := true }, kinds := [], alts := [], laidByText := true, laidKinds := [.data, .data, .data, .sentinel, .sentinel], laidTests := true, laidLooks := .later }
def LexisTokensCardSaid : Prop := Claim7.holds Tryd.pinned (.plain (OpenSpec.ofChange lexisTokensSpec)) lexisTokensCard

/-- THE TIED CARD OF 'attestorlaw20.LexisPrints'. -/
def lexisPrintsCard : Claim7 := { stood := { row := lexisPrintsRow, standIns := [], harness := (true, "7c61891a59ef3a47f147f2b415bc6de609cf0b739dec45fbe43b46c7b8c619fd"), looks := true }, kinds := [], alts := [], laidByText := true, laidKinds := [.data, .data, .data, .sentinel, .sentinel], laidTests := true, laidLooks := .later }
def LexisPrintsCardSaid : Prop := Claim7.holds Tryd.pinned (.plain (OpenSpec.ofChange lexisPrintsSpec)) lexisPrintsCard

/-- THE TIED CARD OF 'attestorlaw20.LexisRound'. -/
def lexisRoundCard : Claim7 := { stood := { row := lexisRoundRow, standIns := [], harness := (true, "7c61891a59ef3a47f147f2b415bc6de609cf0b739dec45fbe43b46c7b8c619fd"), looks := true }, kinds := [], alts := [], laidByText := true, laidKinds := [.data, .data, .data, .sentinel, .sentinel], laidTests := true, laidLooks := .later }
def LexisRoundCardSaid : Prop := Claim7.holds Tryd.pinned (.plain (OpenSpec.ofChange lexisRoundSpec)) lexisRoundCard

/-- THE TIED CARD OF 'attestorlaw20.LexisStands'. -/
def lexisStandsCard : Claim7 := { stood := { row := lexisStandsRow, standIns := [], harness := (true, "7c61891a59ef3a47f147f2b415bc6de609cf0b739dec45fbe43b46c7b8c619fd"), looks := true }, kinds := [], alts := [], laidByText := true, laidKinds := [.data, .data, .data, .sentinel, .sentinel], laidTests := true, laidLooks := .later }
def LexisStandsCardSaid : Prop := Claim7.holds Tryd.pinned (.plain (OpenSpec.ofChange lexisStandsSpec)) lexisStandsCard

/-- THE TIED CARD OF 'attestorlaw20.LexisBlanks'. -/
def lexisBlanksCard : Claim7 := { stood := { row := lexisBlanksRow, standIns := [], harness := (true, "7c61891a59ef3a47f147f2b415bc6de609cf0b739dec45fbe43b46c7b8c619fd"), looks := true }, kinds := [], alts := [], laidByText := true, laidKinds := [.data, .data, .data, .sentinel, .sentinel], laidTests := true, laidLooks := .later }
def LexisBlanksCardSaid : Prop := Claim7.holds Tryd.pinned (.plain (OpenSpec.ofChange lexisBlanksSpec)) lexisBlanksCard

/-- THE TIED CARD OF 'attestorlaw20.LexisApart'. -/
def lexisApartCard : Claim7 := { stood := { row := lexisApartRow, standIns := [], harness := (true, "7c61891a59ef3a47f147f2b415bc6de609cf0b739dec45fbe43b46c7b8c619fd"), looks := true }, kinds := [], alts := [], laidByText := true, laidKinds := [.data, .data, .data, .sentinel, .sentinel], laidTests := true, laidLooks := .later }
def LexisApartCardSaid : Prop := Claim7.holds Tryd.pinned (.plain (OpenSpec.ofChange lexisApartSpec)) lexisApartCard

/-- THE TIED CARD OF 'attestorlaw20.LexisKnown'. -/
def lexisKnownCard : Claim7 := { stood := { row := lexisKnownRow, standIns := [], harness := (true, "7c61891a59ef3a47f147f2b415bc6de609cf0b739dec45fbe43b46c7b8c619fd"), looks := true }, kinds := [], alts := [], laidByText := true, laidKinds := [.data, .data, .data, .sentinel, .sentinel], laidTests := true, laidLooks := .later }
def LexisKnownCardSaid : Prop := Claim7.holds Tryd.pinned (.plain (OpenSpec.ofChange lexisKnownSpec)) lexisKnownCard

/-- THE SECOND FORM's CARD OF 'attestorlaw20.LexisTokens'. -/
def lexisTokensUptoCard : Claim7 := { stood := { row := lexisTokensUptoRow, standIns := [], harness := (true, "7c61891a59ef3a47f147f2b415bc6de609cf0b739dec45fbe43b46c7b8c619fd"), looks := true }, kinds := [], alts := [], laidByText := true, laidKinds := [.data, .data, .data, .sentinel, .sentinel], laidTests := true, laidLooks := .later }
def LexisTokensUptoCardSaid : Prop := Claim7.holds Tryd.pinned (.plain (OpenSpec.upto lexisTokensSpec)) lexisTokensUptoCard

/-- THE SECOND FORM's CARD OF 'attestorlaw20.LexisPrints'. -/
def lexisPrintsUptoCard : Claim7 := { stood := { row := lexisPrintsUptoRow, standIns := [], harness := (true, "7c61891a59ef3a47f147f2b415bc6de609cf0b739dec45fbe43b46c7b8c619fd"), looks := true }, kinds := [], alts := [], laidByText := true, laidKinds := [.data, .data, .data, .sentinel, .sentinel], laidTests := true, laidLooks := .later }
def LexisPrintsUptoCardSaid : Prop := Claim7.holds Tryd.pinned (.plain (OpenSpec.upto lexisPrintsSpec)) lexisPrintsUptoCard

/-- THE SECOND FORM's CARD OF 'attestorlaw20.LexisRound'. -/
def lexisRoundUptoCard : Claim7 := { stood := { row := lexisRoundUptoRow, standIns := [], harness := (true, "7c61891a59ef3a47f147f2b415bc6de609cf0b739dec45fbe43b46c7b8c619fd"), looks := true }, kinds := [], alts := [], laidByText := true, laidKinds := [.data, .data, .data, .sentinel, .sentinel], laidTests := true, laidLooks := .later }
def LexisRoundUptoCardSaid : Prop := Claim7.holds Tryd.pinned (.plain (OpenSpec.upto lexisRoundSpec)) lexisRoundUptoCard

/-- THE SECOND FORM's CARD OF 'attestorlaw20.LexisStands'. -/
def lexisStandsUptoCard : Claim7 := { stood := { row := lexisStandsUptoRow, standIns := [], harness := (true, "7c61891a59ef3a47f147f2b415bc6de609cf0b739dec45fbe43b46c7b8c619fd"), looks := true }, kinds := [], alts := [], laidByText := true, laidKinds := [.data, .data, .data, .sentinel, .sentinel], laidTests := true, laidLooks := .later }
def LexisStandsUptoCardSaid : Prop := Claim7.holds Tryd.pinned (.plain (OpenSpec.upto lexisStandsSpec)) lexisStandsUptoCard

/-- THE SECOND FORM's CARD OF 'attestorlaw20.LexisBlanks'. -/
def lexisBlanksUptoCard : Claim7 := { stood := { row := lexisBlanksUptoRow, standIns := [], harness := (true, "7c61891a59ef3a47f147f2b415bc6de609cf0b739dec45fbe43b46c7b8c619fd"), looks := true }, kinds := [], alts := [], laidByText := true, laidKinds := [.data, .data, .data, .sentinel, .sentinel], laidTests := true, laidLooks := .later }
def LexisBlanksUptoCardSaid : Prop := Claim7.holds Tryd.pinned (.plain (OpenSpec.upto lexisBlanksSpec)) lexisBlanksUptoCard

/-- THE SECOND FORM's CARD OF 'attestorlaw20.LexisApart'. -/
def lexisApartUptoCard : Claim7 := { stood := { row := lexisApartUptoRow, standIns := [], harness := (true, "7c61891a59ef3a47f147f2b415bc6de609cf0b739dec45fbe43b46c7b8c619fd"), looks := true }, kinds := [], alts := [], laidByText := true, laidKinds := [.data, .data, .data, .sentinel, .sentinel], laidTests := true, laidLooks := .later }
def LexisApartUptoCardSaid : Prop := Claim7.holds Tryd.pinned (.plain (OpenSpec.upto lexisApartSpec)) lexisApartUptoCard

/-- THE SECOND FORM's CARD OF 'attestorlaw20.LexisKnown'. -/
def lexisKnownUptoCard : Claim7 := { stood := { row := lexisKnownUptoRow, standIns := [], harness := (true, "7c61891a59ef3a47f147f2b415bc6de609cf0b739dec45fbe43b46c7b8c619fd"), looks := true }, kinds := [], alts := [], laidByText := true, laidKinds := [.data, .data, .data, .sentinel, .sentinel], laidTests := true, laidLooks := .later }
def LexisKnownUptoCardSaid : Prop := Claim7.holds Tryd.pinned (.plain (OpenSpec.upto lexisKnownSpec)) lexisKnownUptoCard
end Rows
end Go.Proofs.YtedoeeeomfgjnaaDoor
