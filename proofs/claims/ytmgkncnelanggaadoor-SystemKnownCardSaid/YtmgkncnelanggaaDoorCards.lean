/-
  DERIVED. GIVEN WITH THE SEED: THE CARDS: each row of YtmgkncnelanggaaDoorRows.lean that lists a variable, with what it lists TIED to the program's text (the seventh form; the later family's looks); each row that meets fmt, with fmt's text TOLD by the authors' own Lean function (tested against real Go, not proved from fmt's source: count such statements apart). THE CARD IS WHAT COUNTS. Prove the row's statement (the work); the ties are given (YtmgkncnelanggaaDoorTie.lean); close each card by the builder's one call (the guide's Derived/Test/ToyasCard.lean, 'card_holds'). Laid BY PROGRAM, IN A SANDBOX (cutbox-door.mjs). By AI agents, Wed Nov 11 2026. No macro, syntax, notation, axiom, sorry.
-/
import Derived.Test.YtmgkncnelanggaaDoorRows
import GoSem.ClaimSeven
namespace Go.Proofs.YtmgkncnelanggaaDoor
namespace Rows

/-- THE TIED CARD OF 'attestorlaw13.SystemFaults'. -/
def systemFaultsCard : Claim7 := { stood := { row := systemFaultsRow, standIns := [], harness := (true, "09a63d82ae323120327746869bb14e9126cc290a9db78dde5d8e18b1afefea78"), looks := false }, kinds := [], alts := [], laidByText := true, laidKinds := [.widerDeep], laidTests := true, laidLooks := .later }
def SystemFaultsCardSaid : Prop := Claim7.holds Tryd.pinned (.plain (OpenSpec.ofChange systemFaultsSpec)) systemFaultsCard

/-- THE TIED CARD OF 'attestorlaw13.SystemTurns'. -/
def systemTurnsCard : Claim7 := { stood := { row := systemTurnsRow, standIns := [], harness := (true, "09a63d82ae323120327746869bb14e9126cc290a9db78dde5d8e18b1afefea78"), looks := false }, kinds := [], alts := [], laidByText := true, laidKinds := [.widerDeep], laidTests := true, laidLooks := .later }
def SystemTurnsCardSaid : Prop := Claim7.holds Tryd.pinned (.plain (OpenSpec.ofChange systemTurnsSpec)) systemTurnsCard

/-- THE TIED CARD OF 'attestorlaw13.SystemPerms'. -/
def systemPermsCard : Claim7 := { stood := { row := systemPermsRow, standIns := [], harness := (true, "09a63d82ae323120327746869bb14e9126cc290a9db78dde5d8e18b1afefea78"), looks := false }, kinds := [], alts := [], laidByText := true, laidKinds := [.widerDeep], laidTests := true, laidLooks := .later }
def SystemPermsCardSaid : Prop := Claim7.holds Tryd.pinned (.plain (OpenSpec.ofChange systemPermsSpec)) systemPermsCard

/-- THE TIED CARD OF 'attestorlaw13.SystemEnvs'. -/
def systemEnvsCard : Claim7 := { stood := { row := systemEnvsRow, standIns := [], harness := (true, "09a63d82ae323120327746869bb14e9126cc290a9db78dde5d8e18b1afefea78"), looks := false }, kinds := [], alts := [], laidByText := true, laidKinds := [.widerDeep], laidTests := true, laidLooks := .later }
def SystemEnvsCardSaid : Prop := Claim7.holds Tryd.pinned (.plain (OpenSpec.ofChange systemEnvsSpec)) systemEnvsCard

/-- THE TIED CARD OF 'attestorlaw13.SystemKnown'. -/
def systemKnownCard : Claim7 := { stood := { row := systemKnownRow, standIns := [], harness := (true, "09a63d82ae323120327746869bb14e9126cc290a9db78dde5d8e18b1afefea78"), looks := false }, kinds := [], alts := [], laidByText := true, laidKinds := [.widerDeep], laidTests := true, laidLooks := .later }
def SystemKnownCardSaid : Prop := Claim7.holds Tryd.pinned (.plain (OpenSpec.ofChange systemKnownSpec)) systemKnownCard

/-- THE TIED CARD OF 'attestorlaw13.SystemWords'. -/
def systemWordsCard : Claim7 := { stood := { row := systemWordsRow, standIns := [], harness := (true, "09a63d82ae323120327746869bb14e9126cc290a9db78dde5d8e18b1afefea78"), looks := false }, kinds := [], alts := [], laidByText := true, laidKinds := [.widerDeep], laidTests := true, laidLooks := .later }
def SystemWordsCardSaid : Prop := Claim7.holds Tryd.pinned (.plain (OpenSpec.ofChange systemWordsSpec)) systemWordsCard

/-- THE TIED CARD OF 'attestorlaw13.SystemValid'. -/
def systemValidCard : Claim7 := { stood := { row := systemValidRow, standIns := [], harness := (true, "09a63d82ae323120327746869bb14e9126cc290a9db78dde5d8e18b1afefea78"), looks := false }, kinds := [], alts := [], laidByText := true, laidKinds := [.widerDeep], laidTests := true, laidLooks := .later }
def SystemValidCardSaid : Prop := Claim7.holds Tryd.pinned (.plain (OpenSpec.ofChange systemValidSpec)) systemValidCard

/-- THE SECOND FORM's CARD OF 'attestorlaw13.SystemFaults'. -/
def systemFaultsUptoCard : Claim7 := { stood := { row := systemFaultsUptoRow, standIns := [], harness := (true, "09a63d82ae323120327746869bb14e9126cc290a9db78dde5d8e18b1afefea78"), looks := false }, kinds := [], alts := [], laidByText := true, laidKinds := [.widerDeep], laidTests := true, laidLooks := .later }
def SystemFaultsUptoCardSaid : Prop := Claim7.holds Tryd.pinned (.plain (OpenSpec.upto systemFaultsSpec)) systemFaultsUptoCard

/-- THE SECOND FORM's CARD OF 'attestorlaw13.SystemTurns'. -/
def systemTurnsUptoCard : Claim7 := { stood := { row := systemTurnsUptoRow, standIns := [], harness := (true, "09a63d82ae323120327746869bb14e9126cc290a9db78dde5d8e18b1afefea78"), looks := false }, kinds := [], alts := [], laidByText := true, laidKinds := [.widerDeep], laidTests := true, laidLooks := .later }
def SystemTurnsUptoCardSaid : Prop := Claim7.holds Tryd.pinned (.plain (OpenSpec.upto systemTurnsSpec)) systemTurnsUptoCard

/-- THE SECOND FORM's CARD OF 'attestorlaw13.SystemPerms'. -/
def systemPermsUptoCard : Claim7 := { stood := { row := systemPermsUptoRow, standIns := [], harness := (true, "09a63d82ae323120327746869bb14e9126cc290a9db78dde5d8e18b1afefea78"), looks := false }, kinds := [], alts := [], laidByText := true, laidKinds := [.widerDeep], laidTests := true, laidLooks := .later }
def SystemPermsUptoCardSaid : Prop := Claim7.holds Tryd.pinned (.plain (OpenSpec.upto systemPermsSpec)) systemPermsUptoCard

/-- THE SECOND FORM's CARD OF 'attestorlaw13.SystemEnvs'. -/
def systemEnvsUptoCard : Claim7 := { stood := { row := systemEnvsUptoRow, standIns := [], harness := (true, "09a63d82ae323120327746869bb14e9126cc290a9db78dde5d8e18b1afefea78"), looks := false }, kinds := [], alts := [], laidByText := true, laidKinds := [.widerDeep], laidTests := true, laidLooks := .later }
def SystemEnvsUptoCardSaid : Prop := Claim7.holds Tryd.pinned (.plain (OpenSpec.upto systemEnvsSpec)) systemEnvsUptoCard

/-- THE SECOND FORM's CARD OF 'attestorlaw13.SystemKnown'. -/
def systemKnownUptoCard : Claim7 := { stood := { row := systemKnownUptoRow, standIns := [], harness := (true, "09a63d82ae323120327746869bb14e9126cc290a9db78dde5d8e18b1afefea78"), looks := false }, kinds := [], alts := [], laidByText := true, laidKinds := [.widerDeep], laidTests := true, laidLooks := .later }
def SystemKnownUptoCardSaid : Prop := Claim7.holds Tryd.pinned (.plain (OpenSpec.upto systemKnownSpec)) systemKnownUptoCard

/-- THE SECOND FORM's CARD OF 'attestorlaw13.SystemWords'. -/
def systemWordsUptoCard : Claim7 := { stood := { row := systemWordsUptoRow, standIns := [], harness := (true, "09a63d82ae323120327746869bb14e9126cc290a9db78dde5d8e18b1afefea78"), looks := false }, kinds := [], alts := [], laidByText := true, laidKinds := [.widerDeep], laidTests := true, laidLooks := .later }
def SystemWordsUptoCardSaid : Prop := Claim7.holds Tryd.pinned (.plain (OpenSpec.upto systemWordsSpec)) systemWordsUptoCard

/-- THE SECOND FORM's CARD OF 'attestorlaw13.SystemValid'. -/
def systemValidUptoCard : Claim7 := { stood := { row := systemValidUptoRow, standIns := [], harness := (true, "09a63d82ae323120327746869bb14e9126cc290a9db78dde5d8e18b1afefea78"), looks := false }, kinds := [], alts := [], laidByText := true, laidKinds := [.widerDeep], laidTests := true, laidLooks := .later }
def SystemValidUptoCardSaid : Prop := Claim7.holds Tryd.pinned (.plain (OpenSpec.upto systemValidSpec)) systemValidUptoCard
end Rows
end Go.Proofs.YtmgkncnelanggaaDoor
