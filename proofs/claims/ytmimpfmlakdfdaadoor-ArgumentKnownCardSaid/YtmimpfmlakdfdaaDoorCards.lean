/-
  DERIVED. GIVEN WITH THE SEED: THE CARDS: each row of YtmimpfmlakdfdaaDoorRows.lean that lists a variable, with what it lists TIED to the program's text (the seventh form; the later family's looks); each row that meets fmt, with fmt's text TOLD by the authors' own Lean function (tested against real Go, not proved from fmt's source: count such statements apart). THE CARD IS WHAT COUNTS. Prove the row's statement (the work); the ties are given (YtmimpfmlakdfdaaDoorTie.lean); close each card by the builder's one call (the guide's Derived/Test/ToyasCard.lean, 'card_holds'). Laid BY PROGRAM, IN A SANDBOX (cutbox-door.mjs). By AI agents, Wed Nov 11 2026. No macro, syntax, notation, axiom, sorry.
-/
import Derived.Test.YtmimpfmlakdfdaaDoorRows
import GoSem.ClaimSeven
namespace Go.Proofs.YtmimpfmlakdfdaaDoor
namespace Rows

/-- THE TIED CARD OF 'attestorlaw14.ArgumentColumns'. -/
def argumentColumnsCard : Claim7 := { stood := { row := argumentColumnsRow, standIns := [], harness := (true, "209e5f3288c96d31f86d6f3defc4ca41bb62eaf091c1831b06c7e271d2ce0b42"), looks := false }, kinds := [], alts := [], laidByText := true, laidKinds := [.widerDeep], laidTests := true, laidLooks := .later }
def ArgumentColumnsCardSaid : Prop := Claim7.holds Tryd.pinned (.plain (OpenSpec.ofChange argumentColumnsSpec)) argumentColumnsCard

/-- THE TIED CARD OF 'attestorlaw14.ArgumentCloses'. -/
def argumentClosesCard : Claim7 := { stood := { row := argumentClosesRow, standIns := [], harness := (true, "209e5f3288c96d31f86d6f3defc4ca41bb62eaf091c1831b06c7e271d2ce0b42"), looks := false }, kinds := [], alts := [], laidByText := true, laidKinds := [.widerDeep], laidTests := true, laidLooks := .later }
def ArgumentClosesCardSaid : Prop := Claim7.holds Tryd.pinned (.plain (OpenSpec.ofChange argumentClosesSpec)) argumentClosesCard

/-- THE TIED CARD OF 'attestorlaw14.ArgumentProduct'. -/
def argumentProductCard : Claim7 := { stood := { row := argumentProductRow, standIns := [], harness := (true, "209e5f3288c96d31f86d6f3defc4ca41bb62eaf091c1831b06c7e271d2ce0b42"), looks := false }, kinds := [], alts := [], laidByText := true, laidKinds := [.widerDeep], laidTests := true, laidLooks := .later }
def ArgumentProductCardSaid : Prop := Claim7.holds Tryd.pinned (.plain (OpenSpec.ofChange argumentProductSpec)) argumentProductCard

/-- THE TIED CARD OF 'attestorlaw14.ArgumentValues'. -/
def argumentValuesCard : Claim7 := { stood := { row := argumentValuesRow, standIns := [], harness := (true, "209e5f3288c96d31f86d6f3defc4ca41bb62eaf091c1831b06c7e271d2ce0b42"), looks := false }, kinds := [], alts := [], laidByText := true, laidKinds := [.widerDeep], laidTests := true, laidLooks := .later }
def ArgumentValuesCardSaid : Prop := Claim7.holds Tryd.pinned (.plain (OpenSpec.ofChange argumentValuesSpec)) argumentValuesCard

/-- THE TIED CARD OF 'attestorlaw14.ArgumentKnown'. -/
def argumentKnownCard : Claim7 := { stood := { row := argumentKnownRow, standIns := [], harness := (true, "209e5f3288c96d31f86d6f3defc4ca41bb62eaf091c1831b06c7e271d2ce0b42"), looks := false }, kinds := [], alts := [], laidByText := true, laidKinds := [.widerDeep], laidTests := true, laidLooks := .later }
def ArgumentKnownCardSaid : Prop := Claim7.holds Tryd.pinned (.plain (OpenSpec.ofChange argumentKnownSpec)) argumentKnownCard

/-- THE SECOND FORM's CARD OF 'attestorlaw14.ArgumentColumns'. -/
def argumentColumnsUptoCard : Claim7 := { stood := { row := argumentColumnsUptoRow, standIns := [], harness := (true, "209e5f3288c96d31f86d6f3defc4ca41bb62eaf091c1831b06c7e271d2ce0b42"), looks := false }, kinds := [], alts := [], laidByText := true, laidKinds := [.widerDeep], laidTests := true, laidLooks := .later }
def ArgumentColumnsUptoCardSaid : Prop := Claim7.holds Tryd.pinned (.plain (OpenSpec.upto argumentColumnsSpec)) argumentColumnsUptoCard

/-- THE SECOND FORM's CARD OF 'attestorlaw14.ArgumentCloses'. -/
def argumentClosesUptoCard : Claim7 := { stood := { row := argumentClosesUptoRow, standIns := [], harness := (true, "209e5f3288c96d31f86d6f3defc4ca41bb62eaf091c1831b06c7e271d2ce0b42"), looks := false }, kinds := [], alts := [], laidByText := true, laidKinds := [.widerDeep], laidTests := true, laidLooks := .later }
def ArgumentClosesUptoCardSaid : Prop := Claim7.holds Tryd.pinned (.plain (OpenSpec.upto argumentClosesSpec)) argumentClosesUptoCard

/-- THE SECOND FORM's CARD OF 'attestorlaw14.ArgumentProduct'. -/
def argumentProductUptoCard : Claim7 := { stood := { row := argumentProductUptoRow, standIns := [], harness := (true, "209e5f3288c96d31f86d6f3defc4ca41bb62eaf091c1831b06c7e271d2ce0b42"), looks := false }, kinds := [], alts := [], laidByText := true, laidKinds := [.widerDeep], laidTests := true, laidLooks := .later }
def ArgumentProductUptoCardSaid : Prop := Claim7.holds Tryd.pinned (.plain (OpenSpec.upto argumentProductSpec)) argumentProductUptoCard

/-- THE SECOND FORM's CARD OF 'attestorlaw14.ArgumentValues'. -/
def argumentValuesUptoCard : Claim7 := { stood := { row := argumentValuesUptoRow, standIns := [], harness := (true, "209e5f3288c96d31f86d6f3defc4ca41bb62eaf091c1831b06c7e271d2ce0b42"), looks := false }, kinds := [], alts := [], laidByText := true, laidKinds := [.widerDeep], laidTests := true, laidLooks := .later }
def ArgumentValuesUptoCardSaid : Prop := Claim7.holds Tryd.pinned (.plain (OpenSpec.upto argumentValuesSpec)) argumentValuesUptoCard

/-- THE SECOND FORM's CARD OF 'attestorlaw14.ArgumentKnown'. -/
def argumentKnownUptoCard : Claim7 := { stood := { row := argumentKnownUptoRow, standIns := [], harness := (true, "209e5f3288c96d31f86d6f3defc4ca41bb62eaf091c1831b06c7e271d2ce0b42"), looks := false }, kinds := [], alts := [], laidByText := true, laidKinds := [.widerDeep], laidTests := true, laidLooks := .later }
def ArgumentKnownUptoCardSaid : Prop := Claim7.holds Tryd.pinned (.plain (OpenSpec.upto argumentKnownSpec)) argumentKnownUptoCard
end Rows
end Go.Proofs.YtmimpfmlakdfdaaDoor
