/-
  DERIVED. GIVEN WITH THE SEED: THE CARDS: each row of YtbamklefagghcaaGreatDoorRows.lean that lists a variable, with what it lists TIED to the program's text (the seventh form; the later family's looks); each row that meets fmt, with fmt's text TOLD by the authors' own Lean function (tested against real Go, not proved from fmt's source: count such statements apart). THE CARD IS WHAT COUNTS. Prove the row's statement (the work); the ties are given (YtbamklefagghcaaGreatDoorTie.lean); close each card by the builder's one call (the guide's Derived/Test/ToyasCard.lean, 'card_holds'). Laid BY PROGRAM, IN A SANDBOX (cutbox-door.mjs). By AI agents, Wed Nov 11 2026. No macro, syntax, notation, axiom, sorry.
-/
import Derived.Test.YtbamklefagghcaaGreatDoorRows
import GoSem.ClaimSeven
namespace Go.Proofs.YtbamklefagghcaaGreatDoor
namespace Rows

/-- THE TIED CARD OF 'pinakeslaw22.EdifactOrders'. -/
def edifactOrdersCard : Claim7 := { stood := { row := edifactOrdersRow, standIns := [], harness := (true, "fe86915d85936572709b11eb4134b6eb2a3d661c9c1678eaee5e3c2b666ab4e3"), looks := true }, kinds := [], alts := [], laidByText := true, laidKinds := [.data, .data, .data, .data, .sentinel, .sentinel, .pinned], laidTests := true, laidLooks := .later }
def EdifactOrdersCardSaid : Prop := Claim7.holds Tryz.pinned (.plain (OpenSpec.ofChange edifactOrdersSpec)) edifactOrdersCard

/-- THE TIED CARD OF 'pinakeslaw22.EdifactInvoices'. -/
def edifactInvoicesCard : Claim7 := { stood := { row := edifactInvoicesRow, standIns := [], harness := (true, "fe86915d85936572709b11eb4134b6eb2a3d661c9c1678eaee5e3c2b666ab4e3"), looks := true }, kinds := [], alts := [], laidByText := true, laidKinds := [.data, .data, .data, .data, .sentinel, .sentinel, .pinned], laidTests := true, laidLooks := .later }
def EdifactInvoicesCardSaid : Prop := Claim7.holds Tryz.pinned (.plain (OpenSpec.ofChange edifactInvoicesSpec)) edifactInvoicesCard

/-- THE TIED CARD OF 'pinakeslaw22.EdifactTotals'. -/
def edifactTotalsCard : Claim7 := { stood := { row := edifactTotalsRow, standIns := [], harness := (true, "fe86915d85936572709b11eb4134b6eb2a3d661c9c1678eaee5e3c2b666ab4e3"), looks := true }, kinds := [], alts := [], laidByText := true, laidKinds := [.data, .data, .data, .data, .sentinel, .sentinel, .pinned], laidTests := true, laidLooks := .later }
def EdifactTotalsCardSaid : Prop := Claim7.holds Tryz.pinned (.plain (OpenSpec.ofChange edifactTotalsSpec)) edifactTotalsCard

/-- THE TIED CARD OF 'pinakeslaw22.EdifactMany'. -/
def edifactManyCard : Claim7 := { stood := { row := edifactManyRow, standIns := [], harness := (true, "fe86915d85936572709b11eb4134b6eb2a3d661c9c1678eaee5e3c2b666ab4e3"), looks := true }, kinds := [], alts := [], laidByText := true, laidKinds := [.data, .data, .data, .data, .sentinel, .sentinel, .pinned], laidTests := true, laidLooks := .later }
def EdifactManyCardSaid : Prop := Claim7.holds Tryz.pinned (.plain (OpenSpec.ofChange edifactManySpec)) edifactManyCard

/-- THE TIED CARD OF 'pinakeslaw22.EdifactKeeps'. -/
def edifactKeepsCard : Claim7 := { stood := { row := edifactKeepsRow, standIns := [], harness := (true, "fe86915d85936572709b11eb4134b6eb2a3d661c9c1678eaee5e3c2b666ab4e3"), looks := true }, kinds := [], alts := [], laidByText := true, laidKinds := [.data, .data, .data, .data, .sentinel, .sentinel, .pinned], laidTests := true, laidLooks := .later }
def EdifactKeepsCardSaid : Prop := Claim7.holds Tryz.pinned (.plain (OpenSpec.ofChange edifactKeepsSpec)) edifactKeepsCard

/-- THE TIED CARD OF 'pinakeslaw22.EdifactBent'. -/
def edifactBentCard : Claim7 := { stood := { row := edifactBentRow, standIns := [], harness := (true, "fe86915d85936572709b11eb4134b6eb2a3d661c9c1678eaee5e3c2b666ab4e3"), looks := true }, kinds := [], alts := [], laidByText := true, laidKinds := [.data, .data, .data, .data, .sentinel, .sentinel, .pinned], laidTests := true, laidLooks := .later }
def EdifactBentCardSaid : Prop := Claim7.holds Tryz.pinned (.plain (OpenSpec.ofChange edifactBentSpec)) edifactBentCard

/-- THE SECOND FORM's CARD OF 'pinakeslaw22.EdifactOrders'. -/
def edifactOrdersUptoCard : Claim7 := { stood := { row := edifactOrdersUptoRow, standIns := [], harness := (true, "fe86915d85936572709b11eb4134b6eb2a3d661c9c1678eaee5e3c2b666ab4e3"), looks := true }, kinds := [], alts := [], laidByText := true, laidKinds := [.data, .data, .data, .data, .sentinel, .sentinel, .pinned], laidTests := true, laidLooks := .later }
def EdifactOrdersUptoCardSaid : Prop := Claim7.holds Tryz.pinned (.plain (OpenSpec.upto edifactOrdersSpec)) edifactOrdersUptoCard

/-- THE SECOND FORM's CARD OF 'pinakeslaw22.EdifactInvoices'. -/
def edifactInvoicesUptoCard : Claim7 := { stood := { row := edifactInvoicesUptoRow, standIns := [], harness := (true, "fe86915d85936572709b11eb4134b6eb2a3d661c9c1678eaee5e3c2b666ab4e3"), looks := true }, kinds := [], alts := [], laidByText := true, laidKinds := [.data, .data, .data, .data, .sentinel, .sentinel, .pinned], laidTests := true, laidLooks := .later }
def EdifactInvoicesUptoCardSaid : Prop := Claim7.holds Tryz.pinned (.plain (OpenSpec.upto edifactInvoicesSpec)) edifactInvoicesUptoCard

/-- THE SECOND FORM's CARD OF 'pinakeslaw22.EdifactTotals'. -/
def edifactTotalsUptoCard : Claim7 := { stood := { row := edifactTotalsUptoRow, standIns := [], harness := (true, "fe86915d85936572709b11eb4134b6eb2a3d661c9c1678eaee5e3c2b666ab4e3"), looks := true }, kinds := [], alts := [], laidByText := true, laidKinds := [.data, .data, .data, .data, .sentinel, .sentinel, .pinned], laidTests := true, laidLooks := .later }
def EdifactTotalsUptoCardSaid : Prop := Claim7.holds Tryz.pinned (.plain (OpenSpec.upto edifactTotalsSpec)) edifactTotalsUptoCard

/-- THE SECOND FORM's CARD OF 'pinakeslaw22.EdifactMany'. -/
def edifactManyUptoCard : Claim7 := { stood := { row := edifactManyUptoRow, standIns := [], harness := (true, "fe86915d85936572709b11eb4134b6eb2a3d661c9c1678eaee5e3c2b666ab4e3"), looks := true }, kinds := [], alts := [], laidByText := true, laidKinds := [.data, .data, .data, .data, .sentinel, .sentinel, .pinned], laidTests := true, laidLooks := .later }
def EdifactManyUptoCardSaid : Prop := Claim7.holds Tryz.pinned (.plain (OpenSpec.upto edifactManySpec)) edifactManyUptoCard

/-- THE SECOND FORM's CARD OF 'pinakeslaw22.EdifactKeeps'. -/
def edifactKeepsUptoCard : Claim7 := { stood := { row := edifactKeepsUptoRow, standIns := [], harness := (true, "fe86915d85936572709b11eb4134b6eb2a3d661c9c1678eaee5e3c2b666ab4e3"), looks := true }, kinds := [], alts := [], laidByText := true, laidKinds := [.data, .data, .data, .data, .sentinel, .sentinel, .pinned], laidTests := true, laidLooks := .later }
def EdifactKeepsUptoCardSaid : Prop := Claim7.holds Tryz.pinned (.plain (OpenSpec.upto edifactKeepsSpec)) edifactKeepsUptoCard

/-- THE SECOND FORM's CARD OF 'pinakeslaw22.EdifactBent'. -/
def edifactBentUptoCard : Claim7 := { stood := { row := edifactBentUptoRow, standIns := [], harness := (true, "fe86915d85936572709b11eb4134b6eb2a3d661c9c1678eaee5e3c2b666ab4e3"), looks := true }, kinds := [], alts := [], laidByText := true, laidKinds := [.data, .data, .data, .data, .sentinel, .sentinel, .pinned], laidTests := true, laidLooks := .later }
def EdifactBentUptoCardSaid : Prop := Claim7.holds Tryz.pinned (.plain (OpenSpec.upto edifactBentSpec)) edifactBentUptoCard
end Rows
end Go.Proofs.YtbamklefagghcaaGreatDoor
