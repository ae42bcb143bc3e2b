/-
  DERIVED. GIVEN WITH THE SEED: THE CARDS: each row of YtifekogdhjabaaaGreatDoorRows.lean that lists a variable, with what it lists TIED to the program's text (the seventh form; the later family's looks); each row that meets fmt, with fmt's text TOLD by the authors' own Lean function (tested against real Go, not proved from fmt's source: count such statements apart). THE CARD IS WHAT COUNTS. Prove the row's statement (the work); the ties are given (YtifekogdhjabaaaGreatDoorTie.lean); close each card by the builder's one call (the guide's Derived/Test/ToyasCard.lean, 'card_holds'). Laid BY PROGRAM, IN A SANDBOX (cutbox-door.mjs). By AI agents, Wed Nov 11 2026. No macro, syntax, notation, axiom, sorry.
-/
import Derived.Test.YtifekogdhjabaaaGreatDoorRows
import GoSem.ClaimSeven
namespace Go.Proofs.YtifekogdhjabaaaGreatDoor
namespace Rows

/-- THE TIED CARD OF 'pinakeslaw24.OrdersNil'. -/
def ordersNilCard : Claim7 := { stood := { row := ordersNilRow, standIns := [], harness := (true, "6c28e16bcd4cb1cfc34c49c5aea99fde8041a70b44668e770cb37ce1dcbc4bca"), looks := true }, kinds := [], alts := [], laidByText := true, laidKinds := [.data, .data, .data, .data, .sentinel, .sentinel, .pinned], laidTests := true, laidLooks := .later }
def OrdersNilCardSaid : Prop := Claim7.holds Tryz.pinned (.plain (OpenSpec.ofChange ordersNilSpec)) ordersNilCard

/-- THE TIED CARD OF 'pinakeslaw24.OrdersWhole'. -/
def ordersWholeCard : Claim7 := { stood := { row := ordersWholeRow, standIns := [], harness := (true, "6c28e16bcd4cb1cfc34c49c5aea99fde8041a70b44668e770cb37ce1dcbc4bca"), looks := true }, kinds := [], alts := [], laidByText := true, laidKinds := [.data, .data, .data, .data, .sentinel, .sentinel, .pinned], laidTests := true, laidLooks := .later }
def OrdersWholeCardSaid : Prop := Claim7.holds Tryz.pinned (.plain (OpenSpec.ofChange ordersWholeSpec)) ordersWholeCard

/-- THE TIED CARD OF 'pinakeslaw24.OrdersBalance'. -/
def ordersBalanceCard : Claim7 := { stood := { row := ordersBalanceRow, standIns := [], harness := (true, "6c28e16bcd4cb1cfc34c49c5aea99fde8041a70b44668e770cb37ce1dcbc4bca"), looks := true }, kinds := [], alts := [], laidByText := true, laidKinds := [.data, .data, .data, .data, .sentinel, .sentinel, .pinned], laidTests := true, laidLooks := .later }
def OrdersBalanceCardSaid : Prop := Claim7.holds Tryz.pinned (.plain (OpenSpec.ofChange ordersBalanceSpec)) ordersBalanceCard

/-- THE TIED CARD OF 'pinakeslaw24.OrdersBytes'. -/
def ordersBytesCard : Claim7 := { stood := { row := ordersBytesRow, standIns := [], harness := (true, "6c28e16bcd4cb1cfc34c49c5aea99fde8041a70b44668e770cb37ce1dcbc4bca"), looks := true }, kinds := [], alts := [], laidByText := true, laidKinds := [.data, .data, .data, .data, .sentinel, .sentinel, .pinned], laidTests := true, laidLooks := .later }
def OrdersBytesCardSaid : Prop := Claim7.holds Tryz.pinned (.plain (OpenSpec.ofChange ordersBytesSpec)) ordersBytesCard

/-- THE TIED CARD OF 'pinakeslaw24.OrdersPlays'. -/
def ordersPlaysCard : Claim7 := { stood := { row := ordersPlaysRow, standIns := [], harness := (true, "6c28e16bcd4cb1cfc34c49c5aea99fde8041a70b44668e770cb37ce1dcbc4bca"), looks := true }, kinds := [], alts := [], laidByText := true, laidKinds := [.data, .data, .data, .data, .sentinel, .sentinel, .pinned], laidTests := true, laidLooks := .later }
def OrdersPlaysCardSaid : Prop := Claim7.holds Tryz.pinned (.plain (OpenSpec.ofChange ordersPlaysSpec)) ordersPlaysCard

/-- THE TIED CARD OF 'pinakeslaw24.OrdersForms'. -/
def ordersFormsCard : Claim7 := { stood := { row := ordersFormsRow, standIns := [], harness := (true, "6c28e16bcd4cb1cfc34c49c5aea99fde8041a70b44668e770cb37ce1dcbc4bca"), looks := true }, kinds := [], alts := [], laidByText := true, laidKinds := [.data, .data, .data, .data, .sentinel, .sentinel, .pinned], laidTests := true, laidLooks := .later }
def OrdersFormsCardSaid : Prop := Claim7.holds Tryz.pinned (.plain (OpenSpec.ofChange ordersFormsSpec)) ordersFormsCard

/-- THE TIED CARD OF 'pinakeslaw24.OrdersOpens'. -/
def ordersOpensCard : Claim7 := { stood := { row := ordersOpensRow, standIns := [], harness := (true, "6c28e16bcd4cb1cfc34c49c5aea99fde8041a70b44668e770cb37ce1dcbc4bca"), looks := true }, kinds := [], alts := [], laidByText := true, laidKinds := [.data, .data, .data, .data, .sentinel, .sentinel, .pinned], laidTests := true, laidLooks := .later }
def OrdersOpensCardSaid : Prop := Claim7.holds Tryz.pinned (.plain (OpenSpec.ofChange ordersOpensSpec)) ordersOpensCard

/-- THE SECOND FORM's CARD OF 'pinakeslaw24.OrdersNil'. -/
def ordersNilUptoCard : Claim7 := { stood := { row := ordersNilUptoRow, standIns := [], harness := (true, "6c28e16bcd4cb1cfc34c49c5aea99fde8041a70b44668e770cb37ce1dcbc4bca"), looks := true }, kinds := [], alts := [], laidByText := true, laidKinds := [.data, .data, .data, .data, .sentinel, .sentinel, .pinned], laidTests := true, laidLooks := .later }
def OrdersNilUptoCardSaid : Prop := Claim7.holds Tryz.pinned (.plain (OpenSpec.upto ordersNilSpec)) ordersNilUptoCard

/-- THE SECOND FORM's CARD OF 'pinakeslaw24.OrdersWhole'. -/
def ordersWholeUptoCard : Claim7 := { stood := { row := ordersWholeUptoRow, standIns := [], harness := (true, "6c28e16bcd4cb1cfc34c49c5aea99fde8041a70b44668e770cb37ce1dcbc4bca"), looks := true }, kinds := [], alts := [], laidByText := true, laidKinds := [.data, .data, .data, .data, .sentinel, .sentinel, .pinned], laidTests := true, laidLooks := .later }
def OrdersWholeUptoCardSaid : Prop := Claim7.holds Tryz.pinned (.plain (OpenSpec.upto ordersWholeSpec)) ordersWholeUptoCard

/-- THE SECOND FORM's CARD OF 'pinakeslaw24.OrdersBalance'. -/
def ordersBalanceUptoCard : Claim7 := { stood := { row := ordersBalanceUptoRow, standIns := [], harness := (true, "6c28e16bcd4cb1cfc34c49c5aea99fde8041a70b44668e770cb37ce1dcbc4bca"), looks := true }, kinds := [], alts := [], laidByText := true, laidKinds := [.data, .data, .data, .data, .sentinel, .sentinel, .pinned], laidTests := true, laidLooks := .later }
def OrdersBalanceUptoCardSaid : Prop := Claim7.holds Tryz.pinned (.plain (OpenSpec.upto ordersBalanceSpec)) ordersBalanceUptoCard

/-- THE SECOND FORM's CARD OF 'pinakeslaw24.OrdersBytes'. -/
def ordersBytesUptoCard : Claim7 := { stood := { row := ordersBytesUptoRow, standIns := [], harness := (true, "6c28e16bcd4cb1cfc34c49c5aea99fde8041a70b44668e770cb37ce1dcbc4bca"), looks := true }, kinds := [], alts := [], laidByText := true, laidKinds := [.data, .data, .data, .data, .sentinel, .sentinel, .pinned], laidTests := true, laidLooks := .later }
def OrdersBytesUptoCardSaid : Prop := Claim7.holds Tryz.pinned (.plain (OpenSpec.upto ordersBytesSpec)) ordersBytesUptoCard

/-- THE SECOND FORM's CARD OF 'pinakeslaw24.OrdersPlays'. -/
def ordersPlaysUptoCard : Claim7 := { stood := { row := ordersPlaysUptoRow, standIns := [], harness := (true, "6c28e16bcd4cb1cfc34c49c5aea99fde8041a70b44668e770cb37ce1dcbc4bca"), looks := true }, kinds := [], alts := [], laidByText := true, laidKinds := [.data, .data, .data, .data, .sentinel, .sentinel, .pinned], laidTests := true, laidLooks := .later }
def OrdersPlaysUptoCardSaid : Prop := Claim7.holds Tryz.pinned (.plain (OpenSpec.upto ordersPlaysSpec)) ordersPlaysUptoCard

/-- THE SECOND FORM's CARD OF 'pinakeslaw24.OrdersForms'. -/
def ordersFormsUptoCard : Claim7 := { stood := { row := ordersFormsUptoRow, standIns := [], harness := (true, "6c28e16bcd4cb1cfc34c49c5aea99fde8041a70b44668e770cb37ce1dcbc4bca"), looks := true }, kinds := [], alts := [], laidByText := true, laidKinds := [.data, .data, .data, .data, .sentinel, .sentinel, .pinned], laidTests := true, laidLooks := .later }
def OrdersFormsUptoCardSaid : Prop := Claim7.holds Tryz.pinned (.plain (OpenSpec.upto ordersFormsSpec)) ordersFormsUptoCard

/-- THE SECOND FORM's CARD OF 'pinakeslaw24.OrdersOpens'. -/
def ordersOpensUptoCard : Claim7 := { stood := { row := ordersOpensUptoRow, standIns := [], harness := (true, "6c28e16bcd4cb1cfc34c49c5aea99fde8041a70b44668e770cb37ce1dcbc4bca"), looks := true }, kinds := [], alts := [], laidByText := true, laidKinds := [.data, .data, .data, .data, .sentinel, .sentinel, .pinned], laidTests := true, laidLooks := .later }
def OrdersOpensUptoCardSaid : Prop := Claim7.holds Tryz.pinned (.plain (OpenSpec.upto ordersOpensSpec)) ordersOpensUptoCard
end Rows
end Go.Proofs.YtifekogdhjabaaaGreatDoor
