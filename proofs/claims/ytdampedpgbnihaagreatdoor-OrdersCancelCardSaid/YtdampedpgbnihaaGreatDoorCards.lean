/-
  DERIVED. GIVEN WITH THE SEED: THE CARDS: each row of YtdampedpgbnihaaGreatDoorRows.lean that lists a variable, with what it lists TIED to the program's text (the seventh form; the later family's looks); each row that meets fmt, with fmt's text TOLD by the authors' own Lean function (tested against real Go, not proved from fmt's source: count such statements apart). THE CARD IS WHAT COUNTS. Prove the row's statement (the work); the ties are given (YtdampedpgbnihaaGreatDoorTie.lean); close each card by the builder's one call (the guide's Derived/Test/ToyasCard.lean, 'card_holds'). Laid BY PROGRAM, IN A SANDBOX (cutbox-door.mjs). By AI agents, Wed Nov 11 2026. No macro, syntax, notation, axiom, sorry.
-/
import Derived.Test.YtdampedpgbnihaaGreatDoorRows
import GoSem.ClaimSeven
namespace Go.Proofs.YtdampedpgbnihaaGreatDoor
namespace Rows

/-- THE TIED CARD OF 'pinakeslaw24.OrdersNear'. -/
def ordersNearCard : Claim7 := { stood := { row := ordersNearRow, standIns := [], harness := (true, "8d4d07ac1fdb7298a618e3e1a3bd4ef676df5d1151e67d2f76a41d9ee315f473"), looks := true }, kinds := [], alts := [], laidByText := true, laidKinds := [.data, .data, .data, .data, .sentinel, .sentinel, .pinned], laidTests := true, laidLooks := .later }
def OrdersNearCardSaid : Prop := Claim7.holds Tryz.pinned (.plain (OpenSpec.ofChange ordersNearSpec)) ordersNearCard

/-- THE TIED CARD OF 'pinakeslaw24.OrdersThree'. -/
def ordersThreeCard : Claim7 := { stood := { row := ordersThreeRow, standIns := [], harness := (true, "8d4d07ac1fdb7298a618e3e1a3bd4ef676df5d1151e67d2f76a41d9ee315f473"), looks := true }, kinds := [], alts := [], laidByText := true, laidKinds := [.data, .data, .data, .data, .sentinel, .sentinel, .pinned], laidTests := true, laidLooks := .later }
def OrdersThreeCardSaid : Prop := Claim7.holds Tryz.pinned (.plain (OpenSpec.ofChange ordersThreeSpec)) ordersThreeCard

/-- THE TIED CARD OF 'pinakeslaw24.OrdersCancel'. -/
def ordersCancelCard : Claim7 := { stood := { row := ordersCancelRow, standIns := [], harness := (true, "8d4d07ac1fdb7298a618e3e1a3bd4ef676df5d1151e67d2f76a41d9ee315f473"), looks := true }, kinds := [], alts := [], laidByText := true, laidKinds := [.data, .data, .data, .data, .sentinel, .sentinel, .pinned], laidTests := true, laidLooks := .later }
def OrdersCancelCardSaid : Prop := Claim7.holds Tryz.pinned (.plain (OpenSpec.ofChange ordersCancelSpec)) ordersCancelCard

/-- THE SECOND FORM's CARD OF 'pinakeslaw24.OrdersNear'. -/
def ordersNearUptoCard : Claim7 := { stood := { row := ordersNearUptoRow, standIns := [], harness := (true, "8d4d07ac1fdb7298a618e3e1a3bd4ef676df5d1151e67d2f76a41d9ee315f473"), looks := true }, kinds := [], alts := [], laidByText := true, laidKinds := [.data, .data, .data, .data, .sentinel, .sentinel, .pinned], laidTests := true, laidLooks := .later }
def OrdersNearUptoCardSaid : Prop := Claim7.holds Tryz.pinned (.plain (OpenSpec.upto ordersNearSpec)) ordersNearUptoCard

/-- THE SECOND FORM's CARD OF 'pinakeslaw24.OrdersThree'. -/
def ordersThreeUptoCard : Claim7 := { stood := { row := ordersThreeUptoRow, standIns := [], harness := (true, "8d4d07ac1fdb7298a618e3e1a3bd4ef676df5d1151e67d2f76a41d9ee315f473"), looks := true }, kinds := [], alts := [], laidByText := true, laidKinds := [.data, .data, .data, .data, .sentinel, .sentinel, .pinned], laidTests := true, laidLooks := .later }
def OrdersThreeUptoCardSaid : Prop := Claim7.holds Tryz.pinned (.plain (OpenSpec.upto ordersThreeSpec)) ordersThreeUptoCard

/-- THE SECOND FORM's CARD OF 'pinakeslaw24.OrdersCancel'. -/
def ordersCancelUptoCard : Claim7 := { stood := { row := ordersCancelUptoRow, standIns := [], harness := (true, "8d4d07ac1fdb7298a618e3e1a3bd4ef676df5d1151e67d2f76a41d9ee315f473"), looks := true }, kinds := [], alts := [], laidByText := true, laidKinds := [.data, .data, .data, .data, .sentinel, .sentinel, .pinned], laidTests := true, laidLooks := .later }
def OrdersCancelUptoCardSaid : Prop := Claim7.holds Tryz.pinned (.plain (OpenSpec.upto ordersCancelSpec)) ordersCancelUptoCard
end Rows
end Go.Proofs.YtdampedpgbnihaaGreatDoor
