/-
  DERIVED. GIVEN WITH THE SEED: THE CARDS: each row of YtaniaihoodgmpaaGreatDoorRows.lean that lists a variable, with what it lists TIED to the program's text (the seventh form; the later family's looks); each row that meets fmt, with fmt's text TOLD by the authors' own Lean function (tested against real Go, not proved from fmt's source: count such statements apart). THE CARD IS WHAT COUNTS. Prove the row's statement (the work); the ties are given (YtaniaihoodgmpaaGreatDoorTie.lean); close each card by the builder's one call (the guide's Derived/Test/ToyasCard.lean, 'card_holds'). Laid BY PROGRAM, IN A SANDBOX (cutbox-door.mjs). By AI agents, Wed Nov 11 2026. No macro, syntax, notation, axiom, sorry.
-/
import Derived.Test.YtaniaihoodgmpaaGreatDoorRows
import GoSem.ClaimSeven
namespace Go.Proofs.YtaniaihoodgmpaaGreatDoor
namespace Rows

/-- THE TIED CARD OF 'pinakeslaw25.SerialsPlays'. -/
def serialsPlaysCard : Claim7 := { stood := { row := serialsPlaysRow, standIns := [], harness := (true, "9eeca14e5dde8afbdc3be696a50edd1e330d2c2188582a46c2e88121bd0ac0a4"), looks := true }, kinds := [], alts := [], laidByText := true, laidKinds := [.data, .data, .data, .data, .sentinel, .sentinel, .pinned], laidTests := true, laidLooks := .later }
def SerialsPlaysCardSaid : Prop := Claim7.holds Tryz.pinned (.plain (OpenSpec.ofChange serialsPlaysSpec)) serialsPlaysCard

/-- THE TIED CARD OF 'pinakeslaw25.SerialsOrder'. -/
def serialsOrderCard : Claim7 := { stood := { row := serialsOrderRow, standIns := [], harness := (true, "9eeca14e5dde8afbdc3be696a50edd1e330d2c2188582a46c2e88121bd0ac0a4"), looks := true }, kinds := [], alts := [], laidByText := true, laidKinds := [.data, .data, .data, .data, .sentinel, .sentinel, .pinned], laidTests := true, laidLooks := .later }
def SerialsOrderCardSaid : Prop := Claim7.holds Tryz.pinned (.plain (OpenSpec.ofChange serialsOrderSpec)) serialsOrderCard

/-- THE TIED CARD OF 'pinakeslaw25.SerialsKeeps'. -/
def serialsKeepsCard : Claim7 := { stood := { row := serialsKeepsRow, standIns := [], harness := (true, "9eeca14e5dde8afbdc3be696a50edd1e330d2c2188582a46c2e88121bd0ac0a4"), looks := true }, kinds := [], alts := [], laidByText := true, laidKinds := [.data, .data, .data, .data, .sentinel, .sentinel, .pinned], laidTests := true, laidLooks := .later }
def SerialsKeepsCardSaid : Prop := Claim7.holds Tryz.pinned (.plain (OpenSpec.ofChange serialsKeepsSpec)) serialsKeepsCard

/-- THE TIED CARD OF 'pinakeslaw25.SerialsOpens'. -/
def serialsOpensCard : Claim7 := { stood := { row := serialsOpensRow, standIns := [], harness := (true, "9eeca14e5dde8afbdc3be696a50edd1e330d2c2188582a46c2e88121bd0ac0a4"), looks := true }, kinds := [], alts := [], laidByText := true, laidKinds := [.data, .data, .data, .data, .sentinel, .sentinel, .pinned], laidTests := true, laidLooks := .later }
def SerialsOpensCardSaid : Prop := Claim7.holds Tryz.pinned (.plain (OpenSpec.ofChange serialsOpensSpec)) serialsOpensCard

/-- THE TIED CARD OF 'pinakeslaw25.SerialsNil'. -/
def serialsNilCard : Claim7 := { stood := { row := serialsNilRow, standIns := [], harness := (true, "9eeca14e5dde8afbdc3be696a50edd1e330d2c2188582a46c2e88121bd0ac0a4"), looks := true }, kinds := [], alts := [], laidByText := true, laidKinds := [.data, .data, .data, .data, .sentinel, .sentinel, .pinned], laidTests := true, laidLooks := .later }
def SerialsNilCardSaid : Prop := Claim7.holds Tryz.pinned (.plain (OpenSpec.ofChange serialsNilSpec)) serialsNilCard

/-- THE SECOND FORM's CARD OF 'pinakeslaw25.SerialsPlays'. -/
def serialsPlaysUptoCard : Claim7 := { stood := { row := serialsPlaysUptoRow, standIns := [], harness := (true, "9eeca14e5dde8afbdc3be696a50edd1e330d2c2188582a46c2e88121bd0ac0a4"), looks := true }, kinds := [], alts := [], laidByText := true, laidKinds := [.data, .data, .data, .data, .sentinel, .sentinel, .pinned], laidTests := true, laidLooks := .later }
def SerialsPlaysUptoCardSaid : Prop := Claim7.holds Tryz.pinned (.plain (OpenSpec.upto serialsPlaysSpec)) serialsPlaysUptoCard

/-- THE SECOND FORM's CARD OF 'pinakeslaw25.SerialsOrder'. -/
def serialsOrderUptoCard : Claim7 := { stood := { row := serialsOrderUptoRow, standIns := [], harness := (true, "9eeca14e5dde8afbdc3be696a50edd1e330d2c2188582a46c2e88121bd0ac0a4"), looks := true }, kinds := [], alts := [], laidByText := true, laidKinds := [.data, .data, .data, .data, .sentinel, .sentinel, .pinned], laidTests := true, laidLooks := .later }
def SerialsOrderUptoCardSaid : Prop := Claim7.holds Tryz.pinned (.plain (OpenSpec.upto serialsOrderSpec)) serialsOrderUptoCard

/-- THE SECOND FORM's CARD OF 'pinakeslaw25.SerialsKeeps'. -/
def serialsKeepsUptoCard : Claim7 := { stood := { row := serialsKeepsUptoRow, standIns := [], harness := (true, "9eeca14e5dde8afbdc3be696a50edd1e330d2c2188582a46c2e88121bd0ac0a4"), looks := true }, kinds := [], alts := [], laidByText := true, laidKinds := [.data, .data, .data, .data, .sentinel, .sentinel, .pinned], laidTests := true, laidLooks := .later }
def SerialsKeepsUptoCardSaid : Prop := Claim7.holds Tryz.pinned (.plain (OpenSpec.upto serialsKeepsSpec)) serialsKeepsUptoCard

/-- THE SECOND FORM's CARD OF 'pinakeslaw25.SerialsOpens'. -/
def serialsOpensUptoCard : Claim7 := { stood := { row := serialsOpensUptoRow, standIns := [], harness := (true, "9eeca14e5dde8afbdc3be696a50edd1e330d2c2188582a46c2e88121bd0ac0a4"), looks := true }, kinds := [], alts := [], laidByText := true, laidKinds := [.data, .data, .data, .data, .sentinel, .sentinel, .pinned], laidTests := true, laidLooks := .later }
def SerialsOpensUptoCardSaid : Prop := Claim7.holds Tryz.pinned (.plain (OpenSpec.upto serialsOpensSpec)) serialsOpensUptoCard

/-- THE SECOND FORM's CARD OF 'pinakeslaw25.SerialsNil'. -/
def serialsNilUptoCard : Claim7 := { stood := { row := serialsNilUptoRow, standIns := [], harness := (true, "9eeca14e5dde8afbdc3be696a50edd1e330d2c2188582a46c2e88121bd0ac0a4"), looks := true }, kinds := [], alts := [], laidByText := true, laidKinds := [.data, .data, .data, .data, .sentinel, .sentinel, .pinned], laidTests := true, laidLooks := .later }
def SerialsNilUptoCardSaid : Prop := Claim7.holds Tryz.pinned (.plain (OpenSpec.upto serialsNilSpec)) serialsNilUptoCard
end Rows
end Go.Proofs.YtaniaihoodgmpaaGreatDoor
