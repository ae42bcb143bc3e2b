/-
  DERIVED. GIVEN WITH THE SEED: THE CARDS: each row of YtbamklefagghcaaDoorRows.lean that lists a variable, with what it lists TIED to the program's text (the seventh form; the later family's looks); each row that meets fmt, with fmt's text TOLD by the authors' own Lean function (tested against real Go, not proved from fmt's source: count such statements apart). THE CARD IS WHAT COUNTS. Prove the row's statement (the work); the ties are given (YtbamklefagghcaaDoorTie.lean); close each card by the builder's one call (the guide's Derived/Test/ToyasCard.lean, 'card_holds'). Laid BY PROGRAM, IN A SANDBOX (cutbox-door.mjs). By AI agents, Wed Nov 11 2026. No macro, syntax, notation, axiom, sorry.
-/
import Derived.Test.YtbamklefagghcaaDoorRows
import GoSem.ClaimSeven
namespace Go.Proofs.YtbamklefagghcaaDoor
namespace Rows

/-- THE TIED CARD OF 'pinakeslaw22.EdifactParses'. -/
def edifactParsesCard : Claim7 := { stood := { row := edifactParsesRow, standIns := [], harness := (true, "19e9057c521a3cf73bfddac94dedad8366108016edd1e6c82c4b181c11c23884"), looks := false }, kinds := [], alts := [], laidByText := true, laidKinds := [.data, .data, .data, .data, .pinned], laidTests := true, laidLooks := .later }
def EdifactParsesCardSaid : Prop := Claim7.holds Tryd.pinned (.plain (OpenSpec.ofChange edifactParsesSpec)) edifactParsesCard

/-- THE TIED CARD OF 'pinakeslaw22.EdifactWrites'. -/
def edifactWritesCard : Claim7 := { stood := { row := edifactWritesRow, standIns := [], harness := (true, "19e9057c521a3cf73bfddac94dedad8366108016edd1e6c82c4b181c11c23884"), looks := false }, kinds := [], alts := [], laidByText := true, laidKinds := [.data, .data, .data, .data, .pinned], laidTests := true, laidLooks := .later }
def EdifactWritesCardSaid : Prop := Claim7.holds Tryd.pinned (.plain (OpenSpec.ofChange edifactWritesSpec)) edifactWritesCard

/-- THE TIED CARD OF 'pinakeslaw22.EdifactSigns'. -/
def edifactSignsCard : Claim7 := { stood := { row := edifactSignsRow, standIns := [], harness := (true, "19e9057c521a3cf73bfddac94dedad8366108016edd1e6c82c4b181c11c23884"), looks := false }, kinds := [], alts := [], laidByText := true, laidKinds := [.data, .data, .data, .data, .pinned], laidTests := true, laidLooks := .later }
def EdifactSignsCardSaid : Prop := Claim7.holds Tryd.pinned (.plain (OpenSpec.ofChange edifactSignsSpec)) edifactSignsCard

/-- THE SECOND FORM's CARD OF 'pinakeslaw22.EdifactParses'. -/
def edifactParsesUptoCard : Claim7 := { stood := { row := edifactParsesUptoRow, standIns := [], harness := (true, "19e9057c521a3cf73bfddac94dedad8366108016edd1e6c82c4b181c11c23884"), looks := false }, kinds := [], alts := [], laidByText := true, laidKinds := [.data, .data, .data, .data, .pinned], laidTests := true, laidLooks := .later }
def EdifactParsesUptoCardSaid : Prop := Claim7.holds Tryd.pinned (.plain (OpenSpec.upto edifactParsesSpec)) edifactParsesUptoCard

/-- THE SECOND FORM's CARD OF 'pinakeslaw22.EdifactWrites'. -/
def edifactWritesUptoCard : Claim7 := { stood := { row := edifactWritesUptoRow, standIns := [], harness := (true, "19e9057c521a3cf73bfddac94dedad8366108016edd1e6c82c4b181c11c23884"), looks := false }, kinds := [], alts := [], laidByText := true, laidKinds := [.data, .data, .data, .data, .pinned], laidTests := true, laidLooks := .later }
def EdifactWritesUptoCardSaid : Prop := Claim7.holds Tryd.pinned (.plain (OpenSpec.upto edifactWritesSpec)) edifactWritesUptoCard

/-- THE SECOND FORM's CARD OF 'pinakeslaw22.EdifactSigns'. -/
def edifactSignsUptoCard : Claim7 := { stood := { row := edifactSignsUptoRow, standIns := [], harness := (true, "19e9057c521a3cf73bfddac94dedad8366108016edd1e6c82c4b181c11c23884"), looks := false }, kinds := [], alts := [], laidByText := true, laidKinds := [.data, .data, .data, .data, .pinned], laidTests := true, laidLooks := .later }
def EdifactSignsUptoCardSaid : Prop := Claim7.holds Tryd.pinned (.plain (OpenSpec.upto edifactSignsSpec)) edifactSignsUptoCard
end Rows
end Go.Proofs.YtbamklefagghcaaDoor
