/-
  DERIVED. GIVEN WITH THE SEED: THE CARDS: each row of YtafannhhkfpbeaaDoorRows.lean that lists a variable, with what it lists TIED to the program's text (the seventh form; the later family's looks); each row that meets fmt, with fmt's text TOLD by the authors' own Lean function (tested against real Go, not proved from fmt's source: count such statements apart). THE CARD IS WHAT COUNTS. Prove the row's statement (the work); the ties are given (YtafannhhkfpbeaaDoorTie.lean); close each card by the builder's one call (the guide's Derived/Test/ToyasCard.lean, 'card_holds'). Laid BY PROGRAM, IN A SANDBOX (cutbox-door.mjs). By AI agents, Wed Nov 11 2026. No macro, syntax, notation, axiom, sorry.
-/
import Derived.Test.YtafannhhkfpbeaaDoorRows
import GoSem.ClaimSeven
namespace Go.Proofs.YtafannhhkfpbeaaDoor
namespace Rows

/-- THE TIED CARD OF 'pinakeslaw25.SerialsInverse'. -/
def serialsInverseCard : Claim7 := { stood := { row := serialsInverseRow, standIns := [], harness := (true, "ef2ec07f3c630430304bf7788360714d4edd57c6931796318aa783d9d4d3fb9f"), looks := true }, kinds := [], alts := [], laidByText := true, laidKinds := [.data, .data, .data, .data, .sentinel, .sentinel, .pinned], laidTests := true, laidLooks := .later }
def SerialsInverseCardSaid : Prop := Claim7.holds Tryd.pinned (.plain (OpenSpec.ofChange serialsInverseSpec)) serialsInverseCard

/-- THE TIED CARD OF 'pinakeslaw25.SerialsMany'. -/
def serialsManyCard : Claim7 := { stood := { row := serialsManyRow, standIns := [], harness := (true, "ef2ec07f3c630430304bf7788360714d4edd57c6931796318aa783d9d4d3fb9f"), looks := true }, kinds := [], alts := [], laidByText := true, laidKinds := [.data, .data, .data, .data, .sentinel, .sentinel, .pinned], laidTests := true, laidLooks := .later }
def SerialsManyCardSaid : Prop := Claim7.holds Tryd.pinned (.plain (OpenSpec.ofChange serialsManySpec)) serialsManyCard

/-- THE SECOND FORM's CARD OF 'pinakeslaw25.SerialsInverse'. -/
def serialsInverseUptoCard : Claim7 := { stood := { row := serialsInverseUptoRow, standIns := [], harness := (true, "ef2ec07f3c630430304bf7788360714d4edd57c6931796318aa783d9d4d3fb9f"), looks := true }, kinds := [], alts := [], laidByText := true, laidKinds := [.data, .data, .data, .data, .sentinel, .sentinel, .pinned], laidTests := true, laidLooks := .later }
def SerialsInverseUptoCardSaid : Prop := Claim7.holds Tryd.pinned (.plain (OpenSpec.upto serialsInverseSpec)) serialsInverseUptoCard

/-- THE SECOND FORM's CARD OF 'pinakeslaw25.SerialsMany'. -/
def serialsManyUptoCard : Claim7 := { stood := { row := serialsManyUptoRow, standIns := [], harness := (true, "ef2ec07f3c630430304bf7788360714d4edd57c6931796318aa783d9d4d3fb9f"), looks := true }, kinds := [], alts := [], laidByText := true, laidKinds := [.data, .data, .data, .data, .sentinel, .sentinel, .pinned], laidTests := true, laidLooks := .later }
def SerialsManyUptoCardSaid : Prop := Claim7.holds Tryd.pinned (.plain (OpenSpec.upto serialsManySpec)) serialsManyUptoCard
end Rows
end Go.Proofs.YtafannhhkfpbeaaDoor
