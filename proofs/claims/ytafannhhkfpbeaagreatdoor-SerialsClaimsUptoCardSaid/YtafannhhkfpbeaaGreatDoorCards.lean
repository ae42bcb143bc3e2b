/-
  DERIVED. GIVEN WITH THE SEED: THE CARDS: each row of YtafannhhkfpbeaaGreatDoorRows.lean that lists a variable, with what it lists TIED to the program's text (the seventh form; the later family's looks); each row that meets fmt, with fmt's text TOLD by the authors' own Lean function (tested against real Go, not proved from fmt's source: count such statements apart). THE CARD IS WHAT COUNTS. Prove the row's statement (the work); the ties are given (YtafannhhkfpbeaaGreatDoorTie.lean); close each card by the builder's one call (the guide's Derived/Test/ToyasCard.lean, 'card_holds'). Laid BY PROGRAM, IN A SANDBOX (cutbox-door.mjs). By AI agents, Wed Nov 11 2026. No macro, syntax, notation, axiom, sorry.
-/
import Derived.Test.YtafannhhkfpbeaaGreatDoorRows
import GoSem.ClaimSeven
namespace Go.Proofs.YtafannhhkfpbeaaGreatDoor
namespace Rows

/-- THE TIED CARD OF 'pinakeslaw25.SerialsPredict'. -/
def serialsPredictCard : Claim7 := { stood := { row := serialsPredictRow, standIns := [], harness := (true, "3d5576d9d94e91b3e92c8fdaaa713599ebe8ea91001f6dc1fcb8eafdbe7c6cb0"), looks := true }, kinds := [], alts := [], laidByText := true, laidKinds := [.data, .data, .data, .data, .sentinel, .sentinel, .pinned], laidTests := true, laidLooks := .later }
def SerialsPredictCardSaid : Prop := Claim7.holds Tryz.pinned (.plain (OpenSpec.ofChange serialsPredictSpec)) serialsPredictCard

/-- THE TIED CARD OF 'pinakeslaw25.SerialsTexts'. -/
def serialsTextsCard : Claim7 := { stood := { row := serialsTextsRow, standIns := [], harness := (true, "3d5576d9d94e91b3e92c8fdaaa713599ebe8ea91001f6dc1fcb8eafdbe7c6cb0"), looks := true }, kinds := [], alts := [], laidByText := true, laidKinds := [.data, .data, .data, .data, .sentinel, .sentinel, .pinned], laidTests := true, laidLooks := .later }
def SerialsTextsCardSaid : Prop := Claim7.holds Tryz.pinned (.plain (OpenSpec.ofChange serialsTextsSpec)) serialsTextsCard

/-- THE TIED CARD OF 'pinakeslaw25.SerialsClaims'. -/
def serialsClaimsCard : Claim7 := { stood := { row := serialsClaimsRow, standIns := [], harness := (true, "3d5576d9d94e91b3e92c8fdaaa713599ebe8ea91001f6dc1fcb8eafdbe7c6cb0"), looks := true }, kinds := [], alts := [], laidByText := true, laidKinds := [.data, .data, .data, .data, .sentinel, .sentinel, .pinned], laidTests := true, laidLooks := .later }
def SerialsClaimsCardSaid : Prop := Claim7.holds Tryz.pinned (.plain (OpenSpec.ofChange serialsClaimsSpec)) serialsClaimsCard

/-- THE SECOND FORM's CARD OF 'pinakeslaw25.SerialsPredict'. -/
def serialsPredictUptoCard : Claim7 := { stood := { row := serialsPredictUptoRow, standIns := [], harness := (true, "3d5576d9d94e91b3e92c8fdaaa713599ebe8ea91001f6dc1fcb8eafdbe7c6cb0"), looks := true }, kinds := [], alts := [], laidByText := true, laidKinds := [.data, .data, .data, .data, .sentinel, .sentinel, .pinned], laidTests := true, laidLooks := .later }
def SerialsPredictUptoCardSaid : Prop := Claim7.holds Tryz.pinned (.plain (OpenSpec.upto serialsPredictSpec)) serialsPredictUptoCard

/-- THE SECOND FORM's CARD OF 'pinakeslaw25.SerialsTexts'. -/
def serialsTextsUptoCard : Claim7 := { stood := { row := serialsTextsUptoRow, standIns := [], harness := (true, "3d5576d9d94e91b3e92c8fdaaa713599ebe8ea91001f6dc1fcb8eafdbe7c6cb0"), looks := true }, kinds := [], alts := [], laidByText := true, laidKinds := [.data, .data, .data, .data, .sentinel, .sentinel, .pinned], laidTests := true, laidLooks := .later }
def SerialsTextsUptoCardSaid : Prop := Claim7.holds Tryz.pinned (.plain (OpenSpec.upto serialsTextsSpec)) serialsTextsUptoCard

/-- THE SECOND FORM's CARD OF 'pinakeslaw25.SerialsClaims'. -/
def serialsClaimsUptoCard : Claim7 := { stood := { row := serialsClaimsUptoRow, standIns := [], harness := (true, "3d5576d9d94e91b3e92c8fdaaa713599ebe8ea91001f6dc1fcb8eafdbe7c6cb0"), looks := true }, kinds := [], alts := [], laidByText := true, laidKinds := [.data, .data, .data, .data, .sentinel, .sentinel, .pinned], laidTests := true, laidLooks := .later }
def SerialsClaimsUptoCardSaid : Prop := Claim7.holds Tryz.pinned (.plain (OpenSpec.upto serialsClaimsSpec)) serialsClaimsUptoCard
end Rows
end Go.Proofs.YtafannhhkfpbeaaGreatDoor
