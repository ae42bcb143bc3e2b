/-
  DERIVED. GIVEN WITH THE SEED: THE CARDS: each row of YtffdbbcmibamjaaDoorRows.lean that lists a variable, with what it lists TIED to the program's text (the seventh form; the later family's looks); each row that meets fmt, with fmt's text TOLD by the authors' own Lean function (tested against real Go, not proved from fmt's source: count such statements apart). THE CARD IS WHAT COUNTS. Prove the row's statement (the work); the ties are given (YtffdbbcmibamjaaDoorTie.lean); close each card by the builder's one call (the guide's Derived/Test/ToyasCard.lean, 'card_holds'). Laid BY PROGRAM, IN A SANDBOX (cutbox-door.mjs). By AI agents, Wed Nov 11 2026. No macro, syntax, notation, axiom, sorry.
-/
import Derived.Test.YtffdbbcmibamjaaDoorRows
import GoSem.ClaimSeven
namespace Go.Proofs.YtffdbbcmibamjaaDoor
namespace Rows

/-- THE TIED CARD OF 'pinakeslaw14.CalendarDays'. -/
def calendarDaysCard : Claim7 := { stood := { row := calendarDaysRow, standIns := [], harness := (true, "beae84e81fa1f0ead0494b9618169f21a3bba92d76aca15c5f0512c20b5c6ab2"), looks := true }, kinds := [], alts := [], laidByText := true, laidKinds := [.data, .data, .data, .sentinel, .sentinel], laidTests := true, laidLooks := .later }
def CalendarDaysCardSaid : Prop := Claim7.holds Tryd.pinned (.plain (OpenSpec.ofChange calendarDaysSpec)) calendarDaysCard

/-- THE TIED CARD OF 'pinakeslaw14.CalendarCivil'. -/
def calendarCivilCard : Claim7 := { stood := { row := calendarCivilRow, standIns := [], harness := (true, "beae84e81fa1f0ead0494b9618169f21a3bba92d76aca15c5f0512c20b5c6ab2"), looks := true }, kinds := [], alts := [], laidByText := true, laidKinds := [.data, .data, .data, .sentinel, .sentinel], laidTests := true, laidLooks := .later }
def CalendarCivilCardSaid : Prop := Claim7.holds Tryd.pinned (.plain (OpenSpec.ofChange calendarCivilSpec)) calendarCivilCard

/-- THE TIED CARD OF 'pinakeslaw14.CalendarSteps'. -/
def calendarStepsCard : Claim7 := { stood := { row := calendarStepsRow, standIns := [], harness := (true, "beae84e81fa1f0ead0494b9618169f21a3bba92d76aca15c5f0512c20b5c6ab2"), looks := true }, kinds := [], alts := [], laidByText := true, laidKinds := [.data, .data, .data, .sentinel, .sentinel], laidTests := true, laidLooks := .later }
def CalendarStepsCardSaid : Prop := Claim7.holds Tryd.pinned (.plain (OpenSpec.ofChange calendarStepsSpec)) calendarStepsCard

/-- THE TIED CARD OF 'pinakeslaw14.CalendarNext'. -/
def calendarNextCard : Claim7 := { stood := { row := calendarNextRow, standIns := [], harness := (true, "beae84e81fa1f0ead0494b9618169f21a3bba92d76aca15c5f0512c20b5c6ab2"), looks := true }, kinds := [], alts := [], laidByText := true, laidKinds := [.data, .data, .data, .sentinel, .sentinel], laidTests := true, laidLooks := .later }
def CalendarNextCardSaid : Prop := Claim7.holds Tryd.pinned (.plain (OpenSpec.ofChange calendarNextSpec)) calendarNextCard

/-- THE TIED CARD OF 'pinakeslaw14.CalendarCounts'. -/
def calendarCountsCard : Claim7 := { stood := { row := calendarCountsRow, standIns := [], harness := (true, "beae84e81fa1f0ead0494b9618169f21a3bba92d76aca15c5f0512c20b5c6ab2"), looks := true }, kinds := [], alts := [], laidByText := true, laidKinds := [.data, .data, .data, .sentinel, .sentinel], laidTests := true, laidLooks := .later }
def CalendarCountsCardSaid : Prop := Claim7.holds Tryd.pinned (.plain (OpenSpec.ofChange calendarCountsSpec)) calendarCountsCard

/-- THE TIED CARD OF 'pinakeslaw14.CalendarSums'. -/
def calendarSumsCard : Claim7 := { stood := { row := calendarSumsRow, standIns := [], harness := (true, "beae84e81fa1f0ead0494b9618169f21a3bba92d76aca15c5f0512c20b5c6ab2"), looks := true }, kinds := [], alts := [], laidByText := true, laidKinds := [.data, .data, .data, .sentinel, .sentinel], laidTests := true, laidLooks := .later }
def CalendarSumsCardSaid : Prop := Claim7.holds Tryd.pinned (.plain (OpenSpec.ofChange calendarSumsSpec)) calendarSumsCard

/-- THE TIED CARD OF 'pinakeslaw14.CalendarReads'. -/
def calendarReadsCard : Claim7 := { stood := { row := calendarReadsRow, standIns := [], harness := (true, "beae84e81fa1f0ead0494b9618169f21a3bba92d76aca15c5f0512c20b5c6ab2"), looks := true }, kinds := [], alts := [], laidByText := true, laidKinds := [.data, .data, .data, .sentinel, .sentinel], laidTests := true, laidLooks := .later }
def CalendarReadsCardSaid : Prop := Claim7.holds Tryd.pinned (.plain (OpenSpec.ofChange calendarReadsSpec)) calendarReadsCard

/-- THE TIED CARD OF 'pinakeslaw14.CalendarOpen'. -/
def calendarOpenCard : Claim7 := { stood := { row := calendarOpenRow, standIns := [], harness := (true, "beae84e81fa1f0ead0494b9618169f21a3bba92d76aca15c5f0512c20b5c6ab2"), looks := true }, kinds := [], alts := [], laidByText := true, laidKinds := [.data, .data, .data, .sentinel, .sentinel], laidTests := true, laidLooks := .later }
def CalendarOpenCardSaid : Prop := Claim7.holds Tryd.pinned (.plain (OpenSpec.ofChange calendarOpenSpec)) calendarOpenCard

/-- THE TIED CARD OF 'pinakeslaw14.CalendarFar'. -/
def calendarFarCard : Claim7 := { stood := { row := calendarFarRow, standIns := [], harness := (true, "beae84e81fa1f0ead0494b9618169f21a3bba92d76aca15c5f0512c20b5c6ab2"), looks := true }, kinds := [], alts := [], laidByText := true, laidKinds := [.data, .data, .data, .sentinel, .sentinel], laidTests := true, laidLooks := .later }
def CalendarFarCardSaid : Prop := Claim7.holds Tryd.pinned (.plain (OpenSpec.ofChange calendarFarSpec)) calendarFarCard

/-- THE SECOND FORM's CARD OF 'pinakeslaw14.CalendarDays'. -/
def calendarDaysUptoCard : Claim7 := { stood := { row := calendarDaysUptoRow, standIns := [], harness := (true, "beae84e81fa1f0ead0494b9618169f21a3bba92d76aca15c5f0512c20b5c6ab2"), looks := true }, kinds := [], alts := [], laidByText := true, laidKinds := [.data, .data, .data, .sentinel, .sentinel], laidTests := true, laidLooks := .later }
def CalendarDaysUptoCardSaid : Prop := Claim7.holds Tryd.pinned (.plain (OpenSpec.upto calendarDaysSpec)) calendarDaysUptoCard

/-- THE SECOND FORM's CARD OF 'pinakeslaw14.CalendarCivil'. -/
def calendarCivilUptoCard : Claim7 := { stood := { row := calendarCivilUptoRow, standIns := [], harness := (true, "beae84e81fa1f0ead0494b9618169f21a3bba92d76aca15c5f0512c20b5c6ab2"), looks := true }, kinds := [], alts := [], laidByText := true, laidKinds := [.data, .data, .data, .sentinel, .sentinel], laidTests := true, laidLooks := .later }
def CalendarCivilUptoCardSaid : Prop := Claim7.holds Tryd.pinned (.plain (OpenSpec.upto calendarCivilSpec)) calendarCivilUptoCard

/-- THE SECOND FORM's CARD OF 'pinakeslaw14.CalendarSteps'. -/
def calendarStepsUptoCard : Claim7 := { stood := { row := calendarStepsUptoRow, standIns := [], harness := (true, "beae84e81fa1f0ead0494b9618169f21a3bba92d76aca15c5f0512c20b5c6ab2"), looks := true }, kinds := [], alts := [], laidByText := true, laidKinds := [.data, .data, .data, .sentinel, .sentinel], laidTests := true, laidLooks := .later }
def CalendarStepsUptoCardSaid : Prop := Claim7.holds Tryd.pinned (.plain (OpenSpec.upto calendarStepsSpec)) calendarStepsUptoCard

/-- THE SECOND FORM's CARD OF 'pinakeslaw14.CalendarNext'. -/
def calendarNextUptoCard : Claim7 := { stood := { row := calendarNextUptoRow, standIns := [], harness := (true, "beae84e81fa1f0ead0494b9618169f21a3bba92d76aca15c5f0512c20b5c6ab2"), looks := true }, kinds := [], alts := [], laidByText := true, laidKinds := [.data, .data, .data, .sentinel, .sentinel], laidTests := true, laidLooks := .later }
def CalendarNextUptoCardSaid : Prop := Claim7.holds Tryd.pinned (.plain (OpenSpec.upto calendarNextSpec)) calendarNextUptoCard

/-- THE SECOND FORM's CARD OF 'pinakeslaw14.CalendarCounts'. -/
def calendarCountsUptoCard : Claim7 := { stood := { row := calendarCountsUptoRow, standIns := [], harness := (true, "beae84e81fa1f0ead0494b9618169f21a3bba92d76aca15c5f0512c20b5c6ab2"), looks := true }, kinds := [], alts := [], laidByText := true, laidKinds := [.data, .data, .data, .sentinel, .sentinel], laidTests := true, laidLooks := .later }
def CalendarCountsUptoCardSaid : Prop := Claim7.holds Tryd.pinned (.plain (OpenSpec.upto calendarCountsSpec)) calendarCountsUptoCard

/-- THE SECOND FORM's CARD OF 'pinakeslaw14.CalendarSums'. -/
def calendarSumsUptoCard : Claim7 := { stood := { row := calendarSumsUptoRow, standIns := [], harness := (true, "beae84e81fa1f0ead0494b9618169f21a3bba92d76aca15c5f0512c20b5c6ab2"), looks := true }, kinds := [], alts := [], laidByText := true, laidKinds := [.data, .data, .data, .sentinel, .sentinel], laidTests := true, laidLooks := .later }
def CalendarSumsUptoCardSaid : Prop := Claim7.holds Tryd.pinned (.plain (OpenSpec.upto calendarSumsSpec)) calendarSumsUptoCard

/-- THE SECOND FORM's CARD OF 'pinakeslaw14.CalendarReads'. -/
def calendarReadsUptoCard : Claim7 := { stood := { row := calendarReadsUptoRow, standIns := [], harness := (true, "beae84e81fa1f0ead0494b9618169f21a3bba92d76aca15c5f0512c20b5c6ab2"), looks := true }, kinds := [], alts := [], laidByText := true, laidKinds := [.data, .data, .data, .sentinel, .sentinel], laidTests := true, laidLooks := .later }
def CalendarReadsUptoCardSaid : Prop := Claim7.holds Tryd.pinned (.plain (OpenSpec.upto calendarReadsSpec)) calendarReadsUptoCard

/-- THE SECOND FORM's CARD OF 'pinakeslaw14.CalendarOpen'. -/
def calendarOpenUptoCard : Claim7 := { stood := { row := calendarOpenUptoRow, standIns := [], harness := (true, "beae84e81fa1f0ead0494b9618169f21a3bba92d76aca15c5f0512c20b5c6ab2"), looks := true }, kinds := [], alts := [], laidByText := true, laidKinds := [.data, .data, .data, .sentinel, .sentinel], laidTests := true, laidLooks := .later }
def CalendarOpenUptoCardSaid : Prop := Claim7.holds Tryd.pinned (.plain (OpenSpec.upto calendarOpenSpec)) calendarOpenUptoCard

/-- THE SECOND FORM's CARD OF 'pinakeslaw14.CalendarFar'. -/
def calendarFarUptoCard : Claim7 := { stood := { row := calendarFarUptoRow, standIns := [], harness := (true, "beae84e81fa1f0ead0494b9618169f21a3bba92d76aca15c5f0512c20b5c6ab2"), looks := true }, kinds := [], alts := [], laidByText := true, laidKinds := [.data, .data, .data, .sentinel, .sentinel], laidTests := true, laidLooks := .later }
def CalendarFarUptoCardSaid : Prop := Claim7.holds Tryd.pinned (.plain (OpenSpec.upto calendarFarSpec)) calendarFarUptoCard
end Rows
end Go.Proofs.YtffdbbcmibamjaaDoor
