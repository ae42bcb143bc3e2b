/-
  DERIVED. GIVEN WITH THE SEED: THE CARDS: each row of YtnflcekodobdlaaGreatDoorRows.lean that lists a variable, with what it lists TIED to the program's text (the seventh form; the later family's looks); each row that meets fmt, with fmt's text TOLD by the authors' own Lean function (tested against real Go, not proved from fmt's source: count such statements apart). THE CARD IS WHAT COUNTS. Prove the row's statement (the work); the ties are given (YtnflcekodobdlaaGreatDoorTie.lean); close each card by the builder's one call (the guide's Derived/Test/ToyasCard.lean, 'card_holds'). Laid BY PROGRAM, IN A SANDBOX (cutbox-door.mjs). By AI agents, Wed Nov 11 2026. No macro, syntax, notation, axiom, sorry.
-/
import Derived.Test.YtnflcekodobdlaaGreatDoorRows
import GoSem.ClaimSeven
namespace Go.Proofs.YtnflcekodobdlaaGreatDoor
namespace Rows

/-- THE TIED CARD OF 'pinakeslaw08.AuthorityLineage'. -/
def authorityLineageCard : Claim7 := { stood := { row := authorityLineageRow, standIns := [], harness := (true, "37e16bc5700175d524f412a514737af9308d9f835db643dc44f58a722d4decad"), looks := true }, kinds := [], alts := [], laidByText := true, laidKinds := [.data, .data, .data, .sentinel, .sentinel], laidTests := true, laidLooks := .later }
def AuthorityLineageCardSaid : Prop := Claim7.holds Tryz.pinned (.plain (OpenSpec.ofChange authorityLineageSpec)) authorityLineageCard

/-- THE TIED CARD OF 'pinakeslaw08.AuthoritySplits'. -/
def authoritySplitsCard : Claim7 := { stood := { row := authoritySplitsRow, standIns := [], harness := (true, "37e16bc5700175d524f412a514737af9308d9f835db643dc44f58a722d4decad"), looks := true }, kinds := [], alts := [], laidByText := true, laidKinds := [.data, .data, .data, .sentinel, .sentinel], laidTests := true, laidLooks := .later }
def AuthoritySplitsCardSaid : Prop := Claim7.holds Tryz.pinned (.plain (OpenSpec.ofChange authoritySplitsSpec)) authoritySplitsCard

/-- THE TIED CARD OF 'pinakeslaw08.AuthorityRewrites'. -/
def authorityRewritesCard : Claim7 := { stood := { row := authorityRewritesRow, standIns := [], harness := (true, "37e16bc5700175d524f412a514737af9308d9f835db643dc44f58a722d4decad"), looks := true }, kinds := [], alts := [], laidByText := true, laidKinds := [.data, .data, .data, .sentinel, .sentinel], laidTests := true, laidLooks := .later }
def AuthorityRewritesCardSaid : Prop := Claim7.holds Tryz.pinned (.plain (OpenSpec.ofChange authorityRewritesSpec)) authorityRewritesCard

/-- THE TIED CARD OF 'pinakeslaw08.AuthorityMany'. -/
def authorityManyCard : Claim7 := { stood := { row := authorityManyRow, standIns := [], harness := (true, "37e16bc5700175d524f412a514737af9308d9f835db643dc44f58a722d4decad"), looks := true }, kinds := [], alts := [], laidByText := true, laidKinds := [.data, .data, .data, .sentinel, .sentinel], laidTests := true, laidLooks := .later }
def AuthorityManyCardSaid : Prop := Claim7.holds Tryz.pinned (.plain (OpenSpec.ofChange authorityManySpec)) authorityManyCard

/-- THE TIED CARD OF 'pinakeslaw08.AuthorityCircles'. -/
def authorityCirclesCard : Claim7 := { stood := { row := authorityCirclesRow, standIns := [], harness := (true, "37e16bc5700175d524f412a514737af9308d9f835db643dc44f58a722d4decad"), looks := true }, kinds := [], alts := [], laidByText := true, laidKinds := [.data, .data, .data, .sentinel, .sentinel], laidTests := true, laidLooks := .later }
def AuthorityCirclesCardSaid : Prop := Claim7.holds Tryz.pinned (.plain (OpenSpec.ofChange authorityCirclesSpec)) authorityCirclesCard

/-- THE TIED CARD OF 'pinakeslaw08.AuthorityFollows'. -/
def authorityFollowsCard : Claim7 := { stood := { row := authorityFollowsRow, standIns := [], harness := (true, "37e16bc5700175d524f412a514737af9308d9f835db643dc44f58a722d4decad"), looks := true }, kinds := [], alts := [], laidByText := true, laidKinds := [.data, .data, .data, .sentinel, .sentinel], laidTests := true, laidLooks := .later }
def AuthorityFollowsCardSaid : Prop := Claim7.holds Tryz.pinned (.plain (OpenSpec.ofChange authorityFollowsSpec)) authorityFollowsCard

/-- THE TIED CARD OF 'pinakeslaw08.AuthorityOrder'. -/
def authorityOrderCard : Claim7 := { stood := { row := authorityOrderRow, standIns := [], harness := (true, "37e16bc5700175d524f412a514737af9308d9f835db643dc44f58a722d4decad"), looks := true }, kinds := [], alts := [], laidByText := true, laidKinds := [.data, .data, .data, .sentinel, .sentinel], laidTests := true, laidLooks := .later }
def AuthorityOrderCardSaid : Prop := Claim7.holds Tryz.pinned (.plain (OpenSpec.ofChange authorityOrderSpec)) authorityOrderCard

/-- THE TIED CARD OF 'pinakeslaw08.AuthorityOld'. -/
def authorityOldCard : Claim7 := { stood := { row := authorityOldRow, standIns := [], harness := (true, "37e16bc5700175d524f412a514737af9308d9f835db643dc44f58a722d4decad"), looks := true }, kinds := [], alts := [], laidByText := true, laidKinds := [.data, .data, .data, .sentinel, .sentinel], laidTests := true, laidLooks := .later }
def AuthorityOldCardSaid : Prop := Claim7.holds Tryz.pinned (.plain (OpenSpec.ofChange authorityOldSpec)) authorityOldCard

/-- THE TIED CARD OF 'pinakeslaw08.AuthorityPlays'. -/
def authorityPlaysCard : Claim7 := { stood := { row := authorityPlaysRow, standIns := [], harness := (true, "37e16bc5700175d524f412a514737af9308d9f835db643dc44f58a722d4decad"), looks := true }, kinds := [], alts := [], laidByText := true, laidKinds := [.data, .data, .data, .sentinel, .sentinel], laidTests := true, laidLooks := .later }
def AuthorityPlaysCardSaid : Prop := Claim7.holds Tryz.pinned (.plain (OpenSpec.ofChange authorityPlaysSpec)) authorityPlaysCard

/-- THE TIED CARD OF 'pinakeslaw08.AuthorityAny'. -/
def authorityAnyCard : Claim7 := { stood := { row := authorityAnyRow, standIns := [], harness := (true, "37e16bc5700175d524f412a514737af9308d9f835db643dc44f58a722d4decad"), looks := true }, kinds := [], alts := [], laidByText := true, laidKinds := [.data, .data, .data, .sentinel, .sentinel], laidTests := true, laidLooks := .later }
def AuthorityAnyCardSaid : Prop := Claim7.holds Tryz.pinned (.plain (OpenSpec.ofChange authorityAnySpec)) authorityAnyCard

/-- THE TIED CARD OF 'pinakeslaw08.AuthorityNone'. -/
def authorityNoneCard : Claim7 := { stood := { row := authorityNoneRow, standIns := [], harness := (true, "37e16bc5700175d524f412a514737af9308d9f835db643dc44f58a722d4decad"), looks := true }, kinds := [], alts := [], laidByText := true, laidKinds := [.data, .data, .data, .sentinel, .sentinel], laidTests := true, laidLooks := .later }
def AuthorityNoneCardSaid : Prop := Claim7.holds Tryz.pinned (.plain (OpenSpec.ofChange authorityNoneSpec)) authorityNoneCard

/-- THE SECOND FORM's CARD OF 'pinakeslaw08.AuthorityLineage'. -/
def authorityLineageUptoCard : Claim7 := { stood := { row := authorityLineageUptoRow, standIns := [], harness := (true, "37e16bc5700175d524f412a514737af9308d9f835db643dc44f58a722d4decad"), looks := true }, kinds := [], alts := [], laidByText := true, laidKinds := [.data, .data, .data, .sentinel, .sentinel], laidTests := true, laidLooks := .later }
def AuthorityLineageUptoCardSaid : Prop := Claim7.holds Tryz.pinned (.plain (OpenSpec.upto authorityLineageSpec)) authorityLineageUptoCard

/-- THE SECOND FORM's CARD OF 'pinakeslaw08.AuthoritySplits'. -/
def authoritySplitsUptoCard : Claim7 := { stood := { row := authoritySplitsUptoRow, standIns := [], harness := (true, "37e16bc5700175d524f412a514737af9308d9f835db643dc44f58a722d4decad"), looks := true }, kinds := [], alts := [], laidByText := true, laidKinds := [.data, .data, .data, .sentinel, .sentinel], laidTests := true, laidLooks := .later }
def AuthoritySplitsUptoCardSaid : Prop := Claim7.holds Tryz.pinned (.plain (OpenSpec.upto authoritySplitsSpec)) authoritySplitsUptoCard

/-- THE SECOND FORM's CARD OF 'pinakeslaw08.AuthorityRewrites'. -/
def authorityRewritesUptoCard : Claim7 := { stood := { row := authorityRewritesUptoRow, standIns := [], harness := (true, "37e16bc5700175d524f412a514737af9308d9f835db643dc44f58a722d4decad"), looks := true }, kinds := [], alts := [], laidByText := true, laidKinds := [.data, .data, .data, .sentinel, .sentinel], laidTests := true, laidLooks := .later }
def AuthorityRewritesUptoCardSaid : Prop := Claim7.holds Tryz.pinned (.plain (OpenSpec.upto authorityRewritesSpec)) authorityRewritesUptoCard

/-- THE SECOND FORM's CARD OF 'pinakeslaw08.AuthorityMany'. -/
def authorityManyUptoCard : Claim7 := { stood := { row := authorityManyUptoRow, standIns := [], harness := (true, "37e16bc5700175d524f412a514737af9308d9f835db643dc44f58a722d4decad"), looks := true }, kinds := [], alts := [], laidByText := true, laidKinds := [.data, .data, .data, .sentinel, .sentinel], laidTests := true, laidLooks := .later }
def AuthorityManyUptoCardSaid : Prop := Claim7.holds Tryz.pinned (.plain (OpenSpec.upto authorityManySpec)) authorityManyUptoCard

/-- THE SECOND FORM's CARD OF 'pinakeslaw08.AuthorityCircles'. -/
def authorityCirclesUptoCard : Claim7 := { stood := { row := authorityCirclesUptoRow, standIns := [], harness := (true, "37e16bc5700175d524f412a514737af9308d9f835db643dc44f58a722d4decad"), looks := true }, kinds := [], alts := [], laidByText := true, laidKinds := [.data, .data, .data, .sentinel, .sentinel], laidTests := true, laidLooks := .later }
def AuthorityCirclesUptoCardSaid : Prop := Claim7.holds Tryz.pinned (.plain (OpenSpec.upto authorityCirclesSpec)) authorityCirclesUptoCard

/-- THE SECOND FORM's CARD OF 'pinakeslaw08.AuthorityFollows'. -/
def authorityFollowsUptoCard : Claim7 := { stood := { row := authorityFollowsUptoRow, standIns := [], harness := (true, "37e16bc5700175d524f412a514737af9308d9f835db643dc44f58a722d4decad"), looks := true }, kinds := [], alts := [], laidByText := true, laidKinds := [.data, .data, .data, .sentinel, .sentinel], laidTests := true, laidLooks := .later }
def AuthorityFollowsUptoCardSaid : Prop := Claim7.holds Tryz.pinned (.plain (OpenSpec.upto authorityFollowsSpec)) authorityFollowsUptoCard

/-- THE SECOND FORM's CARD OF 'pinakeslaw08.AuthorityOrder'. -/
def authorityOrderUptoCard : Claim7 := { stood := { row := authorityOrderUptoRow, standIns := [], harness := (true, "37e16bc5700175d524f412a514737af9308d9f835db643dc44f58a722d4decad"), looks := true }, kinds := [], alts := [], laidByText := true, laidKinds := [.data, .data, .data, .sentinel, .sentinel], laidTests := true, laidLooks := .later }
def AuthorityOrderUptoCardSaid : Prop := Claim7.holds Tryz.pinned (.plain (OpenSpec.upto authorityOrderSpec)) authorityOrderUptoCard

/-- THE SECOND FORM's CARD OF 'pinakeslaw08.AuthorityOld'. -/
def authorityOldUptoCard : Claim7 := { stood := { row := authorityOldUptoRow, standIns := [], harness := (true, "37e16bc5700175d524f412a514737af9308d9f835db643dc44f58a722d4decad"), looks := true }, kinds := [], alts := [], laidByText := true, laidKinds := [.data, .data, .data, .sentinel, .sentinel], laidTests := true, laidLooks := .later }
def AuthorityOldUptoCardSaid : Prop := Claim7.holds Tryz.pinned (.plain (OpenSpec.upto authorityOldSpec)) authorityOldUptoCard

/-- THE SECOND FORM's CARD OF 'pinakeslaw08.AuthorityPlays'. -/
def authorityPlaysUptoCard : Claim7 := { stood := { row := authorityPlaysUptoRow, standIns := [], harness := (true, "37e16bc5700175d524f412a514737af9308d9f835db643dc44f58a722d4decad"), looks := true }, kinds := [], alts := [], laidByText := true, laidKinds := [.data, .data, .data, .sentinel, .sentinel], laidTests := true, laidLooks := .later }
def AuthorityPlaysUptoCardSaid : Prop := Claim7.holds Tryz.pinned (.plain (OpenSpec.upto authorityPlaysSpec)) authorityPlaysUptoCard

/-- THE SECOND FORM's CARD OF 'pinakeslaw08.AuthorityAny'. -/
def authorityAnyUptoCard : Claim7 := { stood := { row := authorityAnyUptoRow, standIns := [], harness := (true, "37e16bc5700175d524f412a514737af9308d9f835db643dc44f58a722d4decad"), looks := true }, kinds := [], alts := [], laidByText := true, laidKinds := [.data, .data, .data, .sentinel, .sentinel], laidTests := true, laidLooks := .later }
def AuthorityAnyUptoCardSaid : Prop := Claim7.holds Tryz.pinned (.plain (OpenSpec.upto authorityAnySpec)) authorityAnyUptoCard

/-- THE SECOND FORM's CARD OF 'pinakeslaw08.AuthorityNone'. -/
def authorityNoneUptoCard : Claim7 := { stood := { row := authorityNoneUptoRow, standIns := [], harness := (true, "37e16bc5700175d524f412a514737af9308d9f835db643dc44f58a722d4decad"), looks := true }, kinds := [], alts := [], laidByText := true, laidKinds := [.data, .data, .data, .sentinel, .sentinel], laidTests := true, laidLooks := .later }
def AuthorityNoneUptoCardSaid : Prop := Claim7.holds Tryz.pinned (.plain (OpenSpec.upto authorityNoneSpec)) authorityNoneUptoCard
end Rows
end Go.Proofs.YtnflcekodobdlaaGreatDoor
