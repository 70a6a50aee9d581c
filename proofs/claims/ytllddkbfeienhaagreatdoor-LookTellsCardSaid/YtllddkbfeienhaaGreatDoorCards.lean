/-
  DERIVED. GIVEN WITH THE SEED: THE CARDS: each row of YtllddkbfeienhaaGreatDoorRows.lean that lists a variable, with what it lists TIED to the program's text (the seventh form; the later family's looks); each row that meets fmt, with fmt's text TOLD by the authors' own Lean function (tested against real Go, not proved from fmt's source: count such statements apart). THE CARD IS WHAT COUNTS. Prove the row's statement (the work); the ties are given (YtllddkbfeienhaaGreatDoorTie.lean); close each card by the builder's one call (the guide's Derived/Test/ToyasCard.lean, 'card_holds'). Laid BY PROGRAM, IN A SANDBOX (cutbox-door.mjs). By AI agents, Wed Nov 11 2026. No macro, syntax, notation, axiom, sorry.
-/
import Derived.Test.YtllddkbfeienhaaGreatDoorRows
import GoSem.ClaimSeven
namespace Go.Proofs.YtllddkbfeienhaaGreatDoor
namespace Rows

/-- THE TIED CARD OF 'horologelaw19.ZoneChecks'. -/
def zoneChecksCard : Claim7 := { stood := { row := zoneChecksRow, standIns := [], harness := (true, "216e7fd7c61938c5b71baf1bb119e31be8d4848418d7a2f7cdc8f13c6363f293"), looks := true }, kinds := [], alts := [], laidByText := true, laidKinds := [.data, .pinned], laidTests := true, laidLooks := .later }
def ZoneChecksCardSaid : Prop := Claim7.holds Tryz.pinned (.plain (OpenSpec.ofChange zoneChecksSpec)) zoneChecksCard

/-- THE TIED CARD OF 'horologelaw19.ZoneMakes'. -/
def zoneMakesCard : Claim7 := { stood := { row := zoneMakesRow, standIns := [], harness := (true, "216e7fd7c61938c5b71baf1bb119e31be8d4848418d7a2f7cdc8f13c6363f293"), looks := true }, kinds := [], alts := [], laidByText := true, laidKinds := [.data, .pinned], laidTests := true, laidLooks := .later }
def ZoneMakesCardSaid : Prop := Claim7.holds Tryz.pinned (.plain (OpenSpec.ofChange zoneMakesSpec)) zoneMakesCard

/-- THE TIED CARD OF 'horologelaw22.LookTells'. -/
def lookTellsCard : Claim7 := { stood := { row := lookTellsRow, standIns := [], harness := (true, "216e7fd7c61938c5b71baf1bb119e31be8d4848418d7a2f7cdc8f13c6363f293"), looks := true }, kinds := [], alts := [], laidByText := true, laidKinds := [.data, .pinned], laidTests := true, laidLooks := .later }
def LookTellsCardSaid : Prop := Claim7.holds Tryz.pinned (.plain (OpenSpec.ofChange lookTellsSpec)) lookTellsCard

/-- THE TIED CARD OF 'horologelaw21.CanonEncodes'. -/
def canonEncodesCard : Claim7 := { stood := { row := canonEncodesRow, standIns := [], harness := (true, "216e7fd7c61938c5b71baf1bb119e31be8d4848418d7a2f7cdc8f13c6363f293"), looks := true }, kinds := [], alts := [], laidByText := true, laidKinds := [.data, .pinned], laidTests := true, laidLooks := .later }
def CanonEncodesCardSaid : Prop := Claim7.holds Tryz.pinned (.plain (OpenSpec.ofChange canonEncodesSpec)) canonEncodesCard

/-- THE TIED CARD OF 'horologelaw18.FooterTells'. -/
def footerTellsCard : Claim7 := { stood := { row := footerTellsRow, standIns := [], harness := (true, "216e7fd7c61938c5b71baf1bb119e31be8d4848418d7a2f7cdc8f13c6363f293"), looks := true }, kinds := [], alts := [], laidByText := true, laidKinds := [.data, .pinned], laidTests := true, laidLooks := .later }
def FooterTellsCardSaid : Prop := Claim7.holds Tryz.pinned (.plain (OpenSpec.ofChange footerTellsSpec)) footerTellsCard

/-- THE SECOND FORM's CARD OF 'horologelaw19.ZoneChecks'. -/
def zoneChecksUptoCard : Claim7 := { stood := { row := zoneChecksUptoRow, standIns := [], harness := (true, "216e7fd7c61938c5b71baf1bb119e31be8d4848418d7a2f7cdc8f13c6363f293"), looks := true }, kinds := [], alts := [], laidByText := true, laidKinds := [.data, .pinned], laidTests := true, laidLooks := .later }
def ZoneChecksUptoCardSaid : Prop := Claim7.holds Tryz.pinned (.plain (OpenSpec.upto zoneChecksSpec)) zoneChecksUptoCard

/-- THE SECOND FORM's CARD OF 'horologelaw19.ZoneMakes'. -/
def zoneMakesUptoCard : Claim7 := { stood := { row := zoneMakesUptoRow, standIns := [], harness := (true, "216e7fd7c61938c5b71baf1bb119e31be8d4848418d7a2f7cdc8f13c6363f293"), looks := true }, kinds := [], alts := [], laidByText := true, laidKinds := [.data, .pinned], laidTests := true, laidLooks := .later }
def ZoneMakesUptoCardSaid : Prop := Claim7.holds Tryz.pinned (.plain (OpenSpec.upto zoneMakesSpec)) zoneMakesUptoCard

/-- THE SECOND FORM's CARD OF 'horologelaw22.LookTells'. -/
def lookTellsUptoCard : Claim7 := { stood := { row := lookTellsUptoRow, standIns := [], harness := (true, "216e7fd7c61938c5b71baf1bb119e31be8d4848418d7a2f7cdc8f13c6363f293"), looks := true }, kinds := [], alts := [], laidByText := true, laidKinds := [.data, .pinned], laidTests := true, laidLooks := .later }
def LookTellsUptoCardSaid : Prop := Claim7.holds Tryz.pinned (.plain (OpenSpec.upto lookTellsSpec)) lookTellsUptoCard

/-- THE SECOND FORM's CARD OF 'horologelaw21.CanonEncodes'. -/
def canonEncodesUptoCard : Claim7 := { stood := { row := canonEncodesUptoRow, standIns := [], harness := (true, "216e7fd7c61938c5b71baf1bb119e31be8d4848418d7a2f7cdc8f13c6363f293"), looks := true }, kinds := [], alts := [], laidByText := true, laidKinds := [.data, .pinned], laidTests := true, laidLooks := .later }
def CanonEncodesUptoCardSaid : Prop := Claim7.holds Tryz.pinned (.plain (OpenSpec.upto canonEncodesSpec)) canonEncodesUptoCard

/-- THE SECOND FORM's CARD OF 'horologelaw18.FooterTells'. -/
def footerTellsUptoCard : Claim7 := { stood := { row := footerTellsUptoRow, standIns := [], harness := (true, "216e7fd7c61938c5b71baf1bb119e31be8d4848418d7a2f7cdc8f13c6363f293"), looks := true }, kinds := [], alts := [], laidByText := true, laidKinds := [.data, .pinned], laidTests := true, laidLooks := .later }
def FooterTellsUptoCardSaid : Prop := Claim7.holds Tryz.pinned (.plain (OpenSpec.upto footerTellsSpec)) footerTellsUptoCard
end Rows
end Go.Proofs.YtllddkbfeienhaaGreatDoor
