/-
  DERIVED. GIVEN WITH THE SEED: THE CARDS: each row of YtllddkbfeienhaaDoorRows.lean that lists a variable, with what it lists TIED to the program's text (the seventh form; the later family's looks); each row that meets fmt, with fmt's text TOLD by the authors' own Lean function (tested against real Go, not proved from fmt's source: count such statements apart). THE CARD IS WHAT COUNTS. Prove the row's statement (the work); the ties are given (YtllddkbfeienhaaDoorTie.lean); close each card by the builder's one call (the guide's Derived/Test/ToyasCard.lean, 'card_holds'). Laid BY PROGRAM, IN A SANDBOX (cutbox-door.mjs). By AI agents, Wed Nov 11 2026. No macro, syntax, notation, axiom, sorry.
-/
import Derived.Test.YtllddkbfeienhaaDoorRows
import GoSem.ClaimSeven
namespace Go.Proofs.YtllddkbfeienhaaDoor
namespace Rows

/-- THE TIED CARD OF 'horologelaw17.PosixParses'. -/
def posixParsesCard : Claim7 := { stood := { row := posixParsesRow, standIns := [], harness := (true, "aa26bc6556dbd73fcc126498c2d0fc0c0664bbdaea4c17de43a1ba369324e920"), looks := true }, kinds := [], alts := [], laidByText := true, laidKinds := [.data, .pinned], laidTests := true, laidLooks := .later }
def PosixParsesCardSaid : Prop := Claim7.holds Tryd.pinned (.plain (OpenSpec.ofChange posixParsesSpec)) posixParsesCard

/-- THE TIED CARD OF 'horologelaw19.ZoneSame'. -/
def zoneSameCard : Claim7 := { stood := { row := zoneSameRow, standIns := [], harness := (true, "aa26bc6556dbd73fcc126498c2d0fc0c0664bbdaea4c17de43a1ba369324e920"), looks := true }, kinds := [], alts := [], laidByText := true, laidKinds := [.data, .pinned], laidTests := true, laidLooks := .later }
def ZoneSameCardSaid : Prop := Claim7.holds Tryd.pinned (.plain (OpenSpec.ofChange zoneSameSpec)) zoneSameCard

/-- THE TIED CARD OF 'horologelaw22.LookSteps'. -/
def lookStepsCard : Claim7 := { stood := { row := lookStepsRow, standIns := [], harness := (true, "aa26bc6556dbd73fcc126498c2d0fc0c0664bbdaea4c17de43a1ba369324e920"), looks := true }, kinds := [], alts := [], laidByText := true, laidKinds := [.data, .pinned], laidTests := true, laidLooks := .later }
def LookStepsCardSaid : Prop := Claim7.holds Tryd.pinned (.plain (OpenSpec.ofChange lookStepsSpec)) lookStepsCard

/-- THE TIED CARD OF 'horologelaw17.PosixBack'. -/
def posixBackCard : Claim7 := { stood := { row := posixBackRow, standIns := [], harness := (true, "aa26bc6556dbd73fcc126498c2d0fc0c0664bbdaea4c17de43a1ba369324e920"), looks := true }, kinds := [], alts := [], laidByText := true, laidKinds := [.data, .pinned], laidTests := true, laidLooks := .later }
def PosixBackCardSaid : Prop := Claim7.holds Tryd.pinned (.plain (OpenSpec.ofChange posixBackSpec)) posixBackCard

/-- THE TIED CARD OF 'horologelaw17.PosixChecks'. -/
def posixChecksCard : Claim7 := { stood := { row := posixChecksRow, standIns := [], harness := (true, "aa26bc6556dbd73fcc126498c2d0fc0c0664bbdaea4c17de43a1ba369324e920"), looks := true }, kinds := [], alts := [], laidByText := true, laidKinds := [.data, .pinned], laidTests := true, laidLooks := .later }
def PosixChecksCardSaid : Prop := Claim7.holds Tryd.pinned (.plain (OpenSpec.ofChange posixChecksSpec)) posixChecksCard

/-- THE TIED CARD OF 'horologelaw18.FooterBegins'. -/
def footerBeginsCard : Claim7 := { stood := { row := footerBeginsRow, standIns := [], harness := (true, "aa26bc6556dbd73fcc126498c2d0fc0c0664bbdaea4c17de43a1ba369324e920"), looks := true }, kinds := [], alts := [], laidByText := true, laidKinds := [.data, .pinned], laidTests := true, laidLooks := .later }
def FooterBeginsCardSaid : Prop := Claim7.holds Tryd.pinned (.plain (OpenSpec.ofChange footerBeginsSpec)) footerBeginsCard

/-- THE TIED CARD OF 'horologelaw18.FooterSteps'. -/
def footerStepsCard : Claim7 := { stood := { row := footerStepsRow, standIns := [], harness := (true, "aa26bc6556dbd73fcc126498c2d0fc0c0664bbdaea4c17de43a1ba369324e920"), looks := true }, kinds := [], alts := [], laidByText := true, laidKinds := [.data, .pinned], laidTests := true, laidLooks := .later }
def FooterStepsCardSaid : Prop := Claim7.holds Tryd.pinned (.plain (OpenSpec.ofChange footerStepsSpec)) footerStepsCard

/-- THE SECOND FORM's CARD OF 'horologelaw17.PosixParses'. -/
def posixParsesUptoCard : Claim7 := { stood := { row := posixParsesUptoRow, standIns := [], harness := (true, "aa26bc6556dbd73fcc126498c2d0fc0c0664bbdaea4c17de43a1ba369324e920"), looks := true }, kinds := [], alts := [], laidByText := true, laidKinds := [.data, .pinned], laidTests := true, laidLooks := .later }
def PosixParsesUptoCardSaid : Prop := Claim7.holds Tryd.pinned (.plain (OpenSpec.upto posixParsesSpec)) posixParsesUptoCard

/-- THE SECOND FORM's CARD OF 'horologelaw19.ZoneSame'. -/
def zoneSameUptoCard : Claim7 := { stood := { row := zoneSameUptoRow, standIns := [], harness := (true, "aa26bc6556dbd73fcc126498c2d0fc0c0664bbdaea4c17de43a1ba369324e920"), looks := true }, kinds := [], alts := [], laidByText := true, laidKinds := [.data, .pinned], laidTests := true, laidLooks := .later }
def ZoneSameUptoCardSaid : Prop := Claim7.holds Tryd.pinned (.plain (OpenSpec.upto zoneSameSpec)) zoneSameUptoCard

/-- THE SECOND FORM's CARD OF 'horologelaw22.LookSteps'. -/
def lookStepsUptoCard : Claim7 := { stood := { row := lookStepsUptoRow, standIns := [], harness := (true, "aa26bc6556dbd73fcc126498c2d0fc0c0664bbdaea4c17de43a1ba369324e920"), looks := true }, kinds := [], alts := [], laidByText := true, laidKinds := [.data, .pinned], laidTests := true, laidLooks := .later }
def LookStepsUptoCardSaid : Prop := Claim7.holds Tryd.pinned (.plain (OpenSpec.upto lookStepsSpec)) lookStepsUptoCard

/-- THE SECOND FORM's CARD OF 'horologelaw17.PosixBack'. -/
def posixBackUptoCard : Claim7 := { stood := { row := posixBackUptoRow, standIns := [], harness := (true, "aa26bc6556dbd73fcc126498c2d0fc0c0664bbdaea4c17de43a1ba369324e920"), looks := true }, kinds := [], alts := [], laidByText := true, laidKinds := [.data, .pinned], laidTests := true, laidLooks := .later }
def PosixBackUptoCardSaid : Prop := Claim7.holds Tryd.pinned (.plain (OpenSpec.upto posixBackSpec)) posixBackUptoCard

/-- THE SECOND FORM's CARD OF 'horologelaw17.PosixChecks'. -/
def posixChecksUptoCard : Claim7 := { stood := { row := posixChecksUptoRow, standIns := [], harness := (true, "aa26bc6556dbd73fcc126498c2d0fc0c0664bbdaea4c17de43a1ba369324e920"), looks := true }, kinds := [], alts := [], laidByText := true, laidKinds := [.data, .pinned], laidTests := true, laidLooks := .later }
def PosixChecksUptoCardSaid : Prop := Claim7.holds Tryd.pinned (.plain (OpenSpec.upto posixChecksSpec)) posixChecksUptoCard

/-- THE SECOND FORM's CARD OF 'horologelaw18.FooterBegins'. -/
def footerBeginsUptoCard : Claim7 := { stood := { row := footerBeginsUptoRow, standIns := [], harness := (true, "aa26bc6556dbd73fcc126498c2d0fc0c0664bbdaea4c17de43a1ba369324e920"), looks := true }, kinds := [], alts := [], laidByText := true, laidKinds := [.data, .pinned], laidTests := true, laidLooks := .later }
def FooterBeginsUptoCardSaid : Prop := Claim7.holds Tryd.pinned (.plain (OpenSpec.upto footerBeginsSpec)) footerBeginsUptoCard

/-- THE SECOND FORM's CARD OF 'horologelaw18.FooterSteps'. -/
def footerStepsUptoCard : Claim7 := { stood := { row := footerStepsUptoRow, standIns := [], harness := (true, "aa26bc6556dbd73fcc126498c2d0fc0c0664bbdaea4c17de43a1ba369324e920"), looks := true }, kinds := [], alts := [], laidByText := true, laidKinds := [.data, .pinned], laidTests := true, laidLooks := .later }
def FooterStepsUptoCardSaid : Prop := Claim7.holds Tryd.pinned (.plain (OpenSpec.upto footerStepsSpec)) footerStepsUptoCard
end Rows
end Go.Proofs.YtllddkbfeienhaaDoor
