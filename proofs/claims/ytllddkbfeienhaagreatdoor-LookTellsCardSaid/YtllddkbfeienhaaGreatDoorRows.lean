/-
  NARROWER THAN 'FOR EVERY INPUT', by the rows' own cells (each row's printed sentence says how): ZoneChecks: laid · ZoneMakes: laid · LookTells: laid · CanonEncodes: laid · FooterTells: laid.
  DERIVED. THE GIVEN ROWS OF THIS SEAT. 5 by the template 'for every input the law returns true; each argument reads behind the call as it read before'; 0 by the template 'total and deterministic' (their statements: YtllddkbfeienhaaGreatDoorTotals.lean).
  GIVEN WITH THE SEED: the statements are not yours to turn. If you find one false, say at which input.
  Laid BY PROGRAM, IN A SANDBOX (cutbox-rows.mjs): the forced cells as the released guide's own fill.sh prints them over the translation 3bb6cbe8e9e1dd6d… (all of the seat's roots in one cut). By AI agents, Wed Nov 11 2026. No macro, syntax, notation, axiom, sorry.
-/
import Derived.Test.YtllddkbfeienhaaGreatDoorChecked
import GoSem.PinnedTables
import GoSem.Claim
import GoSem.ClaimJoined
import GoSem.ClaimMapViews
import Derived.JoinedTies
import Derived.KernelRfl
namespace Go.Proofs.YtllddkbfeienhaaGreatDoor
/- THE CELL 'sum', in the pinned program and in every row, IS THE sha256 OF THE DUMP (.gsa) THAT YtllddkbfeienhaaGreatDoorProg.lean LOADS. Nothing in Lean hashes anything: it is a label: what it is worth is what the hold of that sum in a sandbox is worth. -/
noncomputable def Tryz.pinned : Pinned := { name := "ytllddkbfeienhaagreatdoor", sum := "3bb6cbe8e9e1dd6de0922fb1e786f26a845901809bb0f9615cdcfa5f739fad87", checked := Tryz.checked }
namespace Rows
def none {H : Type} : Left H := { results := [], args := [] }

/- WHAT THE LISTED PACKAGE-LEVEL VARIABLES READ AS WHEN THE CALL BEGINS. Each datum BY PROGRAM (the guide's laid-datum.mjs) off the statement by which the dump's own 'gosem.cut.vars' lays the variable. In a bare row this is a premise. The card (YtllddkbfeienhaaGreatDoorCards.lean) ties it to the program's text. -/
def laid_unicode_utf8_acceptRanges {H : Type} : DataW H := .agg [.agg [.lit (.int .u8 128), .lit (.int .u8 191)], .agg [.lit (.int .u8 160), .lit (.int .u8 191)], .agg [.lit (.int .u8 128), .lit (.int .u8 159)], .agg [.lit (.int .u8 144), .lit (.int .u8 191)], .agg [.lit (.int .u8 128), .lit (.int .u8 143)], .agg [.lit (.int .u8 0), .lit (.int .u8 0)], .agg [.lit (.int .u8 0), .lit (.int .u8 0)], .agg [.lit (.int .u8 0), .lit (.int .u8 0)], .agg [.lit (.int .u8 0), .lit (.int .u8 0)], .agg [.lit (.int .u8 0), .lit (.int .u8 0)], .agg [.lit (.int .u8 0), .lit (.int .u8 0)], .agg [.lit (.int .u8 0), .lit (.int .u8 0)], .agg [.lit (.int .u8 0), .lit (.int .u8 0)], .agg [.lit (.int .u8 0), .lit (.int .u8 0)], .agg [.lit (.int .u8 0), .lit (.int .u8 0)], .agg [.lit (.int .u8 0), .lit (.int .u8 0)]]
/-- One of Go's own tables, pinned by name: the form's constant. -/
def laid_unicode_utf8_first : DataW Unit := Go.Pinned.utf8First

/-- 'horologelaw19.ZoneChecks': WHATEVER THE INPUT: true; the input reads as it did. -/
def zoneChecksSpec : ChangeSpec := { name := "zoneChecks", fn := fun _ => fun
  | [d] => { results := [.lit (.bool true)], args := [d] }
  | _ => none }
def zoneChecksRow : OpenClaim := { program := "ytllddkbfeienhaagreatdoor", sum := "3bb6cbe8e9e1dd6de0922fb1e786f26a845901809bb0f9615cdcfa5f739fad87", func := "horologe/horologelaw19.ZoneChecks", spec := "zoneChecks", unfollowed := true, recurses := true, named := ["unicode/utf8.first", "unicode/utf8.acceptRanges"], apart := false, laid := [("unicode/utf8.acceptRanges", laid_unicode_utf8_acceptRanges), ("unicode/utf8.first", laid_unicode_utf8_first)] }
def ZoneChecksSaid : Prop := zoneChecksRow.holds Tryz.pinned (OpenSpec.ofChange zoneChecksSpec)

/-- ITS FALSE NEIGHBOUR: 'it returns false'. Refute it at one input. -/
def zoneChecksWrong : ChangeSpec := { name := "zoneChecks", fn := fun _ => fun
  | [d] => { results := [.lit (.bool false)], args := [d] }
  | _ => none }
def ZoneChecksWrongFalsely : Prop := zoneChecksRow.holds Tryz.pinned (OpenSpec.ofChange zoneChecksWrong)

/-- 'horologelaw19.ZoneMakes': WHATEVER THE INPUT: true; the input reads as it did. -/
def zoneMakesSpec : ChangeSpec := { name := "zoneMakes", fn := fun _ => fun
  | [d1, d2, d3] => { results := [.lit (.bool true)], args := [d1, d2, d3] }
  | _ => none }
def zoneMakesRow : OpenClaim := { program := "ytllddkbfeienhaagreatdoor", sum := "3bb6cbe8e9e1dd6de0922fb1e786f26a845901809bb0f9615cdcfa5f739fad87", func := "horologe/horologelaw19.ZoneMakes", spec := "zoneMakes", unfollowed := true, recurses := true, named := ["unicode/utf8.first", "unicode/utf8.acceptRanges"], apart := false, laid := [("unicode/utf8.acceptRanges", laid_unicode_utf8_acceptRanges), ("unicode/utf8.first", laid_unicode_utf8_first)] }
def ZoneMakesSaid : Prop := zoneMakesRow.holds Tryz.pinned (OpenSpec.ofChange zoneMakesSpec)

/-- ITS FALSE NEIGHBOUR: 'it returns false'. Refute it at one input. -/
def zoneMakesWrong : ChangeSpec := { name := "zoneMakes", fn := fun _ => fun
  | [d1, d2, d3] => { results := [.lit (.bool false)], args := [d1, d2, d3] }
  | _ => none }
def ZoneMakesWrongFalsely : Prop := zoneMakesRow.holds Tryz.pinned (OpenSpec.ofChange zoneMakesWrong)

/-- 'horologelaw22.LookTells': WHATEVER THE INPUT: true; the input reads as it did. -/
def lookTellsSpec : ChangeSpec := { name := "lookTells", fn := fun _ => fun
  | [d1, d2] => { results := [.lit (.bool true)], args := [d1, d2] }
  | _ => none }
def lookTellsRow : OpenClaim := { program := "ytllddkbfeienhaagreatdoor", sum := "3bb6cbe8e9e1dd6de0922fb1e786f26a845901809bb0f9615cdcfa5f739fad87", func := "horologe/horologelaw22.LookTells", spec := "lookTells", unfollowed := true, recurses := true, named := ["unicode/utf8.first", "unicode/utf8.acceptRanges"], apart := false, laid := [("unicode/utf8.acceptRanges", laid_unicode_utf8_acceptRanges), ("unicode/utf8.first", laid_unicode_utf8_first)] }
def LookTellsSaid : Prop := lookTellsRow.holds Tryz.pinned (OpenSpec.ofChange lookTellsSpec)

/-- ITS FALSE NEIGHBOUR: 'it returns false'. Refute it at one input. -/
def lookTellsWrong : ChangeSpec := { name := "lookTells", fn := fun _ => fun
  | [d1, d2] => { results := [.lit (.bool false)], args := [d1, d2] }
  | _ => none }
def LookTellsWrongFalsely : Prop := lookTellsRow.holds Tryz.pinned (OpenSpec.ofChange lookTellsWrong)

/-- 'horologelaw21.CanonEncodes': WHATEVER THE INPUT: true; the input reads as it did. -/
def canonEncodesSpec : ChangeSpec := { name := "canonEncodes", fn := fun _ => fun
  | [d] => { results := [.lit (.bool true)], args := [d] }
  | _ => none }
def canonEncodesRow : OpenClaim := { program := "ytllddkbfeienhaagreatdoor", sum := "3bb6cbe8e9e1dd6de0922fb1e786f26a845901809bb0f9615cdcfa5f739fad87", func := "horologe/horologelaw21.CanonEncodes", spec := "canonEncodes", inPlace := ["internal/bytealg.IndexByteString", "internal/abi.NoEscape", "internal/bytealg.MakeNoZero"], unfollowed := true, recurses := true, named := ["unicode/utf8.first", "unicode/utf8.acceptRanges"], apart := false, laid := [("unicode/utf8.acceptRanges", laid_unicode_utf8_acceptRanges), ("unicode/utf8.first", laid_unicode_utf8_first)] }
def CanonEncodesSaid : Prop := canonEncodesRow.holds Tryz.pinned (OpenSpec.ofChange canonEncodesSpec)

/-- ITS FALSE NEIGHBOUR: 'it returns false'. Refute it at one input. -/
def canonEncodesWrong : ChangeSpec := { name := "canonEncodes", fn := fun _ => fun
  | [d] => { results := [.lit (.bool false)], args := [d] }
  | _ => none }
def CanonEncodesWrongFalsely : Prop := canonEncodesRow.holds Tryz.pinned (OpenSpec.ofChange canonEncodesWrong)

/-- 'horologelaw18.FooterTells': WHATEVER THE INPUT: true; the input reads as it did. -/
def footerTellsSpec : ChangeSpec := { name := "footerTells", fn := fun _ => fun
  | [d1, d2] => { results := [.lit (.bool true)], args := [d1, d2] }
  | _ => none }
def footerTellsRow : OpenClaim := { program := "ytllddkbfeienhaagreatdoor", sum := "3bb6cbe8e9e1dd6de0922fb1e786f26a845901809bb0f9615cdcfa5f739fad87", func := "horologe/horologelaw18.FooterTells", spec := "footerTells", inPlace := ["internal/bytealg.IndexByteString", "internal/bytealg.IndexString"], named := ["unicode/utf8.first", "unicode/utf8.acceptRanges", "internal/bytealg.MaxLen"], apart := false, laid := [("unicode/utf8.acceptRanges", laid_unicode_utf8_acceptRanges), ("unicode/utf8.first", laid_unicode_utf8_first)] }
def FooterTellsSaid : Prop := footerTellsRow.holds Tryz.pinned (OpenSpec.ofChange footerTellsSpec)

/-- ITS FALSE NEIGHBOUR: 'it returns false'. Refute it at one input. -/
def footerTellsWrong : ChangeSpec := { name := "footerTells", fn := fun _ => fun
  | [d1, d2] => { results := [.lit (.bool false)], args := [d1, d2] }
  | _ => none }
def FooterTellsWrongFalsely : Prop := footerTellsRow.holds Tryz.pinned (OpenSpec.ofChange footerTellsWrong)

/- THE SECOND FORM. 'bulk': how many values and letters a reading holds, each counted each time it is reached (what is shared counts as often as it is met; a slice's spare places count too). A statement '..UptoSaid' is the law's where the arguments, and the package variables that the reading takes, are together of bulk at most 1048576: NARROWER than '..Said'. Prove '..Said' where nothing that the law and all that it calls make is longer than what came in: it says more and counts as full. Else prove '..UptoSaid'. A law counts once. -/
mutual
def uptoBulk {H : Type} : DataW H → Nat
  | .lit (.string bytes) => bytes.length + 1
  | .lit _ => 1
  | .nil => 1
  | .ptr d => uptoBulk d + 1
  | .slice elems spare => uptoBulkAll elems + uptoBulkAll spare + 1
  | .agg parts => uptoBulkAll parts + 1
  | .iface _ d => uptoBulk d + 1
  | .map entries => uptoBulkEntries entries + 1
  | .held _ => 1
def uptoBulkAll {H : Type} : List (DataW H) → Nat
  | [] => 0
  | d :: r => uptoBulk d + uptoBulkAll r
def uptoBulkEntries {H : Type} : List (Lit × DataW H) → Nat
  | [] => 0
  | x :: r => uptoBulkEntry x + uptoBulkEntries r
def uptoBulkEntry {H : Type} : Lit × DataW H → Nat
  | (.string bytes, d) => bytes.length + uptoBulk d + 1
  | (_, d) => uptoBulk d + 1
 end
def uptoSmall : (H : Type) → List (DataW H) → Bool := fun _ ds => decide (uptoBulkAll ds ≤ 1048576)
def OpenSpec.upto (s : _root_.Go.ChangeSpec) : _root_.Go.OpenSpec := { _root_.Go.OpenSpec.ofChange s with cond := some uptoSmall }

/-- 'horologelaw19.ZoneChecks', WHERE WHAT IT READS IS OF BULK AT MOST 1048576: true; the input reads as it did. -/
def zoneChecksUptoRow : OpenClaim := { program := "ytllddkbfeienhaagreatdoor", sum := "3bb6cbe8e9e1dd6de0922fb1e786f26a845901809bb0f9615cdcfa5f739fad87", func := "horologe/horologelaw19.ZoneChecks", spec := "zoneChecks", unfollowed := true, recurses := true, named := ["unicode/utf8.first", "unicode/utf8.acceptRanges"], apart := false, laid := [("unicode/utf8.acceptRanges", laid_unicode_utf8_acceptRanges), ("unicode/utf8.first", laid_unicode_utf8_first)], narrowed := true }
def ZoneChecksUptoSaid : Prop := zoneChecksUptoRow.holds Tryz.pinned (OpenSpec.upto zoneChecksSpec)

/-- 'horologelaw19.ZoneMakes', WHERE WHAT IT READS IS OF BULK AT MOST 1048576: true; the input reads as it did. -/
def zoneMakesUptoRow : OpenClaim := { program := "ytllddkbfeienhaagreatdoor", sum := "3bb6cbe8e9e1dd6de0922fb1e786f26a845901809bb0f9615cdcfa5f739fad87", func := "horologe/horologelaw19.ZoneMakes", spec := "zoneMakes", unfollowed := true, recurses := true, named := ["unicode/utf8.first", "unicode/utf8.acceptRanges"], apart := false, laid := [("unicode/utf8.acceptRanges", laid_unicode_utf8_acceptRanges), ("unicode/utf8.first", laid_unicode_utf8_first)], narrowed := true }
def ZoneMakesUptoSaid : Prop := zoneMakesUptoRow.holds Tryz.pinned (OpenSpec.upto zoneMakesSpec)

/-- 'horologelaw22.LookTells', WHERE WHAT IT READS IS OF BULK AT MOST 1048576: true; the input reads as it did. -/
def lookTellsUptoRow : OpenClaim := { program := "ytllddkbfeienhaagreatdoor", sum := "3bb6cbe8e9e1dd6de0922fb1e786f26a845901809bb0f9615cdcfa5f739fad87", func := "horologe/horologelaw22.LookTells", spec := "lookTells", unfollowed := true, recurses := true, named := ["unicode/utf8.first", "unicode/utf8.acceptRanges"], apart := false, laid := [("unicode/utf8.acceptRanges", laid_unicode_utf8_acceptRanges), ("unicode/utf8.first", laid_unicode_utf8_first)], narrowed := true }
def LookTellsUptoSaid : Prop := lookTellsUptoRow.holds Tryz.pinned (OpenSpec.upto lookTellsSpec)

/-- 'horologelaw21.CanonEncodes', WHERE WHAT IT READS IS OF BULK AT MOST 1048576: true; the input reads as it did. -/
def canonEncodesUptoRow : OpenClaim := { program := "ytllddkbfeienhaagreatdoor", sum := "3bb6cbe8e9e1dd6de0922fb1e786f26a845901809bb0f9615cdcfa5f739fad87", func := "horologe/horologelaw21.CanonEncodes", spec := "canonEncodes", inPlace := ["internal/bytealg.IndexByteString", "internal/abi.NoEscape", "internal/bytealg.MakeNoZero"], unfollowed := true, recurses := true, named := ["unicode/utf8.first", "unicode/utf8.acceptRanges"], apart := false, laid := [("unicode/utf8.acceptRanges", laid_unicode_utf8_acceptRanges), ("unicode/utf8.first", laid_unicode_utf8_first)], narrowed := true }
def CanonEncodesUptoSaid : Prop := canonEncodesUptoRow.holds Tryz.pinned (OpenSpec.upto canonEncodesSpec)

/-- 'horologelaw18.FooterTells', WHERE WHAT IT READS IS OF BULK AT MOST 1048576: true; the input reads as it did. -/
def footerTellsUptoRow : OpenClaim := { program := "ytllddkbfeienhaagreatdoor", sum := "3bb6cbe8e9e1dd6de0922fb1e786f26a845901809bb0f9615cdcfa5f739fad87", func := "horologe/horologelaw18.FooterTells", spec := "footerTells", inPlace := ["internal/bytealg.IndexByteString", "internal/bytealg.IndexString"], named := ["unicode/utf8.first", "unicode/utf8.acceptRanges", "internal/bytealg.MaxLen"], apart := false, laid := [("unicode/utf8.acceptRanges", laid_unicode_utf8_acceptRanges), ("unicode/utf8.first", laid_unicode_utf8_first)], narrowed := true }
def FooterTellsUptoSaid : Prop := footerTellsUptoRow.holds Tryz.pinned (OpenSpec.upto footerTellsSpec)

end Rows
end Go.Proofs.YtllddkbfeienhaaGreatDoor
