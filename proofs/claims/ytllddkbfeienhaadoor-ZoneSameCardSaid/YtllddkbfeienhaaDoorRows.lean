/-
  NARROWER THAN 'FOR EVERY INPUT', by the rows' own cells (each row's printed sentence says how): PosixParses: laid · ZoneSame: laid · LookSteps: laid · PosixBack: laid · PosixChecks: laid · FooterBegins: laid · FooterSteps: laid.
  DERIVED. THE GIVEN ROWS OF THIS SEAT. 7 by the template 'for every input the law returns true; each argument reads behind the call as it read before'; 0 by the template 'total and deterministic' (their statements: YtllddkbfeienhaaDoorTotals.lean).
  GIVEN WITH THE SEED: the statements are not yours to turn. If you find one false, say at which input.
  Laid BY PROGRAM, IN A SANDBOX (cutbox-rows.mjs): the forced cells as the released guide's own fill.sh prints them over the translation e4a1ac421fb6f80d… (all of the seat's roots in one cut). By AI agents, Wed Nov 11 2026. No macro, syntax, notation, axiom, sorry.
-/
import Derived.Test.YtllddkbfeienhaaDoorChecked
import GoSem.PinnedTables
import GoSem.Claim
import GoSem.ClaimJoined
import GoSem.ClaimMapViews
import Derived.JoinedTies
import Derived.KernelRfl
namespace Go.Proofs.YtllddkbfeienhaaDoor
/- THE CELL 'sum', in the pinned program and in every row, IS THE sha256 OF THE DUMP (.gsa) THAT YtllddkbfeienhaaDoorProg.lean LOADS. Nothing in Lean hashes anything: it is a label: what it is worth is what the hold of that sum in a sandbox is worth. -/
noncomputable def Tryd.pinned : Pinned := { name := "ytllddkbfeienhaadoor", sum := "e4a1ac421fb6f80d8861f192397e803d076717cbfc83e77a63585f39e322b9cb", checked := Tryd.checked }
namespace Rows
def none {H : Type} : Left H := { results := [], args := [] }

/- WHAT THE LISTED PACKAGE-LEVEL VARIABLES READ AS WHEN THE CALL BEGINS. Each datum BY PROGRAM (the guide's laid-datum.mjs) off the statement by which the dump's own 'gosem.cut.vars' lays the variable. In a bare row this is a premise. The card (YtllddkbfeienhaaDoorCards.lean) ties it to the program's text. -/
def laid_unicode_utf8_acceptRanges {H : Type} : DataW H := .agg [.agg [.lit (.int .u8 128), .lit (.int .u8 191)], .agg [.lit (.int .u8 160), .lit (.int .u8 191)], .agg [.lit (.int .u8 128), .lit (.int .u8 159)], .agg [.lit (.int .u8 144), .lit (.int .u8 191)], .agg [.lit (.int .u8 128), .lit (.int .u8 143)], .agg [.lit (.int .u8 0), .lit (.int .u8 0)], .agg [.lit (.int .u8 0), .lit (.int .u8 0)], .agg [.lit (.int .u8 0), .lit (.int .u8 0)], .agg [.lit (.int .u8 0), .lit (.int .u8 0)], .agg [.lit (.int .u8 0), .lit (.int .u8 0)], .agg [.lit (.int .u8 0), .lit (.int .u8 0)], .agg [.lit (.int .u8 0), .lit (.int .u8 0)], .agg [.lit (.int .u8 0), .lit (.int .u8 0)], .agg [.lit (.int .u8 0), .lit (.int .u8 0)], .agg [.lit (.int .u8 0), .lit (.int .u8 0)], .agg [.lit (.int .u8 0), .lit (.int .u8 0)]]
/-- One of Go's own tables, pinned by name: the form's constant. -/
def laid_unicode_utf8_first : DataW Unit := Go.Pinned.utf8First

/-- 'horologelaw17.PosixParses': WHATEVER THE INPUT: true; the input reads as it did. -/
def posixParsesSpec : ChangeSpec := { name := "posixParses", fn := fun _ => fun
  | [d] => { results := [.lit (.bool true)], args := [d] }
  | _ => none }
def posixParsesRow : OpenClaim := { program := "ytllddkbfeienhaadoor", sum := "e4a1ac421fb6f80d8861f192397e803d076717cbfc83e77a63585f39e322b9cb", func := "horologe/horologelaw17.PosixParses", spec := "posixParses", inPlace := ["internal/bytealg.IndexByteString", "internal/bytealg.IndexString"], named := ["unicode/utf8.first", "unicode/utf8.acceptRanges", "internal/bytealg.MaxLen"], apart := false, laid := [("unicode/utf8.acceptRanges", laid_unicode_utf8_acceptRanges), ("unicode/utf8.first", laid_unicode_utf8_first)] }
def PosixParsesSaid : Prop := posixParsesRow.holds Tryd.pinned (OpenSpec.ofChange posixParsesSpec)

/-- ITS FALSE NEIGHBOUR: 'it returns false'. Refute it at one input. -/
def posixParsesWrong : ChangeSpec := { name := "posixParses", fn := fun _ => fun
  | [d] => { results := [.lit (.bool false)], args := [d] }
  | _ => none }
def PosixParsesWrongFalsely : Prop := posixParsesRow.holds Tryd.pinned (OpenSpec.ofChange posixParsesWrong)

/-- 'horologelaw19.ZoneSame': WHATEVER THE INPUT: true; the input reads as it did. -/
def zoneSameSpec : ChangeSpec := { name := "zoneSame", fn := fun _ => fun
  | [d1, d2] => { results := [.lit (.bool true)], args := [d1, d2] }
  | _ => none }
def zoneSameRow : OpenClaim := { program := "ytllddkbfeienhaadoor", sum := "e4a1ac421fb6f80d8861f192397e803d076717cbfc83e77a63585f39e322b9cb", func := "horologe/horologelaw19.ZoneSame", spec := "zoneSame", unfollowed := true, recurses := true, named := ["unicode/utf8.first", "unicode/utf8.acceptRanges"], apart := false, laid := [("unicode/utf8.acceptRanges", laid_unicode_utf8_acceptRanges), ("unicode/utf8.first", laid_unicode_utf8_first)] }
def ZoneSameSaid : Prop := zoneSameRow.holds Tryd.pinned (OpenSpec.ofChange zoneSameSpec)

/-- ITS FALSE NEIGHBOUR: 'it returns false'. Refute it at one input. -/
def zoneSameWrong : ChangeSpec := { name := "zoneSame", fn := fun _ => fun
  | [d1, d2] => { results := [.lit (.bool false)], args := [d1, d2] }
  | _ => none }
def ZoneSameWrongFalsely : Prop := zoneSameRow.holds Tryd.pinned (OpenSpec.ofChange zoneSameWrong)

/-- 'horologelaw22.LookSteps': WHATEVER THE INPUT: true; the input reads as it did. -/
def lookStepsSpec : ChangeSpec := { name := "lookSteps", fn := fun _ => fun
  | [d1, d2] => { results := [.lit (.bool true)], args := [d1, d2] }
  | _ => none }
def lookStepsRow : OpenClaim := { program := "ytllddkbfeienhaadoor", sum := "e4a1ac421fb6f80d8861f192397e803d076717cbfc83e77a63585f39e322b9cb", func := "horologe/horologelaw22.LookSteps", spec := "lookSteps", unfollowed := true, recurses := true, named := ["unicode/utf8.first", "unicode/utf8.acceptRanges"], apart := false, laid := [("unicode/utf8.acceptRanges", laid_unicode_utf8_acceptRanges), ("unicode/utf8.first", laid_unicode_utf8_first)] }
def LookStepsSaid : Prop := lookStepsRow.holds Tryd.pinned (OpenSpec.ofChange lookStepsSpec)

/-- ITS FALSE NEIGHBOUR: 'it returns false'. Refute it at one input. -/
def lookStepsWrong : ChangeSpec := { name := "lookSteps", fn := fun _ => fun
  | [d1, d2] => { results := [.lit (.bool false)], args := [d1, d2] }
  | _ => none }
def LookStepsWrongFalsely : Prop := lookStepsRow.holds Tryd.pinned (OpenSpec.ofChange lookStepsWrong)

/-- 'horologelaw17.PosixBack': WHATEVER THE INPUT: true; the input reads as it did. -/
def posixBackSpec : ChangeSpec := { name := "posixBack", fn := fun _ => fun
  | [d1, d2] => { results := [.lit (.bool true)], args := [d1, d2] }
  | _ => none }
def posixBackRow : OpenClaim := { program := "ytllddkbfeienhaadoor", sum := "e4a1ac421fb6f80d8861f192397e803d076717cbfc83e77a63585f39e322b9cb", func := "horologe/horologelaw17.PosixBack", spec := "posixBack", inPlace := ["internal/bytealg.IndexByteString", "internal/bytealg.IndexString", "internal/abi.NoEscape", "internal/bytealg.MakeNoZero"], named := ["unicode/utf8.first", "unicode/utf8.acceptRanges", "internal/bytealg.MaxLen"], apart := false, laid := [("unicode/utf8.acceptRanges", laid_unicode_utf8_acceptRanges), ("unicode/utf8.first", laid_unicode_utf8_first)] }
def PosixBackSaid : Prop := posixBackRow.holds Tryd.pinned (OpenSpec.ofChange posixBackSpec)

/-- ITS FALSE NEIGHBOUR: 'it returns false'. Refute it at one input. -/
def posixBackWrong : ChangeSpec := { name := "posixBack", fn := fun _ => fun
  | [d1, d2] => { results := [.lit (.bool false)], args := [d1, d2] }
  | _ => none }
def PosixBackWrongFalsely : Prop := posixBackRow.holds Tryd.pinned (OpenSpec.ofChange posixBackWrong)

/-- 'horologelaw17.PosixChecks': WHATEVER THE INPUT: true; the input reads as it did. -/
def posixChecksSpec : ChangeSpec := { name := "posixChecks", fn := fun _ => fun
  | [d1, d2, d3] => { results := [.lit (.bool true)], args := [d1, d2, d3] }
  | _ => none }
def posixChecksRow : OpenClaim := { program := "ytllddkbfeienhaadoor", sum := "e4a1ac421fb6f80d8861f192397e803d076717cbfc83e77a63585f39e322b9cb", func := "horologe/horologelaw17.PosixChecks", spec := "posixChecks", inPlace := ["internal/bytealg.IndexByteString", "internal/bytealg.IndexString", "internal/abi.NoEscape", "internal/bytealg.MakeNoZero"], named := ["unicode/utf8.first", "unicode/utf8.acceptRanges", "internal/bytealg.MaxLen"], apart := false, laid := [("unicode/utf8.acceptRanges", laid_unicode_utf8_acceptRanges), ("unicode/utf8.first", laid_unicode_utf8_first)] }
def PosixChecksSaid : Prop := posixChecksRow.holds Tryd.pinned (OpenSpec.ofChange posixChecksSpec)

/-- ITS FALSE NEIGHBOUR: 'it returns false'. Refute it at one input. -/
def posixChecksWrong : ChangeSpec := { name := "posixChecks", fn := fun _ => fun
  | [d1, d2, d3] => { results := [.lit (.bool false)], args := [d1, d2, d3] }
  | _ => none }
def PosixChecksWrongFalsely : Prop := posixChecksRow.holds Tryd.pinned (OpenSpec.ofChange posixChecksWrong)

/-- 'horologelaw18.FooterBegins': WHATEVER THE INPUT: true; the input reads as it did. -/
def footerBeginsSpec : ChangeSpec := { name := "footerBegins", fn := fun _ => fun
  | [d1, d2] => { results := [.lit (.bool true)], args := [d1, d2] }
  | _ => none }
def footerBeginsRow : OpenClaim := { program := "ytllddkbfeienhaadoor", sum := "e4a1ac421fb6f80d8861f192397e803d076717cbfc83e77a63585f39e322b9cb", func := "horologe/horologelaw18.FooterBegins", spec := "footerBegins", inPlace := ["internal/bytealg.IndexByteString", "internal/bytealg.IndexString"], named := ["unicode/utf8.first", "unicode/utf8.acceptRanges", "internal/bytealg.MaxLen"], apart := false, laid := [("unicode/utf8.acceptRanges", laid_unicode_utf8_acceptRanges), ("unicode/utf8.first", laid_unicode_utf8_first)] }
def FooterBeginsSaid : Prop := footerBeginsRow.holds Tryd.pinned (OpenSpec.ofChange footerBeginsSpec)

/-- ITS FALSE NEIGHBOUR: 'it returns false'. Refute it at one input. -/
def footerBeginsWrong : ChangeSpec := { name := "footerBegins", fn := fun _ => fun
  | [d1, d2] => { results := [.lit (.bool false)], args := [d1, d2] }
  | _ => none }
def FooterBeginsWrongFalsely : Prop := footerBeginsRow.holds Tryd.pinned (OpenSpec.ofChange footerBeginsWrong)

/-- 'horologelaw18.FooterSteps': WHATEVER THE INPUT: true; the input reads as it did. -/
def footerStepsSpec : ChangeSpec := { name := "footerSteps", fn := fun _ => fun
  | [d1, d2] => { results := [.lit (.bool true)], args := [d1, d2] }
  | _ => none }
def footerStepsRow : OpenClaim := { program := "ytllddkbfeienhaadoor", sum := "e4a1ac421fb6f80d8861f192397e803d076717cbfc83e77a63585f39e322b9cb", func := "horologe/horologelaw18.FooterSteps", spec := "footerSteps", inPlace := ["internal/bytealg.IndexByteString", "internal/bytealg.IndexString"], named := ["unicode/utf8.first", "unicode/utf8.acceptRanges", "internal/bytealg.MaxLen"], apart := false, laid := [("unicode/utf8.acceptRanges", laid_unicode_utf8_acceptRanges), ("unicode/utf8.first", laid_unicode_utf8_first)] }
def FooterStepsSaid : Prop := footerStepsRow.holds Tryd.pinned (OpenSpec.ofChange footerStepsSpec)

/-- ITS FALSE NEIGHBOUR: 'it returns false'. Refute it at one input. -/
def footerStepsWrong : ChangeSpec := { name := "footerSteps", fn := fun _ => fun
  | [d1, d2] => { results := [.lit (.bool false)], args := [d1, d2] }
  | _ => none }
def FooterStepsWrongFalsely : Prop := footerStepsRow.holds Tryd.pinned (OpenSpec.ofChange footerStepsWrong)

/- THE SECOND FORM. 'bulk': how many values and letters a reading holds, each counted each time it is reached (what is shared counts as often as it is met; a slice's spare places count too). A statement '..UptoSaid' is the law's where the arguments, and the package variables that the reading takes, are together of bulk at most 1048576: NARROWER than '..Said'. Prove '..Said' where nothing that the law and all that it calls make is longer than what came in: it says more and counts as full. Else prove '..UptoSaid'. A law counts once. -/
mutual
def uptoBulk {H : Type} : DataW H → Nat
  | .lit (.string bytes) => bytes.length + 1
  | .lit _ => 1
  | .nil => 1
  | .ptr d => uptoBulk d + 1
  | .slice elems spare => uptoBulkAll elems + uptoBulkAll spare + 1
  | .agg parts => uptoBulkAll parts + 1
  | .iface _ d => uptoBulk d + 1
  | .map entries => uptoBulkEntries entries + 1
  | .held _ => 1
def uptoBulkAll {H : Type} : List (DataW H) → Nat
  | [] => 0
  | d :: r => uptoBulk d + uptoBulkAll r
def uptoBulkEntries {H : Type} : List (Lit × DataW H) → Nat
  | [] => 0
  | x :: r => uptoBulkEntry x + uptoBulkEntries r
def uptoBulkEntry {H : Type} : Lit × DataW H → Nat
  | (.string bytes, d) => bytes.length + uptoBulk d + 1
  | (_, d) => uptoBulk d + 1
 end
def uptoSmall : (H : Type) → List (DataW H) → Bool := fun _ ds => decide (uptoBulkAll ds ≤ 1048576)
def OpenSpec.upto (s : _root_.Go.ChangeSpec) : _root_.Go.OpenSpec := { _root_.Go.OpenSpec.ofChange s with cond := some uptoSmall }

/-- 'horologelaw17.PosixParses', WHERE WHAT IT READS IS OF BULK AT MOST 1048576: true; the input reads as it did. -/
def posixParsesUptoRow : OpenClaim := { program := "ytllddkbfeienhaadoor", sum := "e4a1ac421fb6f80d8861f192397e803d076717cbfc83e77a63585f39e322b9cb", func := "horologe/horologelaw17.PosixParses", spec := "posixParses", inPlace := ["internal/bytealg.IndexByteString", "internal/bytealg.IndexString"], named := ["unicode/utf8.first", "unicode/utf8.acceptRanges", "internal/bytealg.MaxLen"], apart := false, laid := [("unicode/utf8.acceptRanges", laid_unicode_utf8_acceptRanges), ("unicode/utf8.first", laid_unicode_utf8_first)], narrowed := true }
def PosixParsesUptoSaid : Prop := posixParsesUptoRow.holds Tryd.pinned (OpenSpec.upto posixParsesSpec)

/-- 'horologelaw19.ZoneSame', WHERE WHAT IT READS IS OF BULK AT MOST 1048576: true; the input reads as it did. -/
def zoneSameUptoRow : OpenClaim := { program := "ytllddkbfeienhaadoor", sum := "e4a1ac421fb6f80d8861f192397e803d076717cbfc83e77a63585f39e322b9cb", func := "horologe/horologelaw19.ZoneSame", spec := "zoneSame", unfollowed := true, recurses := true, named := ["unicode/utf8.first", "unicode/utf8.acceptRanges"], apart := false, laid := [("unicode/utf8.acceptRanges", laid_unicode_utf8_acceptRanges), ("unicode/utf8.first", laid_unicode_utf8_first)], narrowed := true }
def ZoneSameUptoSaid : Prop := zoneSameUptoRow.holds Tryd.pinned (OpenSpec.upto zoneSameSpec)

/-- 'horologelaw22.LookSteps', WHERE WHAT IT READS IS OF BULK AT MOST 1048576: true; the input reads as it did. -/
def lookStepsUptoRow : OpenClaim := { program := "ytllddkbfeienhaadoor", sum := "e4a1ac421fb6f80d8861f192397e803d076717cbfc83e77a63585f39e322b9cb", func := "horologe/horologelaw22.LookSteps", spec := "lookSteps", unfollowed := true, recurses := true, named := ["unicode/utf8.first", "unicode/utf8.acceptRanges"], apart := false, laid := [("unicode/utf8.acceptRanges", laid_unicode_utf8_acceptRanges), ("unicode/utf8.first", laid_unicode_utf8_first)], narrowed := true }
def LookStepsUptoSaid : Prop := lookStepsUptoRow.holds Tryd.pinned (OpenSpec.upto lookStepsSpec)

/-- 'horologelaw17.PosixBack', WHERE WHAT IT READS IS OF BULK AT MOST 1048576: true; the input reads as it did. -/
def posixBackUptoRow : OpenClaim := { program := "ytllddkbfeienhaadoor", sum := "e4a1ac421fb6f80d8861f192397e803d076717cbfc83e77a63585f39e322b9cb", func := "horologe/horologelaw17.PosixBack", spec := "posixBack", inPlace := ["internal/bytealg.IndexByteString", "internal/bytealg.IndexString", "internal/abi.NoEscape", "internal/bytealg.MakeNoZero"], named := ["unicode/utf8.first", "unicode/utf8.acceptRanges", "internal/bytealg.MaxLen"], apart := false, laid := [("unicode/utf8.acceptRanges", laid_unicode_utf8_acceptRanges), ("unicode/utf8.first", laid_unicode_utf8_first)], narrowed := true }
def PosixBackUptoSaid : Prop := posixBackUptoRow.holds Tryd.pinned (OpenSpec.upto posixBackSpec)

/-- 'horologelaw17.PosixChecks', WHERE WHAT IT READS IS OF BULK AT MOST 1048576: true; the input reads as it did. -/
def posixChecksUptoRow : OpenClaim := { program := "ytllddkbfeienhaadoor", sum := "e4a1ac421fb6f80d8861f192397e803d076717cbfc83e77a63585f39e322b9cb", func := "horologe/horologelaw17.PosixChecks", spec := "posixChecks", inPlace := ["internal/bytealg.IndexByteString", "internal/bytealg.IndexString", "internal/abi.NoEscape", "internal/bytealg.MakeNoZero"], named := ["unicode/utf8.first", "unicode/utf8.acceptRanges", "internal/bytealg.MaxLen"], apart := false, laid := [("unicode/utf8.acceptRanges", laid_unicode_utf8_acceptRanges), ("unicode/utf8.first", laid_unicode_utf8_first)], narrowed := true }
def PosixChecksUptoSaid : Prop := posixChecksUptoRow.holds Tryd.pinned (OpenSpec.upto posixChecksSpec)

/-- 'horologelaw18.FooterBegins', WHERE WHAT IT READS IS OF BULK AT MOST 1048576: true; the input reads as it did. -/
def footerBeginsUptoRow : OpenClaim := { program := "ytllddkbfeienhaadoor", sum := "e4a1ac421fb6f80d8861f192397e803d076717cbfc83e77a63585f39e322b9cb", func := "horologe/horologelaw18.FooterBegins", spec := "footerBegins", inPlace := ["internal/bytealg.IndexByteString", "internal/bytealg.IndexString"], named := ["unicode/utf8.first", "unicode/utf8.acceptRanges", "internal/bytealg.MaxLen"], apart := false, laid := [("unicode/utf8.acceptRanges", laid_unicode_utf8_acceptRanges), ("unicode/utf8.first", laid_unicode_utf8_first)], narrowed := true }
def FooterBeginsUptoSaid : Prop := footerBeginsUptoRow.holds Tryd.pinned (OpenSpec.upto footerBeginsSpec)

/-- 'horologelaw18.FooterSteps', WHERE WHAT IT READS IS OF BULK AT MOST 1048576: true; the input reads as it did. -/
def footerStepsUptoRow : OpenClaim := { program := "ytllddkbfeienhaadoor", sum := "e4a1ac421fb6f80d8861f192397e803d076717cbfc83e77a63585f39e322b9cb", func := "horologe/horologelaw18.FooterSteps", spec := "footerSteps", inPlace := ["internal/bytealg.IndexByteString", "internal/bytealg.IndexString"], named := ["unicode/utf8.first", "unicode/utf8.acceptRanges", "internal/bytealg.MaxLen"], apart := false, laid := [("unicode/utf8.acceptRanges", laid_unicode_utf8_acceptRanges), ("unicode/utf8.first", laid_unicode_utf8_first)], narrowed := true }
def FooterStepsUptoSaid : Prop := footerStepsUptoRow.holds Tryd.pinned (OpenSpec.upto footerStepsSpec)

end Rows
end Go.Proofs.YtllddkbfeienhaaDoor
