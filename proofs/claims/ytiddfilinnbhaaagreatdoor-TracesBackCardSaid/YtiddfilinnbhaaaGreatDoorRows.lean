/-
  NARROWER THAN 'FOR EVERY INPUT', by the rows' own cells (each row's printed sentence says how): TracesCheck: laid · TracesAgainst: laid · TracesContradict: laid · TracesTree: laid · TracesAnswer: laid · TracesBack: laid · TracesTrees: laid · TracesText: laid · TracesKnown: laid · TracesOf: laid.
  DERIVED. THE GIVEN ROWS OF THIS SEAT. 10 by the template 'for every input the law returns true; each argument reads behind the call as it read before'; 0 by the template 'total and deterministic' (their statements: YtiddfilinnbhaaaGreatDoorTotals.lean).
  GIVEN WITH THE SEED: the statements are not yours to turn. If you find one false, say at which input.
  Laid BY PROGRAM, IN A SANDBOX (cutbox-rows.mjs): the forced cells as the released guide's own fill.sh prints them over the translation 3f8e6bd80cfe8ad8… (all of the seat's roots in one cut). By AI agents, Wed Nov 11 2026. No macro, syntax, notation, axiom, sorry.
-/
import Derived.Test.YtiddfilinnbhaaaGreatDoorChecked
import GoSem.PinnedTables
import GoSem.Claim
import GoSem.ClaimJoined
import GoSem.ClaimMapViews
import Derived.JoinedTies
import Derived.KernelRfl
namespace Go.Proofs.YtiddfilinnbhaaaGreatDoor
/- THE CELL 'sum', in the pinned program and in every row, IS THE sha256 OF THE DUMP (.gsa) THAT YtiddfilinnbhaaaGreatDoorProg.lean LOADS. Nothing in Lean hashes anything: it is a label: what it is worth is what the hold of that sum in a sandbox is worth. -/
noncomputable def Tryz.pinned : Pinned := { name := "ytiddfilinnbhaaagreatdoor", sum := "3f8e6bd80cfe8ad8cab772559d6d1fa04c46d69e04c4c1a39e4c26e537126619", checked := Tryz.checked }
namespace Rows
def none {H : Type} : Left H := { results := [], args := [] }

/- WHAT THE LISTED PACKAGE-LEVEL VARIABLES READ AS WHEN THE CALL BEGINS. Each datum BY PROGRAM (the guide's laid-datum.mjs) off the statement by which the dump's own 'gosem.cut.vars' lays the variable. In a bare row this is a premise. The card (YtiddfilinnbhaaaGreatDoorCards.lean) ties it to the program's text. -/
def laid_unicode_utf8_acceptRanges {H : Type} : DataW H := .agg [.agg [.lit (.int .u8 128), .lit (.int .u8 191)], .agg [.lit (.int .u8 160), .lit (.int .u8 191)], .agg [.lit (.int .u8 128), .lit (.int .u8 159)], .agg [.lit (.int .u8 144), .lit (.int .u8 191)], .agg [.lit (.int .u8 128), .lit (.int .u8 143)], .agg [.lit (.int .u8 0), .lit (.int .u8 0)], .agg [.lit (.int .u8 0), .lit (.int .u8 0)], .agg [.lit (.int .u8 0), .lit (.int .u8 0)], .agg [.lit (.int .u8 0), .lit (.int .u8 0)], .agg [.lit (.int .u8 0), .lit (.int .u8 0)], .agg [.lit (.int .u8 0), .lit (.int .u8 0)], .agg [.lit (.int .u8 0), .lit (.int .u8 0)], .agg [.lit (.int .u8 0), .lit (.int .u8 0)], .agg [.lit (.int .u8 0), .lit (.int .u8 0)], .agg [.lit (.int .u8 0), .lit (.int .u8 0)], .agg [.lit (.int .u8 0), .lit (.int .u8 0)]]
/-- One of Go's own tables, pinned by name: the form's constant. -/
def laid_unicode_utf8_first : DataW Unit := Go.Pinned.utf8First

/-- 'gauntletlaw34.TracesCheck': WHATEVER THE INPUT: true; the input reads as it did. -/
def tracesCheckSpec : ChangeSpec := { name := "tracesCheck", fn := fun _ => fun
  | [d1, d2] => { results := [.lit (.bool true)], args := [d1, d2] }
  | _ => none }
def tracesCheckRow : OpenClaim := { program := "ytiddfilinnbhaaagreatdoor", sum := "3f8e6bd80cfe8ad8cab772559d6d1fa04c46d69e04c4c1a39e4c26e537126619", func := "gauntlet/gauntletlaw34.TracesCheck", spec := "tracesCheck", inPlace := ["internal/abi.NoEscape", "internal/bytealg.IndexByteString", "internal/bytealg.IndexString", "internal/bytealg.CountString"], unfollowed := true, recurses := true, named := ["internal/bytealg.MaxLen", "unicode/utf8.first", "unicode/utf8.acceptRanges"], apart := false, laid := [("unicode/utf8.acceptRanges", laid_unicode_utf8_acceptRanges), ("unicode/utf8.first", laid_unicode_utf8_first)] }
def TracesCheckSaid : Prop := tracesCheckRow.holds Tryz.pinned (OpenSpec.ofChange tracesCheckSpec)

/-- ITS FALSE NEIGHBOUR: 'it returns false'. Refute it at one input. -/
def tracesCheckWrong : ChangeSpec := { name := "tracesCheck", fn := fun _ => fun
  | [d1, d2] => { results := [.lit (.bool false)], args := [d1, d2] }
  | _ => none }
def TracesCheckWrongFalsely : Prop := tracesCheckRow.holds Tryz.pinned (OpenSpec.ofChange tracesCheckWrong)

/-- 'gauntletlaw34.TracesAgainst': WHATEVER THE INPUT: true; the input reads as it did. -/
def tracesAgainstSpec : ChangeSpec := { name := "tracesAgainst", fn := fun _ => fun
  | [d1, d2] => { results := [.lit (.bool true)], args := [d1, d2] }
  | _ => none }
def tracesAgainstRow : OpenClaim := { program := "ytiddfilinnbhaaagreatdoor", sum := "3f8e6bd80cfe8ad8cab772559d6d1fa04c46d69e04c4c1a39e4c26e537126619", func := "gauntlet/gauntletlaw34.TracesAgainst", spec := "tracesAgainst", inPlace := ["internal/abi.NoEscape", "internal/bytealg.IndexByteString", "internal/bytealg.IndexString", "internal/bytealg.CountString"], unfollowed := true, recurses := true, named := ["internal/bytealg.MaxLen", "unicode/utf8.first", "unicode/utf8.acceptRanges"], apart := false, laid := [("unicode/utf8.acceptRanges", laid_unicode_utf8_acceptRanges), ("unicode/utf8.first", laid_unicode_utf8_first)] }
def TracesAgainstSaid : Prop := tracesAgainstRow.holds Tryz.pinned (OpenSpec.ofChange tracesAgainstSpec)

/-- ITS FALSE NEIGHBOUR: 'it returns false'. Refute it at one input. -/
def tracesAgainstWrong : ChangeSpec := { name := "tracesAgainst", fn := fun _ => fun
  | [d1, d2] => { results := [.lit (.bool false)], args := [d1, d2] }
  | _ => none }
def TracesAgainstWrongFalsely : Prop := tracesAgainstRow.holds Tryz.pinned (OpenSpec.ofChange tracesAgainstWrong)

/-- 'gauntletlaw34.TracesContradict': WHATEVER THE INPUT: true; the input reads as it did. -/
def tracesContradictSpec : ChangeSpec := { name := "tracesContradict", fn := fun _ => fun
  | [d1, d2] => { results := [.lit (.bool true)], args := [d1, d2] }
  | _ => none }
def tracesContradictRow : OpenClaim := { program := "ytiddfilinnbhaaagreatdoor", sum := "3f8e6bd80cfe8ad8cab772559d6d1fa04c46d69e04c4c1a39e4c26e537126619", func := "gauntlet/gauntletlaw34.TracesContradict", spec := "tracesContradict", inPlace := ["internal/abi.NoEscape", "internal/bytealg.IndexByteString", "internal/bytealg.IndexString", "internal/bytealg.CountString"], unfollowed := true, recurses := true, named := ["internal/bytealg.MaxLen", "unicode/utf8.first", "unicode/utf8.acceptRanges"], apart := false, laid := [("unicode/utf8.acceptRanges", laid_unicode_utf8_acceptRanges), ("unicode/utf8.first", laid_unicode_utf8_first)] }
def TracesContradictSaid : Prop := tracesContradictRow.holds Tryz.pinned (OpenSpec.ofChange tracesContradictSpec)

/-- ITS FALSE NEIGHBOUR: 'it returns false'. Refute it at one input. -/
def tracesContradictWrong : ChangeSpec := { name := "tracesContradict", fn := fun _ => fun
  | [d1, d2] => { results := [.lit (.bool false)], args := [d1, d2] }
  | _ => none }
def TracesContradictWrongFalsely : Prop := tracesContradictRow.holds Tryz.pinned (OpenSpec.ofChange tracesContradictWrong)

/-- 'gauntletlaw34.TracesTree': WHATEVER THE INPUT: true; the input reads as it did. -/
def tracesTreeSpec : ChangeSpec := { name := "tracesTree", fn := fun _ => fun
  | [d] => { results := [.lit (.bool true)], args := [d] }
  | _ => none }
def tracesTreeRow : OpenClaim := { program := "ytiddfilinnbhaaagreatdoor", sum := "3f8e6bd80cfe8ad8cab772559d6d1fa04c46d69e04c4c1a39e4c26e537126619", func := "gauntlet/gauntletlaw34.TracesTree", spec := "tracesTree", inPlace := ["internal/abi.NoEscape", "internal/bytealg.IndexByteString", "internal/bytealg.IndexString", "internal/bytealg.CountString"], unfollowed := true, recurses := true, named := ["internal/bytealg.MaxLen", "unicode/utf8.first", "unicode/utf8.acceptRanges"], apart := false, laid := [("unicode/utf8.acceptRanges", laid_unicode_utf8_acceptRanges), ("unicode/utf8.first", laid_unicode_utf8_first)] }
def TracesTreeSaid : Prop := tracesTreeRow.holds Tryz.pinned (OpenSpec.ofChange tracesTreeSpec)

/-- ITS FALSE NEIGHBOUR: 'it returns false'. Refute it at one input. -/
def tracesTreeWrong : ChangeSpec := { name := "tracesTree", fn := fun _ => fun
  | [d] => { results := [.lit (.bool false)], args := [d] }
  | _ => none }
def TracesTreeWrongFalsely : Prop := tracesTreeRow.holds Tryz.pinned (OpenSpec.ofChange tracesTreeWrong)

/-- 'gauntletlaw34.TracesAnswer': WHATEVER THE INPUT: true; the input reads as it did. -/
def tracesAnswerSpec : ChangeSpec := { name := "tracesAnswer", fn := fun _ => fun
  | [d1, d2] => { results := [.lit (.bool true)], args := [d1, d2] }
  | _ => none }
def tracesAnswerRow : OpenClaim := { program := "ytiddfilinnbhaaagreatdoor", sum := "3f8e6bd80cfe8ad8cab772559d6d1fa04c46d69e04c4c1a39e4c26e537126619", func := "gauntlet/gauntletlaw34.TracesAnswer", spec := "tracesAnswer", inPlace := ["internal/abi.NoEscape", "internal/bytealg.IndexByteString", "internal/bytealg.IndexString", "internal/bytealg.CountString"], unfollowed := true, recurses := true, named := ["internal/bytealg.MaxLen", "unicode/utf8.first", "unicode/utf8.acceptRanges"], apart := false, laid := [("unicode/utf8.acceptRanges", laid_unicode_utf8_acceptRanges), ("unicode/utf8.first", laid_unicode_utf8_first)] }
def TracesAnswerSaid : Prop := tracesAnswerRow.holds Tryz.pinned (OpenSpec.ofChange tracesAnswerSpec)

/-- ITS FALSE NEIGHBOUR: 'it returns false'. Refute it at one input. -/
def tracesAnswerWrong : ChangeSpec := { name := "tracesAnswer", fn := fun _ => fun
  | [d1, d2] => { results := [.lit (.bool false)], args := [d1, d2] }
  | _ => none }
def TracesAnswerWrongFalsely : Prop := tracesAnswerRow.holds Tryz.pinned (OpenSpec.ofChange tracesAnswerWrong)

/-- 'gauntletlaw34.TracesBack': WHATEVER THE INPUT: true; the input reads as it did. -/
def tracesBackSpec : ChangeSpec := { name := "tracesBack", fn := fun _ => fun
  | [d] => { results := [.lit (.bool true)], args := [d] }
  | _ => none }
def tracesBackRow : OpenClaim := { program := "ytiddfilinnbhaaagreatdoor", sum := "3f8e6bd80cfe8ad8cab772559d6d1fa04c46d69e04c4c1a39e4c26e537126619", func := "gauntlet/gauntletlaw34.TracesBack", spec := "tracesBack", inPlace := ["internal/abi.NoEscape", "internal/bytealg.IndexByteString", "internal/bytealg.IndexString", "internal/bytealg.CountString"], unfollowed := true, recurses := true, named := ["internal/bytealg.MaxLen", "unicode/utf8.first", "unicode/utf8.acceptRanges"], apart := false, laid := [("unicode/utf8.acceptRanges", laid_unicode_utf8_acceptRanges), ("unicode/utf8.first", laid_unicode_utf8_first)] }
def TracesBackSaid : Prop := tracesBackRow.holds Tryz.pinned (OpenSpec.ofChange tracesBackSpec)

/-- ITS FALSE NEIGHBOUR: 'it returns false'. Refute it at one input. -/
def tracesBackWrong : ChangeSpec := { name := "tracesBack", fn := fun _ => fun
  | [d] => { results := [.lit (.bool false)], args := [d] }
  | _ => none }
def TracesBackWrongFalsely : Prop := tracesBackRow.holds Tryz.pinned (OpenSpec.ofChange tracesBackWrong)

/-- 'gauntletlaw34.TracesTrees': WHATEVER THE INPUT: true; the input reads as it did. -/
def tracesTreesSpec : ChangeSpec := { name := "tracesTrees", fn := fun _ => fun
  | [d1, d2] => { results := [.lit (.bool true)], args := [d1, d2] }
  | _ => none }
def tracesTreesRow : OpenClaim := { program := "ytiddfilinnbhaaagreatdoor", sum := "3f8e6bd80cfe8ad8cab772559d6d1fa04c46d69e04c4c1a39e4c26e537126619", func := "gauntlet/gauntletlaw34.TracesTrees", spec := "tracesTrees", inPlace := ["internal/abi.NoEscape", "internal/bytealg.IndexByteString", "internal/bytealg.IndexString", "internal/bytealg.CountString"], unfollowed := true, recurses := true, named := ["internal/bytealg.MaxLen", "unicode/utf8.first", "unicode/utf8.acceptRanges"], apart := false, laid := [("unicode/utf8.acceptRanges", laid_unicode_utf8_acceptRanges), ("unicode/utf8.first", laid_unicode_utf8_first)] }
def TracesTreesSaid : Prop := tracesTreesRow.holds Tryz.pinned (OpenSpec.ofChange tracesTreesSpec)

/-- ITS FALSE NEIGHBOUR: 'it returns false'. Refute it at one input. -/
def tracesTreesWrong : ChangeSpec := { name := "tracesTrees", fn := fun _ => fun
  | [d1, d2] => { results := [.lit (.bool false)], args := [d1, d2] }
  | _ => none }
def TracesTreesWrongFalsely : Prop := tracesTreesRow.holds Tryz.pinned (OpenSpec.ofChange tracesTreesWrong)

/-- 'gauntletlaw34.TracesText': WHATEVER THE INPUT: true; the input reads as it did. -/
def tracesTextSpec : ChangeSpec := { name := "tracesText", fn := fun _ => fun
  | [d1, d2] => { results := [.lit (.bool true)], args := [d1, d2] }
  | _ => none }
def tracesTextRow : OpenClaim := { program := "ytiddfilinnbhaaagreatdoor", sum := "3f8e6bd80cfe8ad8cab772559d6d1fa04c46d69e04c4c1a39e4c26e537126619", func := "gauntlet/gauntletlaw34.TracesText", spec := "tracesText", inPlace := ["internal/abi.NoEscape", "internal/bytealg.IndexByteString", "internal/bytealg.IndexString", "internal/bytealg.CountString"], unfollowed := true, recurses := true, named := ["internal/bytealg.MaxLen", "unicode/utf8.first", "unicode/utf8.acceptRanges"], apart := false, laid := [("unicode/utf8.acceptRanges", laid_unicode_utf8_acceptRanges), ("unicode/utf8.first", laid_unicode_utf8_first)] }
def TracesTextSaid : Prop := tracesTextRow.holds Tryz.pinned (OpenSpec.ofChange tracesTextSpec)

/-- ITS FALSE NEIGHBOUR: 'it returns false'. Refute it at one input. -/
def tracesTextWrong : ChangeSpec := { name := "tracesText", fn := fun _ => fun
  | [d1, d2] => { results := [.lit (.bool false)], args := [d1, d2] }
  | _ => none }
def TracesTextWrongFalsely : Prop := tracesTextRow.holds Tryz.pinned (OpenSpec.ofChange tracesTextWrong)

/-- 'gauntletlaw34.TracesKnown': WHATEVER THE INPUT: true; the input reads as it did. -/
def tracesKnownSpec : ChangeSpec := { name := "tracesKnown", fn := fun _ => fun
  | [] => { results := [.lit (.bool true)], args := [] }
  | _ => none }
def tracesKnownRow : OpenClaim := { program := "ytiddfilinnbhaaagreatdoor", sum := "3f8e6bd80cfe8ad8cab772559d6d1fa04c46d69e04c4c1a39e4c26e537126619", func := "gauntlet/gauntletlaw34.TracesKnown", spec := "tracesKnown", inPlace := ["internal/bytealg.IndexByteString", "internal/bytealg.IndexString", "internal/bytealg.CountString", "internal/abi.NoEscape"], unfollowed := true, recurses := true, named := ["internal/bytealg.MaxLen", "unicode/utf8.first", "unicode/utf8.acceptRanges"], apart := false, laid := [("unicode/utf8.acceptRanges", laid_unicode_utf8_acceptRanges), ("unicode/utf8.first", laid_unicode_utf8_first)] }
def TracesKnownSaid : Prop := tracesKnownRow.holds Tryz.pinned (OpenSpec.ofChange tracesKnownSpec)

/-- ITS FALSE NEIGHBOUR: 'it returns false'. Refute it at one input. -/
def tracesKnownWrong : ChangeSpec := { name := "tracesKnown", fn := fun _ => fun
  | [] => { results := [.lit (.bool false)], args := [] }
  | _ => none }
def TracesKnownWrongFalsely : Prop := tracesKnownRow.holds Tryz.pinned (OpenSpec.ofChange tracesKnownWrong)

/-- 'gauntletlaw34.TracesOf': WHATEVER THE INPUT: true; the input reads as it did. -/
def tracesOfSpec : ChangeSpec := { name := "tracesOf", fn := fun _ => fun
  | [d1, d2] => { results := [.lit (.bool true)], args := [d1, d2] }
  | _ => none }
def tracesOfRow : OpenClaim := { program := "ytiddfilinnbhaaagreatdoor", sum := "3f8e6bd80cfe8ad8cab772559d6d1fa04c46d69e04c4c1a39e4c26e537126619", func := "gauntlet/gauntletlaw34.TracesOf", spec := "tracesOf", inPlace := ["internal/abi.NoEscape", "internal/bytealg.IndexByteString", "internal/bytealg.IndexString", "internal/bytealg.CountString"], unfollowed := true, recurses := true, named := ["internal/bytealg.MaxLen", "unicode/utf8.first", "unicode/utf8.acceptRanges"], apart := false, laid := [("unicode/utf8.acceptRanges", laid_unicode_utf8_acceptRanges), ("unicode/utf8.first", laid_unicode_utf8_first)] }
def TracesOfSaid : Prop := tracesOfRow.holds Tryz.pinned (OpenSpec.ofChange tracesOfSpec)

/-- ITS FALSE NEIGHBOUR: 'it returns false'. Refute it at one input. -/
def tracesOfWrong : ChangeSpec := { name := "tracesOf", fn := fun _ => fun
  | [d1, d2] => { results := [.lit (.bool false)], args := [d1, d2] }
  | _ => none }
def TracesOfWrongFalsely : Prop := tracesOfRow.holds Tryz.pinned (OpenSpec.ofChange tracesOfWrong)

/- THE SECOND FORM. 'bulk': how many values and letters a reading holds, each counted each time it is reached (what is shared counts as often as it is met; a slice's spare places count too). A statement '..UptoSaid' is the law's where the arguments, and the package variables that the reading takes, are together of bulk at most 1048576: NARROWER than '..Said'. Prove '..Said' where nothing that the law and all that it calls make is longer than what came in: it says more and counts as full. Else prove '..UptoSaid'. A law counts once. -/
mutual
def uptoBulk {H : Type} : DataW H → Nat
  | .lit (.string bytes) => bytes.length + 1
  | .lit _ => 1
  | .nil => 1
  | .ptr d => uptoBulk d + 1
  | .slice elems spare => uptoBulkAll elems + uptoBulkAll spare + 1
  | .agg parts => uptoBulkAll parts + 1
  | .iface _ d => uptoBulk d + 1
  | .map entries => uptoBulkEntries entries + 1
  | .held _ => 1
def uptoBulkAll {H : Type} : List (DataW H) → Nat
  | [] => 0
  | d :: r => uptoBulk d + uptoBulkAll r
def uptoBulkEntries {H : Type} : List (Lit × DataW H) → Nat
  | [] => 0
  | x :: r => uptoBulkEntry x + uptoBulkEntries r
def uptoBulkEntry {H : Type} : Lit × DataW H → Nat
  | (.string bytes, d) => bytes.length + uptoBulk d + 1
  | (_, d) => uptoBulk d + 1
 end
def uptoSmall : (H : Type) → List (DataW H) → Bool := fun _ ds => decide (uptoBulkAll ds ≤ 1048576)
def OpenSpec.upto (s : _root_.Go.ChangeSpec) : _root_.Go.OpenSpec := { _root_.Go.OpenSpec.ofChange s with cond := some uptoSmall }

/-- 'gauntletlaw34.TracesCheck', WHERE WHAT IT READS IS OF BULK AT MOST 1048576: true; the input reads as it did. -/
def tracesCheckUptoRow : OpenClaim := { program := "ytiddfilinnbhaaagreatdoor", sum := "3f8e6bd80cfe8ad8cab772559d6d1fa04c46d69e04c4c1a39e4c26e537126619", func := "gauntlet/gauntletlaw34.TracesCheck", spec := "tracesCheck", inPlace := ["internal/abi.NoEscape", "internal/bytealg.IndexByteString", "internal/bytealg.IndexString", "internal/bytealg.CountString"], unfollowed := true, recurses := true, named := ["internal/bytealg.MaxLen", "unicode/utf8.first", "unicode/utf8.acceptRanges"], apart := false, laid := [("unicode/utf8.acceptRanges", laid_unicode_utf8_acceptRanges), ("unicode/utf8.first", laid_unicode_utf8_first)], narrowed := true }
def TracesCheckUptoSaid : Prop := tracesCheckUptoRow.holds Tryz.pinned (OpenSpec.upto tracesCheckSpec)

/-- 'gauntletlaw34.TracesAgainst', WHERE WHAT IT READS IS OF BULK AT MOST 1048576: true; the input reads as it did. -/
def tracesAgainstUptoRow : OpenClaim := { program := "ytiddfilinnbhaaagreatdoor", sum := "3f8e6bd80cfe8ad8cab772559d6d1fa04c46d69e04c4c1a39e4c26e537126619", func := "gauntlet/gauntletlaw34.TracesAgainst", spec := "tracesAgainst", inPlace := ["internal/abi.NoEscape", "internal/bytealg.IndexByteString", "internal/bytealg.IndexString", "internal/bytealg.CountString"], unfollowed := true, recurses := true, named := ["internal/bytealg.MaxLen", "unicode/utf8.first", "unicode/utf8.acceptRanges"], apart := false, laid := [("unicode/utf8.acceptRanges", laid_unicode_utf8_acceptRanges), ("unicode/utf8.first", laid_unicode_utf8_first)], narrowed := true }
def TracesAgainstUptoSaid : Prop := tracesAgainstUptoRow.holds Tryz.pinned (OpenSpec.upto tracesAgainstSpec)

/-- 'gauntletlaw34.TracesContradict', WHERE WHAT IT READS IS OF BULK AT MOST 1048576: true; the input reads as it did. -/
def tracesContradictUptoRow : OpenClaim := { program := "ytiddfilinnbhaaagreatdoor", sum := "3f8e6bd80cfe8ad8cab772559d6d1fa04c46d69e04c4c1a39e4c26e537126619", func := "gauntlet/gauntletlaw34.TracesContradict", spec := "tracesContradict", inPlace := ["internal/abi.NoEscape", "internal/bytealg.IndexByteString", "internal/bytealg.IndexString", "internal/bytealg.CountString"], unfollowed := true, recurses := true, named := ["internal/bytealg.MaxLen", "unicode/utf8.first", "unicode/utf8.acceptRanges"], apart := false, laid := [("unicode/utf8.acceptRanges", laid_unicode_utf8_acceptRanges), ("unicode/utf8.first", laid_unicode_utf8_first)], narrowed := true }
def TracesContradictUptoSaid : Prop := tracesContradictUptoRow.holds Tryz.pinned (OpenSpec.upto tracesContradictSpec)

/-- 'gauntletlaw34.TracesTree', WHERE WHAT IT READS IS OF BULK AT MOST 1048576: true; the input reads as it did. -/
def tracesTreeUptoRow : OpenClaim := { program := "ytiddfilinnbhaaagreatdoor", sum := "3f8e6bd80cfe8ad8cab772559d6d1fa04c46d69e04c4c1a39e4c26e537126619", func := "gauntlet/gauntletlaw34.TracesTree", spec := "tracesTree", inPlace := ["internal/abi.NoEscape", "internal/bytealg.IndexByteString", "internal/bytealg.IndexString", "internal/bytealg.CountString"], unfollowed := true, recurses := true, named := ["internal/bytealg.MaxLen", "unicode/utf8.first", "unicode/utf8.acceptRanges"], apart := false, laid := [("unicode/utf8.acceptRanges", laid_unicode_utf8_acceptRanges), ("unicode/utf8.first", laid_unicode_utf8_first)], narrowed := true }
def TracesTreeUptoSaid : Prop := tracesTreeUptoRow.holds Tryz.pinned (OpenSpec.upto tracesTreeSpec)

/-- 'gauntletlaw34.TracesAnswer', WHERE WHAT IT READS IS OF BULK AT MOST 1048576: true; the input reads as it did. -/
def tracesAnswerUptoRow : OpenClaim := { program := "ytiddfilinnbhaaagreatdoor", sum := "3f8e6bd80cfe8ad8cab772559d6d1fa04c46d69e04c4c1a39e4c26e537126619", func := "gauntlet/gauntletlaw34.TracesAnswer", spec := "tracesAnswer", inPlace := ["internal/abi.NoEscape", "internal/bytealg.IndexByteString", "internal/bytealg.IndexString", "internal/bytealg.CountString"], unfollowed := true, recurses := true, named := ["internal/bytealg.MaxLen", "unicode/utf8.first", "unicode/utf8.acceptRanges"], apart := false, laid := [("unicode/utf8.acceptRanges", laid_unicode_utf8_acceptRanges), ("unicode/utf8.first", laid_unicode_utf8_first)], narrowed := true }
def TracesAnswerUptoSaid : Prop := tracesAnswerUptoRow.holds Tryz.pinned (OpenSpec.upto tracesAnswerSpec)

/-- 'gauntletlaw34.TracesBack', WHERE WHAT IT READS IS OF BULK AT MOST 1048576: true; the input reads as it did. -/
def tracesBackUptoRow : OpenClaim := { program := "ytiddfilinnbhaaagreatdoor", sum := "3f8e6bd80cfe8ad8cab772559d6d1fa04c46d69e04c4c1a39e4c26e537126619", func := "gauntlet/gauntletlaw34.TracesBack", spec := "tracesBack", inPlace := ["internal/abi.NoEscape", "internal/bytealg.IndexByteString", "internal/bytealg.IndexString", "internal/bytealg.CountString"], unfollowed := true, recurses := true, named := ["internal/bytealg.MaxLen", "unicode/utf8.first", "unicode/utf8.acceptRanges"], apart := false, laid := [("unicode/utf8.acceptRanges", laid_unicode_utf8_acceptRanges), ("unicode/utf8.first", laid_unicode_utf8_first)], narrowed := true }
def TracesBackUptoSaid : Prop := tracesBackUptoRow.holds Tryz.pinned (OpenSpec.upto tracesBackSpec)

/-- 'gauntletlaw34.TracesTrees', WHERE WHAT IT READS IS OF BULK AT MOST 1048576: true; the input reads as it did. -/
def tracesTreesUptoRow : OpenClaim := { program := "ytiddfilinnbhaaagreatdoor", sum := "3f8e6bd80cfe8ad8cab772559d6d1fa04c46d69e04c4c1a39e4c26e537126619", func := "gauntlet/gauntletlaw34.TracesTrees", spec := "tracesTrees", inPlace := ["internal/abi.NoEscape", "internal/bytealg.IndexByteString", "internal/bytealg.IndexString", "internal/bytealg.CountString"], unfollowed := true, recurses := true, named := ["internal/bytealg.MaxLen", "unicode/utf8.first", "unicode/utf8.acceptRanges"], apart := false, laid := [("unicode/utf8.acceptRanges", laid_unicode_utf8_acceptRanges), ("unicode/utf8.first", laid_unicode_utf8_first)], narrowed := true }
def TracesTreesUptoSaid : Prop := tracesTreesUptoRow.holds Tryz.pinned (OpenSpec.upto tracesTreesSpec)

/-- 'gauntletlaw34.TracesText', WHERE WHAT IT READS IS OF BULK AT MOST 1048576: true; the input reads as it did. -/
def tracesTextUptoRow : OpenClaim := { program := "ytiddfilinnbhaaagreatdoor", sum := "3f8e6bd80cfe8ad8cab772559d6d1fa04c46d69e04c4c1a39e4c26e537126619", func := "gauntlet/gauntletlaw34.TracesText", spec := "tracesText", inPlace := ["internal/abi.NoEscape", "internal/bytealg.IndexByteString", "internal/bytealg.IndexString", "internal/bytealg.CountString"], unfollowed := true, recurses := true, named := ["internal/bytealg.MaxLen", "unicode/utf8.first", "unicode/utf8.acceptRanges"], apart := false, laid := [("unicode/utf8.acceptRanges", laid_unicode_utf8_acceptRanges), ("unicode/utf8.first", laid_unicode_utf8_first)], narrowed := true }
def TracesTextUptoSaid : Prop := tracesTextUptoRow.holds Tryz.pinned (OpenSpec.upto tracesTextSpec)

/-- 'gauntletlaw34.TracesKnown', WHERE WHAT IT READS IS OF BULK AT MOST 1048576: true; the input reads as it did. -/
def tracesKnownUptoRow : OpenClaim := { program := "ytiddfilinnbhaaagreatdoor", sum := "3f8e6bd80cfe8ad8cab772559d6d1fa04c46d69e04c4c1a39e4c26e537126619", func := "gauntlet/gauntletlaw34.TracesKnown", spec := "tracesKnown", inPlace := ["internal/bytealg.IndexByteString", "internal/bytealg.IndexString", "internal/bytealg.CountString", "internal/abi.NoEscape"], unfollowed := true, recurses := true, named := ["internal/bytealg.MaxLen", "unicode/utf8.first", "unicode/utf8.acceptRanges"], apart := false, laid := [("unicode/utf8.acceptRanges", laid_unicode_utf8_acceptRanges), ("unicode/utf8.first", laid_unicode_utf8_first)], narrowed := true }
def TracesKnownUptoSaid : Prop := tracesKnownUptoRow.holds Tryz.pinned (OpenSpec.upto tracesKnownSpec)

/-- 'gauntletlaw34.TracesOf', WHERE WHAT IT READS IS OF BULK AT MOST 1048576: true; the input reads as it did. -/
def tracesOfUptoRow : OpenClaim := { program := "ytiddfilinnbhaaagreatdoor", sum := "3f8e6bd80cfe8ad8cab772559d6d1fa04c46d69e04c4c1a39e4c26e537126619", func := "gauntlet/gauntletlaw34.TracesOf", spec := "tracesOf", inPlace := ["internal/abi.NoEscape", "internal/bytealg.IndexByteString", "internal/bytealg.IndexString", "internal/bytealg.CountString"], unfollowed := true, recurses := true, named := ["internal/bytealg.MaxLen", "unicode/utf8.first", "unicode/utf8.acceptRanges"], apart := false, laid := [("unicode/utf8.acceptRanges", laid_unicode_utf8_acceptRanges), ("unicode/utf8.first", laid_unicode_utf8_first)], narrowed := true }
def TracesOfUptoSaid : Prop := tracesOfUptoRow.holds Tryz.pinned (OpenSpec.upto tracesOfSpec)

end Rows
end Go.Proofs.YtiddfilinnbhaaaGreatDoor
