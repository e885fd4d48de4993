/-
  NARROWER THAN 'FOR EVERY INPUT', by the rows' own cells (each row's printed sentence says how): GuardsText: laid · GuardsParse: laid · GuardsLaws: laid · GuardsShort: laid · GuardsEval: laid · GuardsErrors: loops, laid · GuardsKnown: laid.
  DERIVED. THE GIVEN ROWS OF THIS SEAT. 7 by the template 'for every input the law returns true; each argument reads behind the call as it read before'; 0 by the template 'total and deterministic' (their statements: YtfhkfifjbgcpiaaDoorTotals.lean).
  GIVEN WITH THE SEED: the statements are not yours to turn. If you find one false, say at which input.
  Laid BY PROGRAM, IN A SANDBOX (cutbox-rows.mjs): the forced cells as the released guide's own fill.sh prints them over the translation c69fb45166bc0150… (all of the seat's roots in one cut). By AI agents, Wed Nov 11 2026. No macro, syntax, notation, axiom, sorry.
-/
import Derived.Test.YtfhkfifjbgcpiaaDoorChecked
import GoSem.Claim
import GoSem.ClaimJoined
import GoSem.ClaimMapViews
import Derived.JoinedTies
import Derived.KernelRfl
namespace Go.Proofs.YtfhkfifjbgcpiaaDoor
/- THE CELL 'sum', in the pinned program and in every row, IS THE sha256 OF THE DUMP (.gsa) THAT YtfhkfifjbgcpiaaDoorProg.lean LOADS. Nothing in Lean hashes anything: it is a label: what it is worth is what the hold of that sum in a sandbox is worth. -/
noncomputable def Tryd.pinned : Pinned := { name := "ytfhkfifjbgcpiaadoor", sum := "c69fb45166bc0150c06cc42631ac67f17ad91bfd261fc03756ecd6baef127233", checked := Tryd.checked }
namespace Rows
def none {H : Type} : Left H := { results := [], args := [] }

/- WHAT THE LISTED PACKAGE-LEVEL VARIABLES READ AS WHEN THE CALL BEGINS. Each datum BY PROGRAM (the guide's laid-datum.mjs) off the statement by which the dump's own 'gosem.cut.vars' lays the variable. In a bare row this is a premise. The card (YtfhkfifjbgcpiaaDoorCards.lean) ties it to the program's text. -/
def laid_math_bits_deBruijn32tab {H : Type} : DataW H := .agg [.lit (.int .u8 0), .lit (.int .u8 1), .lit (.int .u8 28), .lit (.int .u8 2), .lit (.int .u8 29), .lit (.int .u8 14), .lit (.int .u8 24), .lit (.int .u8 3), .lit (.int .u8 30), .lit (.int .u8 22), .lit (.int .u8 20), .lit (.int .u8 15), .lit (.int .u8 25), .lit (.int .u8 17), .lit (.int .u8 4), .lit (.int .u8 8), .lit (.int .u8 31), .lit (.int .u8 27), .lit (.int .u8 13), .lit (.int .u8 23), .lit (.int .u8 21), .lit (.int .u8 19), .lit (.int .u8 16), .lit (.int .u8 7), .lit (.int .u8 26), .lit (.int .u8 12), .lit (.int .u8 18), .lit (.int .u8 6), .lit (.int .u8 11), .lit (.int .u8 5), .lit (.int .u8 10), .lit (.int .u8 9)]
def laid_math_bits_deBruijn64tab {H : Type} : DataW H := .agg [.lit (.int .u8 0), .lit (.int .u8 1), .lit (.int .u8 56), .lit (.int .u8 2), .lit (.int .u8 57), .lit (.int .u8 49), .lit (.int .u8 28), .lit (.int .u8 3), .lit (.int .u8 61), .lit (.int .u8 58), .lit (.int .u8 42), .lit (.int .u8 50), .lit (.int .u8 38), .lit (.int .u8 29), .lit (.int .u8 17), .lit (.int .u8 4), .lit (.int .u8 62), .lit (.int .u8 47), .lit (.int .u8 59), .lit (.int .u8 36), .lit (.int .u8 45), .lit (.int .u8 43), .lit (.int .u8 51), .lit (.int .u8 22), .lit (.int .u8 53), .lit (.int .u8 39), .lit (.int .u8 33), .lit (.int .u8 30), .lit (.int .u8 24), .lit (.int .u8 18), .lit (.int .u8 12), .lit (.int .u8 5), .lit (.int .u8 63), .lit (.int .u8 55), .lit (.int .u8 48), .lit (.int .u8 27), .lit (.int .u8 60), .lit (.int .u8 41), .lit (.int .u8 37), .lit (.int .u8 16), .lit (.int .u8 46), .lit (.int .u8 35), .lit (.int .u8 44), .lit (.int .u8 21), .lit (.int .u8 52), .lit (.int .u8 32), .lit (.int .u8 23), .lit (.int .u8 11), .lit (.int .u8 54), .lit (.int .u8 26), .lit (.int .u8 40), .lit (.int .u8 15), .lit (.int .u8 34), .lit (.int .u8 20), .lit (.int .u8 31), .lit (.int .u8 10), .lit (.int .u8 25), .lit (.int .u8 14), .lit (.int .u8 19), .lit (.int .u8 9), .lit (.int .u8 13), .lit (.int .u8 8), .lit (.int .u8 7), .lit (.int .u8 6)]
def laid_internal_strconv_uint64pow10 {H : Type} : DataW H := .agg [.lit (.int .u64 1), .lit (.int .u64 10), .lit (.int .u64 100), .lit (.int .u64 1000), .lit (.int .u64 10000), .lit (.int .u64 100000), .lit (.int .u64 1000000), .lit (.int .u64 10000000), .lit (.int .u64 100000000), .lit (.int .u64 1000000000), .lit (.int .u64 10000000000), .lit (.int .u64 100000000000), .lit (.int .u64 1000000000000), .lit (.int .u64 10000000000000), .lit (.int .u64 100000000000000), .lit (.int .u64 1000000000000000), .lit (.int .u64 10000000000000000), .lit (.int .u64 100000000000000000), .lit (.int .u64 1000000000000000000), .lit (.int .u64 10000000000000000000)]
def laid_strconv_ErrRange {H : Type} : DataW H := .iface "*errors.errorString" (.ptr (.agg [.lit (.string [118, 97, 108, 117, 101, 32, 111, 117, 116, 32, 111, 102, 32, 114, 97, 110, 103, 101])]))
def laid_strconv_ErrSyntax {H : Type} : DataW H := .iface "*errors.errorString" (.ptr (.agg [.lit (.string [105, 110, 118, 97, 108, 105, 100, 32, 115, 121, 110, 116, 97, 120])]))
def laid_gauntlet_guards_operations {H : Type} : DataW H := .iface "func table" (.agg [.agg [.lit (.string []), .lit (.int .i64 0), .lit (.int .i64 8), .agg [.lit (.int .i64 0), .lit (.int .i64 0)], .lit (.bool false), .nil], .agg [.lit (.string []), .lit (.int .i64 0), .lit (.int .i64 8), .agg [.lit (.int .i64 0), .lit (.int .i64 0)], .lit (.bool false), .nil], .agg [.lit (.string [45]), .lit (.int .i64 1), .lit (.int .i64 7), .agg [.lit (.int .i64 7), .lit (.int .i64 0)], .lit (.bool true), .iface "func" (.lit (.string [103, 97, 117, 110, 116, 108, 101, 116, 47, 103, 117, 97, 114, 100, 115, 46, 111, 112, 101, 114, 97, 116, 105, 111, 110, 115, 36, 49]))], .agg [.lit (.string [43]), .lit (.int .i64 2), .lit (.int .i64 5), .agg [.lit (.int .i64 5), .lit (.int .i64 6)], .lit (.bool true), .iface "func" (.lit (.string [103, 97, 117, 110, 116, 108, 101, 116, 47, 103, 117, 97, 114, 100, 115, 46, 111, 112, 101, 114, 97, 116, 105, 111, 110, 115, 36, 50]))], .agg [.lit (.string [45]), .lit (.int .i64 2), .lit (.int .i64 5), .agg [.lit (.int .i64 5), .lit (.int .i64 6)], .lit (.bool true), .iface "func" (.lit (.string [103, 97, 117, 110, 116, 108, 101, 116, 47, 103, 117, 97, 114, 100, 115, 46, 111, 112, 101, 114, 97, 116, 105, 111, 110, 115, 36, 51]))], .agg [.lit (.string [42]), .lit (.int .i64 2), .lit (.int .i64 6), .agg [.lit (.int .i64 6), .lit (.int .i64 7)], .lit (.bool true), .iface "func" (.lit (.string [103, 97, 117, 110, 116, 108, 101, 116, 47, 103, 117, 97, 114, 100, 115, 46, 111, 112, 101, 114, 97, 116, 105, 111, 110, 115, 36, 52]))], .agg [.lit (.string [61]), .lit (.int .i64 2), .lit (.int .i64 4), .agg [.lit (.int .i64 5), .lit (.int .i64 5)], .lit (.bool true), .iface "func" (.lit (.string [103, 97, 117, 110, 116, 108, 101, 116, 47, 103, 117, 97, 114, 100, 115, 46, 111, 112, 101, 114, 97, 116, 105, 111, 110, 115, 36, 53]))], .agg [.lit (.string [60]), .lit (.int .i64 2), .lit (.int .i64 4), .agg [.lit (.int .i64 5), .lit (.int .i64 5)], .lit (.bool true), .iface "func" (.lit (.string [103, 97, 117, 110, 116, 108, 101, 116, 47, 103, 117, 97, 114, 100, 115, 46, 111, 112, 101, 114, 97, 116, 105, 111, 110, 115, 36, 54]))], .agg [.lit (.string [60, 61]), .lit (.int .i64 2), .lit (.int .i64 4), .agg [.lit (.int .i64 5), .lit (.int .i64 5)], .lit (.bool true), .iface "func" (.lit (.string [103, 97, 117, 110, 116, 108, 101, 116, 47, 103, 117, 97, 114, 100, 115, 46, 111, 112, 101, 114, 97, 116, 105, 111, 110, 115, 36, 55]))], .agg [.lit (.string [110, 111, 116]), .lit (.int .i64 1), .lit (.int .i64 3), .agg [.lit (.int .i64 3), .lit (.int .i64 0)], .lit (.bool false), .iface "func" (.lit (.string [103, 97, 117, 110, 116, 108, 101, 116, 47, 103, 117, 97, 114, 100, 115, 46, 111, 112, 101, 114, 97, 116, 105, 111, 110, 115, 36, 56]))], .agg [.lit (.string [97, 110, 100]), .lit (.int .i64 2), .lit (.int .i64 2), .agg [.lit (.int .i64 2), .lit (.int .i64 3)], .lit (.bool false), .iface "func" (.lit (.string [103, 97, 117, 110, 116, 108, 101, 116, 47, 103, 117, 97, 114, 100, 115, 46, 111, 112, 101, 114, 97, 116, 105, 111, 110, 115, 36, 57]))], .agg [.lit (.string [111, 114]), .lit (.int .i64 2), .lit (.int .i64 1), .agg [.lit (.int .i64 1), .lit (.int .i64 2)], .lit (.bool false), .iface "func" (.lit (.string [103, 97, 117, 110, 116, 108, 101, 116, 47, 103, 117, 97, 114, 100, 115, 46, 111, 112, 101, 114, 97, 116, 105, 111, 110, 115, 36, 49, 48]))]])

/-- 'gauntletlaw28.GuardsText': WHATEVER THE INPUT: true; the input reads as it did. -/
def guardsTextSpec : ChangeSpec := { name := "guardsText", fn := fun _ => fun
  | [d] => { results := [.lit (.bool true)], args := [d] }
  | _ => none }
def guardsTextRow : OpenClaim := { program := "ytfhkfifjbgcpiaadoor", sum := "c69fb45166bc0150c06cc42631ac67f17ad91bfd261fc03756ecd6baef127233", func := "gauntlet/gauntletlaw28.GuardsText", spec := "guardsText", unfollowed := true, recurses := true, named := ["gauntlet/guards.operations", "internal/strconv.uint64pow10", "math/bits.deBruijn32tab", "math/bits.deBruijn64tab", "strconv.ErrSyntax", "strconv.ErrRange"], apart := false, laid := [("math/bits.deBruijn32tab", laid_math_bits_deBruijn32tab), ("math/bits.deBruijn64tab", laid_math_bits_deBruijn64tab), ("internal/strconv.uint64pow10", laid_internal_strconv_uint64pow10), ("strconv.ErrRange", laid_strconv_ErrRange), ("strconv.ErrSyntax", laid_strconv_ErrSyntax), ("gauntlet/guards.operations", laid_gauntlet_guards_operations)] }
def GuardsTextSaid : Prop := guardsTextRow.holds Tryd.pinned (OpenSpec.ofChange guardsTextSpec)

/-- ITS FALSE NEIGHBOUR: 'it returns false'. Refute it at one input. -/
def guardsTextWrong : ChangeSpec := { name := "guardsText", fn := fun _ => fun
  | [d] => { results := [.lit (.bool false)], args := [d] }
  | _ => none }
def GuardsTextWrongFalsely : Prop := guardsTextRow.holds Tryd.pinned (OpenSpec.ofChange guardsTextWrong)

/-- 'gauntletlaw28.GuardsParse': WHATEVER THE INPUT: true; the input reads as it did. -/
def guardsParseSpec : ChangeSpec := { name := "guardsParse", fn := fun _ => fun
  | [d] => { results := [.lit (.bool true)], args := [d] }
  | _ => none }
def guardsParseRow : OpenClaim := { program := "ytfhkfifjbgcpiaadoor", sum := "c69fb45166bc0150c06cc42631ac67f17ad91bfd261fc03756ecd6baef127233", func := "gauntlet/gauntletlaw28.GuardsParse", spec := "guardsParse", unfollowed := true, recurses := true, named := ["gauntlet/guards.operations", "strconv.ErrSyntax", "strconv.ErrRange", "internal/strconv.uint64pow10", "math/bits.deBruijn32tab", "math/bits.deBruijn64tab"], apart := false, laid := [("math/bits.deBruijn32tab", laid_math_bits_deBruijn32tab), ("math/bits.deBruijn64tab", laid_math_bits_deBruijn64tab), ("internal/strconv.uint64pow10", laid_internal_strconv_uint64pow10), ("strconv.ErrRange", laid_strconv_ErrRange), ("strconv.ErrSyntax", laid_strconv_ErrSyntax), ("gauntlet/guards.operations", laid_gauntlet_guards_operations)] }
def GuardsParseSaid : Prop := guardsParseRow.holds Tryd.pinned (OpenSpec.ofChange guardsParseSpec)

/-- ITS FALSE NEIGHBOUR: 'it returns false'. Refute it at one input. -/
def guardsParseWrong : ChangeSpec := { name := "guardsParse", fn := fun _ => fun
  | [d] => { results := [.lit (.bool false)], args := [d] }
  | _ => none }
def GuardsParseWrongFalsely : Prop := guardsParseRow.holds Tryd.pinned (OpenSpec.ofChange guardsParseWrong)

/-- 'gauntletlaw28.GuardsLaws': WHATEVER THE INPUT: true; the input reads as it did. -/
def guardsLawsSpec : ChangeSpec := { name := "guardsLaws", fn := fun _ => fun
  | [d1, d2, d3] => { results := [.lit (.bool true)], args := [d1, d2, d3] }
  | _ => none }
def guardsLawsRow : OpenClaim := { program := "ytfhkfifjbgcpiaadoor", sum := "c69fb45166bc0150c06cc42631ac67f17ad91bfd261fc03756ecd6baef127233", func := "gauntlet/gauntletlaw28.GuardsLaws", spec := "guardsLaws", unfollowed := true, recurses := true, named := ["gauntlet/guards.operations", "strconv.ErrSyntax", "strconv.ErrRange", "internal/strconv.uint64pow10", "math/bits.deBruijn32tab", "math/bits.deBruijn64tab"], apart := false, laid := [("math/bits.deBruijn32tab", laid_math_bits_deBruijn32tab), ("math/bits.deBruijn64tab", laid_math_bits_deBruijn64tab), ("internal/strconv.uint64pow10", laid_internal_strconv_uint64pow10), ("strconv.ErrRange", laid_strconv_ErrRange), ("strconv.ErrSyntax", laid_strconv_ErrSyntax), ("gauntlet/guards.operations", laid_gauntlet_guards_operations)] }
def GuardsLawsSaid : Prop := guardsLawsRow.holds Tryd.pinned (OpenSpec.ofChange guardsLawsSpec)

/-- ITS FALSE NEIGHBOUR: 'it returns false'. Refute it at one input. -/
def guardsLawsWrong : ChangeSpec := { name := "guardsLaws", fn := fun _ => fun
  | [d1, d2, d3] => { results := [.lit (.bool false)], args := [d1, d2, d3] }
  | _ => none }
def GuardsLawsWrongFalsely : Prop := guardsLawsRow.holds Tryd.pinned (OpenSpec.ofChange guardsLawsWrong)

/-- 'gauntletlaw28.GuardsShort': WHATEVER THE INPUT: true; the input reads as it did. -/
def guardsShortSpec : ChangeSpec := { name := "guardsShort", fn := fun _ => fun
  | [d1, d2, d3] => { results := [.lit (.bool true)], args := [d1, d2, d3] }
  | _ => none }
def guardsShortRow : OpenClaim := { program := "ytfhkfifjbgcpiaadoor", sum := "c69fb45166bc0150c06cc42631ac67f17ad91bfd261fc03756ecd6baef127233", func := "gauntlet/gauntletlaw28.GuardsShort", spec := "guardsShort", unfollowed := true, recurses := true, named := ["gauntlet/guards.operations", "strconv.ErrSyntax", "strconv.ErrRange", "internal/strconv.uint64pow10", "math/bits.deBruijn32tab", "math/bits.deBruijn64tab"], apart := false, laid := [("math/bits.deBruijn32tab", laid_math_bits_deBruijn32tab), ("math/bits.deBruijn64tab", laid_math_bits_deBruijn64tab), ("internal/strconv.uint64pow10", laid_internal_strconv_uint64pow10), ("strconv.ErrRange", laid_strconv_ErrRange), ("strconv.ErrSyntax", laid_strconv_ErrSyntax), ("gauntlet/guards.operations", laid_gauntlet_guards_operations)] }
def GuardsShortSaid : Prop := guardsShortRow.holds Tryd.pinned (OpenSpec.ofChange guardsShortSpec)

/-- ITS FALSE NEIGHBOUR: 'it returns false'. Refute it at one input. -/
def guardsShortWrong : ChangeSpec := { name := "guardsShort", fn := fun _ => fun
  | [d1, d2, d3] => { results := [.lit (.bool false)], args := [d1, d2, d3] }
  | _ => none }
def GuardsShortWrongFalsely : Prop := guardsShortRow.holds Tryd.pinned (OpenSpec.ofChange guardsShortWrong)

/-- 'gauntletlaw28.GuardsEval': WHATEVER THE INPUT: true; the input reads as it did. -/
def guardsEvalSpec : ChangeSpec := { name := "guardsEval", fn := fun _ => fun
  | [d1, d2] => { results := [.lit (.bool true)], args := [d1, d2] }
  | _ => none }
def guardsEvalRow : OpenClaim := { program := "ytfhkfifjbgcpiaadoor", sum := "c69fb45166bc0150c06cc42631ac67f17ad91bfd261fc03756ecd6baef127233", func := "gauntlet/gauntletlaw28.GuardsEval", spec := "guardsEval", unfollowed := true, recurses := true, named := ["gauntlet/guards.operations", "strconv.ErrSyntax", "strconv.ErrRange", "internal/strconv.uint64pow10", "math/bits.deBruijn32tab", "math/bits.deBruijn64tab"], apart := false, laid := [("math/bits.deBruijn32tab", laid_math_bits_deBruijn32tab), ("math/bits.deBruijn64tab", laid_math_bits_deBruijn64tab), ("internal/strconv.uint64pow10", laid_internal_strconv_uint64pow10), ("strconv.ErrRange", laid_strconv_ErrRange), ("strconv.ErrSyntax", laid_strconv_ErrSyntax), ("gauntlet/guards.operations", laid_gauntlet_guards_operations)] }
def GuardsEvalSaid : Prop := guardsEvalRow.holds Tryd.pinned (OpenSpec.ofChange guardsEvalSpec)

/-- ITS FALSE NEIGHBOUR: 'it returns false'. Refute it at one input. -/
def guardsEvalWrong : ChangeSpec := { name := "guardsEval", fn := fun _ => fun
  | [d1, d2] => { results := [.lit (.bool false)], args := [d1, d2] }
  | _ => none }
def GuardsEvalWrongFalsely : Prop := guardsEvalRow.holds Tryd.pinned (OpenSpec.ofChange guardsEvalWrong)

/-- 'gauntletlaw28.GuardsErrors': WHATEVER THE INPUT: true; the input reads as it did. -/
def guardsErrorsSpec : ChangeSpec := { name := "guardsErrors", fn := fun _ => fun
  | [d1, d2, d3] => { results := [.lit (.bool true)], args := [d1, d2, d3] }
  | _ => none }
def guardsErrorsRow : OpenClaim := { program := "ytfhkfifjbgcpiaadoor", sum := "c69fb45166bc0150c06cc42631ac67f17ad91bfd261fc03756ecd6baef127233", func := "gauntlet/gauntletlaw28.GuardsErrors", spec := "guardsErrors", unfollowed := true, recurses := true, named := ["gauntlet/guards.operations", "strconv.ErrSyntax", "strconv.ErrRange", "internal/strconv.uint64pow10", "math/bits.deBruijn32tab", "math/bits.deBruijn64tab"], loops := true, apart := false, laid := [("math/bits.deBruijn32tab", laid_math_bits_deBruijn32tab), ("math/bits.deBruijn64tab", laid_math_bits_deBruijn64tab), ("internal/strconv.uint64pow10", laid_internal_strconv_uint64pow10), ("strconv.ErrRange", laid_strconv_ErrRange), ("strconv.ErrSyntax", laid_strconv_ErrSyntax), ("gauntlet/guards.operations", laid_gauntlet_guards_operations)] }
def GuardsErrorsSaid : Prop := guardsErrorsRow.holds Tryd.pinned (OpenSpec.ofChange guardsErrorsSpec)

/-- ITS FALSE NEIGHBOUR: 'it returns false'. Refute it at one input. -/
def guardsErrorsWrong : ChangeSpec := { name := "guardsErrors", fn := fun _ => fun
  | [d1, d2, d3] => { results := [.lit (.bool false)], args := [d1, d2, d3] }
  | _ => none }
def GuardsErrorsWrongFalsely : Prop := guardsErrorsRow.holds Tryd.pinned (OpenSpec.ofChange guardsErrorsWrong)

/-- 'gauntletlaw28.GuardsKnown': WHATEVER THE INPUT: true; the input reads as it did. -/
def guardsKnownSpec : ChangeSpec := { name := "guardsKnown", fn := fun _ => fun
  | [] => { results := [.lit (.bool true)], args := [] }
  | _ => none }
def guardsKnownRow : OpenClaim := { program := "ytfhkfifjbgcpiaadoor", sum := "c69fb45166bc0150c06cc42631ac67f17ad91bfd261fc03756ecd6baef127233", func := "gauntlet/gauntletlaw28.GuardsKnown", spec := "guardsKnown", unfollowed := true, recurses := true, named := ["gauntlet/guards.operations", "strconv.ErrSyntax", "strconv.ErrRange", "internal/strconv.uint64pow10", "math/bits.deBruijn32tab", "math/bits.deBruijn64tab"], apart := false, laid := [("math/bits.deBruijn32tab", laid_math_bits_deBruijn32tab), ("math/bits.deBruijn64tab", laid_math_bits_deBruijn64tab), ("internal/strconv.uint64pow10", laid_internal_strconv_uint64pow10), ("strconv.ErrRange", laid_strconv_ErrRange), ("strconv.ErrSyntax", laid_strconv_ErrSyntax), ("gauntlet/guards.operations", laid_gauntlet_guards_operations)] }
def GuardsKnownSaid : Prop := guardsKnownRow.holds Tryd.pinned (OpenSpec.ofChange guardsKnownSpec)

/-- ITS FALSE NEIGHBOUR: 'it returns false'. Refute it at one input. -/
def guardsKnownWrong : ChangeSpec := { name := "guardsKnown", fn := fun _ => fun
  | [] => { results := [.lit (.bool false)], args := [] }
  | _ => none }
def GuardsKnownWrongFalsely : Prop := guardsKnownRow.holds Tryd.pinned (OpenSpec.ofChange guardsKnownWrong)

/- THE SECOND FORM. 'bulk': how many values and letters a reading holds, each counted each time it is reached (what is shared counts as often as it is met; a slice's spare places count too). A statement '..UptoSaid' is the law's where the arguments, and the package variables that the reading takes, are together of bulk at most 1048576: NARROWER than '..Said'. Prove '..Said' where nothing that the law and all that it calls make is longer than what came in: it says more and counts as full. Else prove '..UptoSaid'. A law counts once. -/
mutual
def uptoBulk {H : Type} : DataW H → Nat
  | .lit (.string bytes) => bytes.length + 1
  | .lit _ => 1
  | .nil => 1
  | .ptr d => uptoBulk d + 1
  | .slice elems spare => uptoBulkAll elems + uptoBulkAll spare + 1
  | .agg parts => uptoBulkAll parts + 1
  | .iface _ d => uptoBulk d + 1
  | .map entries => uptoBulkEntries entries + 1
  | .held _ => 1
def uptoBulkAll {H : Type} : List (DataW H) → Nat
  | [] => 0
  | d :: r => uptoBulk d + uptoBulkAll r
def uptoBulkEntries {H : Type} : List (Lit × DataW H) → Nat
  | [] => 0
  | x :: r => uptoBulkEntry x + uptoBulkEntries r
def uptoBulkEntry {H : Type} : Lit × DataW H → Nat
  | (.string bytes, d) => bytes.length + uptoBulk d + 1
  | (_, d) => uptoBulk d + 1
 end
def uptoSmall : (H : Type) → List (DataW H) → Bool := fun _ ds => decide (uptoBulkAll ds ≤ 1048576)
def OpenSpec.upto (s : _root_.Go.ChangeSpec) : _root_.Go.OpenSpec := { _root_.Go.OpenSpec.ofChange s with cond := some uptoSmall }

/-- 'gauntletlaw28.GuardsText', WHERE WHAT IT READS IS OF BULK AT MOST 1048576: true; the input reads as it did. -/
def guardsTextUptoRow : OpenClaim := { program := "ytfhkfifjbgcpiaadoor", sum := "c69fb45166bc0150c06cc42631ac67f17ad91bfd261fc03756ecd6baef127233", func := "gauntlet/gauntletlaw28.GuardsText", spec := "guardsText", unfollowed := true, recurses := true, named := ["gauntlet/guards.operations", "internal/strconv.uint64pow10", "math/bits.deBruijn32tab", "math/bits.deBruijn64tab", "strconv.ErrSyntax", "strconv.ErrRange"], apart := false, laid := [("math/bits.deBruijn32tab", laid_math_bits_deBruijn32tab), ("math/bits.deBruijn64tab", laid_math_bits_deBruijn64tab), ("internal/strconv.uint64pow10", laid_internal_strconv_uint64pow10), ("strconv.ErrRange", laid_strconv_ErrRange), ("strconv.ErrSyntax", laid_strconv_ErrSyntax), ("gauntlet/guards.operations", laid_gauntlet_guards_operations)], narrowed := true }
def GuardsTextUptoSaid : Prop := guardsTextUptoRow.holds Tryd.pinned (OpenSpec.upto guardsTextSpec)

/-- 'gauntletlaw28.GuardsParse', WHERE WHAT IT READS IS OF BULK AT MOST 1048576: true; the input reads as it did. -/
def guardsParseUptoRow : OpenClaim := { program := "ytfhkfifjbgcpiaadoor", sum := "c69fb45166bc0150c06cc42631ac67f17ad91bfd261fc03756ecd6baef127233", func := "gauntlet/gauntletlaw28.GuardsParse", spec := "guardsParse", unfollowed := true, recurses := true, named := ["gauntlet/guards.operations", "strconv.ErrSyntax", "strconv.ErrRange", "internal/strconv.uint64pow10", "math/bits.deBruijn32tab", "math/bits.deBruijn64tab"], apart := false, laid := [("math/bits.deBruijn32tab", laid_math_bits_deBruijn32tab), ("math/bits.deBruijn64tab", laid_math_bits_deBruijn64tab), ("internal/strconv.uint64pow10", laid_internal_strconv_uint64pow10), ("strconv.ErrRange", laid_strconv_ErrRange), ("strconv.ErrSyntax", laid_strconv_ErrSyntax), ("gauntlet/guards.operations", laid_gauntlet_guards_operations)], narrowed := true }
def GuardsParseUptoSaid : Prop := guardsParseUptoRow.holds Tryd.pinned (OpenSpec.upto guardsParseSpec)

/-- 'gauntletlaw28.GuardsLaws', WHERE WHAT IT READS IS OF BULK AT MOST 1048576: true; the input reads as it did. -/
def guardsLawsUptoRow : OpenClaim := { program := "ytfhkfifjbgcpiaadoor", sum := "c69fb45166bc0150c06cc42631ac67f17ad91bfd261fc03756ecd6baef127233", func := "gauntlet/gauntletlaw28.GuardsLaws", spec := "guardsLaws", unfollowed := true, recurses := true, named := ["gauntlet/guards.operations", "strconv.ErrSyntax", "strconv.ErrRange", "internal/strconv.uint64pow10", "math/bits.deBruijn32tab", "math/bits.deBruijn64tab"], apart := false, laid := [("math/bits.deBruijn32tab", laid_math_bits_deBruijn32tab), ("math/bits.deBruijn64tab", laid_math_bits_deBruijn64tab), ("internal/strconv.uint64pow10", laid_internal_strconv_uint64pow10), ("strconv.ErrRange", laid_strconv_ErrRange), ("strconv.ErrSyntax", laid_strconv_ErrSyntax), ("gauntlet/guards.operations", laid_gauntlet_guards_operations)], narrowed := true }
def GuardsLawsUptoSaid : Prop := guardsLawsUptoRow.holds Tryd.pinned (OpenSpec.upto guardsLawsSpec)

/-- 'gauntletlaw28.GuardsShort', WHERE WHAT IT READS IS OF BULK AT MOST 1048576: true; the input reads as it did. -/
def guardsShortUptoRow : OpenClaim := { program := "ytfhkfifjbgcpiaadoor", sum := "c69fb45166bc0150c06cc42631ac67f17ad91bfd261fc03756ecd6baef127233", func := "gauntlet/gauntletlaw28.GuardsShort", spec := "guardsShort", unfollowed := true, recurses := true, named := ["gauntlet/guards.operations", "strconv.ErrSyntax", "strconv.ErrRange", "internal/strconv.uint64pow10", "math/bits.deBruijn32tab", "math/bits.deBruijn64tab"], apart := false, laid := [("math/bits.deBruijn32tab", laid_math_bits_deBruijn32tab), ("math/bits.deBruijn64tab", laid_math_bits_deBruijn64tab), ("internal/strconv.uint64pow10", laid_internal_strconv_uint64pow10), ("strconv.ErrRange", laid_strconv_ErrRange), ("strconv.ErrSyntax", laid_strconv_ErrSyntax), ("gauntlet/guards.operations", laid_gauntlet_guards_operations)], narrowed := true }
def GuardsShortUptoSaid : Prop := guardsShortUptoRow.holds Tryd.pinned (OpenSpec.upto guardsShortSpec)

/-- 'gauntletlaw28.GuardsEval', WHERE WHAT IT READS IS OF BULK AT MOST 1048576: true; the input reads as it did. -/
def guardsEvalUptoRow : OpenClaim := { program := "ytfhkfifjbgcpiaadoor", sum := "c69fb45166bc0150c06cc42631ac67f17ad91bfd261fc03756ecd6baef127233", func := "gauntlet/gauntletlaw28.GuardsEval", spec := "guardsEval", unfollowed := true, recurses := true, named := ["gauntlet/guards.operations", "strconv.ErrSyntax", "strconv.ErrRange", "internal/strconv.uint64pow10", "math/bits.deBruijn32tab", "math/bits.deBruijn64tab"], apart := false, laid := [("math/bits.deBruijn32tab", laid_math_bits_deBruijn32tab), ("math/bits.deBruijn64tab", laid_math_bits_deBruijn64tab), ("internal/strconv.uint64pow10", laid_internal_strconv_uint64pow10), ("strconv.ErrRange", laid_strconv_ErrRange), ("strconv.ErrSyntax", laid_strconv_ErrSyntax), ("gauntlet/guards.operations", laid_gauntlet_guards_operations)], narrowed := true }
def GuardsEvalUptoSaid : Prop := guardsEvalUptoRow.holds Tryd.pinned (OpenSpec.upto guardsEvalSpec)

/-- 'gauntletlaw28.GuardsErrors', WHERE WHAT IT READS IS OF BULK AT MOST 1048576: true; the input reads as it did. -/
def guardsErrorsUptoRow : OpenClaim := { program := "ytfhkfifjbgcpiaadoor", sum := "c69fb45166bc0150c06cc42631ac67f17ad91bfd261fc03756ecd6baef127233", func := "gauntlet/gauntletlaw28.GuardsErrors", spec := "guardsErrors", unfollowed := true, recurses := true, named := ["gauntlet/guards.operations", "strconv.ErrSyntax", "strconv.ErrRange", "internal/strconv.uint64pow10", "math/bits.deBruijn32tab", "math/bits.deBruijn64tab"], loops := true, apart := false, laid := [("math/bits.deBruijn32tab", laid_math_bits_deBruijn32tab), ("math/bits.deBruijn64tab", laid_math_bits_deBruijn64tab), ("internal/strconv.uint64pow10", laid_internal_strconv_uint64pow10), ("strconv.ErrRange", laid_strconv_ErrRange), ("strconv.ErrSyntax", laid_strconv_ErrSyntax), ("gauntlet/guards.operations", laid_gauntlet_guards_operations)], narrowed := true }
def GuardsErrorsUptoSaid : Prop := guardsErrorsUptoRow.holds Tryd.pinned (OpenSpec.upto guardsErrorsSpec)

/-- 'gauntletlaw28.GuardsKnown', WHERE WHAT IT READS IS OF BULK AT MOST 1048576: true; the input reads as it did. -/
def guardsKnownUptoRow : OpenClaim := { program := "ytfhkfifjbgcpiaadoor", sum := "c69fb45166bc0150c06cc42631ac67f17ad91bfd261fc03756ecd6baef127233", func := "gauntlet/gauntletlaw28.GuardsKnown", spec := "guardsKnown", unfollowed := true, recurses := true, named := ["gauntlet/guards.operations", "strconv.ErrSyntax", "strconv.ErrRange", "internal/strconv.uint64pow10", "math/bits.deBruijn32tab", "math/bits.deBruijn64tab"], apart := false, laid := [("math/bits.deBruijn32tab", laid_math_bits_deBruijn32tab), ("math/bits.deBruijn64tab", laid_math_bits_deBruijn64tab), ("internal/strconv.uint64pow10", laid_internal_strconv_uint64pow10), ("strconv.ErrRange", laid_strconv_ErrRange), ("strconv.ErrSyntax", laid_strconv_ErrSyntax), ("gauntlet/guards.operations", laid_gauntlet_guards_operations)], narrowed := true }
def GuardsKnownUptoSaid : Prop := guardsKnownUptoRow.holds Tryd.pinned (OpenSpec.upto guardsKnownSpec)

end Rows
end Go.Proofs.YtfhkfifjbgcpiaaDoor
