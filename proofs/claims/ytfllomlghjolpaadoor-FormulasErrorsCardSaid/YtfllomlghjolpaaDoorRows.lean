/-
  NARROWER THAN 'FOR EVERY INPUT', by the rows' own cells (each row's printed sentence says how): FormulasSat: laid · FormulasText: laid · FormulasParse: laid · FormulasDual: laid · FormulasWitness: laid · FormulasErrors: loops, laid · FormulasKnown: laid.
  DERIVED. THE GIVEN ROWS OF THIS SEAT. 7 by the template 'for every input the law returns true; each argument reads behind the call as it read before'; 0 by the template 'total and deterministic' (their statements: YtfllomlghjolpaaDoorTotals.lean).
  GIVEN WITH THE SEED: the statements are not yours to turn. If you find one false, say at which input.
  Laid BY PROGRAM, IN A SANDBOX (cutbox-rows.mjs): the forced cells as the released guide's own fill.sh prints them over the translation c0dfbf1a6d051fe4… (all of the seat's roots in one cut). By AI agents, Wed Nov 11 2026. No macro, syntax, notation, axiom, sorry.
-/
import Derived.Test.YtfllomlghjolpaaDoorChecked
import GoSem.Claim
import GoSem.ClaimJoined
import GoSem.ClaimMapViews
import Derived.JoinedTies
import Derived.KernelRfl
namespace Go.Proofs.YtfllomlghjolpaaDoor
/- THE CELL 'sum', in the pinned program and in every row, IS THE sha256 OF THE DUMP (.gsa) THAT YtfllomlghjolpaaDoorProg.lean LOADS. Nothing in Lean hashes anything: it is a label: what it is worth is what the hold of that sum in a sandbox is worth. -/
noncomputable def Tryd.pinned : Pinned := { name := "ytfllomlghjolpaadoor", sum := "c0dfbf1a6d051fe4c9aff2956c0ef6b7ab557a3fa98913444245291f9ee1b208", checked := Tryd.checked }
namespace Rows
def none {H : Type} : Left H := { results := [], args := [] }

/- WHAT THE LISTED PACKAGE-LEVEL VARIABLES READ AS WHEN THE CALL BEGINS. Each datum BY PROGRAM (the guide's laid-datum.mjs) off the statement by which the dump's own 'gosem.cut.vars' lays the variable. In a bare row this is a premise. The card (YtfllomlghjolpaaDoorCards.lean) ties it to the program's text. -/
def laid_math_bits_deBruijn32tab {H : Type} : DataW H := .agg [.lit (.int .u8 0), .lit (.int .u8 1), .lit (.int .u8 28), .lit (.int .u8 2), .lit (.int .u8 29), .lit (.int .u8 14), .lit (.int .u8 24), .lit (.int .u8 3), .lit (.int .u8 30), .lit (.int .u8 22), .lit (.int .u8 20), .lit (.int .u8 15), .lit (.int .u8 25), .lit (.int .u8 17), .lit (.int .u8 4), .lit (.int .u8 8), .lit (.int .u8 31), .lit (.int .u8 27), .lit (.int .u8 13), .lit (.int .u8 23), .lit (.int .u8 21), .lit (.int .u8 19), .lit (.int .u8 16), .lit (.int .u8 7), .lit (.int .u8 26), .lit (.int .u8 12), .lit (.int .u8 18), .lit (.int .u8 6), .lit (.int .u8 11), .lit (.int .u8 5), .lit (.int .u8 10), .lit (.int .u8 9)]
def laid_math_bits_deBruijn64tab {H : Type} : DataW H := .agg [.lit (.int .u8 0), .lit (.int .u8 1), .lit (.int .u8 56), .lit (.int .u8 2), .lit (.int .u8 57), .lit (.int .u8 49), .lit (.int .u8 28), .lit (.int .u8 3), .lit (.int .u8 61), .lit (.int .u8 58), .lit (.int .u8 42), .lit (.int .u8 50), .lit (.int .u8 38), .lit (.int .u8 29), .lit (.int .u8 17), .lit (.int .u8 4), .lit (.int .u8 62), .lit (.int .u8 47), .lit (.int .u8 59), .lit (.int .u8 36), .lit (.int .u8 45), .lit (.int .u8 43), .lit (.int .u8 51), .lit (.int .u8 22), .lit (.int .u8 53), .lit (.int .u8 39), .lit (.int .u8 33), .lit (.int .u8 30), .lit (.int .u8 24), .lit (.int .u8 18), .lit (.int .u8 12), .lit (.int .u8 5), .lit (.int .u8 63), .lit (.int .u8 55), .lit (.int .u8 48), .lit (.int .u8 27), .lit (.int .u8 60), .lit (.int .u8 41), .lit (.int .u8 37), .lit (.int .u8 16), .lit (.int .u8 46), .lit (.int .u8 35), .lit (.int .u8 44), .lit (.int .u8 21), .lit (.int .u8 52), .lit (.int .u8 32), .lit (.int .u8 23), .lit (.int .u8 11), .lit (.int .u8 54), .lit (.int .u8 26), .lit (.int .u8 40), .lit (.int .u8 15), .lit (.int .u8 34), .lit (.int .u8 20), .lit (.int .u8 31), .lit (.int .u8 10), .lit (.int .u8 25), .lit (.int .u8 14), .lit (.int .u8 19), .lit (.int .u8 9), .lit (.int .u8 13), .lit (.int .u8 8), .lit (.int .u8 7), .lit (.int .u8 6)]
def laid_internal_strconv_uint64pow10 {H : Type} : DataW H := .agg [.lit (.int .u64 1), .lit (.int .u64 10), .lit (.int .u64 100), .lit (.int .u64 1000), .lit (.int .u64 10000), .lit (.int .u64 100000), .lit (.int .u64 1000000), .lit (.int .u64 10000000), .lit (.int .u64 100000000), .lit (.int .u64 1000000000), .lit (.int .u64 10000000000), .lit (.int .u64 100000000000), .lit (.int .u64 1000000000000), .lit (.int .u64 10000000000000), .lit (.int .u64 100000000000000), .lit (.int .u64 1000000000000000), .lit (.int .u64 10000000000000000), .lit (.int .u64 100000000000000000), .lit (.int .u64 1000000000000000000), .lit (.int .u64 10000000000000000000)]
def laid_strconv_ErrRange {H : Type} : DataW H := .iface "*errors.errorString" (.ptr (.agg [.lit (.string [118, 97, 108, 117, 101, 32, 111, 117, 116, 32, 111, 102, 32, 114, 97, 110, 103, 101])]))
def laid_strconv_ErrSyntax {H : Type} : DataW H := .iface "*errors.errorString" (.ptr (.agg [.lit (.string [105, 110, 118, 97, 108, 105, 100, 32, 115, 121, 110, 116, 97, 120])]))
def laid_gauntlet_formulas_operations {H : Type} : DataW H := .iface "func table" (.agg [.agg [.lit (.int .i64 0), .lit (.int .i64 4), .lit (.string [116, 114, 117, 101]), .iface "func" (.lit (.string [103, 97, 117, 110, 116, 108, 101, 116, 47, 102, 111, 114, 109, 117, 108, 97, 115, 46, 111, 112, 101, 114, 97, 116, 105, 111, 110, 115, 36, 49]))], .agg [.lit (.int .i64 0), .lit (.int .i64 4), .lit (.string [115, 116, 97, 116, 101]), .iface "func" (.lit (.string [103, 97, 117, 110, 116, 108, 101, 116, 47, 102, 111, 114, 109, 117, 108, 97, 115, 46, 111, 112, 101, 114, 97, 116, 105, 111, 110, 115, 36, 50]))], .agg [.lit (.int .i64 0), .lit (.int .i64 4), .lit (.string [99, 97, 110]), .iface "func" (.lit (.string [103, 97, 117, 110, 116, 108, 101, 116, 47, 102, 111, 114, 109, 117, 108, 97, 115, 46, 111, 112, 101, 114, 97, 116, 105, 111, 110, 115, 36, 51]))], .agg [.lit (.int .i64 0), .lit (.int .i64 4), .lit (.string [103, 105, 118, 101, 115]), .iface "func" (.lit (.string [103, 97, 117, 110, 116, 108, 101, 116, 47, 102, 111, 114, 109, 117, 108, 97, 115, 46, 111, 112, 101, 114, 97, 116, 105, 111, 110, 115, 36, 52]))], .agg [.lit (.int .i64 1), .lit (.int .i64 3), .lit (.string [110, 111, 116]), .iface "func" (.lit (.string [103, 97, 117, 110, 116, 108, 101, 116, 47, 102, 111, 114, 109, 117, 108, 97, 115, 46, 111, 112, 101, 114, 97, 116, 105, 111, 110, 115, 36, 53]))], .agg [.lit (.int .i64 2), .lit (.int .i64 2), .lit (.string [97, 110, 100]), .iface "func" (.lit (.string [103, 97, 117, 110, 116, 108, 101, 116, 47, 102, 111, 114, 109, 117, 108, 97, 115, 46, 111, 112, 101, 114, 97, 116, 105, 111, 110, 115, 36, 54]))], .agg [.lit (.int .i64 2), .lit (.int .i64 1), .lit (.string [111, 114]), .iface "func" (.lit (.string [103, 97, 117, 110, 116, 108, 101, 116, 47, 102, 111, 114, 109, 117, 108, 97, 115, 46, 111, 112, 101, 114, 97, 116, 105, 111, 110, 115, 36, 55]))], .agg [.lit (.int .i64 1), .lit (.int .i64 3), .lit (.string [69, 88]), .iface "func" (.lit (.string [103, 97, 117, 110, 116, 108, 101, 116, 47, 102, 111, 114, 109, 117, 108, 97, 115, 46, 111, 112, 101, 114, 97, 116, 105, 111, 110, 115, 36, 56]))], .agg [.lit (.int .i64 1), .lit (.int .i64 3), .lit (.string [69, 70]), .iface "func" (.lit (.string [103, 97, 117, 110, 116, 108, 101, 116, 47, 102, 111, 114, 109, 117, 108, 97, 115, 46, 111, 112, 101, 114, 97, 116, 105, 111, 110, 115, 36, 57]))], .agg [.lit (.int .i64 1), .lit (.int .i64 3), .lit (.string [69, 71]), .iface "func" (.lit (.string [103, 97, 117, 110, 116, 108, 101, 116, 47, 102, 111, 114, 109, 117, 108, 97, 115, 46, 111, 112, 101, 114, 97, 116, 105, 111, 110, 115, 36, 49, 48]))], .agg [.lit (.int .i64 2), .lit (.int .i64 4), .lit (.string [69]), .iface "func" (.lit (.string [103, 97, 117, 110, 116, 108, 101, 116, 47, 102, 111, 114, 109, 117, 108, 97, 115, 46, 111, 112, 101, 114, 97, 116, 105, 111, 110, 115, 36, 49, 49]))], .agg [.lit (.int .i64 1), .lit (.int .i64 3), .lit (.string [65, 88]), .iface "func" (.lit (.string [103, 97, 117, 110, 116, 108, 101, 116, 47, 102, 111, 114, 109, 117, 108, 97, 115, 46, 111, 112, 101, 114, 97, 116, 105, 111, 110, 115, 36, 49, 50]))], .agg [.lit (.int .i64 1), .lit (.int .i64 3), .lit (.string [65, 70]), .iface "func" (.lit (.string [103, 97, 117, 110, 116, 108, 101, 116, 47, 102, 111, 114, 109, 117, 108, 97, 115, 46, 111, 112, 101, 114, 97, 116, 105, 111, 110, 115, 36, 49, 51]))], .agg [.lit (.int .i64 1), .lit (.int .i64 3), .lit (.string [65, 71]), .iface "func" (.lit (.string [103, 97, 117, 110, 116, 108, 101, 116, 47, 102, 111, 114, 109, 117, 108, 97, 115, 46, 111, 112, 101, 114, 97, 116, 105, 111, 110, 115, 36, 49, 52]))], .agg [.lit (.int .i64 2), .lit (.int .i64 4), .lit (.string [65]), .iface "func" (.lit (.string [103, 97, 117, 110, 116, 108, 101, 116, 47, 102, 111, 114, 109, 117, 108, 97, 115, 46, 111, 112, 101, 114, 97, 116, 105, 111, 110, 115, 36, 49, 53]))]])

/-- 'gauntletlaw33.FormulasSat': WHATEVER THE INPUT: true; the input reads as it did. -/
def formulasSatSpec : ChangeSpec := { name := "formulasSat", fn := fun _ => fun
  | [d] => { results := [.lit (.bool true)], args := [d] }
  | _ => none }
def formulasSatRow : OpenClaim := { program := "ytfllomlghjolpaadoor", sum := "c0dfbf1a6d051fe4c9aff2956c0ef6b7ab557a3fa98913444245291f9ee1b208", func := "gauntlet/gauntletlaw33.FormulasSat", spec := "formulasSat", unfollowed := true, recurses := true, named := ["gauntlet/formulas.operations", "strconv.ErrSyntax", "strconv.ErrRange", "internal/strconv.uint64pow10", "math/bits.deBruijn32tab", "math/bits.deBruijn64tab"], apart := false, laid := [("math/bits.deBruijn32tab", laid_math_bits_deBruijn32tab), ("math/bits.deBruijn64tab", laid_math_bits_deBruijn64tab), ("internal/strconv.uint64pow10", laid_internal_strconv_uint64pow10), ("strconv.ErrRange", laid_strconv_ErrRange), ("strconv.ErrSyntax", laid_strconv_ErrSyntax), ("gauntlet/formulas.operations", laid_gauntlet_formulas_operations)] }
def FormulasSatSaid : Prop := formulasSatRow.holds Tryd.pinned (OpenSpec.ofChange formulasSatSpec)

/-- ITS FALSE NEIGHBOUR: 'it returns false'. Refute it at one input. -/
def formulasSatWrong : ChangeSpec := { name := "formulasSat", fn := fun _ => fun
  | [d] => { results := [.lit (.bool false)], args := [d] }
  | _ => none }
def FormulasSatWrongFalsely : Prop := formulasSatRow.holds Tryd.pinned (OpenSpec.ofChange formulasSatWrong)

/-- 'gauntletlaw33.FormulasText': WHATEVER THE INPUT: true; the input reads as it did. -/
def formulasTextSpec : ChangeSpec := { name := "formulasText", fn := fun _ => fun
  | [d] => { results := [.lit (.bool true)], args := [d] }
  | _ => none }
def formulasTextRow : OpenClaim := { program := "ytfllomlghjolpaadoor", sum := "c0dfbf1a6d051fe4c9aff2956c0ef6b7ab557a3fa98913444245291f9ee1b208", func := "gauntlet/gauntletlaw33.FormulasText", spec := "formulasText", unfollowed := true, recurses := true, named := ["gauntlet/formulas.operations", "internal/strconv.uint64pow10", "math/bits.deBruijn32tab", "math/bits.deBruijn64tab", "strconv.ErrSyntax", "strconv.ErrRange"], apart := false, laid := [("math/bits.deBruijn32tab", laid_math_bits_deBruijn32tab), ("math/bits.deBruijn64tab", laid_math_bits_deBruijn64tab), ("internal/strconv.uint64pow10", laid_internal_strconv_uint64pow10), ("strconv.ErrRange", laid_strconv_ErrRange), ("strconv.ErrSyntax", laid_strconv_ErrSyntax), ("gauntlet/formulas.operations", laid_gauntlet_formulas_operations)] }
def FormulasTextSaid : Prop := formulasTextRow.holds Tryd.pinned (OpenSpec.ofChange formulasTextSpec)

/-- ITS FALSE NEIGHBOUR: 'it returns false'. Refute it at one input. -/
def formulasTextWrong : ChangeSpec := { name := "formulasText", fn := fun _ => fun
  | [d] => { results := [.lit (.bool false)], args := [d] }
  | _ => none }
def FormulasTextWrongFalsely : Prop := formulasTextRow.holds Tryd.pinned (OpenSpec.ofChange formulasTextWrong)

/-- 'gauntletlaw33.FormulasParse': WHATEVER THE INPUT: true; the input reads as it did. -/
def formulasParseSpec : ChangeSpec := { name := "formulasParse", fn := fun _ => fun
  | [d] => { results := [.lit (.bool true)], args := [d] }
  | _ => none }
def formulasParseRow : OpenClaim := { program := "ytfllomlghjolpaadoor", sum := "c0dfbf1a6d051fe4c9aff2956c0ef6b7ab557a3fa98913444245291f9ee1b208", func := "gauntlet/gauntletlaw33.FormulasParse", spec := "formulasParse", unfollowed := true, recurses := true, named := ["gauntlet/formulas.operations", "strconv.ErrSyntax", "strconv.ErrRange", "internal/strconv.uint64pow10", "math/bits.deBruijn32tab", "math/bits.deBruijn64tab"], apart := false, laid := [("math/bits.deBruijn32tab", laid_math_bits_deBruijn32tab), ("math/bits.deBruijn64tab", laid_math_bits_deBruijn64tab), ("internal/strconv.uint64pow10", laid_internal_strconv_uint64pow10), ("strconv.ErrRange", laid_strconv_ErrRange), ("strconv.ErrSyntax", laid_strconv_ErrSyntax), ("gauntlet/formulas.operations", laid_gauntlet_formulas_operations)] }
def FormulasParseSaid : Prop := formulasParseRow.holds Tryd.pinned (OpenSpec.ofChange formulasParseSpec)

/-- ITS FALSE NEIGHBOUR: 'it returns false'. Refute it at one input. -/
def formulasParseWrong : ChangeSpec := { name := "formulasParse", fn := fun _ => fun
  | [d] => { results := [.lit (.bool false)], args := [d] }
  | _ => none }
def FormulasParseWrongFalsely : Prop := formulasParseRow.holds Tryd.pinned (OpenSpec.ofChange formulasParseWrong)

/-- 'gauntletlaw33.FormulasDual': WHATEVER THE INPUT: true; the input reads as it did. -/
def formulasDualSpec : ChangeSpec := { name := "formulasDual", fn := fun _ => fun
  | [d1, d2] => { results := [.lit (.bool true)], args := [d1, d2] }
  | _ => none }
def formulasDualRow : OpenClaim := { program := "ytfllomlghjolpaadoor", sum := "c0dfbf1a6d051fe4c9aff2956c0ef6b7ab557a3fa98913444245291f9ee1b208", func := "gauntlet/gauntletlaw33.FormulasDual", spec := "formulasDual", unfollowed := true, recurses := true, named := ["gauntlet/formulas.operations", "strconv.ErrSyntax", "strconv.ErrRange", "internal/strconv.uint64pow10", "math/bits.deBruijn32tab", "math/bits.deBruijn64tab"], apart := false, laid := [("math/bits.deBruijn32tab", laid_math_bits_deBruijn32tab), ("math/bits.deBruijn64tab", laid_math_bits_deBruijn64tab), ("internal/strconv.uint64pow10", laid_internal_strconv_uint64pow10), ("strconv.ErrRange", laid_strconv_ErrRange), ("strconv.ErrSyntax", laid_strconv_ErrSyntax), ("gauntlet/formulas.operations", laid_gauntlet_formulas_operations)] }
def FormulasDualSaid : Prop := formulasDualRow.holds Tryd.pinned (OpenSpec.ofChange formulasDualSpec)

/-- ITS FALSE NEIGHBOUR: 'it returns false'. Refute it at one input. -/
def formulasDualWrong : ChangeSpec := { name := "formulasDual", fn := fun _ => fun
  | [d1, d2] => { results := [.lit (.bool false)], args := [d1, d2] }
  | _ => none }
def FormulasDualWrongFalsely : Prop := formulasDualRow.holds Tryd.pinned (OpenSpec.ofChange formulasDualWrong)

/-- 'gauntletlaw33.FormulasWitness': WHATEVER THE INPUT: true; the input reads as it did. -/
def formulasWitnessSpec : ChangeSpec := { name := "formulasWitness", fn := fun _ => fun
  | [d1, d2, d3] => { results := [.lit (.bool true)], args := [d1, d2, d3] }
  | _ => none }
def formulasWitnessRow : OpenClaim := { program := "ytfllomlghjolpaadoor", sum := "c0dfbf1a6d051fe4c9aff2956c0ef6b7ab557a3fa98913444245291f9ee1b208", func := "gauntlet/gauntletlaw33.FormulasWitness", spec := "formulasWitness", unfollowed := true, recurses := true, named := ["gauntlet/formulas.operations", "strconv.ErrSyntax", "strconv.ErrRange", "internal/strconv.uint64pow10", "math/bits.deBruijn32tab", "math/bits.deBruijn64tab"], apart := false, laid := [("math/bits.deBruijn32tab", laid_math_bits_deBruijn32tab), ("math/bits.deBruijn64tab", laid_math_bits_deBruijn64tab), ("internal/strconv.uint64pow10", laid_internal_strconv_uint64pow10), ("strconv.ErrRange", laid_strconv_ErrRange), ("strconv.ErrSyntax", laid_strconv_ErrSyntax), ("gauntlet/formulas.operations", laid_gauntlet_formulas_operations)] }
def FormulasWitnessSaid : Prop := formulasWitnessRow.holds Tryd.pinned (OpenSpec.ofChange formulasWitnessSpec)

/-- ITS FALSE NEIGHBOUR: 'it returns false'. Refute it at one input. -/
def formulasWitnessWrong : ChangeSpec := { name := "formulasWitness", fn := fun _ => fun
  | [d1, d2, d3] => { results := [.lit (.bool false)], args := [d1, d2, d3] }
  | _ => none }
def FormulasWitnessWrongFalsely : Prop := formulasWitnessRow.holds Tryd.pinned (OpenSpec.ofChange formulasWitnessWrong)

/-- 'gauntletlaw33.FormulasErrors': WHATEVER THE INPUT: true; the input reads as it did. -/
def formulasErrorsSpec : ChangeSpec := { name := "formulasErrors", fn := fun _ => fun
  | [d1, d2, d3] => { results := [.lit (.bool true)], args := [d1, d2, d3] }
  | _ => none }
def formulasErrorsRow : OpenClaim := { program := "ytfllomlghjolpaadoor", sum := "c0dfbf1a6d051fe4c9aff2956c0ef6b7ab557a3fa98913444245291f9ee1b208", func := "gauntlet/gauntletlaw33.FormulasErrors", spec := "formulasErrors", unfollowed := true, recurses := true, named := ["gauntlet/formulas.operations", "strconv.ErrSyntax", "strconv.ErrRange", "internal/strconv.uint64pow10", "math/bits.deBruijn32tab", "math/bits.deBruijn64tab"], loops := true, apart := false, laid := [("math/bits.deBruijn32tab", laid_math_bits_deBruijn32tab), ("math/bits.deBruijn64tab", laid_math_bits_deBruijn64tab), ("internal/strconv.uint64pow10", laid_internal_strconv_uint64pow10), ("strconv.ErrRange", laid_strconv_ErrRange), ("strconv.ErrSyntax", laid_strconv_ErrSyntax), ("gauntlet/formulas.operations", laid_gauntlet_formulas_operations)] }
def FormulasErrorsSaid : Prop := formulasErrorsRow.holds Tryd.pinned (OpenSpec.ofChange formulasErrorsSpec)

/-- ITS FALSE NEIGHBOUR: 'it returns false'. Refute it at one input. -/
def formulasErrorsWrong : ChangeSpec := { name := "formulasErrors", fn := fun _ => fun
  | [d1, d2, d3] => { results := [.lit (.bool false)], args := [d1, d2, d3] }
  | _ => none }
def FormulasErrorsWrongFalsely : Prop := formulasErrorsRow.holds Tryd.pinned (OpenSpec.ofChange formulasErrorsWrong)

/-- 'gauntletlaw33.FormulasKnown': WHATEVER THE INPUT: true; the input reads as it did. -/
def formulasKnownSpec : ChangeSpec := { name := "formulasKnown", fn := fun _ => fun
  | [] => { results := [.lit (.bool true)], args := [] }
  | _ => none }
def formulasKnownRow : OpenClaim := { program := "ytfllomlghjolpaadoor", sum := "c0dfbf1a6d051fe4c9aff2956c0ef6b7ab557a3fa98913444245291f9ee1b208", func := "gauntlet/gauntletlaw33.FormulasKnown", spec := "formulasKnown", unfollowed := true, recurses := true, named := ["gauntlet/formulas.operations", "strconv.ErrSyntax", "strconv.ErrRange", "internal/strconv.uint64pow10", "math/bits.deBruijn32tab", "math/bits.deBruijn64tab"], apart := false, laid := [("math/bits.deBruijn32tab", laid_math_bits_deBruijn32tab), ("math/bits.deBruijn64tab", laid_math_bits_deBruijn64tab), ("internal/strconv.uint64pow10", laid_internal_strconv_uint64pow10), ("strconv.ErrRange", laid_strconv_ErrRange), ("strconv.ErrSyntax", laid_strconv_ErrSyntax), ("gauntlet/formulas.operations", laid_gauntlet_formulas_operations)] }
def FormulasKnownSaid : Prop := formulasKnownRow.holds Tryd.pinned (OpenSpec.ofChange formulasKnownSpec)

/-- ITS FALSE NEIGHBOUR: 'it returns false'. Refute it at one input. -/
def formulasKnownWrong : ChangeSpec := { name := "formulasKnown", fn := fun _ => fun
  | [] => { results := [.lit (.bool false)], args := [] }
  | _ => none }
def FormulasKnownWrongFalsely : Prop := formulasKnownRow.holds Tryd.pinned (OpenSpec.ofChange formulasKnownWrong)

/- THE SECOND FORM. 'bulk': how many values and letters a reading holds, each counted each time it is reached (what is shared counts as often as it is met; a slice's spare places count too). A statement '..UptoSaid' is the law's where the arguments, and the package variables that the reading takes, are together of bulk at most 1048576: NARROWER than '..Said'. Prove '..Said' where nothing that the law and all that it calls make is longer than what came in: it says more and counts as full. Else prove '..UptoSaid'. A law counts once. -/
mutual
def uptoBulk {H : Type} : DataW H → Nat
  | .lit (.string bytes) => bytes.length + 1
  | .lit _ => 1
  | .nil => 1
  | .ptr d => uptoBulk d + 1
  | .slice elems spare => uptoBulkAll elems + uptoBulkAll spare + 1
  | .agg parts => uptoBulkAll parts + 1
  | .iface _ d => uptoBulk d + 1
  | .map entries => uptoBulkEntries entries + 1
  | .held _ => 1
def uptoBulkAll {H : Type} : List (DataW H) → Nat
  | [] => 0
  | d :: r => uptoBulk d + uptoBulkAll r
def uptoBulkEntries {H : Type} : List (Lit × DataW H) → Nat
  | [] => 0
  | x :: r => uptoBulkEntry x + uptoBulkEntries r
def uptoBulkEntry {H : Type} : Lit × DataW H → Nat
  | (.string bytes, d) => bytes.length + uptoBulk d + 1
  | (_, d) => uptoBulk d + 1
 end
def uptoSmall : (H : Type) → List (DataW H) → Bool := fun _ ds => decide (uptoBulkAll ds ≤ 1048576)
def OpenSpec.upto (s : _root_.Go.ChangeSpec) : _root_.Go.OpenSpec := { _root_.Go.OpenSpec.ofChange s with cond := some uptoSmall }

/-- 'gauntletlaw33.FormulasSat', WHERE WHAT IT READS IS OF BULK AT MOST 1048576: true; the input reads as it did. -/
def formulasSatUptoRow : OpenClaim := { program := "ytfllomlghjolpaadoor", sum := "c0dfbf1a6d051fe4c9aff2956c0ef6b7ab557a3fa98913444245291f9ee1b208", func := "gauntlet/gauntletlaw33.FormulasSat", spec := "formulasSat", unfollowed := true, recurses := true, named := ["gauntlet/formulas.operations", "strconv.ErrSyntax", "strconv.ErrRange", "internal/strconv.uint64pow10", "math/bits.deBruijn32tab", "math/bits.deBruijn64tab"], apart := false, laid := [("math/bits.deBruijn32tab", laid_math_bits_deBruijn32tab), ("math/bits.deBruijn64tab", laid_math_bits_deBruijn64tab), ("internal/strconv.uint64pow10", laid_internal_strconv_uint64pow10), ("strconv.ErrRange", laid_strconv_ErrRange), ("strconv.ErrSyntax", laid_strconv_ErrSyntax), ("gauntlet/formulas.operations", laid_gauntlet_formulas_operations)], narrowed := true }
def FormulasSatUptoSaid : Prop := formulasSatUptoRow.holds Tryd.pinned (OpenSpec.upto formulasSatSpec)

/-- 'gauntletlaw33.FormulasText', WHERE WHAT IT READS IS OF BULK AT MOST 1048576: true; the input reads as it did. -/
def formulasTextUptoRow : OpenClaim := { program := "ytfllomlghjolpaadoor", sum := "c0dfbf1a6d051fe4c9aff2956c0ef6b7ab557a3fa98913444245291f9ee1b208", func := "gauntlet/gauntletlaw33.FormulasText", spec := "formulasText", unfollowed := true, recurses := true, named := ["gauntlet/formulas.operations", "internal/strconv.uint64pow10", "math/bits.deBruijn32tab", "math/bits.deBruijn64tab", "strconv.ErrSyntax", "strconv.ErrRange"], apart := false, laid := [("math/bits.deBruijn32tab", laid_math_bits_deBruijn32tab), ("math/bits.deBruijn64tab", laid_math_bits_deBruijn64tab), ("internal/strconv.uint64pow10", laid_internal_strconv_uint64pow10), ("strconv.ErrRange", laid_strconv_ErrRange), ("strconv.ErrSyntax", laid_strconv_ErrSyntax), ("gauntlet/formulas.operations", laid_gauntlet_formulas_operations)], narrowed := true }
def FormulasTextUptoSaid : Prop := formulasTextUptoRow.holds Tryd.pinned (OpenSpec.upto formulasTextSpec)

/-- 'gauntletlaw33.FormulasParse', WHERE WHAT IT READS IS OF BULK AT MOST 1048576: true; the input reads as it did. -/
def formulasParseUptoRow : OpenClaim := { program := "ytfllomlghjolpaadoor", sum := "c0dfbf1a6d051fe4c9aff2956c0ef6b7ab557a3fa98913444245291f9ee1b208", func := "gauntlet/gauntletlaw33.FormulasParse", spec := "formulasParse", unfollowed := true, recurses := true, named := ["gauntlet/formulas.operations", "strconv.ErrSyntax", "strconv.ErrRange", "internal/strconv.uint64pow10", "math/bits.deBruijn32tab", "math/bits.deBruijn64tab"], apart := false, laid := [("math/bits.deBruijn32tab", laid_math_bits_deBruijn32tab), ("math/bits.deBruijn64tab", laid_math_bits_deBruijn64tab), ("internal/strconv.uint64pow10", laid_internal_strconv_uint64pow10), ("strconv.ErrRange", laid_strconv_ErrRange), ("strconv.ErrSyntax", laid_strconv_ErrSyntax), ("gauntlet/formulas.operations", laid_gauntlet_formulas_operations)], narrowed := true }
def FormulasParseUptoSaid : Prop := formulasParseUptoRow.holds Tryd.pinned (OpenSpec.upto formulasParseSpec)

/-- 'gauntletlaw33.FormulasDual', WHERE WHAT IT READS IS OF BULK AT MOST 1048576: true; the input reads as it did. -/
def formulasDualUptoRow : OpenClaim := { program := "ytfllomlghjolpaadoor", sum := "c0dfbf1a6d051fe4c9aff2956c0ef6b7ab557a3fa98913444245291f9ee1b208", func := "gauntlet/gauntletlaw33.FormulasDual", spec := "formulasDual", unfollowed := true, recurses := true, named := ["gauntlet/formulas.operations", "strconv.ErrSyntax", "strconv.ErrRange", "internal/strconv.uint64pow10", "math/bits.deBruijn32tab", "math/bits.deBruijn64tab"], apart := false, laid := [("math/bits.deBruijn32tab", laid_math_bits_deBruijn32tab), ("math/bits.deBruijn64tab", laid_math_bits_deBruijn64tab), ("internal/strconv.uint64pow10", laid_internal_strconv_uint64pow10), ("strconv.ErrRange", laid_strconv_ErrRange), ("strconv.ErrSyntax", laid_strconv_ErrSyntax), ("gauntlet/formulas.operations", laid_gauntlet_formulas_operations)], narrowed := true }
def FormulasDualUptoSaid : Prop := formulasDualUptoRow.holds Tryd.pinned (OpenSpec.upto formulasDualSpec)

/-- 'gauntletlaw33.FormulasWitness', WHERE WHAT IT READS IS OF BULK AT MOST 1048576: true; the input reads as it did. -/
def formulasWitnessUptoRow : OpenClaim := { program := "ytfllomlghjolpaadoor", sum := "c0dfbf1a6d051fe4c9aff2956c0ef6b7ab557a3fa98913444245291f9ee1b208", func := "gauntlet/gauntletlaw33.FormulasWitness", spec := "formulasWitness", unfollowed := true, recurses := true, named := ["gauntlet/formulas.operations", "strconv.ErrSyntax", "strconv.ErrRange", "internal/strconv.uint64pow10", "math/bits.deBruijn32tab", "math/bits.deBruijn64tab"], apart := false, laid := [("math/bits.deBruijn32tab", laid_math_bits_deBruijn32tab), ("math/bits.deBruijn64tab", laid_math_bits_deBruijn64tab), ("internal/strconv.uint64pow10", laid_internal_strconv_uint64pow10), ("strconv.ErrRange", laid_strconv_ErrRange), ("strconv.ErrSyntax", laid_strconv_ErrSyntax), ("gauntlet/formulas.operations", laid_gauntlet_formulas_operations)], narrowed := true }
def FormulasWitnessUptoSaid : Prop := formulasWitnessUptoRow.holds Tryd.pinned (OpenSpec.upto formulasWitnessSpec)

/-- 'gauntletlaw33.FormulasErrors', WHERE WHAT IT READS IS OF BULK AT MOST 1048576: true; the input reads as it did. -/
def formulasErrorsUptoRow : OpenClaim := { program := "ytfllomlghjolpaadoor", sum := "c0dfbf1a6d051fe4c9aff2956c0ef6b7ab557a3fa98913444245291f9ee1b208", func := "gauntlet/gauntletlaw33.FormulasErrors", spec := "formulasErrors", unfollowed := true, recurses := true, named := ["gauntlet/formulas.operations", "strconv.ErrSyntax", "strconv.ErrRange", "internal/strconv.uint64pow10", "math/bits.deBruijn32tab", "math/bits.deBruijn64tab"], loops := true, apart := false, laid := [("math/bits.deBruijn32tab", laid_math_bits_deBruijn32tab), ("math/bits.deBruijn64tab", laid_math_bits_deBruijn64tab), ("internal/strconv.uint64pow10", laid_internal_strconv_uint64pow10), ("strconv.ErrRange", laid_strconv_ErrRange), ("strconv.ErrSyntax", laid_strconv_ErrSyntax), ("gauntlet/formulas.operations", laid_gauntlet_formulas_operations)], narrowed := true }
def FormulasErrorsUptoSaid : Prop := formulasErrorsUptoRow.holds Tryd.pinned (OpenSpec.upto formulasErrorsSpec)

/-- 'gauntletlaw33.FormulasKnown', WHERE WHAT IT READS IS OF BULK AT MOST 1048576: true; the input reads as it did. -/
def formulasKnownUptoRow : OpenClaim := { program := "ytfllomlghjolpaadoor", sum := "c0dfbf1a6d051fe4c9aff2956c0ef6b7ab557a3fa98913444245291f9ee1b208", func := "gauntlet/gauntletlaw33.FormulasKnown", spec := "formulasKnown", unfollowed := true, recurses := true, named := ["gauntlet/formulas.operations", "strconv.ErrSyntax", "strconv.ErrRange", "internal/strconv.uint64pow10", "math/bits.deBruijn32tab", "math/bits.deBruijn64tab"], apart := false, laid := [("math/bits.deBruijn32tab", laid_math_bits_deBruijn32tab), ("math/bits.deBruijn64tab", laid_math_bits_deBruijn64tab), ("internal/strconv.uint64pow10", laid_internal_strconv_uint64pow10), ("strconv.ErrRange", laid_strconv_ErrRange), ("strconv.ErrSyntax", laid_strconv_ErrSyntax), ("gauntlet/formulas.operations", laid_gauntlet_formulas_operations)], narrowed := true }
def FormulasKnownUptoSaid : Prop := formulasKnownUptoRow.holds Tryd.pinned (OpenSpec.upto formulasKnownSpec)

end Rows
end Go.Proofs.YtfllomlghjolpaaDoor
