/-
  DERIVED. GIVEN WITH THE SEED: THE CARDS: each row of YtfllomlghjolpaaDoorRows.lean that lists a variable, with what it lists TIED to the program's text (the seventh form; the later family's looks); each row that meets fmt, with fmt's text TOLD by the authors' own Lean function (tested against real Go, not proved from fmt's source: count such statements apart). THE CARD IS WHAT COUNTS. Prove the row's statement (the work); the ties are given (YtfllomlghjolpaaDoorTie.lean); close each card by the builder's one call (the guide's Derived/Test/ToyasCard.lean, 'card_holds'). Laid BY PROGRAM, IN A SANDBOX (cutbox-door.mjs). By AI agents, Wed Nov 11 2026. No macro, syntax, notation, axiom, sorry.
-/
import Derived.Test.YtfllomlghjolpaaDoorRows
import GoSem.ClaimSeven
namespace Go.Proofs.YtfllomlghjolpaaDoor
namespace Rows

/-- THE TIED CARD OF 'gauntletlaw33.FormulasSat'. -/
def formulasSatCard : Claim7 := { stood := { row := formulasSatRow, standIns := [], harness := (true, "61350b7d74cf7b033ddabcc16c0bb8aaf5686770661630c5023c52fe8a3c71b6"), looks := true }, kinds := [], alts := [], laidByText := true, laidKinds := [.data, .data, .data, .sentinel, .sentinel, .funcs], laidTests := true, laidLooks := .later }
def FormulasSatCardSaid : Prop := Claim7.holds Tryd.pinned (.plain (OpenSpec.ofChange formulasSatSpec)) formulasSatCard

/-- THE TIED CARD OF 'gauntletlaw33.FormulasText'. -/
def formulasTextCard : Claim7 := { stood := { row := formulasTextRow, standIns := [], harness := (true, "61350b7d74cf7b033ddabcc16c0bb8aaf5686770661630c5023c52fe8a3c71b6"), looks := true }, kinds := [], alts := [], laidByText := true, laidKinds := [.data, .data, .data, .sentinel, .sentinel, .funcs], laidTests := true, laidLooks := .later }
def FormulasTextCardSaid : Prop := Claim7.holds Tryd.pinned (.plain (OpenSpec.ofChange formulasTextSpec)) formulasTextCard

/-- THE TIED CARD OF 'gauntletlaw33.FormulasParse'. -/
def formulasParseCard : Claim7 := { stood := { row := formulasParseRow, standIns := [], harness := (true, "61350b7d74cf7b033ddabcc16c0bb8aaf5686770661630c5023c52fe8a3c71b6"), looks := true }, kinds := [], alts := [], laidByText := true, laidKinds := [.data, .data, .data, .sentinel, .sentinel, .funcs], laidTests := true, laidLooks := .later }
def FormulasParseCardSaid : Prop := Claim7.holds Tryd.pinned (.plain (OpenSpec.ofChange formulasParseSpec)) formulasParseCard

/-- THE TIED CARD OF 'gauntletlaw33.FormulasDual'. -/
def formulasDualCard : Claim7 := { stood := { row := formulasDualRow, standIns := [], harness := (true, "61350b7d74cf7b033ddabcc16c0bb8aaf5686770661630c5023c52fe8a3c71b6"), looks := true }, kinds := [], alts := [], laidByText := true, laidKinds := [.data, .data, .data, .sentinel, .sentinel, .funcs], laidTests := true, laidLooks := .later }
def FormulasDualCardSaid : Prop := Claim7.holds Tryd.pinned (.plain (OpenSpec.ofChange formulasDualSpec)) formulasDualCard

/-- THE TIED CARD OF 'gauntletlaw33.FormulasWitness'. -/
def formulasWitnessCard : Claim7 := { stood := { row := formulasWitnessRow, standIns := [], harness := (true, "61350b7d74cf7b033ddabcc16c0bb8aaf5686770661630c5023c52fe8a3c71b6"), looks := true }, kinds := [], alts := [], laidByText := true, laidKinds := [.data, .data, .data, .sentinel, .sentinel, .funcs], laidTests := true, laidLooks := .later }
def FormulasWitnessCardSaid : Prop := Claim7.holds Tryd.pinned (.plain (OpenSpec.ofChange formulasWitnessSpec)) formulasWitnessCard

/-- THE TIED CARD OF 'gauntletlaw33.FormulasErrors'. -/
def formulasErrorsCard : Claim7 := { stood := { row := formulasErrorsRow, standIns := [], harness := (true, "61350b7d74cf7b033ddabcc16c0bb8aaf5686770661630c5023c52fe8a3c71b6"), looks := true }, kinds := [], alts := [], laidByText := true, laidKinds := [.data, .data, .data, .sentinel, .sentinel, .funcs], laidTests := true, laidLooks := .later }
def FormulasErrorsCardSaid : Prop := Claim7.holds Tryd.pinned (.plain (OpenSpec.ofChange formulasErrorsSpec)) formulasErrorsCard

/-- THE TIED CARD OF 'gauntletlaw33.FormulasKnown'. -/
def formulasKnownCard : Claim7 := { stood := { row := formulasKnownRow, standIns := [], harness := (true, "61350b7d74cf7b033ddabcc16c0bb8aaf5686770661630c5023c52fe8a3c71b6"), looks := true }, kinds := [], alts := [], laidByText := true, laidKinds := [.data, .data, .data, .sentinel, .sentinel, .funcs], laidTests := true, laidLooks := .later }
def FormulasKnownCardSaid : Prop := Claim7.holds Tryd.pinned (.plain (OpenSpec.ofChange formulasKnownSpec)) formulasKnownCard

/-- THE SECOND FORM's CARD OF 'gauntletlaw33.FormulasSat'. -/
def formulasSatUptoCard : Claim7 := { stood := { row := formulasSatUptoRow, standIns := [], harness := (true, "61350b7d74cf7b033ddabcc16c0bb8aaf5686770661630c5023c52fe8a3c71b6"), looks := true }, kinds := [], alts := [], laidByText := true, laidKinds := [.data, .data, .data, .sentinel, .sentinel, .funcs], laidTests := true, laidLooks := .later }
def FormulasSatUptoCardSaid : Prop := Claim7.holds Tryd.pinned (.plain (OpenSpec.upto formulasSatSpec)) formulasSatUptoCard

/-- THE SECOND FORM's CARD OF 'gauntletlaw33.FormulasText'. -/
def formulasTextUptoCard : Claim7 := { stood := { row := formulasTextUptoRow, standIns := [], harness := (true, "61350b7d74cf7b033ddabcc16c0bb8aaf5686770661630c5023c52fe8a3c71b6"), looks := true }, kinds := [], alts := [], laidByText := true, laidKinds := [.data, .data, .data, .sentinel, .sentinel, .funcs], laidTests := true, laidLooks := .later }
def FormulasTextUptoCardSaid : Prop := Claim7.holds Tryd.pinned (.plain (OpenSpec.upto formulasTextSpec)) formulasTextUptoCard

/-- THE SECOND FORM's CARD OF 'gauntletlaw33.FormulasParse'. -/
def formulasParseUptoCard : Claim7 := { stood := { row := formulasParseUptoRow, standIns := [], harness := (true, "61350b7d74cf7b033ddabcc16c0bb8aaf5686770661630c5023c52fe8a3c71b6"), looks := true }, kinds := [], alts := [], laidByText := true, laidKinds := [.data, .data, .data, .sentinel, .sentinel, .funcs], laidTests := true, laidLooks := .later }
def FormulasParseUptoCardSaid : Prop := Claim7.holds Tryd.pinned (.plain (OpenSpec.upto formulasParseSpec)) formulasParseUptoCard

/-- THE SECOND FORM's CARD OF 'gauntletlaw33.FormulasDual'. -/
def formulasDualUptoCard : Claim7 := { stood := { row := formulasDualUptoRow, standIns := [], harness := (true, "61350b7d74cf7b033ddabcc16c0bb8aaf5686770661630c5023c52fe8a3c71b6"), looks := true }, kinds := [], alts := [], laidByText := true, laidKinds := [.data, .data, .data, .sentinel, .sentinel, .funcs], laidTests := true, laidLooks := .later }
def FormulasDualUptoCardSaid : Prop := Claim7.holds Tryd.pinned (.plain (OpenSpec.upto formulasDualSpec)) formulasDualUptoCard

/-- THE SECOND FORM's CARD OF 'gauntletlaw33.FormulasWitness'. -/
def formulasWitnessUptoCard : Claim7 := { stood := { row := formulasWitnessUptoRow, standIns := [], harness := (true, "61350b7d74cf7b033ddabcc16c0bb8aaf5686770661630c5023c52fe8a3c71b6"), looks := true }, kinds := [], alts := [], laidByText := true, laidKinds := [.data, .data, .data, .sentinel, .sentinel, .funcs], laidTests := true, laidLooks := .later }
def FormulasWitnessUptoCardSaid : Prop := Claim7.holds Tryd.pinned (.plain (OpenSpec.upto formulasWitnessSpec)) formulasWitnessUptoCard

/-- THE SECOND FORM's CARD OF 'gauntletlaw33.FormulasErrors'. -/
def formulasErrorsUptoCard : Claim7 := { stood := { row := formulasErrorsUptoRow, standIns := [], harness := (true, "61350b7d74cf7b033ddabcc16c0bb8aaf5686770661630c5023c52fe8a3c71b6"), looks := true }, kinds := [], alts := [], laidByText := true, laidKinds := [.data, .data, .data, .sentinel, .sentinel, .funcs], laidTests := true, laidLooks := .later }
def FormulasErrorsUptoCardSaid : Prop := Claim7.holds Tryd.pinned (.plain (OpenSpec.upto formulasErrorsSpec)) formulasErrorsUptoCard

/-- THE SECOND FORM's CARD OF 'gauntletlaw33.FormulasKnown'. -/
def formulasKnownUptoCard : Claim7 := { stood := { row := formulasKnownUptoRow, standIns := [], harness := (true, "61350b7d74cf7b033ddabcc16c0bb8aaf5686770661630c5023c52fe8a3c71b6"), looks := true }, kinds := [], alts := [], laidByText := true, laidKinds := [.data, .data, .data, .sentinel, .sentinel, .funcs], laidTests := true, laidLooks := .later }
def FormulasKnownUptoCardSaid : Prop := Claim7.holds Tryd.pinned (.plain (OpenSpec.upto formulasKnownSpec)) formulasKnownUptoCard
end Rows
end Go.Proofs.YtfllomlghjolpaaDoor
