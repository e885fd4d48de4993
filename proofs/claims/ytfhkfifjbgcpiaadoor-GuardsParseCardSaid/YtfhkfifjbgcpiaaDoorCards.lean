/-
  DERIVED. GIVEN WITH THE SEED: THE CARDS: each row of YtfhkfifjbgcpiaaDoorRows.lean that lists a variable, with what it lists TIED to the program's text (the seventh form; the later family's looks); each row that meets fmt, with fmt's text TOLD by the authors' own Lean function (tested against real Go, not proved from fmt's source: count such statements apart). THE CARD IS WHAT COUNTS. Prove the row's statement (the work); the ties are given (YtfhkfifjbgcpiaaDoorTie.lean); close each card by the builder's one call (the guide's Derived/Test/ToyasCard.lean, 'card_holds'). Laid BY PROGRAM, IN A SANDBOX (cutbox-door.mjs). By AI agents, Wed Nov 11 2026. No macro, syntax, notation, axiom, sorry.
-/
import Derived.Test.YtfhkfifjbgcpiaaDoorRows
import GoSem.ClaimSeven
namespace Go.Proofs.YtfhkfifjbgcpiaaDoor
namespace Rows

/-- THE TIED CARD OF 'gauntletlaw28.GuardsText'. -/
def guardsTextCard : Claim7 := { stood := { row := guardsTextRow, standIns := [], harness := (true, "ebb1000c9eecad946611f2ed75ab5c6e04ad2cc21c37047ece15729d597b051f"), looks := true }, kinds := [], alts := [], laidByText := true, laidKinds := [.data, .data, .data, .sentinel, .sentinel, .funcs], laidTests := true, laidLooks := .later }
def GuardsTextCardSaid : Prop := Claim7.holds Tryd.pinned (.plain (OpenSpec.ofChange guardsTextSpec)) guardsTextCard

/-- THE TIED CARD OF 'gauntletlaw28.GuardsParse'. -/
def guardsParseCard : Claim7 := { stood := { row := guardsParseRow, standIns := [], harness := (true, "ebb1000c9eecad946611f2ed75ab5c6e04ad2cc21c37047ece15729d597b051f"), looks := true }, kinds := [], alts := [], laidByText := true, laidKinds := [.data, .data, .data, .sentinel, .sentinel, .funcs], laidTests := true, laidLooks := .later }
def GuardsParseCardSaid : Prop := Claim7.holds Tryd.pinned (.plain (OpenSpec.ofChange guardsParseSpec)) guardsParseCard

/-- THE TIED CARD OF 'gauntletlaw28.GuardsLaws'. -/
def guardsLawsCard : Claim7 := { stood := { row := guardsLawsRow, standIns := [], harness := (true, "ebb1000c9eecad946611f2ed75ab5c6e04ad2cc21c37047ece15729d597b051f"), looks := true }, kinds := [], alts := [], laidByText := true, laidKinds := [.data, .data, .data, .sentinel, .sentinel, .funcs], laidTests := true, laidLooks := .later }
def GuardsLawsCardSaid : Prop := Claim7.holds Tryd.pinned (.plain (OpenSpec.ofChange guardsLawsSpec)) guardsLawsCard

/-- THE TIED CARD OF 'gauntletlaw28.GuardsShort'. -/
def guardsShortCard : Claim7 := { stood := { row := guardsShortRow, standIns := [], harness := (true, "ebb1000c9eecad946611f2ed75ab5c6e04ad2cc21c37047ece15729d597b051f"), looks := true }, kinds := [], alts := [], laidByText := true, laidKinds := [.data, .data, .data, .sentinel, .sentinel, .funcs], laidTests := true, laidLooks := .later }
def GuardsShortCardSaid : Prop := Claim7.holds Tryd.pinned (.plain (OpenSpec.ofChange guardsShortSpec)) guardsShortCard

/-- THE TIED CARD OF 'gauntletlaw28.GuardsEval'. -/
def guardsEvalCard : Claim7 := { stood := { row := guardsEvalRow, standIns := [], harness := (true, "ebb1000c9eecad946611f2ed75ab5c6e04ad2cc21c37047ece15729d597b051f"), looks := true }, kinds := [], alts := [], laidByText := true, laidKinds := [.data, .data, .data, .sentinel, .sentinel, .funcs], laidTests := true, laidLooks := .later }
def GuardsEvalCardSaid : Prop := Claim7.holds Tryd.pinned (.plain (OpenSpec.ofChange guardsEvalSpec)) guardsEvalCard

/-- THE TIED CARD OF 'gauntletlaw28.GuardsErrors'. -/
def guardsErrorsCard : Claim7 := { stood := { row := guardsErrorsRow, standIns := [], harness := (true, "ebb1000c9eecad946611f2ed75ab5c6e04ad2cc21c37047ece15729d597b051f"), looks := true }, kinds := [], alts := [], laidByText := true, laidKinds := [.data, .data, .data, .sentinel, .sentinel, .funcs], laidTests := true, laidLooks := .later }
def GuardsErrorsCardSaid : Prop := Claim7.holds Tryd.pinned (.plain (OpenSpec.ofChange guardsErrorsSpec)) guardsErrorsCard

/-- THE TIED CARD OF 'gauntletlaw28.GuardsKnown'. -/
def guardsKnownCard : Claim7 := { stood := { row := guardsKnownRow, standIns := [], harness := (true, "ebb1000c9eecad946611f2ed75ab5c6e04ad2cc21c37047ece15729d597b051f"), looks := true }, kinds := [], alts := [], laidByText := true, laidKinds := [.data, .data, .data, .sentinel, .sentinel, .funcs], laidTests := true, laidLooks := .later }
def GuardsKnownCardSaid : Prop := Claim7.holds Tryd.pinned (.plain (OpenSpec.ofChange guardsKnownSpec)) guardsKnownCard

/-- THE SECOND FORM's CARD OF 'gauntletlaw28.GuardsText'. -/
def guardsTextUptoCard : Claim7 := { stood := { row := guardsTextUptoRow, standIns := [], harness := (true, "ebb1000c9eecad946611f2ed75ab5c6e04ad2cc21c37047ece15729d597b051f"), looks := true }, kinds := [], alts := [], laidByText := true, laidKinds := [.data, .data, .data, .sentinel, .sentinel, .funcs], laidTests := true, laidLooks := .later }
def GuardsTextUptoCardSaid : Prop := Claim7.holds Tryd.pinned (.plain (OpenSpec.upto guardsTextSpec)) guardsTextUptoCard

/-- THE SECOND FORM's CARD OF 'gauntletlaw28.GuardsParse'. -/
def guardsParseUptoCard : Claim7 := { stood := { row := guardsParseUptoRow, standIns := [], harness := (true, "ebb1000c9eecad946611f2ed75ab5c6e04ad2cc21c37047ece15729d597b051f"), looks := true }, kinds := [], alts := [], laidByText := true, laidKinds := [.data, .data, .data, .sentinel, .sentinel, .funcs], laidTests := true, laidLooks := .later }
def GuardsParseUptoCardSaid : Prop := Claim7.holds Tryd.pinned (.plain (OpenSpec.upto guardsParseSpec)) guardsParseUptoCard

/-- THE SECOND FORM's CARD OF 'gauntletlaw28.GuardsLaws'. -/
def guardsLawsUptoCard : Claim7 := { stood := { row := guardsLawsUptoRow, standIns := [], harness := (true, "ebb1000c9eecad946611f2ed75ab5c6e04ad2cc21c37047ece15729d597b051f"), looks := true }, kinds := [], alts := [], laidByText := true, laidKinds := [.data, .data, .data, .sentinel, .sentinel, .funcs], laidTests := true, laidLooks := .later }
def GuardsLawsUptoCardSaid : Prop := Claim7.holds Tryd.pinned (.plain (OpenSpec.upto guardsLawsSpec)) guardsLawsUptoCard

/-- THE SECOND FORM's CARD OF 'gauntletlaw28.GuardsShort'. -/
def guardsShortUptoCard : Claim7 := { stood := { row := guardsShortUptoRow, standIns := [], harness := (true, "ebb1000c9eecad946611f2ed75ab5c6e04ad2cc21c37047ece15729d597b051f"), looks := true }, kinds := [], alts := [], laidByText := true, laidKinds := [.data, .data, .data, .sentinel, .sentinel, .funcs], laidTests := true, laidLooks := .later }
def GuardsShortUptoCardSaid : Prop := Claim7.holds Tryd.pinned (.plain (OpenSpec.upto guardsShortSpec)) guardsShortUptoCard

/-- THE SECOND FORM's CARD OF 'gauntletlaw28.GuardsEval'. -/
def guardsEvalUptoCard : Claim7 := { stood := { row := guardsEvalUptoRow, standIns := [], harness := (true, "ebb1000c9eecad946611f2ed75ab5c6e04ad2cc21c37047ece15729d597b051f"), looks := true }, kinds := [], alts := [], laidByText := true, laidKinds := [.data, .data, .data, .sentinel, .sentinel, .funcs], laidTests := true, laidLooks := .later }
def GuardsEvalUptoCardSaid : Prop := Claim7.holds Tryd.pinned (.plain (OpenSpec.upto guardsEvalSpec)) guardsEvalUptoCard

/-- THE SECOND FORM's CARD OF 'gauntletlaw28.GuardsErrors'. -/
def guardsErrorsUptoCard : Claim7 := { stood := { row := guardsErrorsUptoRow, standIns := [], harness := (true, "ebb1000c9eecad946611f2ed75ab5c6e04ad2cc21c37047ece15729d597b051f"), looks := true }, kinds := [], alts := [], laidByText := true, laidKinds := [.data, .data, .data, .sentinel, .sentinel, .funcs], laidTests := true, laidLooks := .later }
def GuardsErrorsUptoCardSaid : Prop := Claim7.holds Tryd.pinned (.plain (OpenSpec.upto guardsErrorsSpec)) guardsErrorsUptoCard

/-- THE SECOND FORM's CARD OF 'gauntletlaw28.GuardsKnown'. -/
def guardsKnownUptoCard : Claim7 := { stood := { row := guardsKnownUptoRow, standIns := [], harness := (true, "ebb1000c9eecad946611f2ed75ab5c6e04ad2cc21c37047ece15729d597b051f"), looks := true }, kinds := [], alts := [], laidByText := true, laidKinds := [.data, .data, .data, .sentinel, .sentinel, .funcs], laidTests := true, laidLooks := .later }
def GuardsKnownUptoCardSaid : Prop := Claim7.holds Tryd.pinned (.plain (OpenSpec.upto guardsKnownSpec)) guardsKnownUptoCard
end Rows
end Go.Proofs.YtfhkfifjbgcpiaaDoor
