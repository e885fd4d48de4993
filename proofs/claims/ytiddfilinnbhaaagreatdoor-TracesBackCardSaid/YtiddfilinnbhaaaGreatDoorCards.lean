/-
  DERIVED. GIVEN WITH THE SEED: THE CARDS: each row of YtiddfilinnbhaaaGreatDoorRows.lean that lists a variable, with what it lists TIED to the program's text (the seventh form; the later family's looks); each row that meets fmt, with fmt's text TOLD by the authors' own Lean function (tested against real Go, not proved from fmt's source: count such statements apart). THE CARD IS WHAT COUNTS. Prove the row's statement (the work); the ties are given (YtiddfilinnbhaaaGreatDoorTie.lean); close each card by the builder's one call (the guide's Derived/Test/ToyasCard.lean, 'card_holds'). Laid BY PROGRAM, IN A SANDBOX (cutbox-door.mjs). By AI agents, Wed Nov 11 2026. No macro, syntax, notation, axiom, sorry.
-/
import Derived.Test.YtiddfilinnbhaaaGreatDoorRows
import GoSem.ClaimSeven
namespace Go.Proofs.YtiddfilinnbhaaaGreatDoor
namespace Rows

/-- THE TIED CARD OF 'gauntletlaw34.TracesCheck'. -/
def tracesCheckCard : Claim7 := { stood := { row := tracesCheckRow, standIns := [], harness := (true, "dbff2c498c3a5fceb15f8426e2deb1e9d34f0bf923ba14928b1b367252a4fc9b"), looks := false }, kinds := [], alts := [], laidByText := true, laidKinds := [.data, .pinned], laidTests := true, laidLooks := .later }
def TracesCheckCardSaid : Prop := Claim7.holds Tryz.pinned (.plain (OpenSpec.ofChange tracesCheckSpec)) tracesCheckCard

/-- THE TIED CARD OF 'gauntletlaw34.TracesAgainst'. -/
def tracesAgainstCard : Claim7 := { stood := { row := tracesAgainstRow, standIns := [], harness := (true, "dbff2c498c3a5fceb15f8426e2deb1e9d34f0bf923ba14928b1b367252a4fc9b"), looks := false }, kinds := [], alts := [], laidByText := true, laidKinds := [.data, .pinned], laidTests := true, laidLooks := .later }
def TracesAgainstCardSaid : Prop := Claim7.holds Tryz.pinned (.plain (OpenSpec.ofChange tracesAgainstSpec)) tracesAgainstCard

/-- THE TIED CARD OF 'gauntletlaw34.TracesContradict'. -/
def tracesContradictCard : Claim7 := { stood := { row := tracesContradictRow, standIns := [], harness := (true, "dbff2c498c3a5fceb15f8426e2deb1e9d34f0bf923ba14928b1b367252a4fc9b"), looks := false }, kinds := [], alts := [], laidByText := true, laidKinds := [.data, .pinned], laidTests := true, laidLooks := .later }
def TracesContradictCardSaid : Prop := Claim7.holds Tryz.pinned (.plain (OpenSpec.ofChange tracesContradictSpec)) tracesContradictCard

/-- THE TIED CARD OF 'gauntletlaw34.TracesTree'. -/
def tracesTreeCard : Claim7 := { stood := { row := tracesTreeRow, standIns := [], harness := (true, "dbff2c498c3a5fceb15f8426e2deb1e9d34f0bf923ba14928b1b367252a4fc9b"), looks := false }, kinds := [], alts := [], laidByText := true, laidKinds := [.data, .pinned], laidTests := true, laidLooks := .later }
def TracesTreeCardSaid : Prop := Claim7.holds Tryz.pinned (.plain (OpenSpec.ofChange tracesTreeSpec)) tracesTreeCard

/-- THE TIED CARD OF 'gauntletlaw34.TracesAnswer'. -/
def tracesAnswerCard : Claim7 := { stood := { row := tracesAnswerRow, standIns := [], harness := (true, "dbff2c498c3a5fceb15f8426e2deb1e9d34f0bf923ba14928b1b367252a4fc9b"), looks := false }, kinds := [], alts := [], laidByText := true, laidKinds := [.data, .pinned], laidTests := true, laidLooks := .later }
def TracesAnswerCardSaid : Prop := Claim7.holds Tryz.pinned (.plain (OpenSpec.ofChange tracesAnswerSpec)) tracesAnswerCard

/-- THE TIED CARD OF 'gauntletlaw34.TracesBack'. -/
def tracesBackCard : Claim7 := { stood := { row := tracesBackRow, standIns := [], harness := (true, "dbff2c498c3a5fceb15f8426e2deb1e9d34f0bf923ba14928b1b367252a4fc9b"), looks := false }, kinds := [], alts := [], laidByText := true, laidKinds := [.data, .pinned], laidTests := true, laidLooks := .later }
def TracesBackCardSaid : Prop := Claim7.holds Tryz.pinned (.plain (OpenSpec.ofChange tracesBackSpec)) tracesBackCard

/-- THE TIED CARD OF 'gauntletlaw34.TracesTrees'. -/
def tracesTreesCard : Claim7 := { stood := { row := tracesTreesRow, standIns := [], harness := (true, "dbff2c498c3a5fceb15f8426e2deb1e9d34f0bf923ba14928b1b367252a4fc9b"), looks := false }, kinds := [], alts := [], laidByText := true, laidKinds := [.data, .pinned], laidTests := true, laidLooks := .later }
def TracesTreesCardSaid : Prop := Claim7.holds Tryz.pinned (.plain (OpenSpec.ofChange tracesTreesSpec)) tracesTreesCard

/-- THE TIED CARD OF 'gauntletlaw34.TracesText'. -/
def tracesTextCard : Claim7 := { stood := { row := tracesTextRow, standIns := [], harness := (true, "dbff2c498c3a5fceb15f8426e2deb1e9d34f0bf923ba14928b1b367252a4fc9b"), looks := false }, kinds := [], alts := [], laidByText := true, laidKinds := [.data, .pinned], laidTests := true, laidLooks := .later }
def TracesTextCardSaid : Prop := Claim7.holds Tryz.pinned (.plain (OpenSpec.ofChange tracesTextSpec)) tracesTextCard

/-- THE TIED CARD OF 'gauntletlaw34.TracesKnown'. -/
def tracesKnownCard : Claim7 := { stood := { row := tracesKnownRow, standIns := [], harness := (true, "dbff2c498c3a5fceb15f8426e2deb1e9d34f0bf923ba14928b1b367252a4fc9b"), looks := false }, kinds := [], alts := [], laidByText := true, laidKinds := [.data, .pinned], laidTests := true, laidLooks := .later }
def TracesKnownCardSaid : Prop := Claim7.holds Tryz.pinned (.plain (OpenSpec.ofChange tracesKnownSpec)) tracesKnownCard

/-- THE TIED CARD OF 'gauntletlaw34.TracesOf'. -/
def tracesOfCard : Claim7 := { stood := { row := tracesOfRow, standIns := [], harness := (true, "dbff2c498c3a5fceb15f8426e2deb1e9d34f0bf923ba14928b1b367252a4fc9b"), looks := false }, kinds := [], alts := [], laidByText := true, laidKinds := [.data, .pinned], laidTests := true, laidLooks := .later }
def TracesOfCardSaid : Prop := Claim7.holds Tryz.pinned (.plain (OpenSpec.ofChange tracesOfSpec)) tracesOfCard

/-- THE SECOND FORM's CARD OF 'gauntletlaw34.TracesCheck'. -/
def tracesCheckUptoCard : Claim7 := { stood := { row := tracesCheckUptoRow, standIns := [], harness := (true, "dbff2c498c3a5fceb15f8426e2deb1e9d34f0bf923ba14928b1b367252a4fc9b"), looks := false }, kinds := [], alts := [], laidByText := true, laidKinds := [.data, .pinned], laidTests := true, laidLooks := .later }
def TracesCheckUptoCardSaid : Prop := Claim7.holds Tryz.pinned (.plain (OpenSpec.upto tracesCheckSpec)) tracesCheckUptoCard

/-- THE SECOND FORM's CARD OF 'gauntletlaw34.TracesAgainst'. -/
def tracesAgainstUptoCard : Claim7 := { stood := { row := tracesAgainstUptoRow, standIns := [], harness := (true, "dbff2c498c3a5fceb15f8426e2deb1e9d34f0bf923ba14928b1b367252a4fc9b"), looks := false }, kinds := [], alts := [], laidByText := true, laidKinds := [.data, .pinned], laidTests := true, laidLooks := .later }
def TracesAgainstUptoCardSaid : Prop := Claim7.holds Tryz.pinned (.plain (OpenSpec.upto tracesAgainstSpec)) tracesAgainstUptoCard

/-- THE SECOND FORM's CARD OF 'gauntletlaw34.TracesContradict'. -/
def tracesContradictUptoCard : Claim7 := { stood := { row := tracesContradictUptoRow, standIns := [], harness := (true, "dbff2c498c3a5fceb15f8426e2deb1e9d34f0bf923ba14928b1b367252a4fc9b"), looks := false }, kinds := [], alts := [], laidByText := true, laidKinds := [.data, .pinned], laidTests := true, laidLooks := .later }
def TracesContradictUptoCardSaid : Prop := Claim7.holds Tryz.pinned (.plain (OpenSpec.upto tracesContradictSpec)) tracesContradictUptoCard

/-- THE SECOND FORM's CARD OF 'gauntletlaw34.TracesTree'. -/
def tracesTreeUptoCard : Claim7 := { stood := { row := tracesTreeUptoRow, standIns := [], harness := (true, "dbff2c498c3a5fceb15f8426e2deb1e9d34f0bf923ba14928b1b367252a4fc9b"), looks := false }, kinds := [], alts := [], laidByText := true, laidKinds := [.data, .pinned], laidTests := true, laidLooks := .later }
def TracesTreeUptoCardSaid : Prop := Claim7.holds Tryz.pinned (.plain (OpenSpec.upto tracesTreeSpec)) tracesTreeUptoCard

/-- THE SECOND FORM's CARD OF 'gauntletlaw34.TracesAnswer'. -/
def tracesAnswerUptoCard : Claim7 := { stood := { row := tracesAnswerUptoRow, standIns := [], harness := (true, "dbff2c498c3a5fceb15f8426e2deb1e9d34f0bf923ba14928b1b367252a4fc9b"), looks := false }, kinds := [], alts := [], laidByText := true, laidKinds := [.data, .pinned], laidTests := true, laidLooks := .later }
def TracesAnswerUptoCardSaid : Prop := Claim7.holds Tryz.pinned (.plain (OpenSpec.upto tracesAnswerSpec)) tracesAnswerUptoCard

/-- THE SECOND FORM's CARD OF 'gauntletlaw34.TracesBack'. -/
def tracesBackUptoCard : Claim7 := { stood := { row := tracesBackUptoRow, standIns := [], harness := (true, "dbff2c498c3a5fceb15f8426e2deb1e9d34f0bf923ba14928b1b367252a4fc9b"), looks := false }, kinds := [], alts := [], laidByText := true, laidKinds := [.data, .pinned], laidTests := true, laidLooks := .later }
def TracesBackUptoCardSaid : Prop := Claim7.holds Tryz.pinned (.plain (OpenSpec.upto tracesBackSpec)) tracesBackUptoCard

/-- THE SECOND FORM's CARD OF 'gauntletlaw34.TracesTrees'. -/
def tracesTreesUptoCard : Claim7 := { stood := { row := tracesTreesUptoRow, standIns := [], harness := (true, "dbff2c498c3a5fceb15f8426e2deb1e9d34f0bf923ba14928b1b367252a4fc9b"), looks := false }, kinds := [], alts := [], laidByText := true, laidKinds := [.data, .pinned], laidTests := true, laidLooks := .later }
def TracesTreesUptoCardSaid : Prop := Claim7.holds Tryz.pinned (.plain (OpenSpec.upto tracesTreesSpec)) tracesTreesUptoCard

/-- THE SECOND FORM's CARD OF 'gauntletlaw34.TracesText'. -/
def tracesTextUptoCard : Claim7 := { stood := { row := tracesTextUptoRow, standIns := [], harness := (true, "dbff2c498c3a5fceb15f8426e2deb1e9d34f0bf923ba14928b1b367252a4fc9b"), looks := false }, kinds := [], alts := [], laidByText := true, laidKinds := [.data, .pinned], laidTests := true, laidLooks := .later }
def TracesTextUptoCardSaid : Prop := Claim7.holds Tryz.pinned (.plain (OpenSpec.upto tracesTextSpec)) tracesTextUptoCard

/-- THE SECOND FORM's CARD OF 'gauntletlaw34.TracesKnown'. -/
def tracesKnownUptoCard : Claim7 := { stood := { row := tracesKnownUptoRow, standIns := [], harness := (true, "dbff2c498c3a5fceb15f8426e2deb1e9d34f0bf923ba14928b1b367252a4fc9b"), looks := false }, kinds := [], alts := [], laidByText := true, laidKinds := [.data, .pinned], laidTests := true, laidLooks := .later }
def TracesKnownUptoCardSaid : Prop := Claim7.holds Tryz.pinned (.plain (OpenSpec.upto tracesKnownSpec)) tracesKnownUptoCard

/-- THE SECOND FORM's CARD OF 'gauntletlaw34.TracesOf'. -/
def tracesOfUptoCard : Claim7 := { stood := { row := tracesOfUptoRow, standIns := [], harness := (true, "dbff2c498c3a5fceb15f8426e2deb1e9d34f0bf923ba14928b1b367252a4fc9b"), looks := false }, kinds := [], alts := [], laidByText := true, laidKinds := [.data, .pinned], laidTests := true, laidLooks := .later }
def TracesOfUptoCardSaid : Prop := Claim7.holds Tryz.pinned (.plain (OpenSpec.upto tracesOfSpec)) tracesOfUptoCard
end Rows
end Go.Proofs.YtiddfilinnbhaaaGreatDoor
