/-
  DERIVED. GIVEN WITH THE SEED: THE CARDS: each row of YtaaedmifnkghnaaDoorRows.lean that lists a variable, with what it lists TIED to the program's text (the seventh form; the later family's looks); each row that meets fmt, with fmt's text TOLD by the authors' own Lean function (tested against real Go, not proved from fmt's source: count such statements apart). THE CARD IS WHAT COUNTS. Prove the row's statement (the work); the ties are given (YtaaedmifnkghnaaDoorTie.lean); close each card by the builder's one call (the guide's Derived/Test/ToyasCard.lean, 'card_holds'). Laid BY PROGRAM, IN A SANDBOX (cutbox-door.mjs). By AI agents, Wed Nov 11 2026. No macro, syntax, notation, axiom, sorry.
-/
import Derived.Test.YtaaedmifnkghnaaDoorRows
import GoSem.ClaimSeven
namespace Go.Proofs.YtaaedmifnkghnaaDoor
namespace Rows

/-- THE TIED CARD OF 'gauntletlaw33.FormulasKnown'. -/
def formulasKnownCard : Claim7 := { stood := { row := formulasKnownRow, standIns := [], harness := (true, "477cfeb1348851668f404be42c7a78910b899797eac77e149380e60daac88113"), looks := true }, kinds := [], alts := [], laidByText := true, laidKinds := [.data, .data, .data, .sentinel, .sentinel, .funcs], laidTests := true, laidLooks := .later }
def FormulasKnownCardSaid : Prop := Claim7.holds Tryd.pinned (.plain (OpenSpec.ofChange formulasKnownSpec)) formulasKnownCard

/-- THE SECOND FORM's CARD OF 'gauntletlaw33.FormulasKnown'. -/
def formulasKnownUptoCard : Claim7 := { stood := { row := formulasKnownUptoRow, standIns := [], harness := (true, "477cfeb1348851668f404be42c7a78910b899797eac77e149380e60daac88113"), looks := true }, kinds := [], alts := [], laidByText := true, laidKinds := [.data, .data, .data, .sentinel, .sentinel, .funcs], laidTests := true, laidLooks := .later }
def FormulasKnownUptoCardSaid : Prop := Claim7.holds Tryd.pinned (.plain (OpenSpec.upto formulasKnownSpec)) formulasKnownUptoCard
end Rows
end Go.Proofs.YtaaedmifnkghnaaDoor
