/-
  DERIVED. GIVEN WITH THE SEED: THE CARDS: each row of YtchikbfmbfoaoaaGreatDoorRows.lean that lists a variable, with what it lists TIED to the program's text (the seventh form; the later family's looks); each row that meets fmt, with fmt's text TOLD by the authors' own Lean function (tested against real Go, not proved from fmt's source: count such statements apart). THE CARD IS WHAT COUNTS. Prove the row's statement (the work); the ties are given (YtchikbfmbfoaoaaGreatDoorTie.lean); close each card by the builder's one call (the guide's Derived/Test/ToyasCard.lean, 'card_holds'). Laid BY PROGRAM, IN A SANDBOX (cutbox-door.mjs). By AI agents, Wed Nov 11 2026. No macro, syntax, notation, axiom, sorry.
-/
import Derived.Test.YtchikbfmbfoaoaaGreatDoorRows
import GoSem.ClaimSeven
namespace Go.Proofs.YtchikbfmbfoaoaaGreatDoor
namespace Rows

/-- THE TIED CARD OF 'groutworklaw04.StripStacked'. -/
def stripStackedCard : Claim7 := { stood := { row := stripStackedRow, standIns := [], harness := (true, "ae4bd2fcc9303b89d899ece0aae8846b5bb3f9a70d03a4d4a92892c38571a697"), looks := true }, kinds := [], alts := [], laidByText := true, laidKinds := [.data, .data, .data, .data, .sentinel, .sentinel, .pinned], laidTests := true, laidLooks := .later }
def StripStackedCardSaid : Prop := Claim7.holds Tryz.pinned (.plain (OpenSpec.ofChange stripStackedSpec)) stripStackedCard

/-- THE SECOND FORM's CARD OF 'groutworklaw04.StripStacked'. -/
def stripStackedUptoCard : Claim7 := { stood := { row := stripStackedUptoRow, standIns := [], harness := (true, "ae4bd2fcc9303b89d899ece0aae8846b5bb3f9a70d03a4d4a92892c38571a697"), looks := true }, kinds := [], alts := [], laidByText := true, laidKinds := [.data, .data, .data, .data, .sentinel, .sentinel, .pinned], laidTests := true, laidLooks := .later }
def StripStackedUptoCardSaid : Prop := Claim7.holds Tryz.pinned (.plain (OpenSpec.upto stripStackedSpec)) stripStackedUptoCard
end Rows
end Go.Proofs.YtchikbfmbfoaoaaGreatDoor
