/-
  DERIVED. GIVEN WITH THE SEED: THE CARDS: each row of YtjfmjfheeijfiaaGreatDoorRows.lean that lists a variable, with what it lists TIED to the program's text (the seventh form; the later family's looks); each row that meets fmt, with fmt's text TOLD by the authors' own Lean function (tested against real Go, not proved from fmt's source: count such statements apart). THE CARD IS WHAT COUNTS. Prove the row's statement (the work); the ties are given (YtjfmjfheeijfiaaGreatDoorTie.lean); close each card by the builder's one call (the guide's Derived/Test/ToyasCard.lean, 'card_holds'). Laid BY PROGRAM, IN A SANDBOX (cutbox-door.mjs). By AI agents, Wed Nov 11 2026. No macro, syntax, notation, axiom, sorry.
-/
import Derived.Test.YtjfmjfheeijfiaaGreatDoorRows
import GoSem.ClaimSeven
namespace Go.Proofs.YtjfmjfheeijfiaaGreatDoor
namespace Rows

/-- THE TIED CARD OF 'groutworklaw02.FillTurned'. -/
def fillTurnedCard : Claim7 := { stood := { row := fillTurnedRow, standIns := [], harness := (true, "737999ca247ef1d9aad854fa784bef1483108f4afdda12c85504694ba1252a78"), looks := true }, kinds := [], alts := [], laidByText := true, laidKinds := [.data, .data, .data, .data, .sentinel, .sentinel, .pinned], laidTests := true, laidLooks := .later }
def FillTurnedCardSaid : Prop := Claim7.holds Tryz.pinned (.plain (OpenSpec.ofChange fillTurnedSpec)) fillTurnedCard

/-- THE SECOND FORM's CARD OF 'groutworklaw02.FillTurned'. -/
def fillTurnedUptoCard : Claim7 := { stood := { row := fillTurnedUptoRow, standIns := [], harness := (true, "737999ca247ef1d9aad854fa784bef1483108f4afdda12c85504694ba1252a78"), looks := true }, kinds := [], alts := [], laidByText := true, laidKinds := [.data, .data, .data, .data, .sentinel, .sentinel, .pinned], laidTests := true, laidLooks := .later }
def FillTurnedUptoCardSaid : Prop := Claim7.holds Tryz.pinned (.plain (OpenSpec.upto fillTurnedSpec)) fillTurnedUptoCard
end Rows
end Go.Proofs.YtjfmjfheeijfiaaGreatDoor
