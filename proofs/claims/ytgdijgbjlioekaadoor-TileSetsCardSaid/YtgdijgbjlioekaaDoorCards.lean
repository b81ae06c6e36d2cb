/-
  DERIVED. GIVEN WITH THE SEED: THE CARDS: each row of YtgdijgbjlioekaaDoorRows.lean that lists a variable, with what it lists TIED to the program's text (the seventh form; the later family's looks); each row that meets fmt, with fmt's text TOLD by the authors' own Lean function (tested against real Go, not proved from fmt's source: count such statements apart). THE CARD IS WHAT COUNTS. Prove the row's statement (the work); the ties are given (YtgdijgbjlioekaaDoorTie.lean); close each card by the builder's one call (the guide's Derived/Test/ToyasCard.lean, 'card_holds'). Laid BY PROGRAM, IN A SANDBOX (cutbox-door.mjs). By AI agents, Wed Nov 11 2026. No macro, syntax, notation, axiom, sorry.
-/
import Derived.Test.YtgdijgbjlioekaaDoorRows
import GoSem.ClaimSeven
namespace Go.Proofs.YtgdijgbjlioekaaDoor
namespace Rows

/-- THE TIED CARD OF 'groutworklaw01.TileParses'. -/
def tileParsesCard : Claim7 := { stood := { row := tileParsesRow, standIns := [], harness := (true, "cc76f2861ad349d216178c02f0350229bfbd954b1a2a16dd5fc87da91d29b680"), looks := true }, kinds := [], alts := [], laidByText := true, laidKinds := [.data, .data, .data, .data, .sentinel, .sentinel, .pinned], laidTests := true, laidLooks := .later }
def TileParsesCardSaid : Prop := Claim7.holds Tryd.pinned (.plain (OpenSpec.ofChange tileParsesSpec)) tileParsesCard

/-- THE TIED CARD OF 'groutworklaw01.TileSets'. -/
def tileSetsCard : Claim7 := { stood := { row := tileSetsRow, standIns := [], harness := (true, "cc76f2861ad349d216178c02f0350229bfbd954b1a2a16dd5fc87da91d29b680"), looks := true }, kinds := [], alts := [], laidByText := true, laidKinds := [.data, .data, .data, .data, .sentinel, .sentinel, .pinned], laidTests := true, laidLooks := .later }
def TileSetsCardSaid : Prop := Claim7.holds Tryd.pinned (.plain (OpenSpec.ofChange tileSetsSpec)) tileSetsCard

/-- THE SECOND FORM's CARD OF 'groutworklaw01.TileParses'. -/
def tileParsesUptoCard : Claim7 := { stood := { row := tileParsesUptoRow, standIns := [], harness := (true, "cc76f2861ad349d216178c02f0350229bfbd954b1a2a16dd5fc87da91d29b680"), looks := true }, kinds := [], alts := [], laidByText := true, laidKinds := [.data, .data, .data, .data, .sentinel, .sentinel, .pinned], laidTests := true, laidLooks := .later }
def TileParsesUptoCardSaid : Prop := Claim7.holds Tryd.pinned (.plain (OpenSpec.upto tileParsesSpec)) tileParsesUptoCard

/-- THE SECOND FORM's CARD OF 'groutworklaw01.TileSets'. -/
def tileSetsUptoCard : Claim7 := { stood := { row := tileSetsUptoRow, standIns := [], harness := (true, "cc76f2861ad349d216178c02f0350229bfbd954b1a2a16dd5fc87da91d29b680"), looks := true }, kinds := [], alts := [], laidByText := true, laidKinds := [.data, .data, .data, .data, .sentinel, .sentinel, .pinned], laidTests := true, laidLooks := .later }
def TileSetsUptoCardSaid : Prop := Claim7.holds Tryd.pinned (.plain (OpenSpec.upto tileSetsSpec)) tileSetsUptoCard
end Rows
end Go.Proofs.YtgdijgbjlioekaaDoor
