/-
  DERIVED. GIVEN WITH THE SEED: THE CARDS: each row of YtcmgcacpmbldeaaDoorRows.lean that lists a variable, with what it lists TIED to the program's text (the seventh form; the later family's looks); each row that meets fmt, with fmt's text TOLD by the authors' own Lean function (tested against real Go, not proved from fmt's source: count such statements apart). THE CARD IS WHAT COUNTS. Prove the row's statement (the work); the ties are given (YtcmgcacpmbldeaaDoorTie.lean); close each card by the builder's one call (the guide's Derived/Test/ToyasCard.lean, 'card_holds'). Laid BY PROGRAM, IN A SANDBOX (cutbox-door.mjs). By AI agents, Wed Nov 11 2026. No macro, syntax, notation, axiom, sorry.
-/
import Derived.Test.YtcmgcacpmbldeaaDoorRows
import GoSem.ClaimSeven
namespace Go.Proofs.YtcmgcacpmbldeaaDoor
namespace Rows

/-- THE TIED CARD OF 'groutworklaw01.TileParses'. -/
def tileParsesCard : Claim7 := { stood := { row := tileParsesRow, standIns := [], harness := (true, "d4b699d8658de5cbb1c99044dde43f9c384dc4dfce2f6143d1b74fd94143acd0"), looks := true }, kinds := [], alts := [], laidByText := true, laidKinds := [.data, .data, .data, .data, .sentinel, .sentinel, .pinned], laidTests := true, laidLooks := .later }
def TileParsesCardSaid : Prop := Claim7.holds Tryd.pinned (.plain (OpenSpec.ofChange tileParsesSpec)) tileParsesCard

/-- THE TIED CARD OF 'groutworklaw01.TileFits'. -/
def tileFitsCard : Claim7 := { stood := { row := tileFitsRow, standIns := [], harness := (true, "d4b699d8658de5cbb1c99044dde43f9c384dc4dfce2f6143d1b74fd94143acd0"), looks := true }, kinds := [], alts := [], laidByText := true, laidKinds := [.data, .data, .data, .data, .sentinel, .sentinel, .pinned], laidTests := true, laidLooks := .later }
def TileFitsCardSaid : Prop := Claim7.holds Tryd.pinned (.plain (OpenSpec.ofChange tileFitsSpec)) tileFitsCard

/-- THE TIED CARD OF 'groutworklaw01.TileSets'. -/
def tileSetsCard : Claim7 := { stood := { row := tileSetsRow, standIns := [], harness := (true, "d4b699d8658de5cbb1c99044dde43f9c384dc4dfce2f6143d1b74fd94143acd0"), looks := true }, kinds := [], alts := [], laidByText := true, laidKinds := [.data, .data, .data, .data, .sentinel, .sentinel, .pinned], laidTests := true, laidLooks := .later }
def TileSetsCardSaid : Prop := Claim7.holds Tryd.pinned (.plain (OpenSpec.ofChange tileSetsSpec)) tileSetsCard

/-- THE TIED CARD OF 'groutworklaw01.TilePatterns'. -/
def tilePatternsCard : Claim7 := { stood := { row := tilePatternsRow, standIns := [], harness := (true, "d4b699d8658de5cbb1c99044dde43f9c384dc4dfce2f6143d1b74fd94143acd0"), looks := true }, kinds := [], alts := [], laidByText := true, laidKinds := [.data, .data, .data, .data, .sentinel, .sentinel, .pinned], laidTests := true, laidLooks := .later }
def TilePatternsCardSaid : Prop := Claim7.holds Tryd.pinned (.plain (OpenSpec.ofChange tilePatternsSpec)) tilePatternsCard

/-- THE TIED CARD OF 'groutworklaw01.TileTurned'. -/
def tileTurnedCard : Claim7 := { stood := { row := tileTurnedRow, standIns := [], harness := (true, "d4b699d8658de5cbb1c99044dde43f9c384dc4dfce2f6143d1b74fd94143acd0"), looks := true }, kinds := [], alts := [], laidByText := true, laidKinds := [.data, .data, .data, .data, .sentinel, .sentinel, .pinned], laidTests := true, laidLooks := .later }
def TileTurnedCardSaid : Prop := Claim7.holds Tryd.pinned (.plain (OpenSpec.ofChange tileTurnedSpec)) tileTurnedCard

/-- THE SECOND FORM's CARD OF 'groutworklaw01.TileParses'. -/
def tileParsesUptoCard : Claim7 := { stood := { row := tileParsesUptoRow, standIns := [], harness := (true, "d4b699d8658de5cbb1c99044dde43f9c384dc4dfce2f6143d1b74fd94143acd0"), looks := true }, kinds := [], alts := [], laidByText := true, laidKinds := [.data, .data, .data, .data, .sentinel, .sentinel, .pinned], laidTests := true, laidLooks := .later }
def TileParsesUptoCardSaid : Prop := Claim7.holds Tryd.pinned (.plain (OpenSpec.upto tileParsesSpec)) tileParsesUptoCard

/-- THE SECOND FORM's CARD OF 'groutworklaw01.TileFits'. -/
def tileFitsUptoCard : Claim7 := { stood := { row := tileFitsUptoRow, standIns := [], harness := (true, "d4b699d8658de5cbb1c99044dde43f9c384dc4dfce2f6143d1b74fd94143acd0"), looks := true }, kinds := [], alts := [], laidByText := true, laidKinds := [.data, .data, .data, .data, .sentinel, .sentinel, .pinned], laidTests := true, laidLooks := .later }
def TileFitsUptoCardSaid : Prop := Claim7.holds Tryd.pinned (.plain (OpenSpec.upto tileFitsSpec)) tileFitsUptoCard

/-- THE SECOND FORM's CARD OF 'groutworklaw01.TileSets'. -/
def tileSetsUptoCard : Claim7 := { stood := { row := tileSetsUptoRow, standIns := [], harness := (true, "d4b699d8658de5cbb1c99044dde43f9c384dc4dfce2f6143d1b74fd94143acd0"), looks := true }, kinds := [], alts := [], laidByText := true, laidKinds := [.data, .data, .data, .data, .sentinel, .sentinel, .pinned], laidTests := true, laidLooks := .later }
def TileSetsUptoCardSaid : Prop := Claim7.holds Tryd.pinned (.plain (OpenSpec.upto tileSetsSpec)) tileSetsUptoCard

/-- THE SECOND FORM's CARD OF 'groutworklaw01.TilePatterns'. -/
def tilePatternsUptoCard : Claim7 := { stood := { row := tilePatternsUptoRow, standIns := [], harness := (true, "d4b699d8658de5cbb1c99044dde43f9c384dc4dfce2f6143d1b74fd94143acd0"), looks := true }, kinds := [], alts := [], laidByText := true, laidKinds := [.data, .data, .data, .data, .sentinel, .sentinel, .pinned], laidTests := true, laidLooks := .later }
def TilePatternsUptoCardSaid : Prop := Claim7.holds Tryd.pinned (.plain (OpenSpec.upto tilePatternsSpec)) tilePatternsUptoCard

/-- THE SECOND FORM's CARD OF 'groutworklaw01.TileTurned'. -/
def tileTurnedUptoCard : Claim7 := { stood := { row := tileTurnedUptoRow, standIns := [], harness := (true, "d4b699d8658de5cbb1c99044dde43f9c384dc4dfce2f6143d1b74fd94143acd0"), looks := true }, kinds := [], alts := [], laidByText := true, laidKinds := [.data, .data, .data, .data, .sentinel, .sentinel, .pinned], laidTests := true, laidLooks := .later }
def TileTurnedUptoCardSaid : Prop := Claim7.holds Tryd.pinned (.plain (OpenSpec.upto tileTurnedSpec)) tileTurnedUptoCard
end Rows
end Go.Proofs.YtcmgcacpmbldeaaDoor
