/-
  DERIVED. GIVEN WITH THE SEED: THE CARDS: each row of YtjfmjfheeijfiaaDoorRows.lean that lists a variable, with what it lists TIED to the program's text (the seventh form; the later family's looks); each row that meets fmt, with fmt's text TOLD by the authors' own Lean function (tested against real Go, not proved from fmt's source: count such statements apart). THE CARD IS WHAT COUNTS. Prove the row's statement (the work); the ties are given (YtjfmjfheeijfiaaDoorTie.lean); close each card by the builder's one call (the guide's Derived/Test/ToyasCard.lean, 'card_holds'). Laid BY PROGRAM, IN A SANDBOX (cutbox-door.mjs). By AI agents, Wed Nov 11 2026. No macro, syntax, notation, axiom, sorry.
-/
import Derived.Test.YtjfmjfheeijfiaaDoorRows
import GoSem.ClaimSeven
namespace Go.Proofs.YtjfmjfheeijfiaaDoor
namespace Rows

/-- THE TIED CARD OF 'groutworklaw03.TorusFinds'. -/
def torusFindsCard : Claim7 := { stood := { row := torusFindsRow, standIns := [], harness := (true, "082591326f47b0a2b4ae1738776666e961ac3d835329bdefe4b33b2493b8d994"), looks := true }, kinds := [], alts := [], laidByText := true, laidKinds := [.data, .data, .data, .data, .sentinel, .sentinel, .pinned], laidTests := true, laidLooks := .later }
def TorusFindsCardSaid : Prop := Claim7.holds Tryd.pinned (.plain (OpenSpec.ofChange torusFindsSpec)) torusFindsCard

/-- THE TIED CARD OF 'groutworklaw03.TorusLeast'. -/
def torusLeastCard : Claim7 := { stood := { row := torusLeastRow, standIns := [], harness := (true, "082591326f47b0a2b4ae1738776666e961ac3d835329bdefe4b33b2493b8d994"), looks := true }, kinds := [], alts := [], laidByText := true, laidKinds := [.data, .data, .data, .data, .sentinel, .sentinel, .pinned], laidTests := true, laidLooks := .later }
def TorusLeastCardSaid : Prop := Claim7.holds Tryd.pinned (.plain (OpenSpec.ofChange torusLeastSpec)) torusLeastCard

/-- THE TIED CARD OF 'groutworklaw03.TorusRows'. -/
def torusRowsCard : Claim7 := { stood := { row := torusRowsRow, standIns := [], harness := (true, "082591326f47b0a2b4ae1738776666e961ac3d835329bdefe4b33b2493b8d994"), looks := true }, kinds := [], alts := [], laidByText := true, laidKinds := [.data, .data, .data, .data, .sentinel, .sentinel, .pinned], laidTests := true, laidLooks := .later }
def TorusRowsCardSaid : Prop := Claim7.holds Tryd.pinned (.plain (OpenSpec.ofChange torusRowsSpec)) torusRowsCard

/-- THE TIED CARD OF 'groutworklaw02.FillCounts'. -/
def fillCountsCard : Claim7 := { stood := { row := fillCountsRow, standIns := [], harness := (true, "082591326f47b0a2b4ae1738776666e961ac3d835329bdefe4b33b2493b8d994"), looks := true }, kinds := [], alts := [], laidByText := true, laidKinds := [.data, .data, .data, .data, .sentinel, .sentinel, .pinned], laidTests := true, laidLooks := .later }
def FillCountsCardSaid : Prop := Claim7.holds Tryd.pinned (.plain (OpenSpec.ofChange fillCountsSpec)) fillCountsCard

/-- THE TIED CARD OF 'groutworklaw02.FillFirst'. -/
def fillFirstCard : Claim7 := { stood := { row := fillFirstRow, standIns := [], harness := (true, "082591326f47b0a2b4ae1738776666e961ac3d835329bdefe4b33b2493b8d994"), looks := true }, kinds := [], alts := [], laidByText := true, laidKinds := [.data, .data, .data, .data, .sentinel, .sentinel, .pinned], laidTests := true, laidLooks := .later }
def FillFirstCardSaid : Prop := Claim7.holds Tryd.pinned (.plain (OpenSpec.ofChange fillFirstSpec)) fillFirstCard

/-- THE TIED CARD OF 'groutworklaw02.FillThere'. -/
def fillThereCard : Claim7 := { stood := { row := fillThereRow, standIns := [], harness := (true, "082591326f47b0a2b4ae1738776666e961ac3d835329bdefe4b33b2493b8d994"), looks := true }, kinds := [], alts := [], laidByText := true, laidKinds := [.data, .data, .data, .data, .sentinel, .sentinel, .pinned], laidTests := true, laidLooks := .later }
def FillThereCardSaid : Prop := Claim7.holds Tryd.pinned (.plain (OpenSpec.ofChange fillThereSpec)) fillThereCard

/-- THE TIED CARD OF 'groutworklaw02.FillSum'. -/
def fillSumCard : Claim7 := { stood := { row := fillSumRow, standIns := [], harness := (true, "082591326f47b0a2b4ae1738776666e961ac3d835329bdefe4b33b2493b8d994"), looks := true }, kinds := [], alts := [], laidByText := true, laidKinds := [.data, .data, .data, .data, .sentinel, .sentinel, .pinned], laidTests := true, laidLooks := .later }
def FillSumCardSaid : Prop := Claim7.holds Tryd.pinned (.plain (OpenSpec.ofChange fillSumSpec)) fillSumCard

/-- THE TIED CARD OF 'groutworklaw02.FillStacked'. -/
def fillStackedCard : Claim7 := { stood := { row := fillStackedRow, standIns := [], harness := (true, "082591326f47b0a2b4ae1738776666e961ac3d835329bdefe4b33b2493b8d994"), looks := true }, kinds := [], alts := [], laidByText := true, laidKinds := [.data, .data, .data, .data, .sentinel, .sentinel, .pinned], laidTests := true, laidLooks := .later }
def FillStackedCardSaid : Prop := Claim7.holds Tryd.pinned (.plain (OpenSpec.ofChange fillStackedSpec)) fillStackedCard

/-- THE TIED CARD OF 'groutworklaw05.SquareExists'. -/
def squareExistsCard : Claim7 := { stood := { row := squareExistsRow, standIns := [], harness := (true, "082591326f47b0a2b4ae1738776666e961ac3d835329bdefe4b33b2493b8d994"), looks := true }, kinds := [], alts := [], laidByText := true, laidKinds := [.data, .data, .data, .data, .sentinel, .sentinel, .pinned], laidTests := true, laidLooks := .later }
def SquareExistsCardSaid : Prop := Claim7.holds Tryd.pinned (.plain (OpenSpec.ofChange squareExistsSpec)) squareExistsCard

/-- THE TIED CARD OF 'groutworklaw05.SquareFalls'. -/
def squareFallsCard : Claim7 := { stood := { row := squareFallsRow, standIns := [], harness := (true, "082591326f47b0a2b4ae1738776666e961ac3d835329bdefe4b33b2493b8d994"), looks := true }, kinds := [], alts := [], laidByText := true, laidKinds := [.data, .data, .data, .data, .sentinel, .sentinel, .pinned], laidTests := true, laidLooks := .later }
def SquareFallsCardSaid : Prop := Claim7.holds Tryd.pinned (.plain (OpenSpec.ofChange squareFallsSpec)) squareFallsCard

/-- THE TIED CARD OF 'groutworklaw03.TorusRight'. -/
def torusRightCard : Claim7 := { stood := { row := torusRightRow, standIns := [], harness := (true, "082591326f47b0a2b4ae1738776666e961ac3d835329bdefe4b33b2493b8d994"), looks := true }, kinds := [], alts := [], laidByText := true, laidKinds := [.data, .data, .data, .data, .sentinel, .sentinel, .pinned], laidTests := true, laidLooks := .later }
def TorusRightCardSaid : Prop := Claim7.holds Tryd.pinned (.plain (OpenSpec.ofChange torusRightSpec)) torusRightCard

/-- THE SECOND FORM's CARD OF 'groutworklaw03.TorusFinds'. -/
def torusFindsUptoCard : Claim7 := { stood := { row := torusFindsUptoRow, standIns := [], harness := (true, "082591326f47b0a2b4ae1738776666e961ac3d835329bdefe4b33b2493b8d994"), looks := true }, kinds := [], alts := [], laidByText := true, laidKinds := [.data, .data, .data, .data, .sentinel, .sentinel, .pinned], laidTests := true, laidLooks := .later }
def TorusFindsUptoCardSaid : Prop := Claim7.holds Tryd.pinned (.plain (OpenSpec.upto torusFindsSpec)) torusFindsUptoCard

/-- THE SECOND FORM's CARD OF 'groutworklaw03.TorusLeast'. -/
def torusLeastUptoCard : Claim7 := { stood := { row := torusLeastUptoRow, standIns := [], harness := (true, "082591326f47b0a2b4ae1738776666e961ac3d835329bdefe4b33b2493b8d994"), looks := true }, kinds := [], alts := [], laidByText := true, laidKinds := [.data, .data, .data, .data, .sentinel, .sentinel, .pinned], laidTests := true, laidLooks := .later }
def TorusLeastUptoCardSaid : Prop := Claim7.holds Tryd.pinned (.plain (OpenSpec.upto torusLeastSpec)) torusLeastUptoCard

/-- THE SECOND FORM's CARD OF 'groutworklaw03.TorusRows'. -/
def torusRowsUptoCard : Claim7 := { stood := { row := torusRowsUptoRow, standIns := [], harness := (true, "082591326f47b0a2b4ae1738776666e961ac3d835329bdefe4b33b2493b8d994"), looks := true }, kinds := [], alts := [], laidByText := true, laidKinds := [.data, .data, .data, .data, .sentinel, .sentinel, .pinned], laidTests := true, laidLooks := .later }
def TorusRowsUptoCardSaid : Prop := Claim7.holds Tryd.pinned (.plain (OpenSpec.upto torusRowsSpec)) torusRowsUptoCard

/-- THE SECOND FORM's CARD OF 'groutworklaw02.FillCounts'. -/
def fillCountsUptoCard : Claim7 := { stood := { row := fillCountsUptoRow, standIns := [], harness := (true, "082591326f47b0a2b4ae1738776666e961ac3d835329bdefe4b33b2493b8d994"), looks := true }, kinds := [], alts := [], laidByText := true, laidKinds := [.data, .data, .data, .data, .sentinel, .sentinel, .pinned], laidTests := true, laidLooks := .later }
def FillCountsUptoCardSaid : Prop := Claim7.holds Tryd.pinned (.plain (OpenSpec.upto fillCountsSpec)) fillCountsUptoCard

/-- THE SECOND FORM's CARD OF 'groutworklaw02.FillFirst'. -/
def fillFirstUptoCard : Claim7 := { stood := { row := fillFirstUptoRow, standIns := [], harness := (true, "082591326f47b0a2b4ae1738776666e961ac3d835329bdefe4b33b2493b8d994"), looks := true }, kinds := [], alts := [], laidByText := true, laidKinds := [.data, .data, .data, .data, .sentinel, .sentinel, .pinned], laidTests := true, laidLooks := .later }
def FillFirstUptoCardSaid : Prop := Claim7.holds Tryd.pinned (.plain (OpenSpec.upto fillFirstSpec)) fillFirstUptoCard

/-- THE SECOND FORM's CARD OF 'groutworklaw02.FillThere'. -/
def fillThereUptoCard : Claim7 := { stood := { row := fillThereUptoRow, standIns := [], harness := (true, "082591326f47b0a2b4ae1738776666e961ac3d835329bdefe4b33b2493b8d994"), looks := true }, kinds := [], alts := [], laidByText := true, laidKinds := [.data, .data, .data, .data, .sentinel, .sentinel, .pinned], laidTests := true, laidLooks := .later }
def FillThereUptoCardSaid : Prop := Claim7.holds Tryd.pinned (.plain (OpenSpec.upto fillThereSpec)) fillThereUptoCard

/-- THE SECOND FORM's CARD OF 'groutworklaw02.FillSum'. -/
def fillSumUptoCard : Claim7 := { stood := { row := fillSumUptoRow, standIns := [], harness := (true, "082591326f47b0a2b4ae1738776666e961ac3d835329bdefe4b33b2493b8d994"), looks := true }, kinds := [], alts := [], laidByText := true, laidKinds := [.data, .data, .data, .data, .sentinel, .sentinel, .pinned], laidTests := true, laidLooks := .later }
def FillSumUptoCardSaid : Prop := Claim7.holds Tryd.pinned (.plain (OpenSpec.upto fillSumSpec)) fillSumUptoCard

/-- THE SECOND FORM's CARD OF 'groutworklaw02.FillStacked'. -/
def fillStackedUptoCard : Claim7 := { stood := { row := fillStackedUptoRow, standIns := [], harness := (true, "082591326f47b0a2b4ae1738776666e961ac3d835329bdefe4b33b2493b8d994"), looks := true }, kinds := [], alts := [], laidByText := true, laidKinds := [.data, .data, .data, .data, .sentinel, .sentinel, .pinned], laidTests := true, laidLooks := .later }
def FillStackedUptoCardSaid : Prop := Claim7.holds Tryd.pinned (.plain (OpenSpec.upto fillStackedSpec)) fillStackedUptoCard

/-- THE SECOND FORM's CARD OF 'groutworklaw05.SquareExists'. -/
def squareExistsUptoCard : Claim7 := { stood := { row := squareExistsUptoRow, standIns := [], harness := (true, "082591326f47b0a2b4ae1738776666e961ac3d835329bdefe4b33b2493b8d994"), looks := true }, kinds := [], alts := [], laidByText := true, laidKinds := [.data, .data, .data, .data, .sentinel, .sentinel, .pinned], laidTests := true, laidLooks := .later }
def SquareExistsUptoCardSaid : Prop := Claim7.holds Tryd.pinned (.plain (OpenSpec.upto squareExistsSpec)) squareExistsUptoCard

/-- THE SECOND FORM's CARD OF 'groutworklaw05.SquareFalls'. -/
def squareFallsUptoCard : Claim7 := { stood := { row := squareFallsUptoRow, standIns := [], harness := (true, "082591326f47b0a2b4ae1738776666e961ac3d835329bdefe4b33b2493b8d994"), looks := true }, kinds := [], alts := [], laidByText := true, laidKinds := [.data, .data, .data, .data, .sentinel, .sentinel, .pinned], laidTests := true, laidLooks := .later }
def SquareFallsUptoCardSaid : Prop := Claim7.holds Tryd.pinned (.plain (OpenSpec.upto squareFallsSpec)) squareFallsUptoCard

/-- THE SECOND FORM's CARD OF 'groutworklaw03.TorusRight'. -/
def torusRightUptoCard : Claim7 := { stood := { row := torusRightUptoRow, standIns := [], harness := (true, "082591326f47b0a2b4ae1738776666e961ac3d835329bdefe4b33b2493b8d994"), looks := true }, kinds := [], alts := [], laidByText := true, laidKinds := [.data, .data, .data, .data, .sentinel, .sentinel, .pinned], laidTests := true, laidLooks := .later }
def TorusRightUptoCardSaid : Prop := Claim7.holds Tryd.pinned (.plain (OpenSpec.upto torusRightSpec)) torusRightUptoCard
end Rows
end Go.Proofs.YtjfmjfheeijfiaaDoor
