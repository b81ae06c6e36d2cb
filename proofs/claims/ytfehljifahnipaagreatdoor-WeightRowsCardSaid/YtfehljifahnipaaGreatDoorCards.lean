/-
  DERIVED. GIVEN WITH THE SEED: THE CARDS: each row of YtfehljifahnipaaGreatDoorRows.lean that lists a variable, with what it lists TIED to the program's text (the seventh form; the later family's looks); each row that meets fmt, with fmt's text TOLD by the authors' own Lean function (tested against real Go, not proved from fmt's source: count such statements apart). THE CARD IS WHAT COUNTS. Prove the row's statement (the work); the ties are given (YtfehljifahnipaaGreatDoorTie.lean); close each card by the builder's one call (the guide's Derived/Test/ToyasCard.lean, 'card_holds'). Laid BY PROGRAM, IN A SANDBOX (cutbox-door.mjs). By AI agents, Wed Nov 11 2026. No macro, syntax, notation, axiom, sorry.
-/
import Derived.Test.YtfehljifahnipaaGreatDoorRows
import GoSem.ClaimSeven
namespace Go.Proofs.YtfehljifahnipaaGreatDoor
namespace Rows

/-- THE TIED CARD OF 'groutworklaw06.WeightChecks'. -/
def weightChecksCard : Claim7 := { stood := { row := weightChecksRow, standIns := [], harness := (true, "4616882eec761d2f82afd7b197b3d9f7bd6a463a12c1f20a50c73982c6aed5e3"), looks := true }, kinds := [], alts := [], laidByText := true, laidKinds := [.data, .data, .data, .data, .sentinel, .sentinel, .data, .pinned], laidTests := true, laidLooks := .later }
def WeightChecksCardSaid : Prop := Claim7.holds Tryz.pinned (.plain (OpenSpec.ofChange weightChecksSpec)) weightChecksCard

/-- THE TIED CARD OF 'groutworklaw06.WeightRow'. -/
def weightRowCard : Claim7 := { stood := { row := weightRowRow, standIns := [], harness := (true, "4616882eec761d2f82afd7b197b3d9f7bd6a463a12c1f20a50c73982c6aed5e3"), looks := true }, kinds := [], alts := [], laidByText := true, laidKinds := [.data, .data, .data, .data, .sentinel, .sentinel, .data, .pinned], laidTests := true, laidLooks := .later }
def WeightRowCardSaid : Prop := Claim7.holds Tryz.pinned (.plain (OpenSpec.ofChange weightRowSpec)) weightRowCard

/-- THE TIED CARD OF 'groutworklaw06.WeightRows'. -/
def weightRowsCard : Claim7 := { stood := { row := weightRowsRow, standIns := [], harness := (true, "4616882eec761d2f82afd7b197b3d9f7bd6a463a12c1f20a50c73982c6aed5e3"), looks := true }, kinds := [], alts := [], laidByText := true, laidKinds := [.data, .data, .data, .data, .sentinel, .sentinel, .data, .pinned], laidTests := true, laidLooks := .later }
def WeightRowsCardSaid : Prop := Claim7.holds Tryz.pinned (.plain (OpenSpec.ofChange weightRowsSpec)) weightRowsCard

/-- THE TIED CARD OF 'groutworklaw06.WeightParts'. -/
def weightPartsCard : Claim7 := { stood := { row := weightPartsRow, standIns := [], harness := (true, "4616882eec761d2f82afd7b197b3d9f7bd6a463a12c1f20a50c73982c6aed5e3"), looks := true }, kinds := [], alts := [], laidByText := true, laidKinds := [.data, .data, .data, .data, .sentinel, .sentinel, .data, .pinned], laidTests := true, laidLooks := .later }
def WeightPartsCardSaid : Prop := Claim7.holds Tryz.pinned (.plain (OpenSpec.ofChange weightPartsSpec)) weightPartsCard

/-- THE TIED CARD OF 'groutworklaw06.WeightNone'. -/
def weightNoneCard : Claim7 := { stood := { row := weightNoneRow, standIns := [], harness := (true, "4616882eec761d2f82afd7b197b3d9f7bd6a463a12c1f20a50c73982c6aed5e3"), looks := true }, kinds := [], alts := [], laidByText := true, laidKinds := [.data, .data, .data, .data, .sentinel, .sentinel, .data, .pinned], laidTests := true, laidLooks := .later }
def WeightNoneCardSaid : Prop := Claim7.holds Tryz.pinned (.plain (OpenSpec.ofChange weightNoneSpec)) weightNoneCard

/-- THE SECOND FORM's CARD OF 'groutworklaw06.WeightChecks'. -/
def weightChecksUptoCard : Claim7 := { stood := { row := weightChecksUptoRow, standIns := [], harness := (true, "4616882eec761d2f82afd7b197b3d9f7bd6a463a12c1f20a50c73982c6aed5e3"), looks := true }, kinds := [], alts := [], laidByText := true, laidKinds := [.data, .data, .data, .data, .sentinel, .sentinel, .data, .pinned], laidTests := true, laidLooks := .later }
def WeightChecksUptoCardSaid : Prop := Claim7.holds Tryz.pinned (.plain (OpenSpec.upto weightChecksSpec)) weightChecksUptoCard

/-- THE SECOND FORM's CARD OF 'groutworklaw06.WeightRow'. -/
def weightRowUptoCard : Claim7 := { stood := { row := weightRowUptoRow, standIns := [], harness := (true, "4616882eec761d2f82afd7b197b3d9f7bd6a463a12c1f20a50c73982c6aed5e3"), looks := true }, kinds := [], alts := [], laidByText := true, laidKinds := [.data, .data, .data, .data, .sentinel, .sentinel, .data, .pinned], laidTests := true, laidLooks := .later }
def WeightRowUptoCardSaid : Prop := Claim7.holds Tryz.pinned (.plain (OpenSpec.upto weightRowSpec)) weightRowUptoCard

/-- THE SECOND FORM's CARD OF 'groutworklaw06.WeightRows'. -/
def weightRowsUptoCard : Claim7 := { stood := { row := weightRowsUptoRow, standIns := [], harness := (true, "4616882eec761d2f82afd7b197b3d9f7bd6a463a12c1f20a50c73982c6aed5e3"), looks := true }, kinds := [], alts := [], laidByText := true, laidKinds := [.data, .data, .data, .data, .sentinel, .sentinel, .data, .pinned], laidTests := true, laidLooks := .later }
def WeightRowsUptoCardSaid : Prop := Claim7.holds Tryz.pinned (.plain (OpenSpec.upto weightRowsSpec)) weightRowsUptoCard

/-- THE SECOND FORM's CARD OF 'groutworklaw06.WeightParts'. -/
def weightPartsUptoCard : Claim7 := { stood := { row := weightPartsUptoRow, standIns := [], harness := (true, "4616882eec761d2f82afd7b197b3d9f7bd6a463a12c1f20a50c73982c6aed5e3"), looks := true }, kinds := [], alts := [], laidByText := true, laidKinds := [.data, .data, .data, .data, .sentinel, .sentinel, .data, .pinned], laidTests := true, laidLooks := .later }
def WeightPartsUptoCardSaid : Prop := Claim7.holds Tryz.pinned (.plain (OpenSpec.upto weightPartsSpec)) weightPartsUptoCard

/-- THE SECOND FORM's CARD OF 'groutworklaw06.WeightNone'. -/
def weightNoneUptoCard : Claim7 := { stood := { row := weightNoneUptoRow, standIns := [], harness := (true, "4616882eec761d2f82afd7b197b3d9f7bd6a463a12c1f20a50c73982c6aed5e3"), looks := true }, kinds := [], alts := [], laidByText := true, laidKinds := [.data, .data, .data, .data, .sentinel, .sentinel, .data, .pinned], laidTests := true, laidLooks := .later }
def WeightNoneUptoCardSaid : Prop := Claim7.holds Tryz.pinned (.plain (OpenSpec.upto weightNoneSpec)) weightNoneUptoCard
end Rows
end Go.Proofs.YtfehljifahnipaaGreatDoor
