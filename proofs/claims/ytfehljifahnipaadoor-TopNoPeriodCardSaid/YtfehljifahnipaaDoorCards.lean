/-
  DERIVED. GIVEN WITH THE SEED: THE CARDS: each row of YtfehljifahnipaaDoorRows.lean that lists a variable, with what it lists TIED to the program's text (the seventh form; the later family's looks); each row that meets fmt, with fmt's text TOLD by the authors' own Lean function (tested against real Go, not proved from fmt's source: count such statements apart). THE CARD IS WHAT COUNTS. Prove the row's statement (the work); the ties are given (YtfehljifahnipaaDoorTie.lean); close each card by the builder's one call (the guide's Derived/Test/ToyasCard.lean, 'card_holds'). Laid BY PROGRAM, IN A SANDBOX (cutbox-door.mjs). By AI agents, Wed Nov 11 2026. No macro, syntax, notation, axiom, sorry.
-/
import Derived.Test.YtfehljifahnipaaDoorRows
import GoSem.ClaimSeven
namespace Go.Proofs.YtfehljifahnipaaDoor
namespace Rows

/-- THE TIED CARD OF 'groutworktop.TopNoPeriod'. -/
def topNoPeriodCard : Claim7 := { stood := { row := topNoPeriodRow, standIns := [], harness := (true, "72c20731613f35813e522bddd131b67a3643dada772ec3ad62005ac16dd0ff64"), looks := false }, kinds := [], alts := [], laidByText := true, laidKinds := [.data], laidTests := true, laidLooks := .later }
def TopNoPeriodCardSaid : Prop := Claim7.holds Tryd.pinned (.plain (OpenSpec.ofChange topNoPeriodSpec)) topNoPeriodCard

/-- THE SECOND FORM's CARD OF 'groutworktop.TopNoPeriod'. -/
def topNoPeriodUptoCard : Claim7 := { stood := { row := topNoPeriodUptoRow, standIns := [], harness := (true, "72c20731613f35813e522bddd131b67a3643dada772ec3ad62005ac16dd0ff64"), looks := false }, kinds := [], alts := [], laidByText := true, laidKinds := [.data], laidTests := true, laidLooks := .later }
def TopNoPeriodUptoCardSaid : Prop := Claim7.holds Tryd.pinned (.plain (OpenSpec.upto topNoPeriodSpec)) topNoPeriodUptoCard
end Rows
end Go.Proofs.YtfehljifahnipaaDoor
