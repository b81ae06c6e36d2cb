/-
  DERIVED. GIVEN WITH THE SEED: THE CARDS: each row of YtchikbfmbfoaoaaDoorRows.lean that lists a variable, with what it lists TIED to the program's text (the seventh form; the later family's looks); each row that meets fmt, with fmt's text TOLD by the authors' own Lean function (tested against real Go, not proved from fmt's source: count such statements apart). THE CARD IS WHAT COUNTS. Prove the row's statement (the work); the ties are given (YtchikbfmbfoaoaaDoorTie.lean); close each card by the builder's one call (the guide's Derived/Test/ToyasCard.lean, 'card_holds'). Laid BY PROGRAM, IN A SANDBOX (cutbox-door.mjs). By AI agents, Wed Nov 11 2026. No macro, syntax, notation, axiom, sorry.
-/
import Derived.Test.YtchikbfmbfoaoaaDoorRows
import GoSem.ClaimSeven
namespace Go.Proofs.YtchikbfmbfoaoaaDoor
namespace Rows

/-- THE TIED CARD OF 'groutworklaw04.StripCores'. -/
def stripCoresCard : Claim7 := { stood := { row := stripCoresRow, standIns := [], harness := (true, "672aec3f3b8406f77dd680cc51fcf4554ad5b3ce0d1d6569c319238d2dd7ad7a"), looks := true }, kinds := [], alts := [], laidByText := true, laidKinds := [.data, .data, .data, .data, .sentinel, .sentinel, .pinned], laidTests := true, laidLooks := .later }
def StripCoresCardSaid : Prop := Claim7.holds Tryd.pinned (.plain (OpenSpec.ofChange stripCoresSpec)) stripCoresCard

/-- THE TIED CARD OF 'groutworklaw04.StripOn'. -/
def stripOnCard : Claim7 := { stood := { row := stripOnRow, standIns := [], harness := (true, "672aec3f3b8406f77dd680cc51fcf4554ad5b3ce0d1d6569c319238d2dd7ad7a"), looks := true }, kinds := [], alts := [], laidByText := true, laidKinds := [.data, .data, .data, .data, .sentinel, .sentinel, .pinned], laidTests := true, laidLooks := .later }
def StripOnCardSaid : Prop := Claim7.holds Tryd.pinned (.plain (OpenSpec.ofChange stripOnSpec)) stripOnCard

/-- THE TIED CARD OF 'groutworklaw04.StripPaths'. -/
def stripPathsCard : Claim7 := { stood := { row := stripPathsRow, standIns := [], harness := (true, "672aec3f3b8406f77dd680cc51fcf4554ad5b3ce0d1d6569c319238d2dd7ad7a"), looks := true }, kinds := [], alts := [], laidByText := true, laidKinds := [.data, .data, .data, .data, .sentinel, .sentinel, .pinned], laidTests := true, laidLooks := .later }
def StripPathsCardSaid : Prop := Claim7.holds Tryd.pinned (.plain (OpenSpec.ofChange stripPathsSpec)) stripPathsCard

/-- THE TIED CARD OF 'groutworklaw04.StripCore'. -/
def stripCoreCard : Claim7 := { stood := { row := stripCoreRow, standIns := [], harness := (true, "672aec3f3b8406f77dd680cc51fcf4554ad5b3ce0d1d6569c319238d2dd7ad7a"), looks := true }, kinds := [], alts := [], laidByText := true, laidKinds := [.data, .data, .data, .data, .sentinel, .sentinel, .pinned], laidTests := true, laidLooks := .later }
def StripCoreCardSaid : Prop := Claim7.holds Tryd.pinned (.plain (OpenSpec.ofChange stripCoreSpec)) stripCoreCard

/-- THE TIED CARD OF 'groutworklaw04.StripRows'. -/
def stripRowsCard : Claim7 := { stood := { row := stripRowsRow, standIns := [], harness := (true, "672aec3f3b8406f77dd680cc51fcf4554ad5b3ce0d1d6569c319238d2dd7ad7a"), looks := true }, kinds := [], alts := [], laidByText := true, laidKinds := [.data, .data, .data, .data, .sentinel, .sentinel, .pinned], laidTests := true, laidLooks := .later }
def StripRowsCardSaid : Prop := Claim7.holds Tryd.pinned (.plain (OpenSpec.ofChange stripRowsSpec)) stripRowsCard

/-- THE SECOND FORM's CARD OF 'groutworklaw04.StripCores'. -/
def stripCoresUptoCard : Claim7 := { stood := { row := stripCoresUptoRow, standIns := [], harness := (true, "672aec3f3b8406f77dd680cc51fcf4554ad5b3ce0d1d6569c319238d2dd7ad7a"), looks := true }, kinds := [], alts := [], laidByText := true, laidKinds := [.data, .data, .data, .data, .sentinel, .sentinel, .pinned], laidTests := true, laidLooks := .later }
def StripCoresUptoCardSaid : Prop := Claim7.holds Tryd.pinned (.plain (OpenSpec.upto stripCoresSpec)) stripCoresUptoCard

/-- THE SECOND FORM's CARD OF 'groutworklaw04.StripOn'. -/
def stripOnUptoCard : Claim7 := { stood := { row := stripOnUptoRow, standIns := [], harness := (true, "672aec3f3b8406f77dd680cc51fcf4554ad5b3ce0d1d6569c319238d2dd7ad7a"), looks := true }, kinds := [], alts := [], laidByText := true, laidKinds := [.data, .data, .data, .data, .sentinel, .sentinel, .pinned], laidTests := true, laidLooks := .later }
def StripOnUptoCardSaid : Prop := Claim7.holds Tryd.pinned (.plain (OpenSpec.upto stripOnSpec)) stripOnUptoCard

/-- THE SECOND FORM's CARD OF 'groutworklaw04.StripPaths'. -/
def stripPathsUptoCard : Claim7 := { stood := { row := stripPathsUptoRow, standIns := [], harness := (true, "672aec3f3b8406f77dd680cc51fcf4554ad5b3ce0d1d6569c319238d2dd7ad7a"), looks := true }, kinds := [], alts := [], laidByText := true, laidKinds := [.data, .data, .data, .data, .sentinel, .sentinel, .pinned], laidTests := true, laidLooks := .later }
def StripPathsUptoCardSaid : Prop := Claim7.holds Tryd.pinned (.plain (OpenSpec.upto stripPathsSpec)) stripPathsUptoCard

/-- THE SECOND FORM's CARD OF 'groutworklaw04.StripCore'. -/
def stripCoreUptoCard : Claim7 := { stood := { row := stripCoreUptoRow, standIns := [], harness := (true, "672aec3f3b8406f77dd680cc51fcf4554ad5b3ce0d1d6569c319238d2dd7ad7a"), looks := true }, kinds := [], alts := [], laidByText := true, laidKinds := [.data, .data, .data, .data, .sentinel, .sentinel, .pinned], laidTests := true, laidLooks := .later }
def StripCoreUptoCardSaid : Prop := Claim7.holds Tryd.pinned (.plain (OpenSpec.upto stripCoreSpec)) stripCoreUptoCard

/-- THE SECOND FORM's CARD OF 'groutworklaw04.StripRows'. -/
def stripRowsUptoCard : Claim7 := { stood := { row := stripRowsUptoRow, standIns := [], harness := (true, "672aec3f3b8406f77dd680cc51fcf4554ad5b3ce0d1d6569c319238d2dd7ad7a"), looks := true }, kinds := [], alts := [], laidByText := true, laidKinds := [.data, .data, .data, .data, .sentinel, .sentinel, .pinned], laidTests := true, laidLooks := .later }
def StripRowsUptoCardSaid : Prop := Claim7.holds Tryd.pinned (.plain (OpenSpec.upto stripRowsSpec)) stripRowsUptoCard
end Rows
end Go.Proofs.YtchikbfmbfoaoaaDoor
