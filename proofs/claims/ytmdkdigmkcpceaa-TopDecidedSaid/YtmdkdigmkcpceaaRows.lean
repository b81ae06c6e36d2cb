/-
  No cell of these rows narrows 'for every input' (looked for: loops, veiled, ifaces, maps, wideKeys, modest, calm, conditions, laid).
  DERIVED. THE GIVEN ROWS OF THIS SEAT. 8 by the template 'for every input the law returns true; each argument reads behind the call as it read before'; 0 by the template 'total and deterministic' (their statements: YtmdkdigmkcpceaaTotals.lean).
  GIVEN WITH THE SEED: the statements are not yours to turn. If you find one false, say at which input.
  Laid BY PROGRAM, IN A SANDBOX (cutbox-rows.mjs): the forced cells as the released guide's own fill.sh prints them over the translation af899abdede17174… (all of the seat's roots in one cut). By AI agents, Wed Nov 11 2026. No macro, syntax, notation, axiom, sorry.
-/
import Derived.Test.YtmdkdigmkcpceaaChecked
import GoSem.Claim
import GoSem.ClaimJoined
import GoSem.ClaimMapViews
import Derived.JoinedTies
import Derived.KernelRfl
namespace Go.Proofs.Ytmdkdigmkcpceaa
/- THE CELL 'sum', in the pinned program and in every row, IS THE sha256 OF THE DUMP (.gsa) THAT YtmdkdigmkcpceaaProg.lean LOADS. Nothing in Lean hashes anything: it is a label: what it is worth is what the hold of that sum in a sandbox is worth. -/
noncomputable def Try.pinned : Pinned := { name := "ytmdkdigmkcpceaa", sum := "af899abdede17174aebdcfa157f721cd75d02589498531039897344ea6e79c9f", checked := Try.checked }
namespace Rows
def none {H : Type} : Left H := { results := [], args := [] }

/-- 'groutworklaw09.DecideMore': WHATEVER THE INPUT: true; the input reads as it did. -/
def decideMoreSpec : ChangeSpec := { name := "decideMore", fn := fun _ => fun
  | [d1, d2] => { results := [.lit (.bool true)], args := [d1, d2] }
  | _ => none }
def decideMoreRow : OpenClaim := { program := "ytmdkdigmkcpceaa", sum := "af899abdede17174aebdcfa157f721cd75d02589498531039897344ea6e79c9f", func := "groutwork/groutworklaw09.DecideMore", spec := "decideMore", unfollowed := true, recurses := true, plainKeys := false, apart := false }
def DecideMoreSaid : Prop := decideMoreRow.holds Try.pinned (OpenSpec.ofChange decideMoreSpec)

/-- ITS FALSE NEIGHBOUR: 'it returns false'. Refute it at one input. -/
def decideMoreWrong : ChangeSpec := { name := "decideMore", fn := fun _ => fun
  | [d1, d2] => { results := [.lit (.bool false)], args := [d1, d2] }
  | _ => none }
def DecideMoreWrongFalsely : Prop := decideMoreRow.holds Try.pinned (OpenSpec.ofChange decideMoreWrong)

/-- 'groutworklaw09.DecideTurned': WHATEVER THE INPUT: true; the input reads as it did. -/
def decideTurnedSpec : ChangeSpec := { name := "decideTurned", fn := fun _ => fun
  | [d1, d2] => { results := [.lit (.bool true)], args := [d1, d2] }
  | _ => none }
def decideTurnedRow : OpenClaim := { program := "ytmdkdigmkcpceaa", sum := "af899abdede17174aebdcfa157f721cd75d02589498531039897344ea6e79c9f", func := "groutwork/groutworklaw09.DecideTurned", spec := "decideTurned", unfollowed := true, recurses := true, plainKeys := false, apart := false }
def DecideTurnedSaid : Prop := decideTurnedRow.holds Try.pinned (OpenSpec.ofChange decideTurnedSpec)

/-- ITS FALSE NEIGHBOUR: 'it returns false'. Refute it at one input. -/
def decideTurnedWrong : ChangeSpec := { name := "decideTurned", fn := fun _ => fun
  | [d1, d2] => { results := [.lit (.bool false)], args := [d1, d2] }
  | _ => none }
def DecideTurnedWrongFalsely : Prop := decideTurnedRow.holds Try.pinned (OpenSpec.ofChange decideTurnedWrong)

/-- 'groutworklaw09.DecideChecks': WHATEVER THE INPUT: true; the input reads as it did. -/
def decideChecksSpec : ChangeSpec := { name := "decideChecks", fn := fun _ => fun
  | [d1, d2] => { results := [.lit (.bool true)], args := [d1, d2] }
  | _ => none }
def decideChecksRow : OpenClaim := { program := "ytmdkdigmkcpceaa", sum := "af899abdede17174aebdcfa157f721cd75d02589498531039897344ea6e79c9f", func := "groutwork/groutworklaw09.DecideChecks", spec := "decideChecks", unfollowed := true, recurses := true, plainKeys := false, apart := false }
def DecideChecksSaid : Prop := decideChecksRow.holds Try.pinned (OpenSpec.ofChange decideChecksSpec)

/-- ITS FALSE NEIGHBOUR: 'it returns false'. Refute it at one input. -/
def decideChecksWrong : ChangeSpec := { name := "decideChecks", fn := fun _ => fun
  | [d1, d2] => { results := [.lit (.bool false)], args := [d1, d2] }
  | _ => none }
def DecideChecksWrongFalsely : Prop := decideChecksRow.holds Try.pinned (OpenSpec.ofChange decideChecksWrong)

/-- 'groutworklaw09.DecideSide': WHATEVER THE INPUT: true; the input reads as it did. -/
def decideSideSpec : ChangeSpec := { name := "decideSide", fn := fun _ => fun
  | [d1, d2, d3] => { results := [.lit (.bool true)], args := [d1, d2, d3] }
  | _ => none }
def decideSideRow : OpenClaim := { program := "ytmdkdigmkcpceaa", sum := "af899abdede17174aebdcfa157f721cd75d02589498531039897344ea6e79c9f", func := "groutwork/groutworklaw09.DecideSide", spec := "decideSide", unfollowed := true, recurses := true, plainKeys := false, apart := false }
def DecideSideSaid : Prop := decideSideRow.holds Try.pinned (OpenSpec.ofChange decideSideSpec)

/-- ITS FALSE NEIGHBOUR: 'it returns false'. Refute it at one input. -/
def decideSideWrong : ChangeSpec := { name := "decideSide", fn := fun _ => fun
  | [d1, d2, d3] => { results := [.lit (.bool false)], args := [d1, d2, d3] }
  | _ => none }
def DecideSideWrongFalsely : Prop := decideSideRow.holds Try.pinned (OpenSpec.ofChange decideSideWrong)

/-- 'groutworklaw09.DecideVerdicts': WHATEVER THE INPUT: true; the input reads as it did. -/
def decideVerdictsSpec : ChangeSpec := { name := "decideVerdicts", fn := fun _ => fun
  | [d] => { results := [.lit (.bool true)], args := [d] }
  | _ => none }
def decideVerdictsRow : OpenClaim := { program := "ytmdkdigmkcpceaa", sum := "af899abdede17174aebdcfa157f721cd75d02589498531039897344ea6e79c9f", func := "groutwork/groutworklaw09.DecideVerdicts", spec := "decideVerdicts", unfollowed := true, recurses := true, plainKeys := false, apart := false }
def DecideVerdictsSaid : Prop := decideVerdictsRow.holds Try.pinned (OpenSpec.ofChange decideVerdictsSpec)

/-- ITS FALSE NEIGHBOUR: 'it returns false'. Refute it at one input. -/
def decideVerdictsWrong : ChangeSpec := { name := "decideVerdicts", fn := fun _ => fun
  | [d] => { results := [.lit (.bool false)], args := [d] }
  | _ => none }
def DecideVerdictsWrongFalsely : Prop := decideVerdictsRow.holds Try.pinned (OpenSpec.ofChange decideVerdictsWrong)

/-- 'groutworktop.TopSquares': WHATEVER THE INPUT: true; the input reads as it did. -/
def topSquaresSpec : ChangeSpec := { name := "topSquares", fn := fun _ => fun
  | [d1, d2, d3] => { results := [.lit (.bool true)], args := [d1, d2, d3] }
  | _ => none }
def topSquaresRow : OpenClaim := { program := "ytmdkdigmkcpceaa", sum := "af899abdede17174aebdcfa157f721cd75d02589498531039897344ea6e79c9f", func := "groutwork/groutworktop.TopSquares", spec := "topSquares", unfollowed := true, recurses := true, plainKeys := false, apart := false }
def TopSquaresSaid : Prop := topSquaresRow.holds Try.pinned (OpenSpec.ofChange topSquaresSpec)

/-- ITS FALSE NEIGHBOUR: 'it returns false'. Refute it at one input. -/
def topSquaresWrong : ChangeSpec := { name := "topSquares", fn := fun _ => fun
  | [d1, d2, d3] => { results := [.lit (.bool false)], args := [d1, d2, d3] }
  | _ => none }
def TopSquaresWrongFalsely : Prop := topSquaresRow.holds Try.pinned (OpenSpec.ofChange topSquaresWrong)

/-- 'groutworktop.TopDecided': WHATEVER THE INPUT: true; the input reads as it did. -/
def topDecidedSpec : ChangeSpec := { name := "topDecided", fn := fun _ => fun
  | [d1, d2, d3] => { results := [.lit (.bool true)], args := [d1, d2, d3] }
  | _ => none }
def topDecidedRow : OpenClaim := { program := "ytmdkdigmkcpceaa", sum := "af899abdede17174aebdcfa157f721cd75d02589498531039897344ea6e79c9f", func := "groutwork/groutworktop.TopDecided", spec := "topDecided", unfollowed := true, recurses := true, plainKeys := false, apart := false }
def TopDecidedSaid : Prop := topDecidedRow.holds Try.pinned (OpenSpec.ofChange topDecidedSpec)

/-- ITS FALSE NEIGHBOUR: 'it returns false'. Refute it at one input. -/
def topDecidedWrong : ChangeSpec := { name := "topDecided", fn := fun _ => fun
  | [d1, d2, d3] => { results := [.lit (.bool false)], args := [d1, d2, d3] }
  | _ => none }
def TopDecidedWrongFalsely : Prop := topDecidedRow.holds Try.pinned (OpenSpec.ofChange topDecidedWrong)

/-- 'groutworktop.TopNames': WHATEVER THE INPUT: true; the input reads as it did. -/
def topNamesSpec : ChangeSpec := { name := "topNames", fn := fun _ => fun
  | [d1, d2, d3] => { results := [.lit (.bool true)], args := [d1, d2, d3] }
  | _ => none }
def topNamesRow : OpenClaim := { program := "ytmdkdigmkcpceaa", sum := "af899abdede17174aebdcfa157f721cd75d02589498531039897344ea6e79c9f", func := "groutwork/groutworktop.TopNames", spec := "topNames", unfollowed := true, recurses := true, plainKeys := false, apart := false }
def TopNamesSaid : Prop := topNamesRow.holds Try.pinned (OpenSpec.ofChange topNamesSpec)

/-- ITS FALSE NEIGHBOUR: 'it returns false'. Refute it at one input. -/
def topNamesWrong : ChangeSpec := { name := "topNames", fn := fun _ => fun
  | [d1, d2, d3] => { results := [.lit (.bool false)], args := [d1, d2, d3] }
  | _ => none }
def TopNamesWrongFalsely : Prop := topNamesRow.holds Try.pinned (OpenSpec.ofChange topNamesWrong)

/- THE SECOND FORM. 'bulk': how many values and letters a reading holds, each counted each time it is reached (what is shared counts as often as it is met; a slice's spare places count too). A statement '..UptoSaid' is the law's where the arguments, and the package variables that the reading takes, are together of bulk at most 1048576: NARROWER than '..Said'. Prove '..Said' where nothing that the law and all that it calls make is longer than what came in: it says more and counts as full. Else prove '..UptoSaid'. A law counts once. -/
mutual
def uptoBulk {H : Type} : DataW H → Nat
  | .lit (.string bytes) => bytes.length + 1
  | .lit _ => 1
  | .nil => 1
  | .ptr d => uptoBulk d + 1
  | .slice elems spare => uptoBulkAll elems + uptoBulkAll spare + 1
  | .agg parts => uptoBulkAll parts + 1
  | .iface _ d => uptoBulk d + 1
  | .map entries => uptoBulkEntries entries + 1
  | .held _ => 1
def uptoBulkAll {H : Type} : List (DataW H) → Nat
  | [] => 0
  | d :: r => uptoBulk d + uptoBulkAll r
def uptoBulkEntries {H : Type} : List (Lit × DataW H) → Nat
  | [] => 0
  | x :: r => uptoBulkEntry x + uptoBulkEntries r
def uptoBulkEntry {H : Type} : Lit × DataW H → Nat
  | (.string bytes, d) => bytes.length + uptoBulk d + 1
  | (_, d) => uptoBulk d + 1
 end
def uptoSmall : (H : Type) → List (DataW H) → Bool := fun _ ds => decide (uptoBulkAll ds ≤ 1048576)
def OpenSpec.upto (s : _root_.Go.ChangeSpec) : _root_.Go.OpenSpec := { _root_.Go.OpenSpec.ofChange s with cond := some uptoSmall }

/-- 'groutworklaw09.DecideMore', WHERE WHAT IT READS IS OF BULK AT MOST 1048576: true; the input reads as it did. -/
def decideMoreUptoRow : OpenClaim := { program := "ytmdkdigmkcpceaa", sum := "af899abdede17174aebdcfa157f721cd75d02589498531039897344ea6e79c9f", func := "groutwork/groutworklaw09.DecideMore", spec := "decideMore", unfollowed := true, recurses := true, plainKeys := false, apart := false, narrowed := true }
def DecideMoreUptoSaid : Prop := decideMoreUptoRow.holds Try.pinned (OpenSpec.upto decideMoreSpec)

/-- 'groutworklaw09.DecideTurned', WHERE WHAT IT READS IS OF BULK AT MOST 1048576: true; the input reads as it did. -/
def decideTurnedUptoRow : OpenClaim := { program := "ytmdkdigmkcpceaa", sum := "af899abdede17174aebdcfa157f721cd75d02589498531039897344ea6e79c9f", func := "groutwork/groutworklaw09.DecideTurned", spec := "decideTurned", unfollowed := true, recurses := true, plainKeys := false, apart := false, narrowed := true }
def DecideTurnedUptoSaid : Prop := decideTurnedUptoRow.holds Try.pinned (OpenSpec.upto decideTurnedSpec)

/-- 'groutworklaw09.DecideChecks', WHERE WHAT IT READS IS OF BULK AT MOST 1048576: true; the input reads as it did. -/
def decideChecksUptoRow : OpenClaim := { program := "ytmdkdigmkcpceaa", sum := "af899abdede17174aebdcfa157f721cd75d02589498531039897344ea6e79c9f", func := "groutwork/groutworklaw09.DecideChecks", spec := "decideChecks", unfollowed := true, recurses := true, plainKeys := false, apart := false, narrowed := true }
def DecideChecksUptoSaid : Prop := decideChecksUptoRow.holds Try.pinned (OpenSpec.upto decideChecksSpec)

/-- 'groutworklaw09.DecideSide', WHERE WHAT IT READS IS OF BULK AT MOST 1048576: true; the input reads as it did. -/
def decideSideUptoRow : OpenClaim := { program := "ytmdkdigmkcpceaa", sum := "af899abdede17174aebdcfa157f721cd75d02589498531039897344ea6e79c9f", func := "groutwork/groutworklaw09.DecideSide", spec := "decideSide", unfollowed := true, recurses := true, plainKeys := false, apart := false, narrowed := true }
def DecideSideUptoSaid : Prop := decideSideUptoRow.holds Try.pinned (OpenSpec.upto decideSideSpec)

/-- 'groutworklaw09.DecideVerdicts', WHERE WHAT IT READS IS OF BULK AT MOST 1048576: true; the input reads as it did. -/
def decideVerdictsUptoRow : OpenClaim := { program := "ytmdkdigmkcpceaa", sum := "af899abdede17174aebdcfa157f721cd75d02589498531039897344ea6e79c9f", func := "groutwork/groutworklaw09.DecideVerdicts", spec := "decideVerdicts", unfollowed := true, recurses := true, plainKeys := false, apart := false, narrowed := true }
def DecideVerdictsUptoSaid : Prop := decideVerdictsUptoRow.holds Try.pinned (OpenSpec.upto decideVerdictsSpec)

/-- 'groutworktop.TopSquares', WHERE WHAT IT READS IS OF BULK AT MOST 1048576: true; the input reads as it did. -/
def topSquaresUptoRow : OpenClaim := { program := "ytmdkdigmkcpceaa", sum := "af899abdede17174aebdcfa157f721cd75d02589498531039897344ea6e79c9f", func := "groutwork/groutworktop.TopSquares", spec := "topSquares", unfollowed := true, recurses := true, plainKeys := false, apart := false, narrowed := true }
def TopSquaresUptoSaid : Prop := topSquaresUptoRow.holds Try.pinned (OpenSpec.upto topSquaresSpec)

/-- 'groutworktop.TopDecided', WHERE WHAT IT READS IS OF BULK AT MOST 1048576: true; the input reads as it did. -/
def topDecidedUptoRow : OpenClaim := { program := "ytmdkdigmkcpceaa", sum := "af899abdede17174aebdcfa157f721cd75d02589498531039897344ea6e79c9f", func := "groutwork/groutworktop.TopDecided", spec := "topDecided", unfollowed := true, recurses := true, plainKeys := false, apart := false, narrowed := true }
def TopDecidedUptoSaid : Prop := topDecidedUptoRow.holds Try.pinned (OpenSpec.upto topDecidedSpec)

/-- 'groutworktop.TopNames', WHERE WHAT IT READS IS OF BULK AT MOST 1048576: true; the input reads as it did. -/
def topNamesUptoRow : OpenClaim := { program := "ytmdkdigmkcpceaa", sum := "af899abdede17174aebdcfa157f721cd75d02589498531039897344ea6e79c9f", func := "groutwork/groutworktop.TopNames", spec := "topNames", unfollowed := true, recurses := true, plainKeys := false, apart := false, narrowed := true }
def TopNamesUptoSaid : Prop := topNamesUptoRow.holds Try.pinned (OpenSpec.upto topNamesSpec)

end Rows
end Go.Proofs.Ytmdkdigmkcpceaa
