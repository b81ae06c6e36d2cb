/-
  No cell of these rows narrows 'for every input' (looked for: loops, veiled, ifaces, maps, wideKeys, modest, calm, conditions, laid).
  DERIVED. THE GIVEN ROWS OF THIS SEAT. 5 by the template 'for every input the law returns true; each argument reads behind the call as it read before'; 0 by the template 'total and deterministic' (their statements: YtdjkmioemobdbaaGreatTotals.lean).
  GIVEN WITH THE SEED: the statements are not yours to turn. If you find one false, say at which input.
  Laid BY PROGRAM, IN A SANDBOX (cutbox-rows.mjs): the forced cells as the released guide's own fill.sh prints them over the translation f8e8c6b7e494c038… (all of the seat's roots in one cut). By AI agents, Wed Nov 11 2026. No macro, syntax, notation, axiom, sorry.
-/
import Derived.Test.YtdjkmioemobdbaaGreatChecked
import GoSem.Claim
import GoSem.ClaimJoined
import GoSem.ClaimMapViews
import Derived.JoinedTies
import Derived.KernelRfl
namespace Go.Proofs.YtdjkmioemobdbaaGreat
/- THE CELL 'sum', in the pinned program and in every row, IS THE sha256 OF THE DUMP (.gsa) THAT YtdjkmioemobdbaaGreatProg.lean LOADS. Nothing in Lean hashes anything: it is a label: what it is worth is what the hold of that sum in a sandbox is worth. -/
noncomputable def Tryz.pinned : Pinned := { name := "ytdjkmioemobdbaagreat", sum := "f8e8c6b7e494c0381bcadad6d0dc5e771ea52ff2695fb82f9f39773929000292", checked := Tryz.checked }
namespace Rows
def none {H : Type} : Left H := { results := [], args := [] }

/-- 'groutworklaw07.BeattyTiles': WHATEVER THE INPUT: true; the input reads as it did. -/
def beattyTilesSpec : ChangeSpec := { name := "beattyTiles", fn := fun _ => fun
  | [d] => { results := [.lit (.bool true)], args := [d] }
  | _ => none }
def beattyTilesRow : OpenClaim := { program := "ytdjkmioemobdbaagreat", sum := "f8e8c6b7e494c0381bcadad6d0dc5e771ea52ff2695fb82f9f39773929000292", func := "groutwork/groutworklaw07.BeattyTiles", spec := "beattyTiles", unfollowed := true, recurses := true, plainKeys := false, apart := false }
def BeattyTilesSaid : Prop := beattyTilesRow.holds Tryz.pinned (OpenSpec.ofChange beattyTilesSpec)

/-- ITS FALSE NEIGHBOUR: 'it returns false'. Refute it at one input. -/
def beattyTilesWrong : ChangeSpec := { name := "beattyTiles", fn := fun _ => fun
  | [d] => { results := [.lit (.bool false)], args := [d] }
  | _ => none }
def BeattyTilesWrongFalsely : Prop := beattyTilesRow.holds Tryz.pinned (OpenSpec.ofChange beattyTilesWrong)

/-- 'groutworklaw07.BeattyWeighs': WHATEVER THE INPUT: true; the input reads as it did. -/
def beattyWeighsSpec : ChangeSpec := { name := "beattyWeighs", fn := fun _ => fun
  | [d] => { results := [.lit (.bool true)], args := [d] }
  | _ => none }
def beattyWeighsRow : OpenClaim := { program := "ytdjkmioemobdbaagreat", sum := "f8e8c6b7e494c0381bcadad6d0dc5e771ea52ff2695fb82f9f39773929000292", func := "groutwork/groutworklaw07.BeattyWeighs", spec := "beattyWeighs", unfollowed := true, recurses := true, plainKeys := false, apart := false }
def BeattyWeighsSaid : Prop := beattyWeighsRow.holds Tryz.pinned (OpenSpec.ofChange beattyWeighsSpec)

/-- ITS FALSE NEIGHBOUR: 'it returns false'. Refute it at one input. -/
def beattyWeighsWrong : ChangeSpec := { name := "beattyWeighs", fn := fun _ => fun
  | [d] => { results := [.lit (.bool false)], args := [d] }
  | _ => none }
def BeattyWeighsWrongFalsely : Prop := beattyWeighsRow.holds Tryz.pinned (OpenSpec.ofChange beattyWeighsWrong)

/-- 'groutworklaw07.BeattyOrbits': WHATEVER THE INPUT: true; the input reads as it did. -/
def beattyOrbitsSpec : ChangeSpec := { name := "beattyOrbits", fn := fun _ => fun
  | [d1, d2, d3, d4] => { results := [.lit (.bool true)], args := [d1, d2, d3, d4] }
  | _ => none }
def beattyOrbitsRow : OpenClaim := { program := "ytdjkmioemobdbaagreat", sum := "f8e8c6b7e494c0381bcadad6d0dc5e771ea52ff2695fb82f9f39773929000292", func := "groutwork/groutworklaw07.BeattyOrbits", spec := "beattyOrbits", unfollowed := true, recurses := true, named := ["math/bits.divideError", "math/bits.overflowError"], plainKeys := false, apart := false }
def BeattyOrbitsSaid : Prop := beattyOrbitsRow.holds Tryz.pinned (OpenSpec.ofChange beattyOrbitsSpec)

/-- ITS FALSE NEIGHBOUR: 'it returns false'. Refute it at one input. -/
def beattyOrbitsWrong : ChangeSpec := { name := "beattyOrbits", fn := fun _ => fun
  | [d1, d2, d3, d4] => { results := [.lit (.bool false)], args := [d1, d2, d3, d4] }
  | _ => none }
def BeattyOrbitsWrongFalsely : Prop := beattyOrbitsRow.holds Tryz.pinned (OpenSpec.ofChange beattyOrbitsWrong)

/-- 'groutworklaw07.BeattyClosed': WHATEVER THE INPUT: true; the input reads as it did. -/
def beattyClosedSpec : ChangeSpec := { name := "beattyClosed", fn := fun _ => fun
  | [d1, d2, d3, d4] => { results := [.lit (.bool true)], args := [d1, d2, d3, d4] }
  | _ => none }
def beattyClosedRow : OpenClaim := { program := "ytdjkmioemobdbaagreat", sum := "f8e8c6b7e494c0381bcadad6d0dc5e771ea52ff2695fb82f9f39773929000292", func := "groutwork/groutworklaw07.BeattyClosed", spec := "beattyClosed", unfollowed := true, recurses := true, named := ["math/bits.divideError", "math/bits.overflowError"], plainKeys := false, apart := false }
def BeattyClosedSaid : Prop := beattyClosedRow.holds Tryz.pinned (OpenSpec.ofChange beattyClosedSpec)

/-- ITS FALSE NEIGHBOUR: 'it returns false'. Refute it at one input. -/
def beattyClosedWrong : ChangeSpec := { name := "beattyClosed", fn := fun _ => fun
  | [d1, d2, d3, d4] => { results := [.lit (.bool false)], args := [d1, d2, d3, d4] }
  | _ => none }
def BeattyClosedWrongFalsely : Prop := beattyClosedRow.holds Tryz.pinned (OpenSpec.ofChange beattyClosedWrong)

/-- 'groutworklaw07.BeattyRows': WHATEVER THE INPUT: true; the input reads as it did. -/
def beattyRowsSpec : ChangeSpec := { name := "beattyRows", fn := fun _ => fun
  | [d1, d2, d3, d4] => { results := [.lit (.bool true)], args := [d1, d2, d3, d4] }
  | _ => none }
def beattyRowsRow : OpenClaim := { program := "ytdjkmioemobdbaagreat", sum := "f8e8c6b7e494c0381bcadad6d0dc5e771ea52ff2695fb82f9f39773929000292", func := "groutwork/groutworklaw07.BeattyRows", spec := "beattyRows", unfollowed := true, recurses := true, named := ["math/bits.divideError", "math/bits.overflowError"], plainKeys := false, apart := false }
def BeattyRowsSaid : Prop := beattyRowsRow.holds Tryz.pinned (OpenSpec.ofChange beattyRowsSpec)

/-- ITS FALSE NEIGHBOUR: 'it returns false'. Refute it at one input. -/
def beattyRowsWrong : ChangeSpec := { name := "beattyRows", fn := fun _ => fun
  | [d1, d2, d3, d4] => { results := [.lit (.bool false)], args := [d1, d2, d3, d4] }
  | _ => none }
def BeattyRowsWrongFalsely : Prop := beattyRowsRow.holds Tryz.pinned (OpenSpec.ofChange beattyRowsWrong)

/- THE SECOND FORM. 'bulk': how many values and letters a reading holds, each counted each time it is reached (what is shared counts as often as it is met; a slice's spare places count too). A statement '..UptoSaid' is the law's where the arguments, and the package variables that the reading takes, are together of bulk at most 1048576: NARROWER than '..Said'. Prove '..Said' where nothing that the law and all that it calls make is longer than what came in: it says more and counts as full. Else prove '..UptoSaid'. A law counts once. -/
mutual
def uptoBulk {H : Type} : DataW H → Nat
  | .lit (.string bytes) => bytes.length + 1
  | .lit _ => 1
  | .nil => 1
  | .ptr d => uptoBulk d + 1
  | .slice elems spare => uptoBulkAll elems + uptoBulkAll spare + 1
  | .agg parts => uptoBulkAll parts + 1
  | .iface _ d => uptoBulk d + 1
  | .map entries => uptoBulkEntries entries + 1
  | .held _ => 1
def uptoBulkAll {H : Type} : List (DataW H) → Nat
  | [] => 0
  | d :: r => uptoBulk d + uptoBulkAll r
def uptoBulkEntries {H : Type} : List (Lit × DataW H) → Nat
  | [] => 0
  | x :: r => uptoBulkEntry x + uptoBulkEntries r
def uptoBulkEntry {H : Type} : Lit × DataW H → Nat
  | (.string bytes, d) => bytes.length + uptoBulk d + 1
  | (_, d) => uptoBulk d + 1
 end
def uptoSmall : (H : Type) → List (DataW H) → Bool := fun _ ds => decide (uptoBulkAll ds ≤ 1048576)
def OpenSpec.upto (s : _root_.Go.ChangeSpec) : _root_.Go.OpenSpec := { _root_.Go.OpenSpec.ofChange s with cond := some uptoSmall }

/-- 'groutworklaw07.BeattyTiles', WHERE WHAT IT READS IS OF BULK AT MOST 1048576: true; the input reads as it did. -/
def beattyTilesUptoRow : OpenClaim := { program := "ytdjkmioemobdbaagreat", sum := "f8e8c6b7e494c0381bcadad6d0dc5e771ea52ff2695fb82f9f39773929000292", func := "groutwork/groutworklaw07.BeattyTiles", spec := "beattyTiles", unfollowed := true, recurses := true, plainKeys := false, apart := false, narrowed := true }
def BeattyTilesUptoSaid : Prop := beattyTilesUptoRow.holds Tryz.pinned (OpenSpec.upto beattyTilesSpec)

/-- 'groutworklaw07.BeattyWeighs', WHERE WHAT IT READS IS OF BULK AT MOST 1048576: true; the input reads as it did. -/
def beattyWeighsUptoRow : OpenClaim := { program := "ytdjkmioemobdbaagreat", sum := "f8e8c6b7e494c0381bcadad6d0dc5e771ea52ff2695fb82f9f39773929000292", func := "groutwork/groutworklaw07.BeattyWeighs", spec := "beattyWeighs", unfollowed := true, recurses := true, plainKeys := false, apart := false, narrowed := true }
def BeattyWeighsUptoSaid : Prop := beattyWeighsUptoRow.holds Tryz.pinned (OpenSpec.upto beattyWeighsSpec)

/-- 'groutworklaw07.BeattyOrbits', WHERE WHAT IT READS IS OF BULK AT MOST 1048576: true; the input reads as it did. -/
def beattyOrbitsUptoRow : OpenClaim := { program := "ytdjkmioemobdbaagreat", sum := "f8e8c6b7e494c0381bcadad6d0dc5e771ea52ff2695fb82f9f39773929000292", func := "groutwork/groutworklaw07.BeattyOrbits", spec := "beattyOrbits", unfollowed := true, recurses := true, named := ["math/bits.divideError", "math/bits.overflowError"], plainKeys := false, apart := false, narrowed := true }
def BeattyOrbitsUptoSaid : Prop := beattyOrbitsUptoRow.holds Tryz.pinned (OpenSpec.upto beattyOrbitsSpec)

/-- 'groutworklaw07.BeattyClosed', WHERE WHAT IT READS IS OF BULK AT MOST 1048576: true; the input reads as it did. -/
def beattyClosedUptoRow : OpenClaim := { program := "ytdjkmioemobdbaagreat", sum := "f8e8c6b7e494c0381bcadad6d0dc5e771ea52ff2695fb82f9f39773929000292", func := "groutwork/groutworklaw07.BeattyClosed", spec := "beattyClosed", unfollowed := true, recurses := true, named := ["math/bits.divideError", "math/bits.overflowError"], plainKeys := false, apart := false, narrowed := true }
def BeattyClosedUptoSaid : Prop := beattyClosedUptoRow.holds Tryz.pinned (OpenSpec.upto beattyClosedSpec)

/-- 'groutworklaw07.BeattyRows', WHERE WHAT IT READS IS OF BULK AT MOST 1048576: true; the input reads as it did. -/
def beattyRowsUptoRow : OpenClaim := { program := "ytdjkmioemobdbaagreat", sum := "f8e8c6b7e494c0381bcadad6d0dc5e771ea52ff2695fb82f9f39773929000292", func := "groutwork/groutworklaw07.BeattyRows", spec := "beattyRows", unfollowed := true, recurses := true, named := ["math/bits.divideError", "math/bits.overflowError"], plainKeys := false, apart := false, narrowed := true }
def BeattyRowsUptoSaid : Prop := beattyRowsUptoRow.holds Tryz.pinned (OpenSpec.upto beattyRowsSpec)

end Rows
end Go.Proofs.YtdjkmioemobdbaaGreat
