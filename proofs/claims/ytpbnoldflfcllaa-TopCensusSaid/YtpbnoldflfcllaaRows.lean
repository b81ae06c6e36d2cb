/-
  No cell of these rows narrows 'for every input' (looked for: loops, veiled, ifaces, maps, wideKeys, modest, calm, conditions, laid).
  DERIVED. THE GIVEN ROWS OF THIS SEAT. 5 by the template 'for every input the law returns true; each argument reads behind the call as it read before'; 0 by the template 'total and deterministic' (their statements: YtpbnoldflfcllaaTotals.lean).
  GIVEN WITH THE SEED: the statements are not yours to turn. If you find one false, say at which input.
  Laid BY PROGRAM, IN A SANDBOX (cutbox-rows.mjs): the forced cells as the released guide's own fill.sh prints them over the translation f7821ccf07d9b4e9… (all of the seat's roots in one cut). By AI agents, Wed Nov 11 2026. No macro, syntax, notation, axiom, sorry.
-/
import Derived.Test.YtpbnoldflfcllaaChecked
import GoSem.Claim
import GoSem.ClaimJoined
import GoSem.ClaimMapViews
import Derived.JoinedTies
import Derived.KernelRfl
namespace Go.Proofs.Ytpbnoldflfcllaa
/- THE CELL 'sum', in the pinned program and in every row, IS THE sha256 OF THE DUMP (.gsa) THAT YtpbnoldflfcllaaProg.lean LOADS. Nothing in Lean hashes anything: it is a label: what it is worth is what the hold of that sum in a sandbox is worth. -/
noncomputable def Try.pinned : Pinned := { name := "ytpbnoldflfcllaa", sum := "f7821ccf07d9b4e9d9b4223a14ae2fc888ca0fd18317948f22ade38ea95c6481", checked := Try.checked }
namespace Rows
def none {H : Type} : Left H := { results := [], args := [] }

/-- 'groutworklaw10.CensusAll': WHATEVER THE INPUT: true; the input reads as it did. -/
def censusAllSpec : ChangeSpec := { name := "censusAll", fn := fun _ => fun
  | [d] => { results := [.lit (.bool true)], args := [d] }
  | _ => none }
def censusAllRow : OpenClaim := { program := "ytpbnoldflfcllaa", sum := "f7821ccf07d9b4e9d9b4223a14ae2fc888ca0fd18317948f22ade38ea95c6481", func := "groutwork/groutworklaw10.CensusAll", spec := "censusAll", unfollowed := true, recurses := true, plainKeys := false, apart := false }
def CensusAllSaid : Prop := censusAllRow.holds Try.pinned (OpenSpec.ofChange censusAllSpec)

/-- ITS FALSE NEIGHBOUR: 'it returns false'. Refute it at one input. -/
def censusAllWrong : ChangeSpec := { name := "censusAll", fn := fun _ => fun
  | [d] => { results := [.lit (.bool false)], args := [d] }
  | _ => none }
def CensusAllWrongFalsely : Prop := censusAllRow.holds Try.pinned (OpenSpec.ofChange censusAllWrong)

/-- 'groutworklaw10.CensusCount': WHATEVER THE INPUT: true; the input reads as it did. -/
def censusCountSpec : ChangeSpec := { name := "censusCount", fn := fun _ => fun
  | [d] => { results := [.lit (.bool true)], args := [d] }
  | _ => none }
def censusCountRow : OpenClaim := { program := "ytpbnoldflfcllaa", sum := "f7821ccf07d9b4e9d9b4223a14ae2fc888ca0fd18317948f22ade38ea95c6481", func := "groutwork/groutworklaw10.CensusCount", spec := "censusCount", unfollowed := true, recurses := true, plainKeys := false, apart := false }
def CensusCountSaid : Prop := censusCountRow.holds Try.pinned (OpenSpec.ofChange censusCountSpec)

/-- ITS FALSE NEIGHBOUR: 'it returns false'. Refute it at one input. -/
def censusCountWrong : ChangeSpec := { name := "censusCount", fn := fun _ => fun
  | [d] => { results := [.lit (.bool false)], args := [d] }
  | _ => none }
def CensusCountWrongFalsely : Prop := censusCountRow.holds Try.pinned (OpenSpec.ofChange censusCountWrong)

/-- 'groutworklaw10.CensusCanon': WHATEVER THE INPUT: true; the input reads as it did. -/
def censusCanonSpec : ChangeSpec := { name := "censusCanon", fn := fun _ => fun
  | [d1, d2] => { results := [.lit (.bool true)], args := [d1, d2] }
  | _ => none }
def censusCanonRow : OpenClaim := { program := "ytpbnoldflfcllaa", sum := "f7821ccf07d9b4e9d9b4223a14ae2fc888ca0fd18317948f22ade38ea95c6481", func := "groutwork/groutworklaw10.CensusCanon", spec := "censusCanon", unfollowed := true, recurses := true, plainKeys := false, apart := false }
def CensusCanonSaid : Prop := censusCanonRow.holds Try.pinned (OpenSpec.ofChange censusCanonSpec)

/-- ITS FALSE NEIGHBOUR: 'it returns false'. Refute it at one input. -/
def censusCanonWrong : ChangeSpec := { name := "censusCanon", fn := fun _ => fun
  | [d1, d2] => { results := [.lit (.bool false)], args := [d1, d2] }
  | _ => none }
def CensusCanonWrongFalsely : Prop := censusCanonRow.holds Try.pinned (OpenSpec.ofChange censusCanonWrong)

/-- 'groutworklaw10.CensusMember': WHATEVER THE INPUT: true; the input reads as it did. -/
def censusMemberSpec : ChangeSpec := { name := "censusMember", fn := fun _ => fun
  | [d] => { results := [.lit (.bool true)], args := [d] }
  | _ => none }
def censusMemberRow : OpenClaim := { program := "ytpbnoldflfcllaa", sum := "f7821ccf07d9b4e9d9b4223a14ae2fc888ca0fd18317948f22ade38ea95c6481", func := "groutwork/groutworklaw10.CensusMember", spec := "censusMember", unfollowed := true, recurses := true, plainKeys := false, apart := false }
def CensusMemberSaid : Prop := censusMemberRow.holds Try.pinned (OpenSpec.ofChange censusMemberSpec)

/-- ITS FALSE NEIGHBOUR: 'it returns false'. Refute it at one input. -/
def censusMemberWrong : ChangeSpec := { name := "censusMember", fn := fun _ => fun
  | [d] => { results := [.lit (.bool false)], args := [d] }
  | _ => none }
def CensusMemberWrongFalsely : Prop := censusMemberRow.holds Try.pinned (OpenSpec.ofChange censusMemberWrong)

/-- 'groutworktop.TopCensus': WHATEVER THE INPUT: true; the input reads as it did. -/
def topCensusSpec : ChangeSpec := { name := "topCensus", fn := fun _ => fun
  | [] => { results := [.lit (.bool true)], args := [] }
  | _ => none }
def topCensusRow : OpenClaim := { program := "ytpbnoldflfcllaa", sum := "f7821ccf07d9b4e9d9b4223a14ae2fc888ca0fd18317948f22ade38ea95c6481", func := "groutwork/groutworktop.TopCensus", spec := "topCensus", unfollowed := true, recurses := true, plainKeys := false, apart := false }
def TopCensusSaid : Prop := topCensusRow.holds Try.pinned (OpenSpec.ofChange topCensusSpec)

/-- ITS FALSE NEIGHBOUR: 'it returns false'. Refute it at one input. -/
def topCensusWrong : ChangeSpec := { name := "topCensus", fn := fun _ => fun
  | [] => { results := [.lit (.bool false)], args := [] }
  | _ => none }
def TopCensusWrongFalsely : Prop := topCensusRow.holds Try.pinned (OpenSpec.ofChange topCensusWrong)

/- THE SECOND FORM. 'bulk': how many values and letters a reading holds, each counted each time it is reached (what is shared counts as often as it is met; a slice's spare places count too). A statement '..UptoSaid' is the law's where the arguments, and the package variables that the reading takes, are together of bulk at most 1048576: NARROWER than '..Said'. Prove '..Said' where nothing that the law and all that it calls make is longer than what came in: it says more and counts as full. Else prove '..UptoSaid'. A law counts once. -/
mutual
def uptoBulk {H : Type} : DataW H → Nat
  | .lit (.string bytes) => bytes.length + 1
  | .lit _ => 1
  | .nil => 1
  | .ptr d => uptoBulk d + 1
  | .slice elems spare => uptoBulkAll elems + uptoBulkAll spare + 1
  | .agg parts => uptoBulkAll parts + 1
  | .iface _ d => uptoBulk d + 1
  | .map entries => uptoBulkEntries entries + 1
  | .held _ => 1
def uptoBulkAll {H : Type} : List (DataW H) → Nat
  | [] => 0
  | d :: r => uptoBulk d + uptoBulkAll r
def uptoBulkEntries {H : Type} : List (Lit × DataW H) → Nat
  | [] => 0
  | x :: r => uptoBulkEntry x + uptoBulkEntries r
def uptoBulkEntry {H : Type} : Lit × DataW H → Nat
  | (.string bytes, d) => bytes.length + uptoBulk d + 1
  | (_, d) => uptoBulk d + 1
 end
def uptoSmall : (H : Type) → List (DataW H) → Bool := fun _ ds => decide (uptoBulkAll ds ≤ 1048576)
def OpenSpec.upto (s : _root_.Go.ChangeSpec) : _root_.Go.OpenSpec := { _root_.Go.OpenSpec.ofChange s with cond := some uptoSmall }

/-- 'groutworklaw10.CensusAll', WHERE WHAT IT READS IS OF BULK AT MOST 1048576: true; the input reads as it did. -/
def censusAllUptoRow : OpenClaim := { program := "ytpbnoldflfcllaa", sum := "f7821ccf07d9b4e9d9b4223a14ae2fc888ca0fd18317948f22ade38ea95c6481", func := "groutwork/groutworklaw10.CensusAll", spec := "censusAll", unfollowed := true, recurses := true, plainKeys := false, apart := false, narrowed := true }
def CensusAllUptoSaid : Prop := censusAllUptoRow.holds Try.pinned (OpenSpec.upto censusAllSpec)

/-- 'groutworklaw10.CensusCount', WHERE WHAT IT READS IS OF BULK AT MOST 1048576: true; the input reads as it did. -/
def censusCountUptoRow : OpenClaim := { program := "ytpbnoldflfcllaa", sum := "f7821ccf07d9b4e9d9b4223a14ae2fc888ca0fd18317948f22ade38ea95c6481", func := "groutwork/groutworklaw10.CensusCount", spec := "censusCount", unfollowed := true, recurses := true, plainKeys := false, apart := false, narrowed := true }
def CensusCountUptoSaid : Prop := censusCountUptoRow.holds Try.pinned (OpenSpec.upto censusCountSpec)

/-- 'groutworklaw10.CensusCanon', WHERE WHAT IT READS IS OF BULK AT MOST 1048576: true; the input reads as it did. -/
def censusCanonUptoRow : OpenClaim := { program := "ytpbnoldflfcllaa", sum := "f7821ccf07d9b4e9d9b4223a14ae2fc888ca0fd18317948f22ade38ea95c6481", func := "groutwork/groutworklaw10.CensusCanon", spec := "censusCanon", unfollowed := true, recurses := true, plainKeys := false, apart := false, narrowed := true }
def CensusCanonUptoSaid : Prop := censusCanonUptoRow.holds Try.pinned (OpenSpec.upto censusCanonSpec)

/-- 'groutworklaw10.CensusMember', WHERE WHAT IT READS IS OF BULK AT MOST 1048576: true; the input reads as it did. -/
def censusMemberUptoRow : OpenClaim := { program := "ytpbnoldflfcllaa", sum := "f7821ccf07d9b4e9d9b4223a14ae2fc888ca0fd18317948f22ade38ea95c6481", func := "groutwork/groutworklaw10.CensusMember", spec := "censusMember", unfollowed := true, recurses := true, plainKeys := false, apart := false, narrowed := true }
def CensusMemberUptoSaid : Prop := censusMemberUptoRow.holds Try.pinned (OpenSpec.upto censusMemberSpec)

/-- 'groutworktop.TopCensus', WHERE WHAT IT READS IS OF BULK AT MOST 1048576: true; the input reads as it did. -/
def topCensusUptoRow : OpenClaim := { program := "ytpbnoldflfcllaa", sum := "f7821ccf07d9b4e9d9b4223a14ae2fc888ca0fd18317948f22ade38ea95c6481", func := "groutwork/groutworktop.TopCensus", spec := "topCensus", unfollowed := true, recurses := true, plainKeys := false, apart := false, narrowed := true }
def TopCensusUptoSaid : Prop := topCensusUptoRow.holds Try.pinned (OpenSpec.upto topCensusSpec)

end Rows
end Go.Proofs.Ytpbnoldflfcllaa
