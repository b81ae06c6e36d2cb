/-
  No cell of these rows narrows 'for every input' (looked for: loops, veiled, ifaces, maps, wideKeys, modest, calm, conditions, laid).
  DERIVED. THE GIVEN ROWS OF THIS SEAT. 7 by the template 'for every input the law returns true; each argument reads behind the call as it read before'; 0 by the template 'total and deterministic' (their statements: YtamnfcbekogkdaaTotals.lean).
  GIVEN WITH THE SEED: the statements are not yours to turn. If you find one false, say at which input.
  Laid BY PROGRAM, IN A SANDBOX (cutbox-rows.mjs): the forced cells as the released guide's own fill.sh prints them over the translation 652f680187ea93a4… (all of the seat's roots in one cut). By AI agents, Wed Nov 11 2026. No macro, syntax, notation, axiom, sorry.
-/
import Derived.Test.YtamnfcbekogkdaaChecked
import GoSem.Claim
import GoSem.ClaimJoined
import GoSem.ClaimMapViews
import Derived.JoinedTies
import Derived.KernelRfl
namespace Go.Proofs.Ytamnfcbekogkdaa
/- THE CELL 'sum', in the pinned program and in every row, IS THE sha256 OF THE DUMP (.gsa) THAT YtamnfcbekogkdaaProg.lean LOADS. Nothing in Lean hashes anything: it is a label: what it is worth is what the hold of that sum in a sandbox is worth. -/
noncomputable def Try.pinned : Pinned := { name := "ytamnfcbekogkdaa", sum := "652f680187ea93a4c4689c6b3b26a26802a597bd4e7f7a509250e2521af8f339", checked := Try.checked }
namespace Rows
def none {H : Type} : Left H := { results := [], args := [] }

/-- 'groutworklaw08.MachinePictures': WHATEVER THE INPUT: true; the input reads as it did. -/
def machinePicturesSpec : ChangeSpec := { name := "machinePictures", fn := fun _ => fun
  | [d1, d2, d3] => { results := [.lit (.bool true)], args := [d1, d2, d3] }
  | _ => none }
def machinePicturesRow : OpenClaim := { program := "ytamnfcbekogkdaa", sum := "652f680187ea93a4c4689c6b3b26a26802a597bd4e7f7a509250e2521af8f339", func := "groutwork/groutworklaw08.MachinePictures", spec := "machinePictures", unfollowed := true, recurses := true, plainKeys := false, apart := false }
def MachinePicturesSaid : Prop := machinePicturesRow.holds Try.pinned (OpenSpec.ofChange machinePicturesSpec)

/-- ITS FALSE NEIGHBOUR: 'it returns false'. Refute it at one input. -/
def machinePicturesWrong : ChangeSpec := { name := "machinePictures", fn := fun _ => fun
  | [d1, d2, d3] => { results := [.lit (.bool false)], args := [d1, d2, d3] }
  | _ => none }
def MachinePicturesWrongFalsely : Prop := machinePicturesRow.holds Try.pinned (OpenSpec.ofChange machinePicturesWrong)

/-- 'groutworklaw08.MachineSteps': WHATEVER THE INPUT: true; the input reads as it did. -/
def machineStepsSpec : ChangeSpec := { name := "machineSteps", fn := fun _ => fun
  | [d1, d2, d3] => { results := [.lit (.bool true)], args := [d1, d2, d3] }
  | _ => none }
def machineStepsRow : OpenClaim := { program := "ytamnfcbekogkdaa", sum := "652f680187ea93a4c4689c6b3b26a26802a597bd4e7f7a509250e2521af8f339", func := "groutwork/groutworklaw08.MachineSteps", spec := "machineSteps", unfollowed := true, recurses := true, plainKeys := false, apart := false }
def MachineStepsSaid : Prop := machineStepsRow.holds Try.pinned (OpenSpec.ofChange machineStepsSpec)

/-- ITS FALSE NEIGHBOUR: 'it returns false'. Refute it at one input. -/
def machineStepsWrong : ChangeSpec := { name := "machineSteps", fn := fun _ => fun
  | [d1, d2, d3] => { results := [.lit (.bool false)], args := [d1, d2, d3] }
  | _ => none }
def MachineStepsWrongFalsely : Prop := machineStepsRow.holds Try.pinned (OpenSpec.ofChange machineStepsWrong)

/-- 'groutworklaw08.MachineParts': WHATEVER THE INPUT: true; the input reads as it did. -/
def machinePartsSpec : ChangeSpec := { name := "machineParts", fn := fun _ => fun
  | [d1, d2, d3, d4] => { results := [.lit (.bool true)], args := [d1, d2, d3, d4] }
  | _ => none }
def machinePartsRow : OpenClaim := { program := "ytamnfcbekogkdaa", sum := "652f680187ea93a4c4689c6b3b26a26802a597bd4e7f7a509250e2521af8f339", func := "groutwork/groutworklaw08.MachineParts", spec := "machineParts", unfollowed := true, recurses := true, plainKeys := false, apart := false }
def MachinePartsSaid : Prop := machinePartsRow.holds Try.pinned (OpenSpec.ofChange machinePartsSpec)

/-- ITS FALSE NEIGHBOUR: 'it returns false'. Refute it at one input. -/
def machinePartsWrong : ChangeSpec := { name := "machineParts", fn := fun _ => fun
  | [d1, d2, d3, d4] => { results := [.lit (.bool false)], args := [d1, d2, d3, d4] }
  | _ => none }
def MachinePartsWrongFalsely : Prop := machinePartsRow.holds Try.pinned (OpenSpec.ofChange machinePartsWrong)

/-- 'groutworklaw08.MachineTiles': WHATEVER THE INPUT: true; the input reads as it did. -/
def machineTilesSpec : ChangeSpec := { name := "machineTiles", fn := fun _ => fun
  | [d1, d2, d3] => { results := [.lit (.bool true)], args := [d1, d2, d3] }
  | _ => none }
def machineTilesRow : OpenClaim := { program := "ytamnfcbekogkdaa", sum := "652f680187ea93a4c4689c6b3b26a26802a597bd4e7f7a509250e2521af8f339", func := "groutwork/groutworklaw08.MachineTiles", spec := "machineTiles", unfollowed := true, recurses := true, plainKeys := false, apart := false }
def MachineTilesSaid : Prop := machineTilesRow.holds Try.pinned (OpenSpec.ofChange machineTilesSpec)

/-- ITS FALSE NEIGHBOUR: 'it returns false'. Refute it at one input. -/
def machineTilesWrong : ChangeSpec := { name := "machineTiles", fn := fun _ => fun
  | [d1, d2, d3] => { results := [.lit (.bool false)], args := [d1, d2, d3] }
  | _ => none }
def MachineTilesWrongFalsely : Prop := machineTilesRow.holds Try.pinned (OpenSpec.ofChange machineTilesWrong)

/-- 'groutworklaw08.MachineOnly': WHATEVER THE INPUT: true; the input reads as it did. -/
def machineOnlySpec : ChangeSpec := { name := "machineOnly", fn := fun _ => fun
  | [d1, d2] => { results := [.lit (.bool true)], args := [d1, d2] }
  | _ => none }
def machineOnlyRow : OpenClaim := { program := "ytamnfcbekogkdaa", sum := "652f680187ea93a4c4689c6b3b26a26802a597bd4e7f7a509250e2521af8f339", func := "groutwork/groutworklaw08.MachineOnly", spec := "machineOnly", unfollowed := true, recurses := true, plainKeys := false, apart := false }
def MachineOnlySaid : Prop := machineOnlyRow.holds Try.pinned (OpenSpec.ofChange machineOnlySpec)

/-- ITS FALSE NEIGHBOUR: 'it returns false'. Refute it at one input. -/
def machineOnlyWrong : ChangeSpec := { name := "machineOnly", fn := fun _ => fun
  | [d1, d2] => { results := [.lit (.bool false)], args := [d1, d2] }
  | _ => none }
def MachineOnlyWrongFalsely : Prop := machineOnlyRow.holds Try.pinned (OpenSpec.ofChange machineOnlyWrong)

/-- 'groutworklaw08.MachineThere': WHATEVER THE INPUT: true; the input reads as it did. -/
def machineThereSpec : ChangeSpec := { name := "machineThere", fn := fun _ => fun
  | [d1, d2, d3] => { results := [.lit (.bool true)], args := [d1, d2, d3] }
  | _ => none }
def machineThereRow : OpenClaim := { program := "ytamnfcbekogkdaa", sum := "652f680187ea93a4c4689c6b3b26a26802a597bd4e7f7a509250e2521af8f339", func := "groutwork/groutworklaw08.MachineThere", spec := "machineThere", unfollowed := true, recurses := true, plainKeys := false, apart := false }
def MachineThereSaid : Prop := machineThereRow.holds Try.pinned (OpenSpec.ofChange machineThereSpec)

/-- ITS FALSE NEIGHBOUR: 'it returns false'. Refute it at one input. -/
def machineThereWrong : ChangeSpec := { name := "machineThere", fn := fun _ => fun
  | [d1, d2, d3] => { results := [.lit (.bool false)], args := [d1, d2, d3] }
  | _ => none }
def MachineThereWrongFalsely : Prop := machineThereRow.holds Try.pinned (OpenSpec.ofChange machineThereWrong)

/-- 'groutworktop.TopMachine': WHATEVER THE INPUT: true; the input reads as it did. -/
def topMachineSpec : ChangeSpec := { name := "topMachine", fn := fun _ => fun
  | [d1, d2, d3] => { results := [.lit (.bool true)], args := [d1, d2, d3] }
  | _ => none }
def topMachineRow : OpenClaim := { program := "ytamnfcbekogkdaa", sum := "652f680187ea93a4c4689c6b3b26a26802a597bd4e7f7a509250e2521af8f339", func := "groutwork/groutworktop.TopMachine", spec := "topMachine", unfollowed := true, recurses := true, plainKeys := false, apart := false }
def TopMachineSaid : Prop := topMachineRow.holds Try.pinned (OpenSpec.ofChange topMachineSpec)

/-- ITS FALSE NEIGHBOUR: 'it returns false'. Refute it at one input. -/
def topMachineWrong : ChangeSpec := { name := "topMachine", fn := fun _ => fun
  | [d1, d2, d3] => { results := [.lit (.bool false)], args := [d1, d2, d3] }
  | _ => none }
def TopMachineWrongFalsely : Prop := topMachineRow.holds Try.pinned (OpenSpec.ofChange topMachineWrong)

/- THE SECOND FORM. 'bulk': how many values and letters a reading holds, each counted each time it is reached (what is shared counts as often as it is met; a slice's spare places count too). A statement '..UptoSaid' is the law's where the arguments, and the package variables that the reading takes, are together of bulk at most 1048576: NARROWER than '..Said'. Prove '..Said' where nothing that the law and all that it calls make is longer than what came in: it says more and counts as full. Else prove '..UptoSaid'. A law counts once. -/
mutual
def uptoBulk {H : Type} : DataW H → Nat
  | .lit (.string bytes) => bytes.length + 1
  | .lit _ => 1
  | .nil => 1
  | .ptr d => uptoBulk d + 1
  | .slice elems spare => uptoBulkAll elems + uptoBulkAll spare + 1
  | .agg parts => uptoBulkAll parts + 1
  | .iface _ d => uptoBulk d + 1
  | .map entries => uptoBulkEntries entries + 1
  | .held _ => 1
def uptoBulkAll {H : Type} : List (DataW H) → Nat
  | [] => 0
  | d :: r => uptoBulk d + uptoBulkAll r
def uptoBulkEntries {H : Type} : List (Lit × DataW H) → Nat
  | [] => 0
  | x :: r => uptoBulkEntry x + uptoBulkEntries r
def uptoBulkEntry {H : Type} : Lit × DataW H → Nat
  | (.string bytes, d) => bytes.length + uptoBulk d + 1
  | (_, d) => uptoBulk d + 1
 end
def uptoSmall : (H : Type) → List (DataW H) → Bool := fun _ ds => decide (uptoBulkAll ds ≤ 1048576)
def OpenSpec.upto (s : _root_.Go.ChangeSpec) : _root_.Go.OpenSpec := { _root_.Go.OpenSpec.ofChange s with cond := some uptoSmall }

/-- 'groutworklaw08.MachinePictures', WHERE WHAT IT READS IS OF BULK AT MOST 1048576: true; the input reads as it did. -/
def machinePicturesUptoRow : OpenClaim := { program := "ytamnfcbekogkdaa", sum := "652f680187ea93a4c4689c6b3b26a26802a597bd4e7f7a509250e2521af8f339", func := "groutwork/groutworklaw08.MachinePictures", spec := "machinePictures", unfollowed := true, recurses := true, plainKeys := false, apart := false, narrowed := true }
def MachinePicturesUptoSaid : Prop := machinePicturesUptoRow.holds Try.pinned (OpenSpec.upto machinePicturesSpec)

/-- 'groutworklaw08.MachineSteps', WHERE WHAT IT READS IS OF BULK AT MOST 1048576: true; the input reads as it did. -/
def machineStepsUptoRow : OpenClaim := { program := "ytamnfcbekogkdaa", sum := "652f680187ea93a4c4689c6b3b26a26802a597bd4e7f7a509250e2521af8f339", func := "groutwork/groutworklaw08.MachineSteps", spec := "machineSteps", unfollowed := true, recurses := true, plainKeys := false, apart := false, narrowed := true }
def MachineStepsUptoSaid : Prop := machineStepsUptoRow.holds Try.pinned (OpenSpec.upto machineStepsSpec)

/-- 'groutworklaw08.MachineParts', WHERE WHAT IT READS IS OF BULK AT MOST 1048576: true; the input reads as it did. -/
def machinePartsUptoRow : OpenClaim := { program := "ytamnfcbekogkdaa", sum := "652f680187ea93a4c4689c6b3b26a26802a597bd4e7f7a509250e2521af8f339", func := "groutwork/groutworklaw08.MachineParts", spec := "machineParts", unfollowed := true, recurses := true, plainKeys := false, apart := false, narrowed := true }
def MachinePartsUptoSaid : Prop := machinePartsUptoRow.holds Try.pinned (OpenSpec.upto machinePartsSpec)

/-- 'groutworklaw08.MachineTiles', WHERE WHAT IT READS IS OF BULK AT MOST 1048576: true; the input reads as it did. -/
def machineTilesUptoRow : OpenClaim := { program := "ytamnfcbekogkdaa", sum := "652f680187ea93a4c4689c6b3b26a26802a597bd4e7f7a509250e2521af8f339", func := "groutwork/groutworklaw08.MachineTiles", spec := "machineTiles", unfollowed := true, recurses := true, plainKeys := false, apart := false, narrowed := true }
def MachineTilesUptoSaid : Prop := machineTilesUptoRow.holds Try.pinned (OpenSpec.upto machineTilesSpec)

/-- 'groutworklaw08.MachineOnly', WHERE WHAT IT READS IS OF BULK AT MOST 1048576: true; the input reads as it did. -/
def machineOnlyUptoRow : OpenClaim := { program := "ytamnfcbekogkdaa", sum := "652f680187ea93a4c4689c6b3b26a26802a597bd4e7f7a509250e2521af8f339", func := "groutwork/groutworklaw08.MachineOnly", spec := "machineOnly", unfollowed := true, recurses := true, plainKeys := false, apart := false, narrowed := true }
def MachineOnlyUptoSaid : Prop := machineOnlyUptoRow.holds Try.pinned (OpenSpec.upto machineOnlySpec)

/-- 'groutworklaw08.MachineThere', WHERE WHAT IT READS IS OF BULK AT MOST 1048576: true; the input reads as it did. -/
def machineThereUptoRow : OpenClaim := { program := "ytamnfcbekogkdaa", sum := "652f680187ea93a4c4689c6b3b26a26802a597bd4e7f7a509250e2521af8f339", func := "groutwork/groutworklaw08.MachineThere", spec := "machineThere", unfollowed := true, recurses := true, plainKeys := false, apart := false, narrowed := true }
def MachineThereUptoSaid : Prop := machineThereUptoRow.holds Try.pinned (OpenSpec.upto machineThereSpec)

/-- 'groutworktop.TopMachine', WHERE WHAT IT READS IS OF BULK AT MOST 1048576: true; the input reads as it did. -/
def topMachineUptoRow : OpenClaim := { program := "ytamnfcbekogkdaa", sum := "652f680187ea93a4c4689c6b3b26a26802a597bd4e7f7a509250e2521af8f339", func := "groutwork/groutworktop.TopMachine", spec := "topMachine", unfollowed := true, recurses := true, plainKeys := false, apart := false, narrowed := true }
def TopMachineUptoSaid : Prop := topMachineUptoRow.holds Try.pinned (OpenSpec.upto topMachineSpec)

end Rows
end Go.Proofs.Ytamnfcbekogkdaa
