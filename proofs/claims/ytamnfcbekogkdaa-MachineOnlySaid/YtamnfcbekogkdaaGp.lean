/- The functions that the law reaches, as plain functions; how what comes in is opened. -/
import Derived.Test.YtamnfcbekogkdaaGb
set_option linter.unusedVariables false
set_option linter.unusedSimpArgs false
namespace Gp
open Go Gw
structure BoundsError where
  x : Int
  y : Int
  signed : Bool
  code : Int
  deriving DecidableEq
def z_BoundsError : BoundsError := ⟨0, 0, false, 0⟩
def enc_BoundsError : Enc BoundsError := ⟨4, fun x => [(.int .i64 x.x), (.int .i64 x.y), (.bool x.signed), (.int .u8 x.code)], fun _ => rfl, fun x u h => by simp at h; rcases h with rfl | rfl | rfl | rfl <;> rfl⟩
structure Action where
  Write : Int
  Move : Int
  Next : Int
  deriving DecidableEq
def z_Action : Action := ⟨0, 0, 0⟩
def ints_Action (x : Action) : List Int := [x.Write, x.Move, x.Next]
def enc_Action : Enc Action := ⟨3, fun x => [(.int .i64 x.Write), (.int .i64 x.Move), (.int .i64 x.Next)], fun _ => rfl, fun x u h => by simp at h; rcases h with rfl | rfl | rfl <;> rfl⟩
structure Machine where
  States : Int
  Symbols : Int
  Actions : List Action
  deriving DecidableEq
def z_Machine : Machine := ⟨0, 0, []⟩
structure Config where
  State : Int
  At : Int
  Cells : List Int
  deriving DecidableEq
def z_Config : Config := ⟨0, 0, []⟩
structure Pattern where
  Width : Int
  Height : Int
  Cells : List Int
  deriving DecidableEq
def z_Pattern : Pattern := ⟨0, 0, []⟩
structure Tile where
  N : Int
  E : Int
  S : Int
  W : Int
  deriving DecidableEq
def z_Tile : Tile := ⟨0, 0, 0, 0⟩
def ints_Tile (x : Tile) : List Int := [x.N, x.E, x.S, x.W]
def enc_Tile : Enc Tile := ⟨4, fun x => [(.int .i64 x.N), (.int .i64 x.E), (.int .i64 x.S), (.int .i64 x.W)], fun _ => rfl, fun x u h => by simp at h; rcases h with rfl | rfl | rfl | rfl <;> rfl⟩
structure Shown where
  P : Pattern
  Height : Int
  deriving DecidableEq
def z_Shown : Shown := ⟨z_Pattern, 0⟩
structure Runner where
  m : Machine
  Config : Config
  deriving DecidableEq
def z_Runner : Runner := ⟨z_Machine, z_Config⟩
structure Kit where
  m : Machine
  set : List Tile
  does : List Int
  base : Int
  deriving DecidableEq
def z_Kit : Kit := ⟨z_Machine, [], [], 0⟩
def law08_goes  : Option Machine := some (Machine.mk 1 2 [(Action.mk 1 1 0), (Action.mk 1 1 0)])
def machine_action (p0 : Machine) (p1 : Action) : Option Bool := if (p1.Next == p0.States) = true then (some ((p1.Write == 0) && (p1.Move == 0))) else (some ((((((decide (p1.Write ≥ 0)) && (decide (p1.Write < p0.Symbols))) && (decide (p1.Move ≥ 0))) && (decide (p1.Move < 2))) && (decide (p1.Next ≥ 0))) && (decide (p1.Next < p0.States))))
def machine_Valid_1 (p0 : Action) (f0 : Machine) : Option Bool := (machine_action f0 p0).bind fun t73 => some (!t73)
def slices_IndexFunc_api_Action_api_Action_with_machine_Valid_1.l0 : Nat → Int → (List Action) → Machine → Option (Sum Int Unit)
  | 0, _, _, _ => none
  | k + 1, x93, p0, p1_0 => if (decide (x93 < (p0.length : Int))) = true then (if 0 ≤ x93 ∧ x93 < (p0.length : Int) then ((machine_Valid_1 (rdD p0 x93 z_Action) p1_0).bind fun t102 => if t102 = true then (some (.inl x93)) else (slices_IndexFunc_api_Action_api_Action_with_machine_Valid_1.l0 k (w64 (x93 + 1)) p0 p1_0)) else none) else (some (.inr ()))
def slices_IndexFunc_api_Action_api_Action_with_machine_Valid_1 (k : Nat) (p0 : List Action) (p1_0 : Machine) : Option Int := (slices_IndexFunc_api_Action_api_Action_with_machine_Valid_1.l0 k 0 p0 p1_0).bind fun x94 => sumb x94 (fun r => some r) (fun y111 => some (-1))
def slices_ContainsFunc_api_Action_api_Action_with_machine_Valid_1 (k : Nat) (p0 : List Action) (p1_0 : Machine) : Option Bool := (slices_IndexFunc_api_Action_api_Action_with_machine_Valid_1 k p0 p1_0).bind fun t113 => some (decide (t113 ≥ 0))
def machine_Valid (k : Nat) (p0 : Machine) : Option Bool := (if (((((decide (p0.States ≥ 1)) && (decide (p0.States ≤ 6))) && (decide (p0.Symbols ≥ 2))) && (decide (p0.Symbols ≤ 4))) && ((p0.Actions.length : Int) == (w64 (p0.States * p0.Symbols)))) = true then ((slices_ContainsFunc_api_Action_api_Action_with_machine_Valid_1 k p0.Actions p0).bind fun t127 => some (!t127)) else (some false)).bind fun x124 => some x124
def machine_head (p0 : Machine) (p1 : Int) (p2 : Int) : Option Int := some (w64 ((w64 (p0.Symbols + (w64 (p1 * p0.Symbols)))) + p2))
def machine_kit_signal (p0 : Kit) (p1 : Int) (p2 : Int) : Option Int := if (p1 == 1) = true then (some (w64 (1 + p2))) else (some (w64 ((w64 (1 + p0.m.States)) + p2)))
def machine_kit_acts (p0 : Kit) (p1 : Int) (p2 : Int) (p3 : Action) : Option Tile := ((machine_head p0.m p1 p2).bind fun t322 => some (p3.Write, 0, t322, 0)).bind fun x318 => if (p3.Move == 0) = true then ((machine_kit_signal p0 p3.Move p3.Next).bind fun t350 => some (Tile.mk x318.1 x318.2.1 x318.2.2.1 t350)) else (if (p3.Move == 1) = true then ((machine_kit_signal p0 p3.Move p3.Next).bind fun t360 => some (Tile.mk x318.1 t360 x318.2.2.1 x318.2.2.2)) else (none))
def machine_kitOf.l0 : Nat → (List Tile) → Int → Machine → Option (List Tile)
  | 0, _, _, _ => none
  | k + 1, l187, x188, p0 => if (decide (x188 < p0.Symbols)) = true then (if l187.length + [(Tile.mk x188 0 x188 0)].length ≤ 100000000000 then (machine_kitOf.l0 k (l187 ++ [(Tile.mk x188 0 x188 0)]) (w64 (x188 + 1)) p0) else none) else (some l187)
def machine_kitOf.l1 : Nat → (List Tile) → (List Int) → Int → Machine → Option ((List Tile) × (List Int))
  | 0, _, _, _, _ => none
  | k + 1, l701, l704, x705, p0 => if (decide (x705 < (p0.Actions.length : Int))) = true then ((if 0 ≤ x705 ∧ x705 < (p0.Actions.length : Int) then (if (((rdD p0.Actions x705 z_Action).Next) == p0.States) = true then (if l704.length + [(-1)].length ≤ 100000000000 then (some (l701, l704 ++ [(-1)])) else none) else (if l704.length + [(l701.length : Int)].length ≤ 100000000000 then (if p0.Symbols ≠ 0 then ((machine_kit_acts (Kit.mk p0 l701 (l704 ++ [(l701.length : Int)]) 0) (w64 (Int.tdiv x705 p0.Symbols)) (Int.tmod x705 p0.Symbols) (rdD p0.Actions x705 z_Action)).bind fun t880 => if l701.length + [t880].length ≤ 100000000000 then (some (l701 ++ [t880], l704 ++ [(l701.length : Int)])) else none) else none) else none)) else none).bind fun x810 => machine_kitOf.l1 k x810.1 x810.2 (w64 (x705 + 1)) p0) else (some (l701, l704))
def machine_kitOf.l3 : Nat → (List Tile) → Int → Machine → ((List Tile) × (List Int)) → Int → Option (List Tile)
  | 0, _, _, _, _, _ => none
  | k + 1, l1391, x1392, p0, x712, x1270 => if (decide (x1392 < p0.Symbols)) = true then ((machine_head p0 x1270 x1392).bind fun t1403 => (machine_kit_signal (Kit.mk p0 l1391 x712.2 (x712.1.length : Int)) 1 x1270).bind fun t1432 => (machine_kit_signal (Kit.mk p0 l1391 x712.2 (x712.1.length : Int)) 0 x1270).bind fun t1437 => if l1391.length + [(Tile.mk t1403 0 x1392 t1432), (Tile.mk t1403 t1437 x1392 0)].length ≤ 100000000000 then (machine_kitOf.l3 k (l1391 ++ [(Tile.mk t1403 0 x1392 t1432), (Tile.mk t1403 t1437 x1392 0)]) (w64 (x1392 + 1)) p0 x712 x1270) else none) else (some l1391)
def machine_kitOf.l2 : Nat → (List Tile) → Int → Machine → ((List Tile) × (List Int)) → Option (List Tile)
  | 0, _, _, _, _ => none
  | k + 1, l1269, x1270, p0, x712 => if (decide (x1270 < p0.States)) = true then ((machine_kitOf.l3 k l1269 0 p0 x712 x1270).bind fun x1396 => machine_kitOf.l2 k x1396 (w64 (x1270 + 1)) p0 x712) else (some l1269)
def machine_kitOf (k : Nat) (p0 : Machine) : Option Kit := (machine_kitOf.l0 k ([] : List Tile) 0 p0).bind fun x192 => (machine_kitOf.l1 k x192 ([] : List Int) 0 p0).bind fun x712 => (machine_kitOf.l2 k x712.1 0 p0 x712).bind fun x1274 => some (Kit.mk p0 x1274 x712.2 (x712.1.length : Int))
def machine_Tiles (k : Nat) (p0 : Machine) : Option ((List Tile) × Int) := (machine_Valid k p0).bind fun t137 => if (!t137) = true then (some (([] : List Tile), 1)) else ((machine_kitOf k p0).bind fun t1462 => some (t1462.set, 0))
def machine_Fits_1 (p0 : Int) (f0 : Machine) : Option Bool := some ((decide (p0 < 0)) || (decide (p0 ≥ f0.Symbols)))
def slices_IndexFunc_int_int_with_machine_Fits_1.l0 : Nat → Int → (List Int) → Machine → Option (Sum Int Unit)
  | 0, _, _, _ => none
  | k + 1, x1547, p0, p1_0 => if (decide (x1547 < (p0.length : Int))) = true then (if 0 ≤ x1547 ∧ x1547 < (p0.length : Int) then ((machine_Fits_1 (rdD p0 x1547 0) p1_0).bind fun t1556 => if t1556 = true then (some (.inl x1547)) else (slices_IndexFunc_int_int_with_machine_Fits_1.l0 k (w64 (x1547 + 1)) p0 p1_0)) else none) else (some (.inr ()))
def slices_IndexFunc_int_int_with_machine_Fits_1 (k : Nat) (p0 : List Int) (p1_0 : Machine) : Option Int := (slices_IndexFunc_int_int_with_machine_Fits_1.l0 k 0 p0 p1_0).bind fun x1548 => sumb x1548 (fun r => some r) (fun y1565 => some (-1))
def slices_ContainsFunc_int_int_with_machine_Fits_1 (k : Nat) (p0 : List Int) (p1_0 : Machine) : Option Bool := (slices_IndexFunc_int_int_with_machine_Fits_1 k p0 p1_0).bind fun t1567 => some (decide (t1567 ≥ 0))
def machine_Fits (k : Nat) (p0 : Machine) (p1 : Config) : Option Bool := (machine_Valid k p0).bind fun t1511 => (if ((((((t1511 && (decide (p1.State ≥ 0))) && (decide (p1.State < p0.States))) && (decide ((p1.Cells.length : Int) ≥ 1))) && (decide ((p1.Cells.length : Int) ≤ 200))) && (decide (p1.At ≥ 0))) && (decide (p1.At < (p1.Cells.length : Int)))) = true then ((slices_ContainsFunc_int_int_with_machine_Fits_1 k p1.Cells p0).bind fun t1581 => some (!t1581)) else (some false)).bind fun x1578 => some x1578
def slices_Clone_int_int_nil (p0 : List Int) : Option (List Int) := some ([] : List Int)
def slices_Clone_int_int_some (p0 : List Int) : Option (List Int) := if ([] : List Int).length + p0.length ≤ 100000000000 then (some (([] : List Int) ++ p0)) else none
def slices_Clone_int_int (p0 : List Int) : Option (List Int) := slices_Clone_int_int_some p0
def machine_begin (p0 : Machine) (p1 : Config) : Option Runner := (slices_Clone_int_int p1.Cells).bind fun t1625 => some (Runner.mk p0 (Config.mk p1.State p1.At t1625))
def machine_runner_does (p0 : Runner) : Option Int := if 0 ≤ p0.Config.At ∧ p0.Config.At < (p0.Config.Cells.length : Int) then (some (w64 ((w64 (p0.Config.State * p0.m.Symbols)) + (rdD p0.Config.Cells p0.Config.At 0)))) else none
def machine_runner_step (p0 : Runner) : Option (Int × Runner) := ((machine_runner_does p0).bind fun t1816 => if 0 ≤ t1816 ∧ t1816 < (p0.m.Actions.length : Int) then (some ((rdD p0.m.Actions t1816 z_Action).Write, (rdD p0.m.Actions t1816 z_Action).Move, (rdD p0.m.Actions t1816 z_Action).Next)) else none).bind fun x1812 => if (x1812.2.2 == p0.m.States) = true then (some (5, p0)) else (if ((decide (w64 ((w64 (p0.Config.At + (w64 (2 * x1812.2.1)))) - 1) < 0)) || (decide (w64 ((w64 (p0.Config.At + (w64 (2 * x1812.2.1)))) - 1) ≥ (p0.Config.Cells.length : Int)))) = true then (some (6, p0)) else (if 0 ≤ p0.Config.At ∧ p0.Config.At < (p0.Config.Cells.length : Int) then (some (0, (Runner.mk p0.m (Config.mk x1812.2.2 (w64 ((w64 (p0.Config.At + (w64 (2 * x1812.2.1)))) - 1)) (p0.Config.Cells.set (p0.Config.At).toNat x1812.1))))) else none))
def machine_Run.l0 : Nat → Int → Int → Int → Int → (List Int) → Int → Machine → Int → Option (Int × Int × Int × Int × (List Int) × Int)
  | 0, _, _, _, _, _, _, _, _ => none
  | k + 1, x1955, x1956, x1957, x1958, l1961, x1962, p0, p2 => (if (decide (x1962 < p2)) = true then ((machine_runner_step (Runner.mk (Machine.mk x1955 x1956 p0.Actions) (Config.mk x1957 x1958 l1961))).bind fun t1995 => some (t1995.2.m.States, t1995.2.m.Symbols, t1995.2.Config.State, t1995.2.Config.At, t1995.2.Config.Cells, t1995.1 == 0)) else (some (x1955, x1956, x1957, x1958, l1961, false))).bind fun x1992 => if x1992.2.2.2.2.2 = true then (machine_Run.l0 k x1992.1 x1992.2.1 x1992.2.2.1 x1992.2.2.2.1 x1992.2.2.2.2.1 (w64 (x1962 + 1)) p0 p2) else (some (x1992.1, x1992.2.1, x1992.2.2.1, x1992.2.2.2.1, x1992.2.2.2.2.1, x1962))
def machine_Run (k : Nat) (p0 : Machine) (p1 : Config) (p2 : Int) : Option (Config × Int × Int) := (machine_Fits k p0 p1).bind fun t1591 => if (!t1591) = true then (some ((Config.mk 0 0 ([] : List Int)), 0, 1)) else (if ((decide (p2 < 0)) || (decide (p2 > 100000))) = true then (some ((Config.mk 0 0 ([] : List Int)), 0, 2)) else ((machine_begin p0 p1).bind fun t1638 => (machine_Run.l0 k t1638.m.States t1638.m.Symbols t1638.Config.State t1638.Config.At t1638.Config.Cells 0 p0 p2).bind fun x1971 => some ((Config.mk x1971.2.2.1 x1971.2.2.2.1 x1971.2.2.2.2.1), x1971.2.2.2.2.2, 0)))
def machine_kit_row.l0 : Nat → (List Int) → Int → Kit → Runner → (Int × Int × Int) → Option (List Int)
  | 0, _, _, _, _, _ => none
  | k + 1, l2403, x2404, p0, p1, x2198 => if (decide (x2404 < (p1.Config.Cells.length : Int))) = true then (if 0 ≤ x2404 ∧ x2404 < (p1.Config.Cells.length : Int) then ((if (x2404 == p1.Config.At) = true then ((machine_runner_does p1).bind fun t2456 => if 0 ≤ t2456 ∧ t2456 < (p0.does.length : Int) then (some (rdD p0.does t2456 0)) else none) else ((if (x2404 == (w64 ((w64 (p1.Config.At + (w64 (2 * x2198.2.1)))) - 1))) = true then (some (w64 ((w64 ((w64 (p0.base + (w64 (2 * (w64 ((w64 (x2198.2.2 * p1.m.Symbols)) + (rdD p1.Config.Cells x2404 0))))))) + 1)) - x2198.2.1))) else (some (rdD p1.Config.Cells x2404 0))).bind fun x2466 => some x2466)).bind fun x2445 => if l2403.length + [x2445].length ≤ 100000000000 then (machine_kit_row.l0 k (l2403 ++ [x2445]) (w64 (x2404 + 1)) p0 p1 x2198) else none) else none) else (some l2403)
def machine_kit_row (k : Nat) (p0 : Kit) (p1 : Runner) : Option (List Int) := ((machine_runner_does p1).bind fun t2202 => if 0 ≤ t2202 ∧ t2202 < (p1.m.Actions.length : Int) then (some ((rdD p1.m.Actions t2202 z_Action).Write, (rdD p1.m.Actions t2202 z_Action).Move, (rdD p1.m.Actions t2202 z_Action).Next)) else none).bind fun x2198 => (machine_kit_row.l0 k ([] : List Int) 0 p0 p1 x2198).bind fun x2408 => some x2408
def machine_Picture.l0 : Nat → Int → Int → Int → Int → (List Int) → (List Int) → Int → Machine → Int → Kit → Option (Sum (Pattern × Int) (List Int))
  | 0, _, _, _, _, _, _, _, _, _, _ => none
  | k + 1, x2600, x2601, x2602, x2603, l2606, l2609, x2610, p0, p2, t2090 => if (decide (x2610 < p2)) = true then ((machine_begin p0 (Config.mk x2602 x2603 l2606)).bind fun t2631 => (machine_runner_step (Runner.mk (Machine.mk t2631.m.States t2631.m.Symbols p0.Actions) t2631.Config)).bind fun t2639 => if (t2639.1 != 0) = true then (some (.inl ((Pattern.mk 0 0 ([] : List Int)), 6))) else ((machine_kit_row k (Kit.mk (Machine.mk t2090.m.States t2090.m.Symbols p0.Actions) t2090.set t2090.does t2090.base) (Runner.mk (Machine.mk x2600 x2601 p0.Actions) (Config.mk x2602 x2603 l2606))).bind fun t2666 => if l2609.length + t2666.length ≤ 100000000000 then (machine_Picture.l0 k t2639.2.m.States t2639.2.m.Symbols t2639.2.Config.State t2639.2.Config.At t2639.2.Config.Cells (l2609 ++ t2666) (w64 (x2610 + 1)) p0 p2 t2090) else none)) else (some (.inr l2609))
def machine_Picture (k : Nat) (p0 : Machine) (p1 : Config) (p2 : Int) : Option (Pattern × Int) := (machine_Fits k p0 p1).bind fun t2051 => if (!t2051) = true then (some ((Pattern.mk 0 0 ([] : List Int)), 1)) else (if (decide (p2 < 1)) = true then (some ((Pattern.mk 0 0 ([] : List Int)), 2)) else (if ((decide (p2 > 40000)) || (decide (w64 ((p1.Cells.length : Int) * p2) > 40000))) = true then (some ((Pattern.mk 0 0 ([] : List Int)), 4)) else ((machine_kitOf k p0).bind fun t2090 => (machine_begin p0 p1).bind fun t2100 => (machine_Picture.l0 k t2100.m.States t2100.m.Symbols t2100.Config.State t2100.Config.At t2100.Config.Cells ([] : List Int) 0 p0 p2 t2090).bind fun x2614 => sumb x2614 (fun r => some r) (fun y2683 => some ((Pattern.mk (p1.Cells.length : Int) p2 y2683), 0)))))
def law08_awake (k : Nat)  : Option Bool := (law08_goes).bind fun t23 => (machine_Tiles k t23).bind fun t1472 => (law08_goes).bind fun t1479 => (machine_Run k t1479 (Config.mk 0 0 [0, 0, 0]) 9).bind fun t2014 => (law08_goes).bind fun t2027 => (machine_Picture k t2027 (Config.mk 0 0 [0, 0, 0]) 3).bind fun t2687 => some ((((((t1472.2 == 0) && ((t1472.1.length : Int) == 8)) && (t2014.2.2 == 0)) && (t2014.2.1 == 2)) && (t2014.1.At == 2)) && (t2687.2 == 6))
def tile_colour_1 (p0 : Int) : Option Bool := some ((decide (p0 < 0)) || (decide (p0 ≥ 1000)))
def slices_IndexFunc_int_int_with_tile_colour_1.l0 : Nat → Int → (List Int) → Option (Sum Int Unit)
  | 0, _, _ => none
  | k + 1, x2770, p0 => if (decide (x2770 < (p0.length : Int))) = true then (if 0 ≤ x2770 ∧ x2770 < (p0.length : Int) then ((tile_colour_1 (rdD p0 x2770 0)).bind fun t2779 => if t2779 = true then (some (.inl x2770)) else (slices_IndexFunc_int_int_with_tile_colour_1.l0 k (w64 (x2770 + 1)) p0)) else none) else (some (.inr ()))
def slices_IndexFunc_int_int_with_tile_colour_1 (k : Nat) (p0 : List Int) : Option Int := (slices_IndexFunc_int_int_with_tile_colour_1.l0 k 0 p0).bind fun x2771 => sumb x2771 (fun r => some r) (fun y2788 => some (-1))
def slices_ContainsFunc_int_int_with_tile_colour_1 (k : Nat) (p0 : List Int) : Option Bool := (slices_IndexFunc_int_int_with_tile_colour_1 k p0).bind fun t2790 => some (decide (t2790 ≥ 0))
def tile_colour (k : Nat) (p0 : List Int) : Option Bool := (slices_ContainsFunc_int_int_with_tile_colour_1 k p0).bind fun t2795 => some (!t2795)
def tile_Valid.l0 : Nat → (List (Tile × Bool)) → Int → (List Tile) → Option (Sum Bool Unit)
  | 0, _, _, _ => none
  | k + 1, l2869, x2870, p0 => if (decide (x2870 < (p0.length : Int))) = true then (if 0 ≤ x2870 ∧ x2870 < (p0.length : Int) then ((if (mget (rdD p0 x2870 z_Tile) false l2869) = true then (some true) else ((tile_colour k [(rdD p0 x2870 z_Tile).N, (rdD p0 x2870 z_Tile).E, (rdD p0 x2870 z_Tile).S, (rdD p0 x2870 z_Tile).W]).bind fun t2904 => some (!t2904))).bind fun x2896 => if x2896 = true then (some (.inl false)) else (tile_Valid.l0 k (mput (rdD p0 x2870 z_Tile) true l2869) (w64 (x2870 + 1)) p0)) else none) else (some (.inr ()))
def tile_Valid (k : Nat) (p0 : List Tile) : Option Bool := if (decide ((p0.length : Int) > 1000)) = true then (some false) else ((tile_Valid.l0 k ([] : List (Tile × Bool)) 0 p0).bind fun x2871 => sumb x2871 (fun r => some r) (fun y2920 => some true))
def tile_Form (p0 : Pattern) : Option Bool := some ((((((decide (p0.Width ≥ 1)) && (decide (p0.Height ≥ 1))) && (decide (p0.Width ≤ 40000))) && (decide (p0.Height ≤ 40000))) && (decide (w64 (p0.Width * p0.Height) ≤ 40000))) && ((p0.Cells.length : Int) == (w64 (p0.Width * p0.Height))))
def tile_of_1 (p0 : Int) (f0 : List Tile) : Option Bool := some ((decide (p0 < 0)) || (decide (p0 ≥ (f0.length : Int))))
def slices_IndexFunc_int_int_with_tile_of_1.l0 : Nat → Int → (List Int) → (List Tile) → Option (Sum Int Unit)
  | 0, _, _, _ => none
  | k + 1, x2979, p0, p1_0 => if (decide (x2979 < (p0.length : Int))) = true then (if 0 ≤ x2979 ∧ x2979 < (p0.length : Int) then ((tile_of_1 (rdD p0 x2979 0) p1_0).bind fun t2988 => if t2988 = true then (some (.inl x2979)) else (slices_IndexFunc_int_int_with_tile_of_1.l0 k (w64 (x2979 + 1)) p0 p1_0)) else none) else (some (.inr ()))
def slices_IndexFunc_int_int_with_tile_of_1 (k : Nat) (p0 : List Int) (p1_0 : List Tile) : Option Int := (slices_IndexFunc_int_int_with_tile_of_1.l0 k 0 p0 p1_0).bind fun x2980 => sumb x2980 (fun r => some r) (fun y2997 => some (-1))
def slices_ContainsFunc_int_int_with_tile_of_1 (k : Nat) (p0 : List Int) (p1_0 : List Tile) : Option Bool := (slices_IndexFunc_int_int_with_tile_of_1 k p0 p1_0).bind fun t2999 => some (decide (t2999 ≥ 0))
def tile_of (k : Nat) (p0 : List Tile) (p1 : Pattern) : Option Bool := (tile_Valid k p0).bind fun t2922 => (if t2922 = true then ((tile_Form p1).bind fun t2950 => some t2950) else (some false)).bind fun x2947 => (if x2947 = true then ((slices_ContainsFunc_int_int_with_tile_of_1 k p1.Cells p0).bind fun t3013 => some (!t3013)) else (some false)).bind fun x3010 => some x3010
def tile_joins.l0 : Nat → Int → (List Tile) → Pattern → Bool → Option (Sum Bool Unit)
  | 0, _, _, _, _ => none
  | k + 1, x3199, p0, p1, p2 => if (decide (x3199 < (p1.Cells.length : Int))) = true then (if 0 ≤ x3199 ∧ x3199 < (p1.Cells.length : Int) then (if p1.Width ≠ 0 then ((if ((decide (w64 ((Int.tmod x3199 p1.Width) + 1) < p1.Width)) || p2) = true then (if 0 ≤ (rdD p1.Cells x3199 0) ∧ (rdD p1.Cells x3199 0) < (p0.length : Int) then (if 0 ≤ w64 ((w64 ((w64 (Int.tdiv x3199 p1.Width)) * p1.Width)) + (Int.tmod (w64 ((Int.tmod x3199 p1.Width) + 1)) p1.Width)) ∧ w64 ((w64 ((w64 (Int.tdiv x3199 p1.Width)) * p1.Width)) + (Int.tmod (w64 ((Int.tmod x3199 p1.Width) + 1)) p1.Width)) < (p1.Cells.length : Int) then (if 0 ≤ (rdD p1.Cells (w64 ((w64 ((w64 (Int.tdiv x3199 p1.Width)) * p1.Width)) + (Int.tmod (w64 ((Int.tmod x3199 p1.Width) + 1)) p1.Width))) 0) ∧ (rdD p1.Cells (w64 ((w64 ((w64 (Int.tdiv x3199 p1.Width)) * p1.Width)) + (Int.tmod (w64 ((Int.tmod x3199 p1.Width) + 1)) p1.Width))) 0) < (p0.length : Int) then (if (((rdD p0 (rdD p1.Cells x3199 0) z_Tile).E) != ((rdD p0 (rdD p1.Cells (w64 ((w64 ((w64 (Int.tdiv x3199 p1.Width)) * p1.Width)) + (Int.tmod (w64 ((Int.tmod x3199 p1.Width) + 1)) p1.Width))) 0) z_Tile).W)) = true then (some (.inl false)) else (some (.inr ()))) else none) else none) else none) else (some (.inr ()))).bind fun x3228 => sumb x3228 (fun r => some (.inl r)) (fun y3246 => (if ((decide (w64 ((w64 (Int.tdiv x3199 p1.Width)) + 1) < p1.Height)) || p2) = true then (if 0 ≤ (rdD p1.Cells x3199 0) ∧ (rdD p1.Cells x3199 0) < (p0.length : Int) then (if p1.Height ≠ 0 then (if 0 ≤ w64 ((w64 ((Int.tmod (w64 ((w64 (Int.tdiv x3199 p1.Width)) + 1)) p1.Height) * p1.Width)) + (Int.tmod x3199 p1.Width)) ∧ w64 ((w64 ((Int.tmod (w64 ((w64 (Int.tdiv x3199 p1.Width)) + 1)) p1.Height) * p1.Width)) + (Int.tmod x3199 p1.Width)) < (p1.Cells.length : Int) then (if 0 ≤ (rdD p1.Cells (w64 ((w64 ((Int.tmod (w64 ((w64 (Int.tdiv x3199 p1.Width)) + 1)) p1.Height) * p1.Width)) + (Int.tmod x3199 p1.Width))) 0) ∧ (rdD p1.Cells (w64 ((w64 ((Int.tmod (w64 ((w64 (Int.tdiv x3199 p1.Width)) + 1)) p1.Height) * p1.Width)) + (Int.tmod x3199 p1.Width))) 0) < (p0.length : Int) then (if (((rdD p0 (rdD p1.Cells x3199 0) z_Tile).N) != ((rdD p0 (rdD p1.Cells (w64 ((w64 ((Int.tmod (w64 ((w64 (Int.tdiv x3199 p1.Width)) + 1)) p1.Height) * p1.Width)) + (Int.tmod x3199 p1.Width))) 0) z_Tile).S)) = true then (some (.inl false)) else (some (.inr ()))) else none) else none) else none) else none) else (some (.inr ()))).bind fun x3266 => sumb x3266 (fun r => some (.inl r)) (fun y3287 => tile_joins.l0 k (w64 (x3199 + 1)) p0 p1 p2))) else none) else none) else (some (.inr ()))
def tile_joins (k : Nat) (p0 : List Tile) (p1 : Pattern) (p2 : Bool) : Option Bool := (tile_joins.l0 k 0 p0 p1 p2).bind fun x3200 => sumb x3200 (fun r => some r) (fun y3292 => some true)
def tile_Fits (k : Nat) (p0 : List Tile) (p1 : Pattern) : Option Bool := (tile_of k p0 p1).bind fun t3023 => (if t3023 = true then ((tile_joins k p0 p1 false).bind fun t3303 => some t3303) else (some false)).bind fun x3300 => some x3300
def machine_Read.l0 : Nat → Int → Int → (List Int) → Int → Int → Machine → (List Int) → Option (Int × Int × (List Int) × Int)
  | 0, _, _, _, _, _, _, _ => none
  | k + 1, x3681, x3682, l3685, x3686, x3687, p0, p1 => if (decide (x3687 < (p1.length : Int))) = true then ((if 0 ≤ x3687 ∧ x3687 < (p1.length : Int) then (if (decide ((rdD p1 x3687 0) < p0.Symbols)) = true then (some (x3681, x3682, l3685, x3686)) else (if p0.Symbols ≠ 0 then (if 0 ≤ x3687 ∧ x3687 < (l3685.length : Int) then (some (w64 (Int.tdiv (w64 ((rdD p1 x3687 0) - p0.Symbols)) p0.Symbols), x3687, l3685.set (x3687).toNat (Int.tmod (w64 ((rdD p1 x3687 0) - p0.Symbols)) p0.Symbols), w64 (x3686 + 1))) else none) else none)) else none).bind fun x3730 => machine_Read.l0 k x3730.1 x3730.2.1 x3730.2.2.1 x3730.2.2.2 (w64 (x3687 + 1)) p0 p1) else (some (x3681, x3682, l3685, x3686))
def machine_Read (k : Nat) (p0 : Machine) (p1 : List Int) : Option (Config × Int) := (machine_Valid k p0).bind fun t3470 => if (!t3470) = true then (some ((Config.mk 0 0 ([] : List Int)), 1)) else ((slices_Clone_int_int p1).bind fun t3479 => (machine_Read.l0 k 0 0 t3479 0 0 p0 p1).bind fun x3694 => (if (x3694.2.2.2 != 1) = true then (some true) else ((machine_Fits k p0 (Config.mk x3694.1 x3694.2.1 x3694.2.2.1)).bind fun t3772 => some (!t3772))).bind fun x3769 => if x3769 = true then (some ((Config.mk 0 0 ([] : List Int)), 6)) else (some ((Config.mk x3694.1 x3694.2.1 x3694.2.2.1), 0)))
def ref01_Same.l0 : Nat → Int → (List Int) → (List Int) → Option (Sum Bool Unit)
  | 0, _, _, _ => none
  | k + 1, x3881, p0, p1 => if (decide (x3881 < (p0.length : Int))) = true then (if 0 ≤ x3881 ∧ x3881 < (p0.length : Int) then (if 0 ≤ x3881 ∧ x3881 < (p1.length : Int) then (if ((rdD p0 x3881 0) != (rdD p1 x3881 0)) = true then (some (.inl false)) else (ref01_Same.l0 k (w64 (x3881 + 1)) p0 p1)) else none) else none) else (some (.inr ()))
def ref01_Same (k : Nat) (p0 : List Int) (p1 : List Int) : Option Bool := if ((p0.length : Int) != (p1.length : Int)) = true then (some false) else ((ref01_Same.l0 k 0 p0 p1).bind fun x3882 => sumb x3882 (fun r => some r) (fun y3901 => some true))
def ref01_SamePattern (k : Nat) (p0 : Pattern) (p1 : Pattern) : Option Bool := (if ((p0.Width == p1.Width) && (p0.Height == p1.Height)) = true then ((ref01_Same k p0.Cells p1.Cells).bind fun t3912 => some t3912) else (some false)).bind fun x3909 => some x3909
def law08_MachineOnly.l0 : Nat → (List Int) → Int → Pattern → ((List Tile) × Int) → Option (List Int)
  | 0, _, _, _, _ => none
  | k + 1, l3373, x3374, p1, t2715 => if (decide (x3374 < p1.Width)) = true then (if 0 ≤ x3374 ∧ x3374 < (p1.Cells.length : Int) then (if 0 ≤ (rdD p1.Cells x3374 0) ∧ (rdD p1.Cells x3374 0) < (t2715.1.length : Int) then (if l3373.length + [(rdD t2715.1 (rdD p1.Cells x3374 0) z_Tile).S].length ≤ 100000000000 then (law08_MachineOnly.l0 k (l3373 ++ [(rdD t2715.1 (rdD p1.Cells x3374 0) z_Tile).S]) (w64 (x3374 + 1)) p1 t2715) else none) else none) else none) else (some l3373)
def law08_MachineOnly.l1 : Nat → Int → Pattern → ((List Tile) × Int) → Option (Sum Bool Unit)
  | 0, _, _, _ => none
  | k + 1, x3434, p1, t2715 => if (decide (x3434 < p1.Height)) = true then (if 0 ≤ w64 (x3434 * p1.Width) ∧ w64 (x3434 * p1.Width) < (p1.Cells.length : Int) then (if 0 ≤ (rdD p1.Cells (w64 (x3434 * p1.Width)) 0) ∧ (rdD p1.Cells (w64 (x3434 * p1.Width)) 0) < (t2715.1.length : Int) then ((if (((rdD t2715.1 (rdD p1.Cells (w64 (x3434 * p1.Width)) 0) z_Tile).W) != 0) = true then (some true) else (if 0 ≤ w64 ((w64 ((w64 (x3434 + 1)) * p1.Width)) - 1) ∧ w64 ((w64 ((w64 (x3434 + 1)) * p1.Width)) - 1) < (p1.Cells.length : Int) then (if 0 ≤ (rdD p1.Cells (w64 ((w64 ((w64 (x3434 + 1)) * p1.Width)) - 1)) 0) ∧ (rdD p1.Cells (w64 ((w64 ((w64 (x3434 + 1)) * p1.Width)) - 1)) 0) < (t2715.1.length : Int) then (some (((rdD t2715.1 (rdD p1.Cells (w64 ((w64 ((w64 (x3434 + 1)) * p1.Width)) - 1)) 0) z_Tile).E) != 0)) else none) else none)).bind fun b3446 => if b3446 = true then ((law08_awake k).bind fun t3452 => some (.inl t3452)) else (law08_MachineOnly.l1 k (w64 (x3434 + 1)) p1 t2715)) else none) else none) else (some (.inr ()))
def law08_MachineOnly (k : Nat) (p0 : Machine) (p1 : Pattern) : Option Bool := if ((decide ((p0.Actions.length : Int) > 200)) || (decide ((p1.Cells.length : Int) > 6000))) = true then ((law08_awake k).bind fun t2710 => some t2710) else ((machine_Tiles k p0).bind fun t2715 => (if (t2715.2 != 0) = true then (some true) else ((tile_Fits k t2715.1 p1).bind fun t3322 => some (!t3322))).bind fun x3319 => if x3319 = true then ((law08_awake k).bind fun t3333 => some t3333) else ((law08_MachineOnly.l0 k ([] : List Int) 0 p1 t2715).bind fun x3378 => (law08_MachineOnly.l1 k 0 p1 t2715).bind fun x3435 => sumb x3435 (fun r => some r) (fun y3460 => (machine_Read k p0 x3378).bind fun t3788 => if (t3788.2 != 0) = true then ((if (t3788.2 == 6) = true then ((law08_awake k).bind fun t3811 => some t3811) else (some false)).bind fun x3808 => some x3808) else ((machine_Picture k p0 t3788.1 p1.Height).bind fun t3821 => (machine_Run k p0 t3788.1 p1.Height).bind fun t3834 => (if ((t3821.2 == 0) && (t3834.2.2 == 0)) = true then ((ref01_SamePattern k p1 t3821.1).bind fun t3931 => some t3931) else (some false)).bind fun x3928 => (if (x3928 && (t3834.2.1 == p1.Height)) = true then ((law08_awake k).bind fun t3952 => some t3952) else (some false)).bind fun x3949 => some x3949))))
end Gp
namespace Gp
open Go Gw Go.Proofs Go.RowKit
def ok_Action (a : Action) : Prop := (ok64 a.Write) ∧ (ok64 a.Move) ∧ (ok64 a.Next)
theorem opn_Action_88 {H : Type} {enc : TypeId × Value → H} {w : World} {base : Nat} {spare : Nat → Bool} {held : Bool} {fuel : Nat} {cs : List Value} {x : DataW H × List MemPlace} (h : DataW.trod enc Try.prog w base spare held fuel 88 cs = some x) : ∃ (a : Action), cs = [.int .i64 a.Write, .int .i64 a.Move, .int .i64 a.Next] ∧ ok_Action a := by
  obtain ⟨hl, n, hf⟩ := opn_fields Try.underlying88 h
  have hl0 : cs.length = 3 := hl.trans (by kernel_rfl)
  obtain ⟨q0, r0, rfl, hl1⟩ := cons_of hl0
  obtain ⟨q1, r1, rfl, hl2⟩ := cons_of hl1
  obtain ⟨q2, r2, rfl, hl3⟩ := cons_of hl2
  obtain rfl := List.eq_nil_of_length_eq_zero hl3
  obtain ⟨y0, h0⟩ := hf 0 _ 1 rfl (by kernel_rfl)
  have h0 : DataW.trod enc Try.prog w base spare held n 3 [q0] = some y0 := h0
  obtain ⟨a0, e0, w0⟩ := opn_int Try.underlying3 h0
  injection e0 with f0 e0
  subst f0
  obtain ⟨y1, h1⟩ := hf 1 _ 1 rfl (by kernel_rfl)
  have h1 : DataW.trod enc Try.prog w base spare held n 3 [q1] = some y1 := h1
  obtain ⟨a1, e1, w1⟩ := opn_int Try.underlying3 h1
  injection e1 with f1 e1
  subst f1
  obtain ⟨y2, h2⟩ := hf 2 _ 1 rfl (by kernel_rfl)
  have h2 : DataW.trod enc Try.prog w base spare held n 3 [q2] = some y2 := h2
  obtain ⟨a2, e2, w2⟩ := opn_int Try.underlying3 h2
  injection e2 with f2 e2
  subst f2
  exact ⟨⟨a0, a1, a2⟩, rfl, ⟨wf64 w0, wf64 w1, wf64 w2⟩⟩
theorem opens_Action_88 : Opens Try.prog 88 enc_Action ok_Action := ⟨by kernel_rfl, by decide, fun h => opn_Action_88 h⟩
def ok_Machine (a : Machine) : Prop := (ok64 a.States) ∧ (ok64 a.Symbols) ∧ ((∀ x ∈ a.Actions, ok_Action x) ∧ a.Actions.length ≤ maxLen)
theorem opn_Machine_24 {H : Type} {enc : TypeId × Value → H} {w : World} {base : Nat} {spare : Nat → Bool} {held : Bool} {fuel : Nat} {cs : List Value} {x : DataW H × List MemPlace} (h : DataW.trod enc Try.prog w base spare held fuel 24 cs = some x) : ∃ (a : Machine) (A0 : Option Addr) (c0 : Nat), cs = [.int .i64 a.States, .int .i64 a.Symbols, .slice A0 a.Actions.length c0] ∧ RO NoS w (rowR enc_Action A0 c0 a.Actions) ∧ ok_Machine a := by
  obtain ⟨hl, n, hf⟩ := opn_fields Try.underlying24 h
  have hl0 : cs.length = 3 := hl.trans (by kernel_rfl)
  obtain ⟨q0, r0, rfl, hl1⟩ := cons_of hl0
  obtain ⟨q1, r1, rfl, hl2⟩ := cons_of hl1
  obtain ⟨q2, r2, rfl, hl3⟩ := cons_of hl2
  obtain rfl := List.eq_nil_of_length_eq_zero hl3
  obtain ⟨y0, h0⟩ := hf 0 _ 1 rfl (by kernel_rfl)
  have h0 : DataW.trod enc Try.prog w base spare held n 3 [q0] = some y0 := h0
  obtain ⟨a0, e0, w0⟩ := opn_int Try.underlying3 h0
  injection e0 with f0 e0
  subst f0
  obtain ⟨y1, h1⟩ := hf 1 _ 1 rfl (by kernel_rfl)
  have h1 : DataW.trod enc Try.prog w base spare held n 3 [q1] = some y1 := h1
  obtain ⟨a1, e1, w1⟩ := opn_int Try.underlying3 h1
  injection e1 with f1 e1
  subst f1
  obtain ⟨y2, h2⟩ := hf 2 _ 1 rfl (by kernel_rfl)
  have h2 : DataW.trod enc Try.prog w base spare held n 22 [q2] = some y2 := h2
  obtain ⟨A2_, c2_, a2, e2, o2, w2, m2⟩ := opn_row Try.underlying22 opens_Action_88 h2
  injection e2 with f2 e2
  subst f2
  exact ⟨⟨a0, a1, a2⟩, A2_, c2_, rfl, o2, ⟨wf64 w0, wf64 w1, ⟨w2, m2⟩⟩⟩
def ok_Pattern (a : Pattern) : Prop := (ok64 a.Width) ∧ (ok64 a.Height) ∧ ((∀ x ∈ a.Cells, ok64 x) ∧ a.Cells.length ≤ maxLen)
theorem opn_Pattern_31 {H : Type} {enc : TypeId × Value → H} {w : World} {base : Nat} {spare : Nat → Bool} {held : Bool} {fuel : Nat} {cs : List Value} {x : DataW H × List MemPlace} (h : DataW.trod enc Try.prog w base spare held fuel 31 cs = some x) : ∃ (a : Pattern) (A0 : Option Addr) (c0 : Nat), cs = [.int .i64 a.Width, .int .i64 a.Height, .slice A0 a.Cells.length c0] ∧ RO NoS w (rowR encInt A0 c0 a.Cells) ∧ ok_Pattern a := by
  obtain ⟨hl, n, hf⟩ := opn_fields Try.underlying31 h
  have hl0 : cs.length = 3 := hl.trans (by kernel_rfl)
  obtain ⟨q0, r0, rfl, hl1⟩ := cons_of hl0
  obtain ⟨q1, r1, rfl, hl2⟩ := cons_of hl1
  obtain ⟨q2, r2, rfl, hl3⟩ := cons_of hl2
  obtain rfl := List.eq_nil_of_length_eq_zero hl3
  obtain ⟨y0, h0⟩ := hf 0 _ 1 rfl (by kernel_rfl)
  have h0 : DataW.trod enc Try.prog w base spare held n 3 [q0] = some y0 := h0
  obtain ⟨a0, e0, w0⟩ := opn_int Try.underlying3 h0
  injection e0 with f0 e0
  subst f0
  obtain ⟨y1, h1⟩ := hf 1 _ 1 rfl (by kernel_rfl)
  have h1 : DataW.trod enc Try.prog w base spare held n 3 [q1] = some y1 := h1
  obtain ⟨a1, e1, w1⟩ := opn_int Try.underlying3 h1
  injection e1 with f1 e1
  subst f1
  obtain ⟨y2, h2⟩ := hf 2 _ 1 rfl (by kernel_rfl)
  have h2 : DataW.trod enc Try.prog w base spare held n 25 [q2] = some y2 := h2
  obtain ⟨A2_, c2_, a2, e2, o2, w2, m2⟩ := opn_row Try.underlying25 (opens_int Try.underlying3 (by kernel_rfl)) h2
  injection e2 with f2 e2
  subst f2
  exact ⟨⟨a0, a1, a2⟩, A2_, c2_, rfl, o2, ⟨wf64 w0, wf64 w1, ⟨w2, m2⟩⟩⟩
end Gp
