/- The functions that the law reaches, as plain functions; how what comes in is opened. -/
import Derived.Test.YtamnfcbekogkdaaGb
set_option linter.unusedVariables false
set_option linter.unusedSimpArgs false
namespace Gp
open Go Gw
structure BoundsError where
  x : Int
  y : Int
  signed : Bool
  code : Int
  deriving DecidableEq
def z_BoundsError : BoundsError := ⟨0, 0, false, 0⟩
def enc_BoundsError : Enc BoundsError := ⟨4, fun x => [(.int .i64 x.x), (.int .i64 x.y), (.bool x.signed), (.int .u8 x.code)], fun _ => rfl, fun x u h => by simp at h; rcases h with rfl | rfl | rfl | rfl <;> rfl⟩
structure Action where
  Write : Int
  Move : Int
  Next : Int
  deriving DecidableEq
def z_Action : Action := ⟨0, 0, 0⟩
def enc_Action : Enc Action := ⟨3, fun x => [(.int .i64 x.Write), (.int .i64 x.Move), (.int .i64 x.Next)], fun _ => rfl, fun x u h => by simp at h; rcases h with rfl | rfl | rfl <;> rfl⟩
structure Machine where
  States : Int
  Symbols : Int
  Actions : List Action
  deriving DecidableEq
def z_Machine : Machine := ⟨0, 0, []⟩
structure Config where
  State : Int
  At : Int
  Cells : List Int
  deriving DecidableEq
def z_Config : Config := ⟨0, 0, []⟩
structure Pattern where
  Width : Int
  Height : Int
  Cells : List Int
  deriving DecidableEq
def z_Pattern : Pattern := ⟨0, 0, []⟩
structure Tile where
  N : Int
  E : Int
  S : Int
  W : Int
  deriving DecidableEq
def z_Tile : Tile := ⟨0, 0, 0, 0⟩
def enc_Tile : Enc Tile := ⟨4, fun x => [(.int .i64 x.N), (.int .i64 x.E), (.int .i64 x.S), (.int .i64 x.W)], fun _ => rfl, fun x u h => by simp at h; rcases h with rfl | rfl | rfl | rfl <;> rfl⟩
structure Shown where
  P : Pattern
  Height : Int
  deriving DecidableEq
def z_Shown : Shown := ⟨z_Pattern, 0⟩
structure Runner where
  m : Machine
  Config : Config
  deriving DecidableEq
def z_Runner : Runner := ⟨z_Machine, z_Config⟩
structure Kit where
  m : Machine
  set : List Tile
  does : List Int
  base : Int
  deriving DecidableEq
def z_Kit : Kit := ⟨z_Machine, [], [], 0⟩
def law08_wide (p0 : Machine) (p1 : Config) : Option Bool := some ((decide ((p0.Actions.length : Int) > 200)) || (decide ((p1.Cells.length : Int) > 1000)))
def law08_goes  : Option Machine := some (Machine.mk 1 2 [(Action.mk 1 1 0), (Action.mk 1 1 0)])
def machine_action (p0 : Machine) (p1 : Action) : Option Bool := if (p1.Next == p0.States) = true then (some ((p1.Write == 0) && (p1.Move == 0))) else (some ((((((decide (p1.Write ≥ 0)) && (decide (p1.Write < p0.Symbols))) && (decide (p1.Move ≥ 0))) && (decide (p1.Move < 2))) && (decide (p1.Next ≥ 0))) && (decide (p1.Next < p0.States))))
def machine_Valid_1 (p0 : Action) (f0 : Machine) : Option Bool := (machine_action f0 p0).bind fun t88 => some (!t88)
def slices_IndexFunc_api_Action_api_Action_with_machine_Valid_1.l0 : Nat → Int → (List Action) → Machine → Option (Sum Int Unit)
  | 0, _, _, _ => none
  | k + 1, x108, p0, p1_0 => if (decide (x108 < (p0.length : Int))) = true then (if 0 ≤ x108 ∧ x108 < (p0.length : Int) then ((machine_Valid_1 (rdD p0 x108 z_Action) p1_0).bind fun t117 => if t117 = true then (some (.inl x108)) else (slices_IndexFunc_api_Action_api_Action_with_machine_Valid_1.l0 k (w64 (x108 + 1)) p0 p1_0)) else none) else (some (.inr ()))
def slices_IndexFunc_api_Action_api_Action_with_machine_Valid_1 (k : Nat) (p0 : List Action) (p1_0 : Machine) : Option Int := (slices_IndexFunc_api_Action_api_Action_with_machine_Valid_1.l0 k 0 p0 p1_0).bind fun x109 => sumb x109 (fun r => some r) (fun y126 => some (-1))
def slices_ContainsFunc_api_Action_api_Action_with_machine_Valid_1 (k : Nat) (p0 : List Action) (p1_0 : Machine) : Option Bool := (slices_IndexFunc_api_Action_api_Action_with_machine_Valid_1 k p0 p1_0).bind fun t128 => some (decide (t128 ≥ 0))
def machine_Valid (k : Nat) (p0 : Machine) : Option Bool := (if (((((decide (p0.States ≥ 1)) && (decide (p0.States ≤ 6))) && (decide (p0.Symbols ≥ 2))) && (decide (p0.Symbols ≤ 4))) && ((p0.Actions.length : Int) == (w64 (p0.States * p0.Symbols)))) = true then ((slices_ContainsFunc_api_Action_api_Action_with_machine_Valid_1 k p0.Actions p0).bind fun t142 => some (!t142)) else (some false)).bind fun x139 => some x139
def machine_head (p0 : Machine) (p1 : Int) (p2 : Int) : Option Int := some (w64 ((w64 (p0.Symbols + (w64 (p1 * p0.Symbols)))) + p2))
def machine_kit_signal (p0 : Kit) (p1 : Int) (p2 : Int) : Option Int := if (p1 == 1) = true then (some (w64 (1 + p2))) else (some (w64 ((w64 (1 + p0.m.States)) + p2)))
def machine_kit_acts (p0 : Kit) (p1 : Int) (p2 : Int) (p3 : Action) : Option Tile := ((machine_head p0.m p1 p2).bind fun t337 => some (p3.Write, 0, t337, 0)).bind fun x333 => if (p3.Move == 0) = true then ((machine_kit_signal p0 p3.Move p3.Next).bind fun t365 => some (Tile.mk x333.1 x333.2.1 x333.2.2.1 t365)) else (if (p3.Move == 1) = true then ((machine_kit_signal p0 p3.Move p3.Next).bind fun t375 => some (Tile.mk x333.1 t375 x333.2.2.1 x333.2.2.2)) else (none))
def machine_kitOf.l0 : Nat → (List Tile) → Int → Machine → Option (List Tile)
  | 0, _, _, _ => none
  | k + 1, l202, x203, p0 => if (decide (x203 < p0.Symbols)) = true then (if l202.length + [(Tile.mk x203 0 x203 0)].length ≤ 100000000000 then (machine_kitOf.l0 k (l202 ++ [(Tile.mk x203 0 x203 0)]) (w64 (x203 + 1)) p0) else none) else (some l202)
def machine_kitOf.l1 : Nat → (List Tile) → (List Int) → Int → Machine → Option ((List Tile) × (List Int))
  | 0, _, _, _, _ => none
  | k + 1, l716, l719, x720, p0 => if (decide (x720 < (p0.Actions.length : Int))) = true then ((if 0 ≤ x720 ∧ x720 < (p0.Actions.length : Int) then (if (((rdD p0.Actions x720 z_Action).Next) == p0.States) = true then (if l719.length + [(-1)].length ≤ 100000000000 then (some (l716, l719 ++ [(-1)])) else none) else (if l719.length + [(l716.length : Int)].length ≤ 100000000000 then (if p0.Symbols ≠ 0 then ((machine_kit_acts (Kit.mk p0 l716 (l719 ++ [(l716.length : Int)]) 0) (w64 (Int.tdiv x720 p0.Symbols)) (Int.tmod x720 p0.Symbols) (rdD p0.Actions x720 z_Action)).bind fun t895 => if l716.length + [t895].length ≤ 100000000000 then (some (l716 ++ [t895], l719 ++ [(l716.length : Int)])) else none) else none) else none)) else none).bind fun x825 => machine_kitOf.l1 k x825.1 x825.2 (w64 (x720 + 1)) p0) else (some (l716, l719))
def machine_kitOf.l3 : Nat → (List Tile) → Int → Machine → ((List Tile) × (List Int)) → Int → Option (List Tile)
  | 0, _, _, _, _, _ => none
  | k + 1, l1406, x1407, p0, x727, x1285 => if (decide (x1407 < p0.Symbols)) = true then ((machine_head p0 x1285 x1407).bind fun t1418 => (machine_kit_signal (Kit.mk p0 l1406 x727.2 (x727.1.length : Int)) 1 x1285).bind fun t1447 => (machine_kit_signal (Kit.mk p0 l1406 x727.2 (x727.1.length : Int)) 0 x1285).bind fun t1452 => if l1406.length + [(Tile.mk t1418 0 x1407 t1447), (Tile.mk t1418 t1452 x1407 0)].length ≤ 100000000000 then (machine_kitOf.l3 k (l1406 ++ [(Tile.mk t1418 0 x1407 t1447), (Tile.mk t1418 t1452 x1407 0)]) (w64 (x1407 + 1)) p0 x727 x1285) else none) else (some l1406)
def machine_kitOf.l2 : Nat → (List Tile) → Int → Machine → ((List Tile) × (List Int)) → Option (List Tile)
  | 0, _, _, _, _ => none
  | k + 1, l1284, x1285, p0, x727 => if (decide (x1285 < p0.States)) = true then ((machine_kitOf.l3 k l1284 0 p0 x727 x1285).bind fun x1411 => machine_kitOf.l2 k x1411 (w64 (x1285 + 1)) p0 x727) else (some l1284)
def machine_kitOf (k : Nat) (p0 : Machine) : Option Kit := (machine_kitOf.l0 k ([] : List Tile) 0 p0).bind fun x207 => (machine_kitOf.l1 k x207 ([] : List Int) 0 p0).bind fun x727 => (machine_kitOf.l2 k x727.1 0 p0 x727).bind fun x1289 => some (Kit.mk p0 x1289 x727.2 (x727.1.length : Int))
def machine_Tiles (k : Nat) (p0 : Machine) : Option ((List Tile) × Int) := (machine_Valid k p0).bind fun t152 => if (!t152) = true then (some (([] : List Tile), 1)) else ((machine_kitOf k p0).bind fun t1477 => some (t1477.set, 0))
def machine_Fits_1 (p0 : Int) (f0 : Machine) : Option Bool := some ((decide (p0 < 0)) || (decide (p0 ≥ f0.Symbols)))
def slices_IndexFunc_int_int_with_machine_Fits_1.l0 : Nat → Int → (List Int) → Machine → Option (Sum Int Unit)
  | 0, _, _, _ => none
  | k + 1, x1562, p0, p1_0 => if (decide (x1562 < (p0.length : Int))) = true then (if 0 ≤ x1562 ∧ x1562 < (p0.length : Int) then ((machine_Fits_1 (rdD p0 x1562 0) p1_0).bind fun t1571 => if t1571 = true then (some (.inl x1562)) else (slices_IndexFunc_int_int_with_machine_Fits_1.l0 k (w64 (x1562 + 1)) p0 p1_0)) else none) else (some (.inr ()))
def slices_IndexFunc_int_int_with_machine_Fits_1 (k : Nat) (p0 : List Int) (p1_0 : Machine) : Option Int := (slices_IndexFunc_int_int_with_machine_Fits_1.l0 k 0 p0 p1_0).bind fun x1563 => sumb x1563 (fun r => some r) (fun y1580 => some (-1))
def slices_ContainsFunc_int_int_with_machine_Fits_1 (k : Nat) (p0 : List Int) (p1_0 : Machine) : Option Bool := (slices_IndexFunc_int_int_with_machine_Fits_1 k p0 p1_0).bind fun t1582 => some (decide (t1582 ≥ 0))
def machine_Fits (k : Nat) (p0 : Machine) (p1 : Config) : Option Bool := (machine_Valid k p0).bind fun t1526 => (if ((((((t1526 && (decide (p1.State ≥ 0))) && (decide (p1.State < p0.States))) && (decide ((p1.Cells.length : Int) ≥ 1))) && (decide ((p1.Cells.length : Int) ≤ 200))) && (decide (p1.At ≥ 0))) && (decide (p1.At < (p1.Cells.length : Int)))) = true then ((slices_ContainsFunc_int_int_with_machine_Fits_1 k p1.Cells p0).bind fun t1596 => some (!t1596)) else (some false)).bind fun x1593 => some x1593
def slices_Clone_int_int_nil (p0 : List Int) : Option (List Int) := some ([] : List Int)
def slices_Clone_int_int_some (p0 : List Int) : Option (List Int) := if ([] : List Int).length + p0.length ≤ 100000000000 then (some (([] : List Int) ++ p0)) else none
def slices_Clone_int_int (p0 : List Int) : Option (List Int) := slices_Clone_int_int_some p0
def machine_begin (p0 : Machine) (p1 : Config) : Option Runner := (slices_Clone_int_int p1.Cells).bind fun t1640 => some (Runner.mk p0 (Config.mk p1.State p1.At t1640))
def machine_runner_does (p0 : Runner) : Option Int := if 0 ≤ p0.Config.At ∧ p0.Config.At < (p0.Config.Cells.length : Int) then (some (w64 ((w64 (p0.Config.State * p0.m.Symbols)) + (rdD p0.Config.Cells p0.Config.At 0)))) else none
def machine_runner_step (p0 : Runner) : Option (Int × Runner) := ((machine_runner_does p0).bind fun t1831 => if 0 ≤ t1831 ∧ t1831 < (p0.m.Actions.length : Int) then (some ((rdD p0.m.Actions t1831 z_Action).Write, (rdD p0.m.Actions t1831 z_Action).Move, (rdD p0.m.Actions t1831 z_Action).Next)) else none).bind fun x1827 => if (x1827.2.2 == p0.m.States) = true then (some (5, p0)) else (if ((decide (w64 ((w64 (p0.Config.At + (w64 (2 * x1827.2.1)))) - 1) < 0)) || (decide (w64 ((w64 (p0.Config.At + (w64 (2 * x1827.2.1)))) - 1) ≥ (p0.Config.Cells.length : Int)))) = true then (some (6, p0)) else (if 0 ≤ p0.Config.At ∧ p0.Config.At < (p0.Config.Cells.length : Int) then (some (0, (Runner.mk p0.m (Config.mk x1827.2.2 (w64 ((w64 (p0.Config.At + (w64 (2 * x1827.2.1)))) - 1)) (p0.Config.Cells.set (p0.Config.At).toNat x1827.1))))) else none))
def machine_Run.l0 : Nat → Int → Int → Int → Int → (List Int) → Int → Machine → Int → Option (Int × Int × Int × Int × (List Int) × Int)
  | 0, _, _, _, _, _, _, _, _ => none
  | k + 1, x1970, x1971, x1972, x1973, l1976, x1977, p0, p2 => (if (decide (x1977 < p2)) = true then ((machine_runner_step (Runner.mk (Machine.mk x1970 x1971 p0.Actions) (Config.mk x1972 x1973 l1976))).bind fun t2010 => some (t2010.2.m.States, t2010.2.m.Symbols, t2010.2.Config.State, t2010.2.Config.At, t2010.2.Config.Cells, t2010.1 == 0)) else (some (x1970, x1971, x1972, x1973, l1976, false))).bind fun x2007 => if x2007.2.2.2.2.2 = true then (machine_Run.l0 k x2007.1 x2007.2.1 x2007.2.2.1 x2007.2.2.2.1 x2007.2.2.2.2.1 (w64 (x1977 + 1)) p0 p2) else (some (x2007.1, x2007.2.1, x2007.2.2.1, x2007.2.2.2.1, x2007.2.2.2.2.1, x1977))
def machine_Run (k : Nat) (p0 : Machine) (p1 : Config) (p2 : Int) : Option (Config × Int × Int) := (machine_Fits k p0 p1).bind fun t1606 => if (!t1606) = true then (some ((Config.mk 0 0 ([] : List Int)), 0, 1)) else (if ((decide (p2 < 0)) || (decide (p2 > 100000))) = true then (some ((Config.mk 0 0 ([] : List Int)), 0, 2)) else ((machine_begin p0 p1).bind fun t1653 => (machine_Run.l0 k t1653.m.States t1653.m.Symbols t1653.Config.State t1653.Config.At t1653.Config.Cells 0 p0 p2).bind fun x1986 => some ((Config.mk x1986.2.2.1 x1986.2.2.2.1 x1986.2.2.2.2.1), x1986.2.2.2.2.2, 0)))
def machine_kit_row.l0 : Nat → (List Int) → Int → Kit → Runner → (Int × Int × Int) → Option (List Int)
  | 0, _, _, _, _, _ => none
  | k + 1, l2418, x2419, p0, p1, x2213 => if (decide (x2419 < (p1.Config.Cells.length : Int))) = true then (if 0 ≤ x2419 ∧ x2419 < (p1.Config.Cells.length : Int) then ((if (x2419 == p1.Config.At) = true then ((machine_runner_does p1).bind fun t2471 => if 0 ≤ t2471 ∧ t2471 < (p0.does.length : Int) then (some (rdD p0.does t2471 0)) else none) else ((if (x2419 == (w64 ((w64 (p1.Config.At + (w64 (2 * x2213.2.1)))) - 1))) = true then (some (w64 ((w64 ((w64 (p0.base + (w64 (2 * (w64 ((w64 (x2213.2.2 * p1.m.Symbols)) + (rdD p1.Config.Cells x2419 0))))))) + 1)) - x2213.2.1))) else (some (rdD p1.Config.Cells x2419 0))).bind fun x2481 => some x2481)).bind fun x2460 => if l2418.length + [x2460].length ≤ 100000000000 then (machine_kit_row.l0 k (l2418 ++ [x2460]) (w64 (x2419 + 1)) p0 p1 x2213) else none) else none) else (some l2418)
def machine_kit_row (k : Nat) (p0 : Kit) (p1 : Runner) : Option (List Int) := ((machine_runner_does p1).bind fun t2217 => if 0 ≤ t2217 ∧ t2217 < (p1.m.Actions.length : Int) then (some ((rdD p1.m.Actions t2217 z_Action).Write, (rdD p1.m.Actions t2217 z_Action).Move, (rdD p1.m.Actions t2217 z_Action).Next)) else none).bind fun x2213 => (machine_kit_row.l0 k ([] : List Int) 0 p0 p1 x2213).bind fun x2423 => some x2423
def machine_Picture.l0 : Nat → Int → Int → Int → Int → (List Int) → (List Int) → Int → Machine → Int → Kit → Option (Sum (Pattern × Int) (List Int))
  | 0, _, _, _, _, _, _, _, _, _, _ => none
  | k + 1, x2615, x2616, x2617, x2618, l2621, l2624, x2625, p0, p2, t2105 => if (decide (x2625 < p2)) = true then ((machine_begin p0 (Config.mk x2617 x2618 l2621)).bind fun t2646 => (machine_runner_step (Runner.mk (Machine.mk t2646.m.States t2646.m.Symbols p0.Actions) t2646.Config)).bind fun t2654 => if (t2654.1 != 0) = true then (some (.inl ((Pattern.mk 0 0 ([] : List Int)), 6))) else ((machine_kit_row k (Kit.mk (Machine.mk t2105.m.States t2105.m.Symbols p0.Actions) t2105.set t2105.does t2105.base) (Runner.mk (Machine.mk x2615 x2616 p0.Actions) (Config.mk x2617 x2618 l2621))).bind fun t2681 => if l2624.length + t2681.length ≤ 100000000000 then (machine_Picture.l0 k t2654.2.m.States t2654.2.m.Symbols t2654.2.Config.State t2654.2.Config.At t2654.2.Config.Cells (l2624 ++ t2681) (w64 (x2625 + 1)) p0 p2 t2105) else none)) else (some (.inr l2624))
def machine_Picture (k : Nat) (p0 : Machine) (p1 : Config) (p2 : Int) : Option (Pattern × Int) := (machine_Fits k p0 p1).bind fun t2066 => if (!t2066) = true then (some ((Pattern.mk 0 0 ([] : List Int)), 1)) else (if (decide (p2 < 1)) = true then (some ((Pattern.mk 0 0 ([] : List Int)), 2)) else (if ((decide (p2 > 40000)) || (decide (w64 ((p1.Cells.length : Int) * p2) > 40000))) = true then (some ((Pattern.mk 0 0 ([] : List Int)), 4)) else ((machine_kitOf k p0).bind fun t2105 => (machine_begin p0 p1).bind fun t2115 => (machine_Picture.l0 k t2115.m.States t2115.m.Symbols t2115.Config.State t2115.Config.At t2115.Config.Cells ([] : List Int) 0 p0 p2 t2105).bind fun x2629 => sumb x2629 (fun r => some r) (fun y2698 => some ((Pattern.mk (p1.Cells.length : Int) p2 y2698), 0)))))
def law08_awake (k : Nat)  : Option Bool := (law08_goes).bind fun t38 => (machine_Tiles k t38).bind fun t1487 => (law08_goes).bind fun t1494 => (machine_Run k t1494 (Config.mk 0 0 [0, 0, 0]) 9).bind fun t2029 => (law08_goes).bind fun t2042 => (machine_Picture k t2042 (Config.mk 0 0 [0, 0, 0]) 3).bind fun t2702 => some ((((((t1487.2 == 0) && ((t1487.1.length : Int) == 8)) && (t2029.2.2 == 0)) && (t2029.2.1 == 2)) && (t2029.1.At == 2)) && (t2702.2 == 6))
def machine_colours (p0 : Machine) (p1 : Config) : Option (List Int) := (slices_Clone_int_int p1.Cells).bind fun t2760 => if 0 ≤ p1.At ∧ p1.At < (t2760.length : Int) then ((machine_head p0 p1.State (rdD t2760 p1.At 0)).bind fun t2779 => some (t2760.set (p1.At).toNat t2779)) else none
def machine_Colours (k : Nat) (p0 : Machine) (p1 : Config) : Option ((List Int) × Int) := (machine_Fits k p0 p1).bind fun t2745 => if (!t2745) = true then (some (([] : List Int), 1)) else ((machine_colours p0 p1).bind fun t2786 => some (t2786, 0))
def machine_Read.l0 : Nat → Int → Int → (List Int) → Int → Int → Machine → (List Int) → Option (Int × Int × (List Int) × Int)
  | 0, _, _, _, _, _, _, _ => none
  | k + 1, x3019, x3020, l3023, x3024, x3025, p0, p1 => if (decide (x3025 < (p1.length : Int))) = true then ((if 0 ≤ x3025 ∧ x3025 < (p1.length : Int) then (if (decide ((rdD p1 x3025 0) < p0.Symbols)) = true then (some (x3019, x3020, l3023, x3024)) else (if p0.Symbols ≠ 0 then (if 0 ≤ x3025 ∧ x3025 < (l3023.length : Int) then (some (w64 (Int.tdiv (w64 ((rdD p1 x3025 0) - p0.Symbols)) p0.Symbols), x3025, l3023.set (x3025).toNat (Int.tmod (w64 ((rdD p1 x3025 0) - p0.Symbols)) p0.Symbols), w64 (x3024 + 1))) else none) else none)) else none).bind fun x3068 => machine_Read.l0 k x3068.1 x3068.2.1 x3068.2.2.1 x3068.2.2.2 (w64 (x3025 + 1)) p0 p1) else (some (x3019, x3020, l3023, x3024))
def machine_Read (k : Nat) (p0 : Machine) (p1 : List Int) : Option (Config × Int) := (machine_Valid k p0).bind fun t2808 => if (!t2808) = true then (some ((Config.mk 0 0 ([] : List Int)), 1)) else ((slices_Clone_int_int p1).bind fun t2817 => (machine_Read.l0 k 0 0 t2817 0 0 p0 p1).bind fun x3032 => (if (x3032.2.2.2 != 1) = true then (some true) else ((machine_Fits k p0 (Config.mk x3032.1 x3032.2.1 x3032.2.2.1)).bind fun t3110 => some (!t3110))).bind fun x3107 => if x3107 = true then (some ((Config.mk 0 0 ([] : List Int)), 6)) else (some ((Config.mk x3032.1 x3032.2.1 x3032.2.2.1), 0)))
def ref08_Valid.l0 : Nat → Int → Machine → Option (Sum Bool Unit)
  | 0, _, _ => none
  | k + 1, x3209, p0 => if (decide (x3209 < (p0.Actions.length : Int))) = true then (if 0 ≤ x3209 ∧ x3209 < (p0.Actions.length : Int) then (if (((((decide ((rdD p0.Actions x3209 z_Action).Write < 0)) || (decide ((rdD p0.Actions x3209 z_Action).Write ≥ p0.Symbols))) || ((((rdD p0.Actions x3209 z_Action).Move) != 0) && (((rdD p0.Actions x3209 z_Action).Move) != 1))) || (decide ((rdD p0.Actions x3209 z_Action).Next < 0))) || (decide ((rdD p0.Actions x3209 z_Action).Next > p0.States))) = true then (some (.inl false)) else (if ((((rdD p0.Actions x3209 z_Action).Next) == p0.States) && ((((rdD p0.Actions x3209 z_Action).Write) != 0) || (((rdD p0.Actions x3209 z_Action).Move) != 0))) = true then (some (.inl false)) else (ref08_Valid.l0 k (w64 (x3209 + 1)) p0))) else none) else (some (.inr ()))
def ref08_Valid (k : Nat) (p0 : Machine) : Option Bool := if (((((decide (p0.States < 1)) || (decide (p0.States > 6))) || (decide (p0.Symbols < 2))) || (decide (p0.Symbols > 4))) || ((p0.Actions.length : Int) != (w64 (p0.States * p0.Symbols)))) = true then (some false) else ((ref08_Valid.l0 k 0 p0).bind fun x3210 => sumb x3210 (fun r => some r) (fun y3247 => some true))
def ref08_SameConfig.l0 : Nat → Int → Config → Config → Option (Sum Bool Unit)
  | 0, _, _, _ => none
  | k + 1, x3295, p0, p1 => if (decide (x3295 < (p0.Cells.length : Int))) = true then (if 0 ≤ x3295 ∧ x3295 < (p0.Cells.length : Int) then (if 0 ≤ x3295 ∧ x3295 < (p1.Cells.length : Int) then (if ((rdD p0.Cells x3295 0) != (rdD p1.Cells x3295 0)) = true then (some (.inl false)) else (ref08_SameConfig.l0 k (w64 (x3295 + 1)) p0 p1)) else none) else none) else (some (.inr ()))
def ref08_SameConfig (k : Nat) (p0 : Config) (p1 : Config) : Option Bool := if (((p0.State != p1.State) || (p0.At != p1.At)) || ((p0.Cells.length : Int) != (p1.Cells.length : Int))) = true then (some false) else ((ref08_SameConfig.l0 k 0 p0 p1).bind fun x3296 => sumb x3296 (fun r => some r) (fun y3315 => some true))
def ref08_both (p0 : Machine) (p1 : Int) (p2 : Int) : Option Int := some (w64 ((w64 (p0.Symbols + (w64 (p1 * p0.Symbols)))) + p2))
def ref08_Tiles.l0 : Nat → (List Tile) → Int → Machine → Option (List Tile)
  | 0, _, _, _ => none
  | k + 1, l3390, x3391, p0 => if (decide (x3391 < p0.Symbols)) = true then (if l3390.length + [(Tile.mk x3391 0 x3391 0)].length ≤ 100000000000 then (ref08_Tiles.l0 k (l3390 ++ [(Tile.mk x3391 0 x3391 0)]) (w64 (x3391 + 1)) p0) else none) else (some l3390)
def ref08_Tiles.l2 : Nat → (List Tile) → Int → Machine → Int → Option (List Tile)
  | 0, _, _, _, _ => none
  | k + 1, l5264, x5265, p0, x4803 => if (decide (x5265 < p0.Symbols)) = true then ((if 0 ≤ w64 ((w64 (x4803 * p0.Symbols)) + x5265) ∧ w64 ((w64 (x4803 * p0.Symbols)) + x5265) < (p0.Actions.length : Int) then (if (((rdD p0.Actions (w64 ((w64 (x4803 * p0.Symbols)) + x5265)) z_Action).Next) == p0.States) = true then (some l5264) else (((ref08_both p0 x4803 x5265).bind fun t5439 => some ((rdD p0.Actions (w64 ((w64 (x4803 * p0.Symbols)) + x5265)) z_Action).Write, 0, t5439, 0)).bind fun x5435 => (if (((rdD p0.Actions (w64 ((w64 (x4803 * p0.Symbols)) + x5265)) z_Action).Move) == 1) = true then (some (w64 (1 + ((rdD p0.Actions (w64 ((w64 (x4803 * p0.Symbols)) + x5265)) z_Action).Next)), x5435.2.2.2)) else (some (x5435.2.1, w64 ((w64 (1 + p0.States)) + ((rdD p0.Actions (w64 ((w64 (x4803 * p0.Symbols)) + x5265)) z_Action).Next))))).bind fun x5472 => if l5264.length + [(Tile.mk x5435.1 x5472.1 x5435.2.2.1 x5472.2)].length ≤ 100000000000 then (some (l5264 ++ [(Tile.mk x5435.1 x5472.1 x5435.2.2.1 x5472.2)])) else none)) else none).bind fun x5385 => ref08_Tiles.l2 k x5385 (w64 (x5265 + 1)) p0 x4803) else (some l5264)
def ref08_Tiles.l1 : Nat → (List Tile) → Int → Machine → Option (List Tile)
  | 0, _, _, _ => none
  | k + 1, l4802, x4803, p0 => if (decide (x4803 < p0.States)) = true then ((ref08_Tiles.l2 k l4802 0 p0 x4803).bind fun x5269 => ref08_Tiles.l1 k x5269 (w64 (x4803 + 1)) p0) else (some l4802)
def ref08_Tiles.l4 : Nat → (List Tile) → Int → Machine → Int → Option (List Tile)
  | 0, _, _, _, _ => none
  | k + 1, l5917, x5918, p0, x5814 => if (decide (x5918 < p0.Symbols)) = true then ((ref08_both p0 x5814 x5918).bind fun t5951 => (ref08_both p0 x5814 x5918).bind fun t5956 => if l5917.length + [(Tile.mk t5951 0 x5918 (w64 (1 + x5814))), (Tile.mk t5956 (w64 ((w64 (1 + p0.States)) + x5814)) x5918 0)].length ≤ 100000000000 then (ref08_Tiles.l4 k (l5917 ++ [(Tile.mk t5951 0 x5918 (w64 (1 + x5814))), (Tile.mk t5956 (w64 ((w64 (1 + p0.States)) + x5814)) x5918 0)]) (w64 (x5918 + 1)) p0 x5814) else none) else (some l5917)
def ref08_Tiles.l3 : Nat → (List Tile) → Int → Machine → Option (List Tile)
  | 0, _, _, _ => none
  | k + 1, l5813, x5814, p0 => if (decide (x5814 < p0.States)) = true then ((ref08_Tiles.l4 k l5813 0 p0 x5814).bind fun x5922 => ref08_Tiles.l3 k x5922 (w64 (x5814 + 1)) p0) else (some l5813)
def ref08_Tiles (k : Nat) (p0 : Machine) : Option (List Tile) := (ref08_Tiles.l0 k ([] : List Tile) 0 p0).bind fun x3395 => (ref08_Tiles.l1 k x3395 0 p0).bind fun x4807 => (ref08_Tiles.l3 k x4807 0 p0).bind fun x5818 => some x5818
def ref01_SameSet.l0 : Nat → Int → (List Tile) → (List Tile) → Option (Sum Bool Unit)
  | 0, _, _, _ => none
  | k + 1, x6008, p0, p1 => if (decide (x6008 < (p0.length : Int))) = true then (if 0 ≤ x6008 ∧ x6008 < (p0.length : Int) then (if 0 ≤ x6008 ∧ x6008 < (p1.length : Int) then (if (!(((rdD p0 x6008 z_Tile).N) == ((rdD p1 x6008 z_Tile).N) && (((rdD p0 x6008 z_Tile).E) == ((rdD p1 x6008 z_Tile).E) && (((rdD p0 x6008 z_Tile).S) == ((rdD p1 x6008 z_Tile).S) && (((rdD p0 x6008 z_Tile).W) == ((rdD p1 x6008 z_Tile).W)))))) = true then (some (.inl false)) else (ref01_SameSet.l0 k (w64 (x6008 + 1)) p0 p1)) else none) else none) else (some (.inr ()))
def ref01_SameSet (k : Nat) (p0 : List Tile) (p1 : List Tile) : Option Bool := if ((p0.length : Int) != (p1.length : Int)) = true then (some false) else ((ref01_SameSet.l0 k 0 p0 p1).bind fun x6009 => sumb x6009 (fun r => some r) (fun y6028 => some true))
def ref08_Fits.l0 : Nat → Int → Machine → Config → Option (Sum Bool Unit)
  | 0, _, _, _ => none
  | k + 1, x6433, p0, p1 => if (decide (x6433 < (p1.Cells.length : Int))) = true then ((if (decide ((rdD p1.Cells x6433 0) < 0)) = true then (if 0 ≤ x6433 ∧ x6433 < (p1.Cells.length : Int) then (some true) else none) else (if 0 ≤ x6433 ∧ x6433 < (p1.Cells.length : Int) then (some (decide ((rdD p1.Cells x6433 0) ≥ p0.Symbols))) else none)).bind fun x6455 => if x6455 = true then (some (.inl false)) else (ref08_Fits.l0 k (w64 (x6433 + 1)) p0 p1)) else (some (.inr ()))
def ref08_Fits (k : Nat) (p0 : Machine) (p1 : Config) : Option Bool := (ref08_Valid k p0).bind fun t6346 => if (((((((!t6346) || (decide (p1.State < 0))) || (decide (p1.State ≥ p0.States))) || (decide ((p1.Cells.length : Int) < 1))) || (decide ((p1.Cells.length : Int) > 200))) || (decide (p1.At < 0))) || (decide (p1.At ≥ (p1.Cells.length : Int)))) = true then (some false) else ((ref08_Fits.l0 k 0 p0 p1).bind fun x6434 => sumb x6434 (fun r => some r) (fun y6477 => some true))
def ref08_Read.l0 : Nat → Int → Int → (List Int) → Int → Int → Machine → (List Int) → Option (Int × Int × (List Int) × Int)
  | 0, _, _, _, _, _, _, _ => none
  | k + 1, x6258, x6259, l6262, x6263, x6264, p0, p1 => if ((decide (x6264 < (p1.length : Int))) && (decide (x6264 ≤ 200))) = true then (if 0 ≤ x6264 ∧ x6264 < (p1.length : Int) then ((if (decide ((rdD p1 x6264 0) ≥ p0.Symbols)) = true then ((ref08_both p0 p0.States 0).bind fun t6290 => some (decide ((rdD p1 x6264 0) < t6290))) else (some false)).bind fun x6287 => (if x6287 = true then (if p0.Symbols ≠ 0 then (some (w64 (Int.tdiv (w64 ((rdD p1 x6264 0) - p0.Symbols)) p0.Symbols), x6264, w64 (x6263 + 1), Int.tmod (rdD p1 x6264 0) p0.Symbols)) else none) else (some (x6258, x6259, x6263, (rdD p1 x6264 0)))).bind fun x6310 => if l6262.length + [x6310.2.2.2].length ≤ 100000000000 then (ref08_Read.l0 k x6310.1 x6310.2.1 (l6262 ++ [x6310.2.2.2]) x6310.2.2.1 (w64 (x6264 + 1)) p0 p1) else none) else none) else (some (x6258, x6259, l6262, x6263))
def ref08_Read (k : Nat) (p0 : Machine) (p1 : List Int) : Option (Config × Bool) := (ref08_Read.l0 k 0 0 ([] : List Int) 0 0 p0 p1).bind fun x6271 => (if (x6271.2.2.2 != 1) = true then (some true) else ((ref08_Fits k p0 (Config.mk x6271.1 x6271.2.1 x6271.2.2.1)).bind fun t6488 => some (!t6488))).bind fun x6485 => if x6485 = true then (some ((Config.mk 0 0 ([] : List Int)), false)) else (some ((Config.mk x6271.1 x6271.2.1 x6271.2.2.1), true))
def ref08_Colours (p0 : Machine) (p1 : Config) : Option (List Int) := if ([] : List Int).length + p1.Cells.length ≤ 100000000000 then (if 0 ≤ p1.At ∧ p1.At < (p1.Cells.length : Int) then ((ref08_both p0 p1.State (rdD p1.Cells p1.At 0)).bind fun t6677 => if 0 ≤ p1.At ∧ p1.At < ((([] : List Int) ++ p1.Cells).length : Int) then (some ((([] : List Int) ++ p1.Cells).set (p1.At).toNat t6677)) else none) else none) else none
def ref01_Same.l0 : Nat → Int → (List Int) → (List Int) → Option (Sum Bool Unit)
  | 0, _, _, _ => none
  | k + 1, x6714, p0, p1 => if (decide (x6714 < (p0.length : Int))) = true then (if 0 ≤ x6714 ∧ x6714 < (p0.length : Int) then (if 0 ≤ x6714 ∧ x6714 < (p1.length : Int) then (if ((rdD p0 x6714 0) != (rdD p1 x6714 0)) = true then (some (.inl false)) else (ref01_Same.l0 k (w64 (x6714 + 1)) p0 p1)) else none) else none) else (some (.inr ()))
def ref01_Same (k : Nat) (p0 : List Int) (p1 : List Int) : Option Bool := if ((p0.length : Int) != (p1.length : Int)) = true then (some false) else ((ref01_Same.l0 k 0 p0 p1).bind fun x6715 => sumb x6715 (fun r => some r) (fun y6734 => some true))
def law08_MachineTiles (k : Nat) (p0 : Machine) (p1 : Config) (p2 : List Int) : Option Bool := (law08_wide p0 p1).bind fun t19 => if (t19 || (decide ((p2.length : Int) > 1000))) = true then ((law08_awake k).bind fun t2725 => some t2725) else ((machine_Tiles k p0).bind fun t2730 => (machine_Colours k p0 p1).bind fun t2793 => (machine_Read k p0 p2).bind fun t3126 => (ref08_Valid k p0).bind fun t3249 => if (!t3249) = true then ((if ((((t2730.2 == 1) && (t2793.2 == t2730.2)) && (t3126.2 == t2730.2)) && ((w64 ((t2730.1.length : Int) + (t2793.1.length : Int))) == 0)) = true then ((ref08_SameConfig k t3126.1 (Config.mk 0 0 ([] : List Int))).bind fun t3326 => some t3326) else (some false)).bind fun x3323 => (if x3323 = true then ((law08_awake k).bind fun t3345 => some t3345) else (some false)).bind fun x3342 => some x3342) else ((if (t2730.2 != 0) = true then (some true) else ((ref08_Tiles k p0).bind fun t6039 => (ref01_SameSet k t2730.1 t6039).bind fun t6046 => some (!t6046))).bind fun x6036 => if x6036 = true then (some false) else ((ref08_Read k p0 p2).bind fun t6504 => (if (!t6504.2) = true then ((if (t3126.2 != 6) = true then (some true) else ((ref08_SameConfig k t3126.1 (Config.mk 0 0 ([] : List Int))).bind fun t6570 => some (!t6570))).bind fun x6567 => if x6567 = true then (some (.inl false)) else (some (.inr ()))) else ((if (t3126.2 != 0) = true then (some true) else ((ref08_SameConfig k t3126.1 t6504.1).bind fun t6590 => some (!t6590))).bind fun x6587 => if x6587 = true then (some (.inl false)) else (some (.inr ())))).bind fun x6558 => sumb x6558 (fun r => some r) (fun y6604 => (ref08_Fits k p0 p1).bind fun t6606 => if (!t6606) = true then ((if ((t2793.2 == 1) && ((t2793.1.length : Int) == 0)) = true then ((law08_awake k).bind fun t6623 => some t6623) else (some false)).bind fun x6620 => some x6620) else ((machine_Read k p0 t2793.1).bind fun t6633 => (if (t2793.2 == 0) = true then ((ref08_Colours p0 p1).bind fun t6745 => (ref01_Same k t2793.1 t6745).bind fun t6752 => some t6752) else (some false)).bind fun x6742 => (if (x6742 && (t6633.2 == 0)) = true then ((ref08_SameConfig k t6633.1 p1).bind fun t6773 => some t6773) else (some false)).bind fun x6770 => (if x6770 = true then ((law08_awake k).bind fun t6792 => some t6792) else (some false)).bind fun x6789 => some x6789)))))
end Gp
namespace Gp
open Go Gw Go.Proofs Go.RowKit
def ok_Action (a : Action) : Prop := (ok64 a.Write) ∧ (ok64 a.Move) ∧ (ok64 a.Next)
theorem opn_Action_88 {H : Type} {enc : TypeId × Value → H} {w : World} {base : Nat} {spare : Nat → Bool} {held : Bool} {fuel : Nat} {cs : List Value} {x : DataW H × List MemPlace} (h : DataW.trod enc Try.prog w base spare held fuel 88 cs = some x) : ∃ (a : Action), cs = [.int .i64 a.Write, .int .i64 a.Move, .int .i64 a.Next] ∧ ok_Action a := by
  obtain ⟨hl, n, hf⟩ := opn_fields Try.underlying88 h
  have hl0 : cs.length = 3 := hl.trans (by kernel_rfl)
  obtain ⟨q0, r0, rfl, hl1⟩ := cons_of hl0
  obtain ⟨q1, r1, rfl, hl2⟩ := cons_of hl1
  obtain ⟨q2, r2, rfl, hl3⟩ := cons_of hl2
  obtain rfl := List.eq_nil_of_length_eq_zero hl3
  obtain ⟨y0, h0⟩ := hf 0 _ 1 rfl (by kernel_rfl)
  have h0 : DataW.trod enc Try.prog w base spare held n 3 [q0] = some y0 := h0
  obtain ⟨a0, e0, w0⟩ := opn_int Try.underlying3 h0
  injection e0 with f0 e0
  subst f0
  obtain ⟨y1, h1⟩ := hf 1 _ 1 rfl (by kernel_rfl)
  have h1 : DataW.trod enc Try.prog w base spare held n 3 [q1] = some y1 := h1
  obtain ⟨a1, e1, w1⟩ := opn_int Try.underlying3 h1
  injection e1 with f1 e1
  subst f1
  obtain ⟨y2, h2⟩ := hf 2 _ 1 rfl (by kernel_rfl)
  have h2 : DataW.trod enc Try.prog w base spare held n 3 [q2] = some y2 := h2
  obtain ⟨a2, e2, w2⟩ := opn_int Try.underlying3 h2
  injection e2 with f2 e2
  subst f2
  exact ⟨⟨a0, a1, a2⟩, rfl, ⟨wf64 w0, wf64 w1, wf64 w2⟩⟩
theorem opens_Action_88 : Opens Try.prog 88 enc_Action ok_Action := ⟨by kernel_rfl, by decide, fun h => opn_Action_88 h⟩
def ok_Machine (a : Machine) : Prop := (ok64 a.States) ∧ (ok64 a.Symbols) ∧ ((∀ x ∈ a.Actions, ok_Action x) ∧ a.Actions.length ≤ maxLen)
theorem opn_Machine_24 {H : Type} {enc : TypeId × Value → H} {w : World} {base : Nat} {spare : Nat → Bool} {held : Bool} {fuel : Nat} {cs : List Value} {x : DataW H × List MemPlace} (h : DataW.trod enc Try.prog w base spare held fuel 24 cs = some x) : ∃ (a : Machine) (A0 : Option Addr) (c0 : Nat), cs = [.int .i64 a.States, .int .i64 a.Symbols, .slice A0 a.Actions.length c0] ∧ RO NoS w (rowR enc_Action A0 c0 a.Actions) ∧ ok_Machine a := by
  obtain ⟨hl, n, hf⟩ := opn_fields Try.underlying24 h
  have hl0 : cs.length = 3 := hl.trans (by kernel_rfl)
  obtain ⟨q0, r0, rfl, hl1⟩ := cons_of hl0
  obtain ⟨q1, r1, rfl, hl2⟩ := cons_of hl1
  obtain ⟨q2, r2, rfl, hl3⟩ := cons_of hl2
  obtain rfl := List.eq_nil_of_length_eq_zero hl3
  obtain ⟨y0, h0⟩ := hf 0 _ 1 rfl (by kernel_rfl)
  have h0 : DataW.trod enc Try.prog w base spare held n 3 [q0] = some y0 := h0
  obtain ⟨a0, e0, w0⟩ := opn_int Try.underlying3 h0
  injection e0 with f0 e0
  subst f0
  obtain ⟨y1, h1⟩ := hf 1 _ 1 rfl (by kernel_rfl)
  have h1 : DataW.trod enc Try.prog w base spare held n 3 [q1] = some y1 := h1
  obtain ⟨a1, e1, w1⟩ := opn_int Try.underlying3 h1
  injection e1 with f1 e1
  subst f1
  obtain ⟨y2, h2⟩ := hf 2 _ 1 rfl (by kernel_rfl)
  have h2 : DataW.trod enc Try.prog w base spare held n 22 [q2] = some y2 := h2
  obtain ⟨A2_, c2_, a2, e2, o2, w2, m2⟩ := opn_row Try.underlying22 opens_Action_88 h2
  injection e2 with f2 e2
  subst f2
  exact ⟨⟨a0, a1, a2⟩, A2_, c2_, rfl, o2, ⟨wf64 w0, wf64 w1, ⟨w2, m2⟩⟩⟩
def ok_Config (a : Config) : Prop := (ok64 a.State) ∧ (ok64 a.At) ∧ ((∀ x ∈ a.Cells, ok64 x) ∧ a.Cells.length ≤ maxLen)
theorem opn_Config_27 {H : Type} {enc : TypeId × Value → H} {w : World} {base : Nat} {spare : Nat → Bool} {held : Bool} {fuel : Nat} {cs : List Value} {x : DataW H × List MemPlace} (h : DataW.trod enc Try.prog w base spare held fuel 27 cs = some x) : ∃ (a : Config) (A0 : Option Addr) (c0 : Nat), cs = [.int .i64 a.State, .int .i64 a.At, .slice A0 a.Cells.length c0] ∧ RO NoS w (rowR encInt A0 c0 a.Cells) ∧ ok_Config a := by
  obtain ⟨hl, n, hf⟩ := opn_fields Try.underlying27 h
  have hl0 : cs.length = 3 := hl.trans (by kernel_rfl)
  obtain ⟨q0, r0, rfl, hl1⟩ := cons_of hl0
  obtain ⟨q1, r1, rfl, hl2⟩ := cons_of hl1
  obtain ⟨q2, r2, rfl, hl3⟩ := cons_of hl2
  obtain rfl := List.eq_nil_of_length_eq_zero hl3
  obtain ⟨y0, h0⟩ := hf 0 _ 1 rfl (by kernel_rfl)
  have h0 : DataW.trod enc Try.prog w base spare held n 3 [q0] = some y0 := h0
  obtain ⟨a0, e0, w0⟩ := opn_int Try.underlying3 h0
  injection e0 with f0 e0
  subst f0
  obtain ⟨y1, h1⟩ := hf 1 _ 1 rfl (by kernel_rfl)
  have h1 : DataW.trod enc Try.prog w base spare held n 3 [q1] = some y1 := h1
  obtain ⟨a1, e1, w1⟩ := opn_int Try.underlying3 h1
  injection e1 with f1 e1
  subst f1
  obtain ⟨y2, h2⟩ := hf 2 _ 1 rfl (by kernel_rfl)
  have h2 : DataW.trod enc Try.prog w base spare held n 25 [q2] = some y2 := h2
  obtain ⟨A2_, c2_, a2, e2, o2, w2, m2⟩ := opn_row Try.underlying25 (opens_int Try.underlying3 (by kernel_rfl)) h2
  injection e2 with f2 e2
  subst f2
  exact ⟨⟨a0, a1, a2⟩, A2_, c2_, rfl, o2, ⟨wf64 w0, wf64 w1, ⟨w2, m2⟩⟩⟩
end Gp
