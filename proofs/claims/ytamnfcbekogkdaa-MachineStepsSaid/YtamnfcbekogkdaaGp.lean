/- The functions that the law reaches, as plain functions; how what comes in is opened. -/
import Derived.Test.YtamnfcbekogkdaaGb
set_option linter.unusedVariables false
set_option linter.unusedSimpArgs false
namespace Gp
open Go Gw
structure BoundsError where
  x : Int
  y : Int
  signed : Bool
  code : Int
  deriving DecidableEq
def z_BoundsError : BoundsError := ⟨0, 0, false, 0⟩
def enc_BoundsError : Enc BoundsError := ⟨4, fun x => [(.int .i64 x.x), (.int .i64 x.y), (.bool x.signed), (.int .u8 x.code)], fun _ => rfl, fun x u h => by simp at h; rcases h with rfl | rfl | rfl | rfl <;> rfl⟩
structure Action where
  Write : Int
  Move : Int
  Next : Int
  deriving DecidableEq
def z_Action : Action := ⟨0, 0, 0⟩
def enc_Action : Enc Action := ⟨3, fun x => [(.int .i64 x.Write), (.int .i64 x.Move), (.int .i64 x.Next)], fun _ => rfl, fun x u h => by simp at h; rcases h with rfl | rfl | rfl <;> rfl⟩
structure Machine where
  States : Int
  Symbols : Int
  Actions : List Action
  deriving DecidableEq
def z_Machine : Machine := ⟨0, 0, []⟩
structure Config where
  State : Int
  At : Int
  Cells : List Int
  deriving DecidableEq
def z_Config : Config := ⟨0, 0, []⟩
structure Pattern where
  Width : Int
  Height : Int
  Cells : List Int
  deriving DecidableEq
def z_Pattern : Pattern := ⟨0, 0, []⟩
structure Tile where
  N : Int
  E : Int
  S : Int
  W : Int
  deriving DecidableEq
def z_Tile : Tile := ⟨0, 0, 0, 0⟩
def enc_Tile : Enc Tile := ⟨4, fun x => [(.int .i64 x.N), (.int .i64 x.E), (.int .i64 x.S), (.int .i64 x.W)], fun _ => rfl, fun x u h => by simp at h; rcases h with rfl | rfl | rfl | rfl <;> rfl⟩
structure Shown where
  P : Pattern
  Height : Int
  deriving DecidableEq
def z_Shown : Shown := ⟨z_Pattern, 0⟩
structure Runner where
  m : Machine
  Config : Config
  deriving DecidableEq
def z_Runner : Runner := ⟨z_Machine, z_Config⟩
structure Kit where
  m : Machine
  set : List Tile
  does : List Int
  base : Int
  deriving DecidableEq
def z_Kit : Kit := ⟨z_Machine, [], [], 0⟩
def law08_wide (p0 : Machine) (p1 : Config) : Option Bool := some ((decide ((p0.Actions.length : Int) > 200)) || (decide ((p1.Cells.length : Int) > 1000)))
def law08_goes  : Option Machine := some (Machine.mk 1 2 [(Action.mk 1 1 0), (Action.mk 1 1 0)])
def machine_action (p0 : Machine) (p1 : Action) : Option Bool := if (p1.Next == p0.States) = true then (some ((p1.Write == 0) && (p1.Move == 0))) else (some ((((((decide (p1.Write ≥ 0)) && (decide (p1.Write < p0.Symbols))) && (decide (p1.Move ≥ 0))) && (decide (p1.Move < 2))) && (decide (p1.Next ≥ 0))) && (decide (p1.Next < p0.States))))
def machine_Valid_1 (p0 : Action) (f0 : Machine) : Option Bool := (machine_action f0 p0).bind fun t92 => some (!t92)
def slices_IndexFunc_api_Action_api_Action_with_machine_Valid_1.l0 : Nat → Int → (List Action) → Machine → Option (Sum Int Unit)
  | 0, _, _, _ => none
  | k + 1, x112, p0, p1_0 => if (decide (x112 < (p0.length : Int))) = true then (if 0 ≤ x112 ∧ x112 < (p0.length : Int) then ((machine_Valid_1 (rdD p0 x112 z_Action) p1_0).bind fun t121 => if t121 = true then (some (.inl x112)) else (slices_IndexFunc_api_Action_api_Action_with_machine_Valid_1.l0 k (w64 (x112 + 1)) p0 p1_0)) else none) else (some (.inr ()))
def slices_IndexFunc_api_Action_api_Action_with_machine_Valid_1 (k : Nat) (p0 : List Action) (p1_0 : Machine) : Option Int := (slices_IndexFunc_api_Action_api_Action_with_machine_Valid_1.l0 k 0 p0 p1_0).bind fun x113 => sumb x113 (fun r => some r) (fun y130 => some (-1))
def slices_ContainsFunc_api_Action_api_Action_with_machine_Valid_1 (k : Nat) (p0 : List Action) (p1_0 : Machine) : Option Bool := (slices_IndexFunc_api_Action_api_Action_with_machine_Valid_1 k p0 p1_0).bind fun t132 => some (decide (t132 ≥ 0))
def machine_Valid (k : Nat) (p0 : Machine) : Option Bool := (if (((((decide (p0.States ≥ 1)) && (decide (p0.States ≤ 6))) && (decide (p0.Symbols ≥ 2))) && (decide (p0.Symbols ≤ 4))) && ((p0.Actions.length : Int) == (w64 (p0.States * p0.Symbols)))) = true then ((slices_ContainsFunc_api_Action_api_Action_with_machine_Valid_1 k p0.Actions p0).bind fun t146 => some (!t146)) else (some false)).bind fun x143 => some x143
def machine_head (p0 : Machine) (p1 : Int) (p2 : Int) : Option Int := some (w64 ((w64 (p0.Symbols + (w64 (p1 * p0.Symbols)))) + p2))
def machine_kit_signal (p0 : Kit) (p1 : Int) (p2 : Int) : Option Int := if (p1 == 1) = true then (some (w64 (1 + p2))) else (some (w64 ((w64 (1 + p0.m.States)) + p2)))
def machine_kit_acts (p0 : Kit) (p1 : Int) (p2 : Int) (p3 : Action) : Option Tile := ((machine_head p0.m p1 p2).bind fun t341 => some (p3.Write, 0, t341, 0)).bind fun x337 => if (p3.Move == 0) = true then ((machine_kit_signal p0 p3.Move p3.Next).bind fun t369 => some (Tile.mk x337.1 x337.2.1 x337.2.2.1 t369)) else (if (p3.Move == 1) = true then ((machine_kit_signal p0 p3.Move p3.Next).bind fun t379 => some (Tile.mk x337.1 t379 x337.2.2.1 x337.2.2.2)) else (none))
def machine_kitOf.l0 : Nat → (List Tile) → Int → Machine → Option (List Tile)
  | 0, _, _, _ => none
  | k + 1, l206, x207, p0 => if (decide (x207 < p0.Symbols)) = true then (if l206.length + [(Tile.mk x207 0 x207 0)].length ≤ 100000000000 then (machine_kitOf.l0 k (l206 ++ [(Tile.mk x207 0 x207 0)]) (w64 (x207 + 1)) p0) else none) else (some l206)
def machine_kitOf.l1 : Nat → (List Tile) → (List Int) → Int → Machine → Option ((List Tile) × (List Int))
  | 0, _, _, _, _ => none
  | k + 1, l720, l723, x724, p0 => if (decide (x724 < (p0.Actions.length : Int))) = true then ((if 0 ≤ x724 ∧ x724 < (p0.Actions.length : Int) then (if (((rdD p0.Actions x724 z_Action).Next) == p0.States) = true then (if l723.length + [(-1)].length ≤ 100000000000 then (some (l720, l723 ++ [(-1)])) else none) else (if l723.length + [(l720.length : Int)].length ≤ 100000000000 then (if p0.Symbols ≠ 0 then ((machine_kit_acts (Kit.mk p0 l720 (l723 ++ [(l720.length : Int)]) 0) (w64 (Int.tdiv x724 p0.Symbols)) (Int.tmod x724 p0.Symbols) (rdD p0.Actions x724 z_Action)).bind fun t899 => if l720.length + [t899].length ≤ 100000000000 then (some (l720 ++ [t899], l723 ++ [(l720.length : Int)])) else none) else none) else none)) else none).bind fun x829 => machine_kitOf.l1 k x829.1 x829.2 (w64 (x724 + 1)) p0) else (some (l720, l723))
def machine_kitOf.l3 : Nat → (List Tile) → Int → Machine → ((List Tile) × (List Int)) → Int → Option (List Tile)
  | 0, _, _, _, _, _ => none
  | k + 1, l1410, x1411, p0, x731, x1289 => if (decide (x1411 < p0.Symbols)) = true then ((machine_head p0 x1289 x1411).bind fun t1422 => (machine_kit_signal (Kit.mk p0 l1410 x731.2 (x731.1.length : Int)) 1 x1289).bind fun t1451 => (machine_kit_signal (Kit.mk p0 l1410 x731.2 (x731.1.length : Int)) 0 x1289).bind fun t1456 => if l1410.length + [(Tile.mk t1422 0 x1411 t1451), (Tile.mk t1422 t1456 x1411 0)].length ≤ 100000000000 then (machine_kitOf.l3 k (l1410 ++ [(Tile.mk t1422 0 x1411 t1451), (Tile.mk t1422 t1456 x1411 0)]) (w64 (x1411 + 1)) p0 x731 x1289) else none) else (some l1410)
def machine_kitOf.l2 : Nat → (List Tile) → Int → Machine → ((List Tile) × (List Int)) → Option (List Tile)
  | 0, _, _, _, _ => none
  | k + 1, l1288, x1289, p0, x731 => if (decide (x1289 < p0.States)) = true then ((machine_kitOf.l3 k l1288 0 p0 x731 x1289).bind fun x1415 => machine_kitOf.l2 k x1415 (w64 (x1289 + 1)) p0 x731) else (some l1288)
def machine_kitOf (k : Nat) (p0 : Machine) : Option Kit := (machine_kitOf.l0 k ([] : List Tile) 0 p0).bind fun x211 => (machine_kitOf.l1 k x211 ([] : List Int) 0 p0).bind fun x731 => (machine_kitOf.l2 k x731.1 0 p0 x731).bind fun x1293 => some (Kit.mk p0 x1293 x731.2 (x731.1.length : Int))
def machine_Tiles (k : Nat) (p0 : Machine) : Option ((List Tile) × Int) := (machine_Valid k p0).bind fun t156 => if (!t156) = true then (some (([] : List Tile), 1)) else ((machine_kitOf k p0).bind fun t1481 => some (t1481.set, 0))
def machine_Fits_1 (p0 : Int) (f0 : Machine) : Option Bool := some ((decide (p0 < 0)) || (decide (p0 ≥ f0.Symbols)))
def slices_IndexFunc_int_int_with_machine_Fits_1.l0 : Nat → Int → (List Int) → Machine → Option (Sum Int Unit)
  | 0, _, _, _ => none
  | k + 1, x1566, p0, p1_0 => if (decide (x1566 < (p0.length : Int))) = true then (if 0 ≤ x1566 ∧ x1566 < (p0.length : Int) then ((machine_Fits_1 (rdD p0 x1566 0) p1_0).bind fun t1575 => if t1575 = true then (some (.inl x1566)) else (slices_IndexFunc_int_int_with_machine_Fits_1.l0 k (w64 (x1566 + 1)) p0 p1_0)) else none) else (some (.inr ()))
def slices_IndexFunc_int_int_with_machine_Fits_1 (k : Nat) (p0 : List Int) (p1_0 : Machine) : Option Int := (slices_IndexFunc_int_int_with_machine_Fits_1.l0 k 0 p0 p1_0).bind fun x1567 => sumb x1567 (fun r => some r) (fun y1584 => some (-1))
def slices_ContainsFunc_int_int_with_machine_Fits_1 (k : Nat) (p0 : List Int) (p1_0 : Machine) : Option Bool := (slices_IndexFunc_int_int_with_machine_Fits_1 k p0 p1_0).bind fun t1586 => some (decide (t1586 ≥ 0))
def machine_Fits (k : Nat) (p0 : Machine) (p1 : Config) : Option Bool := (machine_Valid k p0).bind fun t1530 => (if ((((((t1530 && (decide (p1.State ≥ 0))) && (decide (p1.State < p0.States))) && (decide ((p1.Cells.length : Int) ≥ 1))) && (decide ((p1.Cells.length : Int) ≤ 200))) && (decide (p1.At ≥ 0))) && (decide (p1.At < (p1.Cells.length : Int)))) = true then ((slices_ContainsFunc_int_int_with_machine_Fits_1 k p1.Cells p0).bind fun t1600 => some (!t1600)) else (some false)).bind fun x1597 => some x1597
def slices_Clone_int_int_nil (p0 : List Int) : Option (List Int) := some ([] : List Int)
def slices_Clone_int_int_some (p0 : List Int) : Option (List Int) := if ([] : List Int).length + p0.length ≤ 100000000000 then (some (([] : List Int) ++ p0)) else none
def slices_Clone_int_int (p0 : List Int) : Option (List Int) := slices_Clone_int_int_some p0
def machine_begin (p0 : Machine) (p1 : Config) : Option Runner := (slices_Clone_int_int p1.Cells).bind fun t1644 => some (Runner.mk p0 (Config.mk p1.State p1.At t1644))
def machine_runner_does (p0 : Runner) : Option Int := if 0 ≤ p0.Config.At ∧ p0.Config.At < (p0.Config.Cells.length : Int) then (some (w64 ((w64 (p0.Config.State * p0.m.Symbols)) + (rdD p0.Config.Cells p0.Config.At 0)))) else none
def machine_runner_step (p0 : Runner) : Option (Int × Runner) := ((machine_runner_does p0).bind fun t1835 => if 0 ≤ t1835 ∧ t1835 < (p0.m.Actions.length : Int) then (some ((rdD p0.m.Actions t1835 z_Action).Write, (rdD p0.m.Actions t1835 z_Action).Move, (rdD p0.m.Actions t1835 z_Action).Next)) else none).bind fun x1831 => if (x1831.2.2 == p0.m.States) = true then (some (5, p0)) else (if ((decide (w64 ((w64 (p0.Config.At + (w64 (2 * x1831.2.1)))) - 1) < 0)) || (decide (w64 ((w64 (p0.Config.At + (w64 (2 * x1831.2.1)))) - 1) ≥ (p0.Config.Cells.length : Int)))) = true then (some (6, p0)) else (if 0 ≤ p0.Config.At ∧ p0.Config.At < (p0.Config.Cells.length : Int) then (some (0, (Runner.mk p0.m (Config.mk x1831.2.2 (w64 ((w64 (p0.Config.At + (w64 (2 * x1831.2.1)))) - 1)) (p0.Config.Cells.set (p0.Config.At).toNat x1831.1))))) else none))
def machine_Run.l0 : Nat → Int → Int → Int → Int → (List Int) → Int → Machine → Int → Option (Int × Int × Int × Int × (List Int) × Int)
  | 0, _, _, _, _, _, _, _, _ => none
  | k + 1, x1974, x1975, x1976, x1977, l1980, x1981, p0, p2 => (if (decide (x1981 < p2)) = true then ((machine_runner_step (Runner.mk (Machine.mk x1974 x1975 p0.Actions) (Config.mk x1976 x1977 l1980))).bind fun t2014 => some (t2014.2.m.States, t2014.2.m.Symbols, t2014.2.Config.State, t2014.2.Config.At, t2014.2.Config.Cells, t2014.1 == 0)) else (some (x1974, x1975, x1976, x1977, l1980, false))).bind fun x2011 => if x2011.2.2.2.2.2 = true then (machine_Run.l0 k x2011.1 x2011.2.1 x2011.2.2.1 x2011.2.2.2.1 x2011.2.2.2.2.1 (w64 (x1981 + 1)) p0 p2) else (some (x2011.1, x2011.2.1, x2011.2.2.1, x2011.2.2.2.1, x2011.2.2.2.2.1, x1981))
def machine_Run (k : Nat) (p0 : Machine) (p1 : Config) (p2 : Int) : Option (Config × Int × Int) := (machine_Fits k p0 p1).bind fun t1610 => if (!t1610) = true then (some ((Config.mk 0 0 ([] : List Int)), 0, 1)) else (if ((decide (p2 < 0)) || (decide (p2 > 100000))) = true then (some ((Config.mk 0 0 ([] : List Int)), 0, 2)) else ((machine_begin p0 p1).bind fun t1657 => (machine_Run.l0 k t1657.m.States t1657.m.Symbols t1657.Config.State t1657.Config.At t1657.Config.Cells 0 p0 p2).bind fun x1990 => some ((Config.mk x1990.2.2.1 x1990.2.2.2.1 x1990.2.2.2.2.1), x1990.2.2.2.2.2, 0)))
def machine_kit_row.l0 : Nat → (List Int) → Int → Kit → Runner → (Int × Int × Int) → Option (List Int)
  | 0, _, _, _, _, _ => none
  | k + 1, l2422, x2423, p0, p1, x2217 => if (decide (x2423 < (p1.Config.Cells.length : Int))) = true then (if 0 ≤ x2423 ∧ x2423 < (p1.Config.Cells.length : Int) then ((if (x2423 == p1.Config.At) = true then ((machine_runner_does p1).bind fun t2475 => if 0 ≤ t2475 ∧ t2475 < (p0.does.length : Int) then (some (rdD p0.does t2475 0)) else none) else ((if (x2423 == (w64 ((w64 (p1.Config.At + (w64 (2 * x2217.2.1)))) - 1))) = true then (some (w64 ((w64 ((w64 (p0.base + (w64 (2 * (w64 ((w64 (x2217.2.2 * p1.m.Symbols)) + (rdD p1.Config.Cells x2423 0))))))) + 1)) - x2217.2.1))) else (some (rdD p1.Config.Cells x2423 0))).bind fun x2485 => some x2485)).bind fun x2464 => if l2422.length + [x2464].length ≤ 100000000000 then (machine_kit_row.l0 k (l2422 ++ [x2464]) (w64 (x2423 + 1)) p0 p1 x2217) else none) else none) else (some l2422)
def machine_kit_row (k : Nat) (p0 : Kit) (p1 : Runner) : Option (List Int) := ((machine_runner_does p1).bind fun t2221 => if 0 ≤ t2221 ∧ t2221 < (p1.m.Actions.length : Int) then (some ((rdD p1.m.Actions t2221 z_Action).Write, (rdD p1.m.Actions t2221 z_Action).Move, (rdD p1.m.Actions t2221 z_Action).Next)) else none).bind fun x2217 => (machine_kit_row.l0 k ([] : List Int) 0 p0 p1 x2217).bind fun x2427 => some x2427
def machine_Picture.l0 : Nat → Int → Int → Int → Int → (List Int) → (List Int) → Int → Machine → Int → Kit → Option (Sum (Pattern × Int) (List Int))
  | 0, _, _, _, _, _, _, _, _, _, _ => none
  | k + 1, x2619, x2620, x2621, x2622, l2625, l2628, x2629, p0, p2, t2109 => if (decide (x2629 < p2)) = true then ((machine_begin p0 (Config.mk x2621 x2622 l2625)).bind fun t2650 => (machine_runner_step (Runner.mk (Machine.mk t2650.m.States t2650.m.Symbols p0.Actions) t2650.Config)).bind fun t2658 => if (t2658.1 != 0) = true then (some (.inl ((Pattern.mk 0 0 ([] : List Int)), 6))) else ((machine_kit_row k (Kit.mk (Machine.mk t2109.m.States t2109.m.Symbols p0.Actions) t2109.set t2109.does t2109.base) (Runner.mk (Machine.mk x2619 x2620 p0.Actions) (Config.mk x2621 x2622 l2625))).bind fun t2685 => if l2628.length + t2685.length ≤ 100000000000 then (machine_Picture.l0 k t2658.2.m.States t2658.2.m.Symbols t2658.2.Config.State t2658.2.Config.At t2658.2.Config.Cells (l2628 ++ t2685) (w64 (x2629 + 1)) p0 p2 t2109) else none)) else (some (.inr l2628))
def machine_Picture (k : Nat) (p0 : Machine) (p1 : Config) (p2 : Int) : Option (Pattern × Int) := (machine_Fits k p0 p1).bind fun t2070 => if (!t2070) = true then (some ((Pattern.mk 0 0 ([] : List Int)), 1)) else (if (decide (p2 < 1)) = true then (some ((Pattern.mk 0 0 ([] : List Int)), 2)) else (if ((decide (p2 > 40000)) || (decide (w64 ((p1.Cells.length : Int) * p2) > 40000))) = true then (some ((Pattern.mk 0 0 ([] : List Int)), 4)) else ((machine_kitOf k p0).bind fun t2109 => (machine_begin p0 p1).bind fun t2119 => (machine_Picture.l0 k t2119.m.States t2119.m.Symbols t2119.Config.State t2119.Config.At t2119.Config.Cells ([] : List Int) 0 p0 p2 t2109).bind fun x2633 => sumb x2633 (fun r => some r) (fun y2702 => some ((Pattern.mk (p1.Cells.length : Int) p2 y2702), 0)))))
def law08_awake (k : Nat)  : Option Bool := (law08_goes).bind fun t42 => (machine_Tiles k t42).bind fun t1491 => (law08_goes).bind fun t1498 => (machine_Run k t1498 (Config.mk 0 0 [0, 0, 0]) 9).bind fun t2033 => (law08_goes).bind fun t2046 => (machine_Picture k t2046 (Config.mk 0 0 [0, 0, 0]) 3).bind fun t2706 => some ((((((t1491.2 == 0) && ((t1491.1.length : Int) == 8)) && (t2033.2.2 == 0)) && (t2033.2.1 == 2)) && (t2033.1.At == 2)) && (t2706.2 == 6))
def ref08_Valid.l0 : Nat → Int → Machine → Option (Sum Bool Unit)
  | 0, _, _ => none
  | k + 1, x2809, p0 => if (decide (x2809 < (p0.Actions.length : Int))) = true then (if 0 ≤ x2809 ∧ x2809 < (p0.Actions.length : Int) then (if (((((decide ((rdD p0.Actions x2809 z_Action).Write < 0)) || (decide ((rdD p0.Actions x2809 z_Action).Write ≥ p0.Symbols))) || ((((rdD p0.Actions x2809 z_Action).Move) != 0) && (((rdD p0.Actions x2809 z_Action).Move) != 1))) || (decide ((rdD p0.Actions x2809 z_Action).Next < 0))) || (decide ((rdD p0.Actions x2809 z_Action).Next > p0.States))) = true then (some (.inl false)) else (if ((((rdD p0.Actions x2809 z_Action).Next) == p0.States) && ((((rdD p0.Actions x2809 z_Action).Write) != 0) || (((rdD p0.Actions x2809 z_Action).Move) != 0))) = true then (some (.inl false)) else (ref08_Valid.l0 k (w64 (x2809 + 1)) p0))) else none) else (some (.inr ()))
def ref08_Valid (k : Nat) (p0 : Machine) : Option Bool := if (((((decide (p0.States < 1)) || (decide (p0.States > 6))) || (decide (p0.Symbols < 2))) || (decide (p0.Symbols > 4))) || ((p0.Actions.length : Int) != (w64 (p0.States * p0.Symbols)))) = true then (some false) else ((ref08_Valid.l0 k 0 p0).bind fun x2810 => sumb x2810 (fun r => some r) (fun y2847 => some true))
def ref08_Fits.l0 : Nat → Int → Machine → Config → Option (Sum Bool Unit)
  | 0, _, _, _ => none
  | k + 1, x2954, p0, p1 => if (decide (x2954 < (p1.Cells.length : Int))) = true then ((if (decide ((rdD p1.Cells x2954 0) < 0)) = true then (if 0 ≤ x2954 ∧ x2954 < (p1.Cells.length : Int) then (some true) else none) else (if 0 ≤ x2954 ∧ x2954 < (p1.Cells.length : Int) then (some (decide ((rdD p1.Cells x2954 0) ≥ p0.Symbols))) else none)).bind fun x2976 => if x2976 = true then (some (.inl false)) else (ref08_Fits.l0 k (w64 (x2954 + 1)) p0 p1)) else (some (.inr ()))
def ref08_Fits (k : Nat) (p0 : Machine) (p1 : Config) : Option Bool := (ref08_Valid k p0).bind fun t2867 => if (((((((!t2867) || (decide (p1.State < 0))) || (decide (p1.State ≥ p0.States))) || (decide ((p1.Cells.length : Int) < 1))) || (decide ((p1.Cells.length : Int) > 200))) || (decide (p1.At < 0))) || (decide (p1.At ≥ (p1.Cells.length : Int)))) = true then (some false) else ((ref08_Fits.l0 k 0 p0 p1).bind fun x2955 => sumb x2955 (fun r => some r) (fun y2998 => some true))
def machine_Step (k : Nat) (p0 : Machine) (p1 : Config) : Option (Config × Int) := (machine_Fits k p0 p1).bind fun t3078 => if (!t3078) = true then (some ((Config.mk 0 0 ([] : List Int)), 1)) else ((machine_begin p0 p1).bind fun t3087 => (machine_runner_step (Runner.mk (Machine.mk t3087.m.States t3087.m.Symbols p0.Actions) t3087.Config)).bind fun t3095 => if (t3095.1 != 0) = true then (some ((Config.mk 0 0 ([] : List Int)), t3095.1)) else (some (t3095.2.Config, 0)))
def ref08_SameConfig.l0 : Nat → Int → Config → Config → Option (Sum Bool Unit)
  | 0, _, _, _ => none
  | k + 1, x3182, p0, p1 => if (decide (x3182 < (p0.Cells.length : Int))) = true then (if 0 ≤ x3182 ∧ x3182 < (p0.Cells.length : Int) then (if 0 ≤ x3182 ∧ x3182 < (p1.Cells.length : Int) then (if ((rdD p0.Cells x3182 0) != (rdD p1.Cells x3182 0)) = true then (some (.inl false)) else (ref08_SameConfig.l0 k (w64 (x3182 + 1)) p0 p1)) else none) else none) else (some (.inr ()))
def ref08_SameConfig (k : Nat) (p0 : Config) (p1 : Config) : Option Bool := if (((p0.State != p1.State) || (p0.At != p1.At)) || ((p0.Cells.length : Int) != (p1.Cells.length : Int))) = true then (some false) else ((ref08_SameConfig.l0 k 0 p0 p1).bind fun x3183 => sumb x3183 (fun r => some r) (fun y3202 => some true))
def ref08_Copy (p0 : Config) : Option Config := if ([] : List Int).length + p0.Cells.length ≤ 100000000000 then (some (Config.mk p0.State p0.At (([] : List Int) ++ p0.Cells))) else none
def ref08_Step (p0 : Machine) (p1 : Config) : Option (Config × Int) := if 0 ≤ p1.At ∧ p1.At < (p1.Cells.length : Int) then (if 0 ≤ w64 ((w64 (p1.State * p0.Symbols)) + (rdD p1.Cells p1.At 0)) ∧ w64 ((w64 (p1.State * p0.Symbols)) + (rdD p1.Cells p1.At 0)) < (p0.Actions.length : Int) then (if (((rdD p0.Actions (w64 ((w64 (p1.State * p0.Symbols)) + (rdD p1.Cells p1.At 0))) z_Action).Next) == p0.States) = true then (some ((Config.mk 0 0 ([] : List Int)), 5)) else ((ref08_Copy p1).bind fun t3333 => if 0 ≤ p1.At ∧ p1.At < (t3333.Cells.length : Int) then ((if (((rdD p0.Actions (w64 ((w64 (p1.State * p0.Symbols)) + (rdD p1.Cells p1.At 0))) z_Action).Move) == 1) = true then (some (w64 (t3333.At + 1))) else (some (w64 (t3333.At - 1)))).bind fun x3358 => if ((decide (x3358 < 0)) || (decide (x3358 ≥ ((t3333.Cells.set (p1.At).toNat ((rdD p0.Actions (w64 ((w64 (p1.State * p0.Symbols)) + (rdD p1.Cells p1.At 0))) z_Action).Write)).length : Int)))) = true then (some ((Config.mk 0 0 ([] : List Int)), 6)) else (some ((Config.mk ((rdD p0.Actions (w64 ((w64 (p1.State * p0.Symbols)) + (rdD p1.Cells p1.At 0))) z_Action).Next) x3358 (t3333.Cells.set (p1.At).toNat ((rdD p0.Actions (w64 ((w64 (p1.State * p0.Symbols)) + (rdD p1.Cells p1.At 0))) z_Action).Write))), 0))) else none)) else none) else none
def ref08_Run.l0 : Nat → Int → Int → (List Int) → Int → Machine → Int → Option (Sum (Config × Int) (Int × Int × (List Int)))
  | 0, _, _, _, _, _, _ => none
  | k + 1, x3518, x3519, l3522, x3523, p0, p2 => if (decide (x3523 < p2)) = true then ((ref08_Step p0 (Config.mk x3518 x3519 l3522)).bind fun t3536 => if (t3536.2 != 0) = true then (some (.inl ((Config.mk x3518 x3519 l3522), x3523))) else (ref08_Run.l0 k t3536.1.State t3536.1.At t3536.1.Cells (w64 (x3523 + 1)) p0 p2)) else (some (.inr (x3518, x3519, l3522)))
def ref08_Run (k : Nat) (p0 : Machine) (p1 : Config) (p2 : Int) : Option (Config × Int) := (ref08_Copy p1).bind fun t3465 => (ref08_Run.l0 k t3465.State t3465.At t3465.Cells 0 p0 p2).bind fun x3529 => sumb x3529 (fun r => some r) (fun y3557 => some ((Config.mk y3557.1 y3557.2.1 y3557.2.2), p2))
def law08_MachineSteps (k : Nat) (p0 : Machine) (p1 : Config) (p2 : Int) : Option Bool := (law08_wide p0 p1).bind fun t19 => if (t19 || ((decide (p2 > 3000)) && (decide (p2 ≤ 100000)))) = true then ((law08_awake k).bind fun t2729 => some t2729) else ((machine_Valid k p0).bind fun t3026 => (ref08_Valid k p0).bind fun t3031 => (if (t3026 != t3031) = true then (some true) else ((machine_Fits k p0 p1).bind fun t3050 => (ref08_Fits k p0 p1).bind fun t3055 => some (t3050 != t3055))).bind fun x3047 => if x3047 = true then (some false) else ((machine_Step k p0 p1).bind fun t3108 => (machine_Run k p0 p1 p2).bind fun t3121 => (ref08_Fits k p0 p1).bind fun t3140 => if (!t3140) = true then ((if ((t3108.2 == 1) && (t3121.2.2 == 1)) = true then ((ref08_SameConfig k t3108.1 (Config.mk 0 0 ([] : List Int))).bind fun t3213 => some t3213) else (some false)).bind fun x3210 => (if x3210 = true then ((ref08_SameConfig k t3121.1 (Config.mk 0 0 ([] : List Int))).bind fun t3232 => some t3232) else (some false)).bind fun x3229 => (if (x3229 && (t3121.2.1 == 0)) = true then ((law08_awake k).bind fun t3253 => some t3253) else (some false)).bind fun x3250 => some x3250) else ((ref08_Step p0 p1).bind fun t3377 => (if (t3108.2 != t3377.2) = true then (some true) else ((ref08_SameConfig k t3108.1 t3377.1).bind fun t3399 => some (!t3399))).bind fun x3396 => if x3396 = true then (some false) else (if ((decide (p2 < 0)) || (decide (p2 > 100000))) = true then ((if (t3121.2.2 == 2) = true then ((ref08_SameConfig k t3121.1 (Config.mk 0 0 ([] : List Int))).bind fun t3422 => some t3422) else (some false)).bind fun x3419 => (if (x3419 && (t3121.2.1 == 0)) = true then ((law08_awake k).bind fun t3443 => some t3443) else (some false)).bind fun x3440 => some x3440) else ((ref08_Run k p0 p1 p2).bind fun t3561 => (if (t3121.2.2 == 0) = true then ((ref08_SameConfig k t3121.1 t3561.1).bind fun t3583 => some t3583) else (some false)).bind fun x3580 => (if (x3580 && (t3121.2.1 == t3561.2)) = true then ((law08_awake k).bind fun t3604 => some t3604) else (some false)).bind fun x3601 => some x3601)))))
end Gp
namespace Gp
open Go Gw Go.Proofs Go.RowKit
def ok_Action (a : Action) : Prop := (ok64 a.Write) ∧ (ok64 a.Move) ∧ (ok64 a.Next)
theorem opn_Action_88 {H : Type} {enc : TypeId × Value → H} {w : World} {base : Nat} {spare : Nat → Bool} {held : Bool} {fuel : Nat} {cs : List Value} {x : DataW H × List MemPlace} (h : DataW.trod enc Try.prog w base spare held fuel 88 cs = some x) : ∃ (a : Action), cs = [.int .i64 a.Write, .int .i64 a.Move, .int .i64 a.Next] ∧ ok_Action a := by
  obtain ⟨hl, n, hf⟩ := opn_fields Try.underlying88 h
  have hl0 : cs.length = 3 := hl.trans (by kernel_rfl)
  obtain ⟨q0, r0, rfl, hl1⟩ := cons_of hl0
  obtain ⟨q1, r1, rfl, hl2⟩ := cons_of hl1
  obtain ⟨q2, r2, rfl, hl3⟩ := cons_of hl2
  obtain rfl := List.eq_nil_of_length_eq_zero hl3
  obtain ⟨y0, h0⟩ := hf 0 _ 1 rfl (by kernel_rfl)
  have h0 : DataW.trod enc Try.prog w base spare held n 3 [q0] = some y0 := h0
  obtain ⟨a0, e0, w0⟩ := opn_int Try.underlying3 h0
  injection e0 with f0 e0
  subst f0
  obtain ⟨y1, h1⟩ := hf 1 _ 1 rfl (by kernel_rfl)
  have h1 : DataW.trod enc Try.prog w base spare held n 3 [q1] = some y1 := h1
  obtain ⟨a1, e1, w1⟩ := opn_int Try.underlying3 h1
  injection e1 with f1 e1
  subst f1
  obtain ⟨y2, h2⟩ := hf 2 _ 1 rfl (by kernel_rfl)
  have h2 : DataW.trod enc Try.prog w base spare held n 3 [q2] = some y2 := h2
  obtain ⟨a2, e2, w2⟩ := opn_int Try.underlying3 h2
  injection e2 with f2 e2
  subst f2
  exact ⟨⟨a0, a1, a2⟩, rfl, ⟨wf64 w0, wf64 w1, wf64 w2⟩⟩
theorem opens_Action_88 : Opens Try.prog 88 enc_Action ok_Action := ⟨by kernel_rfl, by decide, fun h => opn_Action_88 h⟩
def ok_Machine (a : Machine) : Prop := (ok64 a.States) ∧ (ok64 a.Symbols) ∧ ((∀ x ∈ a.Actions, ok_Action x) ∧ a.Actions.length ≤ maxLen)
theorem opn_Machine_24 {H : Type} {enc : TypeId × Value → H} {w : World} {base : Nat} {spare : Nat → Bool} {held : Bool} {fuel : Nat} {cs : List Value} {x : DataW H × List MemPlace} (h : DataW.trod enc Try.prog w base spare held fuel 24 cs = some x) : ∃ (a : Machine) (A0 : Option Addr) (c0 : Nat), cs = [.int .i64 a.States, .int .i64 a.Symbols, .slice A0 a.Actions.length c0] ∧ RO NoS w (rowR enc_Action A0 c0 a.Actions) ∧ ok_Machine a := by
  obtain ⟨hl, n, hf⟩ := opn_fields Try.underlying24 h
  have hl0 : cs.length = 3 := hl.trans (by kernel_rfl)
  obtain ⟨q0, r0, rfl, hl1⟩ := cons_of hl0
  obtain ⟨q1, r1, rfl, hl2⟩ := cons_of hl1
  obtain ⟨q2, r2, rfl, hl3⟩ := cons_of hl2
  obtain rfl := List.eq_nil_of_length_eq_zero hl3
  obtain ⟨y0, h0⟩ := hf 0 _ 1 rfl (by kernel_rfl)
  have h0 : DataW.trod enc Try.prog w base spare held n 3 [q0] = some y0 := h0
  obtain ⟨a0, e0, w0⟩ := opn_int Try.underlying3 h0
  injection e0 with f0 e0
  subst f0
  obtain ⟨y1, h1⟩ := hf 1 _ 1 rfl (by kernel_rfl)
  have h1 : DataW.trod enc Try.prog w base spare held n 3 [q1] = some y1 := h1
  obtain ⟨a1, e1, w1⟩ := opn_int Try.underlying3 h1
  injection e1 with f1 e1
  subst f1
  obtain ⟨y2, h2⟩ := hf 2 _ 1 rfl (by kernel_rfl)
  have h2 : DataW.trod enc Try.prog w base spare held n 22 [q2] = some y2 := h2
  obtain ⟨A2_, c2_, a2, e2, o2, w2, m2⟩ := opn_row Try.underlying22 opens_Action_88 h2
  injection e2 with f2 e2
  subst f2
  exact ⟨⟨a0, a1, a2⟩, A2_, c2_, rfl, o2, ⟨wf64 w0, wf64 w1, ⟨w2, m2⟩⟩⟩
def ok_Config (a : Config) : Prop := (ok64 a.State) ∧ (ok64 a.At) ∧ ((∀ x ∈ a.Cells, ok64 x) ∧ a.Cells.length ≤ maxLen)
theorem opn_Config_27 {H : Type} {enc : TypeId × Value → H} {w : World} {base : Nat} {spare : Nat → Bool} {held : Bool} {fuel : Nat} {cs : List Value} {x : DataW H × List MemPlace} (h : DataW.trod enc Try.prog w base spare held fuel 27 cs = some x) : ∃ (a : Config) (A0 : Option Addr) (c0 : Nat), cs = [.int .i64 a.State, .int .i64 a.At, .slice A0 a.Cells.length c0] ∧ RO NoS w (rowR encInt A0 c0 a.Cells) ∧ ok_Config a := by
  obtain ⟨hl, n, hf⟩ := opn_fields Try.underlying27 h
  have hl0 : cs.length = 3 := hl.trans (by kernel_rfl)
  obtain ⟨q0, r0, rfl, hl1⟩ := cons_of hl0
  obtain ⟨q1, r1, rfl, hl2⟩ := cons_of hl1
  obtain ⟨q2, r2, rfl, hl3⟩ := cons_of hl2
  obtain rfl := List.eq_nil_of_length_eq_zero hl3
  obtain ⟨y0, h0⟩ := hf 0 _ 1 rfl (by kernel_rfl)
  have h0 : DataW.trod enc Try.prog w base spare held n 3 [q0] = some y0 := h0
  obtain ⟨a0, e0, w0⟩ := opn_int Try.underlying3 h0
  injection e0 with f0 e0
  subst f0
  obtain ⟨y1, h1⟩ := hf 1 _ 1 rfl (by kernel_rfl)
  have h1 : DataW.trod enc Try.prog w base spare held n 3 [q1] = some y1 := h1
  obtain ⟨a1, e1, w1⟩ := opn_int Try.underlying3 h1
  injection e1 with f1 e1
  subst f1
  obtain ⟨y2, h2⟩ := hf 2 _ 1 rfl (by kernel_rfl)
  have h2 : DataW.trod enc Try.prog w base spare held n 25 [q2] = some y2 := h2
  obtain ⟨A2_, c2_, a2, e2, o2, w2, m2⟩ := opn_row Try.underlying25 (opens_int Try.underlying3 (by kernel_rfl)) h2
  injection e2 with f2 e2
  subst f2
  exact ⟨⟨a0, a1, a2⟩, A2_, c2_, rfl, o2, ⟨wf64 w0, wf64 w1, ⟨w2, m2⟩⟩⟩
end Gp
