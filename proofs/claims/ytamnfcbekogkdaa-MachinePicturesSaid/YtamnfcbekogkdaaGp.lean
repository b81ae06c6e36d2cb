/- The functions that the law reaches, as plain functions; how what comes in is opened. -/
import Derived.Test.YtamnfcbekogkdaaGb
set_option linter.unusedVariables false
set_option linter.unusedSimpArgs false
namespace Gp
open Go Gw
structure BoundsError where
  x : Int
  y : Int
  signed : Bool
  code : Int
  deriving DecidableEq
def z_BoundsError : BoundsError := ⟨0, 0, false, 0⟩
def enc_BoundsError : Enc BoundsError := ⟨4, fun x => [(.int .i64 x.x), (.int .i64 x.y), (.bool x.signed), (.int .u8 x.code)], fun _ => rfl, fun x u h => by simp at h; rcases h with rfl | rfl | rfl | rfl <;> rfl⟩
structure Action where
  Write : Int
  Move : Int
  Next : Int
  deriving DecidableEq
def z_Action : Action := ⟨0, 0, 0⟩
def enc_Action : Enc Action := ⟨3, fun x => [(.int .i64 x.Write), (.int .i64 x.Move), (.int .i64 x.Next)], fun _ => rfl, fun x u h => by simp at h; rcases h with rfl | rfl | rfl <;> rfl⟩
structure Machine where
  States : Int
  Symbols : Int
  Actions : List Action
  deriving DecidableEq
def z_Machine : Machine := ⟨0, 0, []⟩
structure Config where
  State : Int
  At : Int
  Cells : List Int
  deriving DecidableEq
def z_Config : Config := ⟨0, 0, []⟩
structure Pattern where
  Width : Int
  Height : Int
  Cells : List Int
  deriving DecidableEq
def z_Pattern : Pattern := ⟨0, 0, []⟩
structure Tile where
  N : Int
  E : Int
  S : Int
  W : Int
  deriving DecidableEq
def z_Tile : Tile := ⟨0, 0, 0, 0⟩
def enc_Tile : Enc Tile := ⟨4, fun x => [(.int .i64 x.N), (.int .i64 x.E), (.int .i64 x.S), (.int .i64 x.W)], fun _ => rfl, fun x u h => by simp at h; rcases h with rfl | rfl | rfl | rfl <;> rfl⟩
structure Shown where
  P : Pattern
  Height : Int
  deriving DecidableEq
def z_Shown : Shown := ⟨z_Pattern, 0⟩
structure Runner where
  m : Machine
  Config : Config
  deriving DecidableEq
def z_Runner : Runner := ⟨z_Machine, z_Config⟩
structure Kit where
  m : Machine
  set : List Tile
  does : List Int
  base : Int
  deriving DecidableEq
def z_Kit : Kit := ⟨z_Machine, [], [], 0⟩
def law08_wide (p0 : Machine) (p1 : Config) : Option Bool := some ((decide ((p0.Actions.length : Int) > 200)) || (decide ((p1.Cells.length : Int) > 1000)))
def law08_goes  : Option Machine := some (Machine.mk 1 2 [(Action.mk 1 1 0), (Action.mk 1 1 0)])
def machine_action (p0 : Machine) (p1 : Action) : Option Bool := if (p1.Next == p0.States) = true then (some ((p1.Write == 0) && (p1.Move == 0))) else (some ((((((decide (p1.Write ≥ 0)) && (decide (p1.Write < p0.Symbols))) && (decide (p1.Move ≥ 0))) && (decide (p1.Move < 2))) && (decide (p1.Next ≥ 0))) && (decide (p1.Next < p0.States))))
def machine_Valid_1 (p0 : Action) (f0 : Machine) : Option Bool := (machine_action f0 p0).bind fun t101 => some (!t101)
def slices_IndexFunc_api_Action_api_Action_with_machine_Valid_1.l0 : Nat → Int → (List Action) → Machine → Option (Sum Int Unit)
  | 0, _, _, _ => none
  | k + 1, x121, p0, p1_0 => if (decide (x121 < (p0.length : Int))) = true then (if 0 ≤ x121 ∧ x121 < (p0.length : Int) then ((machine_Valid_1 (rdD p0 x121 z_Action) p1_0).bind fun t130 => if t130 = true then (some (.inl x121)) else (slices_IndexFunc_api_Action_api_Action_with_machine_Valid_1.l0 k (w64 (x121 + 1)) p0 p1_0)) else none) else (some (.inr ()))
def slices_IndexFunc_api_Action_api_Action_with_machine_Valid_1 (k : Nat) (p0 : List Action) (p1_0 : Machine) : Option Int := (slices_IndexFunc_api_Action_api_Action_with_machine_Valid_1.l0 k 0 p0 p1_0).bind fun x122 => sumb x122 (fun r => some r) (fun y139 => some (-1))
def slices_ContainsFunc_api_Action_api_Action_with_machine_Valid_1 (k : Nat) (p0 : List Action) (p1_0 : Machine) : Option Bool := (slices_IndexFunc_api_Action_api_Action_with_machine_Valid_1 k p0 p1_0).bind fun t141 => some (decide (t141 ≥ 0))
def machine_Valid (k : Nat) (p0 : Machine) : Option Bool := (if (((((decide (p0.States ≥ 1)) && (decide (p0.States ≤ 6))) && (decide (p0.Symbols ≥ 2))) && (decide (p0.Symbols ≤ 4))) && ((p0.Actions.length : Int) == (w64 (p0.States * p0.Symbols)))) = true then ((slices_ContainsFunc_api_Action_api_Action_with_machine_Valid_1 k p0.Actions p0).bind fun t155 => some (!t155)) else (some false)).bind fun x152 => some x152
def machine_head (p0 : Machine) (p1 : Int) (p2 : Int) : Option Int := some (w64 ((w64 (p0.Symbols + (w64 (p1 * p0.Symbols)))) + p2))
def machine_kit_signal (p0 : Kit) (p1 : Int) (p2 : Int) : Option Int := if (p1 == 1) = true then (some (w64 (1 + p2))) else (some (w64 ((w64 (1 + p0.m.States)) + p2)))
def machine_kit_acts (p0 : Kit) (p1 : Int) (p2 : Int) (p3 : Action) : Option Tile := ((machine_head p0.m p1 p2).bind fun t350 => some (p3.Write, 0, t350, 0)).bind fun x346 => if (p3.Move == 0) = true then ((machine_kit_signal p0 p3.Move p3.Next).bind fun t378 => some (Tile.mk x346.1 x346.2.1 x346.2.2.1 t378)) else (if (p3.Move == 1) = true then ((machine_kit_signal p0 p3.Move p3.Next).bind fun t388 => some (Tile.mk x346.1 t388 x346.2.2.1 x346.2.2.2)) else (none))
def machine_kitOf.l0 : Nat → (List Tile) → Int → Machine → Option (List Tile)
  | 0, _, _, _ => none
  | k + 1, l215, x216, p0 => if (decide (x216 < p0.Symbols)) = true then (if l215.length + [(Tile.mk x216 0 x216 0)].length ≤ 100000000000 then (machine_kitOf.l0 k (l215 ++ [(Tile.mk x216 0 x216 0)]) (w64 (x216 + 1)) p0) else none) else (some l215)
def machine_kitOf.l1 : Nat → (List Tile) → (List Int) → Int → Machine → Option ((List Tile) × (List Int))
  | 0, _, _, _, _ => none
  | k + 1, l729, l732, x733, p0 => if (decide (x733 < (p0.Actions.length : Int))) = true then ((if 0 ≤ x733 ∧ x733 < (p0.Actions.length : Int) then (if (((rdD p0.Actions x733 z_Action).Next) == p0.States) = true then (if l732.length + [(-1)].length ≤ 100000000000 then (some (l729, l732 ++ [(-1)])) else none) else (if l732.length + [(l729.length : Int)].length ≤ 100000000000 then (if p0.Symbols ≠ 0 then ((machine_kit_acts (Kit.mk p0 l729 (l732 ++ [(l729.length : Int)]) 0) (w64 (Int.tdiv x733 p0.Symbols)) (Int.tmod x733 p0.Symbols) (rdD p0.Actions x733 z_Action)).bind fun t908 => if l729.length + [t908].length ≤ 100000000000 then (some (l729 ++ [t908], l732 ++ [(l729.length : Int)])) else none) else none) else none)) else none).bind fun x838 => machine_kitOf.l1 k x838.1 x838.2 (w64 (x733 + 1)) p0) else (some (l729, l732))
def machine_kitOf.l3 : Nat → (List Tile) → Int → Machine → ((List Tile) × (List Int)) → Int → Option (List Tile)
  | 0, _, _, _, _, _ => none
  | k + 1, l1419, x1420, p0, x740, x1298 => if (decide (x1420 < p0.Symbols)) = true then ((machine_head p0 x1298 x1420).bind fun t1431 => (machine_kit_signal (Kit.mk p0 l1419 x740.2 (x740.1.length : Int)) 1 x1298).bind fun t1460 => (machine_kit_signal (Kit.mk p0 l1419 x740.2 (x740.1.length : Int)) 0 x1298).bind fun t1465 => if l1419.length + [(Tile.mk t1431 0 x1420 t1460), (Tile.mk t1431 t1465 x1420 0)].length ≤ 100000000000 then (machine_kitOf.l3 k (l1419 ++ [(Tile.mk t1431 0 x1420 t1460), (Tile.mk t1431 t1465 x1420 0)]) (w64 (x1420 + 1)) p0 x740 x1298) else none) else (some l1419)
def machine_kitOf.l2 : Nat → (List Tile) → Int → Machine → ((List Tile) × (List Int)) → Option (List Tile)
  | 0, _, _, _, _ => none
  | k + 1, l1297, x1298, p0, x740 => if (decide (x1298 < p0.States)) = true then ((machine_kitOf.l3 k l1297 0 p0 x740 x1298).bind fun x1424 => machine_kitOf.l2 k x1424 (w64 (x1298 + 1)) p0 x740) else (some l1297)
def machine_kitOf (k : Nat) (p0 : Machine) : Option Kit := (machine_kitOf.l0 k ([] : List Tile) 0 p0).bind fun x220 => (machine_kitOf.l1 k x220 ([] : List Int) 0 p0).bind fun x740 => (machine_kitOf.l2 k x740.1 0 p0 x740).bind fun x1302 => some (Kit.mk p0 x1302 x740.2 (x740.1.length : Int))
def machine_Tiles (k : Nat) (p0 : Machine) : Option ((List Tile) × Int) := (machine_Valid k p0).bind fun t165 => if (!t165) = true then (some (([] : List Tile), 1)) else ((machine_kitOf k p0).bind fun t1490 => some (t1490.set, 0))
def machine_Fits_1 (p0 : Int) (f0 : Machine) : Option Bool := some ((decide (p0 < 0)) || (decide (p0 ≥ f0.Symbols)))
def slices_IndexFunc_int_int_with_machine_Fits_1.l0 : Nat → Int → (List Int) → Machine → Option (Sum Int Unit)
  | 0, _, _, _ => none
  | k + 1, x1575, p0, p1_0 => if (decide (x1575 < (p0.length : Int))) = true then (if 0 ≤ x1575 ∧ x1575 < (p0.length : Int) then ((machine_Fits_1 (rdD p0 x1575 0) p1_0).bind fun t1584 => if t1584 = true then (some (.inl x1575)) else (slices_IndexFunc_int_int_with_machine_Fits_1.l0 k (w64 (x1575 + 1)) p0 p1_0)) else none) else (some (.inr ()))
def slices_IndexFunc_int_int_with_machine_Fits_1 (k : Nat) (p0 : List Int) (p1_0 : Machine) : Option Int := (slices_IndexFunc_int_int_with_machine_Fits_1.l0 k 0 p0 p1_0).bind fun x1576 => sumb x1576 (fun r => some r) (fun y1593 => some (-1))
def slices_ContainsFunc_int_int_with_machine_Fits_1 (k : Nat) (p0 : List Int) (p1_0 : Machine) : Option Bool := (slices_IndexFunc_int_int_with_machine_Fits_1 k p0 p1_0).bind fun t1595 => some (decide (t1595 ≥ 0))
def machine_Fits (k : Nat) (p0 : Machine) (p1 : Config) : Option Bool := (machine_Valid k p0).bind fun t1539 => (if ((((((t1539 && (decide (p1.State ≥ 0))) && (decide (p1.State < p0.States))) && (decide ((p1.Cells.length : Int) ≥ 1))) && (decide ((p1.Cells.length : Int) ≤ 200))) && (decide (p1.At ≥ 0))) && (decide (p1.At < (p1.Cells.length : Int)))) = true then ((slices_ContainsFunc_int_int_with_machine_Fits_1 k p1.Cells p0).bind fun t1609 => some (!t1609)) else (some false)).bind fun x1606 => some x1606
def slices_Clone_int_int_nil (p0 : List Int) : Option (List Int) := some ([] : List Int)
def slices_Clone_int_int_some (p0 : List Int) : Option (List Int) := if ([] : List Int).length + p0.length ≤ 100000000000 then (some (([] : List Int) ++ p0)) else none
def slices_Clone_int_int (p0 : List Int) : Option (List Int) := slices_Clone_int_int_some p0
def machine_begin (p0 : Machine) (p1 : Config) : Option Runner := (slices_Clone_int_int p1.Cells).bind fun t1653 => some (Runner.mk p0 (Config.mk p1.State p1.At t1653))
def machine_runner_does (p0 : Runner) : Option Int := if 0 ≤ p0.Config.At ∧ p0.Config.At < (p0.Config.Cells.length : Int) then (some (w64 ((w64 (p0.Config.State * p0.m.Symbols)) + (rdD p0.Config.Cells p0.Config.At 0)))) else none
def machine_runner_step (p0 : Runner) : Option (Int × Runner) := ((machine_runner_does p0).bind fun t1844 => if 0 ≤ t1844 ∧ t1844 < (p0.m.Actions.length : Int) then (some ((rdD p0.m.Actions t1844 z_Action).Write, (rdD p0.m.Actions t1844 z_Action).Move, (rdD p0.m.Actions t1844 z_Action).Next)) else none).bind fun x1840 => if (x1840.2.2 == p0.m.States) = true then (some (5, p0)) else (if ((decide (w64 ((w64 (p0.Config.At + (w64 (2 * x1840.2.1)))) - 1) < 0)) || (decide (w64 ((w64 (p0.Config.At + (w64 (2 * x1840.2.1)))) - 1) ≥ (p0.Config.Cells.length : Int)))) = true then (some (6, p0)) else (if 0 ≤ p0.Config.At ∧ p0.Config.At < (p0.Config.Cells.length : Int) then (some (0, (Runner.mk p0.m (Config.mk x1840.2.2 (w64 ((w64 (p0.Config.At + (w64 (2 * x1840.2.1)))) - 1)) (p0.Config.Cells.set (p0.Config.At).toNat x1840.1))))) else none))
def machine_Run.l0 : Nat → Int → Int → Int → Int → (List Int) → Int → Machine → Int → Option (Int × Int × Int × Int × (List Int) × Int)
  | 0, _, _, _, _, _, _, _, _ => none
  | k + 1, x1983, x1984, x1985, x1986, l1989, x1990, p0, p2 => (if (decide (x1990 < p2)) = true then ((machine_runner_step (Runner.mk (Machine.mk x1983 x1984 p0.Actions) (Config.mk x1985 x1986 l1989))).bind fun t2023 => some (t2023.2.m.States, t2023.2.m.Symbols, t2023.2.Config.State, t2023.2.Config.At, t2023.2.Config.Cells, t2023.1 == 0)) else (some (x1983, x1984, x1985, x1986, l1989, false))).bind fun x2020 => if x2020.2.2.2.2.2 = true then (machine_Run.l0 k x2020.1 x2020.2.1 x2020.2.2.1 x2020.2.2.2.1 x2020.2.2.2.2.1 (w64 (x1990 + 1)) p0 p2) else (some (x2020.1, x2020.2.1, x2020.2.2.1, x2020.2.2.2.1, x2020.2.2.2.2.1, x1990))
def machine_Run (k : Nat) (p0 : Machine) (p1 : Config) (p2 : Int) : Option (Config × Int × Int) := (machine_Fits k p0 p1).bind fun t1619 => if (!t1619) = true then (some ((Config.mk 0 0 ([] : List Int)), 0, 1)) else (if ((decide (p2 < 0)) || (decide (p2 > 100000))) = true then (some ((Config.mk 0 0 ([] : List Int)), 0, 2)) else ((machine_begin p0 p1).bind fun t1666 => (machine_Run.l0 k t1666.m.States t1666.m.Symbols t1666.Config.State t1666.Config.At t1666.Config.Cells 0 p0 p2).bind fun x1999 => some ((Config.mk x1999.2.2.1 x1999.2.2.2.1 x1999.2.2.2.2.1), x1999.2.2.2.2.2, 0)))
def machine_kit_row.l0 : Nat → (List Int) → Int → Kit → Runner → (Int × Int × Int) → Option (List Int)
  | 0, _, _, _, _, _ => none
  | k + 1, l2431, x2432, p0, p1, x2226 => if (decide (x2432 < (p1.Config.Cells.length : Int))) = true then (if 0 ≤ x2432 ∧ x2432 < (p1.Config.Cells.length : Int) then ((if (x2432 == p1.Config.At) = true then ((machine_runner_does p1).bind fun t2484 => if 0 ≤ t2484 ∧ t2484 < (p0.does.length : Int) then (some (rdD p0.does t2484 0)) else none) else ((if (x2432 == (w64 ((w64 (p1.Config.At + (w64 (2 * x2226.2.1)))) - 1))) = true then (some (w64 ((w64 ((w64 (p0.base + (w64 (2 * (w64 ((w64 (x2226.2.2 * p1.m.Symbols)) + (rdD p1.Config.Cells x2432 0))))))) + 1)) - x2226.2.1))) else (some (rdD p1.Config.Cells x2432 0))).bind fun x2494 => some x2494)).bind fun x2473 => if l2431.length + [x2473].length ≤ 100000000000 then (machine_kit_row.l0 k (l2431 ++ [x2473]) (w64 (x2432 + 1)) p0 p1 x2226) else none) else none) else (some l2431)
def machine_kit_row (k : Nat) (p0 : Kit) (p1 : Runner) : Option (List Int) := ((machine_runner_does p1).bind fun t2230 => if 0 ≤ t2230 ∧ t2230 < (p1.m.Actions.length : Int) then (some ((rdD p1.m.Actions t2230 z_Action).Write, (rdD p1.m.Actions t2230 z_Action).Move, (rdD p1.m.Actions t2230 z_Action).Next)) else none).bind fun x2226 => (machine_kit_row.l0 k ([] : List Int) 0 p0 p1 x2226).bind fun x2436 => some x2436
def machine_Picture.l0 : Nat → Int → Int → Int → Int → (List Int) → (List Int) → Int → Machine → Int → Kit → Option (Sum (Pattern × Int) (List Int))
  | 0, _, _, _, _, _, _, _, _, _, _ => none
  | k + 1, x2628, x2629, x2630, x2631, l2634, l2637, x2638, p0, p2, t2118 => if (decide (x2638 < p2)) = true then ((machine_begin p0 (Config.mk x2630 x2631 l2634)).bind fun t2659 => (machine_runner_step (Runner.mk (Machine.mk t2659.m.States t2659.m.Symbols p0.Actions) t2659.Config)).bind fun t2667 => if (t2667.1 != 0) = true then (some (.inl ((Pattern.mk 0 0 ([] : List Int)), 6))) else ((machine_kit_row k (Kit.mk (Machine.mk t2118.m.States t2118.m.Symbols p0.Actions) t2118.set t2118.does t2118.base) (Runner.mk (Machine.mk x2628 x2629 p0.Actions) (Config.mk x2630 x2631 l2634))).bind fun t2694 => if l2637.length + t2694.length ≤ 100000000000 then (machine_Picture.l0 k t2667.2.m.States t2667.2.m.Symbols t2667.2.Config.State t2667.2.Config.At t2667.2.Config.Cells (l2637 ++ t2694) (w64 (x2638 + 1)) p0 p2 t2118) else none)) else (some (.inr l2637))
def machine_Picture (k : Nat) (p0 : Machine) (p1 : Config) (p2 : Int) : Option (Pattern × Int) := (machine_Fits k p0 p1).bind fun t2079 => if (!t2079) = true then (some ((Pattern.mk 0 0 ([] : List Int)), 1)) else (if (decide (p2 < 1)) = true then (some ((Pattern.mk 0 0 ([] : List Int)), 2)) else (if ((decide (p2 > 40000)) || (decide (w64 ((p1.Cells.length : Int) * p2) > 40000))) = true then (some ((Pattern.mk 0 0 ([] : List Int)), 4)) else ((machine_kitOf k p0).bind fun t2118 => (machine_begin p0 p1).bind fun t2128 => (machine_Picture.l0 k t2128.m.States t2128.m.Symbols t2128.Config.State t2128.Config.At t2128.Config.Cells ([] : List Int) 0 p0 p2 t2118).bind fun x2642 => sumb x2642 (fun r => some r) (fun y2711 => some ((Pattern.mk (p1.Cells.length : Int) p2 y2711), 0)))))
def law08_awake (k : Nat)  : Option Bool := (law08_goes).bind fun t51 => (machine_Tiles k t51).bind fun t1500 => (law08_goes).bind fun t1507 => (machine_Run k t1507 (Config.mk 0 0 [0, 0, 0]) 9).bind fun t2042 => (law08_goes).bind fun t2055 => (machine_Picture k t2055 (Config.mk 0 0 [0, 0, 0]) 3).bind fun t2715 => some ((((((t1500.2 == 0) && ((t1500.1.length : Int) == 8)) && (t2042.2.2 == 0)) && (t2042.2.1 == 2)) && (t2042.1.At == 2)) && (t2715.2 == 6))
def ref08_Valid.l0 : Nat → Int → Machine → Option (Sum Bool Unit)
  | 0, _, _ => none
  | k + 1, x2834, p0 => if (decide (x2834 < (p0.Actions.length : Int))) = true then (if 0 ≤ x2834 ∧ x2834 < (p0.Actions.length : Int) then (if (((((decide ((rdD p0.Actions x2834 z_Action).Write < 0)) || (decide ((rdD p0.Actions x2834 z_Action).Write ≥ p0.Symbols))) || ((((rdD p0.Actions x2834 z_Action).Move) != 0) && (((rdD p0.Actions x2834 z_Action).Move) != 1))) || (decide ((rdD p0.Actions x2834 z_Action).Next < 0))) || (decide ((rdD p0.Actions x2834 z_Action).Next > p0.States))) = true then (some (.inl false)) else (if ((((rdD p0.Actions x2834 z_Action).Next) == p0.States) && ((((rdD p0.Actions x2834 z_Action).Write) != 0) || (((rdD p0.Actions x2834 z_Action).Move) != 0))) = true then (some (.inl false)) else (ref08_Valid.l0 k (w64 (x2834 + 1)) p0))) else none) else (some (.inr ()))
def ref08_Valid (k : Nat) (p0 : Machine) : Option Bool := if (((((decide (p0.States < 1)) || (decide (p0.States > 6))) || (decide (p0.Symbols < 2))) || (decide (p0.Symbols > 4))) || ((p0.Actions.length : Int) != (w64 (p0.States * p0.Symbols)))) = true then (some false) else ((ref08_Valid.l0 k 0 p0).bind fun x2835 => sumb x2835 (fun r => some r) (fun y2872 => some true))
def ref08_Fits.l0 : Nat → Int → Machine → Config → Option (Sum Bool Unit)
  | 0, _, _, _ => none
  | k + 1, x2961, p0, p1 => if (decide (x2961 < (p1.Cells.length : Int))) = true then ((if (decide ((rdD p1.Cells x2961 0) < 0)) = true then (if 0 ≤ x2961 ∧ x2961 < (p1.Cells.length : Int) then (some true) else none) else (if 0 ≤ x2961 ∧ x2961 < (p1.Cells.length : Int) then (some (decide ((rdD p1.Cells x2961 0) ≥ p0.Symbols))) else none)).bind fun x2983 => if x2983 = true then (some (.inl false)) else (ref08_Fits.l0 k (w64 (x2961 + 1)) p0 p1)) else (some (.inr ()))
def ref08_Fits (k : Nat) (p0 : Machine) (p1 : Config) : Option Bool := (ref08_Valid k p0).bind fun t2874 => if (((((((!t2874) || (decide (p1.State < 0))) || (decide (p1.State ≥ p0.States))) || (decide ((p1.Cells.length : Int) < 1))) || (decide ((p1.Cells.length : Int) > 200))) || (decide (p1.At < 0))) || (decide (p1.At ≥ (p1.Cells.length : Int)))) = true then (some false) else ((ref08_Fits.l0 k 0 p0 p1).bind fun x2962 => sumb x2962 (fun r => some r) (fun y3005 => some true))
def ref01_Same.l0 : Nat → Int → (List Int) → (List Int) → Option (Sum Bool Unit)
  | 0, _, _, _ => none
  | k + 1, x3108, p0, p1 => if (decide (x3108 < (p0.length : Int))) = true then (if 0 ≤ x3108 ∧ x3108 < (p0.length : Int) then (if 0 ≤ x3108 ∧ x3108 < (p1.length : Int) then (if ((rdD p0 x3108 0) != (rdD p1 x3108 0)) = true then (some (.inl false)) else (ref01_Same.l0 k (w64 (x3108 + 1)) p0 p1)) else none) else none) else (some (.inr ()))
def ref01_Same (k : Nat) (p0 : List Int) (p1 : List Int) : Option Bool := if ((p0.length : Int) != (p1.length : Int)) = true then (some false) else ((ref01_Same.l0 k 0 p0 p1).bind fun x3109 => sumb x3109 (fun r => some r) (fun y3128 => some true))
def ref01_SamePattern (k : Nat) (p0 : Pattern) (p1 : Pattern) : Option Bool := (if ((p0.Width == p1.Width) && (p0.Height == p1.Height)) = true then ((ref01_Same k p0.Cells p1.Cells).bind fun t3139 => some t3139) else (some false)).bind fun x3136 => some x3136
def ref08_both (p0 : Machine) (p1 : Int) (p2 : Int) : Option Int := some (w64 ((w64 (p0.Symbols + (w64 (p1 * p0.Symbols)))) + p2))
def ref08_Tiles.l0 : Nat → (List Tile) → Int → Machine → Option (List Tile)
  | 0, _, _, _ => none
  | k + 1, l3234, x3235, p0 => if (decide (x3235 < p0.Symbols)) = true then (if l3234.length + [(Tile.mk x3235 0 x3235 0)].length ≤ 100000000000 then (ref08_Tiles.l0 k (l3234 ++ [(Tile.mk x3235 0 x3235 0)]) (w64 (x3235 + 1)) p0) else none) else (some l3234)
def ref08_Tiles.l2 : Nat → (List Tile) → Int → Machine → Int → Option (List Tile)
  | 0, _, _, _, _ => none
  | k + 1, l5108, x5109, p0, x4647 => if (decide (x5109 < p0.Symbols)) = true then ((if 0 ≤ w64 ((w64 (x4647 * p0.Symbols)) + x5109) ∧ w64 ((w64 (x4647 * p0.Symbols)) + x5109) < (p0.Actions.length : Int) then (if (((rdD p0.Actions (w64 ((w64 (x4647 * p0.Symbols)) + x5109)) z_Action).Next) == p0.States) = true then (some l5108) else (((ref08_both p0 x4647 x5109).bind fun t5283 => some ((rdD p0.Actions (w64 ((w64 (x4647 * p0.Symbols)) + x5109)) z_Action).Write, 0, t5283, 0)).bind fun x5279 => (if (((rdD p0.Actions (w64 ((w64 (x4647 * p0.Symbols)) + x5109)) z_Action).Move) == 1) = true then (some (w64 (1 + ((rdD p0.Actions (w64 ((w64 (x4647 * p0.Symbols)) + x5109)) z_Action).Next)), x5279.2.2.2)) else (some (x5279.2.1, w64 ((w64 (1 + p0.States)) + ((rdD p0.Actions (w64 ((w64 (x4647 * p0.Symbols)) + x5109)) z_Action).Next))))).bind fun x5316 => if l5108.length + [(Tile.mk x5279.1 x5316.1 x5279.2.2.1 x5316.2)].length ≤ 100000000000 then (some (l5108 ++ [(Tile.mk x5279.1 x5316.1 x5279.2.2.1 x5316.2)])) else none)) else none).bind fun x5229 => ref08_Tiles.l2 k x5229 (w64 (x5109 + 1)) p0 x4647) else (some l5108)
def ref08_Tiles.l1 : Nat → (List Tile) → Int → Machine → Option (List Tile)
  | 0, _, _, _ => none
  | k + 1, l4646, x4647, p0 => if (decide (x4647 < p0.States)) = true then ((ref08_Tiles.l2 k l4646 0 p0 x4647).bind fun x5113 => ref08_Tiles.l1 k x5113 (w64 (x4647 + 1)) p0) else (some l4646)
def ref08_Tiles.l4 : Nat → (List Tile) → Int → Machine → Int → Option (List Tile)
  | 0, _, _, _, _ => none
  | k + 1, l5761, x5762, p0, x5658 => if (decide (x5762 < p0.Symbols)) = true then ((ref08_both p0 x5658 x5762).bind fun t5795 => (ref08_both p0 x5658 x5762).bind fun t5800 => if l5761.length + [(Tile.mk t5795 0 x5762 (w64 (1 + x5658))), (Tile.mk t5800 (w64 ((w64 (1 + p0.States)) + x5658)) x5762 0)].length ≤ 100000000000 then (ref08_Tiles.l4 k (l5761 ++ [(Tile.mk t5795 0 x5762 (w64 (1 + x5658))), (Tile.mk t5800 (w64 ((w64 (1 + p0.States)) + x5658)) x5762 0)]) (w64 (x5762 + 1)) p0 x5658) else none) else (some l5761)
def ref08_Tiles.l3 : Nat → (List Tile) → Int → Machine → Option (List Tile)
  | 0, _, _, _ => none
  | k + 1, l5657, x5658, p0 => if (decide (x5658 < p0.States)) = true then ((ref08_Tiles.l4 k l5657 0 p0 x5658).bind fun x5766 => ref08_Tiles.l3 k x5766 (w64 (x5658 + 1)) p0) else (some l5657)
def ref08_Tiles (k : Nat) (p0 : Machine) : Option (List Tile) := (ref08_Tiles.l0 k ([] : List Tile) 0 p0).bind fun x3239 => (ref08_Tiles.l1 k x3239 0 p0).bind fun x4651 => (ref08_Tiles.l3 k x4651 0 p0).bind fun x5662 => some x5662
def ref08_Copy (p0 : Config) : Option Config := if ([] : List Int).length + p0.Cells.length ≤ 100000000000 then (some (Config.mk p0.State p0.At (([] : List Int) ++ p0.Cells))) else none
def ref08_Step (p0 : Machine) (p1 : Config) : Option (Config × Int) := if 0 ≤ p1.At ∧ p1.At < (p1.Cells.length : Int) then (if 0 ≤ w64 ((w64 (p1.State * p0.Symbols)) + (rdD p1.Cells p1.At 0)) ∧ w64 ((w64 (p1.State * p0.Symbols)) + (rdD p1.Cells p1.At 0)) < (p0.Actions.length : Int) then (if (((rdD p0.Actions (w64 ((w64 (p1.State * p0.Symbols)) + (rdD p1.Cells p1.At 0))) z_Action).Next) == p0.States) = true then (some ((Config.mk 0 0 ([] : List Int)), 5)) else ((ref08_Copy p1).bind fun t5907 => if 0 ≤ p1.At ∧ p1.At < (t5907.Cells.length : Int) then ((if (((rdD p0.Actions (w64 ((w64 (p1.State * p0.Symbols)) + (rdD p1.Cells p1.At 0))) z_Action).Move) == 1) = true then (some (w64 (t5907.At + 1))) else (some (w64 (t5907.At - 1)))).bind fun x5932 => if ((decide (x5932 < 0)) || (decide (x5932 ≥ ((t5907.Cells.set (p1.At).toNat ((rdD p0.Actions (w64 ((w64 (p1.State * p0.Symbols)) + (rdD p1.Cells p1.At 0))) z_Action).Write)).length : Int)))) = true then (some ((Config.mk 0 0 ([] : List Int)), 6)) else (some ((Config.mk ((rdD p0.Actions (w64 ((w64 (p1.State * p0.Symbols)) + (rdD p1.Cells p1.At 0))) z_Action).Next) x5932 (t5907.Cells.set (p1.At).toNat ((rdD p0.Actions (w64 ((w64 (p1.State * p0.Symbols)) + (rdD p1.Cells p1.At 0))) z_Action).Write))), 0))) else none)) else none) else none
def ref08_Colours (p0 : Machine) (p1 : Config) : Option (List Int) := if ([] : List Int).length + p1.Cells.length ≤ 100000000000 then (if 0 ≤ p1.At ∧ p1.At < (p1.Cells.length : Int) then ((ref08_both p0 p1.State (rdD p1.Cells p1.At 0)).bind fun t5999 => if 0 ≤ p1.At ∧ p1.At < ((([] : List Int) ++ p1.Cells).length : Int) then (some ((([] : List Int) ++ p1.Cells).set (p1.At).toNat t5999)) else none) else none) else none
def ref08_leads (p0 : Machine) (p1 : Config) (p2 : Config) (p3 : Int) (p4 : Tile) : Option Bool := if ((p1.At == p3) && (p2.At == (w64 (p3 + 1)))) = true then (some (p4.E == (w64 (1 + p2.State)))) else (if ((p1.At == (w64 (p3 + 1))) && (p2.At == p3)) = true then (some (p4.E == (w64 ((w64 (1 + p0.States)) + p2.State)))) else (some (p4.E == 0)))
def ref08_Picture.l2 : Nat → Int → Int → Machine → (List Tile) → Int → Int → (List Int) → (Config × Int) → (List Int) → (List Int) → Int → Int → Option Int
  | 0, _, _, _, _, _, _, _, _, _, _, _, _ => none
  | k + 1, x11283, x11284, p0, t5823, x9665, x9666, l9669, t9684, t9717, t9724, x10903, x10904 => if (decide (x11284 < (t5823.length : Int))) = true then (if 0 ≤ x11284 ∧ x11284 < (t5823.length : Int) then ((if (((rdD t5823 x11284 z_Tile).S) == (rdD t9717 x10904 0)) = true then (if (((rdD t5823 x11284 z_Tile).N) == (rdD t9724 x10904 0)) = true then (if (((rdD t5823 x11284 z_Tile).W) == x10903) = true then (if (decide (x10904 < w64 ((t9717.length : Int) - 1))) = true then (if 0 ≤ x10904 ∧ x10904 < (t9717.length : Int) then (if 0 ≤ x10904 ∧ x10904 < (t9724.length : Int) then ((ref08_leads p0 (Config.mk x9665 x9666 l9669) t9684.1 x10904 (rdD t5823 x11284 z_Tile)).bind fun t11407 => some t11407) else none) else none) else (if (((rdD t5823 x11284 z_Tile).E) == 0) = true then (if 0 ≤ x10904 ∧ x10904 < (t9717.length : Int) then (if 0 ≤ x10904 ∧ x10904 < (t9724.length : Int) then ((ref08_leads p0 (Config.mk x9665 x9666 l9669) t9684.1 x10904 (rdD t5823 x11284 z_Tile)).bind fun t11428 => some t11428) else none) else none) else (if 0 ≤ x10904 ∧ x10904 < (t9717.length : Int) then (if 0 ≤ x10904 ∧ x10904 < (t9724.length : Int) then (some false) else none) else none))) else (if 0 ≤ x10904 ∧ x10904 < (t9717.length : Int) then (if 0 ≤ x10904 ∧ x10904 < (t9724.length : Int) then (some false) else none) else none)) else (if 0 ≤ x10904 ∧ x10904 < (t9717.length : Int) then (if 0 ≤ x10904 ∧ x10904 < (t9724.length : Int) then (some false) else none) else none)) else (if 0 ≤ x10904 ∧ x10904 < (t9717.length : Int) then (some false) else none)).bind fun x11381 => (if x11381 = true then (some x11284) else (some x11283)).bind fun x11468 => ref08_Picture.l2 k x11468 (w64 (x11284 + 1)) p0 t5823 x9665 x9666 l9669 t9684 t9717 t9724 x10903 x10904) else none) else (some x11283)
def ref08_Picture.l1 : Nat → (List Int) → Int → Int → Machine → (List Tile) → Int → Int → (List Int) → (Config × Int) → (List Int) → (List Int) → Option (Sum (Pattern × Bool) (List Int))
  | 0, _, _, _, _, _, _, _, _, _, _, _ => none
  | k + 1, l10902, x10903, x10904, p0, t5823, x9665, x9666, l9669, t9684, t9717, t9724 => if (decide (x10904 < (t9717.length : Int))) = true then ((ref08_Picture.l2 k (-1) 0 p0 t5823 x9665 x9666 l9669 t9684 t9717 t9724 x10903 x10904).bind fun x11286 => if (decide (x11286 < 0)) = true then (some (.inl ((Pattern.mk 0 0 ([] : List Int)), false))) else (if 0 ≤ x11286 ∧ x11286 < (t5823.length : Int) then (if l10902.length + [x11286].length ≤ 100000000000 then (ref08_Picture.l1 k (l10902 ++ [x11286]) ((rdD t5823 x11286 z_Tile).E) (w64 (x10904 + 1)) p0 t5823 x9665 x9666 l9669 t9684 t9717 t9724) else none) else none)) else (some (.inr l10902))
def ref08_Picture.l0 : Nat → Int → Int → (List Int) → (List Int) → Int → Machine → Int → (List Tile) → Option (Sum (Pattern × Bool) (List Int))
  | 0, _, _, _, _, _, _, _, _ => none
  | k + 1, x9665, x9666, l9669, l9672, x9673, p0, p2, t5823 => if (decide (x9673 < p2)) = true then ((ref08_Step p0 (Config.mk x9665 x9666 l9669)).bind fun t9684 => if (t9684.2 != 0) = true then (some (.inl ((Pattern.mk 0 0 ([] : List Int)), false))) else ((ref08_Colours p0 (Config.mk x9665 x9666 l9669)).bind fun t9717 => (ref08_Colours p0 t9684.1).bind fun t9724 => (ref08_Picture.l1 k l9672 0 0 p0 t5823 x9665 x9666 l9669 t9684 t9717 t9724).bind fun x10908 => sumb x10908 (fun r => some (.inl r)) (fun y11499 => ref08_Picture.l0 k t9684.1.State t9684.1.At t9684.1.Cells y11499 (w64 (x9673 + 1)) p0 p2 t5823))) else (some (.inr l9672))
def ref08_Picture (k : Nat) (p0 : Machine) (p1 : Config) (p2 : Int) : Option (Pattern × Bool) := (ref08_Tiles k p0).bind fun t5823 => (ref08_Picture.l0 k p1.State p1.At p1.Cells ([] : List Int) 0 p0 p2 t5823).bind fun x9677 => sumb x9677 (fun r => some r) (fun y11507 => some ((Pattern.mk (p1.Cells.length : Int) p2 y11507), true))
def law08_MachinePictures (k : Nat) (p0 : Machine) (p1 : Config) (p2 : Int) : Option Bool := (if (decide ((p1.Cells.length : Int) > 0)) = true then (if (p1.Cells.length : Int) ≠ 0 then (some (decide (p2 > w64 (Int.tdiv 40000 (p1.Cells.length : Int))))) else none) else (some false)).bind fun b10 => (law08_wide p0 p1).bind fun t24 => if (t24 || (((decide (p2 > 0)) && (!b10)) && (decide (w64 (p2 * (p1.Cells.length : Int)) > 6000)))) = true then ((law08_awake k).bind fun t2738 => some t2738) else ((machine_Picture k p0 p1 p2).bind fun t2743 => (ref08_Fits k p0 p1).bind fun t3007 => (if (!t3007) = true then (some 1) else ((if (decide (p2 < 1)) = true then (some 2) else ((if b10 = true then (some 4) else (some 0)).bind fun x3060 => some x3060)).bind fun x3055 => some x3055)).bind fun x3041 => if (x3041 != 0) = true then ((if (t2743.2 == x3041) = true then ((ref01_SamePattern k t2743.1 (Pattern.mk 0 0 ([] : List Int))).bind fun t3158 => some t3158) else (some false)).bind fun x3155 => (if x3155 = true then ((law08_awake k).bind fun t3177 => some t3177) else (some false)).bind fun x3174 => some x3174) else ((ref08_Picture k p0 p1 p2).bind fun t11511 => if (!t11511.2) = true then ((if (t2743.2 == 6) = true then ((ref01_SamePattern k t2743.1 (Pattern.mk 0 0 ([] : List Int))).bind fun t11534 => some t11534) else (some false)).bind fun x11531 => (if x11531 = true then ((law08_awake k).bind fun t11553 => some t11553) else (some false)).bind fun x11550 => some x11550) else ((if (t2743.2 == 0) = true then ((ref01_SamePattern k t2743.1 t11511.1).bind fun t11572 => some t11572) else (some false)).bind fun x11569 => (if x11569 = true then ((law08_awake k).bind fun t11591 => some t11591) else (some false)).bind fun x11588 => some x11588)))
end Gp
namespace Gp
open Go Gw Go.Proofs Go.RowKit
def ok_Action (a : Action) : Prop := (ok64 a.Write) ∧ (ok64 a.Move) ∧ (ok64 a.Next)
theorem opn_Action_88 {H : Type} {enc : TypeId × Value → H} {w : World} {base : Nat} {spare : Nat → Bool} {held : Bool} {fuel : Nat} {cs : List Value} {x : DataW H × List MemPlace} (h : DataW.trod enc Try.prog w base spare held fuel 88 cs = some x) : ∃ (a : Action), cs = [.int .i64 a.Write, .int .i64 a.Move, .int .i64 a.Next] ∧ ok_Action a := by
  obtain ⟨hl, n, hf⟩ := opn_fields Try.underlying88 h
  have hl0 : cs.length = 3 := hl.trans (by kernel_rfl)
  obtain ⟨q0, r0, rfl, hl1⟩ := cons_of hl0
  obtain ⟨q1, r1, rfl, hl2⟩ := cons_of hl1
  obtain ⟨q2, r2, rfl, hl3⟩ := cons_of hl2
  obtain rfl := List.eq_nil_of_length_eq_zero hl3
  obtain ⟨y0, h0⟩ := hf 0 _ 1 rfl (by kernel_rfl)
  have h0 : DataW.trod enc Try.prog w base spare held n 3 [q0] = some y0 := h0
  obtain ⟨a0, e0, w0⟩ := opn_int Try.underlying3 h0
  injection e0 with f0 e0
  subst f0
  obtain ⟨y1, h1⟩ := hf 1 _ 1 rfl (by kernel_rfl)
  have h1 : DataW.trod enc Try.prog w base spare held n 3 [q1] = some y1 := h1
  obtain ⟨a1, e1, w1⟩ := opn_int Try.underlying3 h1
  injection e1 with f1 e1
  subst f1
  obtain ⟨y2, h2⟩ := hf 2 _ 1 rfl (by kernel_rfl)
  have h2 : DataW.trod enc Try.prog w base spare held n 3 [q2] = some y2 := h2
  obtain ⟨a2, e2, w2⟩ := opn_int Try.underlying3 h2
  injection e2 with f2 e2
  subst f2
  exact ⟨⟨a0, a1, a2⟩, rfl, ⟨wf64 w0, wf64 w1, wf64 w2⟩⟩
theorem opens_Action_88 : Opens Try.prog 88 enc_Action ok_Action := ⟨by kernel_rfl, by decide, fun h => opn_Action_88 h⟩
def ok_Machine (a : Machine) : Prop := (ok64 a.States) ∧ (ok64 a.Symbols) ∧ ((∀ x ∈ a.Actions, ok_Action x) ∧ a.Actions.length ≤ maxLen)
theorem opn_Machine_24 {H : Type} {enc : TypeId × Value → H} {w : World} {base : Nat} {spare : Nat → Bool} {held : Bool} {fuel : Nat} {cs : List Value} {x : DataW H × List MemPlace} (h : DataW.trod enc Try.prog w base spare held fuel 24 cs = some x) : ∃ (a : Machine) (A0 : Option Addr) (c0 : Nat), cs = [.int .i64 a.States, .int .i64 a.Symbols, .slice A0 a.Actions.length c0] ∧ RO NoS w (rowR enc_Action A0 c0 a.Actions) ∧ ok_Machine a := by
  obtain ⟨hl, n, hf⟩ := opn_fields Try.underlying24 h
  have hl0 : cs.length = 3 := hl.trans (by kernel_rfl)
  obtain ⟨q0, r0, rfl, hl1⟩ := cons_of hl0
  obtain ⟨q1, r1, rfl, hl2⟩ := cons_of hl1
  obtain ⟨q2, r2, rfl, hl3⟩ := cons_of hl2
  obtain rfl := List.eq_nil_of_length_eq_zero hl3
  obtain ⟨y0, h0⟩ := hf 0 _ 1 rfl (by kernel_rfl)
  have h0 : DataW.trod enc Try.prog w base spare held n 3 [q0] = some y0 := h0
  obtain ⟨a0, e0, w0⟩ := opn_int Try.underlying3 h0
  injection e0 with f0 e0
  subst f0
  obtain ⟨y1, h1⟩ := hf 1 _ 1 rfl (by kernel_rfl)
  have h1 : DataW.trod enc Try.prog w base spare held n 3 [q1] = some y1 := h1
  obtain ⟨a1, e1, w1⟩ := opn_int Try.underlying3 h1
  injection e1 with f1 e1
  subst f1
  obtain ⟨y2, h2⟩ := hf 2 _ 1 rfl (by kernel_rfl)
  have h2 : DataW.trod enc Try.prog w base spare held n 22 [q2] = some y2 := h2
  obtain ⟨A2_, c2_, a2, e2, o2, w2, m2⟩ := opn_row Try.underlying22 opens_Action_88 h2
  injection e2 with f2 e2
  subst f2
  exact ⟨⟨a0, a1, a2⟩, A2_, c2_, rfl, o2, ⟨wf64 w0, wf64 w1, ⟨w2, m2⟩⟩⟩
def ok_Config (a : Config) : Prop := (ok64 a.State) ∧ (ok64 a.At) ∧ ((∀ x ∈ a.Cells, ok64 x) ∧ a.Cells.length ≤ maxLen)
theorem opn_Config_27 {H : Type} {enc : TypeId × Value → H} {w : World} {base : Nat} {spare : Nat → Bool} {held : Bool} {fuel : Nat} {cs : List Value} {x : DataW H × List MemPlace} (h : DataW.trod enc Try.prog w base spare held fuel 27 cs = some x) : ∃ (a : Config) (A0 : Option Addr) (c0 : Nat), cs = [.int .i64 a.State, .int .i64 a.At, .slice A0 a.Cells.length c0] ∧ RO NoS w (rowR encInt A0 c0 a.Cells) ∧ ok_Config a := by
  obtain ⟨hl, n, hf⟩ := opn_fields Try.underlying27 h
  have hl0 : cs.length = 3 := hl.trans (by kernel_rfl)
  obtain ⟨q0, r0, rfl, hl1⟩ := cons_of hl0
  obtain ⟨q1, r1, rfl, hl2⟩ := cons_of hl1
  obtain ⟨q2, r2, rfl, hl3⟩ := cons_of hl2
  obtain rfl := List.eq_nil_of_length_eq_zero hl3
  obtain ⟨y0, h0⟩ := hf 0 _ 1 rfl (by kernel_rfl)
  have h0 : DataW.trod enc Try.prog w base spare held n 3 [q0] = some y0 := h0
  obtain ⟨a0, e0, w0⟩ := opn_int Try.underlying3 h0
  injection e0 with f0 e0
  subst f0
  obtain ⟨y1, h1⟩ := hf 1 _ 1 rfl (by kernel_rfl)
  have h1 : DataW.trod enc Try.prog w base spare held n 3 [q1] = some y1 := h1
  obtain ⟨a1, e1, w1⟩ := opn_int Try.underlying3 h1
  injection e1 with f1 e1
  subst f1
  obtain ⟨y2, h2⟩ := hf 2 _ 1 rfl (by kernel_rfl)
  have h2 : DataW.trod enc Try.prog w base spare held n 25 [q2] = some y2 := h2
  obtain ⟨A2_, c2_, a2, e2, o2, w2, m2⟩ := opn_row Try.underlying25 (opens_int Try.underlying3 (by kernel_rfl)) h2
  injection e2 with f2 e2
  subst f2
  exact ⟨⟨a0, a1, a2⟩, A2_, c2_, rfl, o2, ⟨wf64 w0, wf64 w1, ⟨w2, m2⟩⟩⟩
end Gp
