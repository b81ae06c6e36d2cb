/- The functions that the law reaches, as plain functions; how what comes in is opened. -/
import Derived.Test.YtamnfcbekogkdaaGb
set_option linter.unusedVariables false
set_option linter.unusedSimpArgs false
namespace Gp
open Go Gw
structure BoundsError where
  x : Int
  y : Int
  signed : Bool
  code : Int
  deriving DecidableEq
def z_BoundsError : BoundsError := ⟨0, 0, false, 0⟩
def enc_BoundsError : Enc BoundsError := ⟨4, fun x => [(.int .i64 x.x), (.int .i64 x.y), (.bool x.signed), (.int .u8 x.code)], fun _ => rfl, fun x u h => by simp at h; rcases h with rfl | rfl | rfl | rfl <;> rfl⟩
structure Action where
  Write : Int
  Move : Int
  Next : Int
  deriving DecidableEq
def z_Action : Action := ⟨0, 0, 0⟩
def ints_Action (x : Action) : List Int := [x.Write, x.Move, x.Next]
def enc_Action : Enc Action := ⟨3, fun x => [(.int .i64 x.Write), (.int .i64 x.Move), (.int .i64 x.Next)], fun _ => rfl, fun x u h => by simp at h; rcases h with rfl | rfl | rfl <;> rfl⟩
structure Machine where
  States : Int
  Symbols : Int
  Actions : List Action
  deriving DecidableEq
def z_Machine : Machine := ⟨0, 0, []⟩
structure Config where
  State : Int
  At : Int
  Cells : List Int
  deriving DecidableEq
def z_Config : Config := ⟨0, 0, []⟩
structure Pattern where
  Width : Int
  Height : Int
  Cells : List Int
  deriving DecidableEq
def z_Pattern : Pattern := ⟨0, 0, []⟩
structure Tile where
  N : Int
  E : Int
  S : Int
  W : Int
  deriving DecidableEq
def z_Tile : Tile := ⟨0, 0, 0, 0⟩
def ints_Tile (x : Tile) : List Int := [x.N, x.E, x.S, x.W]
def enc_Tile : Enc Tile := ⟨4, fun x => [(.int .i64 x.N), (.int .i64 x.E), (.int .i64 x.S), (.int .i64 x.W)], fun _ => rfl, fun x u h => by simp at h; rcases h with rfl | rfl | rfl | rfl <;> rfl⟩
structure Shown where
  P : Pattern
  Height : Int
  deriving DecidableEq
def z_Shown : Shown := ⟨z_Pattern, 0⟩
structure Runner where
  m : Machine
  Config : Config
  deriving DecidableEq
def z_Runner : Runner := ⟨z_Machine, z_Config⟩
structure Kit where
  m : Machine
  set : List Tile
  does : List Int
  base : Int
  deriving DecidableEq
def z_Kit : Kit := ⟨z_Machine, [], [], 0⟩
def law08_wide (p0 : Machine) (p1 : Config) : Option Bool := some ((decide ((p0.Actions.length : Int) > 200)) || (decide ((p1.Cells.length : Int) > 1000)))
def ref08_Valid.l0 : Nat → Int → Machine → Option (Sum Bool Unit)
  | 0, _, _ => none
  | k + 1, x102, p0 => if (decide (x102 < (p0.Actions.length : Int))) = true then (if 0 ≤ x102 ∧ x102 < (p0.Actions.length : Int) then (if (((((decide ((rdD p0.Actions x102 z_Action).Write < 0)) || (decide ((rdD p0.Actions x102 z_Action).Write ≥ p0.Symbols))) || ((((rdD p0.Actions x102 z_Action).Move) != 0) && (((rdD p0.Actions x102 z_Action).Move) != 1))) || (decide ((rdD p0.Actions x102 z_Action).Next < 0))) || (decide ((rdD p0.Actions x102 z_Action).Next > p0.States))) = true then (some (.inl false)) else (if ((((rdD p0.Actions x102 z_Action).Next) == p0.States) && ((((rdD p0.Actions x102 z_Action).Write) != 0) || (((rdD p0.Actions x102 z_Action).Move) != 0))) = true then (some (.inl false)) else (ref08_Valid.l0 k (w64 (x102 + 1)) p0))) else none) else (some (.inr ()))
def ref08_Valid (k : Nat) (p0 : Machine) : Option Bool := if (((((decide (p0.States < 1)) || (decide (p0.States > 6))) || (decide (p0.Symbols < 2))) || (decide (p0.Symbols > 4))) || ((p0.Actions.length : Int) != (w64 (p0.States * p0.Symbols)))) = true then (some false) else ((ref08_Valid.l0 k 0 p0).bind fun x103 => sumb x103 (fun r => some r) (fun y140 => some true))
def ref08_Fits.l0 : Nat → Int → Machine → Config → Option (Sum Bool Unit)
  | 0, _, _, _ => none
  | k + 1, x229, p0, p1 => if (decide (x229 < (p1.Cells.length : Int))) = true then ((if (decide ((rdD p1.Cells x229 0) < 0)) = true then (if 0 ≤ x229 ∧ x229 < (p1.Cells.length : Int) then (some true) else none) else (if 0 ≤ x229 ∧ x229 < (p1.Cells.length : Int) then (some (decide ((rdD p1.Cells x229 0) ≥ p0.Symbols))) else none)).bind fun x251 => if x251 = true then (some (.inl false)) else (ref08_Fits.l0 k (w64 (x229 + 1)) p0 p1)) else (some (.inr ()))
def ref08_Fits (k : Nat) (p0 : Machine) (p1 : Config) : Option Bool := (ref08_Valid k p0).bind fun t142 => if (((((((!t142) || (decide (p1.State < 0))) || (decide (p1.State ≥ p0.States))) || (decide ((p1.Cells.length : Int) < 1))) || (decide ((p1.Cells.length : Int) > 200))) || (decide (p1.At < 0))) || (decide (p1.At ≥ (p1.Cells.length : Int)))) = true then (some false) else ((ref08_Fits.l0 k 0 p0 p1).bind fun x230 => sumb x230 (fun r => some r) (fun y273 => some true))
def law08_goes  : Option Machine := some (Machine.mk 1 2 [(Action.mk 1 1 0), (Action.mk 1 1 0)])
def machine_action (p0 : Machine) (p1 : Action) : Option Bool := if (p1.Next == p0.States) = true then (some ((p1.Write == 0) && (p1.Move == 0))) else (some ((((((decide (p1.Write ≥ 0)) && (decide (p1.Write < p0.Symbols))) && (decide (p1.Move ≥ 0))) && (decide (p1.Move < 2))) && (decide (p1.Next ≥ 0))) && (decide (p1.Next < p0.States))))
def machine_Valid_1 (p0 : Action) (f0 : Machine) : Option Bool := (machine_action f0 p0).bind fun t358 => some (!t358)
def slices_IndexFunc_api_Action_api_Action_with_machine_Valid_1.l0 : Nat → Int → (List Action) → Machine → Option (Sum Int Unit)
  | 0, _, _, _ => none
  | k + 1, x378, p0, p1_0 => if (decide (x378 < (p0.length : Int))) = true then (if 0 ≤ x378 ∧ x378 < (p0.length : Int) then ((machine_Valid_1 (rdD p0 x378 z_Action) p1_0).bind fun t387 => if t387 = true then (some (.inl x378)) else (slices_IndexFunc_api_Action_api_Action_with_machine_Valid_1.l0 k (w64 (x378 + 1)) p0 p1_0)) else none) else (some (.inr ()))
def slices_IndexFunc_api_Action_api_Action_with_machine_Valid_1 (k : Nat) (p0 : List Action) (p1_0 : Machine) : Option Int := (slices_IndexFunc_api_Action_api_Action_with_machine_Valid_1.l0 k 0 p0 p1_0).bind fun x379 => sumb x379 (fun r => some r) (fun y396 => some (-1))
def slices_ContainsFunc_api_Action_api_Action_with_machine_Valid_1 (k : Nat) (p0 : List Action) (p1_0 : Machine) : Option Bool := (slices_IndexFunc_api_Action_api_Action_with_machine_Valid_1 k p0 p1_0).bind fun t398 => some (decide (t398 ≥ 0))
def machine_Valid (k : Nat) (p0 : Machine) : Option Bool := (if (((((decide (p0.States ≥ 1)) && (decide (p0.States ≤ 6))) && (decide (p0.Symbols ≥ 2))) && (decide (p0.Symbols ≤ 4))) && ((p0.Actions.length : Int) == (w64 (p0.States * p0.Symbols)))) = true then ((slices_ContainsFunc_api_Action_api_Action_with_machine_Valid_1 k p0.Actions p0).bind fun t412 => some (!t412)) else (some false)).bind fun x409 => some x409
def machine_head (p0 : Machine) (p1 : Int) (p2 : Int) : Option Int := some (w64 ((w64 (p0.Symbols + (w64 (p1 * p0.Symbols)))) + p2))
def machine_kit_signal (p0 : Kit) (p1 : Int) (p2 : Int) : Option Int := if (p1 == 1) = true then (some (w64 (1 + p2))) else (some (w64 ((w64 (1 + p0.m.States)) + p2)))
def machine_kit_acts (p0 : Kit) (p1 : Int) (p2 : Int) (p3 : Action) : Option Tile := ((machine_head p0.m p1 p2).bind fun t607 => some (p3.Write, 0, t607, 0)).bind fun x603 => if (p3.Move == 0) = true then ((machine_kit_signal p0 p3.Move p3.Next).bind fun t635 => some (Tile.mk x603.1 x603.2.1 x603.2.2.1 t635)) else (if (p3.Move == 1) = true then ((machine_kit_signal p0 p3.Move p3.Next).bind fun t645 => some (Tile.mk x603.1 t645 x603.2.2.1 x603.2.2.2)) else (none))
def machine_kitOf.l0 : Nat → (List Tile) → Int → Machine → Option (List Tile)
  | 0, _, _, _ => none
  | k + 1, l472, x473, p0 => if (decide (x473 < p0.Symbols)) = true then (if l472.length + [(Tile.mk x473 0 x473 0)].length ≤ 100000000000 then (machine_kitOf.l0 k (l472 ++ [(Tile.mk x473 0 x473 0)]) (w64 (x473 + 1)) p0) else none) else (some l472)
def machine_kitOf.l1 : Nat → (List Tile) → (List Int) → Int → Machine → Option ((List Tile) × (List Int))
  | 0, _, _, _, _ => none
  | k + 1, l986, l989, x990, p0 => if (decide (x990 < (p0.Actions.length : Int))) = true then ((if 0 ≤ x990 ∧ x990 < (p0.Actions.length : Int) then (if (((rdD p0.Actions x990 z_Action).Next) == p0.States) = true then (if l989.length + [(-1)].length ≤ 100000000000 then (some (l986, l989 ++ [(-1)])) else none) else (if l989.length + [(l986.length : Int)].length ≤ 100000000000 then (if p0.Symbols ≠ 0 then ((machine_kit_acts (Kit.mk p0 l986 (l989 ++ [(l986.length : Int)]) 0) (w64 (Int.tdiv x990 p0.Symbols)) (Int.tmod x990 p0.Symbols) (rdD p0.Actions x990 z_Action)).bind fun t1165 => if l986.length + [t1165].length ≤ 100000000000 then (some (l986 ++ [t1165], l989 ++ [(l986.length : Int)])) else none) else none) else none)) else none).bind fun x1095 => machine_kitOf.l1 k x1095.1 x1095.2 (w64 (x990 + 1)) p0) else (some (l986, l989))
def machine_kitOf.l3 : Nat → (List Tile) → Int → Machine → ((List Tile) × (List Int)) → Int → Option (List Tile)
  | 0, _, _, _, _, _ => none
  | k + 1, l1676, x1677, p0, x997, x1555 => if (decide (x1677 < p0.Symbols)) = true then ((machine_head p0 x1555 x1677).bind fun t1688 => (machine_kit_signal (Kit.mk p0 l1676 x997.2 (x997.1.length : Int)) 1 x1555).bind fun t1717 => (machine_kit_signal (Kit.mk p0 l1676 x997.2 (x997.1.length : Int)) 0 x1555).bind fun t1722 => if l1676.length + [(Tile.mk t1688 0 x1677 t1717), (Tile.mk t1688 t1722 x1677 0)].length ≤ 100000000000 then (machine_kitOf.l3 k (l1676 ++ [(Tile.mk t1688 0 x1677 t1717), (Tile.mk t1688 t1722 x1677 0)]) (w64 (x1677 + 1)) p0 x997 x1555) else none) else (some l1676)
def machine_kitOf.l2 : Nat → (List Tile) → Int → Machine → ((List Tile) × (List Int)) → Option (List Tile)
  | 0, _, _, _, _ => none
  | k + 1, l1554, x1555, p0, x997 => if (decide (x1555 < p0.States)) = true then ((machine_kitOf.l3 k l1554 0 p0 x997 x1555).bind fun x1681 => machine_kitOf.l2 k x1681 (w64 (x1555 + 1)) p0 x997) else (some l1554)
def machine_kitOf (k : Nat) (p0 : Machine) : Option Kit := (machine_kitOf.l0 k ([] : List Tile) 0 p0).bind fun x477 => (machine_kitOf.l1 k x477 ([] : List Int) 0 p0).bind fun x997 => (machine_kitOf.l2 k x997.1 0 p0 x997).bind fun x1559 => some (Kit.mk p0 x1559 x997.2 (x997.1.length : Int))
def machine_Tiles (k : Nat) (p0 : Machine) : Option ((List Tile) × Int) := (machine_Valid k p0).bind fun t422 => if (!t422) = true then (some (([] : List Tile), 1)) else ((machine_kitOf k p0).bind fun t1747 => some (t1747.set, 0))
def machine_Fits_1 (p0 : Int) (f0 : Machine) : Option Bool := some ((decide (p0 < 0)) || (decide (p0 ≥ f0.Symbols)))
def slices_IndexFunc_int_int_with_machine_Fits_1.l0 : Nat → Int → (List Int) → Machine → Option (Sum Int Unit)
  | 0, _, _, _ => none
  | k + 1, x1832, p0, p1_0 => if (decide (x1832 < (p0.length : Int))) = true then (if 0 ≤ x1832 ∧ x1832 < (p0.length : Int) then ((machine_Fits_1 (rdD p0 x1832 0) p1_0).bind fun t1841 => if t1841 = true then (some (.inl x1832)) else (slices_IndexFunc_int_int_with_machine_Fits_1.l0 k (w64 (x1832 + 1)) p0 p1_0)) else none) else (some (.inr ()))
def slices_IndexFunc_int_int_with_machine_Fits_1 (k : Nat) (p0 : List Int) (p1_0 : Machine) : Option Int := (slices_IndexFunc_int_int_with_machine_Fits_1.l0 k 0 p0 p1_0).bind fun x1833 => sumb x1833 (fun r => some r) (fun y1850 => some (-1))
def slices_ContainsFunc_int_int_with_machine_Fits_1 (k : Nat) (p0 : List Int) (p1_0 : Machine) : Option Bool := (slices_IndexFunc_int_int_with_machine_Fits_1 k p0 p1_0).bind fun t1852 => some (decide (t1852 ≥ 0))
def machine_Fits (k : Nat) (p0 : Machine) (p1 : Config) : Option Bool := (machine_Valid k p0).bind fun t1796 => (if ((((((t1796 && (decide (p1.State ≥ 0))) && (decide (p1.State < p0.States))) && (decide ((p1.Cells.length : Int) ≥ 1))) && (decide ((p1.Cells.length : Int) ≤ 200))) && (decide (p1.At ≥ 0))) && (decide (p1.At < (p1.Cells.length : Int)))) = true then ((slices_ContainsFunc_int_int_with_machine_Fits_1 k p1.Cells p0).bind fun t1866 => some (!t1866)) else (some false)).bind fun x1863 => some x1863
def slices_Clone_int_int_nil (p0 : List Int) : Option (List Int) := some ([] : List Int)
def slices_Clone_int_int_some (p0 : List Int) : Option (List Int) := if ([] : List Int).length + p0.length ≤ 100000000000 then (some (([] : List Int) ++ p0)) else none
def slices_Clone_int_int (p0 : List Int) : Option (List Int) := slices_Clone_int_int_some p0
def machine_begin (p0 : Machine) (p1 : Config) : Option Runner := (slices_Clone_int_int p1.Cells).bind fun t1910 => some (Runner.mk p0 (Config.mk p1.State p1.At t1910))
def machine_runner_does (p0 : Runner) : Option Int := if 0 ≤ p0.Config.At ∧ p0.Config.At < (p0.Config.Cells.length : Int) then (some (w64 ((w64 (p0.Config.State * p0.m.Symbols)) + (rdD p0.Config.Cells p0.Config.At 0)))) else none
def machine_runner_step (p0 : Runner) : Option (Int × Runner) := ((machine_runner_does p0).bind fun t2101 => if 0 ≤ t2101 ∧ t2101 < (p0.m.Actions.length : Int) then (some ((rdD p0.m.Actions t2101 z_Action).Write, (rdD p0.m.Actions t2101 z_Action).Move, (rdD p0.m.Actions t2101 z_Action).Next)) else none).bind fun x2097 => if (x2097.2.2 == p0.m.States) = true then (some (5, p0)) else (if ((decide (w64 ((w64 (p0.Config.At + (w64 (2 * x2097.2.1)))) - 1) < 0)) || (decide (w64 ((w64 (p0.Config.At + (w64 (2 * x2097.2.1)))) - 1) ≥ (p0.Config.Cells.length : Int)))) = true then (some (6, p0)) else (if 0 ≤ p0.Config.At ∧ p0.Config.At < (p0.Config.Cells.length : Int) then (some (0, (Runner.mk p0.m (Config.mk x2097.2.2 (w64 ((w64 (p0.Config.At + (w64 (2 * x2097.2.1)))) - 1)) (p0.Config.Cells.set (p0.Config.At).toNat x2097.1))))) else none))
def machine_Run.l0 : Nat → Int → Int → Int → Int → (List Int) → Int → Machine → Int → Option (Int × Int × Int × Int × (List Int) × Int)
  | 0, _, _, _, _, _, _, _, _ => none
  | k + 1, x2240, x2241, x2242, x2243, l2246, x2247, p0, p2 => (if (decide (x2247 < p2)) = true then ((machine_runner_step (Runner.mk (Machine.mk x2240 x2241 p0.Actions) (Config.mk x2242 x2243 l2246))).bind fun t2280 => some (t2280.2.m.States, t2280.2.m.Symbols, t2280.2.Config.State, t2280.2.Config.At, t2280.2.Config.Cells, t2280.1 == 0)) else (some (x2240, x2241, x2242, x2243, l2246, false))).bind fun x2277 => if x2277.2.2.2.2.2 = true then (machine_Run.l0 k x2277.1 x2277.2.1 x2277.2.2.1 x2277.2.2.2.1 x2277.2.2.2.2.1 (w64 (x2247 + 1)) p0 p2) else (some (x2277.1, x2277.2.1, x2277.2.2.1, x2277.2.2.2.1, x2277.2.2.2.2.1, x2247))
def machine_Run (k : Nat) (p0 : Machine) (p1 : Config) (p2 : Int) : Option (Config × Int × Int) := (machine_Fits k p0 p1).bind fun t1876 => if (!t1876) = true then (some ((Config.mk 0 0 ([] : List Int)), 0, 1)) else (if ((decide (p2 < 0)) || (decide (p2 > 100000))) = true then (some ((Config.mk 0 0 ([] : List Int)), 0, 2)) else ((machine_begin p0 p1).bind fun t1923 => (machine_Run.l0 k t1923.m.States t1923.m.Symbols t1923.Config.State t1923.Config.At t1923.Config.Cells 0 p0 p2).bind fun x2256 => some ((Config.mk x2256.2.2.1 x2256.2.2.2.1 x2256.2.2.2.2.1), x2256.2.2.2.2.2, 0)))
def machine_kit_row.l0 : Nat → (List Int) → Int → Kit → Runner → (Int × Int × Int) → Option (List Int)
  | 0, _, _, _, _, _ => none
  | k + 1, l2688, x2689, p0, p1, x2483 => if (decide (x2689 < (p1.Config.Cells.length : Int))) = true then (if 0 ≤ x2689 ∧ x2689 < (p1.Config.Cells.length : Int) then ((if (x2689 == p1.Config.At) = true then ((machine_runner_does p1).bind fun t2741 => if 0 ≤ t2741 ∧ t2741 < (p0.does.length : Int) then (some (rdD p0.does t2741 0)) else none) else ((if (x2689 == (w64 ((w64 (p1.Config.At + (w64 (2 * x2483.2.1)))) - 1))) = true then (some (w64 ((w64 ((w64 (p0.base + (w64 (2 * (w64 ((w64 (x2483.2.2 * p1.m.Symbols)) + (rdD p1.Config.Cells x2689 0))))))) + 1)) - x2483.2.1))) else (some (rdD p1.Config.Cells x2689 0))).bind fun x2751 => some x2751)).bind fun x2730 => if l2688.length + [x2730].length ≤ 100000000000 then (machine_kit_row.l0 k (l2688 ++ [x2730]) (w64 (x2689 + 1)) p0 p1 x2483) else none) else none) else (some l2688)
def machine_kit_row (k : Nat) (p0 : Kit) (p1 : Runner) : Option (List Int) := ((machine_runner_does p1).bind fun t2487 => if 0 ≤ t2487 ∧ t2487 < (p1.m.Actions.length : Int) then (some ((rdD p1.m.Actions t2487 z_Action).Write, (rdD p1.m.Actions t2487 z_Action).Move, (rdD p1.m.Actions t2487 z_Action).Next)) else none).bind fun x2483 => (machine_kit_row.l0 k ([] : List Int) 0 p0 p1 x2483).bind fun x2693 => some x2693
def machine_Picture.l0 : Nat → Int → Int → Int → Int → (List Int) → (List Int) → Int → Machine → Int → Kit → Option (Sum (Pattern × Int) (List Int))
  | 0, _, _, _, _, _, _, _, _, _, _ => none
  | k + 1, x2885, x2886, x2887, x2888, l2891, l2894, x2895, p0, p2, t2375 => if (decide (x2895 < p2)) = true then ((machine_begin p0 (Config.mk x2887 x2888 l2891)).bind fun t2916 => (machine_runner_step (Runner.mk (Machine.mk t2916.m.States t2916.m.Symbols p0.Actions) t2916.Config)).bind fun t2924 => if (t2924.1 != 0) = true then (some (.inl ((Pattern.mk 0 0 ([] : List Int)), 6))) else ((machine_kit_row k (Kit.mk (Machine.mk t2375.m.States t2375.m.Symbols p0.Actions) t2375.set t2375.does t2375.base) (Runner.mk (Machine.mk x2885 x2886 p0.Actions) (Config.mk x2887 x2888 l2891))).bind fun t2951 => if l2894.length + t2951.length ≤ 100000000000 then (machine_Picture.l0 k t2924.2.m.States t2924.2.m.Symbols t2924.2.Config.State t2924.2.Config.At t2924.2.Config.Cells (l2894 ++ t2951) (w64 (x2895 + 1)) p0 p2 t2375) else none)) else (some (.inr l2894))
def machine_Picture (k : Nat) (p0 : Machine) (p1 : Config) (p2 : Int) : Option (Pattern × Int) := (machine_Fits k p0 p1).bind fun t2336 => if (!t2336) = true then (some ((Pattern.mk 0 0 ([] : List Int)), 1)) else (if (decide (p2 < 1)) = true then (some ((Pattern.mk 0 0 ([] : List Int)), 2)) else (if ((decide (p2 > 40000)) || (decide (w64 ((p1.Cells.length : Int) * p2) > 40000))) = true then (some ((Pattern.mk 0 0 ([] : List Int)), 4)) else ((machine_kitOf k p0).bind fun t2375 => (machine_begin p0 p1).bind fun t2385 => (machine_Picture.l0 k t2385.m.States t2385.m.Symbols t2385.Config.State t2385.Config.At t2385.Config.Cells ([] : List Int) 0 p0 p2 t2375).bind fun x2899 => sumb x2899 (fun r => some r) (fun y2968 => some ((Pattern.mk (p1.Cells.length : Int) p2 y2968), 0)))))
def law08_awake (k : Nat)  : Option Bool := (law08_goes).bind fun t308 => (machine_Tiles k t308).bind fun t1757 => (law08_goes).bind fun t1764 => (machine_Run k t1764 (Config.mk 0 0 [0, 0, 0]) 9).bind fun t2299 => (law08_goes).bind fun t2312 => (machine_Picture k t2312 (Config.mk 0 0 [0, 0, 0]) 3).bind fun t2972 => some ((((((t1757.2 == 0) && ((t1757.1.length : Int) == 8)) && (t2299.2.2 == 0)) && (t2299.2.1 == 2)) && (t2299.1.At == 2)) && (t2972.2 == 6))
def tile_colour_1 (p0 : Int) : Option Bool := some ((decide (p0 < 0)) || (decide (p0 ≥ 1000)))
def slices_IndexFunc_int_int_with_tile_colour_1.l0 : Nat → Int → (List Int) → Option (Sum Int Unit)
  | 0, _, _ => none
  | k + 1, x3104, p0 => if (decide (x3104 < (p0.length : Int))) = true then (if 0 ≤ x3104 ∧ x3104 < (p0.length : Int) then ((tile_colour_1 (rdD p0 x3104 0)).bind fun t3113 => if t3113 = true then (some (.inl x3104)) else (slices_IndexFunc_int_int_with_tile_colour_1.l0 k (w64 (x3104 + 1)) p0)) else none) else (some (.inr ()))
def slices_IndexFunc_int_int_with_tile_colour_1 (k : Nat) (p0 : List Int) : Option Int := (slices_IndexFunc_int_int_with_tile_colour_1.l0 k 0 p0).bind fun x3105 => sumb x3105 (fun r => some r) (fun y3122 => some (-1))
def slices_ContainsFunc_int_int_with_tile_colour_1 (k : Nat) (p0 : List Int) : Option Bool := (slices_IndexFunc_int_int_with_tile_colour_1 k p0).bind fun t3124 => some (decide (t3124 ≥ 0))
def tile_colour (k : Nat) (p0 : List Int) : Option Bool := (slices_ContainsFunc_int_int_with_tile_colour_1 k p0).bind fun t3129 => some (!t3129)
def tile_Valid.l0 : Nat → (List (Tile × Bool)) → Int → (List Tile) → Option (Sum Bool Unit)
  | 0, _, _, _ => none
  | k + 1, l3203, x3204, p0 => if (decide (x3204 < (p0.length : Int))) = true then (if 0 ≤ x3204 ∧ x3204 < (p0.length : Int) then ((if (mget (rdD p0 x3204 z_Tile) false l3203) = true then (some true) else ((tile_colour k [(rdD p0 x3204 z_Tile).N, (rdD p0 x3204 z_Tile).E, (rdD p0 x3204 z_Tile).S, (rdD p0 x3204 z_Tile).W]).bind fun t3238 => some (!t3238))).bind fun x3230 => if x3230 = true then (some (.inl false)) else (tile_Valid.l0 k (mput (rdD p0 x3204 z_Tile) true l3203) (w64 (x3204 + 1)) p0)) else none) else (some (.inr ()))
def tile_Valid (k : Nat) (p0 : List Tile) : Option Bool := if (decide ((p0.length : Int) > 1000)) = true then (some false) else ((tile_Valid.l0 k ([] : List (Tile × Bool)) 0 p0).bind fun x3205 => sumb x3205 (fun r => some r) (fun y3254 => some true))
def tile_Form (p0 : Pattern) : Option Bool := some ((((((decide (p0.Width ≥ 1)) && (decide (p0.Height ≥ 1))) && (decide (p0.Width ≤ 40000))) && (decide (p0.Height ≤ 40000))) && (decide (w64 (p0.Width * p0.Height) ≤ 40000))) && ((p0.Cells.length : Int) == (w64 (p0.Width * p0.Height))))
def tile_of_1 (p0 : Int) (f0 : List Tile) : Option Bool := some ((decide (p0 < 0)) || (decide (p0 ≥ (f0.length : Int))))
def slices_IndexFunc_int_int_with_tile_of_1.l0 : Nat → Int → (List Int) → (List Tile) → Option (Sum Int Unit)
  | 0, _, _, _ => none
  | k + 1, x3313, p0, p1_0 => if (decide (x3313 < (p0.length : Int))) = true then (if 0 ≤ x3313 ∧ x3313 < (p0.length : Int) then ((tile_of_1 (rdD p0 x3313 0) p1_0).bind fun t3322 => if t3322 = true then (some (.inl x3313)) else (slices_IndexFunc_int_int_with_tile_of_1.l0 k (w64 (x3313 + 1)) p0 p1_0)) else none) else (some (.inr ()))
def slices_IndexFunc_int_int_with_tile_of_1 (k : Nat) (p0 : List Int) (p1_0 : List Tile) : Option Int := (slices_IndexFunc_int_int_with_tile_of_1.l0 k 0 p0 p1_0).bind fun x3314 => sumb x3314 (fun r => some r) (fun y3331 => some (-1))
def slices_ContainsFunc_int_int_with_tile_of_1 (k : Nat) (p0 : List Int) (p1_0 : List Tile) : Option Bool := (slices_IndexFunc_int_int_with_tile_of_1 k p0 p1_0).bind fun t3333 => some (decide (t3333 ≥ 0))
def tile_of (k : Nat) (p0 : List Tile) (p1 : Pattern) : Option Bool := (tile_Valid k p0).bind fun t3256 => (if t3256 = true then ((tile_Form p1).bind fun t3284 => some t3284) else (some false)).bind fun x3281 => (if x3281 = true then ((slices_ContainsFunc_int_int_with_tile_of_1 k p1.Cells p0).bind fun t3347 => some (!t3347)) else (some false)).bind fun x3344 => some x3344
def tile_joins.l0 : Nat → Int → (List Tile) → Pattern → Bool → Option (Sum Bool Unit)
  | 0, _, _, _, _ => none
  | k + 1, x3533, p0, p1, p2 => if (decide (x3533 < (p1.Cells.length : Int))) = true then (if 0 ≤ x3533 ∧ x3533 < (p1.Cells.length : Int) then (if p1.Width ≠ 0 then ((if ((decide (w64 ((Int.tmod x3533 p1.Width) + 1) < p1.Width)) || p2) = true then (if 0 ≤ (rdD p1.Cells x3533 0) ∧ (rdD p1.Cells x3533 0) < (p0.length : Int) then (if 0 ≤ w64 ((w64 ((w64 (Int.tdiv x3533 p1.Width)) * p1.Width)) + (Int.tmod (w64 ((Int.tmod x3533 p1.Width) + 1)) p1.Width)) ∧ w64 ((w64 ((w64 (Int.tdiv x3533 p1.Width)) * p1.Width)) + (Int.tmod (w64 ((Int.tmod x3533 p1.Width) + 1)) p1.Width)) < (p1.Cells.length : Int) then (if 0 ≤ (rdD p1.Cells (w64 ((w64 ((w64 (Int.tdiv x3533 p1.Width)) * p1.Width)) + (Int.tmod (w64 ((Int.tmod x3533 p1.Width) + 1)) p1.Width))) 0) ∧ (rdD p1.Cells (w64 ((w64 ((w64 (Int.tdiv x3533 p1.Width)) * p1.Width)) + (Int.tmod (w64 ((Int.tmod x3533 p1.Width) + 1)) p1.Width))) 0) < (p0.length : Int) then (if (((rdD p0 (rdD p1.Cells x3533 0) z_Tile).E) != ((rdD p0 (rdD p1.Cells (w64 ((w64 ((w64 (Int.tdiv x3533 p1.Width)) * p1.Width)) + (Int.tmod (w64 ((Int.tmod x3533 p1.Width) + 1)) p1.Width))) 0) z_Tile).W)) = true then (some (.inl false)) else (some (.inr ()))) else none) else none) else none) else (some (.inr ()))).bind fun x3562 => sumb x3562 (fun r => some (.inl r)) (fun y3580 => (if ((decide (w64 ((w64 (Int.tdiv x3533 p1.Width)) + 1) < p1.Height)) || p2) = true then (if 0 ≤ (rdD p1.Cells x3533 0) ∧ (rdD p1.Cells x3533 0) < (p0.length : Int) then (if p1.Height ≠ 0 then (if 0 ≤ w64 ((w64 ((Int.tmod (w64 ((w64 (Int.tdiv x3533 p1.Width)) + 1)) p1.Height) * p1.Width)) + (Int.tmod x3533 p1.Width)) ∧ w64 ((w64 ((Int.tmod (w64 ((w64 (Int.tdiv x3533 p1.Width)) + 1)) p1.Height) * p1.Width)) + (Int.tmod x3533 p1.Width)) < (p1.Cells.length : Int) then (if 0 ≤ (rdD p1.Cells (w64 ((w64 ((Int.tmod (w64 ((w64 (Int.tdiv x3533 p1.Width)) + 1)) p1.Height) * p1.Width)) + (Int.tmod x3533 p1.Width))) 0) ∧ (rdD p1.Cells (w64 ((w64 ((Int.tmod (w64 ((w64 (Int.tdiv x3533 p1.Width)) + 1)) p1.Height) * p1.Width)) + (Int.tmod x3533 p1.Width))) 0) < (p0.length : Int) then (if (((rdD p0 (rdD p1.Cells x3533 0) z_Tile).N) != ((rdD p0 (rdD p1.Cells (w64 ((w64 ((Int.tmod (w64 ((w64 (Int.tdiv x3533 p1.Width)) + 1)) p1.Height) * p1.Width)) + (Int.tmod x3533 p1.Width))) 0) z_Tile).S)) = true then (some (.inl false)) else (some (.inr ()))) else none) else none) else none) else none) else (some (.inr ()))).bind fun x3600 => sumb x3600 (fun r => some (.inl r)) (fun y3621 => tile_joins.l0 k (w64 (x3533 + 1)) p0 p1 p2))) else none) else none) else (some (.inr ()))
def tile_joins (k : Nat) (p0 : List Tile) (p1 : Pattern) (p2 : Bool) : Option Bool := (tile_joins.l0 k 0 p0 p1 p2).bind fun x3534 => sumb x3534 (fun r => some r) (fun y3626 => some true)
def tile_Fits (k : Nat) (p0 : List Tile) (p1 : Pattern) : Option Bool := (tile_of k p0 p1).bind fun t3357 => (if t3357 = true then ((tile_joins k p0 p1 false).bind fun t3637 => some t3637) else (some false)).bind fun x3634 => some x3634
def machine_colours (p0 : Machine) (p1 : Config) : Option (List Int) := (slices_Clone_int_int p1.Cells).bind fun t3695 => if 0 ≤ p1.At ∧ p1.At < (t3695.length : Int) then ((machine_head p0 p1.State (rdD t3695 p1.At 0)).bind fun t3714 => some (t3695.set (p1.At).toNat t3714)) else none
def machine_Colours (k : Nat) (p0 : Machine) (p1 : Config) : Option ((List Int) × Int) := (machine_Fits k p0 p1).bind fun t3680 => if (!t3680) = true then (some (([] : List Int), 1)) else ((machine_colours p0 p1).bind fun t3721 => some (t3721, 0))
def machine_Step (k : Nat) (p0 : Machine) (p1 : Config) : Option (Config × Int) := (machine_Fits k p0 p1).bind fun t3747 => if (!t3747) = true then (some ((Config.mk 0 0 ([] : List Int)), 1)) else ((machine_begin p0 p1).bind fun t3756 => (machine_runner_step (Runner.mk (Machine.mk t3756.m.States t3756.m.Symbols p0.Actions) t3756.Config)).bind fun t3764 => if (t3764.1 != 0) = true then (some ((Config.mk 0 0 ([] : List Int)), t3764.1)) else (some (t3764.2.Config, 0)))
def law08_MachineThere.l1 : Nat → Int → ((List Tile) × Int) → (Pattern × Int) → Int → ((List Int) × Int) → ((List Int) × Int) → Option (Sum Bool Unit)
  | 0, _, _, _, _, _, _ => none
  | k + 1, x5193, t3000, t3007, x4832, t4840, t4860 => if (decide (x5193 < t3007.1.Width)) = true then (if 0 ≤ w64 ((w64 (x4832 * t3007.1.Width)) + x5193) ∧ w64 ((w64 (x4832 * t3007.1.Width)) + x5193) < (t3007.1.Cells.length : Int) then (if 0 ≤ (rdD t3007.1.Cells (w64 ((w64 (x4832 * t3007.1.Width)) + x5193)) 0) ∧ (rdD t3007.1.Cells (w64 ((w64 (x4832 * t3007.1.Width)) + x5193)) 0) < (t3000.1.length : Int) then ((if (((rdD t3000.1 (rdD t3007.1.Cells (w64 ((w64 (x4832 * t3007.1.Width)) + x5193)) 0) z_Tile).S) != (rdD t4840.1 x5193 0)) = true then (if 0 ≤ x5193 ∧ x5193 < (t4840.1.length : Int) then (some true) else none) else (if (((rdD t3000.1 (rdD t3007.1.Cells (w64 ((w64 (x4832 * t3007.1.Width)) + x5193)) 0) z_Tile).N) != (rdD t4860.1 x5193 0)) = true then (if 0 ≤ x5193 ∧ x5193 < (t4840.1.length : Int) then (if 0 ≤ x5193 ∧ x5193 < (t4860.1.length : Int) then (some true) else none) else none) else (if (x5193 == 0) = true then (if (((rdD t3000.1 (rdD t3007.1.Cells (w64 ((w64 (x4832 * t3007.1.Width)) + x5193)) 0) z_Tile).W) != 0) = true then (if 0 ≤ x5193 ∧ x5193 < (t4840.1.length : Int) then (if 0 ≤ x5193 ∧ x5193 < (t4860.1.length : Int) then (some true) else none) else none) else (if (x5193 == (w64 (t3007.1.Width - 1))) = true then (if 0 ≤ x5193 ∧ x5193 < (t4840.1.length : Int) then (if 0 ≤ x5193 ∧ x5193 < (t4860.1.length : Int) then (some (((rdD t3000.1 (rdD t3007.1.Cells (w64 ((w64 (x4832 * t3007.1.Width)) + x5193)) 0) z_Tile).E) != 0)) else none) else none) else (if 0 ≤ x5193 ∧ x5193 < (t4840.1.length : Int) then (if 0 ≤ x5193 ∧ x5193 < (t4860.1.length : Int) then (some false) else none) else none))) else (if (x5193 == (w64 (t3007.1.Width - 1))) = true then (if 0 ≤ x5193 ∧ x5193 < (t4840.1.length : Int) then (if 0 ≤ x5193 ∧ x5193 < (t4860.1.length : Int) then (some (((rdD t3000.1 (rdD t3007.1.Cells (w64 ((w64 (x4832 * t3007.1.Width)) + x5193)) 0) z_Tile).E) != 0)) else none) else none) else (if 0 ≤ x5193 ∧ x5193 < (t4840.1.length : Int) then (if 0 ≤ x5193 ∧ x5193 < (t4860.1.length : Int) then (some false) else none) else none))))).bind fun x5281 => if x5281 = true then (some (.inl false)) else (law08_MachineThere.l1 k (w64 (x5193 + 1)) t3000 t3007 x4832 t4840 t4860)) else none) else none) else (some (.inr ()))
def law08_MachineThere.l0 : Nat → Int → Int → (List Int) → Int → Machine → Int → ((List Tile) × Int) → (Pattern × Int) → Option (Sum Bool Unit)
  | 0, _, _, _, _, _, _, _, _ => none
  | k + 1, x4827, x4828, l4831, x4832, p0, p2, t3000, t3007 => if (decide (x4832 < w64 (1 + (w64 (p2))))) = true then ((machine_Colours k p0 (Config.mk x4827 x4828 l4831)).bind fun t4840 => (machine_Step k p0 (Config.mk x4827 x4828 l4831)).bind fun t4847 => (machine_Colours k p0 t4847.1).bind fun t4860 => if (((((t4840.2 != 0) || (t4847.2 != 0)) || (t4860.2 != 0)) || ((t4840.1.length : Int) != t3007.1.Width)) || ((t4860.1.length : Int) != t3007.1.Width)) = true then (some (.inl false)) else ((law08_MachineThere.l1 k 0 t3000 t3007 x4832 t4840 t4860).bind fun x5194 => sumb x5194 (fun r => some (.inl r)) (fun y5361 => law08_MachineThere.l0 k t4847.1.State t4847.1.At t4847.1.Cells (w64 (x4832 + 1)) p0 p2 t3000 t3007))) else (some (.inr ()))
def law08_MachineThere (k : Nat) (p0 : Machine) (p1 : Config) (p2 : Int) : Option Bool := (law08_wide p0 p1).bind fun t19 => (if t19 = true then (some true) else ((ref08_Fits k p0 p1).bind fun t284 => some (!t284))).bind fun x281 => if (x281 || (decide (w64 ((p1.Cells.length : Int) * (w64 (1 + (w64 (p2))))) > 6000))) = true then ((law08_awake k).bind fun t2995 => some t2995) else ((machine_Tiles k p0).bind fun t3000 => (machine_Picture k p0 p1 (w64 (1 + (w64 (p2))))).bind fun t3007 => (machine_Run k p0 p1 (w64 (1 + (w64 (p2))))).bind fun t3020 => if ((t3000.2 != 0) || (t3020.2.2 != 0)) = true then (some false) else (if (decide (t3020.2.1 < w64 (1 + (w64 (p2))))) = true then ((if (t3007.2 == 6) = true then ((law08_awake k).bind fun t3046 => some t3046) else (some false)).bind fun x3043 => some x3043) else ((if (t3007.2 != 0) = true then (some true) else ((tile_Fits k t3000.1 t3007.1).bind fun t3656 => some (!t3656))).bind fun x3653 => if ((x3653 || (t3007.1.Width != (p1.Cells.length : Int))) || (t3007.1.Height != (w64 (1 + (w64 (p2)))))) = true then (some false) else ((law08_MachineThere.l0 k p1.State p1.At p1.Cells 0 p0 p2 t3000 t3007).bind fun x4833 => sumb x4833 (fun r => some r) (fun y5369 => (law08_awake k).bind fun t5371 => some t5371)))))
end Gp
namespace Gp
open Go Gw Go.Proofs Go.RowKit
def ok_Action (a : Action) : Prop := (ok64 a.Write) ∧ (ok64 a.Move) ∧ (ok64 a.Next)
theorem opn_Action_88 {H : Type} {enc : TypeId × Value → H} {w : World} {base : Nat} {spare : Nat → Bool} {held : Bool} {fuel : Nat} {cs : List Value} {x : DataW H × List MemPlace} (h : DataW.trod enc Try.prog w base spare held fuel 88 cs = some x) : ∃ (a : Action), cs = [.int .i64 a.Write, .int .i64 a.Move, .int .i64 a.Next] ∧ ok_Action a := by
  obtain ⟨hl, n, hf⟩ := opn_fields Try.underlying88 h
  have hl0 : cs.length = 3 := hl.trans (by kernel_rfl)
  obtain ⟨q0, r0, rfl, hl1⟩ := cons_of hl0
  obtain ⟨q1, r1, rfl, hl2⟩ := cons_of hl1
  obtain ⟨q2, r2, rfl, hl3⟩ := cons_of hl2
  obtain rfl := List.eq_nil_of_length_eq_zero hl3
  obtain ⟨y0, h0⟩ := hf 0 _ 1 rfl (by kernel_rfl)
  have h0 : DataW.trod enc Try.prog w base spare held n 3 [q0] = some y0 := h0
  obtain ⟨a0, e0, w0⟩ := opn_int Try.underlying3 h0
  injection e0 with f0 e0
  subst f0
  obtain ⟨y1, h1⟩ := hf 1 _ 1 rfl (by kernel_rfl)
  have h1 : DataW.trod enc Try.prog w base spare held n 3 [q1] = some y1 := h1
  obtain ⟨a1, e1, w1⟩ := opn_int Try.underlying3 h1
  injection e1 with f1 e1
  subst f1
  obtain ⟨y2, h2⟩ := hf 2 _ 1 rfl (by kernel_rfl)
  have h2 : DataW.trod enc Try.prog w base spare held n 3 [q2] = some y2 := h2
  obtain ⟨a2, e2, w2⟩ := opn_int Try.underlying3 h2
  injection e2 with f2 e2
  subst f2
  exact ⟨⟨a0, a1, a2⟩, rfl, ⟨wf64 w0, wf64 w1, wf64 w2⟩⟩
theorem opens_Action_88 : Opens Try.prog 88 enc_Action ok_Action := ⟨by kernel_rfl, by decide, fun h => opn_Action_88 h⟩
def ok_Machine (a : Machine) : Prop := (ok64 a.States) ∧ (ok64 a.Symbols) ∧ ((∀ x ∈ a.Actions, ok_Action x) ∧ a.Actions.length ≤ maxLen)
theorem opn_Machine_24 {H : Type} {enc : TypeId × Value → H} {w : World} {base : Nat} {spare : Nat → Bool} {held : Bool} {fuel : Nat} {cs : List Value} {x : DataW H × List MemPlace} (h : DataW.trod enc Try.prog w base spare held fuel 24 cs = some x) : ∃ (a : Machine) (A0 : Option Addr) (c0 : Nat), cs = [.int .i64 a.States, .int .i64 a.Symbols, .slice A0 a.Actions.length c0] ∧ RO NoS w (rowR enc_Action A0 c0 a.Actions) ∧ ok_Machine a := by
  obtain ⟨hl, n, hf⟩ := opn_fields Try.underlying24 h
  have hl0 : cs.length = 3 := hl.trans (by kernel_rfl)
  obtain ⟨q0, r0, rfl, hl1⟩ := cons_of hl0
  obtain ⟨q1, r1, rfl, hl2⟩ := cons_of hl1
  obtain ⟨q2, r2, rfl, hl3⟩ := cons_of hl2
  obtain rfl := List.eq_nil_of_length_eq_zero hl3
  obtain ⟨y0, h0⟩ := hf 0 _ 1 rfl (by kernel_rfl)
  have h0 : DataW.trod enc Try.prog w base spare held n 3 [q0] = some y0 := h0
  obtain ⟨a0, e0, w0⟩ := opn_int Try.underlying3 h0
  injection e0 with f0 e0
  subst f0
  obtain ⟨y1, h1⟩ := hf 1 _ 1 rfl (by kernel_rfl)
  have h1 : DataW.trod enc Try.prog w base spare held n 3 [q1] = some y1 := h1
  obtain ⟨a1, e1, w1⟩ := opn_int Try.underlying3 h1
  injection e1 with f1 e1
  subst f1
  obtain ⟨y2, h2⟩ := hf 2 _ 1 rfl (by kernel_rfl)
  have h2 : DataW.trod enc Try.prog w base spare held n 22 [q2] = some y2 := h2
  obtain ⟨A2_, c2_, a2, e2, o2, w2, m2⟩ := opn_row Try.underlying22 opens_Action_88 h2
  injection e2 with f2 e2
  subst f2
  exact ⟨⟨a0, a1, a2⟩, A2_, c2_, rfl, o2, ⟨wf64 w0, wf64 w1, ⟨w2, m2⟩⟩⟩
def ok_Config (a : Config) : Prop := (ok64 a.State) ∧ (ok64 a.At) ∧ ((∀ x ∈ a.Cells, ok64 x) ∧ a.Cells.length ≤ maxLen)
theorem opn_Config_27 {H : Type} {enc : TypeId × Value → H} {w : World} {base : Nat} {spare : Nat → Bool} {held : Bool} {fuel : Nat} {cs : List Value} {x : DataW H × List MemPlace} (h : DataW.trod enc Try.prog w base spare held fuel 27 cs = some x) : ∃ (a : Config) (A0 : Option Addr) (c0 : Nat), cs = [.int .i64 a.State, .int .i64 a.At, .slice A0 a.Cells.length c0] ∧ RO NoS w (rowR encInt A0 c0 a.Cells) ∧ ok_Config a := by
  obtain ⟨hl, n, hf⟩ := opn_fields Try.underlying27 h
  have hl0 : cs.length = 3 := hl.trans (by kernel_rfl)
  obtain ⟨q0, r0, rfl, hl1⟩ := cons_of hl0
  obtain ⟨q1, r1, rfl, hl2⟩ := cons_of hl1
  obtain ⟨q2, r2, rfl, hl3⟩ := cons_of hl2
  obtain rfl := List.eq_nil_of_length_eq_zero hl3
  obtain ⟨y0, h0⟩ := hf 0 _ 1 rfl (by kernel_rfl)
  have h0 : DataW.trod enc Try.prog w base spare held n 3 [q0] = some y0 := h0
  obtain ⟨a0, e0, w0⟩ := opn_int Try.underlying3 h0
  injection e0 with f0 e0
  subst f0
  obtain ⟨y1, h1⟩ := hf 1 _ 1 rfl (by kernel_rfl)
  have h1 : DataW.trod enc Try.prog w base spare held n 3 [q1] = some y1 := h1
  obtain ⟨a1, e1, w1⟩ := opn_int Try.underlying3 h1
  injection e1 with f1 e1
  subst f1
  obtain ⟨y2, h2⟩ := hf 2 _ 1 rfl (by kernel_rfl)
  have h2 : DataW.trod enc Try.prog w base spare held n 25 [q2] = some y2 := h2
  obtain ⟨A2_, c2_, a2, e2, o2, w2, m2⟩ := opn_row Try.underlying25 (opens_int Try.underlying3 (by kernel_rfl)) h2
  injection e2 with f2 e2
  subst f2
  exact ⟨⟨a0, a1, a2⟩, A2_, c2_, rfl, o2, ⟨wf64 w0, wf64 w1, ⟨w2, m2⟩⟩⟩
end Gp
