/- The functions that the law reaches, as plain functions; how what comes in is opened. -/
import Derived.Test.YtamnfcbekogkdaaGb
set_option linter.unusedVariables false
set_option linter.unusedSimpArgs false
namespace Gp
open Go Gw
structure BoundsError where
  x : Int
  y : Int
  signed : Bool
  code : Int
  deriving DecidableEq
def z_BoundsError : BoundsError := ⟨0, 0, false, 0⟩
def enc_BoundsError : Enc BoundsError := ⟨4, fun x => [(.int .i64 x.x), (.int .i64 x.y), (.bool x.signed), (.int .u8 x.code)], fun _ => rfl, fun x u h => by simp at h; rcases h with rfl | rfl | rfl | rfl <;> rfl⟩
structure Action where
  Write : Int
  Move : Int
  Next : Int
  deriving DecidableEq
def z_Action : Action := ⟨0, 0, 0⟩
def ints_Action (x : Action) : List Int := [x.Write, x.Move, x.Next]
def enc_Action : Enc Action := ⟨3, fun x => [(.int .i64 x.Write), (.int .i64 x.Move), (.int .i64 x.Next)], fun _ => rfl, fun x u h => by simp at h; rcases h with rfl | rfl | rfl <;> rfl⟩
structure Machine where
  States : Int
  Symbols : Int
  Actions : List Action
  deriving DecidableEq
def z_Machine : Machine := ⟨0, 0, []⟩
structure Config where
  State : Int
  At : Int
  Cells : List Int
  deriving DecidableEq
def z_Config : Config := ⟨0, 0, []⟩
structure Pattern where
  Width : Int
  Height : Int
  Cells : List Int
  deriving DecidableEq
def z_Pattern : Pattern := ⟨0, 0, []⟩
structure Tile where
  N : Int
  E : Int
  S : Int
  W : Int
  deriving DecidableEq
def z_Tile : Tile := ⟨0, 0, 0, 0⟩
def ints_Tile (x : Tile) : List Int := [x.N, x.E, x.S, x.W]
def enc_Tile : Enc Tile := ⟨4, fun x => [(.int .i64 x.N), (.int .i64 x.E), (.int .i64 x.S), (.int .i64 x.W)], fun _ => rfl, fun x u h => by simp at h; rcases h with rfl | rfl | rfl | rfl <;> rfl⟩
structure Shown where
  P : Pattern
  Height : Int
  deriving DecidableEq
def z_Shown : Shown := ⟨z_Pattern, 0⟩
structure Runner where
  m : Machine
  Config : Config
  deriving DecidableEq
def z_Runner : Runner := ⟨z_Machine, z_Config⟩
structure Kit where
  m : Machine
  set : List Tile
  does : List Int
  base : Int
  deriving DecidableEq
def z_Kit : Kit := ⟨z_Machine, [], [], 0⟩
def machine_action (p0 : Machine) (p1 : Action) : Option Bool := if (p1.Next == p0.States) = true then (some ((p1.Write == 0) && (p1.Move == 0))) else (some ((((((decide (p1.Write ≥ 0)) && (decide (p1.Write < p0.Symbols))) && (decide (p1.Move ≥ 0))) && (decide (p1.Move < 2))) && (decide (p1.Next ≥ 0))) && (decide (p1.Next < p0.States))))
def machine_Valid_1 (p0 : Action) (f0 : Machine) : Option Bool := (machine_action f0 p0).bind fun t62 => some (!t62)
def slices_IndexFunc_api_Action_api_Action_with_machine_Valid_1.l0 : Nat → Int → (List Action) → Machine → Option (Sum Int Unit)
  | 0, _, _, _ => none
  | k + 1, x82, p0, p1_0 => if (decide (x82 < (p0.length : Int))) = true then (if 0 ≤ x82 ∧ x82 < (p0.length : Int) then ((machine_Valid_1 (rdD p0 x82 z_Action) p1_0).bind fun t91 => if t91 = true then (some (.inl x82)) else (slices_IndexFunc_api_Action_api_Action_with_machine_Valid_1.l0 k (w64 (x82 + 1)) p0 p1_0)) else none) else (some (.inr ()))
def slices_IndexFunc_api_Action_api_Action_with_machine_Valid_1 (k : Nat) (p0 : List Action) (p1_0 : Machine) : Option Int := (slices_IndexFunc_api_Action_api_Action_with_machine_Valid_1.l0 k 0 p0 p1_0).bind fun x83 => sumb x83 (fun r => some r) (fun y100 => some (-1))
def slices_ContainsFunc_api_Action_api_Action_with_machine_Valid_1 (k : Nat) (p0 : List Action) (p1_0 : Machine) : Option Bool := (slices_IndexFunc_api_Action_api_Action_with_machine_Valid_1 k p0 p1_0).bind fun t102 => some (decide (t102 ≥ 0))
def machine_Valid (k : Nat) (p0 : Machine) : Option Bool := (if (((((decide (p0.States ≥ 1)) && (decide (p0.States ≤ 6))) && (decide (p0.Symbols ≥ 2))) && (decide (p0.Symbols ≤ 4))) && ((p0.Actions.length : Int) == (w64 (p0.States * p0.Symbols)))) = true then ((slices_ContainsFunc_api_Action_api_Action_with_machine_Valid_1 k p0.Actions p0).bind fun t116 => some (!t116)) else (some false)).bind fun x113 => some x113
def machine_head (p0 : Machine) (p1 : Int) (p2 : Int) : Option Int := some (w64 ((w64 (p0.Symbols + (w64 (p1 * p0.Symbols)))) + p2))
def machine_kit_signal (p0 : Kit) (p1 : Int) (p2 : Int) : Option Int := if (p1 == 1) = true then (some (w64 (1 + p2))) else (some (w64 ((w64 (1 + p0.m.States)) + p2)))
def machine_kit_acts (p0 : Kit) (p1 : Int) (p2 : Int) (p3 : Action) : Option Tile := ((machine_head p0.m p1 p2).bind fun t311 => some (p3.Write, 0, t311, 0)).bind fun x307 => if (p3.Move == 0) = true then ((machine_kit_signal p0 p3.Move p3.Next).bind fun t339 => some (Tile.mk x307.1 x307.2.1 x307.2.2.1 t339)) else (if (p3.Move == 1) = true then ((machine_kit_signal p0 p3.Move p3.Next).bind fun t349 => some (Tile.mk x307.1 t349 x307.2.2.1 x307.2.2.2)) else (none))
def machine_kitOf.l0 : Nat → (List Tile) → Int → Machine → Option (List Tile)
  | 0, _, _, _ => none
  | k + 1, l176, x177, p0 => if (decide (x177 < p0.Symbols)) = true then (if l176.length + [(Tile.mk x177 0 x177 0)].length ≤ 100000000000 then (machine_kitOf.l0 k (l176 ++ [(Tile.mk x177 0 x177 0)]) (w64 (x177 + 1)) p0) else none) else (some l176)
def machine_kitOf.l1 : Nat → (List Tile) → (List Int) → Int → Machine → Option ((List Tile) × (List Int))
  | 0, _, _, _, _ => none
  | k + 1, l690, l693, x694, p0 => if (decide (x694 < (p0.Actions.length : Int))) = true then ((if 0 ≤ x694 ∧ x694 < (p0.Actions.length : Int) then (if (((rdD p0.Actions x694 z_Action).Next) == p0.States) = true then (if l693.length + [(-1)].length ≤ 100000000000 then (some (l690, l693 ++ [(-1)])) else none) else (if l693.length + [(l690.length : Int)].length ≤ 100000000000 then (if p0.Symbols ≠ 0 then ((machine_kit_acts (Kit.mk p0 l690 (l693 ++ [(l690.length : Int)]) 0) (w64 (Int.tdiv x694 p0.Symbols)) (Int.tmod x694 p0.Symbols) (rdD p0.Actions x694 z_Action)).bind fun t869 => if l690.length + [t869].length ≤ 100000000000 then (some (l690 ++ [t869], l693 ++ [(l690.length : Int)])) else none) else none) else none)) else none).bind fun x799 => machine_kitOf.l1 k x799.1 x799.2 (w64 (x694 + 1)) p0) else (some (l690, l693))
def machine_kitOf.l3 : Nat → (List Tile) → Int → Machine → ((List Tile) × (List Int)) → Int → Option (List Tile)
  | 0, _, _, _, _, _ => none
  | k + 1, l1380, x1381, p0, x701, x1259 => if (decide (x1381 < p0.Symbols)) = true then ((machine_head p0 x1259 x1381).bind fun t1392 => (machine_kit_signal (Kit.mk p0 l1380 x701.2 (x701.1.length : Int)) 1 x1259).bind fun t1421 => (machine_kit_signal (Kit.mk p0 l1380 x701.2 (x701.1.length : Int)) 0 x1259).bind fun t1426 => if l1380.length + [(Tile.mk t1392 0 x1381 t1421), (Tile.mk t1392 t1426 x1381 0)].length ≤ 100000000000 then (machine_kitOf.l3 k (l1380 ++ [(Tile.mk t1392 0 x1381 t1421), (Tile.mk t1392 t1426 x1381 0)]) (w64 (x1381 + 1)) p0 x701 x1259) else none) else (some l1380)
def machine_kitOf.l2 : Nat → (List Tile) → Int → Machine → ((List Tile) × (List Int)) → Option (List Tile)
  | 0, _, _, _, _ => none
  | k + 1, l1258, x1259, p0, x701 => if (decide (x1259 < p0.States)) = true then ((machine_kitOf.l3 k l1258 0 p0 x701 x1259).bind fun x1385 => machine_kitOf.l2 k x1385 (w64 (x1259 + 1)) p0 x701) else (some l1258)
def machine_kitOf (k : Nat) (p0 : Machine) : Option Kit := (machine_kitOf.l0 k ([] : List Tile) 0 p0).bind fun x181 => (machine_kitOf.l1 k x181 ([] : List Int) 0 p0).bind fun x701 => (machine_kitOf.l2 k x701.1 0 p0 x701).bind fun x1263 => some (Kit.mk p0 x1263 x701.2 (x701.1.length : Int))
def machine_Tiles (k : Nat) (p0 : Machine) : Option ((List Tile) × Int) := (machine_Valid k p0).bind fun t126 => if (!t126) = true then (some (([] : List Tile), 1)) else ((machine_kitOf k p0).bind fun t1451 => some (t1451.set, 0))
def machine_Fits_1 (p0 : Int) (f0 : Machine) : Option Bool := some ((decide (p0 < 0)) || (decide (p0 ≥ f0.Symbols)))
def slices_IndexFunc_int_int_with_machine_Fits_1.l0 : Nat → Int → (List Int) → Machine → Option (Sum Int Unit)
  | 0, _, _, _ => none
  | k + 1, x1512, p0, p1_0 => if (decide (x1512 < (p0.length : Int))) = true then (if 0 ≤ x1512 ∧ x1512 < (p0.length : Int) then ((machine_Fits_1 (rdD p0 x1512 0) p1_0).bind fun t1521 => if t1521 = true then (some (.inl x1512)) else (slices_IndexFunc_int_int_with_machine_Fits_1.l0 k (w64 (x1512 + 1)) p0 p1_0)) else none) else (some (.inr ()))
def slices_IndexFunc_int_int_with_machine_Fits_1 (k : Nat) (p0 : List Int) (p1_0 : Machine) : Option Int := (slices_IndexFunc_int_int_with_machine_Fits_1.l0 k 0 p0 p1_0).bind fun x1513 => sumb x1513 (fun r => some r) (fun y1530 => some (-1))
def slices_ContainsFunc_int_int_with_machine_Fits_1 (k : Nat) (p0 : List Int) (p1_0 : Machine) : Option Bool := (slices_IndexFunc_int_int_with_machine_Fits_1 k p0 p1_0).bind fun t1532 => some (decide (t1532 ≥ 0))
def machine_Fits (k : Nat) (p0 : Machine) (p1 : Config) : Option Bool := (machine_Valid k p0).bind fun t1476 => (if ((((((t1476 && (decide (p1.State ≥ 0))) && (decide (p1.State < p0.States))) && (decide ((p1.Cells.length : Int) ≥ 1))) && (decide ((p1.Cells.length : Int) ≤ 200))) && (decide (p1.At ≥ 0))) && (decide (p1.At < (p1.Cells.length : Int)))) = true then ((slices_ContainsFunc_int_int_with_machine_Fits_1 k p1.Cells p0).bind fun t1546 => some (!t1546)) else (some false)).bind fun x1543 => some x1543
def top_runner  : Option Machine := some (Machine.mk 1 2 [(Action.mk 1 1 0), (Action.mk 1 1 0)])
def slices_Clone_int_int_nil (p0 : List Int) : Option (List Int) := some ([] : List Int)
def slices_Clone_int_int_some (p0 : List Int) : Option (List Int) := if ([] : List Int).length + p0.length ≤ 100000000000 then (some (([] : List Int) ++ p0)) else none
def slices_Clone_int_int (p0 : List Int) : Option (List Int) := slices_Clone_int_int_some p0
def machine_begin (p0 : Machine) (p1 : Config) : Option Runner := (slices_Clone_int_int p1.Cells).bind fun t1661 => some (Runner.mk p0 (Config.mk p1.State p1.At t1661))
def machine_runner_does (p0 : Runner) : Option Int := if 0 ≤ p0.Config.At ∧ p0.Config.At < (p0.Config.Cells.length : Int) then (some (w64 ((w64 (p0.Config.State * p0.m.Symbols)) + (rdD p0.Config.Cells p0.Config.At 0)))) else none
def machine_runner_step (p0 : Runner) : Option (Int × Runner) := ((machine_runner_does p0).bind fun t1897 => if 0 ≤ t1897 ∧ t1897 < (p0.m.Actions.length : Int) then (some ((rdD p0.m.Actions t1897 z_Action).Write, (rdD p0.m.Actions t1897 z_Action).Move, (rdD p0.m.Actions t1897 z_Action).Next)) else none).bind fun x1893 => if (x1893.2.2 == p0.m.States) = true then (some (5, p0)) else (if ((decide (w64 ((w64 (p0.Config.At + (w64 (2 * x1893.2.1)))) - 1) < 0)) || (decide (w64 ((w64 (p0.Config.At + (w64 (2 * x1893.2.1)))) - 1) ≥ (p0.Config.Cells.length : Int)))) = true then (some (6, p0)) else (if 0 ≤ p0.Config.At ∧ p0.Config.At < (p0.Config.Cells.length : Int) then (some (0, (Runner.mk p0.m (Config.mk x1893.2.2 (w64 ((w64 (p0.Config.At + (w64 (2 * x1893.2.1)))) - 1)) (p0.Config.Cells.set (p0.Config.At).toNat x1893.1))))) else none))
def machine_kit_row.l0 : Nat → (List Int) → Int → Kit → Runner → (Int × Int × Int) → Option (List Int)
  | 0, _, _, _, _, _ => none
  | k + 1, l2236, x2237, p0, p1, x2031 => if (decide (x2237 < (p1.Config.Cells.length : Int))) = true then (if 0 ≤ x2237 ∧ x2237 < (p1.Config.Cells.length : Int) then ((if (x2237 == p1.Config.At) = true then ((machine_runner_does p1).bind fun t2289 => if 0 ≤ t2289 ∧ t2289 < (p0.does.length : Int) then (some (rdD p0.does t2289 0)) else none) else ((if (x2237 == (w64 ((w64 (p1.Config.At + (w64 (2 * x2031.2.1)))) - 1))) = true then (some (w64 ((w64 ((w64 (p0.base + (w64 (2 * (w64 ((w64 (x2031.2.2 * p1.m.Symbols)) + (rdD p1.Config.Cells x2237 0))))))) + 1)) - x2031.2.1))) else (some (rdD p1.Config.Cells x2237 0))).bind fun x2299 => some x2299)).bind fun x2278 => if l2236.length + [x2278].length ≤ 100000000000 then (machine_kit_row.l0 k (l2236 ++ [x2278]) (w64 (x2237 + 1)) p0 p1 x2031) else none) else none) else (some l2236)
def machine_kit_row (k : Nat) (p0 : Kit) (p1 : Runner) : Option (List Int) := ((machine_runner_does p1).bind fun t2035 => if 0 ≤ t2035 ∧ t2035 < (p1.m.Actions.length : Int) then (some ((rdD p1.m.Actions t2035 z_Action).Write, (rdD p1.m.Actions t2035 z_Action).Move, (rdD p1.m.Actions t2035 z_Action).Next)) else none).bind fun x2031 => (machine_kit_row.l0 k ([] : List Int) 0 p0 p1 x2031).bind fun x2241 => some x2241
def machine_Picture.l0 : Nat → Int → Int → Int → Int → (List Int) → (List Int) → Int → Machine → Int → Kit → Option (Sum (Pattern × Int) (List Int))
  | 0, _, _, _, _, _, _, _, _, _, _ => none
  | k + 1, x2433, x2434, x2435, x2436, l2439, l2442, x2443, p0, p2, t1684 => if (decide (x2443 < p2)) = true then ((machine_begin p0 (Config.mk x2435 x2436 l2439)).bind fun t2464 => (machine_runner_step (Runner.mk (Machine.mk t2464.m.States t2464.m.Symbols p0.Actions) t2464.Config)).bind fun t2472 => if (t2472.1 != 0) = true then (some (.inl ((Pattern.mk 0 0 ([] : List Int)), 6))) else ((machine_kit_row k (Kit.mk (Machine.mk t1684.m.States t1684.m.Symbols p0.Actions) t1684.set t1684.does t1684.base) (Runner.mk (Machine.mk x2433 x2434 p0.Actions) (Config.mk x2435 x2436 l2439))).bind fun t2499 => if l2442.length + t2499.length ≤ 100000000000 then (machine_Picture.l0 k t2472.2.m.States t2472.2.m.Symbols t2472.2.Config.State t2472.2.Config.At t2472.2.Config.Cells (l2442 ++ t2499) (w64 (x2443 + 1)) p0 p2 t1684) else none)) else (some (.inr l2442))
def machine_Picture (k : Nat) (p0 : Machine) (p1 : Config) (p2 : Int) : Option (Pattern × Int) := (machine_Fits k p0 p1).bind fun t1613 => if (!t1613) = true then (some ((Pattern.mk 0 0 ([] : List Int)), 1)) else (if (decide (p2 < 1)) = true then (some ((Pattern.mk 0 0 ([] : List Int)), 2)) else (if ((decide (p2 > 40000)) || (decide (w64 ((p1.Cells.length : Int) * p2) > 40000))) = true then (some ((Pattern.mk 0 0 ([] : List Int)), 4)) else ((machine_kitOf k p0).bind fun t1684 => (machine_begin p0 p1).bind fun t1694 => (machine_Picture.l0 k t1694.m.States t1694.m.Symbols t1694.Config.State t1694.Config.At t1694.Config.Cells ([] : List Int) 0 p0 p2 t1684).bind fun x2447 => sumb x2447 (fun r => some r) (fun y2516 => some ((Pattern.mk (p1.Cells.length : Int) p2 y2516), 0)))))
def tile_Form (p0 : Pattern) : Option Bool := some ((((((decide (p0.Width ≥ 1)) && (decide (p0.Height ≥ 1))) && (decide (p0.Width ≤ 40000))) && (decide (p0.Height ≤ 40000))) && (decide (w64 (p0.Width * p0.Height) ≤ 40000))) && ((p0.Cells.length : Int) == (w64 (p0.Width * p0.Height))))
def tile_Repeat.l1 : Nat → (List Int) → Int → Pattern → Int → Int → Option (List Int)
  | 0, _, _, _, _, _ => none
  | k + 1, l2990, x2991, p0, p1, x2901 => if (decide (x2991 < p1)) = true then (if p0.Height ≠ 0 then (if p0.Width ≠ 0 then (if 0 ≤ w64 ((w64 ((Int.tmod x2901 p0.Height) * p0.Width)) + (Int.tmod x2991 p0.Width)) ∧ w64 ((w64 ((Int.tmod x2901 p0.Height) * p0.Width)) + (Int.tmod x2991 p0.Width)) < (p0.Cells.length : Int) then (if l2990.length + [(rdD p0.Cells (w64 ((w64 ((Int.tmod x2901 p0.Height) * p0.Width)) + (Int.tmod x2991 p0.Width))) 0)].length ≤ 100000000000 then (tile_Repeat.l1 k (l2990 ++ [(rdD p0.Cells (w64 ((w64 ((Int.tmod x2901 p0.Height) * p0.Width)) + (Int.tmod x2991 p0.Width))) 0)]) (w64 (x2991 + 1)) p0 p1 x2901) else none) else none) else none) else none) else (some l2990)
def tile_Repeat.l0 : Nat → (List Int) → Int → Pattern → Int → Int → Option (List Int)
  | 0, _, _, _, _, _ => none
  | k + 1, l2900, x2901, p0, p1, p2 => if (decide (x2901 < p2)) = true then ((tile_Repeat.l1 k l2900 0 p0 p1 x2901).bind fun x2995 => tile_Repeat.l0 k x2995 (w64 (x2901 + 1)) p0 p1 p2) else (some l2900)
def tile_Repeat (k : Nat) (p0 : Pattern) (p1 : Int) (p2 : Int) : Option (Pattern × Int) := (tile_Form p0).bind fun t2599 => if (!t2599) = true then (some ((Pattern.mk 0 0 ([] : List Int)), 1)) else (if ((decide (p1 < 1)) || (decide (p2 < 1))) = true then (some ((Pattern.mk 0 0 ([] : List Int)), 2)) else (if (((decide (p1 > 40000)) || (decide (p2 > 40000))) || (decide (w64 (p1 * p2) > 40000))) = true then (some ((Pattern.mk 0 0 ([] : List Int)), 4)) else ((tile_Repeat.l0 k ([] : List Int) 0 p0 p1 p2).bind fun x2905 => some ((Pattern.mk p1 p2 x2905), 0))))
def top_chess  : Option (List Tile) := some [(Tile.mk 0 1 1 0), (Tile.mk 1 0 0 1)]
def tile_colour_1 (p0 : Int) : Option Bool := some ((decide (p0 < 0)) || (decide (p0 ≥ 1000)))
def slices_IndexFunc_int_int_with_tile_colour_1.l0 : Nat → Int → (List Int) → Option (Sum Int Unit)
  | 0, _, _ => none
  | k + 1, x3120, p0 => if (decide (x3120 < (p0.length : Int))) = true then (if 0 ≤ x3120 ∧ x3120 < (p0.length : Int) then ((tile_colour_1 (rdD p0 x3120 0)).bind fun t3129 => if t3129 = true then (some (.inl x3120)) else (slices_IndexFunc_int_int_with_tile_colour_1.l0 k (w64 (x3120 + 1)) p0)) else none) else (some (.inr ()))
def slices_IndexFunc_int_int_with_tile_colour_1 (k : Nat) (p0 : List Int) : Option Int := (slices_IndexFunc_int_int_with_tile_colour_1.l0 k 0 p0).bind fun x3121 => sumb x3121 (fun r => some r) (fun y3138 => some (-1))
def slices_ContainsFunc_int_int_with_tile_colour_1 (k : Nat) (p0 : List Int) : Option Bool := (slices_IndexFunc_int_int_with_tile_colour_1 k p0).bind fun t3140 => some (decide (t3140 ≥ 0))
def tile_colour (k : Nat) (p0 : List Int) : Option Bool := (slices_ContainsFunc_int_int_with_tile_colour_1 k p0).bind fun t3145 => some (!t3145)
def tile_Valid.l0 : Nat → (List (Tile × Bool)) → Int → (List Tile) → Option (Sum Bool Unit)
  | 0, _, _, _ => none
  | k + 1, l3219, x3220, p0 => if (decide (x3220 < (p0.length : Int))) = true then (if 0 ≤ x3220 ∧ x3220 < (p0.length : Int) then ((if (mget (rdD p0 x3220 z_Tile) false l3219) = true then (some true) else ((tile_colour k [(rdD p0 x3220 z_Tile).N, (rdD p0 x3220 z_Tile).E, (rdD p0 x3220 z_Tile).S, (rdD p0 x3220 z_Tile).W]).bind fun t3254 => some (!t3254))).bind fun x3246 => if x3246 = true then (some (.inl false)) else (tile_Valid.l0 k (mput (rdD p0 x3220 z_Tile) true l3219) (w64 (x3220 + 1)) p0)) else none) else (some (.inr ()))
def tile_Valid (k : Nat) (p0 : List Tile) : Option Bool := if (decide ((p0.length : Int) > 1000)) = true then (some false) else ((tile_Valid.l0 k ([] : List (Tile × Bool)) 0 p0).bind fun x3221 => sumb x3221 (fun r => some r) (fun y3270 => some true))
def tile_of_1 (p0 : Int) (f0 : List Tile) : Option Bool := some ((decide (p0 < 0)) || (decide (p0 ≥ (f0.length : Int))))
def slices_IndexFunc_int_int_with_tile_of_1.l0 : Nat → Int → (List Int) → (List Tile) → Option (Sum Int Unit)
  | 0, _, _, _ => none
  | k + 1, x3315, p0, p1_0 => if (decide (x3315 < (p0.length : Int))) = true then (if 0 ≤ x3315 ∧ x3315 < (p0.length : Int) then ((tile_of_1 (rdD p0 x3315 0) p1_0).bind fun t3324 => if t3324 = true then (some (.inl x3315)) else (slices_IndexFunc_int_int_with_tile_of_1.l0 k (w64 (x3315 + 1)) p0 p1_0)) else none) else (some (.inr ()))
def slices_IndexFunc_int_int_with_tile_of_1 (k : Nat) (p0 : List Int) (p1_0 : List Tile) : Option Int := (slices_IndexFunc_int_int_with_tile_of_1.l0 k 0 p0 p1_0).bind fun x3316 => sumb x3316 (fun r => some r) (fun y3333 => some (-1))
def slices_ContainsFunc_int_int_with_tile_of_1 (k : Nat) (p0 : List Int) (p1_0 : List Tile) : Option Bool := (slices_IndexFunc_int_int_with_tile_of_1 k p0 p1_0).bind fun t3335 => some (decide (t3335 ≥ 0))
def tile_of (k : Nat) (p0 : List Tile) (p1 : Pattern) : Option Bool := (tile_Valid k p0).bind fun t3272 => (if t3272 = true then ((tile_Form p1).bind fun t3286 => some t3286) else (some false)).bind fun x3283 => (if x3283 = true then ((slices_ContainsFunc_int_int_with_tile_of_1 k p1.Cells p0).bind fun t3349 => some (!t3349)) else (some false)).bind fun x3346 => some x3346
def tile_joins.l0 : Nat → Int → (List Tile) → Pattern → Bool → Option (Sum Bool Unit)
  | 0, _, _, _, _ => none
  | k + 1, x3535, p0, p1, p2 => if (decide (x3535 < (p1.Cells.length : Int))) = true then (if 0 ≤ x3535 ∧ x3535 < (p1.Cells.length : Int) then (if p1.Width ≠ 0 then ((if ((decide (w64 ((Int.tmod x3535 p1.Width) + 1) < p1.Width)) || p2) = true then (if 0 ≤ (rdD p1.Cells x3535 0) ∧ (rdD p1.Cells x3535 0) < (p0.length : Int) then (if 0 ≤ w64 ((w64 ((w64 (Int.tdiv x3535 p1.Width)) * p1.Width)) + (Int.tmod (w64 ((Int.tmod x3535 p1.Width) + 1)) p1.Width)) ∧ w64 ((w64 ((w64 (Int.tdiv x3535 p1.Width)) * p1.Width)) + (Int.tmod (w64 ((Int.tmod x3535 p1.Width) + 1)) p1.Width)) < (p1.Cells.length : Int) then (if 0 ≤ (rdD p1.Cells (w64 ((w64 ((w64 (Int.tdiv x3535 p1.Width)) * p1.Width)) + (Int.tmod (w64 ((Int.tmod x3535 p1.Width) + 1)) p1.Width))) 0) ∧ (rdD p1.Cells (w64 ((w64 ((w64 (Int.tdiv x3535 p1.Width)) * p1.Width)) + (Int.tmod (w64 ((Int.tmod x3535 p1.Width) + 1)) p1.Width))) 0) < (p0.length : Int) then (if (((rdD p0 (rdD p1.Cells x3535 0) z_Tile).E) != ((rdD p0 (rdD p1.Cells (w64 ((w64 ((w64 (Int.tdiv x3535 p1.Width)) * p1.Width)) + (Int.tmod (w64 ((Int.tmod x3535 p1.Width) + 1)) p1.Width))) 0) z_Tile).W)) = true then (some (.inl false)) else (some (.inr ()))) else none) else none) else none) else (some (.inr ()))).bind fun x3564 => sumb x3564 (fun r => some (.inl r)) (fun y3582 => (if ((decide (w64 ((w64 (Int.tdiv x3535 p1.Width)) + 1) < p1.Height)) || p2) = true then (if 0 ≤ (rdD p1.Cells x3535 0) ∧ (rdD p1.Cells x3535 0) < (p0.length : Int) then (if p1.Height ≠ 0 then (if 0 ≤ w64 ((w64 ((Int.tmod (w64 ((w64 (Int.tdiv x3535 p1.Width)) + 1)) p1.Height) * p1.Width)) + (Int.tmod x3535 p1.Width)) ∧ w64 ((w64 ((Int.tmod (w64 ((w64 (Int.tdiv x3535 p1.Width)) + 1)) p1.Height) * p1.Width)) + (Int.tmod x3535 p1.Width)) < (p1.Cells.length : Int) then (if 0 ≤ (rdD p1.Cells (w64 ((w64 ((Int.tmod (w64 ((w64 (Int.tdiv x3535 p1.Width)) + 1)) p1.Height) * p1.Width)) + (Int.tmod x3535 p1.Width))) 0) ∧ (rdD p1.Cells (w64 ((w64 ((Int.tmod (w64 ((w64 (Int.tdiv x3535 p1.Width)) + 1)) p1.Height) * p1.Width)) + (Int.tmod x3535 p1.Width))) 0) < (p0.length : Int) then (if (((rdD p0 (rdD p1.Cells x3535 0) z_Tile).N) != ((rdD p0 (rdD p1.Cells (w64 ((w64 ((Int.tmod (w64 ((w64 (Int.tdiv x3535 p1.Width)) + 1)) p1.Height) * p1.Width)) + (Int.tmod x3535 p1.Width))) 0) z_Tile).S)) = true then (some (.inl false)) else (some (.inr ()))) else none) else none) else none) else none) else (some (.inr ()))).bind fun x3602 => sumb x3602 (fun r => some (.inl r)) (fun y3623 => tile_joins.l0 k (w64 (x3535 + 1)) p0 p1 p2))) else none) else none) else (some (.inr ()))
def tile_joins (k : Nat) (p0 : List Tile) (p1 : Pattern) (p2 : Bool) : Option Bool := (tile_joins.l0 k 0 p0 p1 p2).bind fun x3536 => sumb x3536 (fun r => some r) (fun y3628 => some true)
def tile_Repeats (k : Nat) (p0 : List Tile) (p1 : Pattern) : Option Bool := (tile_of k p0 p1).bind fun t3359 => (if t3359 = true then ((tile_joins k p0 p1 true).bind fun t3639 => some t3639) else (some false)).bind fun x3636 => some x3636
def top_sameInts.l0 : Nat → Int → (List Int) → (List Int) → Option (Sum Bool Unit)
  | 0, _, _, _ => none
  | k + 1, x3726, p0, p1 => if (decide (x3726 < (p0.length : Int))) = true then (if 0 ≤ x3726 ∧ x3726 < (p0.length : Int) then (if 0 ≤ x3726 ∧ x3726 < (p1.length : Int) then (if ((rdD p0 x3726 0) != (rdD p1 x3726 0)) = true then (some (.inl false)) else (top_sameInts.l0 k (w64 (x3726 + 1)) p0 p1)) else none) else none) else (some (.inr ()))
def top_sameInts (k : Nat) (p0 : List Int) (p1 : List Int) : Option Bool := if ((p0.length : Int) != (p1.length : Int)) = true then (some false) else ((top_sameInts.l0 k 0 p0 p1).bind fun x3727 => sumb x3727 (fun r => some r) (fun y3746 => some true))
def tile_Fits (k : Nat) (p0 : List Tile) (p1 : Pattern) : Option Bool := (tile_of k p0 p1).bind fun t3783 => (if t3783 = true then ((tile_joins k p0 p1 false).bind fun t3797 => some t3797) else (some false)).bind fun x3794 => some x3794
def top_lives (k : Nat)  : Option Bool := (tile_Repeat k (Pattern.mk 2 2 [0, 1, 1, 0]) 3 1).bind fun t3047 => ((top_chess).bind fun t4078 => (tile_Repeats k t4078 (Pattern.mk 2 2 [0, 1, 1, 0])).bind fun t4085 => (if t4085 = true then ((top_chess).bind fun t4111 => (tile_Repeats k t4111 (Pattern.mk 1 1 [0])).bind fun t4123 => some (!t4123)) else (some false)).bind fun x4108 => (if (x4108 && (t3047.2 == 0)) = true then ((top_sameInts k t3047.1.Cells [0, 1, 0]).bind fun t4154 => some t4154) else (some false)).bind fun x4146 => (if x4146 = true then ((top_chess).bind fun t4180 => (tile_Fits k t4180 t3047.1).bind fun t4187 => some t4187) else (some false)).bind fun x4177 => some x4177).bind fun x4074 => some x4074
def top_steps (k : Nat)  : Option Bool := (top_runner).bind fun t1589 => (machine_Picture k t1589 (Config.mk 0 0 [0, 0, 0]) 2).bind fun t2520 => (top_runner).bind fun t2533 => (machine_Picture k t2533 (Config.mk 0 0 [0, 0, 0]) 3).bind fun t2545 => (if (((((t2520.2 == 0) && (t2545.2 == 6)) && (t2520.1.Width == 3)) && (t2520.1.Height == 2)) && ((t2520.1.Cells.length : Int) == 6)) = true then ((top_lives k).bind fun t4329 => some t4329) else (some false)).bind fun x4326 => some x4326
def top_cycle (p0 : Int) (p1 : Int) : Option Int := if p1 ≠ 0 then (some (Int.tmod (w64 ((Int.tmod p0 p1) + p1)) p1)) else none
def top_after (p0 : Machine) (p1 : Config) : Option (Config × Bool) := if 0 ≤ p1.At ∧ p1.At < (p1.Cells.length : Int) then (if 0 ≤ w64 ((w64 (p1.State * p0.Symbols)) + (rdD p1.Cells p1.At 0)) ∧ w64 ((w64 (p1.State * p0.Symbols)) + (rdD p1.Cells p1.At 0)) < (p0.Actions.length : Int) then ((if (((rdD p0.Actions (w64 ((w64 (p1.State * p0.Symbols)) + (rdD p1.Cells p1.At 0))) z_Action).Move) == 1) = true then (some (w64 (p1.At + 1))) else (some (w64 (p1.At - 1)))).bind fun x4594 => if (((((rdD p0.Actions (w64 ((w64 (p1.State * p0.Symbols)) + (rdD p1.Cells p1.At 0))) z_Action).Next) == p0.States) || (decide (x4594 < 0))) || (decide (x4594 ≥ (p1.Cells.length : Int)))) = true then (some (p1, false)) else ((if ([] : List Int).length + p1.Cells.length ≤ 100000000000 then (some ((rdD p0.Actions (w64 ((w64 (p1.State * p0.Symbols)) + (rdD p1.Cells p1.At 0))) z_Action).Next, x4594, ([] : List Int) ++ p1.Cells)) else none).bind fun x4680 => if 0 ≤ p1.At ∧ p1.At < (x4680.2.2.length : Int) then (some ((Config.mk x4680.1 x4680.2.1 (x4680.2.2.set (p1.At).toNat ((rdD p0.Actions (w64 ((w64 (p1.State * p0.Symbols)) + (rdD p1.Cells p1.At 0))) z_Action).Write))), true)) else none)) else none) else none
def top_of.l1 : Nat → Int → (List Tile) → Int → Option (Sum Bool Unit)
  | 0, _, _, _ => none
  | k + 1, x4998, p0, x4953 => if (decide (x4998 < x4953)) = true then (if 0 ≤ x4998 ∧ x4998 < (p0.length : Int) then (if (((rdD p0 x4998 z_Tile).N) == ((rdD p0 x4953 z_Tile).N) && (((rdD p0 x4998 z_Tile).E) == ((rdD p0 x4953 z_Tile).E) && (((rdD p0 x4998 z_Tile).S) == ((rdD p0 x4953 z_Tile).S) && (((rdD p0 x4998 z_Tile).W) == ((rdD p0 x4953 z_Tile).W))))) = true then (some (.inl false)) else (top_of.l1 k (w64 (x4998 + 1)) p0 x4953)) else none) else (some (.inr ()))
def top_of.l0 : Nat → Int → (List Tile) → Option (Sum Bool Unit)
  | 0, _, _ => none
  | k + 1, x4953, p0 => if (decide (x4953 < (p0.length : Int))) = true then (if 0 ≤ x4953 ∧ x4953 < (p0.length : Int) then (if ((((((((decide ((rdD p0 x4953 z_Tile).N < 0)) || (decide ((rdD p0 x4953 z_Tile).E < 0))) || (decide ((rdD p0 x4953 z_Tile).S < 0))) || (decide ((rdD p0 x4953 z_Tile).W < 0))) || (decide ((rdD p0 x4953 z_Tile).N ≥ 1000))) || (decide ((rdD p0 x4953 z_Tile).E ≥ 1000))) || (decide ((rdD p0 x4953 z_Tile).S ≥ 1000))) || (decide ((rdD p0 x4953 z_Tile).W ≥ 1000))) = true then (some (.inl false)) else ((top_of.l1 k 0 p0 x4953).bind fun x4999 => sumb x4999 (fun r => some (.inl r)) (fun y5015 => top_of.l0 k (w64 (x4953 + 1)) p0))) else none) else (some (.inr ()))
def top_of.l2 : Nat → Int → (List Tile) → Pattern → Option (Sum Bool Unit)
  | 0, _, _, _ => none
  | k + 1, x5033, p0, p1 => if (decide (x5033 < (p1.Cells.length : Int))) = true then (if 0 ≤ x5033 ∧ x5033 < (p1.Cells.length : Int) then (if ((decide ((rdD p1.Cells x5033 0) < 0)) || (decide ((rdD p1.Cells x5033 0) ≥ (p0.length : Int)))) = true then (some (.inl false)) else (top_of.l2 k (w64 (x5033 + 1)) p0 p1)) else none) else (some (.inr ()))
def top_of.l4 : Nat → Int → (List Tile) → Pattern → Bool → Int → Option (Sum Bool Unit)
  | 0, _, _, _, _, _ => none
  | k + 1, x6120, p0, p1, p2, x5853 => if (decide (x6120 < p1.Width)) = true then (if 0 ≤ w64 ((w64 (x5853 * p1.Width)) + x6120) ∧ w64 ((w64 (x5853 * p1.Width)) + x6120) < (p1.Cells.length : Int) then (if 0 ≤ (rdD p1.Cells (w64 ((w64 (x5853 * p1.Width)) + x6120)) 0) ∧ (rdD p1.Cells (w64 ((w64 (x5853 * p1.Width)) + x6120)) 0) < (p0.length : Int) then ((if p2 = true then (if p1.Width ≠ 0 then (if 0 ≤ w64 ((w64 (x5853 * p1.Width)) + (Int.tmod (w64 (x6120 + 1)) p1.Width)) ∧ w64 ((w64 (x5853 * p1.Width)) + (Int.tmod (w64 (x6120 + 1)) p1.Width)) < (p1.Cells.length : Int) then (if 0 ≤ (rdD p1.Cells (w64 ((w64 (x5853 * p1.Width)) + (Int.tmod (w64 (x6120 + 1)) p1.Width))) 0) ∧ (rdD p1.Cells (w64 ((w64 (x5853 * p1.Width)) + (Int.tmod (w64 (x6120 + 1)) p1.Width))) 0) < (p0.length : Int) then (some (((rdD p0 (rdD p1.Cells (w64 ((w64 (x5853 * p1.Width)) + x6120)) 0) z_Tile).E) != ((rdD p0 (rdD p1.Cells (w64 ((w64 (x5853 * p1.Width)) + (Int.tmod (w64 (x6120 + 1)) p1.Width))) 0) z_Tile).W))) else none) else none) else none) else (if (decide (w64 (x6120 + 1) < p1.Width)) = true then (if p1.Width ≠ 0 then (if 0 ≤ w64 ((w64 (x5853 * p1.Width)) + (Int.tmod (w64 (x6120 + 1)) p1.Width)) ∧ w64 ((w64 (x5853 * p1.Width)) + (Int.tmod (w64 (x6120 + 1)) p1.Width)) < (p1.Cells.length : Int) then (if 0 ≤ (rdD p1.Cells (w64 ((w64 (x5853 * p1.Width)) + (Int.tmod (w64 (x6120 + 1)) p1.Width))) 0) ∧ (rdD p1.Cells (w64 ((w64 (x5853 * p1.Width)) + (Int.tmod (w64 (x6120 + 1)) p1.Width))) 0) < (p0.length : Int) then (some (((rdD p0 (rdD p1.Cells (w64 ((w64 (x5853 * p1.Width)) + x6120)) 0) z_Tile).E) != ((rdD p0 (rdD p1.Cells (w64 ((w64 (x5853 * p1.Width)) + (Int.tmod (w64 (x6120 + 1)) p1.Width))) 0) z_Tile).W))) else none) else none) else none) else (some false))).bind fun x6163 => if x6163 = true then (some (.inl false)) else ((if p2 = true then (if p1.Height ≠ 0 then (if 0 ≤ w64 ((w64 ((Int.tmod (w64 (x5853 + 1)) p1.Height) * p1.Width)) + x6120) ∧ w64 ((w64 ((Int.tmod (w64 (x5853 + 1)) p1.Height) * p1.Width)) + x6120) < (p1.Cells.length : Int) then (if 0 ≤ (rdD p1.Cells (w64 ((w64 ((Int.tmod (w64 (x5853 + 1)) p1.Height) * p1.Width)) + x6120)) 0) ∧ (rdD p1.Cells (w64 ((w64 ((Int.tmod (w64 (x5853 + 1)) p1.Height) * p1.Width)) + x6120)) 0) < (p0.length : Int) then (some (((rdD p0 (rdD p1.Cells (w64 ((w64 (x5853 * p1.Width)) + x6120)) 0) z_Tile).N) != ((rdD p0 (rdD p1.Cells (w64 ((w64 ((Int.tmod (w64 (x5853 + 1)) p1.Height) * p1.Width)) + x6120)) 0) z_Tile).S))) else none) else none) else none) else (if (decide (w64 (x5853 + 1) < p1.Height)) = true then (if p1.Height ≠ 0 then (if 0 ≤ w64 ((w64 ((Int.tmod (w64 (x5853 + 1)) p1.Height) * p1.Width)) + x6120) ∧ w64 ((w64 ((Int.tmod (w64 (x5853 + 1)) p1.Height) * p1.Width)) + x6120) < (p1.Cells.length : Int) then (if 0 ≤ (rdD p1.Cells (w64 ((w64 ((Int.tmod (w64 (x5853 + 1)) p1.Height) * p1.Width)) + x6120)) 0) ∧ (rdD p1.Cells (w64 ((w64 ((Int.tmod (w64 (x5853 + 1)) p1.Height) * p1.Width)) + x6120)) 0) < (p0.length : Int) then (some (((rdD p0 (rdD p1.Cells (w64 ((w64 (x5853 * p1.Width)) + x6120)) 0) z_Tile).N) != ((rdD p0 (rdD p1.Cells (w64 ((w64 ((Int.tmod (w64 (x5853 + 1)) p1.Height) * p1.Width)) + x6120)) 0) z_Tile).S))) else none) else none) else none) else (some false))).bind fun x6223 => if x6223 = true then (some (.inl false)) else (top_of.l4 k (w64 (x6120 + 1)) p0 p1 p2 x5853))) else none) else none) else (some (.inr ()))
def top_of.l3 : Nat → Int → (List Tile) → Pattern → Bool → Option (Sum Bool Unit)
  | 0, _, _, _, _ => none
  | k + 1, x5853, p0, p1, p2 => if (decide (x5853 < p1.Height)) = true then ((top_of.l4 k 0 p0 p1 p2 x5853).bind fun x6121 => sumb x6121 (fun r => some (.inl r)) (fun y6259 => top_of.l3 k (w64 (x5853 + 1)) p0 p1 p2)) else (some (.inr ()))
def top_of (k : Nat) (p0 : List Tile) (p1 : Pattern) (p2 : Bool) : Option Bool := if (((((((decide ((p0.length : Int) > 1000)) || (decide (p1.Width < 1))) || (decide (p1.Height < 1))) || (decide (p1.Width > 40000))) || (decide (p1.Height > 40000))) || (decide (w64 (p1.Width * p1.Height) > 40000))) || ((p1.Cells.length : Int) != (w64 (p1.Width * p1.Height)))) = true then (some false) else ((top_of.l0 k 0 p0).bind fun x4954 => sumb x4954 (fun r => some r) (fun y5020 => (top_of.l2 k 0 p0 p1).bind fun x5034 => sumb x5034 (fun r => some r) (fun y5048 => (top_of.l3 k 0 p0 p1 p2).bind fun x5854 => sumb x5854 (fun r => some r) (fun y6264 => some true))))
def top_colour (p0 : Machine) (p1 : Config) (p2 : Int) : Option Int := if (p2 == p1.At) = true then (if 0 ≤ p2 ∧ p2 < (p1.Cells.length : Int) then (some (w64 ((w64 (p0.Symbols + (w64 (p1.State * p0.Symbols)))) + (rdD p1.Cells p2 0)))) else none) else (if 0 ≤ p2 ∧ p2 < (p1.Cells.length : Int) then (some (rdD p1.Cells p2 0)) else none)
def top_shows.l0 : Nat → Int → (List Tile) → Machine → Config → Pattern → Option (Sum Bool Unit)
  | 0, _, _, _, _, _ => none
  | k + 1, x6354, p0, p1, p2, p3 => if (decide (x6354 < p3.Width)) = true then (if 0 ≤ x6354 ∧ x6354 < (p3.Cells.length : Int) then (if 0 ≤ (rdD p3.Cells x6354 0) ∧ (rdD p3.Cells x6354 0) < (p0.length : Int) then ((top_colour p1 p2 x6354).bind fun t6375 => if (((rdD p0 (rdD p3.Cells x6354 0) z_Tile).S) != t6375) = true then (some (.inl false)) else (top_shows.l0 k (w64 (x6354 + 1)) p0 p1 p2 p3)) else none) else none) else (some (.inr ()))
def top_shows.l1 : Nat → Int → (List Tile) → Pattern → Option (Sum Bool Unit)
  | 0, _, _, _ => none
  | k + 1, x6409, p0, p3 => if (decide (x6409 < p3.Height)) = true then (if 0 ≤ w64 (x6409 * p3.Width) ∧ w64 (x6409 * p3.Width) < (p3.Cells.length : Int) then (if 0 ≤ (rdD p3.Cells (w64 (x6409 * p3.Width)) 0) ∧ (rdD p3.Cells (w64 (x6409 * p3.Width)) 0) < (p0.length : Int) then ((if (((rdD p0 (rdD p3.Cells (w64 (x6409 * p3.Width)) 0) z_Tile).W) != 0) = true then (some true) else (if 0 ≤ w64 ((w64 ((w64 (x6409 + 1)) * p3.Width)) - 1) ∧ w64 ((w64 ((w64 (x6409 + 1)) * p3.Width)) - 1) < (p3.Cells.length : Int) then (if 0 ≤ (rdD p3.Cells (w64 ((w64 ((w64 (x6409 + 1)) * p3.Width)) - 1)) 0) ∧ (rdD p3.Cells (w64 ((w64 ((w64 (x6409 + 1)) * p3.Width)) - 1)) 0) < (p0.length : Int) then (some (((rdD p0 (rdD p3.Cells (w64 ((w64 ((w64 (x6409 + 1)) * p3.Width)) - 1)) 0) z_Tile).E) != 0)) else none) else none)).bind fun b6421 => if b6421 = true then (some (.inl false)) else (top_shows.l1 k (w64 (x6409 + 1)) p0 p3)) else none) else none) else (some (.inr ()))
def top_shows (k : Nat) (p0 : List Tile) (p1 : Machine) (p2 : Config) (p3 : Pattern) : Option Bool := if (p3.Width != (p2.Cells.length : Int)) = true then (some false) else ((top_shows.l0 k 0 p0 p1 p2 p3).bind fun x6355 => sumb x6355 (fun r => some r) (fun y6384 => (top_shows.l1 k 0 p0 p3).bind fun x6410 => sumb x6410 (fun r => some r) (fun y6430 => some true)))
def top_TopMachine.l0 : Nat → Int → Int → Int → (List Int) → Machine → Int → Option (Int × Int × Int × (List Int))
  | 0, _, _, _, _, _, _ => none
  | k + 1, x4781, x4782, x4783, l4786, p0, t4345 => if (decide (x4781 < w64 (t4345 + 1))) = true then ((top_after p0 (Config.mk x4782 x4783 l4786)).bind fun t4800 => if (!t4800.2) = true then (some (x4781, x4782, x4783, l4786)) else (top_TopMachine.l0 k (w64 (x4781 + 1)) t4800.1.State t4800.1.At t4800.1.Cells p0 t4345)) else (some (x4781, x4782, x4783, l4786))
def top_TopMachine.l2 : Nat → Int → Machine → Shown → ((List Tile) × Int) → Int → (Config × Bool) → Option (Sum Bool Unit)
  | 0, _, _, _, _, _, _ => none
  | k + 1, x6885, p0, p2, t1461, x6822, t6830 => if (decide (x6885 < p2.P.Width)) = true then (if 0 ≤ w64 ((w64 (x6822 * p2.P.Width)) + x6885) ∧ w64 ((w64 (x6822 * p2.P.Width)) + x6885) < (p2.P.Cells.length : Int) then (if 0 ≤ (rdD p2.P.Cells (w64 ((w64 (x6822 * p2.P.Width)) + x6885)) 0) ∧ (rdD p2.P.Cells (w64 ((w64 (x6822 * p2.P.Width)) + x6885)) 0) < (t1461.1.length : Int) then ((top_colour p0 t6830.1 x6885).bind fun t6906 => if (((rdD t1461.1 (rdD p2.P.Cells (w64 ((w64 (x6822 * p2.P.Width)) + x6885)) 0) z_Tile).N) != t6906) = true then (some (.inl false)) else (top_TopMachine.l2 k (w64 (x6885 + 1)) p0 p2 t1461 x6822 t6830)) else none) else none) else (some (.inr ()))
def top_TopMachine.l1 : Nat → Int → Int → (List Int) → Int → Machine → Shown → ((List Tile) × Int) → Option (Sum Bool Unit)
  | 0, _, _, _, _, _, _, _ => none
  | k + 1, x6817, x6818, l6821, x6822, p0, p2, t1461 => if (decide (x6822 < p2.P.Height)) = true then ((top_after p0 (Config.mk x6817 x6818 l6821)).bind fun t6830 => if (!t6830.2) = true then (some (.inl false)) else ((top_TopMachine.l2 k 0 p0 p2 t1461 x6822 t6830).bind fun x6886 => sumb x6886 (fun r => some (.inl r)) (fun y6915 => top_TopMachine.l1 k t6830.1.State t6830.1.At t6830.1.Cells (w64 (x6822 + 1)) p0 p2 t1461))) else (some (.inr ()))
def top_TopMachine (k : Nat) (p0 : Machine) (p1 : Config) (p2 : Shown) : Option Bool := (machine_Tiles k p0).bind fun t1461 => (if (t1461.2 != 0) = true then (some true) else ((machine_Fits k p0 p1).bind fun t1565 => some (!t1565))).bind fun x1562 => if (x1562 || (decide ((p2.P.Cells.length : Int) > 5000))) = true then ((top_steps k).bind fun t4339 => some t4339) else ((top_cycle p2.Height 30).bind fun t4345 => (machine_Picture k p0 p1 (w64 (t4345 + 1))).bind fun t4350 => (top_TopMachine.l0 k 0 p1.State p1.At p1.Cells p0 t4345).bind fun x4793 => (if ((decide (x4793.1 < w64 (t4345 + 1))) && (t4350.2 != 6)) = true then (some true) else ((if (x4793.1 == (w64 (t4345 + 1))) = true then ((if ((t4350.2 != 0) || (t4350.1.Height != (w64 (t4345 + 1)))) = true then (some true) else ((top_of k t1461.1 t4350.1 false).bind fun t6559 => some (!t6559))).bind fun x6556 => (if x6556 = true then (some true) else ((top_shows k t1461.1 p0 p1 t4350.1).bind fun t6578 => some (!t6578))).bind fun x6575 => some x6575) else (some false)).bind fun x6545 => some x6545)).bind fun x6501 => if x6501 = true then (some false) else ((top_of k t1461.1 p2.P false).bind fun t6599 => (if (!t6599) = true then (some true) else ((top_shows k t1461.1 p0 p1 p2.P).bind fun t6613 => some (!t6613))).bind fun x6610 => if x6610 = true then ((top_steps k).bind fun t6624 => some t6624) else ((top_TopMachine.l1 k p1.State p1.At p1.Cells 0 p0 p2 t1461).bind fun x6823 => sumb x6823 (fun r => some r) (fun y6922 => (top_steps k).bind fun t6924 => some t6924))))
end Gp
namespace Gp
open Go Gw Go.Proofs Go.RowKit
def ok_Action (a : Action) : Prop := (ok64 a.Write) ∧ (ok64 a.Move) ∧ (ok64 a.Next)
theorem opn_Action_88 {H : Type} {enc : TypeId × Value → H} {w : World} {base : Nat} {spare : Nat → Bool} {held : Bool} {fuel : Nat} {cs : List Value} {x : DataW H × List MemPlace} (h : DataW.trod enc Try.prog w base spare held fuel 88 cs = some x) : ∃ (a : Action), cs = [.int .i64 a.Write, .int .i64 a.Move, .int .i64 a.Next] ∧ ok_Action a := by
  obtain ⟨hl, n, hf⟩ := opn_fields Try.underlying88 h
  have hl0 : cs.length = 3 := hl.trans (by kernel_rfl)
  obtain ⟨q0, r0, rfl, hl1⟩ := cons_of hl0
  obtain ⟨q1, r1, rfl, hl2⟩ := cons_of hl1
  obtain ⟨q2, r2, rfl, hl3⟩ := cons_of hl2
  obtain rfl := List.eq_nil_of_length_eq_zero hl3
  obtain ⟨y0, h0⟩ := hf 0 _ 1 rfl (by kernel_rfl)
  have h0 : DataW.trod enc Try.prog w base spare held n 3 [q0] = some y0 := h0
  obtain ⟨a0, e0, w0⟩ := opn_int Try.underlying3 h0
  injection e0 with f0 e0
  subst f0
  obtain ⟨y1, h1⟩ := hf 1 _ 1 rfl (by kernel_rfl)
  have h1 : DataW.trod enc Try.prog w base spare held n 3 [q1] = some y1 := h1
  obtain ⟨a1, e1, w1⟩ := opn_int Try.underlying3 h1
  injection e1 with f1 e1
  subst f1
  obtain ⟨y2, h2⟩ := hf 2 _ 1 rfl (by kernel_rfl)
  have h2 : DataW.trod enc Try.prog w base spare held n 3 [q2] = some y2 := h2
  obtain ⟨a2, e2, w2⟩ := opn_int Try.underlying3 h2
  injection e2 with f2 e2
  subst f2
  exact ⟨⟨a0, a1, a2⟩, rfl, ⟨wf64 w0, wf64 w1, wf64 w2⟩⟩
theorem opens_Action_88 : Opens Try.prog 88 enc_Action ok_Action := ⟨by kernel_rfl, by decide, fun h => opn_Action_88 h⟩
def ok_Machine (a : Machine) : Prop := (ok64 a.States) ∧ (ok64 a.Symbols) ∧ ((∀ x ∈ a.Actions, ok_Action x) ∧ a.Actions.length ≤ maxLen)
theorem opn_Machine_24 {H : Type} {enc : TypeId × Value → H} {w : World} {base : Nat} {spare : Nat → Bool} {held : Bool} {fuel : Nat} {cs : List Value} {x : DataW H × List MemPlace} (h : DataW.trod enc Try.prog w base spare held fuel 24 cs = some x) : ∃ (a : Machine) (A0 : Option Addr) (c0 : Nat), cs = [.int .i64 a.States, .int .i64 a.Symbols, .slice A0 a.Actions.length c0] ∧ RO NoS w (rowR enc_Action A0 c0 a.Actions) ∧ ok_Machine a := by
  obtain ⟨hl, n, hf⟩ := opn_fields Try.underlying24 h
  have hl0 : cs.length = 3 := hl.trans (by kernel_rfl)
  obtain ⟨q0, r0, rfl, hl1⟩ := cons_of hl0
  obtain ⟨q1, r1, rfl, hl2⟩ := cons_of hl1
  obtain ⟨q2, r2, rfl, hl3⟩ := cons_of hl2
  obtain rfl := List.eq_nil_of_length_eq_zero hl3
  obtain ⟨y0, h0⟩ := hf 0 _ 1 rfl (by kernel_rfl)
  have h0 : DataW.trod enc Try.prog w base spare held n 3 [q0] = some y0 := h0
  obtain ⟨a0, e0, w0⟩ := opn_int Try.underlying3 h0
  injection e0 with f0 e0
  subst f0
  obtain ⟨y1, h1⟩ := hf 1 _ 1 rfl (by kernel_rfl)
  have h1 : DataW.trod enc Try.prog w base spare held n 3 [q1] = some y1 := h1
  obtain ⟨a1, e1, w1⟩ := opn_int Try.underlying3 h1
  injection e1 with f1 e1
  subst f1
  obtain ⟨y2, h2⟩ := hf 2 _ 1 rfl (by kernel_rfl)
  have h2 : DataW.trod enc Try.prog w base spare held n 22 [q2] = some y2 := h2
  obtain ⟨A2_, c2_, a2, e2, o2, w2, m2⟩ := opn_row Try.underlying22 opens_Action_88 h2
  injection e2 with f2 e2
  subst f2
  exact ⟨⟨a0, a1, a2⟩, A2_, c2_, rfl, o2, ⟨wf64 w0, wf64 w1, ⟨w2, m2⟩⟩⟩
def ok_Config (a : Config) : Prop := (ok64 a.State) ∧ (ok64 a.At) ∧ ((∀ x ∈ a.Cells, ok64 x) ∧ a.Cells.length ≤ maxLen)
theorem opn_Config_27 {H : Type} {enc : TypeId × Value → H} {w : World} {base : Nat} {spare : Nat → Bool} {held : Bool} {fuel : Nat} {cs : List Value} {x : DataW H × List MemPlace} (h : DataW.trod enc Try.prog w base spare held fuel 27 cs = some x) : ∃ (a : Config) (A0 : Option Addr) (c0 : Nat), cs = [.int .i64 a.State, .int .i64 a.At, .slice A0 a.Cells.length c0] ∧ RO NoS w (rowR encInt A0 c0 a.Cells) ∧ ok_Config a := by
  obtain ⟨hl, n, hf⟩ := opn_fields Try.underlying27 h
  have hl0 : cs.length = 3 := hl.trans (by kernel_rfl)
  obtain ⟨q0, r0, rfl, hl1⟩ := cons_of hl0
  obtain ⟨q1, r1, rfl, hl2⟩ := cons_of hl1
  obtain ⟨q2, r2, rfl, hl3⟩ := cons_of hl2
  obtain rfl := List.eq_nil_of_length_eq_zero hl3
  obtain ⟨y0, h0⟩ := hf 0 _ 1 rfl (by kernel_rfl)
  have h0 : DataW.trod enc Try.prog w base spare held n 3 [q0] = some y0 := h0
  obtain ⟨a0, e0, w0⟩ := opn_int Try.underlying3 h0
  injection e0 with f0 e0
  subst f0
  obtain ⟨y1, h1⟩ := hf 1 _ 1 rfl (by kernel_rfl)
  have h1 : DataW.trod enc Try.prog w base spare held n 3 [q1] = some y1 := h1
  obtain ⟨a1, e1, w1⟩ := opn_int Try.underlying3 h1
  injection e1 with f1 e1
  subst f1
  obtain ⟨y2, h2⟩ := hf 2 _ 1 rfl (by kernel_rfl)
  have h2 : DataW.trod enc Try.prog w base spare held n 25 [q2] = some y2 := h2
  obtain ⟨A2_, c2_, a2, e2, o2, w2, m2⟩ := opn_row Try.underlying25 (opens_int Try.underlying3 (by kernel_rfl)) h2
  injection e2 with f2 e2
  subst f2
  exact ⟨⟨a0, a1, a2⟩, A2_, c2_, rfl, o2, ⟨wf64 w0, wf64 w1, ⟨w2, m2⟩⟩⟩
def ok_Pattern (a : Pattern) : Prop := (ok64 a.Width) ∧ (ok64 a.Height) ∧ ((∀ x ∈ a.Cells, ok64 x) ∧ a.Cells.length ≤ maxLen)
theorem opn_Pattern_31 {H : Type} {enc : TypeId × Value → H} {w : World} {base : Nat} {spare : Nat → Bool} {held : Bool} {fuel : Nat} {cs : List Value} {x : DataW H × List MemPlace} (h : DataW.trod enc Try.prog w base spare held fuel 31 cs = some x) : ∃ (a : Pattern) (A0 : Option Addr) (c0 : Nat), cs = [.int .i64 a.Width, .int .i64 a.Height, .slice A0 a.Cells.length c0] ∧ RO NoS w (rowR encInt A0 c0 a.Cells) ∧ ok_Pattern a := by
  obtain ⟨hl, n, hf⟩ := opn_fields Try.underlying31 h
  have hl0 : cs.length = 3 := hl.trans (by kernel_rfl)
  obtain ⟨q0, r0, rfl, hl1⟩ := cons_of hl0
  obtain ⟨q1, r1, rfl, hl2⟩ := cons_of hl1
  obtain ⟨q2, r2, rfl, hl3⟩ := cons_of hl2
  obtain rfl := List.eq_nil_of_length_eq_zero hl3
  obtain ⟨y0, h0⟩ := hf 0 _ 1 rfl (by kernel_rfl)
  have h0 : DataW.trod enc Try.prog w base spare held n 3 [q0] = some y0 := h0
  obtain ⟨a0, e0, w0⟩ := opn_int Try.underlying3 h0
  injection e0 with f0 e0
  subst f0
  obtain ⟨y1, h1⟩ := hf 1 _ 1 rfl (by kernel_rfl)
  have h1 : DataW.trod enc Try.prog w base spare held n 3 [q1] = some y1 := h1
  obtain ⟨a1, e1, w1⟩ := opn_int Try.underlying3 h1
  injection e1 with f1 e1
  subst f1
  obtain ⟨y2, h2⟩ := hf 2 _ 1 rfl (by kernel_rfl)
  have h2 : DataW.trod enc Try.prog w base spare held n 25 [q2] = some y2 := h2
  obtain ⟨A2_, c2_, a2, e2, o2, w2, m2⟩ := opn_row Try.underlying25 (opens_int Try.underlying3 (by kernel_rfl)) h2
  injection e2 with f2 e2
  subst f2
  exact ⟨⟨a0, a1, a2⟩, A2_, c2_, rfl, o2, ⟨wf64 w0, wf64 w1, ⟨w2, m2⟩⟩⟩
def ok_Shown (a : Shown) : Prop := (ok_Pattern a.P) ∧ (ok64 a.Height)
theorem opn_Shown_69 {H : Type} {enc : TypeId × Value → H} {w : World} {base : Nat} {spare : Nat → Bool} {held : Bool} {fuel : Nat} {cs : List Value} {x : DataW H × List MemPlace} (h : DataW.trod enc Try.prog w base spare held fuel 69 cs = some x) : ∃ (a : Shown) (A0 : Option Addr) (c0 : Nat), cs = [.int .i64 a.P.Width, .int .i64 a.P.Height, .slice A0 a.P.Cells.length c0, .int .i64 a.Height] ∧ RO NoS w (rowR encInt A0 c0 a.P.Cells) ∧ ok_Shown a := by
  obtain ⟨hl, n, hf⟩ := opn_fields Try.underlying69 h
  have hl0 : cs.length = 4 := hl.trans (by kernel_rfl)
  obtain ⟨q0, r0, rfl, hl1⟩ := cons_of hl0
  obtain ⟨q1, r1, rfl, hl2⟩ := cons_of hl1
  obtain ⟨q2, r2, rfl, hl3⟩ := cons_of hl2
  obtain ⟨q3, r3, rfl, hl4⟩ := cons_of hl3
  obtain rfl := List.eq_nil_of_length_eq_zero hl4
  obtain ⟨y0, h0⟩ := hf 0 _ 3 rfl (by kernel_rfl)
  have h0 : DataW.trod enc Try.prog w base spare held n 31 [q0, q1, q2] = some y0 := h0
  obtain ⟨a0, A0_0, c0_0, e0, o0_0, w0⟩ := opn_Pattern_31 h0
  injection e0 with f0 e0
  subst f0
  injection e0 with f1 e0
  subst f1
  injection e0 with f2 e0
  subst f2
  obtain ⟨y1, h1⟩ := hf 1 _ 1 rfl (by kernel_rfl)
  have h1 : DataW.trod enc Try.prog w base spare held n 3 [q3] = some y1 := h1
  obtain ⟨a1, e1, w1⟩ := opn_int Try.underlying3 h1
  injection e1 with f3 e1
  subst f3
  exact ⟨⟨a0, a1⟩, A0_0, c0_0, rfl, o0_0, ⟨w0, wf64 w1⟩⟩
end Gp
