/- The functions that the law reaches, as plain functions; how what comes in is opened. -/
import Derived.Test.YtmdkdigmkcpceaaGb
set_option linter.unusedVariables false
set_option linter.unusedSimpArgs false
set_option maxHeartbeats 4000000
namespace Gp
open Go Gw
abbrev iv (n : Int) : Value := .int .i64 n
abbrev pt (g : Nat) : Value := .pointer (some ⟨g, 0, none⟩)
structure Tile where
  N : Int
  E : Int
  S : Int
  W : Int
  deriving DecidableEq
def z_Tile : Tile := ⟨0, 0, 0, 0⟩
def ints_Tile (x : Tile) : List Int := [x.N, x.E, x.S, x.W]
def enc_Tile : Enc Tile := ⟨4, fun x => [(.int .i64 x.N), (.int .i64 x.E), (.int .i64 x.S), (.int .i64 x.W)], fun _ => rfl, fun x u h => by simp at h; rcases h with rfl | rfl | rfl | rfl <;> rfl⟩
structure Pattern where
  Width : Int
  Height : Int
  Cells : List Int
  deriving DecidableEq
def z_Pattern : Pattern := ⟨0, 0, []⟩
def encN_Pattern : Enc (HF × Pattern) := ⟨3, fun x => [(.int .i64 x.2.Width), (.int .i64 x.2.Height), (.slice (x.1 0).1 x.2.Cells.length (x.1 0).2)], fun _ => rfl, fun x u h => by simp at h; rcases h with rfl | rfl | rfl <;> rfl⟩
def subN_Pattern (h : HF) (x : Pattern) : Own := rowR encInt (h 0).1 (h 0).2 x.Cells
structure Verdict where
  Fills : Bool
  Torus : Pattern
  Side : Int
  deriving DecidableEq
def z_Verdict : Verdict := ⟨false, z_Pattern, 0⟩
structure Edges where
  North : List Int
  East : List Int
  South : List Int
  West : List Int
  deriving DecidableEq
def z_Edges : Edges := ⟨[], [], [], []⟩
structure A8_Int where
  e0 : Int
  e1 : Int
  e2 : Int
  e3 : Int
  e4 : Int
  e5 : Int
  e6 : Int
  e7 : Int
  deriving DecidableEq
def z_A8_Int : A8_Int := ⟨0, 0, 0, 0, 0, 0, 0, 0⟩
def A8_Int.get (a : A8_Int) (i : Int) : Int := if i = 0 then a.e0 else if i = 1 then a.e1 else if i = 2 then a.e2 else if i = 3 then a.e3 else if i = 4 then a.e4 else if i = 5 then a.e5 else if i = 6 then a.e6 else a.e7
def A8_Int.set (a : A8_Int) (i v : Int) : A8_Int := ⟨if i = 0 then v else a.e0, if i = 1 then v else a.e1, if i = 2 then v else a.e2, if i = 3 then v else a.e3, if i = 4 then v else a.e4, if i = 5 then v else a.e5, if i = 6 then v else a.e6, if i = 7 then v else a.e7⟩
def ints_A8_Int (x : A8_Int) : List Int := [x.e0, x.e1, x.e2, x.e3, x.e4, x.e5, x.e6, x.e7]
def enc_A8_Int : Enc A8_Int := ⟨8, fun x => [(.int .i64 x.e0), (.int .i64 x.e1), (.int .i64 x.e2), (.int .i64 x.e3), (.int .i64 x.e4), (.int .i64 x.e5), (.int .i64 x.e6), (.int .i64 x.e7)], fun _ => rfl, fun x u h => by simp at h; rcases h with rfl | rfl | rfl | rfl | rfl | rfl | rfl | rfl <;> rfl⟩
structure Row where
  Cells : List Int
  South : A8_Int
  North : A8_Int
  West : Int
  East : Int
  deriving DecidableEq
def z_Row : Row := ⟨[], z_A8_Int, z_A8_Int, 0, 0⟩
def encN_Row : Enc (HF × Row) := ⟨19, fun x => [(.slice (x.1 0).1 x.2.Cells.length (x.1 0).2), (.int .i64 x.2.South.e0), (.int .i64 x.2.South.e1), (.int .i64 x.2.South.e2), (.int .i64 x.2.South.e3), (.int .i64 x.2.South.e4), (.int .i64 x.2.South.e5), (.int .i64 x.2.South.e6), (.int .i64 x.2.South.e7), (.int .i64 x.2.North.e0), (.int .i64 x.2.North.e1), (.int .i64 x.2.North.e2), (.int .i64 x.2.North.e3), (.int .i64 x.2.North.e4), (.int .i64 x.2.North.e5), (.int .i64 x.2.North.e6), (.int .i64 x.2.North.e7), (.int .i64 x.2.West), (.int .i64 x.2.East)], fun _ => rfl, fun x u h => by simp at h; rcases h with rfl | rfl | rfl | rfl | rfl | rfl | rfl | rfl | rfl | rfl | rfl | rfl | rfl | rfl | rfl | rfl | rfl | rfl | rfl <;> rfl⟩
def subN_Row (h : HF) (x : Row) : Own := rowR encInt (h 0).1 (h 0).2 x.Cells
structure Job where
  rows : List Row
  width : Int
  height : Int
  edges : Edges
  deriving DecidableEq
def z_Job : Job := ⟨[], 0, 0, z_Edges⟩
structure S_side_n where
  side : List Int
  n : Int
  deriving DecidableEq
def z_S_side_n : S_side_n := ⟨[], 0⟩
def encN_S_side_n : Enc (HF × S_side_n) := ⟨2, fun x => [(.slice (x.1 0).1 x.2.side.length (x.1 0).2), (.int .i64 x.2.n)], fun _ => rfl, fun x u h => by simp at h; rcases h with rfl | rfl <;> rfl⟩
def subN_S_side_n (h : HF) (x : S_side_n) : Own := rowR encInt (h 0).1 (h 0).2 x.side
structure A3_Tile where
  e0 : Tile
  e1 : Tile
  e2 : Tile
  deriving DecidableEq
def z_A3_Tile : A3_Tile := ⟨z_Tile, z_Tile, z_Tile⟩
def enc_A3_Tile : Enc A3_Tile := ⟨12, fun x => [(.int .i64 x.e0.N), (.int .i64 x.e0.E), (.int .i64 x.e0.S), (.int .i64 x.e0.W), (.int .i64 x.e1.N), (.int .i64 x.e1.E), (.int .i64 x.e1.S), (.int .i64 x.e1.W), (.int .i64 x.e2.N), (.int .i64 x.e2.E), (.int .i64 x.e2.S), (.int .i64 x.e2.W)], fun _ => rfl, fun x u h => by simp at h; rcases h with rfl | rfl | rfl | rfl | rfl | rfl | rfl | rfl | rfl | rfl | rfl | rfl <;> rfl⟩
def top_cycle (p0 : Int) (p1 : Int) : Option Int := if p1 ≠ 0 then (some (Int.tmod (w64 ((Int.tmod p0 p1) + p1)) p1)) else none
def top_small.l1 : Nat → Bool → Int → (List Tile) → Int → Int → Int → Int → Option Bool
  | 0, _, _, _, _, _, _, _ => none
  | k + 1, b750, x751, l648, t696, t701, t706, t711 => if (decide (x751 < (l648.length : Int))) = true then ((if b750 = true then (some true) else (if 0 ≤ x751 ∧ x751 < (l648.length : Int) then (some (((rdD l648 x751 z_Tile).N) == t696 && (((rdD l648 x751 z_Tile).E) == t701 && (((rdD l648 x751 z_Tile).S) == t706 && (((rdD l648 x751 z_Tile).W) == t711))))) else none)).bind fun x769 => top_small.l1 k x769 (w64 (x751 + 1)) l648 t696 t701 t706 t711) else (some b750)
def top_small.l2 : Nat → Bool → Int → (List Tile) → Int → Int → Int → Int → Option Bool
  | 0, _, _, _, _, _, _, _ => none
  | k + 1, b903, x904, l648, t849, t854, t859, t864 => if (decide (x904 < (l648.length : Int))) = true then ((if b903 = true then (some true) else (if 0 ≤ x904 ∧ x904 < (l648.length : Int) then (some (((rdD l648 x904 z_Tile).N) == t849 && (((rdD l648 x904 z_Tile).E) == t854 && (((rdD l648 x904 z_Tile).S) == t859 && (((rdD l648 x904 z_Tile).W) == t864))))) else none)).bind fun x922 => top_small.l2 k x922 (w64 (x904 + 1)) l648 t849 t854 t859 t864) else (some b903)
def top_small.l3 : Nat → Bool → Int → (List Tile) → Int → Int → Int → Int → Option Bool
  | 0, _, _, _, _, _, _, _ => none
  | k + 1, b1056, x1057, l648, t1002, t1007, t1012, t1017 => if (decide (x1057 < (l648.length : Int))) = true then ((if b1056 = true then (some true) else (if 0 ≤ x1057 ∧ x1057 < (l648.length : Int) then (some (((rdD l648 x1057 z_Tile).N) == t1002 && (((rdD l648 x1057 z_Tile).E) == t1007 && (((rdD l648 x1057 z_Tile).S) == t1012 && (((rdD l648 x1057 z_Tile).W) == t1017))))) else none)).bind fun x1075 => top_small.l3 k x1075 (w64 (x1057 + 1)) l648 t1002 t1007 t1012 t1017) else (some b1056)
def top_small.l0 : Nat → (List Tile) → Int → A3_Tile → Int → Option (List Tile)
  | 0, _, _, _, _ => none
  | k + 1, l648, x649, p0, p1 => (top_cycle p1 4).bind fun t659 => if (decide (x649 < t659)) = true then (if (x649 == 0) = true then ((top_cycle p0.e0.N 6).bind fun t696 => (top_cycle p0.e0.E 6).bind fun t701 => (top_cycle p0.e0.S 6).bind fun t706 => (top_cycle p0.e0.W 6).bind fun t711 => (top_small.l1 k false 0 l648 t696 t701 t706 t711).bind fun x753 => (if (!x753) = true then (if l648.length + [(Tile.mk t696 t701 t706 t711)].length ≤ 100000000000 then (some (l648 ++ [(Tile.mk t696 t701 t706 t711)])) else none) else (some l648)).bind fun x801 => top_small.l0 k x801 (w64 (x649 + 1)) p0 p1) else (if (x649 == 1) = true then ((top_cycle p0.e1.N 6).bind fun t849 => (top_cycle p0.e1.E 6).bind fun t854 => (top_cycle p0.e1.S 6).bind fun t859 => (top_cycle p0.e1.W 6).bind fun t864 => (top_small.l2 k false 0 l648 t849 t854 t859 t864).bind fun x906 => (if (!x906) = true then (if l648.length + [(Tile.mk t849 t854 t859 t864)].length ≤ 100000000000 then (some (l648 ++ [(Tile.mk t849 t854 t859 t864)])) else none) else (some l648)).bind fun x954 => top_small.l0 k x954 (w64 (x649 + 1)) p0 p1) else (if (x649 == 2) = true then ((top_cycle p0.e2.N 6).bind fun t1002 => (top_cycle p0.e2.E 6).bind fun t1007 => (top_cycle p0.e2.S 6).bind fun t1012 => (top_cycle p0.e2.W 6).bind fun t1017 => (top_small.l3 k false 0 l648 t1002 t1007 t1012 t1017).bind fun x1059 => (if (!x1059) = true then (if l648.length + [(Tile.mk t1002 t1007 t1012 t1017)].length ≤ 100000000000 then (some (l648 ++ [(Tile.mk t1002 t1007 t1012 t1017)])) else none) else (some l648)).bind fun x1107 => top_small.l0 k x1107 (w64 (x649 + 1)) p0 p1) else (none)))) else (some l648)
def top_small (k : Nat) (p0 : A3_Tile) (p1 : Int) : Option (List Tile) := (top_small.l0 k ([] : List Tile) 0 p0 p1).bind fun x653 => some x653
def tile_colour_1 (p0 : Int) : Option Bool := some ((decide (p0 < 0)) || (decide (p0 ≥ 1000)))
def slices_IndexFunc_int_int_with_tile_colour_1.l0 : Nat → Int → (List Int) → Option (Sum Int Unit)
  | 0, _, _ => none
  | k + 1, x1179, p0 => if (decide (x1179 < (p0.length : Int))) = true then (if 0 ≤ x1179 ∧ x1179 < (p0.length : Int) then ((tile_colour_1 (rdD p0 x1179 0)).bind fun t1188 => if t1188 = true then (some (.inl x1179)) else (slices_IndexFunc_int_int_with_tile_colour_1.l0 k (w64 (x1179 + 1)) p0)) else none) else (some (.inr ()))
def slices_IndexFunc_int_int_with_tile_colour_1 (k : Nat) (p0 : List Int) : Option Int := (slices_IndexFunc_int_int_with_tile_colour_1.l0 k 0 p0).bind fun x1180 => sumb x1180 (fun r => some r) (fun y1197 => some (-1))
def slices_ContainsFunc_int_int_with_tile_colour_1 (k : Nat) (p0 : List Int) : Option Bool := (slices_IndexFunc_int_int_with_tile_colour_1 k p0).bind fun t1199 => some (decide (t1199 ≥ 0))
def tile_colour (k : Nat) (p0 : List Int) : Option Bool := (slices_ContainsFunc_int_int_with_tile_colour_1 k p0).bind fun t1204 => some (!t1204)
def tile_Valid.l0 : Nat → (List (Tile × Bool)) → Int → (List Tile) → Option (Sum Bool Unit)
  | 0, _, _, _ => none
  | k + 1, l1278, x1279, p0 => if (decide (x1279 < (p0.length : Int))) = true then (if 0 ≤ x1279 ∧ x1279 < (p0.length : Int) then ((if (mget (rdD p0 x1279 z_Tile) false l1278) = true then (some true) else ((tile_colour k [(rdD p0 x1279 z_Tile).N, (rdD p0 x1279 z_Tile).E, (rdD p0 x1279 z_Tile).S, (rdD p0 x1279 z_Tile).W]).bind fun t1313 => some (!t1313))).bind fun x1305 => if x1305 = true then (some (.inl false)) else (tile_Valid.l0 k (mput (rdD p0 x1279 z_Tile) true l1278) (w64 (x1279 + 1)) p0)) else none) else (some (.inr ()))
def tile_Valid (k : Nat) (p0 : List Tile) : Option Bool := if (decide ((p0.length : Int) > 1000)) = true then (some false) else ((tile_Valid.l0 k ([] : List (Tile × Bool)) 0 p0).bind fun x1280 => sumb x1280 (fun r => some r) (fun y1329 => some true))
def decide_asks (k : Nat) (p0 : List Tile) : Option Int := (tile_Valid k p0).bind fun t1331 => if (!t1331) = true then (some 1) else (if (decide ((p0.length : Int) > 3)) = true then (some 2) else (some 0))
def decide_sides (p0 : List Tile) : Option Unit := some ()
def rows_Few.l0 : Nat → Int → Int → (List Tile) → Int → Option (Sum Bool Unit)
  | 0, _, _, _, _ => none
  | k + 1, x1422, x1423, p0, p1 => if (decide (x1423 < p1)) = true then (if (decide (w64 (x1422 * (maxI (p0.length : Int) 1)) > 5000)) = true then (some (.inl false)) else (rows_Few.l0 k (w64 (x1422 * (maxI (p0.length : Int) 1))) (w64 (x1423 + 1)) p0 p1)) else (some (.inr ()))
def rows_Few (k : Nat) (p0 : List Tile) (p1 : Int) : Option Bool := (rows_Few.l0 k 1 0 p0 p1).bind fun x1424 => sumb x1424 (fun r => some r) (fun y1435 => some true)
def square_check (k : Nat) (p0 : List Tile) (p1 : Int) : Option Int := (tile_Valid k p0).bind fun t1407 => if (!t1407) = true then (some 1) else (if ((decide (p1 < 1)) || (decide (p1 > 8))) = true then (some 2) else ((rows_Few k p0 p1).bind fun t1437 => if (!t1437) = true then (some 4) else (some 0)))
def rows_rowOf.l0 : Nat → A8_Int → A8_Int → Int → (List Tile) → (List Int) → Option (A8_Int × A8_Int)
  | 0, _, _, _, _, _ => none
  | k + 1, a1650, a1651, x1652, p0, p1 => if (decide (x1652 < (p1.length : Int))) = true then (if 0 ≤ x1652 ∧ x1652 < (p1.length : Int) then (if 0 ≤ (rdD p1 x1652 0) ∧ (rdD p1 x1652 0) < (p0.length : Int) then (if 0 ≤ x1652 ∧ x1652 < (8 : Int) then (rows_rowOf.l0 k (A8_Int.set a1650 x1652 ((rdD p0 (rdD p1 x1652 0) z_Tile).S)) (A8_Int.set a1651 x1652 ((rdD p0 (rdD p1 x1652 0) z_Tile).N)) (w64 (x1652 + 1)) p0 p1) else none) else none) else none) else (some (a1650, a1651))
def rows_rowOf (k : Nat) (p0 : List Tile) (p1 : List Int) : Option Row := if ([] : List Int).length + p1.length ≤ 100000000000 then ((rows_rowOf.l0 k (A8_Int.mk 0 0 0 0 0 0 0 0) (A8_Int.mk 0 0 0 0 0 0 0 0) 0 p0 p1).bind fun x1655 => if 0 ≤ (0 : Int) ∧ (0 : Int) < (p1.length : Int) then (if 0 ≤ (rdD p1 (0 : Int) 0) ∧ (rdD p1 (0 : Int) 0) < (p0.length : Int) then (if 0 ≤ w64 ((p1.length : Int) - 1) ∧ w64 ((p1.length : Int) - 1) < (p1.length : Int) then (if 0 ≤ (rdD p1 (w64 ((p1.length : Int) - 1)) 0) ∧ (rdD p1 (w64 ((p1.length : Int) - 1)) 0) < (p0.length : Int) then (some (Row.mk (([] : List Int) ++ p1) x1655.1 x1655.2 ((rdD p0 (rdD p1 (0 : Int) 0) z_Tile).W) ((rdD p0 (rdD p1 (w64 ((p1.length : Int) - 1)) 0) z_Tile).E))) else none) else none) else none) else none) else none
def rows_All_1.l0 : Nat → (List Row) → (List Int) → Int → Int → Int → (List Tile) → (Int → Int → (List Row) → (List Tile) → (List Int) → Option ((List Row) × (List Int))) → Option ((List Row) × (List Int))
  | 0, _, _, _, _, _, _, _ => none
  | k + 1, l2107, l2111, x2112, p0, f0, f2, rc_ => if (decide (x2112 < (f2.length : Int))) = true then (if 0 ≤ x2112 ∧ x2112 < (f2.length : Int) then ((if (p0 == 0) = true then (some true) else (if 0 ≤ w64 (p0 - 1) ∧ w64 (p0 - 1) < (l2111.length : Int) then (if 0 ≤ (rdD l2111 (w64 (p0 - 1)) 0) ∧ (rdD l2111 (w64 (p0 - 1)) 0) < (f2.length : Int) then (some (((rdD f2 (rdD l2111 (w64 (p0 - 1)) 0) z_Tile).E) == ((rdD f2 x2112 z_Tile).W))) else none) else none)).bind fun x2146 => (if x2146 = true then (if 0 ≤ p0 ∧ p0 < (l2111.length : Int) then ((rc_ (w64 (p0 + 1)) f0 l2107 f2 (l2111.set (p0).toNat x2112)).bind fun t2192 => some (t2192.1, t2192.2)) else none) else (some (l2107, l2111))).bind fun x2185 => rows_All_1.l0 k x2185.1 x2185.2 (w64 (x2112 + 1)) p0 f0 f2 rc_) else none) else (some (l2107, l2111))
def rows_All_1 : Nat → Int → Int → (List Row) → (List Tile) → (List Int) → Option ((List Row) × (List Int))
  | 0, _, _, _, _, _ => none
  | k + 1, p0, f0, f1, f2, f3 => if (p0 == f0) = true then ((rows_rowOf k f2 f3).bind fun t1917 => if f1.length + 1 ≤ 100000000000 then (some (f1 ++ [t1917], f3)) else none) else ((rows_All_1.l0 k f1 f3 0 p0 f0 f2 (rows_All_1 k)).bind fun x2120 => some (x2120.1, x2120.2))
def rows_All (k : Nat) (p0 : List Tile) (p1 : Int) : Option (List Row) := if 0 ≤ p1 ∧ p1 ≤ 100000000000 then ((rows_All_1 k 0 p1 ([] : List Row) p0 (List.replicate p1.toNat (0 : Int))).bind fun t2212 => some t2212.1) else none
def fill_begin.l0 : Nat → Int → Int → Int → Edges → Option (Sum ((Option Job) × Int) Unit)
  | 0, _, _, _, _ => none
  | k + 1, x2294, p1, p2, p3 => if (decide (x2294 < ([(S_side_n.mk p3.North p1), (S_side_n.mk p3.South p1), (S_side_n.mk p3.East p2), (S_side_n.mk p3.West p2)].length : Int))) = true then (if 0 ≤ x2294 ∧ x2294 < ([(S_side_n.mk p3.North p1), (S_side_n.mk p3.South p1), (S_side_n.mk p3.East p2), (S_side_n.mk p3.West p2)].length : Int) then (if (((((rdD [(S_side_n.mk p3.North p1), (S_side_n.mk p3.South p1), (S_side_n.mk p3.East p2), (S_side_n.mk p3.West p2)] x2294 z_S_side_n).side).length : Int) != 0) && ((((rdD [(S_side_n.mk p3.North p1), (S_side_n.mk p3.South p1), (S_side_n.mk p3.East p2), (S_side_n.mk p3.West p2)] x2294 z_S_side_n).side).length : Int) != ((rdD [(S_side_n.mk p3.North p1), (S_side_n.mk p3.South p1), (S_side_n.mk p3.East p2), (S_side_n.mk p3.West p2)] x2294 z_S_side_n).n))) = true then (some (.inl (none, 2))) else (fill_begin.l0 k (w64 (x2294 + 1)) p1 p2 p3)) else none) else (some (.inr ()))
def fill_begin (k : Nat) (p0 : List Tile) (p1 : Int) (p2 : Int) (p3 : Edges) : Option ((Option Job) × Int) := (tile_Valid k p0).bind fun t2252 => if (!t2252) = true then (some (none, 1)) else (if ((((decide (p1 < 1)) || (decide (p1 > 8))) || (decide (p2 < 1))) || (decide (p2 > 60))) = true then (some (none, 2)) else ((fill_begin.l0 k 0 p1 p2 p3).bind fun x2295 => sumb x2295 (fun r => some r) (fun y2315 => (rows_Few k p0 p1).bind fun t2317 => if (!t2317) = true then (some (none, 4)) else ((rows_All k p0 p1).bind fun t2337 => some ((some (Job.mk t2337 p1 p2 p3)), 0)))))
def fill_at (p0 : List Int) (p1 : Int) (p2 : Int) : Option Bool := (if ((p0.length : Int) == 0) = true then (some true) else (if 0 ≤ p1 ∧ p1 < (p0.length : Int) then (some ((rdD p0 p1 0) == p2)) else none)).bind fun b2451 => some b2451
def fill_job_allows.l0 : Nat → Int → Job → Row → Int → Option (Sum Bool Unit)
  | 0, _, _, _, _ => none
  | k + 1, x3041, p0, p1, p2 => if (decide (x3041 < p0.width)) = true then ((if (p2 == 0) = true then (if (p2 == (w64 (p0.height - 1))) = true then (if 0 ≤ x3041 ∧ x3041 < (8 : Int) then ((fill_at p0.edges.South x3041 (A8_Int.get p1.South x3041)).bind fun t3223 => (if (!t3223) = true then (some true) else ((fill_at p0.edges.North x3041 (A8_Int.get p1.North x3041)).bind fun t3237 => some (!t3237))).bind fun x3234 => some x3234) else none) else (if 0 ≤ x3041 ∧ x3041 < (8 : Int) then ((fill_at p0.edges.South x3041 (A8_Int.get p1.South x3041)).bind fun t3283 => some (!t3283)) else none)) else (if (p2 == (w64 (p0.height - 1))) = true then (if 0 ≤ x3041 ∧ x3041 < (8 : Int) then ((fill_at p0.edges.North x3041 (A8_Int.get p1.North x3041)).bind fun t3307 => some (!t3307)) else none) else (some false))).bind fun x3184 => if x3184 = true then (some (.inl false)) else (fill_job_allows.l0 k (w64 (x3041 + 1)) p0 p1 p2)) else (some (.inr ()))
def fill_job_allows (k : Nat) (p0 : Job) (p1 : Row) (p2 : Int) : Option Bool := (fill_at p0.edges.West p2 p1.West).bind fun t2481 => (if (!t2481) = true then (some true) else ((fill_at p0.edges.East p2 p1.East).bind fun t2495 => some (!t2495))).bind fun x2492 => if x2492 = true then (some false) else ((fill_job_allows.l0 k 0 p0 p1 p2).bind fun x3042 => sumb x3042 (fun r => some r) (fun y3328 => some true))
def fill_First.l0 : Nat → Int → Option Unit
  | 0, _ => none
  | k + 1, p2 => if (decide (w64 (p2 - 1) ≥ 0)) = true then (if 0 ≤ w64 (p2 - 1) ∧ w64 (p2 - 1) < ((List.replicate p2.toNat (none : Option (List (A8_Int × Bool)))).length : Int) then (none) else none) else (some ())
def fill_First.l1 : Nat → Int → Option Unit
  | 0, _ => none
  | k + 1, p2 => if (decide (0 < p2)) = true then (none) else (some ())
def fill_First.l3 : Nat → (List (Option (List (A8_Int × Bool)))) → Int → Int → Edges → Job → Int → Option (List (Option (List (A8_Int × Bool))))
  | 0, _, _, _, _, _, _ => none
  | k + 1, l4807, x4809, p2, p3, y2358, x4432 => if (decide (x4809 < (y2358.rows.length : Int))) = true then (if 0 ≤ x4809 ∧ x4809 < (y2358.rows.length : Int) then ((if (x4432 == (w64 (p2 - 1))) = true then ((fill_job_allows k (Job.mk y2358.rows y2358.width y2358.height p3) (rdD y2358.rows x4809 z_Row) x4432).bind fun t4906 => some t4906) else ((fill_job_allows k (Job.mk y2358.rows y2358.width y2358.height p3) (rdD y2358.rows x4809 z_Row) x4432).bind fun t4930 => (if t4930 = true then (if 0 ≤ w64 (x4432 + 1) ∧ w64 (x4432 + 1) < (l4807.length : Int) then ((rdD l4807 (w64 (x4432 + 1)) none).bind fun m4942 => (some (mget ((rdD y2358.rows x4809 z_Row).North) false m4942))) else none) else (some false)).bind fun b4938 => some b4938)).bind fun x4888 => (if x4888 = true then (if 0 ≤ x4432 ∧ x4432 < (l4807.length : Int) then ((rdD l4807 x4432 none).bind fun m4985 => (some (l4807.set x4432.toNat (some (mput ((rdD y2358.rows x4809 z_Row).South) true m4985))))) else none) else (some l4807)).bind fun x4970 => fill_First.l3 k x4970 (w64 (x4809 + 1)) p2 p3 y2358 x4432) else none) else (some l4807)
def fill_First.l2 : Nat → (List (Option (List (A8_Int × Bool)))) → Int → Int → Edges → Job → Option (List (Option (List (A8_Int × Bool))))
  | 0, _, _, _, _, _ => none
  | k + 1, l4430, x4432, p2, p3, y2358 => if (decide (x4432 ≥ 0)) = true then (if 0 ≤ x4432 ∧ x4432 < (l4430.length : Int) then ((fill_First.l3 k (l4430.set x4432.toNat (some ([] : List (A8_Int × Bool)))) 0 p2 p3 y2358 x4432).bind fun x4814 => fill_First.l2 k x4814 (w64 (x4432 - 1)) p2 p3 y2358) else none) else (some l4430)
def fill_First.l5 : Nat → (Option Int) → Int → Int → Edges → Job → (List (Option (List (A8_Int × Bool)))) → Int → Option Int
  | 0, _, _, _, _, _, _, _ => none
  | k + 1, o6699, x6700, p2, p3, y2358, x4437, x6230 => if (decide (x6700 < (y2358.rows.length : Int))) = true then (if 0 ≤ x6700 ∧ x6700 < (y2358.rows.length : Int) then ((if (x6230 == (w64 (p2 - 1))) = true then ((fill_job_allows k (Job.mk y2358.rows y2358.width y2358.height p3) (rdD y2358.rows x6700 z_Row) x6230).bind fun t6866 => (if t6866 = true then (optM o6699 (some true) (fun i6878 => if 0 ≤ i6878 ∧ i6878 < (y2358.rows.length : Int) then (some ((((rdD y2358.rows i6878 z_Row).North).e0) == (((rdD y2358.rows x6700 z_Row).South).e0) && ((((rdD y2358.rows i6878 z_Row).North).e1) == (((rdD y2358.rows x6700 z_Row).South).e1) && ((((rdD y2358.rows i6878 z_Row).North).e2) == (((rdD y2358.rows x6700 z_Row).South).e2) && ((((rdD y2358.rows i6878 z_Row).North).e3) == (((rdD y2358.rows x6700 z_Row).South).e3) && ((((rdD y2358.rows i6878 z_Row).North).e4) == (((rdD y2358.rows x6700 z_Row).South).e4) && ((((rdD y2358.rows i6878 z_Row).North).e5) == (((rdD y2358.rows x6700 z_Row).South).e5) && ((((rdD y2358.rows i6878 z_Row).North).e6) == (((rdD y2358.rows x6700 z_Row).South).e6) && ((((rdD y2358.rows i6878 z_Row).North).e7) == (((rdD y2358.rows x6700 z_Row).South).e7)))))))))) else none)) else (some false)).bind fun b6874 => some b6874) else ((fill_job_allows k (Job.mk y2358.rows y2358.width y2358.height p3) (rdD y2358.rows x6700 z_Row) x6230).bind fun t6908 => (if t6908 = true then (optM o6699 (some true) (fun i6920 => if 0 ≤ i6920 ∧ i6920 < (y2358.rows.length : Int) then (some ((((rdD y2358.rows i6920 z_Row).North).e0) == (((rdD y2358.rows x6700 z_Row).South).e0) && ((((rdD y2358.rows i6920 z_Row).North).e1) == (((rdD y2358.rows x6700 z_Row).South).e1) && ((((rdD y2358.rows i6920 z_Row).North).e2) == (((rdD y2358.rows x6700 z_Row).South).e2) && ((((rdD y2358.rows i6920 z_Row).North).e3) == (((rdD y2358.rows x6700 z_Row).South).e3) && ((((rdD y2358.rows i6920 z_Row).North).e4) == (((rdD y2358.rows x6700 z_Row).South).e4) && ((((rdD y2358.rows i6920 z_Row).North).e5) == (((rdD y2358.rows x6700 z_Row).South).e5) && ((((rdD y2358.rows i6920 z_Row).North).e6) == (((rdD y2358.rows x6700 z_Row).South).e6) && ((((rdD y2358.rows i6920 z_Row).North).e7) == (((rdD y2358.rows x6700 z_Row).South).e7)))))))))) else none)) else (some false)).bind fun b6916 => (if b6916 = true then (if 0 ≤ w64 (x6230 + 1) ∧ w64 (x6230 + 1) < (x4437.length : Int) then ((rdD x4437 (w64 (x6230 + 1)) none).bind fun m6929 => (some (mget ((rdD y2358.rows x6700 z_Row).North) false m6929))) else none) else (some false)).bind fun b6925 => some b6925)).bind fun x6830 => if x6830 = true then (some x6700) else (fill_First.l5 k o6699 (w64 (x6700 + 1)) p2 p3 y2358 x4437 x6230)) else none) else (some (-1))
def fill_First.l4 : Nat → (List Int) → (Option Int) → Int → Int → Edges → Job → (List (Option (List (A8_Int × Bool)))) → Option (Sum (Pattern × Int) (List Int))
  | 0, _, _, _, _, _, _, _ => none
  | k + 1, l6228, o6229, x6230, p2, p3, y2358, x4437 => if (decide (x6230 < p2)) = true then ((fill_First.l5 k o6229 0 p2 p3 y2358 x4437 x6230).bind fun x6702 => if (decide (x6702 < 0)) = true then (some (.inl ((Pattern.mk 0 0 ([] : List Int)), 6))) else (if 0 ≤ x6702 ∧ x6702 < (y2358.rows.length : Int) then (if l6228.length + ((rdD y2358.rows x6702 z_Row).Cells).length ≤ 100000000000 then (fill_First.l4 k (l6228 ++ ((rdD y2358.rows x6702 z_Row).Cells)) (some x6702) (w64 (x6230 + 1)) p2 p3 y2358 x4437) else none) else none)) else (some (.inr l6228))
def fill_First (k : Nat) (p0 : List Tile) (p1 : Int) (p2 : Int) (p3 : Edges) : Option (Pattern × Int) := (fill_begin k p0 p1 p2 p3).bind fun t2349 => optM t2349.1 (if (t2349.2 != 0) = true then (some ((Pattern.mk 0 0 ([] : List Int)), t2349.2)) else (if 0 ≤ p2 ∧ p2 ≤ 100000000000 then ((fill_First.l0 k p2).bind fun x2379 => (fill_First.l1 k p2).bind fun x2405 => some ((Pattern.mk p1 p2 ([] : List Int)), 0)) else none)) (fun y2358 => if (t2349.2 != 0) = true then (some ((Pattern.mk 0 0 ([] : List Int)), t2349.2)) else (if 0 ≤ p2 ∧ p2 ≤ 100000000000 then ((fill_First.l2 k (List.replicate p2.toNat (none : Option (List (A8_Int × Bool)))) (w64 (p2 - 1)) p2 p3 y2358).bind fun x4437 => (fill_First.l4 k ([] : List Int) none 0 p2 p3 y2358 x4437).bind fun x6234 => sumb x6234 (fun r => some r) (fun y6964 => some ((Pattern.mk p1 p2 y6964), 0))) else none))
def square_exists (k : Nat) (p0 : List Tile) (p1 : Int) : Option Bool := (fill_First k p0 p1 p1 (Edges.mk ([] : List Int) ([] : List Int) ([] : List Int) ([] : List Int))).bind fun t6968 => some (t6968.2 == 0)
def square_Exists (k : Nat) (p0 : List Tile) (p1 : Int) : Option (Bool × Int) := (square_check k p0 p1).bind fun t1443 => if (t1443 != 0) = true then (some (false, t1443)) else ((square_exists k p0 p1).bind fun t6981 => some (t6981, 0))
def decide_sides_1_y.l0 {σ : Type} : Nat → Int → σ → (List Tile) → (Int → Bool → σ → Option (σ × Bool)) → Option (Sum σ σ)
  | 0, _, _, _, _ => none
  | k + 1, x7048, s7049, f0, yf => if (decide (x7048 ≤ 8)) = true then ((square_Exists k f0 x7048).bind fun t7060 => (if (t7060.2 != 0) = true then (some (true, s7049)) else ((yf x7048 t7060.1 s7049).bind fun t7077 => some (!t7077.2, t7077.1))).bind fun x7074 => if x7074.1 = true then (some (.inl x7074.2)) else (decide_sides_1_y.l0 k (w64 (x7048 + 1)) x7074.2 f0 yf)) else (some (.inr s7049))
def decide_sides_1_y {σ : Type} (k : Nat) (f0 : List Tile) (yf : Int → Bool → σ → Option (σ × Bool)) (sY : σ) : Option σ := (decide_sides_1_y.l0 k 1 sY f0 yf).bind fun x7053 => sumb x7053 (fun r => some r) (fun y7092 => some y7092)
def torus_rings.l0 : Nat → (List Row) → Int → (List Row) → Option (List Row)
  | 0, _, _, _ => none
  | k + 1, l7260, x7262, t7146 => if (decide (x7262 < (t7146.length : Int))) = true then (if 0 ≤ x7262 ∧ x7262 < (t7146.length : Int) then ((if (((rdD t7146 x7262 z_Row).West) == ((rdD t7146 x7262 z_Row).East)) = true then (if l7260.length + 1 ≤ 100000000000 then (some (l7260 ++ [(rdD t7146 x7262 z_Row)])) else none) else (some l7260)).bind fun x7297 => torus_rings.l0 k x7297 (w64 (x7262 + 1)) t7146) else none) else (some l7260)
def torus_rings (k : Nat) (p0 : List Tile) (p1 : Int) : Option (List Row) := (rows_All k p0 p1).bind fun t7146 => (torus_rings.l0 k ([] : List Row) 0 t7146).bind fun x7267 => some x7267
def torus_back.l1 : Nat → (List (A8_Int × Bool)) → Int → (List Row) → (List (A8_Int × Bool)) → Option (List (A8_Int × Bool))
  | 0, _, _, _, _ => none
  | k + 1, l7629, x7630, p0, m7580 => if (decide (x7630 < (p0.length : Int))) = true then (if 0 ≤ x7630 ∧ x7630 < (p0.length : Int) then ((if (mget ((rdD p0 x7630 z_Row).North) false m7580) = true then (some (mput ((rdD p0 x7630 z_Row).South) true l7629)) else (some l7629)).bind fun x7650 => torus_back.l1 k x7650 (w64 (x7630 + 1)) p0 m7580) else none) else (some l7629)
def torus_back.l0 : Nat → (List (Option (List (A8_Int × Bool)))) → Int → (List Row) → Int → Option (List (Option (List (A8_Int × Bool))))
  | 0, _, _, _, _ => none
  | k + 1, l7565, x7567, p0, p2 => if (decide (x7567 < p2)) = true then (if 0 ≤ w64 ((l7565.length : Int) - 1) ∧ w64 ((l7565.length : Int) - 1) < (l7565.length : Int) then ((rdD l7565 (w64 ((l7565.length : Int) - 1)) none).bind fun m7580 => ((torus_back.l1 k ([] : List (A8_Int × Bool)) 0 p0 m7580).bind fun x7632 => if l7565.length + 1 ≤ 100000000000 then (torus_back.l0 k (l7565 ++ [some x7632]) (w64 (x7567 + 1)) p0 p2) else none)) else none) else (some l7565)
def torus_back (k : Nat) (p0 : List Row) (p1 : A8_Int) (p2 : Int) : Option (List (Option (List (A8_Int × Bool)))) := (torus_back.l0 k [some (mput p1 true ([] : List (A8_Int × Bool)))] 0 p0 p2).bind fun x7572 => some x7572
def torus_find.l2 : Nat → Int → (List Row) → ((List (A8_Int × List (Option (List (A8_Int × Bool))))) × (List (Option (List (A8_Int × Bool))))) → (List Int) → A8_Int → Int → Option ((List Int) × A8_Int)
  | 0, _, _, _, _, _, _ => none
  | k + 1, x9490, t7320, x8965, l9370, a9371, x9372 => if (decide (x9490 < (t7320.length : Int))) = true then (if 0 ≤ x9490 ∧ x9490 < (t7320.length : Int) then ((if ((((rdD t7320 x9490 z_Row).South).e0) == a9371.e0 && ((((rdD t7320 x9490 z_Row).South).e1) == a9371.e1 && ((((rdD t7320 x9490 z_Row).South).e2) == a9371.e2 && ((((rdD t7320 x9490 z_Row).South).e3) == a9371.e3 && ((((rdD t7320 x9490 z_Row).South).e4) == a9371.e4 && ((((rdD t7320 x9490 z_Row).South).e5) == a9371.e5 && ((((rdD t7320 x9490 z_Row).South).e6) == a9371.e6 && ((((rdD t7320 x9490 z_Row).South).e7) == a9371.e7)))))))) = true then (if 0 ≤ x9372 ∧ x9372 < (x8965.2.length : Int) then ((rdD x8965.2 x9372 none).bind fun m9536 => (some (mget ((rdD t7320 x9490 z_Row).North) false m9536))) else none) else (some false)).bind fun x9524 => if x9524 = true then (if l9370.length + ((rdD t7320 x9490 z_Row).Cells).length ≤ 100000000000 then (some (l9370 ++ ((rdD t7320 x9490 z_Row).Cells), ((rdD t7320 x9490 z_Row).North))) else none) else (torus_find.l2 k (w64 (x9490 + 1)) t7320 x8965 l9370 a9371 x9372)) else none) else (some (l9370, a9371))
def torus_find.l1 : Nat → (List Int) → A8_Int → Int → (List Row) → ((List (A8_Int × List (Option (List (A8_Int × Bool))))) × (List (Option (List (A8_Int × Bool))))) → Option (List Int)
  | 0, _, _, _, _, _ => none
  | k + 1, l9370, a9371, x9372, t7320, x8965 => if (decide (x9372 ≥ 0)) = true then ((torus_find.l2 k 0 t7320 x8965 l9370 a9371 x9372).bind fun x9495 => torus_find.l1 k x9495.1 x9495.2 (w64 (x9372 - 1)) t7320 x8965) else (some l9370)
def torus_find.l0 : Nat → (List (A8_Int × List (Option (List (A8_Int × Bool))))) → Int → Int → Int → (List Row) → Option (Sum (Pattern × Bool) Unit)
  | 0, _, _, _, _, _ => none
  | k + 1, l8926, x8928, p1, p2, t7320 => if (decide (x8928 < (t7320.length : Int))) = true then (if 0 ≤ x8928 ∧ x8928 < (t7320.length : Int) then ((if (!(mhas ((rdD t7320 x8928 z_Row).South) l8926)) = true then ((torus_back k t7320 ((rdD t7320 x8928 z_Row).South) (w64 (p2 - 1))).bind fun t8968 => some (mput ((rdD t7320 x8928 z_Row).South) t8968 l8926, t8968)) else (some (l8926, (mget ((rdD t7320 x8928 z_Row).South) [] l8926)))).bind fun x8965 => if 0 ≤ w64 (p2 - 1) ∧ w64 (p2 - 1) < (x8965.2.length : Int) then ((rdD x8965.2 (w64 (p2 - 1)) none).bind fun m8994 => (if (!(mget ((rdD t7320 x8928 z_Row).North) false m8994)) = true then (torus_find.l0 k x8965.1 (w64 (x8928 + 1)) p1 p2 t7320) else (if ([] : List Int).length + ((rdD t7320 x8928 z_Row).Cells).length ≤ 100000000000 then ((torus_find.l1 k (([] : List Int) ++ ((rdD t7320 x8928 z_Row).Cells)) ((rdD t7320 x8928 z_Row).North) (w64 (p2 - 2)) t7320 x8965).bind fun x9376 => some (.inl ((Pattern.mk p1 p2 x9376), true))) else none))) else none) else none) else (some (.inr ()))
def torus_find (k : Nat) (p0 : List Tile) (p1 : Int) (p2 : Int) : Option (Pattern × Bool) := (torus_rings k p0 p1).bind fun t7320 => (torus_find.l0 k ([] : List (A8_Int × List (Option (List (A8_Int × Bool))))) 0 p1 p2 t7320).bind fun x8929 => sumb x8929 (fun r => some r) (fun y9567 => some ((Pattern.mk 0 0 ([] : List Int)), false))
def torus_Least.l1 : Nat → Int → (List Tile) → Int → Int → Option (Sum (Pattern × Int) Unit)
  | 0, _, _, _, _ => none
  | k + 1, x9983, p0, p1, x9880 => if (decide (x9983 ≤ p1)) = true then ((if x9983 ≠ 0 then (if (((Int.tmod x9880 x9983) != 0) || (decide (w64 (Int.tdiv x9880 x9983) > p1))) = true then (some (.inr ())) else ((torus_find k p0 x9983 (w64 (Int.tdiv x9880 x9983))).bind fun t10017 => if t10017.2 = true then (some (.inl (t10017.1, 0))) else (some (.inr ())))) else none).bind fun x10011 => sumb x10011 (fun r => some (.inl r)) (fun y10036 => torus_Least.l1 k (w64 (x9983 + 1)) p0 p1 x9880)) else (some (.inr ()))
def torus_Least.l0 : Nat → Int → (List Tile) → Int → Option (Sum (Pattern × Int) Unit)
  | 0, _, _, _ => none
  | k + 1, x9880, p0, p1 => if (decide (x9880 ≤ w64 (p1 * p1))) = true then ((torus_Least.l1 k 1 p0 p1 x9880).bind fun x9984 => sumb x9984 (fun r => some (.inl r)) (fun y10041 => torus_Least.l0 k (w64 (x9880 + 1)) p0 p1)) else (some (.inr ()))
def torus_Least (k : Nat) (p0 : List Tile) (p1 : Int) : Option (Pattern × Int) := (tile_Valid k p0).bind fun t7113 => if (!t7113) = true then (some ((Pattern.mk 0 0 ([] : List Int)), 1)) else (if ((decide (p1 < 1)) || (decide (p1 > 6))) = true then (some ((Pattern.mk 0 0 ([] : List Int)), 2)) else ((rows_Few k p0 p1).bind fun t7128 => if (!t7128) = true then (some ((Pattern.mk 0 0 ([] : List Int)), 4)) else ((torus_Least.l0 k 1 p0 p1).bind fun x9881 => sumb x9881 (fun r => some r) (fun y10046 => some ((Pattern.mk 0 0 ([] : List Int)), 6)))))
def decide_Decide.b1 : Nat → Int → Bool → (Int × Int) → Option ((Int × Int) × Bool)
  | k, x1386, x1387, (x1374, j1389) => if j1389 = 0 then (if (!x1387) = true then (some ((x1386, 1), false)) else (some ((x1374, 0), true))) else none
def decide_Decide (k : Nat) (p0 : List Tile) : Option (Verdict × Int) := (decide_asks k p0).bind fun t1338 => if (t1338 != 0) = true then (some ((Verdict.mk false (Pattern.mk 0 0 ([] : List Int)) 0), t1338)) else ((decide_sides p0).bind fun t1353 => (decide_sides_1_y k p0 (decide_Decide.b1 k ) (0, (0 : Int))).bind fun t7094 => if (t7094.2 == 1) = true then (some ((Verdict.mk false (Pattern.mk 0 0 ([] : List Int)) t7094.1), 0)) else (if t7094.2 = 0 then ((torus_Least k p0 6).bind fun t10051 => if (t10051.2 != 0) = true then (some ((Verdict.mk false (Pattern.mk 0 0 ([] : List Int)) 0), t10051.2)) else (some ((Verdict.mk true t10051.1 0), 0))) else none))
def tile_Form (p0 : Pattern) : Option Bool := some ((((((decide (p0.Width ≥ 1)) && (decide (p0.Height ≥ 1))) && (decide (p0.Width ≤ 40000))) && (decide (p0.Height ≤ 40000))) && (decide (w64 (p0.Width * p0.Height) ≤ 40000))) && ((p0.Cells.length : Int) == (w64 (p0.Width * p0.Height))))
def tile_of_1 (p0 : Int) (f0 : List Tile) : Option Bool := some ((decide (p0 < 0)) || (decide (p0 ≥ (f0.length : Int))))
def slices_IndexFunc_int_int_with_tile_of_1.l0 : Nat → Int → (List Int) → (List Tile) → Option (Sum Int Unit)
  | 0, _, _, _ => none
  | k + 1, x10171, p0, p1_0 => if (decide (x10171 < (p0.length : Int))) = true then (if 0 ≤ x10171 ∧ x10171 < (p0.length : Int) then ((tile_of_1 (rdD p0 x10171 0) p1_0).bind fun t10180 => if t10180 = true then (some (.inl x10171)) else (slices_IndexFunc_int_int_with_tile_of_1.l0 k (w64 (x10171 + 1)) p0 p1_0)) else none) else (some (.inr ()))
def slices_IndexFunc_int_int_with_tile_of_1 (k : Nat) (p0 : List Int) (p1_0 : List Tile) : Option Int := (slices_IndexFunc_int_int_with_tile_of_1.l0 k 0 p0 p1_0).bind fun x10172 => sumb x10172 (fun r => some r) (fun y10189 => some (-1))
def slices_ContainsFunc_int_int_with_tile_of_1 (k : Nat) (p0 : List Int) (p1_0 : List Tile) : Option Bool := (slices_IndexFunc_int_int_with_tile_of_1 k p0 p1_0).bind fun t10191 => some (decide (t10191 ≥ 0))
def tile_of (k : Nat) (p0 : List Tile) (p1 : Pattern) : Option Bool := (tile_Valid k p0).bind fun t10114 => (if t10114 = true then ((tile_Form p1).bind fun t10142 => some t10142) else (some false)).bind fun x10139 => (if x10139 = true then ((slices_ContainsFunc_int_int_with_tile_of_1 k p1.Cells p0).bind fun t10205 => some (!t10205)) else (some false)).bind fun x10202 => some x10202
def tile_joins.l0 : Nat → Int → (List Tile) → Pattern → Bool → Option (Sum Bool Unit)
  | 0, _, _, _, _ => none
  | k + 1, x10391, p0, p1, p2 => if (decide (x10391 < (p1.Cells.length : Int))) = true then (if 0 ≤ x10391 ∧ x10391 < (p1.Cells.length : Int) then (if p1.Width ≠ 0 then ((if ((decide (w64 ((Int.tmod x10391 p1.Width) + 1) < p1.Width)) || p2) = true then (if 0 ≤ (rdD p1.Cells x10391 0) ∧ (rdD p1.Cells x10391 0) < (p0.length : Int) then (if 0 ≤ w64 ((w64 ((w64 (Int.tdiv x10391 p1.Width)) * p1.Width)) + (Int.tmod (w64 ((Int.tmod x10391 p1.Width) + 1)) p1.Width)) ∧ w64 ((w64 ((w64 (Int.tdiv x10391 p1.Width)) * p1.Width)) + (Int.tmod (w64 ((Int.tmod x10391 p1.Width) + 1)) p1.Width)) < (p1.Cells.length : Int) then (if 0 ≤ (rdD p1.Cells (w64 ((w64 ((w64 (Int.tdiv x10391 p1.Width)) * p1.Width)) + (Int.tmod (w64 ((Int.tmod x10391 p1.Width) + 1)) p1.Width))) 0) ∧ (rdD p1.Cells (w64 ((w64 ((w64 (Int.tdiv x10391 p1.Width)) * p1.Width)) + (Int.tmod (w64 ((Int.tmod x10391 p1.Width) + 1)) p1.Width))) 0) < (p0.length : Int) then (if (((rdD p0 (rdD p1.Cells x10391 0) z_Tile).E) != ((rdD p0 (rdD p1.Cells (w64 ((w64 ((w64 (Int.tdiv x10391 p1.Width)) * p1.Width)) + (Int.tmod (w64 ((Int.tmod x10391 p1.Width) + 1)) p1.Width))) 0) z_Tile).W)) = true then (some (.inl false)) else (some (.inr ()))) else none) else none) else none) else (some (.inr ()))).bind fun x10420 => sumb x10420 (fun r => some (.inl r)) (fun y10438 => (if ((decide (w64 ((w64 (Int.tdiv x10391 p1.Width)) + 1) < p1.Height)) || p2) = true then (if 0 ≤ (rdD p1.Cells x10391 0) ∧ (rdD p1.Cells x10391 0) < (p0.length : Int) then (if p1.Height ≠ 0 then (if 0 ≤ w64 ((w64 ((Int.tmod (w64 ((w64 (Int.tdiv x10391 p1.Width)) + 1)) p1.Height) * p1.Width)) + (Int.tmod x10391 p1.Width)) ∧ w64 ((w64 ((Int.tmod (w64 ((w64 (Int.tdiv x10391 p1.Width)) + 1)) p1.Height) * p1.Width)) + (Int.tmod x10391 p1.Width)) < (p1.Cells.length : Int) then (if 0 ≤ (rdD p1.Cells (w64 ((w64 ((Int.tmod (w64 ((w64 (Int.tdiv x10391 p1.Width)) + 1)) p1.Height) * p1.Width)) + (Int.tmod x10391 p1.Width))) 0) ∧ (rdD p1.Cells (w64 ((w64 ((Int.tmod (w64 ((w64 (Int.tdiv x10391 p1.Width)) + 1)) p1.Height) * p1.Width)) + (Int.tmod x10391 p1.Width))) 0) < (p0.length : Int) then (if (((rdD p0 (rdD p1.Cells x10391 0) z_Tile).N) != ((rdD p0 (rdD p1.Cells (w64 ((w64 ((Int.tmod (w64 ((w64 (Int.tdiv x10391 p1.Width)) + 1)) p1.Height) * p1.Width)) + (Int.tmod x10391 p1.Width))) 0) z_Tile).S)) = true then (some (.inl false)) else (some (.inr ()))) else none) else none) else none) else none) else (some (.inr ()))).bind fun x10458 => sumb x10458 (fun r => some (.inl r)) (fun y10479 => tile_joins.l0 k (w64 (x10391 + 1)) p0 p1 p2))) else none) else none) else (some (.inr ()))
def tile_joins (k : Nat) (p0 : List Tile) (p1 : Pattern) (p2 : Bool) : Option Bool := (tile_joins.l0 k 0 p0 p1 p2).bind fun x10392 => sumb x10392 (fun r => some r) (fun y10484 => some true)
def tile_Repeats (k : Nat) (p0 : List Tile) (p1 : Pattern) : Option Bool := (tile_of k p0 p1).bind fun t10215 => (if t10215 = true then ((tile_joins k p0 p1 true).bind fun t10495 => some t10495) else (some false)).bind fun x10492 => some x10492
def decide_Check (k : Nat) (p0 : List Tile) (p1 : Verdict) : Option (Bool × Int) := (tile_Valid k p0).bind fun t10095 => if (!t10095) = true then (some (false, 1)) else (if p1.Fills = true then ((if (p1.Side == 0) = true then ((tile_Repeats k p0 p1.Torus).bind fun t10514 => some t10514) else (some false)).bind fun x10511 => some (x10511, 0)) else (if (((p1.Torus.Width != 0) || (p1.Torus.Height != 0)) || (decide ((p1.Torus.Cells.length : Int) > 0))) = true then (some (false, 0)) else ((square_Exists k p0 p1.Side).bind fun t10529 => some ((t10529.2 == 0) && (!t10529.1), 0))))
def top_of.l1 : Nat → Int → (List Tile) → Int → Option (Sum Bool Unit)
  | 0, _, _, _ => none
  | k + 1, x10721, p0, x10676 => if (decide (x10721 < x10676)) = true then (if 0 ≤ x10721 ∧ x10721 < (p0.length : Int) then (if (((rdD p0 x10721 z_Tile).N) == ((rdD p0 x10676 z_Tile).N) && (((rdD p0 x10721 z_Tile).E) == ((rdD p0 x10676 z_Tile).E) && (((rdD p0 x10721 z_Tile).S) == ((rdD p0 x10676 z_Tile).S) && (((rdD p0 x10721 z_Tile).W) == ((rdD p0 x10676 z_Tile).W))))) = true then (some (.inl false)) else (top_of.l1 k (w64 (x10721 + 1)) p0 x10676)) else none) else (some (.inr ()))
def top_of.l0 : Nat → Int → (List Tile) → Option (Sum Bool Unit)
  | 0, _, _ => none
  | k + 1, x10676, p0 => if (decide (x10676 < (p0.length : Int))) = true then (if 0 ≤ x10676 ∧ x10676 < (p0.length : Int) then (if ((((((((decide ((rdD p0 x10676 z_Tile).N < 0)) || (decide ((rdD p0 x10676 z_Tile).E < 0))) || (decide ((rdD p0 x10676 z_Tile).S < 0))) || (decide ((rdD p0 x10676 z_Tile).W < 0))) || (decide ((rdD p0 x10676 z_Tile).N ≥ 1000))) || (decide ((rdD p0 x10676 z_Tile).E ≥ 1000))) || (decide ((rdD p0 x10676 z_Tile).S ≥ 1000))) || (decide ((rdD p0 x10676 z_Tile).W ≥ 1000))) = true then (some (.inl false)) else ((top_of.l1 k 0 p0 x10676).bind fun x10722 => sumb x10722 (fun r => some (.inl r)) (fun y10738 => top_of.l0 k (w64 (x10676 + 1)) p0))) else none) else (some (.inr ()))
def top_of.l2 : Nat → Int → (List Tile) → Pattern → Option (Sum Bool Unit)
  | 0, _, _, _ => none
  | k + 1, x10756, p0, p1 => if (decide (x10756 < (p1.Cells.length : Int))) = true then (if 0 ≤ x10756 ∧ x10756 < (p1.Cells.length : Int) then (if ((decide ((rdD p1.Cells x10756 0) < 0)) || (decide ((rdD p1.Cells x10756 0) ≥ (p0.length : Int)))) = true then (some (.inl false)) else (top_of.l2 k (w64 (x10756 + 1)) p0 p1)) else none) else (some (.inr ()))
def top_of.l4 : Nat → Int → (List Tile) → Pattern → Bool → Int → Option (Sum Bool Unit)
  | 0, _, _, _, _, _ => none
  | k + 1, x11843, p0, p1, p2, x11576 => if (decide (x11843 < p1.Width)) = true then (if 0 ≤ w64 ((w64 (x11576 * p1.Width)) + x11843) ∧ w64 ((w64 (x11576 * p1.Width)) + x11843) < (p1.Cells.length : Int) then (if 0 ≤ (rdD p1.Cells (w64 ((w64 (x11576 * p1.Width)) + x11843)) 0) ∧ (rdD p1.Cells (w64 ((w64 (x11576 * p1.Width)) + x11843)) 0) < (p0.length : Int) then ((if p2 = true then (if p1.Width ≠ 0 then (if 0 ≤ w64 ((w64 (x11576 * p1.Width)) + (Int.tmod (w64 (x11843 + 1)) p1.Width)) ∧ w64 ((w64 (x11576 * p1.Width)) + (Int.tmod (w64 (x11843 + 1)) p1.Width)) < (p1.Cells.length : Int) then (if 0 ≤ (rdD p1.Cells (w64 ((w64 (x11576 * p1.Width)) + (Int.tmod (w64 (x11843 + 1)) p1.Width))) 0) ∧ (rdD p1.Cells (w64 ((w64 (x11576 * p1.Width)) + (Int.tmod (w64 (x11843 + 1)) p1.Width))) 0) < (p0.length : Int) then (some (((rdD p0 (rdD p1.Cells (w64 ((w64 (x11576 * p1.Width)) + x11843)) 0) z_Tile).E) != ((rdD p0 (rdD p1.Cells (w64 ((w64 (x11576 * p1.Width)) + (Int.tmod (w64 (x11843 + 1)) p1.Width))) 0) z_Tile).W))) else none) else none) else none) else (if (decide (w64 (x11843 + 1) < p1.Width)) = true then (if p1.Width ≠ 0 then (if 0 ≤ w64 ((w64 (x11576 * p1.Width)) + (Int.tmod (w64 (x11843 + 1)) p1.Width)) ∧ w64 ((w64 (x11576 * p1.Width)) + (Int.tmod (w64 (x11843 + 1)) p1.Width)) < (p1.Cells.length : Int) then (if 0 ≤ (rdD p1.Cells (w64 ((w64 (x11576 * p1.Width)) + (Int.tmod (w64 (x11843 + 1)) p1.Width))) 0) ∧ (rdD p1.Cells (w64 ((w64 (x11576 * p1.Width)) + (Int.tmod (w64 (x11843 + 1)) p1.Width))) 0) < (p0.length : Int) then (some (((rdD p0 (rdD p1.Cells (w64 ((w64 (x11576 * p1.Width)) + x11843)) 0) z_Tile).E) != ((rdD p0 (rdD p1.Cells (w64 ((w64 (x11576 * p1.Width)) + (Int.tmod (w64 (x11843 + 1)) p1.Width))) 0) z_Tile).W))) else none) else none) else none) else (some false))).bind fun x11886 => if x11886 = true then (some (.inl false)) else ((if p2 = true then (if p1.Height ≠ 0 then (if 0 ≤ w64 ((w64 ((Int.tmod (w64 (x11576 + 1)) p1.Height) * p1.Width)) + x11843) ∧ w64 ((w64 ((Int.tmod (w64 (x11576 + 1)) p1.Height) * p1.Width)) + x11843) < (p1.Cells.length : Int) then (if 0 ≤ (rdD p1.Cells (w64 ((w64 ((Int.tmod (w64 (x11576 + 1)) p1.Height) * p1.Width)) + x11843)) 0) ∧ (rdD p1.Cells (w64 ((w64 ((Int.tmod (w64 (x11576 + 1)) p1.Height) * p1.Width)) + x11843)) 0) < (p0.length : Int) then (some (((rdD p0 (rdD p1.Cells (w64 ((w64 (x11576 * p1.Width)) + x11843)) 0) z_Tile).N) != ((rdD p0 (rdD p1.Cells (w64 ((w64 ((Int.tmod (w64 (x11576 + 1)) p1.Height) * p1.Width)) + x11843)) 0) z_Tile).S))) else none) else none) else none) else (if (decide (w64 (x11576 + 1) < p1.Height)) = true then (if p1.Height ≠ 0 then (if 0 ≤ w64 ((w64 ((Int.tmod (w64 (x11576 + 1)) p1.Height) * p1.Width)) + x11843) ∧ w64 ((w64 ((Int.tmod (w64 (x11576 + 1)) p1.Height) * p1.Width)) + x11843) < (p1.Cells.length : Int) then (if 0 ≤ (rdD p1.Cells (w64 ((w64 ((Int.tmod (w64 (x11576 + 1)) p1.Height) * p1.Width)) + x11843)) 0) ∧ (rdD p1.Cells (w64 ((w64 ((Int.tmod (w64 (x11576 + 1)) p1.Height) * p1.Width)) + x11843)) 0) < (p0.length : Int) then (some (((rdD p0 (rdD p1.Cells (w64 ((w64 (x11576 * p1.Width)) + x11843)) 0) z_Tile).N) != ((rdD p0 (rdD p1.Cells (w64 ((w64 ((Int.tmod (w64 (x11576 + 1)) p1.Height) * p1.Width)) + x11843)) 0) z_Tile).S))) else none) else none) else none) else (some false))).bind fun x11946 => if x11946 = true then (some (.inl false)) else (top_of.l4 k (w64 (x11843 + 1)) p0 p1 p2 x11576))) else none) else none) else (some (.inr ()))
def top_of.l3 : Nat → Int → (List Tile) → Pattern → Bool → Option (Sum Bool Unit)
  | 0, _, _, _, _ => none
  | k + 1, x11576, p0, p1, p2 => if (decide (x11576 < p1.Height)) = true then ((top_of.l4 k 0 p0 p1 p2 x11576).bind fun x11844 => sumb x11844 (fun r => some (.inl r)) (fun y11982 => top_of.l3 k (w64 (x11576 + 1)) p0 p1 p2)) else (some (.inr ()))
def top_of (k : Nat) (p0 : List Tile) (p1 : Pattern) (p2 : Bool) : Option Bool := if (((((((decide ((p0.length : Int) > 1000)) || (decide (p1.Width < 1))) || (decide (p1.Height < 1))) || (decide (p1.Width > 40000))) || (decide (p1.Height > 40000))) || (decide (w64 (p1.Width * p1.Height) > 40000))) || ((p1.Cells.length : Int) != (w64 (p1.Width * p1.Height)))) = true then (some false) else ((top_of.l0 k 0 p0).bind fun x10677 => sumb x10677 (fun r => some r) (fun y10743 => (top_of.l2 k 0 p0 p1).bind fun x10757 => sumb x10757 (fun r => some r) (fun y10771 => (top_of.l3 k 0 p0 p1 p2).bind fun x11577 => sumb x11577 (fun r => some r) (fun y11987 => some true))))
def top_chess  : Option (List Tile) := some [(Tile.mk 0 1 1 0), (Tile.mk 1 0 0 1)]
def tile_Repeat.l1 : Nat → (List Int) → Int → Pattern → Int → Int → Option (List Int)
  | 0, _, _, _, _, _ => none
  | k + 1, l12471, x12472, p0, p1, x12382 => if (decide (x12472 < p1)) = true then (if p0.Height ≠ 0 then (if p0.Width ≠ 0 then (if 0 ≤ w64 ((w64 ((Int.tmod x12382 p0.Height) * p0.Width)) + (Int.tmod x12472 p0.Width)) ∧ w64 ((w64 ((Int.tmod x12382 p0.Height) * p0.Width)) + (Int.tmod x12472 p0.Width)) < (p0.Cells.length : Int) then (if l12471.length + [(rdD p0.Cells (w64 ((w64 ((Int.tmod x12382 p0.Height) * p0.Width)) + (Int.tmod x12472 p0.Width))) 0)].length ≤ 100000000000 then (tile_Repeat.l1 k (l12471 ++ [(rdD p0.Cells (w64 ((w64 ((Int.tmod x12382 p0.Height) * p0.Width)) + (Int.tmod x12472 p0.Width))) 0)]) (w64 (x12472 + 1)) p0 p1 x12382) else none) else none) else none) else none) else (some l12471)
def tile_Repeat.l0 : Nat → (List Int) → Int → Pattern → Int → Int → Option (List Int)
  | 0, _, _, _, _, _ => none
  | k + 1, l12381, x12382, p0, p1, p2 => if (decide (x12382 < p2)) = true then ((tile_Repeat.l1 k l12381 0 p0 p1 x12382).bind fun x12476 => tile_Repeat.l0 k x12476 (w64 (x12382 + 1)) p0 p1 p2) else (some l12381)
def tile_Repeat (k : Nat) (p0 : Pattern) (p1 : Int) (p2 : Int) : Option (Pattern × Int) := (tile_Form p0).bind fun t12080 => if (!t12080) = true then (some ((Pattern.mk 0 0 ([] : List Int)), 1)) else (if ((decide (p1 < 1)) || (decide (p2 < 1))) = true then (some ((Pattern.mk 0 0 ([] : List Int)), 2)) else (if (((decide (p1 > 40000)) || (decide (p2 > 40000))) || (decide (w64 (p1 * p2) > 40000))) = true then (some ((Pattern.mk 0 0 ([] : List Int)), 4)) else ((tile_Repeat.l0 k ([] : List Int) 0 p0 p1 p2).bind fun x12386 => some ((Pattern.mk p1 p2 x12386), 0))))
def top_sameInts.l0 : Nat → Int → (List Int) → (List Int) → Option (Sum Bool Unit)
  | 0, _, _, _ => none
  | k + 1, x12625, p0, p1 => if (decide (x12625 < (p0.length : Int))) = true then (if 0 ≤ x12625 ∧ x12625 < (p0.length : Int) then (if 0 ≤ x12625 ∧ x12625 < (p1.length : Int) then (if ((rdD p0 x12625 0) != (rdD p1 x12625 0)) = true then (some (.inl false)) else (top_sameInts.l0 k (w64 (x12625 + 1)) p0 p1)) else none) else none) else (some (.inr ()))
def top_sameInts (k : Nat) (p0 : List Int) (p1 : List Int) : Option Bool := if ((p0.length : Int) != (p1.length : Int)) = true then (some false) else ((top_sameInts.l0 k 0 p0 p1).bind fun x12626 => sumb x12626 (fun r => some r) (fun y12645 => some true))
def tile_Fits (k : Nat) (p0 : List Tile) (p1 : Pattern) : Option Bool := (tile_of k p0 p1).bind fun t12682 => (if t12682 = true then ((tile_joins k p0 p1 false).bind fun t12696 => some t12696) else (some false)).bind fun x12693 => some x12693
def top_lives (k : Nat)  : Option Bool := (tile_Repeat k (Pattern.mk 2 2 [0, 1, 1, 0]) 3 1).bind fun t12528 => ((top_chess).bind fun t12977 => (tile_Repeats k t12977 (Pattern.mk 2 2 [0, 1, 1, 0])).bind fun t12984 => (if t12984 = true then ((top_chess).bind fun t13010 => (tile_Repeats k t13010 (Pattern.mk 1 1 [0])).bind fun t13022 => some (!t13022)) else (some false)).bind fun x13007 => (if (x13007 && (t12528.2 == 0)) = true then ((top_sameInts k t12528.1.Cells [0, 1, 0]).bind fun t13053 => some t13053) else (some false)).bind fun x13045 => (if x13045 = true then ((top_chess).bind fun t13079 => (tile_Fits k t13079 t12528.1).bind fun t13086 => some t13086) else (some false)).bind fun x13076 => some x13076).bind fun x12973 => some x12973
def top_decides (k : Nat)  : Option Bool := (top_chess).bind fun t12013 => (decide_Decide k t12013).bind fun t12020 => (decide_Decide k [(Tile.mk 0 0 1 0)]).bind fun t12038 => (if ((((((t12020.2 == 0) && (t12038.2 == 0)) && t12020.1.Fills) && (t12020.1.Torus.Width == 2)) && (!t12038.1.Fills)) && (t12038.1.Side == 2)) = true then ((top_lives k).bind fun t13228 => some t13228) else (some false)).bind fun x13225 => some x13225
def top_TopDecided (k : Nat) (p0 : A3_Tile) (p1 : Int) (p2 : Pattern) : Option Bool := (top_small k p0 p1).bind fun t1128 => (decide_Decide k t1128).bind fun t10078 => (decide_Check k t1128 t10078.1).bind fun t10536 => if (((t10078.2 != 0) || (t10536.2 != 0)) || (!t10536.1)) = true then (some false) else (if t10078.1.Fills = true then ((if (t10078.1.Side == 0) = true then ((top_of k t1128 t10078.1.Torus true).bind fun t11998 => some t11998) else (some false)).bind fun x11995 => (if x11995 = true then ((top_decides k).bind fun t13247 => some t13247) else (some false)).bind fun x13244 => some x13244) else (if ((decide (t10078.1.Side < 1)) || (decide (t10078.1.Side > 8))) = true then (some false) else (if (decide ((p2.Cells.length : Int) > 5000)) = true then ((top_decides k).bind fun t13261 => some t13261) else ((top_of k t1128 p2 true).bind fun t13266 => (if (!t13266) = true then ((if ((decide (p2.Width < t10078.1.Side)) || (decide (p2.Height < t10078.1.Side))) = true then (some true) else ((top_of k t1128 p2 false).bind fun t13307 => some (!t13307))).bind fun x13304 => some x13304) else (some false)).bind fun x13293 => (if x13293 = true then ((top_decides k).bind fun t13331 => some t13331) else (some false)).bind fun x13328 => some x13328))))
end Gp
namespace Gp
open Go Gw Go.Proofs Go.RowKit
def ok_Tile (a : Tile) : Prop := (ok64 a.N) ∧ (ok64 a.E) ∧ (ok64 a.S) ∧ (ok64 a.W)
theorem opn_Tile_24 {H : Type} {enc : TypeId × Value → H} {w : World} {base : Nat} {spare : Nat → Bool} {held : Bool} {fuel : Nat} {cs : List Value} {x : DataW H × List MemPlace} (h : DataW.trod enc Try.prog w base spare held fuel 24 cs = some x) : ∃ (a : Tile), cs = [.int .i64 a.N, .int .i64 a.E, .int .i64 a.S, .int .i64 a.W] ∧ ok_Tile a := by
  obtain ⟨hl, n, hf⟩ := opn_fields Try.underlying24 h
  have hl0 : cs.length = 4 := hl.trans (by kernel_rfl)
  obtain ⟨q0, r0, rfl, hl1⟩ := cons_of hl0
  obtain ⟨q1, r1, rfl, hl2⟩ := cons_of hl1
  obtain ⟨q2, r2, rfl, hl3⟩ := cons_of hl2
  obtain ⟨q3, r3, rfl, hl4⟩ := cons_of hl3
  obtain rfl := List.eq_nil_of_length_eq_zero hl4
  obtain ⟨y0, h0⟩ := hf 0 _ 1 rfl (by kernel_rfl)
  have h0 : DataW.trod enc Try.prog w base spare held n 3 [q0] = some y0 := h0
  obtain ⟨a0, e0, w0⟩ := opn_int Try.underlying3 h0
  injection e0 with f0 e0
  subst f0
  obtain ⟨y1, h1⟩ := hf 1 _ 1 rfl (by kernel_rfl)
  have h1 : DataW.trod enc Try.prog w base spare held n 3 [q1] = some y1 := h1
  obtain ⟨a1, e1, w1⟩ := opn_int Try.underlying3 h1
  injection e1 with f1 e1
  subst f1
  obtain ⟨y2, h2⟩ := hf 2 _ 1 rfl (by kernel_rfl)
  have h2 : DataW.trod enc Try.prog w base spare held n 3 [q2] = some y2 := h2
  obtain ⟨a2, e2, w2⟩ := opn_int Try.underlying3 h2
  injection e2 with f2 e2
  subst f2
  obtain ⟨y3, h3⟩ := hf 3 _ 1 rfl (by kernel_rfl)
  have h3 : DataW.trod enc Try.prog w base spare held n 3 [q3] = some y3 := h3
  obtain ⟨a3, e3, w3⟩ := opn_int Try.underlying3 h3
  injection e3 with f3 e3
  subst f3
  exact ⟨⟨a0, a1, a2, a3⟩, rfl, ⟨wf64 w0, wf64 w1, wf64 w2, wf64 w3⟩⟩
theorem opens_Tile_24 : Opens Try.prog 24 enc_Tile ok_Tile := ⟨by kernel_rfl, by decide, fun h => opn_Tile_24 h⟩
def ok_A3_Tile (a : A3_Tile) : Prop := (ok_Tile a.e0) ∧ (ok_Tile a.e1) ∧ (ok_Tile a.e2)
theorem opn_A3_Tile_59 {H : Type} {enc : TypeId × Value → H} {w : World} {base : Nat} {spare : Nat → Bool} {held : Bool} {fuel : Nat} {cs : List Value} {x : DataW H × List MemPlace} (h : DataW.trod enc Try.prog w base spare held fuel 59 cs = some x) : ∃ (a : A3_Tile), cs = [.int .i64 a.e0.N, .int .i64 a.e0.E, .int .i64 a.e0.S, .int .i64 a.e0.W, .int .i64 a.e1.N, .int .i64 a.e1.E, .int .i64 a.e1.S, .int .i64 a.e1.W, .int .i64 a.e2.N, .int .i64 a.e2.E, .int .i64 a.e2.S, .int .i64 a.e2.W] ∧ ok_A3_Tile a := by
  obtain ⟨hl, n, hf⟩ := opn_items Try.underlying59 h
  have hl0 : cs.length = 12 := hl.trans (by kernel_rfl)
  obtain ⟨q0, r0, rfl, hl1⟩ := cons_of hl0
  obtain ⟨q1, r1, rfl, hl2⟩ := cons_of hl1
  obtain ⟨q2, r2, rfl, hl3⟩ := cons_of hl2
  obtain ⟨q3, r3, rfl, hl4⟩ := cons_of hl3
  obtain ⟨q4, r4, rfl, hl5⟩ := cons_of hl4
  obtain ⟨q5, r5, rfl, hl6⟩ := cons_of hl5
  obtain ⟨q6, r6, rfl, hl7⟩ := cons_of hl6
  obtain ⟨q7, r7, rfl, hl8⟩ := cons_of hl7
  obtain ⟨q8, r8, rfl, hl9⟩ := cons_of hl8
  obtain ⟨q9, r9, rfl, hl10⟩ := cons_of hl9
  obtain ⟨q10, r10, rfl, hl11⟩ := cons_of hl10
  obtain ⟨q11, r11, rfl, hl12⟩ := cons_of hl11
  obtain rfl := List.eq_nil_of_length_eq_zero hl12
  obtain ⟨y0, h0⟩ := hf 0 4 (by decide) (by kernel_rfl)
  have h0 : DataW.trod enc Try.prog w base spare held n 24 [q0, q1, q2, q3] = some y0 := h0
  obtain ⟨a0, e0, w0⟩ := opn_Tile_24 h0
  injection e0 with f0 e0
  subst f0
  injection e0 with f1 e0
  subst f1
  injection e0 with f2 e0
  subst f2
  injection e0 with f3 e0
  subst f3
  obtain ⟨y1, h1⟩ := hf 1 4 (by decide) (by kernel_rfl)
  have h1 : DataW.trod enc Try.prog w base spare held n 24 [q4, q5, q6, q7] = some y1 := h1
  obtain ⟨a1, e1, w1⟩ := opn_Tile_24 h1
  injection e1 with f4 e1
  subst f4
  injection e1 with f5 e1
  subst f5
  injection e1 with f6 e1
  subst f6
  injection e1 with f7 e1
  subst f7
  obtain ⟨y2, h2⟩ := hf 2 4 (by decide) (by kernel_rfl)
  have h2 : DataW.trod enc Try.prog w base spare held n 24 [q8, q9, q10, q11] = some y2 := h2
  obtain ⟨a2, e2, w2⟩ := opn_Tile_24 h2
  injection e2 with f8 e2
  subst f8
  injection e2 with f9 e2
  subst f9
  injection e2 with f10 e2
  subst f10
  injection e2 with f11 e2
  subst f11
  exact ⟨⟨a0, a1, a2⟩, rfl, ⟨w0, w1, w2⟩⟩
theorem opens_A3_Tile_59 : Opens Try.prog 59 enc_A3_Tile ok_A3_Tile := ⟨by kernel_rfl, by decide, fun h => opn_A3_Tile_59 h⟩
def ok_Pattern (a : Pattern) : Prop := (ok64 a.Width) ∧ (ok64 a.Height) ∧ ((∀ x ∈ a.Cells, ok64 x) ∧ a.Cells.length ≤ maxLen)
theorem opn_Pattern_38 {H : Type} {enc : TypeId × Value → H} {w : World} {base : Nat} {spare : Nat → Bool} {held : Bool} {fuel : Nat} {cs : List Value} {x : DataW H × List MemPlace} (h : DataW.trod enc Try.prog w base spare held fuel 38 cs = some x) : ∃ (a : Pattern) (A0 : Option Addr) (c0 : Nat), cs = [.int .i64 a.Width, .int .i64 a.Height, .slice A0 a.Cells.length c0] ∧ RO NoS w (rowR encInt A0 c0 a.Cells) ∧ ok_Pattern a := by
  obtain ⟨hl, n, hf⟩ := opn_fields Try.underlying38 h
  have hl0 : cs.length = 3 := hl.trans (by kernel_rfl)
  obtain ⟨q0, r0, rfl, hl1⟩ := cons_of hl0
  obtain ⟨q1, r1, rfl, hl2⟩ := cons_of hl1
  obtain ⟨q2, r2, rfl, hl3⟩ := cons_of hl2
  obtain rfl := List.eq_nil_of_length_eq_zero hl3
  obtain ⟨y0, h0⟩ := hf 0 _ 1 rfl (by kernel_rfl)
  have h0 : DataW.trod enc Try.prog w base spare held n 3 [q0] = some y0 := h0
  obtain ⟨a0, e0, w0⟩ := opn_int Try.underlying3 h0
  injection e0 with f0 e0
  subst f0
  obtain ⟨y1, h1⟩ := hf 1 _ 1 rfl (by kernel_rfl)
  have h1 : DataW.trod enc Try.prog w base spare held n 3 [q1] = some y1 := h1
  obtain ⟨a1, e1, w1⟩ := opn_int Try.underlying3 h1
  injection e1 with f1 e1
  subst f1
  obtain ⟨y2, h2⟩ := hf 2 _ 1 rfl (by kernel_rfl)
  have h2 : DataW.trod enc Try.prog w base spare held n 36 [q2] = some y2 := h2
  obtain ⟨A2_, c2_, a2, e2, o2, w2, m2⟩ := opn_row Try.underlying36 (opens_int Try.underlying3 (by kernel_rfl)) h2
  injection e2 with f2 e2
  subst f2
  exact ⟨⟨a0, a1, a2⟩, A2_, c2_, rfl, o2, ⟨wf64 w0, wf64 w1, ⟨w2, m2⟩⟩⟩
end Gp
