/- The functions that the law reaches, as plain functions; how what comes in is opened. -/
import Derived.Test.YtjfmjfheeijfiaaDoorGs
set_option linter.unusedVariables false
set_option linter.unusedSimpArgs false
set_option maxHeartbeats 4000000
namespace Gp
open Go Gw
abbrev iv (n : Int) : Value := .int .i64 n
abbrev pt (g : Nat) : Value := .pointer (some ⟨g, 0, none⟩)
structure Pattern where
  Width : Int
  Height : Int
  Cells : List Int
  deriving DecidableEq
def z_Pattern : Pattern := ⟨0, 0, []⟩
def encN_Pattern : Enc (HF × Pattern) := ⟨3, fun x => [(.int .i64 x.2.Width), (.int .i64 x.2.Height), (.slice (x.1 0).1 x.2.Cells.length (x.1 0).2)], fun _ => rfl, fun x u h => by simp at h; rcases h with rfl | rfl | rfl <;> rfl⟩
def subN_Pattern (h : HF) (x : Pattern) : Own := rowR encInt (h 0).1 (h 0).2 x.Cells
structure Tile where
  N : Int
  E : Int
  S : Int
  W : Int
  deriving DecidableEq
def z_Tile : Tile := ⟨0, 0, 0, 0⟩
def ints_Tile (x : Tile) : List Int := [x.N, x.E, x.S, x.W]
def enc_Tile : Enc Tile := ⟨4, fun x => [(.int .i64 x.N), (.int .i64 x.E), (.int .i64 x.S), (.int .i64 x.W)], fun _ => rfl, fun x u h => by simp at h; rcases h with rfl | rfl | rfl | rfl <;> rfl⟩
structure Edges where
  North : List Int
  East : List Int
  South : List Int
  West : List Int
  deriving DecidableEq
def z_Edges : Edges := ⟨[], [], [], []⟩
structure A8_Int where
  e0 : Int
  e1 : Int
  e2 : Int
  e3 : Int
  e4 : Int
  e5 : Int
  e6 : Int
  e7 : Int
  deriving DecidableEq
def z_A8_Int : A8_Int := ⟨0, 0, 0, 0, 0, 0, 0, 0⟩
def A8_Int.get (a : A8_Int) (i : Int) : Int := if i = 0 then a.e0 else if i = 1 then a.e1 else if i = 2 then a.e2 else if i = 3 then a.e3 else if i = 4 then a.e4 else if i = 5 then a.e5 else if i = 6 then a.e6 else a.e7
def A8_Int.set (a : A8_Int) (i v : Int) : A8_Int := ⟨if i = 0 then v else a.e0, if i = 1 then v else a.e1, if i = 2 then v else a.e2, if i = 3 then v else a.e3, if i = 4 then v else a.e4, if i = 5 then v else a.e5, if i = 6 then v else a.e6, if i = 7 then v else a.e7⟩
def ints_A8_Int (x : A8_Int) : List Int := [x.e0, x.e1, x.e2, x.e3, x.e4, x.e5, x.e6, x.e7]
def enc_A8_Int : Enc A8_Int := ⟨8, fun x => [(.int .i64 x.e0), (.int .i64 x.e1), (.int .i64 x.e2), (.int .i64 x.e3), (.int .i64 x.e4), (.int .i64 x.e5), (.int .i64 x.e6), (.int .i64 x.e7)], fun _ => rfl, fun x u h => by simp at h; rcases h with rfl | rfl | rfl | rfl | rfl | rfl | rfl | rfl <;> rfl⟩
structure Row where
  Cells : List Int
  South : A8_Int
  North : A8_Int
  West : Int
  East : Int
  deriving DecidableEq
def z_Row : Row := ⟨[], z_A8_Int, z_A8_Int, 0, 0⟩
def encN_Row : Enc (HF × Row) := ⟨19, fun x => [(.slice (x.1 0).1 x.2.Cells.length (x.1 0).2), (.int .i64 x.2.South.e0), (.int .i64 x.2.South.e1), (.int .i64 x.2.South.e2), (.int .i64 x.2.South.e3), (.int .i64 x.2.South.e4), (.int .i64 x.2.South.e5), (.int .i64 x.2.South.e6), (.int .i64 x.2.South.e7), (.int .i64 x.2.North.e0), (.int .i64 x.2.North.e1), (.int .i64 x.2.North.e2), (.int .i64 x.2.North.e3), (.int .i64 x.2.North.e4), (.int .i64 x.2.North.e5), (.int .i64 x.2.North.e6), (.int .i64 x.2.North.e7), (.int .i64 x.2.West), (.int .i64 x.2.East)], fun _ => rfl, fun x u h => by simp at h; rcases h with rfl | rfl | rfl | rfl | rfl | rfl | rfl | rfl | rfl | rfl | rfl | rfl | rfl | rfl | rfl | rfl | rfl | rfl | rfl <;> rfl⟩
def subN_Row (h : HF) (x : Row) : Own := rowR encInt (h 0).1 (h 0).2 x.Cells
structure Job where
  rows : List Row
  width : Int
  height : Int
  edges : Edges
  deriving DecidableEq
def z_Job : Job := ⟨[], 0, 0, z_Edges⟩
structure S_side_n where
  side : List Int
  n : Int
  deriving DecidableEq
def z_S_side_n : S_side_n := ⟨[], 0⟩
def encN_S_side_n : Enc (HF × S_side_n) := ⟨2, fun x => [(.slice (x.1 0).1 x.2.side.length (x.1 0).2), (.int .i64 x.2.n)], fun _ => rfl, fun x u h => by simp at h; rcases h with rfl | rfl <;> rfl⟩
def subN_S_side_n (h : HF) (x : S_side_n) : Own := rowR encInt (h 0).1 (h 0).2 x.side
def ref01_colour (p0 : Int) : Option Bool := some ((decide (p0 ≥ 0)) && (decide (p0 < 1000)))
def ref01_Index.l0 : Nat → Int → (List Tile) → Tile → Option (Sum Int Unit)
  | 0, _, _, _ => none
  | k + 1, x95, p0, p1 => if (decide (x95 < (p0.length : Int))) = true then (if 0 ≤ x95 ∧ x95 < (p0.length : Int) then (if (((rdD p0 x95 z_Tile).N) == p1.N && (((rdD p0 x95 z_Tile).E) == p1.E && (((rdD p0 x95 z_Tile).S) == p1.S && (((rdD p0 x95 z_Tile).W) == p1.W)))) = true then (some (.inl x95)) else (ref01_Index.l0 k (w64 (x95 + 1)) p0 p1)) else none) else (some (.inr ()))
def ref01_Index (k : Nat) (p0 : List Tile) (p1 : Tile) : Option Int := (ref01_Index.l0 k 0 p0 p1).bind fun x96 => sumb x96 (fun r => some r) (fun y112 => some (-1))
def ref01_Valid.l0 : Nat → Int → (List Tile) → Option (Sum Bool Unit)
  | 0, _, _ => none
  | k + 1, x409, p0 => if (decide (x409 < (p0.length : Int))) = true then (if 0 ≤ x409 ∧ x409 < (p0.length : Int) then ((ref01_colour ((rdD p0 x409 z_Tile).N)).bind fun t513 => (if (!t513) = true then (some true) else ((ref01_colour ((rdD p0 x409 z_Tile).E)).bind fun t527 => some (!t527))).bind fun x524 => (if x524 = true then (some true) else ((ref01_colour ((rdD p0 x409 z_Tile).S)).bind fun t546 => some (!t546))).bind fun x543 => (if x543 = true then (some true) else ((ref01_colour ((rdD p0 x409 z_Tile).W)).bind fun t565 => some (!t565))).bind fun x562 => (if x562 = true then (some true) else (if 0 ≤ (0 : Int) ∧ (0 : Int) ≤ x409 ∧ x409 ≤ (p0.length : Int) then ((ref01_Index k (cut p0 (0 : Int) x409) (rdD p0 x409 z_Tile)).bind fun t588 => some (decide (t588 ≥ 0))) else none)).bind fun x583 => if x583 = true then (some (.inl false)) else (ref01_Valid.l0 k (w64 (x409 + 1)) p0)) else none) else (some (.inr ()))
def ref01_Valid (k : Nat) (p0 : List Tile) : Option Bool := if (decide ((p0.length : Int) > 1000)) = true then (some false) else ((ref01_Valid.l0 k 0 p0).bind fun x410 => sumb x410 (fun r => some r) (fun y602 => some true))
def ref02_at.l0 : Nat → Int → (List Int) → Int → Option (Sum Int Unit)
  | 0, _, _, _ => none
  | k + 1, x632, p0, p1 => if (decide (x632 < (p0.length : Int))) = true then (if 0 ≤ x632 ∧ x632 < (p0.length : Int) then (if ((rdD p0 x632 0) == p1) = true then (some (.inl x632)) else (ref02_at.l0 k (w64 (x632 + 1)) p0 p1)) else none) else (some (.inr ()))
def ref02_at (k : Nat) (p0 : List Int) (p1 : Int) : Option Int := (ref02_at.l0 k 0 p0 p1).bind fun x633 => sumb x633 (fun r => some r) (fun y645 => some (-1))
def ref02_with (k : Nat) (p0 : List Int) (p1 : Int) : Option (List Int) := (ref02_at k p0 p1).bind fun t658 => (if (decide (t658 < 0)) = true then (if p0.length + [p1].length ≤ 100000000000 then (some (p0 ++ [p1])) else none) else (some p0)).bind fun x677 => some x677
def ref02_Colours.l0 : Nat → (List Int) → Int → (List Tile) → Option (List Int)
  | 0, _, _, _ => none
  | k + 1, l770, x771, p0 => if (decide (x771 < (p0.length : Int))) = true then (if 0 ≤ x771 ∧ x771 < (p0.length : Int) then ((ref02_with k l770 ((rdD p0 x771 z_Tile).N)).bind fun t801 => (ref02_with k t801 ((rdD p0 x771 z_Tile).S)).bind fun t808 => ref02_Colours.l0 k t808 (w64 (x771 + 1)) p0) else none) else (some l770)
def ref02_Colours (k : Nat) (p0 : List Tile) : Option (List Int) := (ref02_Colours.l0 k ([] : List Int) 0 p0).bind fun x775 => some x775
def ref02_Power.l0 : Nat → Int → Int → Int → Int → Option Int
  | 0, _, _, _, _ => none
  | k + 1, x830, x831, p0, p1 => if (decide (x831 < p1)) = true then (ref02_Power.l0 k (minI (w64 (x830 * p0)) 1000000) (w64 (x831 + 1)) p0 p1) else (some x830)
def ref02_Power (k : Nat) (p0 : Int) (p1 : Int) : Option Int := (ref02_Power.l0 k 1 0 p0 p1).bind fun x833 => some x833
def ref02_Light (k : Nat) (p0 : List Tile) (p1 : Int) : Option Bool := (ref02_Colours k p0).bind fun t819 => (ref02_Power k (t819.length : Int) p1).bind fun t844 => (if (decide (t844 ≤ 1500)) = true then ((ref02_Power k (p0.length : Int) p1).bind fun t858 => some (decide (t858 ≤ 40000))) else (some false)).bind fun x855 => some x855
def law05_heavy (k : Nat) (p0 : List Tile) (p1 : Int) : Option Bool := (if (decide ((p0.length : Int) > 60)) = true then (some true) else ((ref02_Light k p0 p1).bind fun t877 => some (!t877))).bind fun x874 => some x874
def ref02_Great (k : Nat) (p0 : List Tile) (p1 : Int) : Option Bool := (ref02_Power k (p0.length : Int) p1).bind fun t906 => some (decide (t906 > 5000))
def tile_colour_1 (p0 : Int) : Option Bool := some ((decide (p0 < 0)) || (decide (p0 ≥ 1000)))
def slices_IndexFunc_int_int_with_tile_colour_1.l0 : Nat → Int → (List Int) → Option (Sum Int Unit)
  | 0, _, _ => none
  | k + 1, x1356, p0 => if (decide (x1356 < (p0.length : Int))) = true then (if 0 ≤ x1356 ∧ x1356 < (p0.length : Int) then ((tile_colour_1 (rdD p0 x1356 0)).bind fun t1365 => if t1365 = true then (some (.inl x1356)) else (slices_IndexFunc_int_int_with_tile_colour_1.l0 k (w64 (x1356 + 1)) p0)) else none) else (some (.inr ()))
def slices_IndexFunc_int_int_with_tile_colour_1 (k : Nat) (p0 : List Int) : Option Int := (slices_IndexFunc_int_int_with_tile_colour_1.l0 k 0 p0).bind fun x1357 => sumb x1357 (fun r => some r) (fun y1374 => some (-1))
def slices_ContainsFunc_int_int_with_tile_colour_1 (k : Nat) (p0 : List Int) : Option Bool := (slices_IndexFunc_int_int_with_tile_colour_1 k p0).bind fun t1376 => some (decide (t1376 ≥ 0))
def tile_colour (k : Nat) (p0 : List Int) : Option Bool := (slices_ContainsFunc_int_int_with_tile_colour_1 k p0).bind fun t1381 => some (!t1381)
def tile_Valid.l0 : Nat → (List (Tile × Bool)) → Int → (List Tile) → Option (Sum Bool Unit)
  | 0, _, _, _ => none
  | k + 1, l1455, x1456, p0 => if (decide (x1456 < (p0.length : Int))) = true then (if 0 ≤ x1456 ∧ x1456 < (p0.length : Int) then ((if (mget (rdD p0 x1456 z_Tile) false l1455) = true then (some true) else ((tile_colour k [(rdD p0 x1456 z_Tile).N, (rdD p0 x1456 z_Tile).E, (rdD p0 x1456 z_Tile).S, (rdD p0 x1456 z_Tile).W]).bind fun t1490 => some (!t1490))).bind fun x1482 => if x1482 = true then (some (.inl false)) else (tile_Valid.l0 k (mput (rdD p0 x1456 z_Tile) true l1455) (w64 (x1456 + 1)) p0)) else none) else (some (.inr ()))
def tile_Valid (k : Nat) (p0 : List Tile) : Option Bool := if (decide ((p0.length : Int) > 1000)) = true then (some false) else ((tile_Valid.l0 k ([] : List (Tile × Bool)) 0 p0).bind fun x1457 => sumb x1457 (fun r => some r) (fun y1506 => some true))
def tile_write.l1 : Nat → (List ByteArray) → Int → (List Tile) → Int → Option (List ByteArray)
  | 0, _, _, _, _ => none
  | k + 1, l2017, x2018, p0, x1909 => if (decide (x2018 < 4)) = true then (if (x2018 == 0) = true then ((itoaP ((rdD p0 x1909 z_Tile).N)).bind fun t2033 => if l2017.length + [t2033].length ≤ 100000000000 then (tile_write.l1 k (l2017 ++ [t2033]) (w64 (x2018 + 1)) p0 x1909) else none) else (if (x2018 == 1) = true then ((itoaP ((rdD p0 x1909 z_Tile).E)).bind fun t2049 => if l2017.length + [t2049].length ≤ 100000000000 then (tile_write.l1 k (l2017 ++ [t2049]) (w64 (x2018 + 1)) p0 x1909) else none) else (if (x2018 == 2) = true then ((itoaP ((rdD p0 x1909 z_Tile).S)).bind fun t2065 => if l2017.length + [t2065].length ≤ 100000000000 then (tile_write.l1 k (l2017 ++ [t2065]) (w64 (x2018 + 1)) p0 x1909) else none) else (if (x2018 == 3) = true then ((itoaP ((rdD p0 x1909 z_Tile).W)).bind fun t2081 => if l2017.length + [t2081].length ≤ 100000000000 then (tile_write.l1 k (l2017 ++ [t2081]) (w64 (x2018 + 1)) p0 x1909) else none) else (none))))) else (some l2017)
def tile_write.l0 : Nat → (List ByteArray) → Int → (List Tile) → Option (List ByteArray)
  | 0, _, _, _ => none
  | k + 1, l1908, x1909, p0 => if (decide (x1909 < (p0.length : Int))) = true then (if 0 ≤ x1909 ∧ x1909 < (p0.length : Int) then ((tile_write.l1 k ([] : List ByteArray) 0 p0 x1909).bind fun x2022 => (joinP x2022 (⟨#[46]⟩ : ByteArray)).bind fun t2100 => if l1908.length + [t2100].length ≤ 100000000000 then (tile_write.l0 k (l1908 ++ [t2100]) (w64 (x1909 + 1)) p0) else none) else none) else (some l1908)
def tile_write (k : Nat) (p0 : List Tile) : Option ByteArray := (tile_write.l0 k ([] : List ByteArray) 0 p0).bind fun x1913 => (joinP x1913 (⟨#[32]⟩ : ByteArray)).bind fun t2119 => some t2119
def tile_Parse.l1 : Nat → Int → Int → Int → Int → Int → ByteArray → Int → Option (Int × Int × Int × Int)
  | 0, _, _, _, _, _, _, _ => none
  | k + 1, x1267, x1268, x1269, x1270, x1271, p0, x1187 => if (decide (x1271 < ((splitP (rdD (splitP p0 (⟨#[32]⟩ : ByteArray)) x1187 ByteArray.empty) (⟨#[46]⟩ : ByteArray)).length : Int))) = true then (if 0 ≤ x1271 ∧ x1271 < ((splitP (rdD (splitP p0 (⟨#[32]⟩ : ByteArray)) x1187 ByteArray.empty) (⟨#[46]⟩ : ByteArray)).length : Int) then ((atoiP (rdD (splitP (rdD (splitP p0 (⟨#[32]⟩ : ByteArray)) x1187 ByteArray.empty) (⟨#[46]⟩ : ByteArray)) x1271 ByteArray.empty)).bind fun t1287 => if (x1271 == 0) = true then (tile_Parse.l1 k t1287 x1268 x1269 x1270 (w64 (x1271 + 1)) p0 x1187) else (if (x1271 == 1) = true then (tile_Parse.l1 k x1267 t1287 x1269 x1270 (w64 (x1271 + 1)) p0 x1187) else (if (x1271 == 2) = true then (tile_Parse.l1 k x1267 x1268 t1287 x1270 (w64 (x1271 + 1)) p0 x1187) else (if (x1271 == 3) = true then (tile_Parse.l1 k x1267 x1268 x1269 t1287 (w64 (x1271 + 1)) p0 x1187) else (none))))) else none) else (some (x1267, x1268, x1269, x1270))
def tile_Parse.l0 : Nat → (List Tile) → Int → ByteArray → Option (Sum ((List Tile) × Int) (List Tile))
  | 0, _, _, _ => none
  | k + 1, l1186, x1187, p0 => if (decide (x1187 < ((splitP p0 (⟨#[32]⟩ : ByteArray)).length : Int))) = true then (if 0 ≤ x1187 ∧ x1187 < ((splitP p0 (⟨#[32]⟩ : ByteArray)).length : Int) then (if (rdD (splitP p0 (⟨#[32]⟩ : ByteArray)) x1187 ByteArray.empty).size < 4294967281 ∧ 1 ≤ (⟨#[46]⟩ : ByteArray).size then (if ((((splitP (rdD (splitP p0 (⟨#[32]⟩ : ByteArray)) x1187 ByteArray.empty) (⟨#[46]⟩ : ByteArray)).length : Int) != 4) || (decide ((l1186.length : Int) > 1000))) = true then (some (.inl (([] : List Tile), 3))) else ((tile_Parse.l1 k 0 0 0 0 0 p0 x1187).bind fun x1276 => if l1186.length + [(Tile.mk x1276.1 x1276.2.1 x1276.2.2.1 x1276.2.2.2)].length ≤ 100000000000 then (tile_Parse.l0 k (l1186 ++ [(Tile.mk x1276.1 x1276.2.1 x1276.2.2.1 x1276.2.2.2)]) (w64 (x1187 + 1)) p0) else none)) else none) else none) else (some (.inr l1186))
def tile_Parse (k : Nat) (p0 : ByteArray) : Option ((List Tile) × Int) := if (strEq p0 (⟨#[]⟩ : ByteArray)) = true then (some (([] : List Tile), 0)) else (if (decide ((p0.size : Int) > 16000)) = true then (some (([] : List Tile), 3)) else (if p0.size < 4294967281 ∧ 1 ≤ (⟨#[32]⟩ : ByteArray).size then ((tile_Parse.l0 k ([] : List Tile) 0 p0).bind fun x1191 => sumb x1191 (fun r => some r) (fun y1318 => (tile_Valid k y1318).bind fun t1508 => (if (!t1508) = true then (some true) else ((tile_write k y1318).bind fun t2130 => some (!(strEq t2130 p0)))).bind fun x2127 => if x2127 = true then (some (([] : List Tile), 3)) else (some (y1318, 0)))) else none))
def rows_Few.l0 : Nat → Int → Int → (List Tile) → Int → Option (Sum Bool Unit)
  | 0, _, _, _, _ => none
  | k + 1, x2178, x2179, p0, p1 => if (decide (x2179 < p1)) = true then (if (decide (w64 (x2178 * (maxI (p0.length : Int) 1)) > 5000)) = true then (some (.inl false)) else (rows_Few.l0 k (w64 (x2178 * (maxI (p0.length : Int) 1))) (w64 (x2179 + 1)) p0 p1)) else (some (.inr ()))
def rows_Few (k : Nat) (p0 : List Tile) (p1 : Int) : Option Bool := (rows_Few.l0 k 1 0 p0 p1).bind fun x2180 => sumb x2180 (fun r => some r) (fun y2191 => some true)
def square_check (k : Nat) (p0 : List Tile) (p1 : Int) : Option Int := (tile_Valid k p0).bind fun t2163 => if (!t2163) = true then (some 1) else (if ((decide (p1 < 1)) || (decide (p1 > 8))) = true then (some 2) else ((rows_Few k p0 p1).bind fun t2193 => if (!t2193) = true then (some 4) else (some 0)))
def square_filled (p0 : List Tile) (p1 : Int) : Option Unit := some ()
def rows_rowOf.l0 : Nat → A8_Int → A8_Int → Int → (List Tile) → (List Int) → Option (A8_Int × A8_Int)
  | 0, _, _, _, _, _ => none
  | k + 1, a2462, a2463, x2464, p0, p1 => if (decide (x2464 < (p1.length : Int))) = true then (if 0 ≤ x2464 ∧ x2464 < (p1.length : Int) then (if 0 ≤ (rdD p1 x2464 0) ∧ (rdD p1 x2464 0) < (p0.length : Int) then (if 0 ≤ x2464 ∧ x2464 < (8 : Int) then (rows_rowOf.l0 k (A8_Int.set a2462 x2464 ((rdD p0 (rdD p1 x2464 0) z_Tile).S)) (A8_Int.set a2463 x2464 ((rdD p0 (rdD p1 x2464 0) z_Tile).N)) (w64 (x2464 + 1)) p0 p1) else none) else none) else none) else (some (a2462, a2463))
def rows_rowOf (k : Nat) (p0 : List Tile) (p1 : List Int) : Option Row := if ([] : List Int).length + p1.length ≤ 100000000000 then ((rows_rowOf.l0 k (A8_Int.mk 0 0 0 0 0 0 0 0) (A8_Int.mk 0 0 0 0 0 0 0 0) 0 p0 p1).bind fun x2467 => if 0 ≤ (0 : Int) ∧ (0 : Int) < (p1.length : Int) then (if 0 ≤ (rdD p1 (0 : Int) 0) ∧ (rdD p1 (0 : Int) 0) < (p0.length : Int) then (if 0 ≤ w64 ((p1.length : Int) - 1) ∧ w64 ((p1.length : Int) - 1) < (p1.length : Int) then (if 0 ≤ (rdD p1 (w64 ((p1.length : Int) - 1)) 0) ∧ (rdD p1 (w64 ((p1.length : Int) - 1)) 0) < (p0.length : Int) then (some (Row.mk (([] : List Int) ++ p1) x2467.1 x2467.2 ((rdD p0 (rdD p1 (0 : Int) 0) z_Tile).W) ((rdD p0 (rdD p1 (w64 ((p1.length : Int) - 1)) 0) z_Tile).E))) else none) else none) else none) else none) else none
def rows_All_1.l0 : Nat → (List Row) → (List Int) → Int → Int → Int → (List Tile) → (Int → Int → (List Row) → (List Tile) → (List Int) → Option ((List Row) × (List Int))) → Option ((List Row) × (List Int))
  | 0, _, _, _, _, _, _, _ => none
  | k + 1, l2919, l2923, x2924, p0, f0, f2, rc_ => if (decide (x2924 < (f2.length : Int))) = true then (if 0 ≤ x2924 ∧ x2924 < (f2.length : Int) then ((if (p0 == 0) = true then (some true) else (if 0 ≤ w64 (p0 - 1) ∧ w64 (p0 - 1) < (l2923.length : Int) then (if 0 ≤ (rdD l2923 (w64 (p0 - 1)) 0) ∧ (rdD l2923 (w64 (p0 - 1)) 0) < (f2.length : Int) then (some (((rdD f2 (rdD l2923 (w64 (p0 - 1)) 0) z_Tile).E) == ((rdD f2 x2924 z_Tile).W))) else none) else none)).bind fun x2958 => (if x2958 = true then (if 0 ≤ p0 ∧ p0 < (l2923.length : Int) then ((rc_ (w64 (p0 + 1)) f0 l2919 f2 (l2923.set (p0).toNat x2924)).bind fun t3004 => some (t3004.1, t3004.2)) else none) else (some (l2919, l2923))).bind fun x2997 => rows_All_1.l0 k x2997.1 x2997.2 (w64 (x2924 + 1)) p0 f0 f2 rc_) else none) else (some (l2919, l2923))
def rows_All_1 : Nat → Int → Int → (List Row) → (List Tile) → (List Int) → Option ((List Row) × (List Int))
  | 0, _, _, _, _, _ => none
  | k + 1, p0, f0, f1, f2, f3 => if (p0 == f0) = true then ((rows_rowOf k f2 f3).bind fun t2729 => if f1.length + 1 ≤ 100000000000 then (some (f1 ++ [t2729], f3)) else none) else ((rows_All_1.l0 k f1 f3 0 p0 f0 f2 (rows_All_1 k)).bind fun x2932 => some (x2932.1, x2932.2))
def rows_All (k : Nat) (p0 : List Tile) (p1 : Int) : Option (List Row) := if 0 ≤ p1 ∧ p1 ≤ 100000000000 then ((rows_All_1 k 0 p1 ([] : List Row) p0 (List.replicate p1.toNat (0 : Int))).bind fun t3024 => some t3024.1) else none
def fill_begin.l0 : Nat → Int → Int → Int → Edges → Option (Sum ((Option Job) × Int) Unit)
  | 0, _, _, _, _ => none
  | k + 1, x3106, p1, p2, p3 => if (decide (x3106 < ([(S_side_n.mk p3.North p1), (S_side_n.mk p3.South p1), (S_side_n.mk p3.East p2), (S_side_n.mk p3.West p2)].length : Int))) = true then (if 0 ≤ x3106 ∧ x3106 < ([(S_side_n.mk p3.North p1), (S_side_n.mk p3.South p1), (S_side_n.mk p3.East p2), (S_side_n.mk p3.West p2)].length : Int) then (if (((((rdD [(S_side_n.mk p3.North p1), (S_side_n.mk p3.South p1), (S_side_n.mk p3.East p2), (S_side_n.mk p3.West p2)] x3106 z_S_side_n).side).length : Int) != 0) && ((((rdD [(S_side_n.mk p3.North p1), (S_side_n.mk p3.South p1), (S_side_n.mk p3.East p2), (S_side_n.mk p3.West p2)] x3106 z_S_side_n).side).length : Int) != ((rdD [(S_side_n.mk p3.North p1), (S_side_n.mk p3.South p1), (S_side_n.mk p3.East p2), (S_side_n.mk p3.West p2)] x3106 z_S_side_n).n))) = true then (some (.inl (none, 2))) else (fill_begin.l0 k (w64 (x3106 + 1)) p1 p2 p3)) else none) else (some (.inr ()))
def fill_begin (k : Nat) (p0 : List Tile) (p1 : Int) (p2 : Int) (p3 : Edges) : Option ((Option Job) × Int) := (tile_Valid k p0).bind fun t3064 => if (!t3064) = true then (some (none, 1)) else (if ((((decide (p1 < 1)) || (decide (p1 > 8))) || (decide (p2 < 1))) || (decide (p2 > 60))) = true then (some (none, 2)) else ((fill_begin.l0 k 0 p1 p2 p3).bind fun x3107 => sumb x3107 (fun r => some r) (fun y3127 => (rows_Few k p0 p1).bind fun t3129 => if (!t3129) = true then (some (none, 4)) else ((rows_All k p0 p1).bind fun t3149 => some ((some (Job.mk t3149 p1 p2 p3)), 0)))))
def fill_at (p0 : List Int) (p1 : Int) (p2 : Int) : Option Bool := (if ((p0.length : Int) == 0) = true then (some true) else (if 0 ≤ p1 ∧ p1 < (p0.length : Int) then (some ((rdD p0 p1 0) == p2)) else none)).bind fun b3263 => some b3263
def fill_job_allows.l0 : Nat → Int → Job → Row → Int → Option (Sum Bool Unit)
  | 0, _, _, _, _ => none
  | k + 1, x3853, p0, p1, p2 => if (decide (x3853 < p0.width)) = true then ((if (p2 == 0) = true then (if (p2 == (w64 (p0.height - 1))) = true then (if 0 ≤ x3853 ∧ x3853 < (8 : Int) then ((fill_at p0.edges.South x3853 (A8_Int.get p1.South x3853)).bind fun t4035 => (if (!t4035) = true then (some true) else ((fill_at p0.edges.North x3853 (A8_Int.get p1.North x3853)).bind fun t4049 => some (!t4049))).bind fun x4046 => some x4046) else none) else (if 0 ≤ x3853 ∧ x3853 < (8 : Int) then ((fill_at p0.edges.South x3853 (A8_Int.get p1.South x3853)).bind fun t4095 => some (!t4095)) else none)) else (if (p2 == (w64 (p0.height - 1))) = true then (if 0 ≤ x3853 ∧ x3853 < (8 : Int) then ((fill_at p0.edges.North x3853 (A8_Int.get p1.North x3853)).bind fun t4119 => some (!t4119)) else none) else (some false))).bind fun x3996 => if x3996 = true then (some (.inl false)) else (fill_job_allows.l0 k (w64 (x3853 + 1)) p0 p1 p2)) else (some (.inr ()))
def fill_job_allows (k : Nat) (p0 : Job) (p1 : Row) (p2 : Int) : Option Bool := (fill_at p0.edges.West p2 p1.West).bind fun t3293 => (if (!t3293) = true then (some true) else ((fill_at p0.edges.East p2 p1.East).bind fun t3307 => some (!t3307))).bind fun x3304 => if x3304 = true then (some false) else ((fill_job_allows.l0 k 0 p0 p1 p2).bind fun x3854 => sumb x3854 (fun r => some r) (fun y4140 => some true))
def fill_First.l0 : Nat → Int → Option Unit
  | 0, _ => none
  | k + 1, p2 => if (decide (w64 (p2 - 1) ≥ 0)) = true then (if 0 ≤ w64 (p2 - 1) ∧ w64 (p2 - 1) < ((List.replicate p2.toNat (none : Option (List (A8_Int × Bool)))).length : Int) then (none) else none) else (some ())
def fill_First.l1 : Nat → Int → Option Unit
  | 0, _ => none
  | k + 1, p2 => if (decide (0 < p2)) = true then (none) else (some ())
def fill_First.l3 : Nat → (List (Option (List (A8_Int × Bool)))) → Int → Int → Edges → Job → Int → Option (List (Option (List (A8_Int × Bool))))
  | 0, _, _, _, _, _, _ => none
  | k + 1, l5619, x5621, p2, p3, y3170, x5244 => if (decide (x5621 < (y3170.rows.length : Int))) = true then (if 0 ≤ x5621 ∧ x5621 < (y3170.rows.length : Int) then ((if (x5244 == (w64 (p2 - 1))) = true then ((fill_job_allows k (Job.mk y3170.rows y3170.width y3170.height p3) (rdD y3170.rows x5621 z_Row) x5244).bind fun t5718 => some t5718) else ((fill_job_allows k (Job.mk y3170.rows y3170.width y3170.height p3) (rdD y3170.rows x5621 z_Row) x5244).bind fun t5742 => (if t5742 = true then (if 0 ≤ w64 (x5244 + 1) ∧ w64 (x5244 + 1) < (l5619.length : Int) then ((rdD l5619 (w64 (x5244 + 1)) none).bind fun m5754 => (some (mget ((rdD y3170.rows x5621 z_Row).North) false m5754))) else none) else (some false)).bind fun b5750 => some b5750)).bind fun x5700 => (if x5700 = true then (if 0 ≤ x5244 ∧ x5244 < (l5619.length : Int) then ((rdD l5619 x5244 none).bind fun m5797 => (some (l5619.set x5244.toNat (some (mput ((rdD y3170.rows x5621 z_Row).South) true m5797))))) else none) else (some l5619)).bind fun x5782 => fill_First.l3 k x5782 (w64 (x5621 + 1)) p2 p3 y3170 x5244) else none) else (some l5619)
def fill_First.l2 : Nat → (List (Option (List (A8_Int × Bool)))) → Int → Int → Edges → Job → Option (List (Option (List (A8_Int × Bool))))
  | 0, _, _, _, _, _ => none
  | k + 1, l5242, x5244, p2, p3, y3170 => if (decide (x5244 ≥ 0)) = true then (if 0 ≤ x5244 ∧ x5244 < (l5242.length : Int) then ((fill_First.l3 k (l5242.set x5244.toNat (some ([] : List (A8_Int × Bool)))) 0 p2 p3 y3170 x5244).bind fun x5626 => fill_First.l2 k x5626 (w64 (x5244 - 1)) p2 p3 y3170) else none) else (some l5242)
def fill_First.l5 : Nat → (Option Int) → Int → Int → Edges → Job → (List (Option (List (A8_Int × Bool)))) → Int → Option Int
  | 0, _, _, _, _, _, _, _ => none
  | k + 1, o7511, x7512, p2, p3, y3170, x5249, x7042 => if (decide (x7512 < (y3170.rows.length : Int))) = true then (if 0 ≤ x7512 ∧ x7512 < (y3170.rows.length : Int) then ((if (x7042 == (w64 (p2 - 1))) = true then ((fill_job_allows k (Job.mk y3170.rows y3170.width y3170.height p3) (rdD y3170.rows x7512 z_Row) x7042).bind fun t7678 => (if t7678 = true then (optM o7511 (some true) (fun i7690 => if 0 ≤ i7690 ∧ i7690 < (y3170.rows.length : Int) then (some ((((rdD y3170.rows i7690 z_Row).North).e0) == (((rdD y3170.rows x7512 z_Row).South).e0) && ((((rdD y3170.rows i7690 z_Row).North).e1) == (((rdD y3170.rows x7512 z_Row).South).e1) && ((((rdD y3170.rows i7690 z_Row).North).e2) == (((rdD y3170.rows x7512 z_Row).South).e2) && ((((rdD y3170.rows i7690 z_Row).North).e3) == (((rdD y3170.rows x7512 z_Row).South).e3) && ((((rdD y3170.rows i7690 z_Row).North).e4) == (((rdD y3170.rows x7512 z_Row).South).e4) && ((((rdD y3170.rows i7690 z_Row).North).e5) == (((rdD y3170.rows x7512 z_Row).South).e5) && ((((rdD y3170.rows i7690 z_Row).North).e6) == (((rdD y3170.rows x7512 z_Row).South).e6) && ((((rdD y3170.rows i7690 z_Row).North).e7) == (((rdD y3170.rows x7512 z_Row).South).e7)))))))))) else none)) else (some false)).bind fun b7686 => some b7686) else ((fill_job_allows k (Job.mk y3170.rows y3170.width y3170.height p3) (rdD y3170.rows x7512 z_Row) x7042).bind fun t7720 => (if t7720 = true then (optM o7511 (some true) (fun i7732 => if 0 ≤ i7732 ∧ i7732 < (y3170.rows.length : Int) then (some ((((rdD y3170.rows i7732 z_Row).North).e0) == (((rdD y3170.rows x7512 z_Row).South).e0) && ((((rdD y3170.rows i7732 z_Row).North).e1) == (((rdD y3170.rows x7512 z_Row).South).e1) && ((((rdD y3170.rows i7732 z_Row).North).e2) == (((rdD y3170.rows x7512 z_Row).South).e2) && ((((rdD y3170.rows i7732 z_Row).North).e3) == (((rdD y3170.rows x7512 z_Row).South).e3) && ((((rdD y3170.rows i7732 z_Row).North).e4) == (((rdD y3170.rows x7512 z_Row).South).e4) && ((((rdD y3170.rows i7732 z_Row).North).e5) == (((rdD y3170.rows x7512 z_Row).South).e5) && ((((rdD y3170.rows i7732 z_Row).North).e6) == (((rdD y3170.rows x7512 z_Row).South).e6) && ((((rdD y3170.rows i7732 z_Row).North).e7) == (((rdD y3170.rows x7512 z_Row).South).e7)))))))))) else none)) else (some false)).bind fun b7728 => (if b7728 = true then (if 0 ≤ w64 (x7042 + 1) ∧ w64 (x7042 + 1) < (x5249.length : Int) then ((rdD x5249 (w64 (x7042 + 1)) none).bind fun m7741 => (some (mget ((rdD y3170.rows x7512 z_Row).North) false m7741))) else none) else (some false)).bind fun b7737 => some b7737)).bind fun x7642 => if x7642 = true then (some x7512) else (fill_First.l5 k o7511 (w64 (x7512 + 1)) p2 p3 y3170 x5249 x7042)) else none) else (some (-1))
def fill_First.l4 : Nat → (List Int) → (Option Int) → Int → Int → Edges → Job → (List (Option (List (A8_Int × Bool)))) → Option (Sum (Pattern × Int) (List Int))
  | 0, _, _, _, _, _, _, _ => none
  | k + 1, l7040, o7041, x7042, p2, p3, y3170, x5249 => if (decide (x7042 < p2)) = true then ((fill_First.l5 k o7041 0 p2 p3 y3170 x5249 x7042).bind fun x7514 => if (decide (x7514 < 0)) = true then (some (.inl ((Pattern.mk 0 0 ([] : List Int)), 6))) else (if 0 ≤ x7514 ∧ x7514 < (y3170.rows.length : Int) then (if l7040.length + ((rdD y3170.rows x7514 z_Row).Cells).length ≤ 100000000000 then (fill_First.l4 k (l7040 ++ ((rdD y3170.rows x7514 z_Row).Cells)) (some x7514) (w64 (x7042 + 1)) p2 p3 y3170 x5249) else none) else none)) else (some (.inr l7040))
def fill_First (k : Nat) (p0 : List Tile) (p1 : Int) (p2 : Int) (p3 : Edges) : Option (Pattern × Int) := (fill_begin k p0 p1 p2 p3).bind fun t3161 => optM t3161.1 (if (t3161.2 != 0) = true then (some ((Pattern.mk 0 0 ([] : List Int)), t3161.2)) else (if 0 ≤ p2 ∧ p2 ≤ 100000000000 then ((fill_First.l0 k p2).bind fun x3191 => (fill_First.l1 k p2).bind fun x3217 => some ((Pattern.mk p1 p2 ([] : List Int)), 0)) else none)) (fun y3170 => if (t3161.2 != 0) = true then (some ((Pattern.mk 0 0 ([] : List Int)), t3161.2)) else (if 0 ≤ p2 ∧ p2 ≤ 100000000000 then ((fill_First.l2 k (List.replicate p2.toNat (none : Option (List (A8_Int × Bool)))) (w64 (p2 - 1)) p2 p3 y3170).bind fun x5249 => (fill_First.l4 k ([] : List Int) none 0 p2 p3 y3170 x5249).bind fun x7046 => sumb x7046 (fun r => some r) (fun y7776 => some ((Pattern.mk p1 p2 y7776), 0))) else none))
def square_exists (k : Nat) (p0 : List Tile) (p1 : Int) : Option Bool := (fill_First k p0 p1 p1 (Edges.mk ([] : List Int) ([] : List Int) ([] : List Int) ([] : List Int))).bind fun t7780 => some (t7780.2 == 0)
def square_filled_1_y.l0 {σ : Type} : Nat → Int → σ → Int → (List Tile) → (Int → σ → Option (σ × Bool)) → Option (Sum σ σ)
  | 0, _, _, _, _, _ => none
  | k + 1, x7850, s7851, f0, f1, yf => (if (decide (x7850 ≤ f0)) = true then ((square_exists k f1 x7850).bind fun t7870 => some t7870) else (some false)).bind fun x7867 => if x7867 = true then ((yf x7850 s7851).bind fun t7881 => if (!t7881.2) = true then (some (.inl t7881.1)) else (square_filled_1_y.l0 k (w64 (x7850 + 1)) t7881.1 f0 f1 yf)) else (some (.inr s7851))
def square_filled_1_y {σ : Type} (k : Nat) (f0 : Int) (f1 : List Tile) (yf : Int → σ → Option (σ × Bool)) (sY : σ) : Option σ := (square_filled_1_y.l0 k 1 sY f0 f1 yf).bind fun x7855 => sumb x7855 (fun r => some r) (fun y7891 => some y7891)
def square_Largest.b1 : Nat → Int → (Int × Int) → Option ((Int × Int) × Bool)
  | k, x2245, (x2233, j2247) => if j2247 = 0 then (some ((x2245, 0), true)) else none
def square_Largest (k : Nat) (p0 : List Tile) (p1 : Int) : Option (Int × Int) := (square_check k p0 p1).bind fun t2199 => if (t2199 != 0) = true then (some (0, t2199)) else ((square_filled p0 p1).bind fun t2219 => (square_filled_1_y k p1 p0 (square_Largest.b1 k ) (0, (0 : Int))).bind fun t7893 => if t7893.2 = 0 then (if (t7893.1 == p1) = true then (some (0, 6)) else (some (t7893.1, 0))) else none)
def square_Exists (k : Nat) (p0 : List Tile) (p1 : Int) : Option (Bool × Int) := (square_check k p0 p1).bind fun t7919 => if (t7919 != 0) = true then (some (false, t7919)) else ((square_exists k p0 p1).bind fun t7925 => some (t7925, 0))
def law05_awake (k : Nat)  : Option Bool := (tile_Parse k (⟨#[48, 46, 49, 46, 48, 46, 48]⟩ : ByteArray)).bind fun t2142 => (tile_Parse k (⟨#[48, 46, 48, 46, 49, 46, 48]⟩ : ByteArray)).bind fun t2149 => (tile_Parse k (⟨#[48, 46, 49, 46, 49, 46, 48, 32, 49, 46, 48, 46, 48, 46, 49]⟩ : ByteArray)).bind fun t2156 => (square_Largest k t2142.1 4).bind fun t7909 => (square_Largest k t2149.1 4).bind fun t7914 => (square_Exists k t2156.1 5).bind fun t7930 => (square_Largest k t2156.1 5).bind fun t7935 => some (((((((t7909.2 == 0) && (t7914.2 == 0)) && (t7930.2 == 0)) && (t7935.2 == 6)) && (t7909.1 == 1)) && (t7914.1 == 1)) && t7930.1)
def law05_SquareFalls.l0 : Nat → Int → Int → (List Tile) → Int → Option (Sum Bool Int)
  | 0, _, _, _, _ => none
  | k + 1, x8003, x8004, p0, p1 => if (decide (x8004 ≤ w64 (1 + (Int.tmod (w64 (p1)) 8)))) = true then ((square_Exists k p0 x8004).bind fun t8013 => if ((t8013.2 != 0) || (t8013.1 && (decide (x8003 < w64 (x8004 - 1))))) = true then (some (.inl false)) else ((if t8013.1 = true then (some x8004) else (some x8003)).bind fun x8027 => law05_SquareFalls.l0 k x8027 (w64 (x8004 + 1)) p0 p1)) else (some (.inr x8003))
def law05_SquareFalls (k : Nat) (p0 : List Tile) (p1 : Int) (p2 : Int) : Option Bool := (if (decide ((p0.length : Int) > 60)) = true then (some true) else ((ref01_Valid k p0).bind fun t613 => some (!t613))).bind fun x610 => (if x610 = true then (some true) else ((law05_heavy k p0 (w64 (1 + (Int.tmod (w64 (p1)) 8)))).bind fun t896 => some t896)).bind fun x893 => (if x893 = true then (some true) else ((ref02_Great k p0 (w64 (1 + (Int.tmod (w64 (p1)) 8)))).bind fun t920 => some t920)).bind fun x917 => if x917 = true then ((law05_awake k).bind fun t7952 => some t7952) else ((law05_SquareFalls.l0 k 0 1 p0 p1).bind fun x8006 => sumb x8006 (fun r => some r) (fun y8037 => (square_Largest k p0 (w64 (1 + (Int.tmod (w64 (p1)) 8)))).bind fun t8039 => if (((y8037 == (w64 (1 + (Int.tmod (w64 (p1)) 8)))) && (t8039.2 != 6)) || ((decide (y8037 < w64 (1 + (Int.tmod (w64 (p1)) 8)))) && ((t8039.2 != 0) || (t8039.1 != y8037)))) = true then (some false) else (if ((p0.length : Int) == 0) = true then ((if (y8037 == 0) = true then ((law05_awake k).bind fun t8071 => some t8071) else (some false)).bind fun x8068 => some x8068) else (if (p0.length : Int) ≠ 0 then (if 0 ≤ (0 : Int) ∧ (0 : Int) ≤ Int.tmod (w64 (p2)) (p0.length : Int) ∧ Int.tmod (w64 (p2)) (p0.length : Int) ≤ (p0.length : Int) then (if 0 ≤ w64 ((Int.tmod (w64 (p2)) (p0.length : Int)) + 1) ∧ w64 ((Int.tmod (w64 (p2)) (p0.length : Int)) + 1) ≤ (p0.length : Int) ∧ (p0.length : Int) ≤ (p0.length : Int) then (if ([] : List Tile).length + (cut p0 (0 : Int) (Int.tmod (w64 (p2)) (p0.length : Int))).length ≤ 100000000000 then (if (([] : List Tile) ++ (cut p0 (0 : Int) (Int.tmod (w64 (p2)) (p0.length : Int)))).length + (cut p0 (w64 ((Int.tmod (w64 (p2)) (p0.length : Int)) + 1)) (p0.length : Int)).length ≤ 100000000000 then ((square_Exists k ((([] : List Tile) ++ (cut p0 (0 : Int) (Int.tmod (w64 (p2)) (p0.length : Int)))) ++ (cut p0 (w64 ((Int.tmod (w64 (p2)) (p0.length : Int)) + 1)) (p0.length : Int))) (w64 (1 + (Int.tmod (w64 (p1)) 8)))).bind fun t8126 => (if ((t8126.2 == 0) && ((!t8126.1) || (y8037 == (w64 (1 + (Int.tmod (w64 (p1)) 8)))))) = true then ((law05_awake k).bind fun t8146 => some t8146) else (some false)).bind fun x8143 => some x8143) else none) else none) else none) else none) else none))))
end Gp
namespace Gp
open Go Gw Go.Proofs Go.RowKit
def ok_Tile (a : Tile) : Prop := (ok64 a.N) ∧ (ok64 a.E) ∧ (ok64 a.S) ∧ (ok64 a.W)
theorem opn_Tile_40 {H : Type} {enc : TypeId × Value → H} {w : World} {base : Nat} {spare : Nat → Bool} {held : Bool} {fuel : Nat} {cs : List Value} {x : DataW H × List MemPlace} (h : DataW.trod enc Tryd.prog w base spare held fuel 40 cs = some x) : ∃ (a : Tile), cs = [.int .i64 a.N, .int .i64 a.E, .int .i64 a.S, .int .i64 a.W] ∧ ok_Tile a := by
  obtain ⟨hl, n, hf⟩ := opn_fields Tryd.underlying40 h
  have hl0 : cs.length = 4 := hl.trans (by kernel_rfl)
  obtain ⟨q0, r0, rfl, hl1⟩ := cons_of hl0
  obtain ⟨q1, r1, rfl, hl2⟩ := cons_of hl1
  obtain ⟨q2, r2, rfl, hl3⟩ := cons_of hl2
  obtain ⟨q3, r3, rfl, hl4⟩ := cons_of hl3
  obtain rfl := List.eq_nil_of_length_eq_zero hl4
  obtain ⟨y0, h0⟩ := hf 0 _ 1 rfl (by kernel_rfl)
  have h0 : DataW.trod enc Tryd.prog w base spare held n 3 [q0] = some y0 := h0
  obtain ⟨a0, e0, w0⟩ := opn_int Tryd.underlying3 h0
  injection e0 with f0 e0
  subst f0
  obtain ⟨y1, h1⟩ := hf 1 _ 1 rfl (by kernel_rfl)
  have h1 : DataW.trod enc Tryd.prog w base spare held n 3 [q1] = some y1 := h1
  obtain ⟨a1, e1, w1⟩ := opn_int Tryd.underlying3 h1
  injection e1 with f1 e1
  subst f1
  obtain ⟨y2, h2⟩ := hf 2 _ 1 rfl (by kernel_rfl)
  have h2 : DataW.trod enc Tryd.prog w base spare held n 3 [q2] = some y2 := h2
  obtain ⟨a2, e2, w2⟩ := opn_int Tryd.underlying3 h2
  injection e2 with f2 e2
  subst f2
  obtain ⟨y3, h3⟩ := hf 3 _ 1 rfl (by kernel_rfl)
  have h3 : DataW.trod enc Tryd.prog w base spare held n 3 [q3] = some y3 := h3
  obtain ⟨a3, e3, w3⟩ := opn_int Tryd.underlying3 h3
  injection e3 with f3 e3
  subst f3
  exact ⟨⟨a0, a1, a2, a3⟩, rfl, ⟨wf64 w0, wf64 w1, wf64 w2, wf64 w3⟩⟩
theorem opens_Tile_40 : Opens Tryd.prog 40 enc_Tile ok_Tile := ⟨by kernel_rfl, by decide, fun h => opn_Tile_40 h⟩
end Gp
