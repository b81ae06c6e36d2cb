/- The functions that the law reaches, as plain functions; how what comes in is opened. -/
import Derived.Test.YtmdkdigmkcpceaaGb
set_option linter.unusedVariables false
set_option linter.unusedSimpArgs false
set_option maxHeartbeats 4000000
namespace Gp
open Go Gw
structure Tile where
  N : Int
  E : Int
  S : Int
  W : Int
  deriving DecidableEq
def z_Tile : Tile := ⟨0, 0, 0, 0⟩
def ints_Tile (x : Tile) : List Int := [x.N, x.E, x.S, x.W]
def enc_Tile : Enc Tile := ⟨4, fun x => [(.int .i64 x.N), (.int .i64 x.E), (.int .i64 x.S), (.int .i64 x.W)], fun _ => rfl, fun x u h => by simp at h; rcases h with rfl | rfl | rfl | rfl <;> rfl⟩
structure Pattern where
  Width : Int
  Height : Int
  Cells : List Int
  deriving DecidableEq
def z_Pattern : Pattern := ⟨0, 0, []⟩
def encN_Pattern : Enc (HF × Pattern) := ⟨3, fun x => [(.int .i64 x.2.Width), (.int .i64 x.2.Height), (.slice (x.1 0).1 x.2.Cells.length (x.1 0).2)], fun _ => rfl, fun x u h => by simp at h; rcases h with rfl | rfl | rfl <;> rfl⟩
def subN_Pattern (h : HF) (x : Pattern) : Own := rowR encInt (h 0).1 (h 0).2 x.Cells
structure Edges where
  North : List Int
  East : List Int
  South : List Int
  West : List Int
  deriving DecidableEq
def z_Edges : Edges := ⟨[], [], [], []⟩
structure A8_Int where
  e0 : Int
  e1 : Int
  e2 : Int
  e3 : Int
  e4 : Int
  e5 : Int
  e6 : Int
  e7 : Int
  deriving DecidableEq
def z_A8_Int : A8_Int := ⟨0, 0, 0, 0, 0, 0, 0, 0⟩
def A8_Int.get (a : A8_Int) (i : Int) : Int := if i = 0 then a.e0 else if i = 1 then a.e1 else if i = 2 then a.e2 else if i = 3 then a.e3 else if i = 4 then a.e4 else if i = 5 then a.e5 else if i = 6 then a.e6 else a.e7
def A8_Int.set (a : A8_Int) (i v : Int) : A8_Int := ⟨if i = 0 then v else a.e0, if i = 1 then v else a.e1, if i = 2 then v else a.e2, if i = 3 then v else a.e3, if i = 4 then v else a.e4, if i = 5 then v else a.e5, if i = 6 then v else a.e6, if i = 7 then v else a.e7⟩
def ints_A8_Int (x : A8_Int) : List Int := [x.e0, x.e1, x.e2, x.e3, x.e4, x.e5, x.e6, x.e7]
def enc_A8_Int : Enc A8_Int := ⟨8, fun x => [(.int .i64 x.e0), (.int .i64 x.e1), (.int .i64 x.e2), (.int .i64 x.e3), (.int .i64 x.e4), (.int .i64 x.e5), (.int .i64 x.e6), (.int .i64 x.e7)], fun _ => rfl, fun x u h => by simp at h; rcases h with rfl | rfl | rfl | rfl | rfl | rfl | rfl | rfl <;> rfl⟩
structure Row where
  Cells : List Int
  South : A8_Int
  North : A8_Int
  West : Int
  East : Int
  deriving DecidableEq
def z_Row : Row := ⟨[], z_A8_Int, z_A8_Int, 0, 0⟩
def encN_Row : Enc (HF × Row) := ⟨19, fun x => [(.slice (x.1 0).1 x.2.Cells.length (x.1 0).2), (.int .i64 x.2.South.e0), (.int .i64 x.2.South.e1), (.int .i64 x.2.South.e2), (.int .i64 x.2.South.e3), (.int .i64 x.2.South.e4), (.int .i64 x.2.South.e5), (.int .i64 x.2.South.e6), (.int .i64 x.2.South.e7), (.int .i64 x.2.North.e0), (.int .i64 x.2.North.e1), (.int .i64 x.2.North.e2), (.int .i64 x.2.North.e3), (.int .i64 x.2.North.e4), (.int .i64 x.2.North.e5), (.int .i64 x.2.North.e6), (.int .i64 x.2.North.e7), (.int .i64 x.2.West), (.int .i64 x.2.East)], fun _ => rfl, fun x u h => by simp at h; rcases h with rfl | rfl | rfl | rfl | rfl | rfl | rfl | rfl | rfl | rfl | rfl | rfl | rfl | rfl | rfl | rfl | rfl | rfl | rfl <;> rfl⟩
def subN_Row (h : HF) (x : Row) : Own := rowR encInt (h 0).1 (h 0).2 x.Cells
structure Job where
  rows : List Row
  width : Int
  height : Int
  edges : Edges
  deriving DecidableEq
def z_Job : Job := ⟨[], 0, 0, z_Edges⟩
structure S108 where
  side : List Int
  n : Int
  deriving DecidableEq
def z_S108 : S108 := ⟨[], 0⟩
def encN_S108 : Enc (HF × S108) := ⟨2, fun x => [(.slice (x.1 0).1 x.2.side.length (x.1 0).2), (.int .i64 x.2.n)], fun _ => rfl, fun x u h => by simp at h; rcases h with rfl | rfl <;> rfl⟩
def subN_S108 (h : HF) (x : S108) : Own := rowR encInt (h 0).1 (h 0).2 x.side
def tile_Form (p0 : Pattern) : Option Bool := some ((((((decide (p0.Width ≥ 1)) && (decide (p0.Height ≥ 1))) && (decide (p0.Width ≤ 40000))) && (decide (p0.Height ≤ 40000))) && (decide (w64 (p0.Width * p0.Height) ≤ 40000))) && ((p0.Cells.length : Int) == (w64 (p0.Width * p0.Height))))
def tile_Repeat.l1 : Nat → (List Int) → Int → Pattern → Int → Int → Option (List Int)
  | 0, _, _, _, _, _ => none
  | k + 1, l432, x433, p0, p1, x343 => if (decide (x433 < p1)) = true then (if p0.Height ≠ 0 then (if p0.Width ≠ 0 then (if 0 ≤ w64 ((w64 ((Int.tmod x343 p0.Height) * p0.Width)) + (Int.tmod x433 p0.Width)) ∧ w64 ((w64 ((Int.tmod x343 p0.Height) * p0.Width)) + (Int.tmod x433 p0.Width)) < (p0.Cells.length : Int) then (if l432.length + [(rdD p0.Cells (w64 ((w64 ((Int.tmod x343 p0.Height) * p0.Width)) + (Int.tmod x433 p0.Width))) 0)].length ≤ 100000000000 then (tile_Repeat.l1 k (l432 ++ [(rdD p0.Cells (w64 ((w64 ((Int.tmod x343 p0.Height) * p0.Width)) + (Int.tmod x433 p0.Width))) 0)]) (w64 (x433 + 1)) p0 p1 x343) else none) else none) else none) else none) else (some l432)
def tile_Repeat.l0 : Nat → (List Int) → Int → Pattern → Int → Int → Option (List Int)
  | 0, _, _, _, _, _ => none
  | k + 1, l342, x343, p0, p1, p2 => if (decide (x343 < p2)) = true then ((tile_Repeat.l1 k l342 0 p0 p1 x343).bind fun x437 => tile_Repeat.l0 k x437 (w64 (x343 + 1)) p0 p1 p2) else (some l342)
def tile_Repeat (k : Nat) (p0 : Pattern) (p1 : Int) (p2 : Int) : Option (Pattern × Int) := (tile_Form p0).bind fun t41 => if (!t41) = true then (some ((Pattern.mk 0 0 ([] : List Int)), 1)) else (if ((decide (p1 < 1)) || (decide (p2 < 1))) = true then (some ((Pattern.mk 0 0 ([] : List Int)), 2)) else (if (((decide (p1 > 40000)) || (decide (p2 > 40000))) || (decide (w64 (p1 * p2) > 40000))) = true then (some ((Pattern.mk 0 0 ([] : List Int)), 4)) else ((tile_Repeat.l0 k ([] : List Int) 0 p0 p1 p2).bind fun x347 => some ((Pattern.mk p1 p2 x347), 0))))
def top_chess  : Option (List Tile) := some [(Tile.mk 0 1 1 0), (Tile.mk 1 0 0 1)]
def tile_colour_1 (p0 : Int) : Option Bool := some ((decide (p0 < 0)) || (decide (p0 ≥ 1000)))
def slices_IndexFunc_int_int_with_tile_colour_1.l0 : Nat → Int → (List Int) → Option (Sum Int Unit)
  | 0, _, _ => none
  | k + 1, x562, p0 => if (decide (x562 < (p0.length : Int))) = true then (if 0 ≤ x562 ∧ x562 < (p0.length : Int) then ((tile_colour_1 (rdD p0 x562 0)).bind fun t571 => if t571 = true then (some (.inl x562)) else (slices_IndexFunc_int_int_with_tile_colour_1.l0 k (w64 (x562 + 1)) p0)) else none) else (some (.inr ()))
def slices_IndexFunc_int_int_with_tile_colour_1 (k : Nat) (p0 : List Int) : Option Int := (slices_IndexFunc_int_int_with_tile_colour_1.l0 k 0 p0).bind fun x563 => sumb x563 (fun r => some r) (fun y580 => some (-1))
def slices_ContainsFunc_int_int_with_tile_colour_1 (k : Nat) (p0 : List Int) : Option Bool := (slices_IndexFunc_int_int_with_tile_colour_1 k p0).bind fun t582 => some (decide (t582 ≥ 0))
def tile_colour (k : Nat) (p0 : List Int) : Option Bool := (slices_ContainsFunc_int_int_with_tile_colour_1 k p0).bind fun t587 => some (!t587)
def tile_Valid.l0 : Nat → (List (Tile × Bool)) → Int → (List Tile) → Option (Sum Bool Unit)
  | 0, _, _, _ => none
  | k + 1, l661, x662, p0 => if (decide (x662 < (p0.length : Int))) = true then (if 0 ≤ x662 ∧ x662 < (p0.length : Int) then ((if (mget (rdD p0 x662 z_Tile) false l661) = true then (some true) else ((tile_colour k [(rdD p0 x662 z_Tile).N, (rdD p0 x662 z_Tile).E, (rdD p0 x662 z_Tile).S, (rdD p0 x662 z_Tile).W]).bind fun t696 => some (!t696))).bind fun x688 => if x688 = true then (some (.inl false)) else (tile_Valid.l0 k (mput (rdD p0 x662 z_Tile) true l661) (w64 (x662 + 1)) p0)) else none) else (some (.inr ()))
def tile_Valid (k : Nat) (p0 : List Tile) : Option Bool := if (decide ((p0.length : Int) > 1000)) = true then (some false) else ((tile_Valid.l0 k ([] : List (Tile × Bool)) 0 p0).bind fun x663 => sumb x663 (fun r => some r) (fun y712 => some true))
def tile_of_1 (p0 : Int) (f0 : List Tile) : Option Bool := some ((decide (p0 < 0)) || (decide (p0 ≥ (f0.length : Int))))
def slices_IndexFunc_int_int_with_tile_of_1.l0 : Nat → Int → (List Int) → (List Tile) → Option (Sum Int Unit)
  | 0, _, _, _ => none
  | k + 1, x757, p0, p1_0 => if (decide (x757 < (p0.length : Int))) = true then (if 0 ≤ x757 ∧ x757 < (p0.length : Int) then ((tile_of_1 (rdD p0 x757 0) p1_0).bind fun t766 => if t766 = true then (some (.inl x757)) else (slices_IndexFunc_int_int_with_tile_of_1.l0 k (w64 (x757 + 1)) p0 p1_0)) else none) else (some (.inr ()))
def slices_IndexFunc_int_int_with_tile_of_1 (k : Nat) (p0 : List Int) (p1_0 : List Tile) : Option Int := (slices_IndexFunc_int_int_with_tile_of_1.l0 k 0 p0 p1_0).bind fun x758 => sumb x758 (fun r => some r) (fun y775 => some (-1))
def slices_ContainsFunc_int_int_with_tile_of_1 (k : Nat) (p0 : List Int) (p1_0 : List Tile) : Option Bool := (slices_IndexFunc_int_int_with_tile_of_1 k p0 p1_0).bind fun t777 => some (decide (t777 ≥ 0))
def tile_of (k : Nat) (p0 : List Tile) (p1 : Pattern) : Option Bool := (tile_Valid k p0).bind fun t714 => (if t714 = true then ((tile_Form p1).bind fun t728 => some t728) else (some false)).bind fun x725 => (if x725 = true then ((slices_ContainsFunc_int_int_with_tile_of_1 k p1.Cells p0).bind fun t791 => some (!t791)) else (some false)).bind fun x788 => some x788
def tile_joins.l0 : Nat → Int → (List Tile) → Pattern → Bool → Option (Sum Bool Unit)
  | 0, _, _, _, _ => none
  | k + 1, x977, p0, p1, p2 => if (decide (x977 < (p1.Cells.length : Int))) = true then (if 0 ≤ x977 ∧ x977 < (p1.Cells.length : Int) then (if p1.Width ≠ 0 then ((if ((decide (w64 ((Int.tmod x977 p1.Width) + 1) < p1.Width)) || p2) = true then (if 0 ≤ (rdD p1.Cells x977 0) ∧ (rdD p1.Cells x977 0) < (p0.length : Int) then (if 0 ≤ w64 ((w64 ((w64 (Int.tdiv x977 p1.Width)) * p1.Width)) + (Int.tmod (w64 ((Int.tmod x977 p1.Width) + 1)) p1.Width)) ∧ w64 ((w64 ((w64 (Int.tdiv x977 p1.Width)) * p1.Width)) + (Int.tmod (w64 ((Int.tmod x977 p1.Width) + 1)) p1.Width)) < (p1.Cells.length : Int) then (if 0 ≤ (rdD p1.Cells (w64 ((w64 ((w64 (Int.tdiv x977 p1.Width)) * p1.Width)) + (Int.tmod (w64 ((Int.tmod x977 p1.Width) + 1)) p1.Width))) 0) ∧ (rdD p1.Cells (w64 ((w64 ((w64 (Int.tdiv x977 p1.Width)) * p1.Width)) + (Int.tmod (w64 ((Int.tmod x977 p1.Width) + 1)) p1.Width))) 0) < (p0.length : Int) then (if (((rdD p0 (rdD p1.Cells x977 0) z_Tile).E) != ((rdD p0 (rdD p1.Cells (w64 ((w64 ((w64 (Int.tdiv x977 p1.Width)) * p1.Width)) + (Int.tmod (w64 ((Int.tmod x977 p1.Width) + 1)) p1.Width))) 0) z_Tile).W)) = true then (some (.inl false)) else (some (.inr ()))) else none) else none) else none) else (some (.inr ()))).bind fun x1006 => sumb x1006 (fun r => some (.inl r)) (fun y1024 => (if ((decide (w64 ((w64 (Int.tdiv x977 p1.Width)) + 1) < p1.Height)) || p2) = true then (if 0 ≤ (rdD p1.Cells x977 0) ∧ (rdD p1.Cells x977 0) < (p0.length : Int) then (if p1.Height ≠ 0 then (if 0 ≤ w64 ((w64 ((Int.tmod (w64 ((w64 (Int.tdiv x977 p1.Width)) + 1)) p1.Height) * p1.Width)) + (Int.tmod x977 p1.Width)) ∧ w64 ((w64 ((Int.tmod (w64 ((w64 (Int.tdiv x977 p1.Width)) + 1)) p1.Height) * p1.Width)) + (Int.tmod x977 p1.Width)) < (p1.Cells.length : Int) then (if 0 ≤ (rdD p1.Cells (w64 ((w64 ((Int.tmod (w64 ((w64 (Int.tdiv x977 p1.Width)) + 1)) p1.Height) * p1.Width)) + (Int.tmod x977 p1.Width))) 0) ∧ (rdD p1.Cells (w64 ((w64 ((Int.tmod (w64 ((w64 (Int.tdiv x977 p1.Width)) + 1)) p1.Height) * p1.Width)) + (Int.tmod x977 p1.Width))) 0) < (p0.length : Int) then (if (((rdD p0 (rdD p1.Cells x977 0) z_Tile).N) != ((rdD p0 (rdD p1.Cells (w64 ((w64 ((Int.tmod (w64 ((w64 (Int.tdiv x977 p1.Width)) + 1)) p1.Height) * p1.Width)) + (Int.tmod x977 p1.Width))) 0) z_Tile).S)) = true then (some (.inl false)) else (some (.inr ()))) else none) else none) else none) else none) else (some (.inr ()))).bind fun x1044 => sumb x1044 (fun r => some (.inl r)) (fun y1065 => tile_joins.l0 k (w64 (x977 + 1)) p0 p1 p2))) else none) else none) else (some (.inr ()))
def tile_joins (k : Nat) (p0 : List Tile) (p1 : Pattern) (p2 : Bool) : Option Bool := (tile_joins.l0 k 0 p0 p1 p2).bind fun x978 => sumb x978 (fun r => some r) (fun y1070 => some true)
def tile_Repeats (k : Nat) (p0 : List Tile) (p1 : Pattern) : Option Bool := (tile_of k p0 p1).bind fun t801 => (if t801 = true then ((tile_joins k p0 p1 true).bind fun t1081 => some t1081) else (some false)).bind fun x1078 => some x1078
def top_sameInts.l0 : Nat → Int → (List Int) → (List Int) → Option (Sum Bool Unit)
  | 0, _, _, _ => none
  | k + 1, x1168, p0, p1 => if (decide (x1168 < (p0.length : Int))) = true then (if 0 ≤ x1168 ∧ x1168 < (p0.length : Int) then (if 0 ≤ x1168 ∧ x1168 < (p1.length : Int) then (if ((rdD p0 x1168 0) != (rdD p1 x1168 0)) = true then (some (.inl false)) else (top_sameInts.l0 k (w64 (x1168 + 1)) p0 p1)) else none) else none) else (some (.inr ()))
def top_sameInts (k : Nat) (p0 : List Int) (p1 : List Int) : Option Bool := if ((p0.length : Int) != (p1.length : Int)) = true then (some false) else ((top_sameInts.l0 k 0 p0 p1).bind fun x1169 => sumb x1169 (fun r => some r) (fun y1188 => some true))
def tile_Fits (k : Nat) (p0 : List Tile) (p1 : Pattern) : Option Bool := (tile_of k p0 p1).bind fun t1225 => (if t1225 = true then ((tile_joins k p0 p1 false).bind fun t1239 => some t1239) else (some false)).bind fun x1236 => some x1236
def top_lives (k : Nat)  : Option Bool := (tile_Repeat k (Pattern.mk 2 2 [0, 1, 1, 0]) 3 1).bind fun t489 => ((top_chess).bind fun t1520 => (tile_Repeats k t1520 (Pattern.mk 2 2 [0, 1, 1, 0])).bind fun t1527 => (if t1527 = true then ((top_chess).bind fun t1553 => (tile_Repeats k t1553 (Pattern.mk 1 1 [0])).bind fun t1565 => some (!t1565)) else (some false)).bind fun x1550 => (if (x1550 && (t489.2 == 0)) = true then ((top_sameInts k t489.1.Cells [0, 1, 0]).bind fun t1596 => some t1596) else (some false)).bind fun x1588 => (if x1588 = true then ((top_chess).bind fun t1622 => (tile_Fits k t1622 t489.1).bind fun t1629 => some t1629) else (some false)).bind fun x1619 => some x1619).bind fun x1516 => some x1516
def rows_Few.l0 : Nat → Int → Int → (List Tile) → Int → Option (Sum Bool Unit)
  | 0, _, _, _, _ => none
  | k + 1, x1782, x1783, p0, p1 => if (decide (x1783 < p1)) = true then (if (decide (w64 (x1782 * (maxI (p0.length : Int) 1)) > 5000)) = true then (some (.inl false)) else (rows_Few.l0 k (w64 (x1782 * (maxI (p0.length : Int) 1))) (w64 (x1783 + 1)) p0 p1)) else (some (.inr ()))
def rows_Few (k : Nat) (p0 : List Tile) (p1 : Int) : Option Bool := (rows_Few.l0 k 1 0 p0 p1).bind fun x1784 => sumb x1784 (fun r => some r) (fun y1795 => some true)
def square_check (k : Nat) (p0 : List Tile) (p1 : Int) : Option Int := (tile_Valid k p0).bind fun t1767 => if (!t1767) = true then (some 1) else (if ((decide (p1 < 1)) || (decide (p1 > 8))) = true then (some 2) else ((rows_Few k p0 p1).bind fun t1797 => if (!t1797) = true then (some 4) else (some 0)))
def rows_rowOf.l0 : Nat → A8_Int → A8_Int → Int → (List Tile) → (List Int) → Option (A8_Int × A8_Int)
  | 0, _, _, _, _, _ => none
  | k + 1, a2010, a2011, x2012, p0, p1 => if (decide (x2012 < (p1.length : Int))) = true then (if 0 ≤ x2012 ∧ x2012 < (p1.length : Int) then (if 0 ≤ (rdD p1 x2012 0) ∧ (rdD p1 x2012 0) < (p0.length : Int) then (if 0 ≤ x2012 ∧ x2012 < (8 : Int) then (rows_rowOf.l0 k (A8_Int.set a2010 x2012 ((rdD p0 (rdD p1 x2012 0) z_Tile).S)) (A8_Int.set a2011 x2012 ((rdD p0 (rdD p1 x2012 0) z_Tile).N)) (w64 (x2012 + 1)) p0 p1) else none) else none) else none) else (some (a2010, a2011))
def rows_rowOf (k : Nat) (p0 : List Tile) (p1 : List Int) : Option Row := if ([] : List Int).length + p1.length ≤ 100000000000 then ((rows_rowOf.l0 k (A8_Int.mk 0 0 0 0 0 0 0 0) (A8_Int.mk 0 0 0 0 0 0 0 0) 0 p0 p1).bind fun x2015 => if 0 ≤ (0 : Int) ∧ (0 : Int) < (p1.length : Int) then (if 0 ≤ (rdD p1 (0 : Int) 0) ∧ (rdD p1 (0 : Int) 0) < (p0.length : Int) then (if 0 ≤ w64 ((p1.length : Int) - 1) ∧ w64 ((p1.length : Int) - 1) < (p1.length : Int) then (if 0 ≤ (rdD p1 (w64 ((p1.length : Int) - 1)) 0) ∧ (rdD p1 (w64 ((p1.length : Int) - 1)) 0) < (p0.length : Int) then (some (Row.mk (([] : List Int) ++ p1) x2015.1 x2015.2 ((rdD p0 (rdD p1 (0 : Int) 0) z_Tile).W) ((rdD p0 (rdD p1 (w64 ((p1.length : Int) - 1)) 0) z_Tile).E))) else none) else none) else none) else none) else none
def rows_All_1.l0 : Nat → (List Row) → (List Int) → Int → Int → Int → (List Tile) → (Int → Int → (List Row) → (List Tile) → (List Int) → Option ((List Row) × (List Int))) → Option ((List Row) × (List Int))
  | 0, _, _, _, _, _, _, _ => none
  | k + 1, l2467, l2471, x2472, p0, f0, f2, rc_ => if (decide (x2472 < (f2.length : Int))) = true then (if 0 ≤ x2472 ∧ x2472 < (f2.length : Int) then ((if (p0 == 0) = true then (some true) else (if 0 ≤ w64 (p0 - 1) ∧ w64 (p0 - 1) < (l2471.length : Int) then (if 0 ≤ (rdD l2471 (w64 (p0 - 1)) 0) ∧ (rdD l2471 (w64 (p0 - 1)) 0) < (f2.length : Int) then (some (((rdD f2 (rdD l2471 (w64 (p0 - 1)) 0) z_Tile).E) == ((rdD f2 x2472 z_Tile).W))) else none) else none)).bind fun x2506 => (if x2506 = true then (if 0 ≤ p0 ∧ p0 < (l2471.length : Int) then ((rc_ (w64 (p0 + 1)) f0 l2467 f2 (l2471.set (p0).toNat x2472)).bind fun t2552 => some (t2552.1, t2552.2)) else none) else (some (l2467, l2471))).bind fun x2545 => rows_All_1.l0 k x2545.1 x2545.2 (w64 (x2472 + 1)) p0 f0 f2 rc_) else none) else (some (l2467, l2471))
def rows_All_1 : Nat → Int → Int → (List Row) → (List Tile) → (List Int) → Option ((List Row) × (List Int))
  | 0, _, _, _, _, _ => none
  | k + 1, p0, f0, f1, f2, f3 => if (p0 == f0) = true then ((rows_rowOf k f2 f3).bind fun t2277 => if f1.length + 1 ≤ 100000000000 then (some (f1 ++ [t2277], f3)) else none) else ((rows_All_1.l0 k f1 f3 0 p0 f0 f2 (rows_All_1 k)).bind fun x2480 => some (x2480.1, x2480.2))
def rows_All (k : Nat) (p0 : List Tile) (p1 : Int) : Option (List Row) := if 0 ≤ p1 ∧ p1 ≤ 100000000000 then ((rows_All_1 k 0 p1 ([] : List Row) p0 (List.replicate p1.toNat (0 : Int))).bind fun t2572 => some t2572.1) else none
def fill_begin.l0 : Nat → Int → Int → Int → Edges → Option (Sum ((Option Job) × Int) Unit)
  | 0, _, _, _, _ => none
  | k + 1, x2654, p1, p2, p3 => if (decide (x2654 < ([(S108.mk p3.North p1), (S108.mk p3.South p1), (S108.mk p3.East p2), (S108.mk p3.West p2)].length : Int))) = true then (if 0 ≤ x2654 ∧ x2654 < ([(S108.mk p3.North p1), (S108.mk p3.South p1), (S108.mk p3.East p2), (S108.mk p3.West p2)].length : Int) then (if (((((rdD [(S108.mk p3.North p1), (S108.mk p3.South p1), (S108.mk p3.East p2), (S108.mk p3.West p2)] x2654 z_S108).side).length : Int) != 0) && ((((rdD [(S108.mk p3.North p1), (S108.mk p3.South p1), (S108.mk p3.East p2), (S108.mk p3.West p2)] x2654 z_S108).side).length : Int) != ((rdD [(S108.mk p3.North p1), (S108.mk p3.South p1), (S108.mk p3.East p2), (S108.mk p3.West p2)] x2654 z_S108).n))) = true then (some (.inl (none, 2))) else (fill_begin.l0 k (w64 (x2654 + 1)) p1 p2 p3)) else none) else (some (.inr ()))
def fill_begin (k : Nat) (p0 : List Tile) (p1 : Int) (p2 : Int) (p3 : Edges) : Option ((Option Job) × Int) := (tile_Valid k p0).bind fun t2612 => if (!t2612) = true then (some (none, 1)) else (if ((((decide (p1 < 1)) || (decide (p1 > 8))) || (decide (p2 < 1))) || (decide (p2 > 60))) = true then (some (none, 2)) else ((fill_begin.l0 k 0 p1 p2 p3).bind fun x2655 => sumb x2655 (fun r => some r) (fun y2675 => (rows_Few k p0 p1).bind fun t2677 => if (!t2677) = true then (some (none, 4)) else ((rows_All k p0 p1).bind fun t2697 => some ((some (Job.mk t2697 p1 p2 p3)), 0)))))
def fill_at (p0 : List Int) (p1 : Int) (p2 : Int) : Option Bool := (if ((p0.length : Int) == 0) = true then (some true) else (if 0 ≤ p1 ∧ p1 < (p0.length : Int) then (some ((rdD p0 p1 0) == p2)) else none)).bind fun b2811 => some b2811
def fill_job_allows.l0 : Nat → Int → Job → Row → Int → Option (Sum Bool Unit)
  | 0, _, _, _, _ => none
  | k + 1, x3401, p0, p1, p2 => if (decide (x3401 < p0.width)) = true then ((if (p2 == 0) = true then (if (p2 == (w64 (p0.height - 1))) = true then (if 0 ≤ x3401 ∧ x3401 < (8 : Int) then ((fill_at p0.edges.South x3401 (A8_Int.get p1.South x3401)).bind fun t3583 => (if (!t3583) = true then (some true) else ((fill_at p0.edges.North x3401 (A8_Int.get p1.North x3401)).bind fun t3597 => some (!t3597))).bind fun x3594 => some x3594) else none) else (if 0 ≤ x3401 ∧ x3401 < (8 : Int) then ((fill_at p0.edges.South x3401 (A8_Int.get p1.South x3401)).bind fun t3643 => some (!t3643)) else none)) else (if (p2 == (w64 (p0.height - 1))) = true then (if 0 ≤ x3401 ∧ x3401 < (8 : Int) then ((fill_at p0.edges.North x3401 (A8_Int.get p1.North x3401)).bind fun t3667 => some (!t3667)) else none) else (some false))).bind fun x3544 => if x3544 = true then (some (.inl false)) else (fill_job_allows.l0 k (w64 (x3401 + 1)) p0 p1 p2)) else (some (.inr ()))
def fill_job_allows (k : Nat) (p0 : Job) (p1 : Row) (p2 : Int) : Option Bool := (fill_at p0.edges.West p2 p1.West).bind fun t2841 => (if (!t2841) = true then (some true) else ((fill_at p0.edges.East p2 p1.East).bind fun t2855 => some (!t2855))).bind fun x2852 => if x2852 = true then (some false) else ((fill_job_allows.l0 k 0 p0 p1 p2).bind fun x3402 => sumb x3402 (fun r => some r) (fun y3688 => some true))
def fill_First.l0 : Nat → Int → Option Unit
  | 0, _ => none
  | k + 1, p2 => if (decide (w64 (p2 - 1) ≥ 0)) = true then (if 0 ≤ w64 (p2 - 1) ∧ w64 (p2 - 1) < ((List.replicate p2.toNat (none : Option (List (A8_Int × Bool)))).length : Int) then (none) else none) else (some ())
def fill_First.l1 : Nat → Int → Option Unit
  | 0, _ => none
  | k + 1, p2 => if (decide (0 < p2)) = true then (none) else (some ())
def fill_First.l3 : Nat → (List (Option (List (A8_Int × Bool)))) → Int → Int → Edges → Job → Int → Option (List (Option (List (A8_Int × Bool))))
  | 0, _, _, _, _, _, _ => none
  | k + 1, l5167, x5169, p2, p3, y2718, x4792 => if (decide (x5169 < (y2718.rows.length : Int))) = true then (if 0 ≤ x5169 ∧ x5169 < (y2718.rows.length : Int) then ((if (x4792 == (w64 (p2 - 1))) = true then ((fill_job_allows k (Job.mk y2718.rows y2718.width y2718.height p3) (rdD y2718.rows x5169 z_Row) x4792).bind fun t5266 => some t5266) else ((fill_job_allows k (Job.mk y2718.rows y2718.width y2718.height p3) (rdD y2718.rows x5169 z_Row) x4792).bind fun t5290 => (if t5290 = true then (if 0 ≤ w64 (x4792 + 1) ∧ w64 (x4792 + 1) < (l5167.length : Int) then ((rdD l5167 (w64 (x4792 + 1)) none).bind fun m5302 => (some (mget ((rdD y2718.rows x5169 z_Row).North) false m5302))) else none) else (some false)).bind fun b5298 => some b5298)).bind fun x5248 => (if x5248 = true then (if 0 ≤ x4792 ∧ x4792 < (l5167.length : Int) then ((rdD l5167 x4792 none).bind fun m5345 => (some (l5167.set x4792.toNat (some (mput ((rdD y2718.rows x5169 z_Row).South) true m5345))))) else none) else (some l5167)).bind fun x5330 => fill_First.l3 k x5330 (w64 (x5169 + 1)) p2 p3 y2718 x4792) else none) else (some l5167)
def fill_First.l2 : Nat → (List (Option (List (A8_Int × Bool)))) → Int → Int → Edges → Job → Option (List (Option (List (A8_Int × Bool))))
  | 0, _, _, _, _, _ => none
  | k + 1, l4790, x4792, p2, p3, y2718 => if (decide (x4792 ≥ 0)) = true then (if 0 ≤ x4792 ∧ x4792 < (l4790.length : Int) then ((fill_First.l3 k (l4790.set x4792.toNat (some ([] : List (A8_Int × Bool)))) 0 p2 p3 y2718 x4792).bind fun x5174 => fill_First.l2 k x5174 (w64 (x4792 - 1)) p2 p3 y2718) else none) else (some l4790)
def fill_First.l5 : Nat → (Option Int) → Int → Int → Edges → Job → (List (Option (List (A8_Int × Bool)))) → Int → Option Int
  | 0, _, _, _, _, _, _, _ => none
  | k + 1, o7059, x7060, p2, p3, y2718, x4797, x6590 => if (decide (x7060 < (y2718.rows.length : Int))) = true then (if 0 ≤ x7060 ∧ x7060 < (y2718.rows.length : Int) then ((if (x6590 == (w64 (p2 - 1))) = true then ((fill_job_allows k (Job.mk y2718.rows y2718.width y2718.height p3) (rdD y2718.rows x7060 z_Row) x6590).bind fun t7226 => (if t7226 = true then (optM o7059 (some true) (fun i7238 => if 0 ≤ i7238 ∧ i7238 < (y2718.rows.length : Int) then (some ((((rdD y2718.rows i7238 z_Row).North).e0) == (((rdD y2718.rows x7060 z_Row).South).e0) && ((((rdD y2718.rows i7238 z_Row).North).e1) == (((rdD y2718.rows x7060 z_Row).South).e1) && ((((rdD y2718.rows i7238 z_Row).North).e2) == (((rdD y2718.rows x7060 z_Row).South).e2) && ((((rdD y2718.rows i7238 z_Row).North).e3) == (((rdD y2718.rows x7060 z_Row).South).e3) && ((((rdD y2718.rows i7238 z_Row).North).e4) == (((rdD y2718.rows x7060 z_Row).South).e4) && ((((rdD y2718.rows i7238 z_Row).North).e5) == (((rdD y2718.rows x7060 z_Row).South).e5) && ((((rdD y2718.rows i7238 z_Row).North).e6) == (((rdD y2718.rows x7060 z_Row).South).e6) && ((((rdD y2718.rows i7238 z_Row).North).e7) == (((rdD y2718.rows x7060 z_Row).South).e7)))))))))) else none)) else (some false)).bind fun b7234 => some b7234) else ((fill_job_allows k (Job.mk y2718.rows y2718.width y2718.height p3) (rdD y2718.rows x7060 z_Row) x6590).bind fun t7268 => (if t7268 = true then (optM o7059 (some true) (fun i7280 => if 0 ≤ i7280 ∧ i7280 < (y2718.rows.length : Int) then (some ((((rdD y2718.rows i7280 z_Row).North).e0) == (((rdD y2718.rows x7060 z_Row).South).e0) && ((((rdD y2718.rows i7280 z_Row).North).e1) == (((rdD y2718.rows x7060 z_Row).South).e1) && ((((rdD y2718.rows i7280 z_Row).North).e2) == (((rdD y2718.rows x7060 z_Row).South).e2) && ((((rdD y2718.rows i7280 z_Row).North).e3) == (((rdD y2718.rows x7060 z_Row).South).e3) && ((((rdD y2718.rows i7280 z_Row).North).e4) == (((rdD y2718.rows x7060 z_Row).South).e4) && ((((rdD y2718.rows i7280 z_Row).North).e5) == (((rdD y2718.rows x7060 z_Row).South).e5) && ((((rdD y2718.rows i7280 z_Row).North).e6) == (((rdD y2718.rows x7060 z_Row).South).e6) && ((((rdD y2718.rows i7280 z_Row).North).e7) == (((rdD y2718.rows x7060 z_Row).South).e7)))))))))) else none)) else (some false)).bind fun b7276 => (if b7276 = true then (if 0 ≤ w64 (x6590 + 1) ∧ w64 (x6590 + 1) < (x4797.length : Int) then ((rdD x4797 (w64 (x6590 + 1)) none).bind fun m7289 => (some (mget ((rdD y2718.rows x7060 z_Row).North) false m7289))) else none) else (some false)).bind fun b7285 => some b7285)).bind fun x7190 => if x7190 = true then (some x7060) else (fill_First.l5 k o7059 (w64 (x7060 + 1)) p2 p3 y2718 x4797 x6590)) else none) else (some (-1))
def fill_First.l4 : Nat → (List Int) → (Option Int) → Int → Int → Edges → Job → (List (Option (List (A8_Int × Bool)))) → Option (Sum (Pattern × Int) (List Int))
  | 0, _, _, _, _, _, _, _ => none
  | k + 1, l6588, o6589, x6590, p2, p3, y2718, x4797 => if (decide (x6590 < p2)) = true then ((fill_First.l5 k o6589 0 p2 p3 y2718 x4797 x6590).bind fun x7062 => if (decide (x7062 < 0)) = true then (some (.inl ((Pattern.mk 0 0 ([] : List Int)), 6))) else (if 0 ≤ x7062 ∧ x7062 < (y2718.rows.length : Int) then (if l6588.length + ((rdD y2718.rows x7062 z_Row).Cells).length ≤ 100000000000 then (fill_First.l4 k (l6588 ++ ((rdD y2718.rows x7062 z_Row).Cells)) (some x7062) (w64 (x6590 + 1)) p2 p3 y2718 x4797) else none) else none)) else (some (.inr l6588))
def fill_First (k : Nat) (p0 : List Tile) (p1 : Int) (p2 : Int) (p3 : Edges) : Option (Pattern × Int) := (fill_begin k p0 p1 p2 p3).bind fun t2709 => optM t2709.1 (if (t2709.2 != 0) = true then (some ((Pattern.mk 0 0 ([] : List Int)), t2709.2)) else (if 0 ≤ p2 ∧ p2 ≤ 100000000000 then ((fill_First.l0 k p2).bind fun x2739 => (fill_First.l1 k p2).bind fun x2765 => some ((Pattern.mk p1 p2 ([] : List Int)), 0)) else none)) (fun y2718 => if (t2709.2 != 0) = true then (some ((Pattern.mk 0 0 ([] : List Int)), t2709.2)) else (if 0 ≤ p2 ∧ p2 ≤ 100000000000 then ((fill_First.l2 k (List.replicate p2.toNat (none : Option (List (A8_Int × Bool)))) (w64 (p2 - 1)) p2 p3 y2718).bind fun x4797 => (fill_First.l4 k ([] : List Int) none 0 p2 p3 y2718 x4797).bind fun x6594 => sumb x6594 (fun r => some r) (fun y7324 => some ((Pattern.mk p1 p2 y7324), 0))) else none))
def square_exists (k : Nat) (p0 : List Tile) (p1 : Int) : Option Bool := (fill_First k p0 p1 p1 (Edges.mk ([] : List Int) ([] : List Int) ([] : List Int) ([] : List Int))).bind fun t7328 => some (t7328.2 == 0)
def square_Exists (k : Nat) (p0 : List Tile) (p1 : Int) : Option (Bool × Int) := (square_check k p0 p1).bind fun t1803 => if (t1803 != 0) = true then (some (false, t1803)) else ((square_exists k p0 p1).bind fun t7341 => some (t7341, 0))
def top_of.l1 : Nat → Int → (List Tile) → Int → Option (Sum Bool Unit)
  | 0, _, _, _ => none
  | k + 1, x7534, p0, x7489 => if (decide (x7534 < x7489)) = true then (if 0 ≤ x7534 ∧ x7534 < (p0.length : Int) then (if (((rdD p0 x7534 z_Tile).N) == ((rdD p0 x7489 z_Tile).N) && (((rdD p0 x7534 z_Tile).E) == ((rdD p0 x7489 z_Tile).E) && (((rdD p0 x7534 z_Tile).S) == ((rdD p0 x7489 z_Tile).S) && (((rdD p0 x7534 z_Tile).W) == ((rdD p0 x7489 z_Tile).W))))) = true then (some (.inl false)) else (top_of.l1 k (w64 (x7534 + 1)) p0 x7489)) else none) else (some (.inr ()))
def top_of.l0 : Nat → Int → (List Tile) → Option (Sum Bool Unit)
  | 0, _, _ => none
  | k + 1, x7489, p0 => if (decide (x7489 < (p0.length : Int))) = true then (if 0 ≤ x7489 ∧ x7489 < (p0.length : Int) then (if ((((((((decide ((rdD p0 x7489 z_Tile).N < 0)) || (decide ((rdD p0 x7489 z_Tile).E < 0))) || (decide ((rdD p0 x7489 z_Tile).S < 0))) || (decide ((rdD p0 x7489 z_Tile).W < 0))) || (decide ((rdD p0 x7489 z_Tile).N ≥ 1000))) || (decide ((rdD p0 x7489 z_Tile).E ≥ 1000))) || (decide ((rdD p0 x7489 z_Tile).S ≥ 1000))) || (decide ((rdD p0 x7489 z_Tile).W ≥ 1000))) = true then (some (.inl false)) else ((top_of.l1 k 0 p0 x7489).bind fun x7535 => sumb x7535 (fun r => some (.inl r)) (fun y7551 => top_of.l0 k (w64 (x7489 + 1)) p0))) else none) else (some (.inr ()))
def top_of.l2 : Nat → Int → (List Tile) → Pattern → Option (Sum Bool Unit)
  | 0, _, _, _ => none
  | k + 1, x7569, p0, p1 => if (decide (x7569 < (p1.Cells.length : Int))) = true then (if 0 ≤ x7569 ∧ x7569 < (p1.Cells.length : Int) then (if ((decide ((rdD p1.Cells x7569 0) < 0)) || (decide ((rdD p1.Cells x7569 0) ≥ (p0.length : Int)))) = true then (some (.inl false)) else (top_of.l2 k (w64 (x7569 + 1)) p0 p1)) else none) else (some (.inr ()))
def top_of.l4 : Nat → Int → (List Tile) → Pattern → Bool → Int → Option (Sum Bool Unit)
  | 0, _, _, _, _, _ => none
  | k + 1, x8656, p0, p1, p2, x8389 => if (decide (x8656 < p1.Width)) = true then (if 0 ≤ w64 ((w64 (x8389 * p1.Width)) + x8656) ∧ w64 ((w64 (x8389 * p1.Width)) + x8656) < (p1.Cells.length : Int) then (if 0 ≤ (rdD p1.Cells (w64 ((w64 (x8389 * p1.Width)) + x8656)) 0) ∧ (rdD p1.Cells (w64 ((w64 (x8389 * p1.Width)) + x8656)) 0) < (p0.length : Int) then ((if p2 = true then (if p1.Width ≠ 0 then (if 0 ≤ w64 ((w64 (x8389 * p1.Width)) + (Int.tmod (w64 (x8656 + 1)) p1.Width)) ∧ w64 ((w64 (x8389 * p1.Width)) + (Int.tmod (w64 (x8656 + 1)) p1.Width)) < (p1.Cells.length : Int) then (if 0 ≤ (rdD p1.Cells (w64 ((w64 (x8389 * p1.Width)) + (Int.tmod (w64 (x8656 + 1)) p1.Width))) 0) ∧ (rdD p1.Cells (w64 ((w64 (x8389 * p1.Width)) + (Int.tmod (w64 (x8656 + 1)) p1.Width))) 0) < (p0.length : Int) then (some (((rdD p0 (rdD p1.Cells (w64 ((w64 (x8389 * p1.Width)) + x8656)) 0) z_Tile).E) != ((rdD p0 (rdD p1.Cells (w64 ((w64 (x8389 * p1.Width)) + (Int.tmod (w64 (x8656 + 1)) p1.Width))) 0) z_Tile).W))) else none) else none) else none) else (if (decide (w64 (x8656 + 1) < p1.Width)) = true then (if p1.Width ≠ 0 then (if 0 ≤ w64 ((w64 (x8389 * p1.Width)) + (Int.tmod (w64 (x8656 + 1)) p1.Width)) ∧ w64 ((w64 (x8389 * p1.Width)) + (Int.tmod (w64 (x8656 + 1)) p1.Width)) < (p1.Cells.length : Int) then (if 0 ≤ (rdD p1.Cells (w64 ((w64 (x8389 * p1.Width)) + (Int.tmod (w64 (x8656 + 1)) p1.Width))) 0) ∧ (rdD p1.Cells (w64 ((w64 (x8389 * p1.Width)) + (Int.tmod (w64 (x8656 + 1)) p1.Width))) 0) < (p0.length : Int) then (some (((rdD p0 (rdD p1.Cells (w64 ((w64 (x8389 * p1.Width)) + x8656)) 0) z_Tile).E) != ((rdD p0 (rdD p1.Cells (w64 ((w64 (x8389 * p1.Width)) + (Int.tmod (w64 (x8656 + 1)) p1.Width))) 0) z_Tile).W))) else none) else none) else none) else (some false))).bind fun x8699 => if x8699 = true then (some (.inl false)) else ((if p2 = true then (if p1.Height ≠ 0 then (if 0 ≤ w64 ((w64 ((Int.tmod (w64 (x8389 + 1)) p1.Height) * p1.Width)) + x8656) ∧ w64 ((w64 ((Int.tmod (w64 (x8389 + 1)) p1.Height) * p1.Width)) + x8656) < (p1.Cells.length : Int) then (if 0 ≤ (rdD p1.Cells (w64 ((w64 ((Int.tmod (w64 (x8389 + 1)) p1.Height) * p1.Width)) + x8656)) 0) ∧ (rdD p1.Cells (w64 ((w64 ((Int.tmod (w64 (x8389 + 1)) p1.Height) * p1.Width)) + x8656)) 0) < (p0.length : Int) then (some (((rdD p0 (rdD p1.Cells (w64 ((w64 (x8389 * p1.Width)) + x8656)) 0) z_Tile).N) != ((rdD p0 (rdD p1.Cells (w64 ((w64 ((Int.tmod (w64 (x8389 + 1)) p1.Height) * p1.Width)) + x8656)) 0) z_Tile).S))) else none) else none) else none) else (if (decide (w64 (x8389 + 1) < p1.Height)) = true then (if p1.Height ≠ 0 then (if 0 ≤ w64 ((w64 ((Int.tmod (w64 (x8389 + 1)) p1.Height) * p1.Width)) + x8656) ∧ w64 ((w64 ((Int.tmod (w64 (x8389 + 1)) p1.Height) * p1.Width)) + x8656) < (p1.Cells.length : Int) then (if 0 ≤ (rdD p1.Cells (w64 ((w64 ((Int.tmod (w64 (x8389 + 1)) p1.Height) * p1.Width)) + x8656)) 0) ∧ (rdD p1.Cells (w64 ((w64 ((Int.tmod (w64 (x8389 + 1)) p1.Height) * p1.Width)) + x8656)) 0) < (p0.length : Int) then (some (((rdD p0 (rdD p1.Cells (w64 ((w64 (x8389 * p1.Width)) + x8656)) 0) z_Tile).N) != ((rdD p0 (rdD p1.Cells (w64 ((w64 ((Int.tmod (w64 (x8389 + 1)) p1.Height) * p1.Width)) + x8656)) 0) z_Tile).S))) else none) else none) else none) else (some false))).bind fun x8759 => if x8759 = true then (some (.inl false)) else (top_of.l4 k (w64 (x8656 + 1)) p0 p1 p2 x8389))) else none) else none) else (some (.inr ()))
def top_of.l3 : Nat → Int → (List Tile) → Pattern → Bool → Option (Sum Bool Unit)
  | 0, _, _, _, _ => none
  | k + 1, x8389, p0, p1, p2 => if (decide (x8389 < p1.Height)) = true then ((top_of.l4 k 0 p0 p1 p2 x8389).bind fun x8657 => sumb x8657 (fun r => some (.inl r)) (fun y8795 => top_of.l3 k (w64 (x8389 + 1)) p0 p1 p2)) else (some (.inr ()))
def top_of (k : Nat) (p0 : List Tile) (p1 : Pattern) (p2 : Bool) : Option Bool := if (((((((decide ((p0.length : Int) > 1000)) || (decide (p1.Width < 1))) || (decide (p1.Height < 1))) || (decide (p1.Width > 40000))) || (decide (p1.Height > 40000))) || (decide (w64 (p1.Width * p1.Height) > 40000))) || ((p1.Cells.length : Int) != (w64 (p1.Width * p1.Height)))) = true then (some false) else ((top_of.l0 k 0 p0).bind fun x7490 => sumb x7490 (fun r => some r) (fun y7556 => (top_of.l2 k 0 p0 p1).bind fun x7570 => sumb x7570 (fun r => some r) (fun y7584 => (top_of.l3 k 0 p0 p1 p2).bind fun x8390 => sumb x8390 (fun r => some r) (fun y8800 => some true))))
def top_TopSquares (k : Nat) (p0 : List Tile) (p1 : Int) (p2 : Pattern) : Option Bool := if ((decide ((p0.length : Int) > 40)) || (decide ((p2.Cells.length : Int) > 5000))) = true then ((top_lives k).bind fun t1762 => some t1762) else ((square_Exists k p0 p1).bind fun t7346 => if (t7346.2 != 0) = true then ((top_lives k).bind fun t7352 => some t7352) else (if (!t7346.1) = true then ((if ((decide (p2.Width < p1)) || (decide (p2.Height < p1))) = true then (some true) else ((top_of k p0 p2 false).bind fun t8811 => some (!t8811))).bind fun x8808 => (if x8808 = true then ((top_lives k).bind fun t8830 => some t8830) else (some false)).bind fun x8827 => some x8827) else ((fill_First k p0 p1 p1 (Edges.mk ([] : List Int) ([] : List Int) ([] : List Int) ([] : List Int))).bind fun t8840 => (if (t8840.2 == 4) = true then (some true) else ((if (((t8840.2 == 0) && (t8840.1.Width == p1)) && (t8840.1.Height == p1)) = true then ((top_of k p0 t8840.1 false).bind fun t8893 => some t8893) else (some false)).bind fun x8890 => some x8890)).bind fun x8877 => (if x8877 = true then ((top_lives k).bind fun t8917 => some t8917) else (some false)).bind fun x8914 => some x8914)))
end Gp
namespace Gp
open Go Gw Go.Proofs Go.RowKit
def ok_Tile (a : Tile) : Prop := (ok64 a.N) ∧ (ok64 a.E) ∧ (ok64 a.S) ∧ (ok64 a.W)
theorem opn_Tile_24 {H : Type} {enc : TypeId × Value → H} {w : World} {base : Nat} {spare : Nat → Bool} {held : Bool} {fuel : Nat} {cs : List Value} {x : DataW H × List MemPlace} (h : DataW.trod enc Try.prog w base spare held fuel 24 cs = some x) : ∃ (a : Tile), cs = [.int .i64 a.N, .int .i64 a.E, .int .i64 a.S, .int .i64 a.W] ∧ ok_Tile a := by
  obtain ⟨hl, n, hf⟩ := opn_fields Try.underlying24 h
  have hl0 : cs.length = 4 := hl.trans (by kernel_rfl)
  obtain ⟨q0, r0, rfl, hl1⟩ := cons_of hl0
  obtain ⟨q1, r1, rfl, hl2⟩ := cons_of hl1
  obtain ⟨q2, r2, rfl, hl3⟩ := cons_of hl2
  obtain ⟨q3, r3, rfl, hl4⟩ := cons_of hl3
  obtain rfl := List.eq_nil_of_length_eq_zero hl4
  obtain ⟨y0, h0⟩ := hf 0 _ 1 rfl (by kernel_rfl)
  have h0 : DataW.trod enc Try.prog w base spare held n 3 [q0] = some y0 := h0
  obtain ⟨a0, e0, w0⟩ := opn_int Try.underlying3 h0
  injection e0 with f0 e0
  subst f0
  obtain ⟨y1, h1⟩ := hf 1 _ 1 rfl (by kernel_rfl)
  have h1 : DataW.trod enc Try.prog w base spare held n 3 [q1] = some y1 := h1
  obtain ⟨a1, e1, w1⟩ := opn_int Try.underlying3 h1
  injection e1 with f1 e1
  subst f1
  obtain ⟨y2, h2⟩ := hf 2 _ 1 rfl (by kernel_rfl)
  have h2 : DataW.trod enc Try.prog w base spare held n 3 [q2] = some y2 := h2
  obtain ⟨a2, e2, w2⟩ := opn_int Try.underlying3 h2
  injection e2 with f2 e2
  subst f2
  obtain ⟨y3, h3⟩ := hf 3 _ 1 rfl (by kernel_rfl)
  have h3 : DataW.trod enc Try.prog w base spare held n 3 [q3] = some y3 := h3
  obtain ⟨a3, e3, w3⟩ := opn_int Try.underlying3 h3
  injection e3 with f3 e3
  subst f3
  exact ⟨⟨a0, a1, a2, a3⟩, rfl, ⟨wf64 w0, wf64 w1, wf64 w2, wf64 w3⟩⟩
theorem opens_Tile_24 : Opens Try.prog 24 enc_Tile ok_Tile := ⟨by kernel_rfl, by decide, fun h => opn_Tile_24 h⟩
def ok_Pattern (a : Pattern) : Prop := (ok64 a.Width) ∧ (ok64 a.Height) ∧ ((∀ x ∈ a.Cells, ok64 x) ∧ a.Cells.length ≤ maxLen)
theorem opn_Pattern_38 {H : Type} {enc : TypeId × Value → H} {w : World} {base : Nat} {spare : Nat → Bool} {held : Bool} {fuel : Nat} {cs : List Value} {x : DataW H × List MemPlace} (h : DataW.trod enc Try.prog w base spare held fuel 38 cs = some x) : ∃ (a : Pattern) (A0 : Option Addr) (c0 : Nat), cs = [.int .i64 a.Width, .int .i64 a.Height, .slice A0 a.Cells.length c0] ∧ RO NoS w (rowR encInt A0 c0 a.Cells) ∧ ok_Pattern a := by
  obtain ⟨hl, n, hf⟩ := opn_fields Try.underlying38 h
  have hl0 : cs.length = 3 := hl.trans (by kernel_rfl)
  obtain ⟨q0, r0, rfl, hl1⟩ := cons_of hl0
  obtain ⟨q1, r1, rfl, hl2⟩ := cons_of hl1
  obtain ⟨q2, r2, rfl, hl3⟩ := cons_of hl2
  obtain rfl := List.eq_nil_of_length_eq_zero hl3
  obtain ⟨y0, h0⟩ := hf 0 _ 1 rfl (by kernel_rfl)
  have h0 : DataW.trod enc Try.prog w base spare held n 3 [q0] = some y0 := h0
  obtain ⟨a0, e0, w0⟩ := opn_int Try.underlying3 h0
  injection e0 with f0 e0
  subst f0
  obtain ⟨y1, h1⟩ := hf 1 _ 1 rfl (by kernel_rfl)
  have h1 : DataW.trod enc Try.prog w base spare held n 3 [q1] = some y1 := h1
  obtain ⟨a1, e1, w1⟩ := opn_int Try.underlying3 h1
  injection e1 with f1 e1
  subst f1
  obtain ⟨y2, h2⟩ := hf 2 _ 1 rfl (by kernel_rfl)
  have h2 : DataW.trod enc Try.prog w base spare held n 36 [q2] = some y2 := h2
  obtain ⟨A2_, c2_, a2, e2, o2, w2, m2⟩ := opn_row Try.underlying36 (opens_int Try.underlying3 (by kernel_rfl)) h2
  injection e2 with f2 e2
  subst f2
  exact ⟨⟨a0, a1, a2⟩, A2_, c2_, rfl, o2, ⟨wf64 w0, wf64 w1, ⟨w2, m2⟩⟩⟩
end Gp
