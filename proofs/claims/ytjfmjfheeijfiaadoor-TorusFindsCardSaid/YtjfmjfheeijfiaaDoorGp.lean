/- The functions that the law reaches, as plain functions; how what comes in is opened. -/
import Derived.Test.YtjfmjfheeijfiaaDoorGs
set_option linter.unusedVariables false
set_option linter.unusedSimpArgs false
set_option maxHeartbeats 4000000
namespace Gp
open Go Gw
abbrev iv (n : Int) : Value := .int .i64 n
abbrev pt (g : Nat) : Value := .pointer (some ⟨g, 0, none⟩)
structure Pattern where
  Width : Int
  Height : Int
  Cells : List Int
  deriving DecidableEq
def z_Pattern : Pattern := ⟨0, 0, []⟩
def encN_Pattern : Enc (HF × Pattern) := ⟨3, fun x => [(.int .i64 x.2.Width), (.int .i64 x.2.Height), (.slice (x.1 0).1 x.2.Cells.length (x.1 0).2)], fun _ => rfl, fun x u h => by simp at h; rcases h with rfl | rfl | rfl <;> rfl⟩
def subN_Pattern (h : HF) (x : Pattern) : Own := rowR encInt (h 0).1 (h 0).2 x.Cells
structure Tile where
  N : Int
  E : Int
  S : Int
  W : Int
  deriving DecidableEq
def z_Tile : Tile := ⟨0, 0, 0, 0⟩
def ints_Tile (x : Tile) : List Int := [x.N, x.E, x.S, x.W]
def enc_Tile : Enc Tile := ⟨4, fun x => [(.int .i64 x.N), (.int .i64 x.E), (.int .i64 x.S), (.int .i64 x.W)], fun _ => rfl, fun x u h => by simp at h; rcases h with rfl | rfl | rfl | rfl <;> rfl⟩
structure A8_Int where
  e0 : Int
  e1 : Int
  e2 : Int
  e3 : Int
  e4 : Int
  e5 : Int
  e6 : Int
  e7 : Int
  deriving DecidableEq
def z_A8_Int : A8_Int := ⟨0, 0, 0, 0, 0, 0, 0, 0⟩
def A8_Int.get (a : A8_Int) (i : Int) : Int := if i = 0 then a.e0 else if i = 1 then a.e1 else if i = 2 then a.e2 else if i = 3 then a.e3 else if i = 4 then a.e4 else if i = 5 then a.e5 else if i = 6 then a.e6 else a.e7
def A8_Int.set (a : A8_Int) (i v : Int) : A8_Int := ⟨if i = 0 then v else a.e0, if i = 1 then v else a.e1, if i = 2 then v else a.e2, if i = 3 then v else a.e3, if i = 4 then v else a.e4, if i = 5 then v else a.e5, if i = 6 then v else a.e6, if i = 7 then v else a.e7⟩
def ints_A8_Int (x : A8_Int) : List Int := [x.e0, x.e1, x.e2, x.e3, x.e4, x.e5, x.e6, x.e7]
def enc_A8_Int : Enc A8_Int := ⟨8, fun x => [(.int .i64 x.e0), (.int .i64 x.e1), (.int .i64 x.e2), (.int .i64 x.e3), (.int .i64 x.e4), (.int .i64 x.e5), (.int .i64 x.e6), (.int .i64 x.e7)], fun _ => rfl, fun x u h => by simp at h; rcases h with rfl | rfl | rfl | rfl | rfl | rfl | rfl | rfl <;> rfl⟩
structure Row where
  Cells : List Int
  South : A8_Int
  North : A8_Int
  West : Int
  East : Int
  deriving DecidableEq
def z_Row : Row := ⟨[], z_A8_Int, z_A8_Int, 0, 0⟩
def encN_Row : Enc (HF × Row) := ⟨19, fun x => [(.slice (x.1 0).1 x.2.Cells.length (x.1 0).2), (.int .i64 x.2.South.e0), (.int .i64 x.2.South.e1), (.int .i64 x.2.South.e2), (.int .i64 x.2.South.e3), (.int .i64 x.2.South.e4), (.int .i64 x.2.South.e5), (.int .i64 x.2.South.e6), (.int .i64 x.2.South.e7), (.int .i64 x.2.North.e0), (.int .i64 x.2.North.e1), (.int .i64 x.2.North.e2), (.int .i64 x.2.North.e3), (.int .i64 x.2.North.e4), (.int .i64 x.2.North.e5), (.int .i64 x.2.North.e6), (.int .i64 x.2.North.e7), (.int .i64 x.2.West), (.int .i64 x.2.East)], fun _ => rfl, fun x u h => by simp at h; rcases h with rfl | rfl | rfl | rfl | rfl | rfl | rfl | rfl | rfl | rfl | rfl | rfl | rfl | rfl | rfl | rfl | rfl | rfl | rfl <;> rfl⟩
def subN_Row (h : HF) (x : Row) : Own := rowR encInt (h 0).1 (h 0).2 x.Cells
structure Row_groutworkref02 where
  Cells : List Int
  South : Int
  North : Int
  deriving DecidableEq
def z_Row_groutworkref02 : Row_groutworkref02 := ⟨[], 0, 0⟩
def encN_Row_groutworkref02 : Enc (HF × Row_groutworkref02) := ⟨3, fun x => [(.slice (x.1 0).1 x.2.Cells.length (x.1 0).2), (.int .i64 x.2.South), (.int .i64 x.2.North)], fun _ => rfl, fun x u h => by simp at h; rcases h with rfl | rfl | rfl <;> rfl⟩
def subN_Row_groutworkref02 (h : HF) (x : Row_groutworkref02) : Own := rowR encInt (h 0).1 (h 0).2 x.Cells
def tile_colour_1 (p0 : Int) : Option Bool := some ((decide (p0 < 0)) || (decide (p0 ≥ 1000)))
def slices_IndexFunc_int_int_with_tile_colour_1.l0 : Nat → Int → (List Int) → Option (Sum Int Unit)
  | 0, _, _ => none
  | k + 1, x427, p0 => if (decide (x427 < (p0.length : Int))) = true then (if 0 ≤ x427 ∧ x427 < (p0.length : Int) then ((tile_colour_1 (rdD p0 x427 0)).bind fun t436 => if t436 = true then (some (.inl x427)) else (slices_IndexFunc_int_int_with_tile_colour_1.l0 k (w64 (x427 + 1)) p0)) else none) else (some (.inr ()))
def slices_IndexFunc_int_int_with_tile_colour_1 (k : Nat) (p0 : List Int) : Option Int := (slices_IndexFunc_int_int_with_tile_colour_1.l0 k 0 p0).bind fun x428 => sumb x428 (fun r => some r) (fun y445 => some (-1))
def slices_ContainsFunc_int_int_with_tile_colour_1 (k : Nat) (p0 : List Int) : Option Bool := (slices_IndexFunc_int_int_with_tile_colour_1 k p0).bind fun t447 => some (decide (t447 ≥ 0))
def tile_colour (k : Nat) (p0 : List Int) : Option Bool := (slices_ContainsFunc_int_int_with_tile_colour_1 k p0).bind fun t452 => some (!t452)
def tile_Valid.l0 : Nat → (List (Tile × Bool)) → Int → (List Tile) → Option (Sum Bool Unit)
  | 0, _, _, _ => none
  | k + 1, l526, x527, p0 => if (decide (x527 < (p0.length : Int))) = true then (if 0 ≤ x527 ∧ x527 < (p0.length : Int) then ((if (mget (rdD p0 x527 z_Tile) false l526) = true then (some true) else ((tile_colour k [(rdD p0 x527 z_Tile).N, (rdD p0 x527 z_Tile).E, (rdD p0 x527 z_Tile).S, (rdD p0 x527 z_Tile).W]).bind fun t561 => some (!t561))).bind fun x553 => if x553 = true then (some (.inl false)) else (tile_Valid.l0 k (mput (rdD p0 x527 z_Tile) true l526) (w64 (x527 + 1)) p0)) else none) else (some (.inr ()))
def tile_Valid (k : Nat) (p0 : List Tile) : Option Bool := if (decide ((p0.length : Int) > 1000)) = true then (some false) else ((tile_Valid.l0 k ([] : List (Tile × Bool)) 0 p0).bind fun x528 => sumb x528 (fun r => some r) (fun y577 => some true))
def tile_write.l1 : Nat → (List ByteArray) → Int → (List Tile) → Int → Option (List ByteArray)
  | 0, _, _, _, _ => none
  | k + 1, l1088, x1089, p0, x980 => if (decide (x1089 < 4)) = true then (if (x1089 == 0) = true then ((itoaP ((rdD p0 x980 z_Tile).N)).bind fun t1104 => if l1088.length + [t1104].length ≤ 100000000000 then (tile_write.l1 k (l1088 ++ [t1104]) (w64 (x1089 + 1)) p0 x980) else none) else (if (x1089 == 1) = true then ((itoaP ((rdD p0 x980 z_Tile).E)).bind fun t1120 => if l1088.length + [t1120].length ≤ 100000000000 then (tile_write.l1 k (l1088 ++ [t1120]) (w64 (x1089 + 1)) p0 x980) else none) else (if (x1089 == 2) = true then ((itoaP ((rdD p0 x980 z_Tile).S)).bind fun t1136 => if l1088.length + [t1136].length ≤ 100000000000 then (tile_write.l1 k (l1088 ++ [t1136]) (w64 (x1089 + 1)) p0 x980) else none) else (if (x1089 == 3) = true then ((itoaP ((rdD p0 x980 z_Tile).W)).bind fun t1152 => if l1088.length + [t1152].length ≤ 100000000000 then (tile_write.l1 k (l1088 ++ [t1152]) (w64 (x1089 + 1)) p0 x980) else none) else (none))))) else (some l1088)
def tile_write.l0 : Nat → (List ByteArray) → Int → (List Tile) → Option (List ByteArray)
  | 0, _, _, _ => none
  | k + 1, l979, x980, p0 => if (decide (x980 < (p0.length : Int))) = true then (if 0 ≤ x980 ∧ x980 < (p0.length : Int) then ((tile_write.l1 k ([] : List ByteArray) 0 p0 x980).bind fun x1093 => (joinP x1093 (⟨#[46]⟩ : ByteArray)).bind fun t1171 => if l979.length + [t1171].length ≤ 100000000000 then (tile_write.l0 k (l979 ++ [t1171]) (w64 (x980 + 1)) p0) else none) else none) else (some l979)
def tile_write (k : Nat) (p0 : List Tile) : Option ByteArray := (tile_write.l0 k ([] : List ByteArray) 0 p0).bind fun x984 => (joinP x984 (⟨#[32]⟩ : ByteArray)).bind fun t1190 => some t1190
def tile_Parse.l1 : Nat → Int → Int → Int → Int → Int → ByteArray → Int → Option (Int × Int × Int × Int)
  | 0, _, _, _, _, _, _, _ => none
  | k + 1, x338, x339, x340, x341, x342, p0, x258 => if (decide (x342 < ((splitP (rdD (splitP p0 (⟨#[32]⟩ : ByteArray)) x258 ByteArray.empty) (⟨#[46]⟩ : ByteArray)).length : Int))) = true then (if 0 ≤ x342 ∧ x342 < ((splitP (rdD (splitP p0 (⟨#[32]⟩ : ByteArray)) x258 ByteArray.empty) (⟨#[46]⟩ : ByteArray)).length : Int) then ((atoiP (rdD (splitP (rdD (splitP p0 (⟨#[32]⟩ : ByteArray)) x258 ByteArray.empty) (⟨#[46]⟩ : ByteArray)) x342 ByteArray.empty)).bind fun t358 => if (x342 == 0) = true then (tile_Parse.l1 k t358 x339 x340 x341 (w64 (x342 + 1)) p0 x258) else (if (x342 == 1) = true then (tile_Parse.l1 k x338 t358 x340 x341 (w64 (x342 + 1)) p0 x258) else (if (x342 == 2) = true then (tile_Parse.l1 k x338 x339 t358 x341 (w64 (x342 + 1)) p0 x258) else (if (x342 == 3) = true then (tile_Parse.l1 k x338 x339 x340 t358 (w64 (x342 + 1)) p0 x258) else (none))))) else none) else (some (x338, x339, x340, x341))
def tile_Parse.l0 : Nat → (List Tile) → Int → ByteArray → Option (Sum ((List Tile) × Int) (List Tile))
  | 0, _, _, _ => none
  | k + 1, l257, x258, p0 => if (decide (x258 < ((splitP p0 (⟨#[32]⟩ : ByteArray)).length : Int))) = true then (if 0 ≤ x258 ∧ x258 < ((splitP p0 (⟨#[32]⟩ : ByteArray)).length : Int) then (if (rdD (splitP p0 (⟨#[32]⟩ : ByteArray)) x258 ByteArray.empty).size < 4294967281 ∧ 1 ≤ (⟨#[46]⟩ : ByteArray).size then (if ((((splitP (rdD (splitP p0 (⟨#[32]⟩ : ByteArray)) x258 ByteArray.empty) (⟨#[46]⟩ : ByteArray)).length : Int) != 4) || (decide ((l257.length : Int) > 1000))) = true then (some (.inl (([] : List Tile), 3))) else ((tile_Parse.l1 k 0 0 0 0 0 p0 x258).bind fun x347 => if l257.length + [(Tile.mk x347.1 x347.2.1 x347.2.2.1 x347.2.2.2)].length ≤ 100000000000 then (tile_Parse.l0 k (l257 ++ [(Tile.mk x347.1 x347.2.1 x347.2.2.1 x347.2.2.2)]) (w64 (x258 + 1)) p0) else none)) else none) else none) else (some (.inr l257))
def tile_Parse (k : Nat) (p0 : ByteArray) : Option ((List Tile) × Int) := if (strEq p0 (⟨#[]⟩ : ByteArray)) = true then (some (([] : List Tile), 0)) else (if (decide ((p0.size : Int) > 16000)) = true then (some (([] : List Tile), 3)) else (if p0.size < 4294967281 ∧ 1 ≤ (⟨#[32]⟩ : ByteArray).size then ((tile_Parse.l0 k ([] : List Tile) 0 p0).bind fun x262 => sumb x262 (fun r => some r) (fun y389 => (tile_Valid k y389).bind fun t579 => (if (!t579) = true then (some true) else ((tile_write k y389).bind fun t1201 => some (!(strEq t1201 p0)))).bind fun x1198 => if x1198 = true then (some (([] : List Tile), 3)) else (some (y389, 0)))) else none))
def rows_Few.l0 : Nat → Int → Int → (List Tile) → Int → Option (Sum Bool Unit)
  | 0, _, _, _, _ => none
  | k + 1, x1252, x1253, p0, p1 => if (decide (x1253 < p1)) = true then (if (decide (w64 (x1252 * (maxI (p0.length : Int) 1)) > 5000)) = true then (some (.inl false)) else (rows_Few.l0 k (w64 (x1252 * (maxI (p0.length : Int) 1))) (w64 (x1253 + 1)) p0 p1)) else (some (.inr ()))
def rows_Few (k : Nat) (p0 : List Tile) (p1 : Int) : Option Bool := (rows_Few.l0 k 1 0 p0 p1).bind fun x1254 => sumb x1254 (fun r => some r) (fun y1265 => some true)
def rows_rowOf.l0 : Nat → A8_Int → A8_Int → Int → (List Tile) → (List Int) → Option (A8_Int × A8_Int)
  | 0, _, _, _, _, _ => none
  | k + 1, a1403, a1404, x1405, p0, p1 => if (decide (x1405 < (p1.length : Int))) = true then (if 0 ≤ x1405 ∧ x1405 < (p1.length : Int) then (if 0 ≤ (rdD p1 x1405 0) ∧ (rdD p1 x1405 0) < (p0.length : Int) then (if 0 ≤ x1405 ∧ x1405 < (8 : Int) then (rows_rowOf.l0 k (A8_Int.set a1403 x1405 ((rdD p0 (rdD p1 x1405 0) z_Tile).S)) (A8_Int.set a1404 x1405 ((rdD p0 (rdD p1 x1405 0) z_Tile).N)) (w64 (x1405 + 1)) p0 p1) else none) else none) else none) else (some (a1403, a1404))
def rows_rowOf (k : Nat) (p0 : List Tile) (p1 : List Int) : Option Row := if ([] : List Int).length + p1.length ≤ 100000000000 then ((rows_rowOf.l0 k (A8_Int.mk 0 0 0 0 0 0 0 0) (A8_Int.mk 0 0 0 0 0 0 0 0) 0 p0 p1).bind fun x1408 => if 0 ≤ (0 : Int) ∧ (0 : Int) < (p1.length : Int) then (if 0 ≤ (rdD p1 (0 : Int) 0) ∧ (rdD p1 (0 : Int) 0) < (p0.length : Int) then (if 0 ≤ w64 ((p1.length : Int) - 1) ∧ w64 ((p1.length : Int) - 1) < (p1.length : Int) then (if 0 ≤ (rdD p1 (w64 ((p1.length : Int) - 1)) 0) ∧ (rdD p1 (w64 ((p1.length : Int) - 1)) 0) < (p0.length : Int) then (some (Row.mk (([] : List Int) ++ p1) x1408.1 x1408.2 ((rdD p0 (rdD p1 (0 : Int) 0) z_Tile).W) ((rdD p0 (rdD p1 (w64 ((p1.length : Int) - 1)) 0) z_Tile).E))) else none) else none) else none) else none) else none
def rows_All_1.l0 : Nat → (List Row) → (List Int) → Int → Int → Int → (List Tile) → (Int → Int → (List Row) → (List Tile) → (List Int) → Option ((List Row) × (List Int))) → Option ((List Row) × (List Int))
  | 0, _, _, _, _, _, _, _ => none
  | k + 1, l1860, l1864, x1865, p0, f0, f2, rc_ => if (decide (x1865 < (f2.length : Int))) = true then (if 0 ≤ x1865 ∧ x1865 < (f2.length : Int) then ((if (p0 == 0) = true then (some true) else (if 0 ≤ w64 (p0 - 1) ∧ w64 (p0 - 1) < (l1864.length : Int) then (if 0 ≤ (rdD l1864 (w64 (p0 - 1)) 0) ∧ (rdD l1864 (w64 (p0 - 1)) 0) < (f2.length : Int) then (some (((rdD f2 (rdD l1864 (w64 (p0 - 1)) 0) z_Tile).E) == ((rdD f2 x1865 z_Tile).W))) else none) else none)).bind fun x1899 => (if x1899 = true then (if 0 ≤ p0 ∧ p0 < (l1864.length : Int) then ((rc_ (w64 (p0 + 1)) f0 l1860 f2 (l1864.set (p0).toNat x1865)).bind fun t1945 => some (t1945.1, t1945.2)) else none) else (some (l1860, l1864))).bind fun x1938 => rows_All_1.l0 k x1938.1 x1938.2 (w64 (x1865 + 1)) p0 f0 f2 rc_) else none) else (some (l1860, l1864))
def rows_All_1 : Nat → Int → Int → (List Row) → (List Tile) → (List Int) → Option ((List Row) × (List Int))
  | 0, _, _, _, _, _ => none
  | k + 1, p0, f0, f1, f2, f3 => if (p0 == f0) = true then ((rows_rowOf k f2 f3).bind fun t1670 => if f1.length + 1 ≤ 100000000000 then (some (f1 ++ [t1670], f3)) else none) else ((rows_All_1.l0 k f1 f3 0 p0 f0 f2 (rows_All_1 k)).bind fun x1873 => some (x1873.1, x1873.2))
def rows_All (k : Nat) (p0 : List Tile) (p1 : Int) : Option (List Row) := if 0 ≤ p1 ∧ p1 ≤ 100000000000 then ((rows_All_1 k 0 p1 ([] : List Row) p0 (List.replicate p1.toNat (0 : Int))).bind fun t1965 => some t1965.1) else none
def torus_rings.l0 : Nat → (List Row) → Int → (List Row) → Option (List Row)
  | 0, _, _, _ => none
  | k + 1, l2089, x2091, t1975 => if (decide (x2091 < (t1975.length : Int))) = true then (if 0 ≤ x2091 ∧ x2091 < (t1975.length : Int) then ((if (((rdD t1975 x2091 z_Row).West) == ((rdD t1975 x2091 z_Row).East)) = true then (if l2089.length + 1 ≤ 100000000000 then (some (l2089 ++ [(rdD t1975 x2091 z_Row)])) else none) else (some l2089)).bind fun x2126 => torus_rings.l0 k x2126 (w64 (x2091 + 1)) t1975) else none) else (some l2089)
def torus_rings (k : Nat) (p0 : List Tile) (p1 : Int) : Option (List Row) := (rows_All k p0 p1).bind fun t1975 => (torus_rings.l0 k ([] : List Row) 0 t1975).bind fun x2096 => some x2096
def torus_back.l1 : Nat → (List (A8_Int × Bool)) → Int → (List Row) → (List (A8_Int × Bool)) → Option (List (A8_Int × Bool))
  | 0, _, _, _, _ => none
  | k + 1, l2458, x2459, p0, m2409 => if (decide (x2459 < (p0.length : Int))) = true then (if 0 ≤ x2459 ∧ x2459 < (p0.length : Int) then ((if (mget ((rdD p0 x2459 z_Row).North) false m2409) = true then (some (mput ((rdD p0 x2459 z_Row).South) true l2458)) else (some l2458)).bind fun x2479 => torus_back.l1 k x2479 (w64 (x2459 + 1)) p0 m2409) else none) else (some l2458)
def torus_back.l0 : Nat → (List (Option (List (A8_Int × Bool)))) → Int → (List Row) → Int → Option (List (Option (List (A8_Int × Bool))))
  | 0, _, _, _, _ => none
  | k + 1, l2394, x2396, p0, p2 => if (decide (x2396 < p2)) = true then (if 0 ≤ w64 ((l2394.length : Int) - 1) ∧ w64 ((l2394.length : Int) - 1) < (l2394.length : Int) then ((rdD l2394 (w64 ((l2394.length : Int) - 1)) none).bind fun m2409 => ((torus_back.l1 k ([] : List (A8_Int × Bool)) 0 p0 m2409).bind fun x2461 => if l2394.length + 1 ≤ 100000000000 then (torus_back.l0 k (l2394 ++ [some x2461]) (w64 (x2396 + 1)) p0 p2) else none)) else none) else (some l2394)
def torus_back (k : Nat) (p0 : List Row) (p1 : A8_Int) (p2 : Int) : Option (List (Option (List (A8_Int × Bool)))) := (torus_back.l0 k [some (mput p1 true ([] : List (A8_Int × Bool)))] 0 p0 p2).bind fun x2401 => some x2401
def torus_find.l2 : Nat → Int → (List Row) → ((List (A8_Int × List (Option (List (A8_Int × Bool))))) × (List (Option (List (A8_Int × Bool))))) → (List Int) → A8_Int → Int → Option ((List Int) × A8_Int)
  | 0, _, _, _, _, _, _ => none
  | k + 1, x4319, t2149, x3794, l4199, a4200, x4201 => if (decide (x4319 < (t2149.length : Int))) = true then (if 0 ≤ x4319 ∧ x4319 < (t2149.length : Int) then ((if ((((rdD t2149 x4319 z_Row).South).e0) == a4200.e0 && ((((rdD t2149 x4319 z_Row).South).e1) == a4200.e1 && ((((rdD t2149 x4319 z_Row).South).e2) == a4200.e2 && ((((rdD t2149 x4319 z_Row).South).e3) == a4200.e3 && ((((rdD t2149 x4319 z_Row).South).e4) == a4200.e4 && ((((rdD t2149 x4319 z_Row).South).e5) == a4200.e5 && ((((rdD t2149 x4319 z_Row).South).e6) == a4200.e6 && ((((rdD t2149 x4319 z_Row).South).e7) == a4200.e7)))))))) = true then (if 0 ≤ x4201 ∧ x4201 < (x3794.2.length : Int) then ((rdD x3794.2 x4201 none).bind fun m4365 => (some (mget ((rdD t2149 x4319 z_Row).North) false m4365))) else none) else (some false)).bind fun x4353 => if x4353 = true then (if l4199.length + ((rdD t2149 x4319 z_Row).Cells).length ≤ 100000000000 then (some (l4199 ++ ((rdD t2149 x4319 z_Row).Cells), ((rdD t2149 x4319 z_Row).North))) else none) else (torus_find.l2 k (w64 (x4319 + 1)) t2149 x3794 l4199 a4200 x4201)) else none) else (some (l4199, a4200))
def torus_find.l1 : Nat → (List Int) → A8_Int → Int → (List Row) → ((List (A8_Int × List (Option (List (A8_Int × Bool))))) × (List (Option (List (A8_Int × Bool))))) → Option (List Int)
  | 0, _, _, _, _, _ => none
  | k + 1, l4199, a4200, x4201, t2149, x3794 => if (decide (x4201 ≥ 0)) = true then ((torus_find.l2 k 0 t2149 x3794 l4199 a4200 x4201).bind fun x4324 => torus_find.l1 k x4324.1 x4324.2 (w64 (x4201 - 1)) t2149 x3794) else (some l4199)
def torus_find.l0 : Nat → (List (A8_Int × List (Option (List (A8_Int × Bool))))) → Int → Int → Int → (List Row) → Option (Sum (Pattern × Bool) Unit)
  | 0, _, _, _, _, _ => none
  | k + 1, l3755, x3757, p1, p2, t2149 => if (decide (x3757 < (t2149.length : Int))) = true then (if 0 ≤ x3757 ∧ x3757 < (t2149.length : Int) then ((if (!(mhas ((rdD t2149 x3757 z_Row).South) l3755)) = true then ((torus_back k t2149 ((rdD t2149 x3757 z_Row).South) (w64 (p2 - 1))).bind fun t3797 => some (mput ((rdD t2149 x3757 z_Row).South) t3797 l3755, t3797)) else (some (l3755, (mget ((rdD t2149 x3757 z_Row).South) [] l3755)))).bind fun x3794 => if 0 ≤ w64 (p2 - 1) ∧ w64 (p2 - 1) < (x3794.2.length : Int) then ((rdD x3794.2 (w64 (p2 - 1)) none).bind fun m3823 => (if (!(mget ((rdD t2149 x3757 z_Row).North) false m3823)) = true then (torus_find.l0 k x3794.1 (w64 (x3757 + 1)) p1 p2 t2149) else (if ([] : List Int).length + ((rdD t2149 x3757 z_Row).Cells).length ≤ 100000000000 then ((torus_find.l1 k (([] : List Int) ++ ((rdD t2149 x3757 z_Row).Cells)) ((rdD t2149 x3757 z_Row).North) (w64 (p2 - 2)) t2149 x3794).bind fun x4205 => some (.inl ((Pattern.mk p1 p2 x4205), true))) else none))) else none) else none) else (some (.inr ()))
def torus_find (k : Nat) (p0 : List Tile) (p1 : Int) (p2 : Int) : Option (Pattern × Bool) := (torus_rings k p0 p1).bind fun t2149 => (torus_find.l0 k ([] : List (A8_Int × List (Option (List (A8_Int × Bool))))) 0 p1 p2 t2149).bind fun x3758 => sumb x3758 (fun r => some r) (fun y4396 => some ((Pattern.mk 0 0 ([] : List Int)), false))
def torus_Least.l1 : Nat → Int → (List Tile) → Int → Int → Option (Sum (Pattern × Int) Unit)
  | 0, _, _, _, _ => none
  | k + 1, x4812, p0, p1, x4709 => if (decide (x4812 ≤ p1)) = true then ((if x4812 ≠ 0 then (if (((Int.tmod x4709 x4812) != 0) || (decide (w64 (Int.tdiv x4709 x4812) > p1))) = true then (some (.inr ())) else ((torus_find k p0 x4812 (w64 (Int.tdiv x4709 x4812))).bind fun t4846 => if t4846.2 = true then (some (.inl (t4846.1, 0))) else (some (.inr ())))) else none).bind fun x4840 => sumb x4840 (fun r => some (.inl r)) (fun y4865 => torus_Least.l1 k (w64 (x4812 + 1)) p0 p1 x4709)) else (some (.inr ()))
def torus_Least.l0 : Nat → Int → (List Tile) → Int → Option (Sum (Pattern × Int) Unit)
  | 0, _, _, _ => none
  | k + 1, x4709, p0, p1 => if (decide (x4709 ≤ w64 (p1 * p1))) = true then ((torus_Least.l1 k 1 p0 p1 x4709).bind fun x4813 => sumb x4813 (fun r => some (.inl r)) (fun y4870 => torus_Least.l0 k (w64 (x4709 + 1)) p0 p1)) else (some (.inr ()))
def torus_Least (k : Nat) (p0 : List Tile) (p1 : Int) : Option (Pattern × Int) := (tile_Valid k p0).bind fun t1231 => if (!t1231) = true then (some ((Pattern.mk 0 0 ([] : List Int)), 1)) else (if ((decide (p1 < 1)) || (decide (p1 > 6))) = true then (some ((Pattern.mk 0 0 ([] : List Int)), 2)) else ((rows_Few k p0 p1).bind fun t1267 => if (!t1267) = true then (some ((Pattern.mk 0 0 ([] : List Int)), 4)) else ((torus_Least.l0 k 1 p0 p1).bind fun x4710 => sumb x4710 (fun r => some r) (fun y4875 => some ((Pattern.mk 0 0 ([] : List Int)), 6)))))
def torus_Find (k : Nat) (p0 : List Tile) (p1 : Int) (p2 : Int) : Option (Pattern × Int) := (tile_Valid k p0).bind fun t4897 => if (!t4897) = true then (some ((Pattern.mk 0 0 ([] : List Int)), 1)) else (if ((((decide (p1 < 1)) || (decide (p1 > 6))) || (decide (p2 < 1))) || (decide (p2 > 6))) = true then (some ((Pattern.mk 0 0 ([] : List Int)), 2)) else ((rows_Few k p0 p1).bind fun t4916 => if (!t4916) = true then (some ((Pattern.mk 0 0 ([] : List Int)), 4)) else ((torus_find k p0 p1 p2).bind fun t4925 => if (!t4925.2) = true then (some ((Pattern.mk 0 0 ([] : List Int)), 6)) else (some (t4925.1, 0)))))
def ref01_Same.l0 : Nat → Int → (List Int) → (List Int) → Option (Sum Bool Unit)
  | 0, _, _, _ => none
  | k + 1, x5011, p0, p1 => if (decide (x5011 < (p0.length : Int))) = true then (if 0 ≤ x5011 ∧ x5011 < (p0.length : Int) then (if 0 ≤ x5011 ∧ x5011 < (p1.length : Int) then (if ((rdD p0 x5011 0) != (rdD p1 x5011 0)) = true then (some (.inl false)) else (ref01_Same.l0 k (w64 (x5011 + 1)) p0 p1)) else none) else none) else (some (.inr ()))
def ref01_Same (k : Nat) (p0 : List Int) (p1 : List Int) : Option Bool := if ((p0.length : Int) != (p1.length : Int)) = true then (some false) else ((ref01_Same.l0 k 0 p0 p1).bind fun x5012 => sumb x5012 (fun r => some r) (fun y5031 => some true))
def ref01_SamePattern (k : Nat) (p0 : Pattern) (p1 : Pattern) : Option Bool := (if ((p0.Width == p1.Width) && (p0.Height == p1.Height)) = true then ((ref01_Same k p0.Cells p1.Cells).bind fun t5042 => some t5042) else (some false)).bind fun x5039 => some x5039
def law03_awake (k : Nat)  : Option Bool := (tile_Parse k (⟨#[48, 46, 49, 46, 49, 46, 48, 32, 49, 46, 48, 46, 48, 46, 49]⟩ : ByteArray)).bind fun t1213 => (tile_Parse k (⟨#[48, 46, 49, 46, 48, 46, 48]⟩ : ByteArray)).bind fun t1220 => (torus_Least k t1213.1 6).bind fun t4880 => (torus_Find k t1213.1 2 1).bind fun t4944 => (torus_Least k t1220.1 4).bind fun t4957 => (if (((t4880.2 == 0) && (t4944.2 == 6)) && (t4957.2 == 6)) = true then ((ref01_SamePattern k t4880.1 (Pattern.mk 2 2 [0, 1, 1, 0])).bind fun t5066 => some t5066) else (some false)).bind fun x5058 => some x5058
def ref01_colour (p0 : Int) : Option Bool := some ((decide (p0 ≥ 0)) && (decide (p0 < 1000)))
def ref01_Index.l0 : Nat → Int → (List Tile) → Tile → Option (Sum Int Unit)
  | 0, _, _, _ => none
  | k + 1, x5175, p0, p1 => if (decide (x5175 < (p0.length : Int))) = true then (if 0 ≤ x5175 ∧ x5175 < (p0.length : Int) then (if (((rdD p0 x5175 z_Tile).N) == p1.N && (((rdD p0 x5175 z_Tile).E) == p1.E && (((rdD p0 x5175 z_Tile).S) == p1.S && (((rdD p0 x5175 z_Tile).W) == p1.W)))) = true then (some (.inl x5175)) else (ref01_Index.l0 k (w64 (x5175 + 1)) p0 p1)) else none) else (some (.inr ()))
def ref01_Index (k : Nat) (p0 : List Tile) (p1 : Tile) : Option Int := (ref01_Index.l0 k 0 p0 p1).bind fun x5176 => sumb x5176 (fun r => some r) (fun y5192 => some (-1))
def ref01_Valid.l0 : Nat → Int → (List Tile) → Option (Sum Bool Unit)
  | 0, _, _ => none
  | k + 1, x5489, p0 => if (decide (x5489 < (p0.length : Int))) = true then (if 0 ≤ x5489 ∧ x5489 < (p0.length : Int) then ((ref01_colour ((rdD p0 x5489 z_Tile).N)).bind fun t5593 => (if (!t5593) = true then (some true) else ((ref01_colour ((rdD p0 x5489 z_Tile).E)).bind fun t5607 => some (!t5607))).bind fun x5604 => (if x5604 = true then (some true) else ((ref01_colour ((rdD p0 x5489 z_Tile).S)).bind fun t5626 => some (!t5626))).bind fun x5623 => (if x5623 = true then (some true) else ((ref01_colour ((rdD p0 x5489 z_Tile).W)).bind fun t5645 => some (!t5645))).bind fun x5642 => (if x5642 = true then (some true) else (if 0 ≤ (0 : Int) ∧ (0 : Int) ≤ x5489 ∧ x5489 ≤ (p0.length : Int) then ((ref01_Index k (cut p0 (0 : Int) x5489) (rdD p0 x5489 z_Tile)).bind fun t5668 => some (decide (t5668 ≥ 0))) else none)).bind fun x5663 => if x5663 = true then (some (.inl false)) else (ref01_Valid.l0 k (w64 (x5489 + 1)) p0)) else none) else (some (.inr ()))
def ref01_Valid (k : Nat) (p0 : List Tile) : Option Bool := if (decide ((p0.length : Int) > 1000)) = true then (some false) else ((ref01_Valid.l0 k 0 p0).bind fun x5490 => sumb x5490 (fun r => some r) (fun y5682 => some true))
def law03_no (k : Nat) (p0 : Pattern) (p1 : Int) (p2 : Int) : Option Bool := (if (p1 == p2) = true then ((ref01_SamePattern k p0 (Pattern.mk 0 0 ([] : List Int))).bind fun t5730 => some t5730) else (some false)).bind fun x5727 => some x5727
def ref02_at.l0 : Nat → Int → (List Int) → Int → Option (Sum Int Unit)
  | 0, _, _, _ => none
  | k + 1, x5797, p0, p1 => if (decide (x5797 < (p0.length : Int))) = true then (if 0 ≤ x5797 ∧ x5797 < (p0.length : Int) then (if ((rdD p0 x5797 0) == p1) = true then (some (.inl x5797)) else (ref02_at.l0 k (w64 (x5797 + 1)) p0 p1)) else none) else (some (.inr ()))
def ref02_at (k : Nat) (p0 : List Int) (p1 : Int) : Option Int := (ref02_at.l0 k 0 p0 p1).bind fun x5798 => sumb x5798 (fun r => some r) (fun y5810 => some (-1))
def ref02_with (k : Nat) (p0 : List Int) (p1 : Int) : Option (List Int) := (ref02_at k p0 p1).bind fun t5823 => (if (decide (t5823 < 0)) = true then (if p0.length + [p1].length ≤ 100000000000 then (some (p0 ++ [p1])) else none) else (some p0)).bind fun x5842 => some x5842
def ref02_Colours.l0 : Nat → (List Int) → Int → (List Tile) → Option (List Int)
  | 0, _, _, _ => none
  | k + 1, l5935, x5936, p0 => if (decide (x5936 < (p0.length : Int))) = true then (if 0 ≤ x5936 ∧ x5936 < (p0.length : Int) then ((ref02_with k l5935 ((rdD p0 x5936 z_Tile).N)).bind fun t5966 => (ref02_with k t5966 ((rdD p0 x5936 z_Tile).S)).bind fun t5973 => ref02_Colours.l0 k t5973 (w64 (x5936 + 1)) p0) else none) else (some l5935)
def ref02_Colours (k : Nat) (p0 : List Tile) : Option (List Int) := (ref02_Colours.l0 k ([] : List Int) 0 p0).bind fun x5940 => some x5940
def ref02_Power.l0 : Nat → Int → Int → Int → Int → Option Int
  | 0, _, _, _, _ => none
  | k + 1, x5995, x5996, p0, p1 => if (decide (x5996 < p1)) = true then (ref02_Power.l0 k (minI (w64 (x5995 * p0)) 1000000) (w64 (x5996 + 1)) p0 p1) else (some x5995)
def ref02_Power (k : Nat) (p0 : Int) (p1 : Int) : Option Int := (ref02_Power.l0 k 1 0 p0 p1).bind fun x5998 => some x5998
def ref03_Heavy (k : Nat) (p0 : List Tile) (p1 : Int) : Option Bool := (if (decide ((p0.length : Int) > 40)) = true then (some true) else ((ref02_Colours k p0).bind fun t6018 => (ref02_Power k (t6018.length : Int) p1).bind fun t6025 => some (decide (t6025 > 800)))).bind fun x6015 => (if x6015 = true then (some true) else ((ref02_Power k (p0.length : Int) p1).bind fun t6044 => some (decide (t6044 > 8000)))).bind fun x6041 => some x6041
def ref02_Great (k : Nat) (p0 : List Tile) (p1 : Int) : Option Bool := (ref02_Power k (p0.length : Int) p1).bind fun t6078 => some (decide (t6078 > 5000))
def ref02_extend.l0 : Nat → (List Row_groutworkref02) → Int → (List Tile) → (List Int) → Row_groutworkref02 → Int → Int → ((List Tile) → (List Int) → Row_groutworkref02 → Int → Int → (List Row_groutworkref02) → Option (List Row_groutworkref02)) → Option (List Row_groutworkref02)
  | 0, _, _, _, _, _, _, _, _ => none
  | k + 1, l14259, x14261, p0, p1, p2, p3, p4, rc_ => if (decide (x14261 < (p0.length : Int))) = true then ((if 0 ≤ x14261 ∧ x14261 < (p0.length : Int) then ((if (decide ((p2.Cells.length : Int) > 0)) = true then (if 0 ≤ w64 ((p2.Cells.length : Int) - 1) ∧ w64 ((p2.Cells.length : Int) - 1) < (p2.Cells.length : Int) then (if 0 ≤ (rdD p2.Cells (w64 ((p2.Cells.length : Int) - 1)) 0) ∧ (rdD p2.Cells (w64 ((p2.Cells.length : Int) - 1)) 0) < (p0.length : Int) then (some (((rdD p0 (rdD p2.Cells (w64 ((p2.Cells.length : Int) - 1)) 0) z_Tile).E) != ((rdD p0 x14261 z_Tile).W))) else none) else none) else (some false)).bind fun x15907 => if x15907 = true then (some l14259) else ((if ([] : List Int).length + p2.Cells.length ≤ 100000000000 then (if (([] : List Int) ++ p2.Cells).length + [x14261].length ≤ 100000000000 then ((ref02_at k p1 ((rdD p0 x14261 z_Tile).S)).bind fun t16749 => (ref02_at k p1 ((rdD p0 x14261 z_Tile).N)).bind fun t16754 => some ((([] : List Int) ++ p2.Cells) ++ [x14261], w64 (p2.South + (w64 (p4 * t16749))), w64 (p2.North + (w64 (p4 * t16754))))) else none) else none).bind fun x16725 => (rc_ p0 p1 (Row_groutworkref02.mk x16725.1 x16725.2.1 x16725.2.2) p3 (w64 (p4 * (p1.length : Int))) l14259).bind fun t17489 => some t17489)) else none).bind fun x15886 => ref02_extend.l0 k x15886 (w64 (x14261 + 1)) p0 p1 p2 p3 p4 rc_) else (some l14259)
def ref02_extend : Nat → (List Tile) → (List Int) → Row_groutworkref02 → Int → Int → (List Row_groutworkref02) → Option (List Row_groutworkref02)
  | 0, _, _, _, _, _, _ => none
  | k + 1, p0, p1, p2, p3, p4, p5 => if ((p2.Cells.length : Int) == p3) = true then (if p5.length + 1 ≤ 100000000000 then (some (p5 ++ [p2])) else none) else ((ref02_extend.l0 k p5 0 p0 p1 p2 p3 p4 (ref02_extend k)).bind fun x14266 => some x14266)
def ref02_Rows (k : Nat) (p0 : List Tile) (p1 : Int) : Option (List Row_groutworkref02) := (ref02_Colours k p0).bind fun t6131 => (ref02_extend k p0 t6131 (Row_groutworkref02.mk ([] : List Int) 0 0) p1 1 ([] : List Row_groutworkref02)).bind fun t17508 => some t17508
def ref03_round.l0 : Nat → (List Row_groutworkref02) → Int → (List Tile) → Int → (List Row_groutworkref02) → Option (List Row_groutworkref02)
  | 0, _, _, _, _, _ => none
  | k + 1, l17650, x17652, p0, p1, t17516 => if (decide (x17652 < (t17516.length : Int))) = true then (if 0 ≤ x17652 ∧ x17652 < (t17516.length : Int) then (if 0 ≤ w64 (p1 - 1) ∧ w64 (p1 - 1) < (((rdD t17516 x17652 z_Row_groutworkref02).Cells).length : Int) then (if 0 ≤ (rdD ((rdD t17516 x17652 z_Row_groutworkref02).Cells) (w64 (p1 - 1)) 0) ∧ (rdD ((rdD t17516 x17652 z_Row_groutworkref02).Cells) (w64 (p1 - 1)) 0) < (p0.length : Int) then (if 0 ≤ (0 : Int) ∧ (0 : Int) < (((rdD t17516 x17652 z_Row_groutworkref02).Cells).length : Int) then (if 0 ≤ (rdD ((rdD t17516 x17652 z_Row_groutworkref02).Cells) (0 : Int) 0) ∧ (rdD ((rdD t17516 x17652 z_Row_groutworkref02).Cells) (0 : Int) 0) < (p0.length : Int) then ((if (((rdD p0 (rdD ((rdD t17516 x17652 z_Row_groutworkref02).Cells) (w64 (p1 - 1)) 0) z_Tile).E) == ((rdD p0 (rdD ((rdD t17516 x17652 z_Row_groutworkref02).Cells) (0 : Int) 0) z_Tile).W)) = true then (if l17650.length + 1 ≤ 100000000000 then (some (l17650 ++ [(rdD t17516 x17652 z_Row_groutworkref02)])) else none) else (some l17650)).bind fun x17697 => ref03_round.l0 k x17697 (w64 (x17652 + 1)) p0 p1 t17516) else none) else none) else none) else none) else none) else (some l17650)
def ref03_round (k : Nat) (p0 : List Tile) (p1 : Int) : Option (List Row_groutworkref02) := (ref02_Rows k p0 p1).bind fun t17516 => (ref03_round.l0 k ([] : List Row_groutworkref02) 0 p0 p1 t17516).bind fun x17657 => some x17657
def ref03_from.l1 : Nat → (List (List Bool)) → Int → (List Row_groutworkref02) → Int → Option (List (List Bool))
  | 0, _, _, _, _ => none
  | k + 1, l18298, x18300, p0, x18166 => if (decide (x18300 < (p0.length : Int))) = true then (if 0 ≤ w64 (x18166 + 1) ∧ w64 (x18166 + 1) < (l18298.length : Int) then (if 0 ≤ x18300 ∧ x18300 < (p0.length : Int) then (if 0 ≤ (rdD p0 x18300 z_Row_groutworkref02).North ∧ (rdD p0 x18300 z_Row_groutworkref02).North < ((rdD l18298 (w64 (x18166 + 1)) []).length : Int) then ((if (rdD (rdD l18298 (w64 (x18166 + 1)) []) ((rdD p0 x18300 z_Row_groutworkref02).North) false) = true then (if 0 ≤ x18166 ∧ x18166 < (l18298.length : Int) then (if 0 ≤ (rdD p0 x18300 z_Row_groutworkref02).South ∧ (rdD p0 x18300 z_Row_groutworkref02).South < ((rdD l18298 x18166 []).length : Int) then (some (l18298.set x18166.toNat ((rdD l18298 x18166 []).set ((rdD p0 x18300 z_Row_groutworkref02).South).toNat true))) else none) else none) else (some l18298)).bind fun x18342 => ref03_from.l1 k x18342 (w64 (x18300 + 1)) p0 x18166) else none) else none) else none) else (some l18298)
def ref03_from.l0 : Nat → (List (List Bool)) → Int → (List Row_groutworkref02) → Int → Option (List (List Bool))
  | 0, _, _, _, _ => none
  | k + 1, l18164, x18166, p0, p2 => if (decide (x18166 > 0)) = true then (if 0 ≤ p2 ∧ p2 ≤ 100000000000 then (if 0 ≤ x18166 ∧ x18166 < (l18164.length : Int) then ((ref03_from.l1 k (l18164.set x18166.toNat (List.replicate p2.toNat (false : Bool))) 0 p0 x18166).bind fun x18305 => ref03_from.l0 k x18305 (w64 (x18166 - 1)) p0 p2) else none) else none) else (some l18164)
def ref03_from.l3 : Nat → Int → (List Row_groutworkref02) → (List (List Bool)) → (List Int) → Int → Int → Option ((List Int) × Int)
  | 0, _, _, _, _, _, _ => none
  | k + 1, x18974, p0, x18171, l18830, x18831, x18832 => if (decide (x18974 < (p0.length : Int))) = true then ((if (((rdD p0 x18974 z_Row_groutworkref02).South) == x18831) = true then (if 0 ≤ x18974 ∧ x18974 < (p0.length : Int) then (if 0 ≤ w64 (x18832 + 1) ∧ w64 (x18832 + 1) < (x18171.length : Int) then (if 0 ≤ (rdD p0 x18974 z_Row_groutworkref02).North ∧ (rdD p0 x18974 z_Row_groutworkref02).North < ((rdD x18171 (w64 (x18832 + 1)) []).length : Int) then (some (rdD (rdD x18171 (w64 (x18832 + 1)) []) ((rdD p0 x18974 z_Row_groutworkref02).North) false)) else none) else none) else none) else (if 0 ≤ x18974 ∧ x18974 < (p0.length : Int) then (some false) else none)).bind fun x19006 => if x19006 = true then (if 0 ≤ x18974 ∧ x18974 < (p0.length : Int) then (if l18830.length + ((rdD p0 x18974 z_Row_groutworkref02).Cells).length ≤ 100000000000 then (some (l18830 ++ ((rdD p0 x18974 z_Row_groutworkref02).Cells), (rdD p0 x18974 z_Row_groutworkref02).North)) else none) else none) else (ref03_from.l3 k (w64 (x18974 + 1)) p0 x18171 l18830 x18831 x18832)) else (some (l18830, x18831))
def ref03_from.l2 : Nat → (List Int) → Int → Int → (List Row_groutworkref02) → Int → (List (List Bool)) → Option (List Int)
  | 0, _, _, _, _, _, _ => none
  | k + 1, l18830, x18831, x18832, p0, p4, x18171 => if (decide (x18832 < p4)) = true then ((ref03_from.l3 k 0 p0 x18171 l18830 x18831 x18832).bind fun x18979 => ref03_from.l2 k x18979.1 x18979.2 (w64 (x18832 + 1)) p0 p4 x18171) else (some l18830)
def ref03_from (k : Nat) (p0 : List Row_groutworkref02) (p1 : Int) (p2 : Int) (p3 : Int) (p4 : Int) : Option (Pattern × Bool) := if 0 ≤ (w64 (p4 + 1)) ∧ (w64 (p4 + 1)) ≤ 100000000000 then (if 0 ≤ p2 ∧ p2 ≤ 100000000000 then (if 0 ≤ p4 ∧ p4 < ((List.replicate (w64 (p4 + 1)).toNat ([] : List Bool)).length : Int) then (if 0 ≤ p4 ∧ p4 < (((List.replicate (w64 (p4 + 1)).toNat ([] : List Bool)).set p4.toNat (List.replicate p2.toNat (false : Bool))).length : Int) then (if 0 ≤ p1 ∧ p1 < (p0.length : Int) then (if 0 ≤ (rdD p0 p1 z_Row_groutworkref02).South ∧ (rdD p0 p1 z_Row_groutworkref02).South < ((rdD ((List.replicate (w64 (p4 + 1)).toNat ([] : List Bool)).set p4.toNat (List.replicate p2.toNat (false : Bool))) p4 []).length : Int) then ((ref03_from.l0 k (((List.replicate (w64 (p4 + 1)).toNat ([] : List Bool)).set p4.toNat (List.replicate p2.toNat (false : Bool))).set p4.toNat ((rdD ((List.replicate (w64 (p4 + 1)).toNat ([] : List Bool)).set p4.toNat (List.replicate p2.toNat (false : Bool))) p4 []).set ((rdD p0 p1 z_Row_groutworkref02).South).toNat true)) (w64 (p4 - 1)) p0 p2).bind fun x18171 => if 0 ≤ (1 : Int) ∧ (1 : Int) < (x18171.length : Int) then (if 0 ≤ (rdD p0 p1 z_Row_groutworkref02).North ∧ (rdD p0 p1 z_Row_groutworkref02).North < ((rdD x18171 (1 : Int) []).length : Int) then (if (!(rdD (rdD x18171 (1 : Int) []) ((rdD p0 p1 z_Row_groutworkref02).North) false)) = true then (some ((Pattern.mk 0 0 ([] : List Int)), false)) else (if ([] : List Int).length + ((rdD p0 p1 z_Row_groutworkref02).Cells).length ≤ 100000000000 then ((ref03_from.l2 k (([] : List Int) ++ ((rdD p0 p1 z_Row_groutworkref02).Cells)) ((rdD p0 p1 z_Row_groutworkref02).North) 1 p0 p4 x18171).bind fun x18836 => some ((Pattern.mk p3 p4 x18836), true)) else none)) else none) else none) else none) else none) else none) else none) else none) else none
def ref03_Find.l0 : Nat → Int → Int → Int → (List Row_groutworkref02) → Int → Option (Sum (Pattern × Bool) Unit)
  | 0, _, _, _, _, _ => none
  | k + 1, x19094, p1, p2, t17720, t17735 => if (decide (x19094 < (t17720.length : Int))) = true then ((ref03_from k t17720 x19094 t17735 p1 p2).bind fun t19102 => if t19102.2 = true then (some (.inl (t19102.1, true))) else (ref03_Find.l0 k (w64 (x19094 + 1)) p1 p2 t17720 t17735)) else (some (.inr ()))
def ref03_Find (k : Nat) (p0 : List Tile) (p1 : Int) (p2 : Int) : Option (Pattern × Bool) := (ref03_round k p0 p1).bind fun t17720 => (ref02_Colours k p0).bind fun t17728 => (ref02_Power k (t17728.length : Int) p1).bind fun t17735 => (ref03_Find.l0 k 0 p1 p2 t17720 t17735).bind fun x19095 => sumb x19095 (fun r => some r) (fun y19121 => some ((Pattern.mk 0 0 ([] : List Int)), false))
def law03_is (k : Nat) (p0 : Pattern) (p1 : Int) (p2 : Pattern) (p3 : Bool) : Option Bool := if (!p3) = true then ((if (p1 == 6) = true then ((ref01_SamePattern k p0 (Pattern.mk 0 0 ([] : List Int))).bind fun t19157 => some t19157) else (some false)).bind fun x19154 => some x19154) else ((if (p1 == 0) = true then ((ref01_SamePattern k p0 p2).bind fun t19176 => some t19176) else (some false)).bind fun x19173 => some x19173)
def law03_TorusFinds (k : Nat) (p0 : List Tile) (p1 : Int) (p2 : Int) : Option Bool := if (decide ((p0.length : Int) > 1100)) = true then ((law03_awake k).bind fun t5076 => some t5076) else ((ref01_Valid k p0).bind fun t5684 => if (((((!t5684) || (decide (p1 < 1))) || (decide (p1 > 6))) || (decide (p2 < 1))) || (decide (p2 > 6))) = true then ((torus_Find k p0 p1 p2).bind fun t5698 => (ref01_Valid k p0).bind fun t5711 => if (!t5711) = true then ((law03_no k t5698.1 t5698.2 1).bind fun t5740 => (if t5740 = true then ((law03_awake k).bind fun t5754 => some t5754) else (some false)).bind fun x5751 => some x5751) else ((law03_no k t5698.1 t5698.2 2).bind fun t5764 => (if t5764 = true then ((law03_awake k).bind fun t5778 => some t5778) else (some false)).bind fun x5775 => some x5775)) else ((ref03_Heavy k p0 p1).bind fun t6054 => if t6054 = true then ((law03_awake k).bind fun t6060 => some t6060) else ((torus_Find k p0 p1 p2).bind fun t6065 => (if (t6065.2 == 4) = true then ((ref02_Great k p0 p1).bind fun t6092 => some t6092) else (some false)).bind fun x6089 => if x6089 = true then ((law03_no k t6065.1 t6065.2 4).bind fun t6103 => (if t6103 = true then ((law03_awake k).bind fun t6117 => some t6117) else (some false)).bind fun x6114 => some x6114) else ((ref03_Find k p0 p1 p2).bind fun t19126 => (law03_is k t6065.1 t6065.2 t19126.1 t19126.2).bind fun t19186 => (if t19186 = true then ((law03_awake k).bind fun t19200 => some t19200) else (some false)).bind fun x19197 => some x19197))))
end Gp
namespace Gp
open Go Gw Go.Proofs Go.RowKit
def ok_Tile (a : Tile) : Prop := (ok64 a.N) ∧ (ok64 a.E) ∧ (ok64 a.S) ∧ (ok64 a.W)
theorem opn_Tile_40 {H : Type} {enc : TypeId × Value → H} {w : World} {base : Nat} {spare : Nat → Bool} {held : Bool} {fuel : Nat} {cs : List Value} {x : DataW H × List MemPlace} (h : DataW.trod enc Tryd.prog w base spare held fuel 40 cs = some x) : ∃ (a : Tile), cs = [.int .i64 a.N, .int .i64 a.E, .int .i64 a.S, .int .i64 a.W] ∧ ok_Tile a := by
  obtain ⟨hl, n, hf⟩ := opn_fields Tryd.underlying40 h
  have hl0 : cs.length = 4 := hl.trans (by kernel_rfl)
  obtain ⟨q0, r0, rfl, hl1⟩ := cons_of hl0
  obtain ⟨q1, r1, rfl, hl2⟩ := cons_of hl1
  obtain ⟨q2, r2, rfl, hl3⟩ := cons_of hl2
  obtain ⟨q3, r3, rfl, hl4⟩ := cons_of hl3
  obtain rfl := List.eq_nil_of_length_eq_zero hl4
  obtain ⟨y0, h0⟩ := hf 0 _ 1 rfl (by kernel_rfl)
  have h0 : DataW.trod enc Tryd.prog w base spare held n 3 [q0] = some y0 := h0
  obtain ⟨a0, e0, w0⟩ := opn_int Tryd.underlying3 h0
  injection e0 with f0 e0
  subst f0
  obtain ⟨y1, h1⟩ := hf 1 _ 1 rfl (by kernel_rfl)
  have h1 : DataW.trod enc Tryd.prog w base spare held n 3 [q1] = some y1 := h1
  obtain ⟨a1, e1, w1⟩ := opn_int Tryd.underlying3 h1
  injection e1 with f1 e1
  subst f1
  obtain ⟨y2, h2⟩ := hf 2 _ 1 rfl (by kernel_rfl)
  have h2 : DataW.trod enc Tryd.prog w base spare held n 3 [q2] = some y2 := h2
  obtain ⟨a2, e2, w2⟩ := opn_int Tryd.underlying3 h2
  injection e2 with f2 e2
  subst f2
  obtain ⟨y3, h3⟩ := hf 3 _ 1 rfl (by kernel_rfl)
  have h3 : DataW.trod enc Tryd.prog w base spare held n 3 [q3] = some y3 := h3
  obtain ⟨a3, e3, w3⟩ := opn_int Tryd.underlying3 h3
  injection e3 with f3 e3
  subst f3
  exact ⟨⟨a0, a1, a2, a3⟩, rfl, ⟨wf64 w0, wf64 w1, wf64 w2, wf64 w3⟩⟩
theorem opens_Tile_40 : Opens Tryd.prog 40 enc_Tile ok_Tile := ⟨by kernel_rfl, by decide, fun h => opn_Tile_40 h⟩
end Gp
