/- The functions that the law reaches, as plain functions; how what comes in is opened. -/
import Derived.Test.YtchikbfmbfoaoaaGreatDoorGs
set_option linter.unusedVariables false
set_option linter.unusedSimpArgs false
set_option maxHeartbeats 4000000
set_option maxRecDepth 8000
namespace Gp
open Go Gw
abbrev iv (n : Int) : Value := .int .i64 n
abbrev pt (g : Nat) : Value := .pointer (some ⟨g, 0, none⟩)
abbrev sv {α : Type} (A : Option Addr) (l : List α) (c : Nat) : Value := .slice A l.length c
abbrev bv (b : Bool) : Value := .bool b
structure Tile where
  N : Int
  E : Int
  S : Int
  W : Int
  deriving DecidableEq
def z_Tile : Tile := ⟨0, 0, 0, 0⟩
def ints_Tile (x : Tile) : List Int := [x.N, x.E, x.S, x.W]
def enc_Tile : Enc Tile := ⟨4, fun x => [(.int .i64 x.N), (.int .i64 x.E), (.int .i64 x.S), (.int .i64 x.W)], fun _ => rfl, fun x u h => by simp at h; rcases h with rfl | rfl | rfl | rfl <;> rfl⟩
structure Edges where
  North : List Int
  East : List Int
  South : List Int
  West : List Int
  deriving DecidableEq
def z_Edges : Edges := ⟨[], [], [], []⟩
structure A8_Int where
  e0 : Int
  e1 : Int
  e2 : Int
  e3 : Int
  e4 : Int
  e5 : Int
  e6 : Int
  e7 : Int
  deriving DecidableEq
def z_A8_Int : A8_Int := ⟨0, 0, 0, 0, 0, 0, 0, 0⟩
def A8_Int.get (a : A8_Int) (i : Int) : Int := if i = 0 then a.e0 else if i = 1 then a.e1 else if i = 2 then a.e2 else if i = 3 then a.e3 else if i = 4 then a.e4 else if i = 5 then a.e5 else if i = 6 then a.e6 else a.e7
def A8_Int.set (a : A8_Int) (i v : Int) : A8_Int := ⟨if i = 0 then v else a.e0, if i = 1 then v else a.e1, if i = 2 then v else a.e2, if i = 3 then v else a.e3, if i = 4 then v else a.e4, if i = 5 then v else a.e5, if i = 6 then v else a.e6, if i = 7 then v else a.e7⟩
def ints_A8_Int (x : A8_Int) : List Int := [x.e0, x.e1, x.e2, x.e3, x.e4, x.e5, x.e6, x.e7]
def enc_A8_Int : Enc A8_Int := ⟨8, fun x => [(.int .i64 x.e0), (.int .i64 x.e1), (.int .i64 x.e2), (.int .i64 x.e3), (.int .i64 x.e4), (.int .i64 x.e5), (.int .i64 x.e6), (.int .i64 x.e7)], fun _ => rfl, fun x u h => by simp at h; rcases h with rfl | rfl | rfl | rfl | rfl | rfl | rfl | rfl <;> rfl⟩
structure Row where
  Cells : List Int
  South : A8_Int
  North : A8_Int
  West : Int
  East : Int
  deriving DecidableEq
def z_Row : Row := ⟨[], z_A8_Int, z_A8_Int, 0, 0⟩
def encN_Row : Enc (HF × Row) := ⟨19, fun x => [(.slice (x.1 0).1 x.2.Cells.length (x.1 0).2), (.int .i64 x.2.South.e0), (.int .i64 x.2.South.e1), (.int .i64 x.2.South.e2), (.int .i64 x.2.South.e3), (.int .i64 x.2.South.e4), (.int .i64 x.2.South.e5), (.int .i64 x.2.South.e6), (.int .i64 x.2.South.e7), (.int .i64 x.2.North.e0), (.int .i64 x.2.North.e1), (.int .i64 x.2.North.e2), (.int .i64 x.2.North.e3), (.int .i64 x.2.North.e4), (.int .i64 x.2.North.e5), (.int .i64 x.2.North.e6), (.int .i64 x.2.North.e7), (.int .i64 x.2.West), (.int .i64 x.2.East)], fun _ => rfl, fun x u h => by simp at h; rcases h with rfl | rfl | rfl | rfl | rfl | rfl | rfl | rfl | rfl | rfl | rfl | rfl | rfl | rfl | rfl | rfl | rfl | rfl | rfl <;> rfl⟩
def subN_Row (h : HF) (x : Row) : Own := rowR encInt (h 0).1 (h 0).2 x.Cells
structure Job where
  rows : List Row
  width : Int
  height : Int
  edges : Edges
  deriving DecidableEq
def z_Job : Job := ⟨[], 0, 0, z_Edges⟩
structure Pattern where
  Width : Int
  Height : Int
  Cells : List Int
  deriving DecidableEq
def z_Pattern : Pattern := ⟨0, 0, []⟩
def encN_Pattern : Enc (HF × Pattern) := ⟨3, fun x => [(.int .i64 x.2.Width), (.int .i64 x.2.Height), (.slice (x.1 0).1 x.2.Cells.length (x.1 0).2)], fun _ => rfl, fun x u h => by simp at h; rcases h with rfl | rfl | rfl <;> rfl⟩
def subN_Pattern (h : HF) (x : Pattern) : Own := rowR encInt (h 0).1 (h 0).2 x.Cells
structure Rest where
  set : List Tile
  left : List Int
  deriving DecidableEq
def z_Rest : Rest := ⟨[], []⟩
structure S_side_n where
  side : List Int
  n : Int
  deriving DecidableEq
def z_S_side_n : S_side_n := ⟨[], 0⟩
def encN_S_side_n : Enc (HF × S_side_n) := ⟨2, fun x => [(.slice (x.1 0).1 x.2.side.length (x.1 0).2), (.int .i64 x.2.n)], fun _ => rfl, fun x u h => by simp at h; rcases h with rfl | rfl <;> rfl⟩
def subN_S_side_n (h : HF) (x : S_side_n) : Own := rowR encInt (h 0).1 (h 0).2 x.side
structure A16_Int where
  e0 : Int
  e1 : Int
  e2 : Int
  e3 : Int
  e4 : Int
  e5 : Int
  e6 : Int
  e7 : Int
  e8 : Int
  e9 : Int
  e10 : Int
  e11 : Int
  e12 : Int
  e13 : Int
  e14 : Int
  e15 : Int
  deriving DecidableEq
def z_A16_Int : A16_Int := ⟨0, 0, 0, 0, 0, 0, 0, 0, 0, 0, 0, 0, 0, 0, 0, 0⟩
def A16_Int.get (a : A16_Int) (i : Int) : Int := getI [a.e0, a.e1, a.e2, a.e3, a.e4, a.e5, a.e6, a.e7, a.e8, a.e9, a.e10, a.e11, a.e12, a.e13, a.e14, a.e15] i
def A16_Int.set (a : A16_Int) (i v : Int) : A16_Int := ⟨if i = 0 then v else a.e0, if i = 1 then v else a.e1, if i = 2 then v else a.e2, if i = 3 then v else a.e3, if i = 4 then v else a.e4, if i = 5 then v else a.e5, if i = 6 then v else a.e6, if i = 7 then v else a.e7, if i = 8 then v else a.e8, if i = 9 then v else a.e9, if i = 10 then v else a.e10, if i = 11 then v else a.e11, if i = 12 then v else a.e12, if i = 13 then v else a.e13, if i = 14 then v else a.e14, if i = 15 then v else a.e15⟩
def enc_A16_Int : Enc A16_Int := ⟨16, fun x => [(.int .u64 x.e0), (.int .u64 x.e1), (.int .u64 x.e2), (.int .u64 x.e3), (.int .u64 x.e4), (.int .u64 x.e5), (.int .u64 x.e6), (.int .u64 x.e7), (.int .u64 x.e8), (.int .u64 x.e9), (.int .u64 x.e10), (.int .u64 x.e11), (.int .u64 x.e12), (.int .u64 x.e13), (.int .u64 x.e14), (.int .u64 x.e15)], fun _ => rfl, fun x u h => by simp at h; rcases h with rfl | rfl | rfl | rfl | rfl | rfl | rfl | rfl | rfl | rfl | rfl | rfl | rfl | rfl | rfl | rfl <;> rfl⟩
structure A2_Int where
  e0 : Int
  e1 : Int
  deriving DecidableEq
def z_A2_Int : A2_Int := ⟨0, 0⟩
def ints_A2_Int (x : A2_Int) : List Int := [x.e0, x.e1]
def enc_A2_Int : Enc A2_Int := ⟨2, fun x => [(.int .i64 x.e0), (.int .i64 x.e1)], fun _ => rfl, fun x u h => by simp at h; rcases h with rfl | rfl <;> rfl⟩
def ref01_colour (p0 : Int) : Option Bool := some ((decide (p0 ≥ 0)) && (decide (p0 < 1000)))
def ref01_Index.l0 : Nat → Int → (List Tile) → Tile → Option (Sum Int Unit)
  | 0, _, _, _ => none
  | k + 1, x95, p0, p1 => if (decide (x95 < (p0.length : Int))) = true then (if 0 ≤ x95 ∧ x95 < (p0.length : Int) then (if (((rdD p0 x95 z_Tile).N) == p1.N && (((rdD p0 x95 z_Tile).E) == p1.E && (((rdD p0 x95 z_Tile).S) == p1.S && (((rdD p0 x95 z_Tile).W) == p1.W)))) = true then (some (.inl x95)) else (ref01_Index.l0 k (w64 (x95 + 1)) p0 p1)) else none) else (some (.inr ()))
def ref01_Index (k : Nat) (p0 : List Tile) (p1 : Tile) : Option Int := (ref01_Index.l0 k 0 p0 p1).bind fun x96 => sumb x96 (fun r => some r) (fun y2 => some (-1))
def ref01_Valid.l0 : Nat → Int → (List Tile) → Option (Sum Bool Unit)
  | 0, _, _ => none
  | k + 1, x2, p0 => if (decide (x2 < (p0.length : Int))) = true then (if 0 ≤ x2 ∧ x2 < (p0.length : Int) then ((ref01_colour ((rdD p0 x2 z_Tile).N)).bind fun t3 => (if (!t3) = true then (some true) else ((ref01_colour ((rdD p0 x2 z_Tile).E)).bind fun t5 => some (!t5))).bind fun x4 => (if x4 = true then (some true) else ((ref01_colour ((rdD p0 x2 z_Tile).S)).bind fun t7 => some (!t7))).bind fun x6 => (if x6 = true then (some true) else ((ref01_colour ((rdD p0 x2 z_Tile).W)).bind fun t9 => some (!t9))).bind fun x8 => (if x8 = true then (some true) else (if 0 ≤ (0 : Int) ∧ (0 : Int) ≤ x2 ∧ x2 ≤ (p0.length : Int) then ((ref01_Index k (cut p0 (0 : Int) x2) (rdD p0 x2 z_Tile)).bind fun t11 => some (decide (t11 ≥ 0))) else none)).bind fun x10 => if x10 = true then (some (.inl false)) else (ref01_Valid.l0 k (w64 (x2 + 1)) p0)) else none) else (some (.inr ()))
def ref01_Valid (k : Nat) (p0 : List Tile) : Option Bool := if (decide ((p0.length : Int) > 1000)) = true then (some false) else ((ref01_Valid.l0 k 0 p0).bind fun x2 => sumb x2 (fun r => some r) (fun y3 => some true))
def ref02_at.l0 : Nat → Int → (List Int) → Int → Option (Sum Int Unit)
  | 0, _, _, _ => none
  | k + 1, x3, p0, p1 => if (decide (x3 < (p0.length : Int))) = true then (if 0 ≤ x3 ∧ x3 < (p0.length : Int) then (if ((rdD p0 x3 0) == p1) = true then (some (.inl x3)) else (ref02_at.l0 k (w64 (x3 + 1)) p0 p1)) else none) else (some (.inr ()))
def ref02_at (k : Nat) (p0 : List Int) (p1 : Int) : Option Int := (ref02_at.l0 k 0 p0 p1).bind fun x3 => sumb x3 (fun r => some r) (fun y4 => some (-1))
def ref02_with (k : Nat) (p0 : List Int) (p1 : Int) : Option (List Int) := (ref02_at k p0 p1).bind fun t3 => (if (decide (t3 < 0)) = true then (if p0.length + [p1].length ≤ 100000000000 then (some (p0 ++ [p1])) else none) else (some p0)).bind fun x4 => some x4
def ref02_Colours.l0 : Nat → (List Int) → Int → (List Tile) → Option (List Int)
  | 0, _, _, _ => none
  | k + 1, l1, x3, p0 => if (decide (x3 < (p0.length : Int))) = true then (if 0 ≤ x3 ∧ x3 < (p0.length : Int) then ((ref02_with k l1 ((rdD p0 x3 z_Tile).N)).bind fun t4 => (ref02_with k t4 ((rdD p0 x3 z_Tile).S)).bind fun t5 => ref02_Colours.l0 k t5 (w64 (x3 + 1)) p0) else none) else (some l1)
def ref02_Colours (k : Nat) (p0 : List Tile) : Option (List Int) := (ref02_Colours.l0 k ([] : List Int) 0 p0).bind fun x1 => some x1
def ref02_Power.l0 : Nat → Int → Int → Int → Int → Option Int
  | 0, _, _, _, _ => none
  | k + 1, x3, x4, p0, p1 => if (decide (x4 < p1)) = true then (ref02_Power.l0 k (minI (w64 (x3 * p0)) 1000000) (w64 (x4 + 1)) p0 p1) else (some x3)
def ref02_Power (k : Nat) (p0 : Int) (p1 : Int) : Option Int := (ref02_Power.l0 k 1 0 p0 p1).bind fun x3 => some x3
def ref02_Light (k : Nat) (p0 : List Tile) (p1 : Int) : Option Bool := (ref02_Colours k p0).bind fun t3 => (ref02_Power k (t3.length : Int) p1).bind fun t4 => (if (decide (t4 ≤ 1500)) = true then ((ref02_Power k (p0.length : Int) p1).bind fun t6 => some (decide (t6 ≤ 40000))) else (some false)).bind fun x5 => some x5
def tile_colour_1 (p0 : Int) : Option Bool := some ((decide (p0 < 0)) || (decide (p0 ≥ 1000)))
def slices_IndexFunc_int_int_with_tile_colour_1.l0 : Nat → Int → (List Int) → Option (Sum Int Unit)
  | 0, _, _ => none
  | k + 1, x2, p0 => if (decide (x2 < (p0.length : Int))) = true then (if 0 ≤ x2 ∧ x2 < (p0.length : Int) then ((tile_colour_1 (rdD p0 x2 0)).bind fun t3 => if t3 = true then (some (.inl x2)) else (slices_IndexFunc_int_int_with_tile_colour_1.l0 k (w64 (x2 + 1)) p0)) else none) else (some (.inr ()))
def slices_IndexFunc_int_int_with_tile_colour_1 (k : Nat) (p0 : List Int) : Option Int := (slices_IndexFunc_int_int_with_tile_colour_1.l0 k 0 p0).bind fun x2 => sumb x2 (fun r => some r) (fun y3 => some (-1))
def slices_ContainsFunc_int_int_with_tile_colour_1 (k : Nat) (p0 : List Int) : Option Bool := (slices_IndexFunc_int_int_with_tile_colour_1 k p0).bind fun t2 => some (decide (t2 ≥ 0))
def tile_colour (k : Nat) (p0 : List Int) : Option Bool := (slices_ContainsFunc_int_int_with_tile_colour_1 k p0).bind fun t2 => some (!t2)
def tile_Valid.l0 : Nat → (List (Tile × Bool)) → Int → (List Tile) → Option (Sum Bool Unit)
  | 0, _, _, _ => none
  | k + 1, l1, x2, p0 => if (decide (x2 < (p0.length : Int))) = true then (if 0 ≤ x2 ∧ x2 < (p0.length : Int) then ((if (mget (rdD p0 x2 z_Tile) false l1) = true then (some true) else ((tile_colour k [(rdD p0 x2 z_Tile).N, (rdD p0 x2 z_Tile).E, (rdD p0 x2 z_Tile).S, (rdD p0 x2 z_Tile).W]).bind fun t4 => some (!t4))).bind fun x3 => if x3 = true then (some (.inl false)) else (tile_Valid.l0 k (mput (rdD p0 x2 z_Tile) true l1) (w64 (x2 + 1)) p0)) else none) else (some (.inr ()))
def tile_Valid (k : Nat) (p0 : List Tile) : Option Bool := if (decide ((p0.length : Int) > 1000)) = true then (some false) else ((tile_Valid.l0 k ([] : List (Tile × Bool)) 0 p0).bind fun x1 => sumb x1 (fun r => some r) (fun y2 => some true))
def tile_write.l1 : Nat → (List ByteArray) → Int → (List Tile) → Int → Option (List ByteArray)
  | 0, _, _, _, _ => none
  | k + 1, l3, x4, p0, x2 => if (decide (x4 < 4)) = true then (if (x4 == 0) = true then ((itoaN ((rdD p0 x2 z_Tile).N)).bind fun t5 => if l3.length + [t5].length ≤ 100000000000 then (tile_write.l1 k (l3 ++ [t5]) (w64 (x4 + 1)) p0 x2) else none) else (if (x4 == 1) = true then ((itoaN ((rdD p0 x2 z_Tile).E)).bind fun t6 => if l3.length + [t6].length ≤ 100000000000 then (tile_write.l1 k (l3 ++ [t6]) (w64 (x4 + 1)) p0 x2) else none) else (if (x4 == 2) = true then ((itoaN ((rdD p0 x2 z_Tile).S)).bind fun t7 => if l3.length + [t7].length ≤ 100000000000 then (tile_write.l1 k (l3 ++ [t7]) (w64 (x4 + 1)) p0 x2) else none) else (if (x4 == 3) = true then ((itoaN ((rdD p0 x2 z_Tile).W)).bind fun t8 => if l3.length + [t8].length ≤ 100000000000 then (tile_write.l1 k (l3 ++ [t8]) (w64 (x4 + 1)) p0 x2) else none) else (none))))) else (some l3)
def tile_write.l0 : Nat → (List ByteArray) → Int → (List Tile) → Option (List ByteArray)
  | 0, _, _, _ => none
  | k + 1, l2, x3, p0 => if (decide (x3 < (p0.length : Int))) = true then (if 0 ≤ x3 ∧ x3 < (p0.length : Int) then ((tile_write.l1 k ([] : List ByteArray) 0 p0 x3).bind fun x4 => (joinP x4 (⟨#[46]⟩ : ByteArray)).bind fun t5 => if l2.length + [t5].length ≤ 100000000000 then (tile_write.l0 k (l2 ++ [t5]) (w64 (x3 + 1)) p0) else none) else none) else (some l2)
def tile_write (k : Nat) (p0 : List Tile) : Option ByteArray := (tile_write.l0 k ([] : List ByteArray) 0 p0).bind fun x1 => (joinP x1 (⟨#[32]⟩ : ByteArray)).bind fun t2 => some t2
def tile_Parse.l1 : Nat → Int → Int → Int → Int → Int → ByteArray → Int → Option (Sum ((List Tile) × Int) (Int × Int × Int × Int))
  | 0, _, _, _, _, _, _, _ => none
  | k + 1, x3, x4, x5, x6, x7, p0, x2 => if (decide (x7 < ((splitP (rdD (splitP p0 (⟨#[32]⟩ : ByteArray)) x2 ByteArray.empty) (⟨#[46]⟩ : ByteArray)).length : Int))) = true then (if 0 ≤ x7 ∧ x7 < ((splitP (rdD (splitP p0 (⟨#[32]⟩ : ByteArray)) x2 ByteArray.empty) (⟨#[46]⟩ : ByteArray)).length : Int) then ((atoiN (rdD (splitP (rdD (splitP p0 (⟨#[32]⟩ : ByteArray)) x2 ByteArray.empty) (⟨#[46]⟩ : ByteArray)) x7 ByteArray.empty)).bind fun t8 => if t8.2 = true then (some (.inl (([] : List Tile), 3))) else (if (x7 == 0) = true then (tile_Parse.l1 k t8.1 x4 x5 x6 (w64 (x7 + 1)) p0 x2) else (if (x7 == 1) = true then (tile_Parse.l1 k x3 t8.1 x5 x6 (w64 (x7 + 1)) p0 x2) else (if (x7 == 2) = true then (tile_Parse.l1 k x3 x4 t8.1 x6 (w64 (x7 + 1)) p0 x2) else (if (x7 == 3) = true then (tile_Parse.l1 k x3 x4 x5 t8.1 (w64 (x7 + 1)) p0 x2) else (none)))))) else none) else (some (.inr (x3, x4, x5, x6)))
def tile_Parse.l0 : Nat → (List Tile) → Int → ByteArray → Option (Sum ((List Tile) × Int) (List Tile))
  | 0, _, _, _ => none
  | k + 1, l2, x3, p0 => if (decide (x3 < ((splitP p0 (⟨#[32]⟩ : ByteArray)).length : Int))) = true then (if 0 ≤ x3 ∧ x3 < ((splitP p0 (⟨#[32]⟩ : ByteArray)).length : Int) then (if (rdD (splitP p0 (⟨#[32]⟩ : ByteArray)) x3 ByteArray.empty).size < 4294967281 ∧ 1 ≤ (⟨#[46]⟩ : ByteArray).size then (if ((((splitP (rdD (splitP p0 (⟨#[32]⟩ : ByteArray)) x3 ByteArray.empty) (⟨#[46]⟩ : ByteArray)).length : Int) != 4) || (decide ((l2.length : Int) > 1000))) = true then (some (.inl (([] : List Tile), 3))) else ((tile_Parse.l1 k 0 0 0 0 0 p0 x3).bind fun x4 => sumb x4 (fun r => some (.inl r)) (fun y5 => if l2.length + [(Tile.mk y5.1 y5.2.1 y5.2.2.1 y5.2.2.2)].length ≤ 100000000000 then (tile_Parse.l0 k (l2 ++ [(Tile.mk y5.1 y5.2.1 y5.2.2.1 y5.2.2.2)]) (w64 (x3 + 1)) p0) else none))) else none) else none) else (some (.inr l2))
def tile_Parse (k : Nat) (p0 : ByteArray) : Option ((List Tile) × Int) := if (strEq p0 (⟨#[]⟩ : ByteArray)) = true then (some (([] : List Tile), 0)) else (if (decide ((p0.size : Int) > 16000)) = true then (some (([] : List Tile), 3)) else (if p0.size < 4294967281 ∧ 1 ≤ (⟨#[32]⟩ : ByteArray).size then ((tile_Parse.l0 k ([] : List Tile) 0 p0).bind fun x1 => sumb x1 (fun r => some r) (fun y2 => (tile_Valid k y2).bind fun t3 => (if (!t3) = true then (some true) else ((tile_write k y2).bind fun t5 => some (!(strEq t5 p0)))).bind fun x4 => if x4 = true then (some (([] : List Tile), 3)) else (some (y2, 0)))) else none))
def strip_colours_put (p0 : A16_Int) (p1 : Int) : Option A16_Int := if 0 ≤ w64 (Int.tdiv p1 64) ∧ w64 (Int.tdiv p1 64) < (16 : Int) then (if 0 ≤ (Int.tmod p1 64) ∧ (Int.tmod p1 64) < 64 then (some (A16_Int.set p0 (w64 (Int.tdiv p1 64)) (orV (A16_Int.get p0 (w64 (Int.tdiv p1 64))) (shlV 1 (Int.tmod p1 64))))) else none) else none
def strip_colours_has (p0 : A16_Int) (p1 : Int) : Option Bool := if 0 ≤ w64 (Int.tdiv p1 64) ∧ w64 (Int.tdiv p1 64) < (16 : Int) then (if 0 ≤ (Int.tmod p1 64) ∧ (Int.tmod p1 64) < 64 then (some ((andV (shrV (A16_Int.get p0 (w64 (Int.tdiv p1 64))) (Int.tmod p1 64)) 1) == 1)) else none) else none
def bits_OnesCount64 (p0 : Int) : Option Int := some (andI (w64 (IntKind.wrap .u64 ((IntKind.wrap .u64 ((IntKind.wrap .u64 ((andV (IntKind.wrap .u64 ((shrV (IntKind.wrap .u64 ((andV (shrV (IntKind.wrap .u64 ((andV (shrV p0 1) 6148914691236517205) + (andV p0 6148914691236517205))) 2) 3689348814741910323) + (andV (IntKind.wrap .u64 ((andV (shrV p0 1) 6148914691236517205) + (andV p0 6148914691236517205))) 3689348814741910323))) 4) + (IntKind.wrap .u64 ((andV (shrV (IntKind.wrap .u64 ((andV (shrV p0 1) 6148914691236517205) + (andV p0 6148914691236517205))) 2) 3689348814741910323) + (andV (IntKind.wrap .u64 ((andV (shrV p0 1) 6148914691236517205) + (andV p0 6148914691236517205))) 3689348814741910323))))) 1085102592571150095) + (shrV (andV (IntKind.wrap .u64 ((shrV (IntKind.wrap .u64 ((andV (shrV (IntKind.wrap .u64 ((andV (shrV p0 1) 6148914691236517205) + (andV p0 6148914691236517205))) 2) 3689348814741910323) + (andV (IntKind.wrap .u64 ((andV (shrV p0 1) 6148914691236517205) + (andV p0 6148914691236517205))) 3689348814741910323))) 4) + (IntKind.wrap .u64 ((andV (shrV (IntKind.wrap .u64 ((andV (shrV p0 1) 6148914691236517205) + (andV p0 6148914691236517205))) 2) 3689348814741910323) + (andV (IntKind.wrap .u64 ((andV (shrV p0 1) 6148914691236517205) + (andV p0 6148914691236517205))) 3689348814741910323))))) 1085102592571150095) 8))) + (shrV (IntKind.wrap .u64 ((andV (IntKind.wrap .u64 ((shrV (IntKind.wrap .u64 ((andV (shrV (IntKind.wrap .u64 ((andV (shrV p0 1) 6148914691236517205) + (andV p0 6148914691236517205))) 2) 3689348814741910323) + (andV (IntKind.wrap .u64 ((andV (shrV p0 1) 6148914691236517205) + (andV p0 6148914691236517205))) 3689348814741910323))) 4) + (IntKind.wrap .u64 ((andV (shrV (IntKind.wrap .u64 ((andV (shrV p0 1) 6148914691236517205) + (andV p0 6148914691236517205))) 2) 3689348814741910323) + (andV (IntKind.wrap .u64 ((andV (shrV p0 1) 6148914691236517205) + (andV p0 6148914691236517205))) 3689348814741910323))))) 1085102592571150095) + (shrV (andV (IntKind.wrap .u64 ((shrV (IntKind.wrap .u64 ((andV (shrV (IntKind.wrap .u64 ((andV (shrV p0 1) 6148914691236517205) + (andV p0 6148914691236517205))) 2) 3689348814741910323) + (andV (IntKind.wrap .u64 ((andV (shrV p0 1) 6148914691236517205) + (andV p0 6148914691236517205))) 3689348814741910323))) 4) + (IntKind.wrap .u64 ((andV (shrV (IntKind.wrap .u64 ((andV (shrV p0 1) 6148914691236517205) + (andV p0 6148914691236517205))) 2) 3689348814741910323) + (andV (IntKind.wrap .u64 ((andV (shrV p0 1) 6148914691236517205) + (andV p0 6148914691236517205))) 3689348814741910323))))) 1085102592571150095) 8))) 16))) + (shrV (IntKind.wrap .u64 ((IntKind.wrap .u64 ((andV (IntKind.wrap .u64 ((shrV (IntKind.wrap .u64 ((andV (shrV (IntKind.wrap .u64 ((andV (shrV p0 1) 6148914691236517205) + (andV p0 6148914691236517205))) 2) 3689348814741910323) + (andV (IntKind.wrap .u64 ((andV (shrV p0 1) 6148914691236517205) + (andV p0 6148914691236517205))) 3689348814741910323))) 4) + (IntKind.wrap .u64 ((andV (shrV (IntKind.wrap .u64 ((andV (shrV p0 1) 6148914691236517205) + (andV p0 6148914691236517205))) 2) 3689348814741910323) + (andV (IntKind.wrap .u64 ((andV (shrV p0 1) 6148914691236517205) + (andV p0 6148914691236517205))) 3689348814741910323))))) 1085102592571150095) + (shrV (andV (IntKind.wrap .u64 ((shrV (IntKind.wrap .u64 ((andV (shrV (IntKind.wrap .u64 ((andV (shrV p0 1) 6148914691236517205) + (andV p0 6148914691236517205))) 2) 3689348814741910323) + (andV (IntKind.wrap .u64 ((andV (shrV p0 1) 6148914691236517205) + (andV p0 6148914691236517205))) 3689348814741910323))) 4) + (IntKind.wrap .u64 ((andV (shrV (IntKind.wrap .u64 ((andV (shrV p0 1) 6148914691236517205) + (andV p0 6148914691236517205))) 2) 3689348814741910323) + (andV (IntKind.wrap .u64 ((andV (shrV p0 1) 6148914691236517205) + (andV p0 6148914691236517205))) 3689348814741910323))))) 1085102592571150095) 8))) + (shrV (IntKind.wrap .u64 ((andV (IntKind.wrap .u64 ((shrV (IntKind.wrap .u64 ((andV (shrV (IntKind.wrap .u64 ((andV (shrV p0 1) 6148914691236517205) + (andV p0 6148914691236517205))) 2) 3689348814741910323) + (andV (IntKind.wrap .u64 ((andV (shrV p0 1) 6148914691236517205) + (andV p0 6148914691236517205))) 3689348814741910323))) 4) + (IntKind.wrap .u64 ((andV (shrV (IntKind.wrap .u64 ((andV (shrV p0 1) 6148914691236517205) + (andV p0 6148914691236517205))) 2) 3689348814741910323) + (andV (IntKind.wrap .u64 ((andV (shrV p0 1) 6148914691236517205) + (andV p0 6148914691236517205))) 3689348814741910323))))) 1085102592571150095) + (shrV (andV (IntKind.wrap .u64 ((shrV (IntKind.wrap .u64 ((andV (shrV (IntKind.wrap .u64 ((andV (shrV p0 1) 6148914691236517205) + (andV p0 6148914691236517205))) 2) 3689348814741910323) + (andV (IntKind.wrap .u64 ((andV (shrV p0 1) 6148914691236517205) + (andV p0 6148914691236517205))) 3689348814741910323))) 4) + (IntKind.wrap .u64 ((andV (shrV (IntKind.wrap .u64 ((andV (shrV p0 1) 6148914691236517205) + (andV p0 6148914691236517205))) 2) 3689348814741910323) + (andV (IntKind.wrap .u64 ((andV (shrV p0 1) 6148914691236517205) + (andV p0 6148914691236517205))) 3689348814741910323))))) 1085102592571150095) 8))) 16))) 32)))) 127)
def strip_Rows.l0 : Nat → A16_Int → Int → Option A16_Int
  | 0, _, _ => none
  | k + 1, a1, x2 => if (decide (x2 < 1000)) = true then ((strip_colours_put a1 x2).bind fun t3 => strip_Rows.l0 k t3 (w64 (x2 + 1))) else (some a1)
def strip_Rows.l2 : Nat → A16_Int → Int → (List Tile) → A16_Int → Option A16_Int
  | 0, _, _, _, _ => none
  | k + 1, a3, x4, p0, a1 => if (decide (x4 < (p0.length : Int))) = true then (if 0 ≤ x4 ∧ x4 < (p0.length : Int) then ((strip_colours_has a1 ((rdD p0 x4 z_Tile).E)).bind fun t5 => (if t5 = true then ((strip_colours_put a3 ((rdD p0 x4 z_Tile).W)).bind fun t7 => some t7) else (some a3)).bind fun x6 => strip_Rows.l2 k x6 (w64 (x4 + 1)) p0 a1) else none) else (some a3)
def strip_Rows.l3 : Nat → Int → Int → A16_Int → Option Int
  | 0, _, _, _ => none
  | k + 1, x2, x4, x1 => if (decide (x4 < 16)) = true then (if 0 ≤ x4 ∧ x4 < (16 : Int) then ((bits_OnesCount64 (A16_Int.get x1 x4)).bind fun t5 => strip_Rows.l3 k (w64 (x2 + t5)) (w64 (x4 + 1)) x1) else none) else (some x2)
def strip_Rows.l1 : Nat → A16_Int → Int → (List Tile) → Option (Sum (Int × Int) Unit)
  | 0, _, _, _ => none
  | k + 1, a4, x5, p0 => if (decide (x5 ≤ 1000)) = true then ((strip_Rows.l2 k (A16_Int.mk 0 0 0 0 0 0 0 0 0 0 0 0 0 0 0 0) 0 p0 a4).bind fun x6 => (strip_Rows.l3 k 0 0 x6).bind fun x7 => if (x7 == 0) = true then (some (.inl (x5, 0))) else (strip_Rows.l1 k x6 (w64 (x5 + 1)) p0)) else (some (.inr ()))
def strip_Rows (k : Nat) (p0 : List Tile) : Option (Int × Int) := (tile_Valid k p0).bind fun t2 => if (!t2) = true then (some (0, 1)) else ((strip_Rows.l0 k (A16_Int.mk 0 0 0 0 0 0 0 0 0 0 0 0 0 0 0 0) 0).bind fun x3 => (strip_Rows.l1 k x3 0 p0).bind fun x4 => sumb x4 (fun r => some r) (fun y5 => some (0, 6)))
def strip_north (p0 : Tile) : Option Int := some p0.N
def strip_rest_colours_with_strip_north.l0 : Nat → (List (Int × Bool)) → Int → Rest → Option (List (Int × Bool))
  | 0, _, _, _ => none
  | k + 1, l1, x2, p0 => if (decide (x2 < (p0.left.length : Int))) = true then (if 0 ≤ x2 ∧ x2 < (p0.left.length : Int) then (if 0 ≤ (rdD p0.left x2 0) ∧ (rdD p0.left x2 0) < (p0.set.length : Int) then ((strip_north (rdD p0.set (rdD p0.left x2 0) z_Tile)).bind fun t3 => strip_rest_colours_with_strip_north.l0 k (mput t3 true l1) (w64 (x2 + 1)) p0) else none) else none) else (some l1)
def strip_rest_colours_with_strip_north (k : Nat) (p0 : Rest) : Option (List (Int × Bool)) := (strip_rest_colours_with_strip_north.l0 k ([] : List (Int × Bool)) 0 p0).bind fun x1 => some x1
def strip_east (p0 : Tile) : Option Int := some p0.E
def strip_rest_colours_with_strip_east.l0 : Nat → (List (Int × Bool)) → Int → Rest → Option (List (Int × Bool))
  | 0, _, _, _ => none
  | k + 1, l1, x2, p0 => if (decide (x2 < (p0.left.length : Int))) = true then (if 0 ≤ x2 ∧ x2 < (p0.left.length : Int) then (if 0 ≤ (rdD p0.left x2 0) ∧ (rdD p0.left x2 0) < (p0.set.length : Int) then ((strip_east (rdD p0.set (rdD p0.left x2 0) z_Tile)).bind fun t3 => strip_rest_colours_with_strip_east.l0 k (mput t3 true l1) (w64 (x2 + 1)) p0) else none) else none) else (some l1)
def strip_rest_colours_with_strip_east (k : Nat) (p0 : Rest) : Option (List (Int × Bool)) := (strip_rest_colours_with_strip_east.l0 k ([] : List (Int × Bool)) 0 p0).bind fun x1 => some x1
def strip_south (p0 : Tile) : Option Int := some p0.S
def strip_rest_colours_with_strip_south.l0 : Nat → (List (Int × Bool)) → Int → Rest → Option (List (Int × Bool))
  | 0, _, _, _ => none
  | k + 1, l1, x2, p0 => if (decide (x2 < (p0.left.length : Int))) = true then (if 0 ≤ x2 ∧ x2 < (p0.left.length : Int) then (if 0 ≤ (rdD p0.left x2 0) ∧ (rdD p0.left x2 0) < (p0.set.length : Int) then ((strip_south (rdD p0.set (rdD p0.left x2 0) z_Tile)).bind fun t3 => strip_rest_colours_with_strip_south.l0 k (mput t3 true l1) (w64 (x2 + 1)) p0) else none) else none) else (some l1)
def strip_rest_colours_with_strip_south (k : Nat) (p0 : Rest) : Option (List (Int × Bool)) := (strip_rest_colours_with_strip_south.l0 k ([] : List (Int × Bool)) 0 p0).bind fun x1 => some x1
def strip_west (p0 : Tile) : Option Int := some p0.W
def strip_rest_colours_with_strip_west.l0 : Nat → (List (Int × Bool)) → Int → Rest → Option (List (Int × Bool))
  | 0, _, _, _ => none
  | k + 1, l1, x2, p0 => if (decide (x2 < (p0.left.length : Int))) = true then (if 0 ≤ x2 ∧ x2 < (p0.left.length : Int) then (if 0 ≤ (rdD p0.left x2 0) ∧ (rdD p0.left x2 0) < (p0.set.length : Int) then ((strip_west (rdD p0.set (rdD p0.left x2 0) z_Tile)).bind fun t3 => strip_rest_colours_with_strip_west.l0 k (mput t3 true l1) (w64 (x2 + 1)) p0) else none) else none) else (some l1)
def strip_rest_colours_with_strip_west (k : Nat) (p0 : Rest) : Option (List (Int × Bool)) := (strip_rest_colours_with_strip_west.l0 k ([] : List (Int × Bool)) 0 p0).bind fun x1 => some x1
def strip_rest_thin_1 (p0 : Int) (f0 : Rest) (f1 : List (Int × Bool)) (f2 : List (Int × Bool)) (f3 : List (Int × Bool)) (f4 : List (Int × Bool)) : Option Bool := if 0 ≤ p0 ∧ p0 < (f0.set.length : Int) then (some ((((mget ((rdD f0.set p0 z_Tile).N) false f1) && (mget ((rdD f0.set p0 z_Tile).E) false f2)) && (mget ((rdD f0.set p0 z_Tile).S) false f3)) && (mget ((rdD f0.set p0 z_Tile).W) false f4))) else none
def strip_kept_int_with_strip_rest_thin_1.l0 : Nat → (List Int) → Int → (List Int) → Rest → (List (Int × Bool)) → (List (Int × Bool)) → (List (Int × Bool)) → (List (Int × Bool)) → Option (List Int)
  | 0, _, _, _, _, _, _, _, _ => none
  | k + 1, l2, x3, p0, p1_0, p1_1, p1_2, p1_3, p1_4 => if (decide (x3 < (p0.length : Int))) = true then (if 0 ≤ x3 ∧ x3 < (p0.length : Int) then ((strip_rest_thin_1 (rdD p0 x3 0) p1_0 p1_1 p1_2 p1_3 p1_4).bind fun t4 => (if t4 = true then (if l2.length + [(rdD p0 x3 0)].length ≤ 100000000000 then (some (l2 ++ [(rdD p0 x3 0)])) else none) else (some l2)).bind fun x5 => strip_kept_int_with_strip_rest_thin_1.l0 k x5 (w64 (x3 + 1)) p0 p1_0 p1_1 p1_2 p1_3 p1_4) else none) else (some l2)
def strip_kept_int_with_strip_rest_thin_1 (k : Nat) (p0 : List Int) (p1_0 : Rest) (p1_1 : List (Int × Bool)) (p1_2 : List (Int × Bool)) (p1_3 : List (Int × Bool)) (p1_4 : List (Int × Bool)) : Option (List Int) := (strip_kept_int_with_strip_rest_thin_1.l0 k ([] : List Int) 0 p0 p1_0 p1_1 p1_2 p1_3 p1_4).bind fun x2 => some x2
def strip_rest_thin (k : Nat) (p0 : Rest) : Option (Bool × Rest) := (strip_rest_colours_with_strip_north k p0).bind fun t2 => (strip_rest_colours_with_strip_east k p0).bind fun t3 => (strip_rest_colours_with_strip_south k p0).bind fun t4 => (strip_rest_colours_with_strip_west k p0).bind fun t5 => (strip_kept_int_with_strip_rest_thin_1 k p0.left p0 t4 t5 t2 t3).bind fun t6 => some (decide ((t6.length : Int) < (p0.left.length : Int)), (Rest.mk p0.set t6))
def strip_Core.l0 : Nat → (List Int) → Int → (List Tile) → Option (List Int)
  | 0, _, _, _ => none
  | k + 1, l1, x2, p0 => if (decide (x2 < (p0.length : Int))) = true then (if l1.length + [x2].length ≤ 100000000000 then (strip_Core.l0 k (l1 ++ [x2]) (w64 (x2 + 1)) p0) else none) else (some l1)
def strip_Core.l1 : Nat → (List Int) → (List Tile) → Option (List Int)
  | 0, _, _ => none
  | k + 1, l2, p0 => (strip_rest_thin k (Rest.mk p0 l2)).bind fun t3 => if t3.1 = true then (strip_Core.l1 k t3.2.left p0) else (some t3.2.left)
def strip_Core (k : Nat) (p0 : List Tile) : Option ((List Int) × Int) := (tile_Valid k p0).bind fun t2 => if (!t2) = true then (some (([] : List Int), 1)) else ((strip_Core.l0 k ([] : List Int) 0 p0).bind fun x3 => (strip_Core.l1 k x3 p0).bind fun x4 => some (x4, 0))
def strip_On_1 (p0 : Int) (p1 : Int) (f0 : List (A2_Int × Int)) : Option (Int × (List (A2_Int × Int))) := (if (!(mhas (A2_Int.mk p0 p1) f0)) = true then (some (mput (A2_Int.mk p0 p1) (f0.length : Int) f0)) else (some f0)).bind fun x3 => some (mget (A2_Int.mk p0 p1) 0 x3, x3)
def strip_On.l1 : Nat → (List (A2_Int × Int)) → (List Tile) → (List A2_Int) → (List (Tile × Bool)) → Int → (List Tile) → (List Tile) → Int → Option (Sum ((List Tile) × (List A2_Int) × Int) ((List (A2_Int × Int)) × (List Tile) × (List A2_Int) × (List (Tile × Bool))))
  | 0, _, _, _, _, _, _, _, _ => none
  | k + 1, l4, l5, l6, l7, x8, p0, p1, x3 => if (decide (x8 < (p1.length : Int))) = true then ((if 0 ≤ x8 ∧ x8 < (p1.length : Int) then (if (((rdD p0 x3 z_Tile).N) != ((rdD p1 x8 z_Tile).S)) = true then (some (.inr (l4, l5, l6, l7))) else ((strip_On_1 ((rdD p0 x3 z_Tile).E) ((rdD p1 x8 z_Tile).E) l4).bind fun t10 => (strip_On_1 ((rdD p0 x3 z_Tile).W) ((rdD p1 x8 z_Tile).W) t10.2).bind fun t11 => if (mget (Tile.mk ((rdD p1 x8 z_Tile).N) t10.1 ((rdD p0 x3 z_Tile).S) t11.1) false l7) = true then (some (.inr (t11.2, l5, l6, l7))) else (if l5.length + [(Tile.mk ((rdD p1 x8 z_Tile).N) t10.1 ((rdD p0 x3 z_Tile).S) t11.1)].length ≤ 100000000000 then (if l6.length + [(A2_Int.mk x3 x8)].length ≤ 100000000000 then (if ((decide (((l5 ++ [(Tile.mk ((rdD p1 x8 z_Tile).N) t10.1 ((rdD p0 x3 z_Tile).S) t11.1)]).length : Int) > 1000)) || (decide ((t11.2.length : Int) > 1000))) = true then (some (.inl (([] : List Tile), ([] : List A2_Int), 4))) else (some (.inr (t11.2, l5 ++ [(Tile.mk ((rdD p1 x8 z_Tile).N) t10.1 ((rdD p0 x3 z_Tile).S) t11.1)], l6 ++ [(A2_Int.mk x3 x8)], mput (Tile.mk ((rdD p1 x8 z_Tile).N) t10.1 ((rdD p0 x3 z_Tile).S) t11.1) true l7)))) else none) else none))) else none).bind fun x9 => sumb x9 (fun r => some (.inl r)) (fun y12 => strip_On.l1 k y12.1 y12.2.1 y12.2.2.1 y12.2.2.2 (w64 (x8 + 1)) p0 p1 x3)) else (some (.inr (l4, l5, l6, l7)))
def strip_On.l0 : Nat → (List (A2_Int × Int)) → (List Tile) → (List A2_Int) → (List (Tile × Bool)) → Int → (List Tile) → (List Tile) → Option (Sum ((List Tile) × (List A2_Int) × Int) ((List Tile) × (List A2_Int)))
  | 0, _, _, _, _, _, _, _ => none
  | k + 1, l3, l4, l5, l6, x7, p0, p1 => if (decide (x7 < (p0.length : Int))) = true then (if 0 ≤ x7 ∧ x7 < (p0.length : Int) then ((strip_On.l1 k l3 l4 l5 l6 0 p0 p1 x7).bind fun x8 => sumb x8 (fun r => some (.inl r)) (fun y9 => strip_On.l0 k y9.1 y9.2.1 y9.2.2.1 y9.2.2.2 (w64 (x7 + 1)) p0 p1)) else none) else (some (.inr (l4, l5)))
def strip_On (k : Nat) (p0 : List Tile) (p1 : List Tile) : Option ((List Tile) × (List A2_Int) × Int) := (tile_Valid k p0).bind fun t3 => (if (!t3) = true then (some true) else ((tile_Valid k p1).bind fun t5 => some (!t5))).bind fun x4 => if x4 = true then (some (([] : List Tile), ([] : List A2_Int), 1)) else ((strip_On.l0 k ([] : List (A2_Int × Int)) ([] : List Tile) ([] : List A2_Int) ([] : List (Tile × Bool)) 0 p0 p1).bind fun x6 => sumb x6 (fun r => some r) (fun y7 => some (y7.1, y7.2, 0)))
def tile_Text (k : Nat) (p0 : List Tile) : Option (ByteArray × Int) := (tile_Valid k p0).bind fun t1 => if (!t1) = true then (some ((⟨#[]⟩ : ByteArray), 1)) else ((tile_write k p0).bind fun t2 => some (t2, 0))
def strip_colours_put_el (p0 : List A16_Int) (p0_i : Int) (p1 : Int) : Option (List A16_Int) := if 0 ≤ p0_i ∧ p0_i < (p0.length : Int) then (if 0 ≤ w64 (Int.tdiv p1 64) ∧ w64 (Int.tdiv p1 64) < (16 : Int) then (if 0 ≤ (Int.tmod p1 64) ∧ (Int.tmod p1 64) < 64 then (some (p0.set (p0_i).toNat (A16_Int.set (rdD p0 p0_i z_A16_Int) (w64 (Int.tdiv p1 64)) (orV (A16_Int.get (rdD p0 p0_i z_A16_Int) (w64 (Int.tdiv p1 64))) (shlV 1 (Int.tmod p1 64)))))) else none) else none) else none
def strip_colours_has_el (p0 : List A16_Int) (p0_i : Int) (p1 : Int) : Option Bool := if 0 ≤ p0_i ∧ p0_i < (p0.length : Int) then (if 0 ≤ w64 (Int.tdiv p1 64) ∧ w64 (Int.tdiv p1 64) < (16 : Int) then (if 0 ≤ (Int.tmod p1 64) ∧ (Int.tmod p1 64) < 64 then (some ((andV (shrV (A16_Int.get (rdD p0 p0_i z_A16_Int) (w64 (Int.tdiv p1 64))) (Int.tmod p1 64)) 1) == 1)) else none) else none) else none
def strip_Path.l1 : Nat → (List A16_Int) → Int → (List Tile) → Int → Option (List A16_Int)
  | 0, _, _, _, _ => none
  | k + 1, l3, x4, p0, x2 => if (decide (x4 < (p0.length : Int))) = true then (if 0 ≤ x4 ∧ x4 < (p0.length : Int) then (if 0 ≤ w64 (x2 - 1) ∧ w64 (x2 - 1) < (l3.length : Int) then ((strip_colours_has_el l3 (w64 (x2 - 1)) ((rdD p0 x4 z_Tile).E)).bind fun t5 => (if t5 = true then (if 0 ≤ x2 ∧ x2 < (l3.length : Int) then ((strip_colours_put_el l3 x2 ((rdD p0 x4 z_Tile).W)).bind fun t7 => some t7) else none) else (some l3)).bind fun x6 => strip_Path.l1 k x6 (w64 (x4 + 1)) p0 x2) else none) else none) else (some l3)
def strip_Path.l0 : Nat → (List A16_Int) → Int → (List Tile) → Int → Option (List A16_Int)
  | 0, _, _, _, _ => none
  | k + 1, l2, x4, p0, p3 => if (decide (x4 ≤ p3)) = true then ((strip_Path.l1 k l2 0 p0 x4).bind fun x5 => strip_Path.l0 k x5 (w64 (x4 + 1)) p0 p3) else (some l2)
def strip_Path.l3 : Nat → Int → (List Tile) → (List A16_Int) → (List Int) → Int → Int → Option ((List Int) × Int)
  | 0, _, _, _, _, _, _ => none
  | k + 1, x6, p0, x1, l2, x4, x5 => if (decide (x6 < (p0.length : Int))) = true then (if 0 ≤ x6 ∧ x6 < (p0.length : Int) then ((if (((rdD p0 x6 z_Tile).W) == x4) = true then (if 0 ≤ x5 ∧ x5 < (x1.length : Int) then ((strip_colours_has_el x1 x5 ((rdD p0 x6 z_Tile).E)).bind fun t8 => some t8) else none) else (some false)).bind fun x7 => if x7 = true then (if l2.length + [x6].length ≤ 100000000000 then (some (l2 ++ [x6], (rdD p0 x6 z_Tile).E)) else none) else (strip_Path.l3 k (w64 (x6 + 1)) p0 x1 l2 x4 x5)) else none) else (some (l2, x4))
def strip_Path.l2 : Nat → (List Int) → Int → Int → (List Tile) → (List A16_Int) → Option (List Int)
  | 0, _, _, _, _, _ => none
  | k + 1, l4, x5, x6, p0, x1 => if (decide (x6 ≥ 0)) = true then ((strip_Path.l3 k 0 p0 x1 l4 x5 x6).bind fun x7 => strip_Path.l2 k x7.1 x7.2 (w64 (x6 - 1)) p0 x1) else (some l4)
def strip_Path (k : Nat) (p0 : List Tile) (p1 : Int) (p2 : Int) (p3 : Int) : Option ((List Int) × Int) := (tile_Valid k p0).bind fun t4 => if (!t4) = true then (some (([] : List Int), 1)) else (if ((decide (p3 < 1)) || (decide (p3 > 40000))) = true then (some (([] : List Int), 2)) else (if ((decide (minI p1 p2 < 0)) || (decide (maxI p1 p2 ≥ 1000))) = true then (some (([] : List Int), 6)) else (if 0 ≤ (w64 (p3 + 1)) ∧ (w64 (p3 + 1)) ≤ 100000000000 then (if 0 ≤ (0 : Int) ∧ (0 : Int) < ((List.replicate (w64 (p3 + 1)).toNat (z_A16_Int : A16_Int)).length : Int) then ((strip_colours_put_el (List.replicate (w64 (p3 + 1)).toNat (z_A16_Int : A16_Int)) (0 : Int) p2).bind fun t5 => (strip_Path.l0 k t5 1 p0 p3).bind fun x6 => if 0 ≤ p3 ∧ p3 < (x6.length : Int) then ((strip_colours_has_el x6 p3 p1).bind fun t7 => if (!t7) = true then (some (([] : List Int), 6)) else ((strip_Path.l2 k ([] : List Int) p1 (w64 (p3 - 1)) p0 x6).bind fun x8 => some (x8, 0))) else none) else none) else none)))
def ref01_Same.l0 : Nat → Int → (List Int) → (List Int) → Option (Sum Bool Unit)
  | 0, _, _, _ => none
  | k + 1, x2, p0, p1 => if (decide (x2 < (p0.length : Int))) = true then (if 0 ≤ x2 ∧ x2 < (p0.length : Int) then (if 0 ≤ x2 ∧ x2 < (p1.length : Int) then (if ((rdD p0 x2 0) != (rdD p1 x2 0)) = true then (some (.inl false)) else (ref01_Same.l0 k (w64 (x2 + 1)) p0 p1)) else none) else none) else (some (.inr ()))
def ref01_Same (k : Nat) (p0 : List Int) (p1 : List Int) : Option Bool := if ((p0.length : Int) != (p1.length : Int)) = true then (some false) else ((ref01_Same.l0 k 0 p0 p1).bind fun x2 => sumb x2 (fun r => some r) (fun y3 => some true))
def law04_awake (k : Nat)  : Option Bool := (tile_Parse k (⟨#[48, 46, 49, 46, 48, 46, 48, 32, 48, 46, 50, 46, 48, 46, 49]⟩ : ByteArray)).bind fun t2 => (tile_Parse k (⟨#[48, 46, 49, 46, 49, 46, 48, 32, 49, 46, 48, 46, 48, 46, 49]⟩ : ByteArray)).bind fun t3 => (strip_Rows k t2.1).bind fun t5 => (strip_Core k t2.1).bind fun t6 => (strip_On k t3.1 t3.1).bind fun t7 => (tile_Text k t7.1).bind fun t8 => (strip_Path k t3.1 0 1 3).bind fun t9 => (if (((((((((t5.2 == 0) && (t6.2 == 0)) && (t7.2.2 == 0)) && (t8.2 == 0)) && (t9.2 == 0)) && (t5.1 == 2)) && ((t6.1.length : Int) == 0)) && ((t7.2.1.length : Int) == 2)) && (strEq t8.1 (⟨#[49, 46, 48, 46, 49, 46, 49, 32, 48, 46, 49, 46, 48, 46, 48]⟩ : ByteArray))) = true then ((ref01_Same k t9.1 [0, 1, 0]).bind fun t11 => some t11) else (some false)).bind fun x10 => some x10
def rows_Few.l0 : Nat → Int → Int → (List Tile) → Int → Option (Sum Bool Unit)
  | 0, _, _, _, _ => none
  | k + 1, x2, x3, p0, p1 => if (decide (x3 < p1)) = true then (if (decide (w64 (x2 * (maxI (p0.length : Int) 1)) > 5000)) = true then (some (.inl false)) else (rows_Few.l0 k (w64 (x2 * (maxI (p0.length : Int) 1))) (w64 (x3 + 1)) p0 p1)) else (some (.inr ()))
def rows_Few (k : Nat) (p0 : List Tile) (p1 : Int) : Option Bool := (rows_Few.l0 k 1 0 p0 p1).bind fun x2 => sumb x2 (fun r => some r) (fun y3 => some true)
def rows_rowOf.l0 : Nat → A8_Int → A8_Int → Int → (List Tile) → (List Int) → Option (A8_Int × A8_Int)
  | 0, _, _, _, _, _ => none
  | k + 1, a2, a3, x4, p0, p1 => if (decide (x4 < (p1.length : Int))) = true then (if 0 ≤ x4 ∧ x4 < (p1.length : Int) then (if 0 ≤ (rdD p1 x4 0) ∧ (rdD p1 x4 0) < (p0.length : Int) then (if 0 ≤ x4 ∧ x4 < (8 : Int) then (rows_rowOf.l0 k (A8_Int.set a2 x4 ((rdD p0 (rdD p1 x4 0) z_Tile).S)) (A8_Int.set a3 x4 ((rdD p0 (rdD p1 x4 0) z_Tile).N)) (w64 (x4 + 1)) p0 p1) else none) else none) else none) else (some (a2, a3))
def rows_rowOf (k : Nat) (p0 : List Tile) (p1 : List Int) : Option Row := if ([] : List Int).length + p1.length ≤ 100000000000 then ((rows_rowOf.l0 k (A8_Int.mk 0 0 0 0 0 0 0 0) (A8_Int.mk 0 0 0 0 0 0 0 0) 0 p0 p1).bind fun x2 => if 0 ≤ (0 : Int) ∧ (0 : Int) < (p1.length : Int) then (if 0 ≤ (rdD p1 (0 : Int) 0) ∧ (rdD p1 (0 : Int) 0) < (p0.length : Int) then (if 0 ≤ w64 ((p1.length : Int) - 1) ∧ w64 ((p1.length : Int) - 1) < (p1.length : Int) then (if 0 ≤ (rdD p1 (w64 ((p1.length : Int) - 1)) 0) ∧ (rdD p1 (w64 ((p1.length : Int) - 1)) 0) < (p0.length : Int) then (some (Row.mk (([] : List Int) ++ p1) x2.1 x2.2 ((rdD p0 (rdD p1 (0 : Int) 0) z_Tile).W) ((rdD p0 (rdD p1 (w64 ((p1.length : Int) - 1)) 0) z_Tile).E))) else none) else none) else none) else none) else none
def rows_All_1.l0 : Nat → (List Row) → (List Int) → Int → Int → Int → (List Tile) → (Int → Int → (List Row) → (List Tile) → (List Int) → Option ((List Row) × (List Int))) → Option ((List Row) × (List Int))
  | 0, _, _, _, _, _, _, _ => none
  | k + 1, l3, l4, x5, p0, f0, f2, rc_ => if (decide (x5 < (f2.length : Int))) = true then (if 0 ≤ x5 ∧ x5 < (f2.length : Int) then ((if (p0 == 0) = true then (some true) else (if 0 ≤ w64 (p0 - 1) ∧ w64 (p0 - 1) < (l4.length : Int) then (if 0 ≤ (rdD l4 (w64 (p0 - 1)) 0) ∧ (rdD l4 (w64 (p0 - 1)) 0) < (f2.length : Int) then (some (((rdD f2 (rdD l4 (w64 (p0 - 1)) 0) z_Tile).E) == ((rdD f2 x5 z_Tile).W))) else none) else none)).bind fun x6 => (if x6 = true then (if 0 ≤ p0 ∧ p0 < (l4.length : Int) then ((rc_ (w64 (p0 + 1)) f0 l3 f2 (l4.set (p0).toNat x5)).bind fun t8 => some (t8.1, t8.2)) else none) else (some (l3, l4))).bind fun x7 => rows_All_1.l0 k x7.1 x7.2 (w64 (x5 + 1)) p0 f0 f2 rc_) else none) else (some (l3, l4))
def rows_All_1 : Nat → Int → Int → (List Row) → (List Tile) → (List Int) → Option ((List Row) × (List Int))
  | 0, _, _, _, _, _ => none
  | k + 1, p0, f0, f1, f2, f3 => if (p0 == f0) = true then ((rows_rowOf k f2 f3).bind fun t4 => if f1.length + 1 ≤ 100000000000 then (some (f1 ++ [t4], f3)) else none) else ((rows_All_1.l0 k f1 f3 0 p0 f0 f2 (rows_All_1 k)).bind fun x5 => some (x5.1, x5.2))
def rows_All (k : Nat) (p0 : List Tile) (p1 : Int) : Option (List Row) := if 0 ≤ p1 ∧ p1 ≤ 100000000000 then ((rows_All_1 k 0 p1 ([] : List Row) p0 (List.replicate p1.toNat (0 : Int))).bind fun t2 => some t2.1) else none
def fill_begin.l0 : Nat → Int → Int → Int → Edges → Option (Sum ((Option Job) × Int) Unit)
  | 0, _, _, _, _ => none
  | k + 1, x4, p1, p2, p3 => if (decide (x4 < ([(S_side_n.mk p3.North p1), (S_side_n.mk p3.South p1), (S_side_n.mk p3.East p2), (S_side_n.mk p3.West p2)].length : Int))) = true then (if 0 ≤ x4 ∧ x4 < ([(S_side_n.mk p3.North p1), (S_side_n.mk p3.South p1), (S_side_n.mk p3.East p2), (S_side_n.mk p3.West p2)].length : Int) then (if (((((rdD [(S_side_n.mk p3.North p1), (S_side_n.mk p3.South p1), (S_side_n.mk p3.East p2), (S_side_n.mk p3.West p2)] x4 z_S_side_n).side).length : Int) != 0) && ((((rdD [(S_side_n.mk p3.North p1), (S_side_n.mk p3.South p1), (S_side_n.mk p3.East p2), (S_side_n.mk p3.West p2)] x4 z_S_side_n).side).length : Int) != ((rdD [(S_side_n.mk p3.North p1), (S_side_n.mk p3.South p1), (S_side_n.mk p3.East p2), (S_side_n.mk p3.West p2)] x4 z_S_side_n).n))) = true then (some (.inl (none, 2))) else (fill_begin.l0 k (w64 (x4 + 1)) p1 p2 p3)) else none) else (some (.inr ()))
def fill_begin (k : Nat) (p0 : List Tile) (p1 : Int) (p2 : Int) (p3 : Edges) : Option ((Option Job) × Int) := (tile_Valid k p0).bind fun t4 => if (!t4) = true then (some (none, 1)) else (if ((((decide (p1 < 1)) || (decide (p1 > 8))) || (decide (p2 < 1))) || (decide (p2 > 60))) = true then (some (none, 2)) else ((fill_begin.l0 k 0 p1 p2 p3).bind fun x5 => sumb x5 (fun r => some r) (fun y6 => (rows_Few k p0 p1).bind fun t7 => if (!t7) = true then (some (none, 4)) else ((rows_All k p0 p1).bind fun t8 => some ((some (Job.mk t8 p1 p2 p3)), 0)))))
def fill_Count_1 (p0 : Int) (p1 : Int) : Option Int := some (minI (w64 (p0 + p1)) 1152921504606846977)
def fill_at (p0 : List Int) (p1 : Int) (p2 : Int) : Option Bool := (if ((p0.length : Int) == 0) = true then (some true) else (if 0 ≤ p1 ∧ p1 < (p0.length : Int) then (some ((rdD p0 p1 0) == p2)) else none)).bind fun b3 => some b3
def fill_job_allows.l0 : Nat → Int → Job → Row → Int → Option (Sum Bool Unit)
  | 0, _, _, _, _ => none
  | k + 1, x3, p0, p1, p2 => if (decide (x3 < p0.width)) = true then ((if (p2 == 0) = true then (if (p2 == (w64 (p0.height - 1))) = true then (if 0 ≤ x3 ∧ x3 < (8 : Int) then ((fill_at p0.edges.South x3 (A8_Int.get p1.South x3)).bind fun t5 => (if (!t5) = true then (some true) else ((fill_at p0.edges.North x3 (A8_Int.get p1.North x3)).bind fun t7 => some (!t7))).bind fun x6 => some x6) else none) else (if 0 ≤ x3 ∧ x3 < (8 : Int) then ((fill_at p0.edges.South x3 (A8_Int.get p1.South x3)).bind fun t9 => some (!t9)) else none)) else (if (p2 == (w64 (p0.height - 1))) = true then (if 0 ≤ x3 ∧ x3 < (8 : Int) then ((fill_at p0.edges.North x3 (A8_Int.get p1.North x3)).bind fun t10 => some (!t10)) else none) else (some false))).bind fun x4 => if x4 = true then (some (.inl false)) else (fill_job_allows.l0 k (w64 (x3 + 1)) p0 p1 p2)) else (some (.inr ()))
def fill_job_allows (k : Nat) (p0 : Job) (p1 : Row) (p2 : Int) : Option Bool := (fill_at p0.edges.West p2 p1.West).bind fun t3 => (if (!t3) = true then (some true) else ((fill_at p0.edges.East p2 p1.East).bind fun t5 => some (!t5))).bind fun x4 => if x4 = true then (some false) else ((fill_job_allows.l0 k 0 p0 p1 p2).bind fun x6 => sumb x6 (fun r => some r) (fun y7 => some true))
def fill_Count.l0 : Nat → Int → Option Unit
  | 0, _ => none
  | k + 1, p2 => if (decide (0 < p2)) = true then (none) else (some ())
def fill_Count.l2 : Nat → (List (A8_Int × Int)) → Int → Edges → Job → (List (A8_Int × Int)) → Int → Option (List (A8_Int × Int))
  | 0, _, _, _, _, _, _ => none
  | k + 1, l7, x9, p3, y4, l5, x6 => if (decide (x9 < (y4.rows.length : Int))) = true then (if 0 ≤ x9 ∧ x9 < (y4.rows.length : Int) then ((if (decide (x6 > 0)) = true then (some (mget ((rdD y4.rows x9 z_Row).South) 0 l5)) else (some 1)).bind fun x10 => (if (decide (x10 > 0)) = true then ((fill_job_allows k (Job.mk y4.rows y4.width y4.height p3) (rdD y4.rows x9 z_Row) x6).bind fun t12 => some t12) else (some false)).bind fun x11 => (if x11 = true then ((fill_Count_1 (mget ((rdD y4.rows x9 z_Row).North) 0 l7) x10).bind fun t14 => some (mput ((rdD y4.rows x9 z_Row).North) t14 l7)) else (some l7)).bind fun x13 => fill_Count.l2 k x13 (w64 (x9 + 1)) p3 y4 l5 x6) else none) else (some l7)
def fill_Count.l1 : Nat → (List (A8_Int × Int)) → Int → Int → Edges → Job → Option (List (A8_Int × Int))
  | 0, _, _, _, _, _ => none
  | k + 1, l5, x6, p2, p3, y4 => if (decide (x6 < p2)) = true then ((fill_Count.l2 k ([] : List (A8_Int × Int)) 0 p3 y4 l5 x6).bind fun x7 => fill_Count.l1 k x7 (w64 (x6 + 1)) p2 p3 y4) else (some l5)
def fill_Count (k : Nat) (p0 : List Tile) (p1 : Int) (p2 : Int) (p3 : Edges) : Option (Int × Int) := (fill_begin k p0 p1 p2 p3).bind fun t4 => optM t4.1 (if (t4.2 != 0) = true then (some (0, t4.2)) else ((fill_Count.l0 k p2).bind fun x6 => (mapfold (satC 1152921504606846977) (fun (x9 : Int) (vv7 : Int) => (fill_Count_1 x9 vv7).bind fun t11 => some t11) 0 (([] : List (A8_Int × Int)).map Prod.snd)).bind fun x10 => if (decide (x10 > 1152921504606846976)) = true then (some (0, 4)) else (some (x10, 0)))) (fun y5 => if (t4.2 != 0) = true then (some (0, t4.2)) else ((fill_Count.l1 k ([] : List (A8_Int × Int)) 0 p2 p3 y5).bind fun x12 => (mapfold (satC 1152921504606846977) (fun (x14 : Int) (vv13 : Int) => (fill_Count_1 x14 vv13).bind fun t16 => some t16) 0 (x12.map Prod.snd)).bind fun x15 => if (decide (x15 > 1152921504606846976)) = true then (some (0, 4)) else (some (x15, 0))))
def ref02_Great (k : Nat) (p0 : List Tile) (p1 : Int) : Option Bool := (ref02_Power k (p0.length : Int) p1).bind fun t3 => some (decide (t3 > 5000))
def ref04_number.l0 : Nat → Int → (List A2_Int) → A2_Int → Option (Sum (Int × (List A2_Int)) Unit)
  | 0, _, _, _ => none
  | k + 1, x3, p0, p1 => if (decide (x3 < (p0.length : Int))) = true then (if 0 ≤ x3 ∧ x3 < (p0.length : Int) then (if (((rdD p0 x3 z_A2_Int).e0) == p1.e0 && (((rdD p0 x3 z_A2_Int).e1) == p1.e1)) = true then (some (.inl (x3, p0))) else (ref04_number.l0 k (w64 (x3 + 1)) p0 p1)) else none) else (some (.inr ()))
def ref04_number (k : Nat) (p0 : List A2_Int) (p1 : A2_Int) : Option (Int × (List A2_Int)) := (ref04_number.l0 k 0 p0 p1).bind fun x3 => sumb x3 (fun r => some r) (fun y5 => if p0.length + [p1].length ≤ 100000000000 then (some ((p0.length : Int), p0 ++ [p1])) else none)
def ref04_On.l2 : Nat → Bool → Int → (List Tile) → (List Tile) → Int → (List Tile) → Int → (Int × (List A2_Int)) → (Int × (List A2_Int)) → Option Bool
  | 0, _, _, _, _, _, _, _, _, _ => none
  | k + 1, b9, x10, p0, p1, x3, l5, x6, t7, t8 => if (decide (x10 < (l5.length : Int))) = true then ((if b9 = true then (some true) else (if 0 ≤ x10 ∧ x10 < (l5.length : Int) then (some (((rdD l5 x10 z_Tile).N) == ((rdD p1 x6 z_Tile).N) && (((rdD l5 x10 z_Tile).E) == t7.1 && (((rdD l5 x10 z_Tile).S) == ((rdD p0 x3 z_Tile).S) && (((rdD l5 x10 z_Tile).W) == t8.1))))) else none)).bind fun x11 => ref04_On.l2 k x11 (w64 (x10 + 1)) p0 p1 x3 l5 x6 t7 t8) else (some b9)
def ref04_On.l1 : Nat → (List Tile) → (List A2_Int) → (List A2_Int) → Int → (List Tile) → (List Tile) → Int → Option (Sum ((List Tile) × (List A2_Int) × Bool) ((List Tile) × (List A2_Int) × (List A2_Int)))
  | 0, _, _, _, _, _, _, _ => none
  | k + 1, l5, l6, l7, x8, p0, p1, x3 => if (decide (x8 < (p1.length : Int))) = true then ((if 0 ≤ x3 ∧ x3 < (p0.length : Int) then (if 0 ≤ x8 ∧ x8 < (p1.length : Int) then (if (((rdD p0 x3 z_Tile).N) != ((rdD p1 x8 z_Tile).S)) = true then (some (.inr (l5, l6, l7))) else ((ref04_number k l7 (A2_Int.mk ((rdD p0 x3 z_Tile).E) ((rdD p1 x8 z_Tile).E))).bind fun t10 => (ref04_number k t10.2 (A2_Int.mk ((rdD p0 x3 z_Tile).W) ((rdD p1 x8 z_Tile).W))).bind fun t11 => (ref04_On.l2 k false 0 p0 p1 x3 l5 x8 t10 t11).bind fun x12 => if x12 = true then (some (.inr (l5, l6, t11.2))) else (if l5.length + [(Tile.mk ((rdD p1 x8 z_Tile).N) t10.1 ((rdD p0 x3 z_Tile).S) t11.1)].length ≤ 100000000000 then (if l6.length + [(A2_Int.mk x3 x8)].length ≤ 100000000000 then (if ((decide (((l5 ++ [(Tile.mk ((rdD p1 x8 z_Tile).N) t10.1 ((rdD p0 x3 z_Tile).S) t11.1)]).length : Int) > 1000)) || (decide ((t11.2.length : Int) > 1000))) = true then (some (.inl (([] : List Tile), ([] : List A2_Int), false))) else (some (.inr (l5 ++ [(Tile.mk ((rdD p1 x8 z_Tile).N) t10.1 ((rdD p0 x3 z_Tile).S) t11.1)], l6 ++ [(A2_Int.mk x3 x8)], t11.2)))) else none) else none))) else none) else none).bind fun x9 => sumb x9 (fun r => some (.inl r)) (fun y13 => ref04_On.l1 k y13.1 y13.2.1 y13.2.2 (w64 (x8 + 1)) p0 p1 x3)) else (some (.inr (l5, l6, l7)))
def ref04_On.l0 : Nat → (List Tile) → (List A2_Int) → (List A2_Int) → Int → (List Tile) → (List Tile) → Option (Sum ((List Tile) × (List A2_Int) × Bool) ((List Tile) × (List A2_Int)))
  | 0, _, _, _, _, _, _ => none
  | k + 1, l3, l5, l6, x7, p0, p1 => if (decide (x7 < (p0.length : Int))) = true then ((ref04_On.l1 k l3 l5 l6 0 p0 p1 x7).bind fun x8 => sumb x8 (fun r => some (.inl r)) (fun y9 => ref04_On.l0 k y9.1 y9.2.1 y9.2.2 (w64 (x7 + 1)) p0 p1)) else (some (.inr (l3, l5)))
def ref04_On (k : Nat) (p0 : List Tile) (p1 : List Tile) : Option ((List Tile) × (List A2_Int) × Bool) := (ref04_On.l0 k ([] : List Tile) ([] : List A2_Int) ([] : List A2_Int) 0 p0 p1).bind fun x3 => sumb x3 (fun r => some r) (fun y5 => some (y5.1, y5.2, true))
def law04_distinct.l1 : Nat → Int → Int → (List Tile) → Int → Option Int
  | 0, _, _, _, _ => none
  | k + 1, x3, x5, p0, x2 => if (decide (x5 < (p0.length : Int))) = true then (if 0 ≤ x2 ∧ x2 < (p0.length : Int) then (if 0 ≤ x5 ∧ x5 < (p0.length : Int) then ((if (((rdD p0 x2 z_Tile).N) == ((rdD p0 x5 z_Tile).S)) = true then (some (w64 (x3 + 1))) else (some x3)).bind fun x6 => law04_distinct.l1 k x6 (w64 (x5 + 1)) p0 x2) else none) else none) else (some x3)
def law04_distinct.l0 : Nat → Int → Int → (List Tile) → Option Int
  | 0, _, _, _ => none
  | k + 1, x2, x3, p0 => if (decide (x3 < (p0.length : Int))) = true then ((law04_distinct.l1 k x2 0 p0 x3).bind fun x5 => law04_distinct.l0 k x5 (w64 (x3 + 1)) p0) else (some x2)
def law04_distinct (k : Nat) (p0 : List Tile) : Option Bool := (law04_distinct.l0 k 0 0 p0).bind fun x1 => (ref04_On k p0 p0).bind fun t2 => some (t2.2.2 && ((t2.1.length : Int) == x1))
def ref01_Blank (p0 : Int) (p1 : Int) : Option Pattern := if 0 ≤ (w64 (p0 * p1)) ∧ (w64 (p0 * p1)) ≤ 100000000000 then (some (Pattern.mk p0 p1 (List.replicate (w64 (p0 * p1)).toNat (0 : Int)))) else none
def tile_Form (p0 : Pattern) : Option Bool := some ((((((decide (p0.Width ≥ 1)) && (decide (p0.Height ≥ 1))) && (decide (p0.Width ≤ 40000))) && (decide (p0.Height ≤ 40000))) && (decide (w64 (p0.Width * p0.Height) ≤ 40000))) && ((p0.Cells.length : Int) == (w64 (p0.Width * p0.Height))))
def tile_of_1 (p0 : Int) (f0 : List Tile) : Option Bool := some ((decide (p0 < 0)) || (decide (p0 ≥ (f0.length : Int))))
def slices_IndexFunc_int_int_with_tile_of_1.l0 : Nat → Int → (List Int) → (List Tile) → Option (Sum Int Unit)
  | 0, _, _, _ => none
  | k + 1, x2, p0, p1_0 => if (decide (x2 < (p0.length : Int))) = true then (if 0 ≤ x2 ∧ x2 < (p0.length : Int) then ((tile_of_1 (rdD p0 x2 0) p1_0).bind fun t3 => if t3 = true then (some (.inl x2)) else (slices_IndexFunc_int_int_with_tile_of_1.l0 k (w64 (x2 + 1)) p0 p1_0)) else none) else (some (.inr ()))
def slices_IndexFunc_int_int_with_tile_of_1 (k : Nat) (p0 : List Int) (p1_0 : List Tile) : Option Int := (slices_IndexFunc_int_int_with_tile_of_1.l0 k 0 p0 p1_0).bind fun x2 => sumb x2 (fun r => some r) (fun y3 => some (-1))
def slices_ContainsFunc_int_int_with_tile_of_1 (k : Nat) (p0 : List Int) (p1_0 : List Tile) : Option Bool := (slices_IndexFunc_int_int_with_tile_of_1 k p0 p1_0).bind fun t2 => some (decide (t2 ≥ 0))
def tile_of (k : Nat) (p0 : List Tile) (p1 : Pattern) : Option Bool := (tile_Valid k p0).bind fun t2 => (if t2 = true then ((tile_Form p1).bind fun t4 => some t4) else (some false)).bind fun x3 => (if x3 = true then ((slices_ContainsFunc_int_int_with_tile_of_1 k p1.Cells p0).bind fun t6 => some (!t6)) else (some false)).bind fun x5 => some x5
def tile_joins.l0 : Nat → Int → (List Tile) → Pattern → Bool → Option (Sum Bool Unit)
  | 0, _, _, _, _ => none
  | k + 1, x3, p0, p1, p2 => if (decide (x3 < (p1.Cells.length : Int))) = true then (if 0 ≤ x3 ∧ x3 < (p1.Cells.length : Int) then (if p1.Width ≠ 0 then ((if ((decide (w64 ((Int.tmod x3 p1.Width) + 1) < p1.Width)) || p2) = true then (if 0 ≤ (rdD p1.Cells x3 0) ∧ (rdD p1.Cells x3 0) < (p0.length : Int) then (if 0 ≤ w64 ((w64 ((w64 (Int.tdiv x3 p1.Width)) * p1.Width)) + (Int.tmod (w64 ((Int.tmod x3 p1.Width) + 1)) p1.Width)) ∧ w64 ((w64 ((w64 (Int.tdiv x3 p1.Width)) * p1.Width)) + (Int.tmod (w64 ((Int.tmod x3 p1.Width) + 1)) p1.Width)) < (p1.Cells.length : Int) then (if 0 ≤ (rdD p1.Cells (w64 ((w64 ((w64 (Int.tdiv x3 p1.Width)) * p1.Width)) + (Int.tmod (w64 ((Int.tmod x3 p1.Width) + 1)) p1.Width))) 0) ∧ (rdD p1.Cells (w64 ((w64 ((w64 (Int.tdiv x3 p1.Width)) * p1.Width)) + (Int.tmod (w64 ((Int.tmod x3 p1.Width) + 1)) p1.Width))) 0) < (p0.length : Int) then (if (((rdD p0 (rdD p1.Cells x3 0) z_Tile).E) != ((rdD p0 (rdD p1.Cells (w64 ((w64 ((w64 (Int.tdiv x3 p1.Width)) * p1.Width)) + (Int.tmod (w64 ((Int.tmod x3 p1.Width) + 1)) p1.Width))) 0) z_Tile).W)) = true then (some (.inl false)) else (some (.inr ()))) else none) else none) else none) else (some (.inr ()))).bind fun x4 => sumb x4 (fun r => some (.inl r)) (fun y5 => (if ((decide (w64 ((w64 (Int.tdiv x3 p1.Width)) + 1) < p1.Height)) || p2) = true then (if 0 ≤ (rdD p1.Cells x3 0) ∧ (rdD p1.Cells x3 0) < (p0.length : Int) then (if p1.Height ≠ 0 then (if 0 ≤ w64 ((w64 ((Int.tmod (w64 ((w64 (Int.tdiv x3 p1.Width)) + 1)) p1.Height) * p1.Width)) + (Int.tmod x3 p1.Width)) ∧ w64 ((w64 ((Int.tmod (w64 ((w64 (Int.tdiv x3 p1.Width)) + 1)) p1.Height) * p1.Width)) + (Int.tmod x3 p1.Width)) < (p1.Cells.length : Int) then (if 0 ≤ (rdD p1.Cells (w64 ((w64 ((Int.tmod (w64 ((w64 (Int.tdiv x3 p1.Width)) + 1)) p1.Height) * p1.Width)) + (Int.tmod x3 p1.Width))) 0) ∧ (rdD p1.Cells (w64 ((w64 ((Int.tmod (w64 ((w64 (Int.tdiv x3 p1.Width)) + 1)) p1.Height) * p1.Width)) + (Int.tmod x3 p1.Width))) 0) < (p0.length : Int) then (if (((rdD p0 (rdD p1.Cells x3 0) z_Tile).N) != ((rdD p0 (rdD p1.Cells (w64 ((w64 ((Int.tmod (w64 ((w64 (Int.tdiv x3 p1.Width)) + 1)) p1.Height) * p1.Width)) + (Int.tmod x3 p1.Width))) 0) z_Tile).S)) = true then (some (.inl false)) else (some (.inr ()))) else none) else none) else none) else none) else (some (.inr ()))).bind fun x6 => sumb x6 (fun r => some (.inl r)) (fun y7 => tile_joins.l0 k (w64 (x3 + 1)) p0 p1 p2))) else none) else none) else (some (.inr ()))
def tile_joins (k : Nat) (p0 : List Tile) (p1 : Pattern) (p2 : Bool) : Option Bool := (tile_joins.l0 k 0 p0 p1 p2).bind fun x3 => sumb x3 (fun r => some r) (fun y4 => some true)
def tile_Fits (k : Nat) (p0 : List Tile) (p1 : Pattern) : Option Bool := (tile_of k p0 p1).bind fun t2 => (if t2 = true then ((tile_joins k p0 p1 false).bind fun t4 => some t4) else (some false)).bind fun x3 => some x3
def law04_path.l0 : Nat → (List Int) → Int → (List A2_Int) → Int → ((List Int) × Int) → Option (Sum Bool (List Int))
  | 0, _, _, _, _, _ => none
  | k + 1, l6, x7, p2, p5, t3 => if (decide (x7 < p5)) = true then ((if ((t3.1.length : Int) != p5) = true then (some true) else (if 0 ≤ x7 ∧ x7 < (t3.1.length : Int) then (some (decide ((rdD t3.1 x7 0) < 0))) else none)).bind fun b8 => (if b8 = true then (some true) else (if 0 ≤ x7 ∧ x7 < (t3.1.length : Int) then (some (decide ((rdD t3.1 x7 0) ≥ (p2.length : Int)))) else none)).bind fun b9 => if b9 = true then (some (.inl false)) else (if 0 ≤ x7 ∧ x7 < (t3.1.length : Int) then (if 0 ≤ (rdD t3.1 x7 0) ∧ (rdD t3.1 x7 0) < (p2.length : Int) then (if 0 ≤ x7 ∧ x7 < (l6.length : Int) then (if 0 ≤ w64 (p5 + x7) ∧ w64 (p5 + x7) < ((l6.set (x7).toNat ((rdD p2 (rdD t3.1 x7 0) z_A2_Int).e0)).length : Int) then (law04_path.l0 k ((l6.set (x7).toNat ((rdD p2 (rdD t3.1 x7 0) z_A2_Int).e0)).set (w64 (p5 + x7)).toNat ((rdD p2 (rdD t3.1 x7 0) z_A2_Int).e1)) (w64 (x7 + 1)) p2 p5 t3) else none) else none) else none) else none)) else (some (.inr l6))
def law04_path (k : Nat) (p0 : List Tile) (p1 : List Tile) (p2 : List A2_Int) (p3 : Int) (p4 : Int) (p5 : Int) : Option Bool := if ((p1.length : Int) == 0) = true then (some true) else (if (p1.length : Int) ≠ 0 then (if 0 ≤ Int.tmod p3 (p1.length : Int) ∧ Int.tmod p3 (p1.length : Int) < (p1.length : Int) then (if 0 ≤ Int.tmod p4 (p1.length : Int) ∧ Int.tmod p4 (p1.length : Int) < (p1.length : Int) then ((strip_Path k p1 ((rdD p1 (Int.tmod p3 (p1.length : Int)) z_Tile).W) ((rdD p1 (Int.tmod p4 (p1.length : Int)) z_Tile).E) p5).bind fun t6 => if (t6.2 != 0) = true then (some (t6.2 == 6)) else ((ref01_Blank p5 2).bind fun t7 => (law04_path.l0 k t7.Cells 0 p2 p5 t6).bind fun x8 => sumb x8 (fun r => some r) (fun y9 => (tile_Fits k p0 (Pattern.mk t7.Width t7.Height y9)).bind fun t10 => some t10))) else none) else none) else none)
def law04_StripStacked.l1 : Nat → Int → (List Tile) → ((List Tile) × (List A2_Int) × Int) → Int → Option (Sum Bool Unit)
  | 0, _, _, _, _ => none
  | k + 1, x6, p0, t3, x5 => if (decide (x6 < x5)) = true then (if 0 ≤ x6 ∧ x6 < (t3.2.1.length : Int) then ((if (((rdD p0 ((rdD t3.2.1 x5 z_A2_Int).e0) z_Tile).E) == ((rdD p0 ((rdD t3.2.1 x6 z_A2_Int).e0) z_Tile).W)) = true then (if 0 ≤ (rdD t3.2.1 x5 z_A2_Int).e0 ∧ (rdD t3.2.1 x5 z_A2_Int).e0 < (p0.length : Int) then (if 0 ≤ (rdD t3.2.1 x6 z_A2_Int).e0 ∧ (rdD t3.2.1 x6 z_A2_Int).e0 < (p0.length : Int) then (if 0 ≤ (rdD t3.2.1 x5 z_A2_Int).e1 ∧ (rdD t3.2.1 x5 z_A2_Int).e1 < (p0.length : Int) then (if 0 ≤ (rdD t3.2.1 x6 z_A2_Int).e1 ∧ (rdD t3.2.1 x6 z_A2_Int).e1 < (p0.length : Int) then (some (((rdD p0 ((rdD t3.2.1 x5 z_A2_Int).e1) z_Tile).E) == ((rdD p0 ((rdD t3.2.1 x6 z_A2_Int).e1) z_Tile).W))) else none) else none) else none) else none) else (if 0 ≤ (rdD t3.2.1 x5 z_A2_Int).e0 ∧ (rdD t3.2.1 x5 z_A2_Int).e0 < (p0.length : Int) then (if 0 ≤ (rdD t3.2.1 x6 z_A2_Int).e0 ∧ (rdD t3.2.1 x6 z_A2_Int).e0 < (p0.length : Int) then (some false) else none) else none)).bind fun x7 => (if (((rdD p0 ((rdD t3.2.1 x5 z_A2_Int).e0) z_Tile).E) == ((rdD p0 ((rdD t3.2.1 x6 z_A2_Int).e0) z_Tile).E)) = true then (if 0 ≤ (rdD t3.2.1 x5 z_A2_Int).e0 ∧ (rdD t3.2.1 x5 z_A2_Int).e0 < (p0.length : Int) then (if 0 ≤ (rdD t3.2.1 x6 z_A2_Int).e0 ∧ (rdD t3.2.1 x6 z_A2_Int).e0 < (p0.length : Int) then (if 0 ≤ (rdD t3.2.1 x5 z_A2_Int).e1 ∧ (rdD t3.2.1 x5 z_A2_Int).e1 < (p0.length : Int) then (if 0 ≤ (rdD t3.2.1 x6 z_A2_Int).e1 ∧ (rdD t3.2.1 x6 z_A2_Int).e1 < (p0.length : Int) then (some (((rdD p0 ((rdD t3.2.1 x5 z_A2_Int).e1) z_Tile).E) == ((rdD p0 ((rdD t3.2.1 x6 z_A2_Int).e1) z_Tile).E))) else none) else none) else none) else none) else (if 0 ≤ (rdD t3.2.1 x5 z_A2_Int).e0 ∧ (rdD t3.2.1 x5 z_A2_Int).e0 < (p0.length : Int) then (if 0 ≤ (rdD t3.2.1 x6 z_A2_Int).e0 ∧ (rdD t3.2.1 x6 z_A2_Int).e0 < (p0.length : Int) then (some false) else none) else none)).bind fun x8 => (if (x7 != (((rdD t3.1 x5 z_Tile).E) == ((rdD t3.1 x6 z_Tile).W))) = true then (if 0 ≤ x5 ∧ x5 < (t3.1.length : Int) then (if 0 ≤ x6 ∧ x6 < (t3.1.length : Int) then (some true) else none) else none) else (if 0 ≤ x5 ∧ x5 < (t3.1.length : Int) then (if 0 ≤ x6 ∧ x6 < (t3.1.length : Int) then (some (x8 != (((rdD t3.1 x5 z_Tile).E) == ((rdD t3.1 x6 z_Tile).E)))) else none) else none)).bind fun x9 => if x9 = true then (some (.inl false)) else (law04_StripStacked.l1 k (w64 (x6 + 1)) p0 t3 x5)) else none) else (some (.inr ()))
def law04_StripStacked.l0 : Nat → Int → (List Tile) → ((List Tile) × (List A2_Int) × Int) → Option (Sum Bool Unit)
  | 0, _, _, _ => none
  | k + 1, x5, p0, t3 => if (decide (x5 < (t3.2.1.length : Int))) = true then (if 0 ≤ x5 ∧ x5 < (t3.2.1.length : Int) then ((if (decide ((rdD t3.2.1 x5 z_A2_Int).e0 < 0)) = true then (some true) else (if (decide ((rdD t3.2.1 x5 z_A2_Int).e0 ≥ (p0.length : Int))) = true then (some true) else (if (decide ((rdD t3.2.1 x5 z_A2_Int).e1 < 0)) = true then (some true) else (if (decide ((rdD t3.2.1 x5 z_A2_Int).e1 ≥ (p0.length : Int))) = true then (some true) else (if (((rdD t3.1 x5 z_Tile).S) != ((rdD p0 ((rdD t3.2.1 x5 z_A2_Int).e0) z_Tile).S)) = true then (if 0 ≤ x5 ∧ x5 < (t3.1.length : Int) then (if 0 ≤ (rdD t3.2.1 x5 z_A2_Int).e0 ∧ (rdD t3.2.1 x5 z_A2_Int).e0 < (p0.length : Int) then (some true) else none) else none) else (if (((rdD t3.1 x5 z_Tile).N) != ((rdD p0 ((rdD t3.2.1 x5 z_A2_Int).e1) z_Tile).N)) = true then (if 0 ≤ x5 ∧ x5 < (t3.1.length : Int) then (if 0 ≤ (rdD t3.2.1 x5 z_A2_Int).e0 ∧ (rdD t3.2.1 x5 z_A2_Int).e0 < (p0.length : Int) then (if 0 ≤ (rdD t3.2.1 x5 z_A2_Int).e1 ∧ (rdD t3.2.1 x5 z_A2_Int).e1 < (p0.length : Int) then (some true) else none) else none) else none) else (if 0 ≤ x5 ∧ x5 < (t3.1.length : Int) then (if 0 ≤ (rdD t3.2.1 x5 z_A2_Int).e0 ∧ (rdD t3.2.1 x5 z_A2_Int).e0 < (p0.length : Int) then (if 0 ≤ (rdD t3.2.1 x5 z_A2_Int).e1 ∧ (rdD t3.2.1 x5 z_A2_Int).e1 < (p0.length : Int) then (some (((rdD p0 ((rdD t3.2.1 x5 z_A2_Int).e0) z_Tile).N) != ((rdD p0 ((rdD t3.2.1 x5 z_A2_Int).e1) z_Tile).S))) else none) else none) else none))))))).bind fun x6 => if x6 = true then (some (.inl false)) else ((law04_StripStacked.l1 k 0 p0 t3 x5).bind fun x7 => sumb x7 (fun r => some (.inl r)) (fun y8 => law04_StripStacked.l0 k (w64 (x5 + 1)) p0 t3))) else none) else (some (.inr ()))
def law04_StripStacked (k : Nat) (p0 : List Tile) (p1 : Int) (p2 : Int) (p3 : Int) : Option Bool := (if (decide ((p0.length : Int) > 4)) = true then (some true) else ((ref01_Valid k p0).bind fun t6 => some (!t6))).bind fun x5 => (if x5 = true then (some true) else ((ref02_Light k p0 (w64 (1 + (Int.tmod (w64 (p1)) 6)))).bind fun t8 => some (!t8))).bind fun x7 => if x7 = true then ((law04_awake k).bind fun t9 => some t9) else ((strip_On k p0 p0).bind fun t10 => (if ((t10.2.2 != 0) || ((t10.1.length : Int) != (t10.2.1.length : Int))) = true then (some true) else ((ref01_Valid k t10.1).bind fun t12 => some (!t12))).bind fun x11 => if x11 = true then (some false) else ((law04_StripStacked.l0 k 0 p0 t10).bind fun x13 => sumb x13 (fun r => some r) (fun y14 => (fill_Count k p0 (w64 (1 + (Int.tmod (w64 (p1)) 6))) 2 (Edges.mk ([] : List Int) ([] : List Int) ([] : List Int) ([] : List Int))).bind fun t15 => (if ((t15.2 != 0) || (decide ((t10.1.length : Int) > 12))) = true then (some true) else ((ref02_Light k t10.1 (w64 (1 + (Int.tmod (w64 (p1)) 6)))).bind fun t17 => some (!t17))).bind fun x16 => (if x16 = true then (some true) else ((ref02_Great k t10.1 (w64 (1 + (Int.tmod (w64 (p1)) 6)))).bind fun t19 => some t19)).bind fun x18 => if x18 = true then ((if (t15.2 == 0) = true then ((law04_awake k).bind fun t21 => some t21) else (some false)).bind fun x20 => some x20) else ((fill_Count k t10.1 (w64 (1 + (Int.tmod (w64 (p1)) 6))) 1 (Edges.mk ([] : List Int) ([] : List Int) ([] : List Int) ([] : List Int))).bind fun t22 => (if (t22.2 != 0) = true then (some true) else ((law04_distinct k p0).bind fun t24 => some (t24 && (t22.1 != t15.1)))).bind fun x23 => if (x23 || (decide (t22.1 > t15.1))) = true then (some false) else ((law04_path k p0 t10.1 t10.2.1 (w64 (p2)) (w64 (p3)) (w64 (1 + (Int.tmod (w64 (p1)) 6)))).bind fun t25 => (if t25 = true then ((law04_awake k).bind fun t27 => some t27) else (some false)).bind fun x26 => some x26)))))
end Gp
namespace Gp
open Go Gw Go.Proofs Go.RowKit
def ok_Tile (a : Tile) : Prop := (ok64 a.N) ∧ (ok64 a.E) ∧ (ok64 a.S) ∧ (ok64 a.W)
theorem opn_Tile_32 {H : Type} {enc : TypeId × Value → H} {w : World} {base : Nat} {spare : Nat → Bool} {held : Bool} {fuel : Nat} {cs : List Value} {x : DataW H × List MemPlace} (h : DataW.trod enc Tryz.prog w base spare held fuel 32 cs = some x) : ∃ (a : Tile), cs = [.int .i64 a.N, .int .i64 a.E, .int .i64 a.S, .int .i64 a.W] ∧ ok_Tile a := by
  obtain ⟨hl, n, hf⟩ := opn_fields Tryz.underlying32 h
  have hl0 : cs.length = 4 := hl.trans (by kernel_rfl)
  obtain ⟨q0, r0, rfl, hl1⟩ := cons_of hl0
  obtain ⟨q1, r1, rfl, hl2⟩ := cons_of hl1
  obtain ⟨q2, r2, rfl, hl3⟩ := cons_of hl2
  obtain ⟨q3, r3, rfl, hl4⟩ := cons_of hl3
  obtain rfl := List.eq_nil_of_length_eq_zero hl4
  obtain ⟨y0, h0⟩ := hf 0 _ 1 rfl (by kernel_rfl)
  have h0 : DataW.trod enc Tryz.prog w base spare held n 3 [q0] = some y0 := h0
  obtain ⟨a0, e0, w0⟩ := opn_int Tryz.underlying3 h0
  injection e0 with f0 e0
  subst f0
  obtain ⟨y1, h1⟩ := hf 1 _ 1 rfl (by kernel_rfl)
  have h1 : DataW.trod enc Tryz.prog w base spare held n 3 [q1] = some y1 := h1
  obtain ⟨a1, e1, w1⟩ := opn_int Tryz.underlying3 h1
  injection e1 with f1 e1
  subst f1
  obtain ⟨y2, h2⟩ := hf 2 _ 1 rfl (by kernel_rfl)
  have h2 : DataW.trod enc Tryz.prog w base spare held n 3 [q2] = some y2 := h2
  obtain ⟨a2, e2, w2⟩ := opn_int Tryz.underlying3 h2
  injection e2 with f2 e2
  subst f2
  obtain ⟨y3, h3⟩ := hf 3 _ 1 rfl (by kernel_rfl)
  have h3 : DataW.trod enc Tryz.prog w base spare held n 3 [q3] = some y3 := h3
  obtain ⟨a3, e3, w3⟩ := opn_int Tryz.underlying3 h3
  injection e3 with f3 e3
  subst f3
  exact ⟨⟨a0, a1, a2, a3⟩, rfl, ⟨wf64 w0, wf64 w1, wf64 w2, wf64 w3⟩⟩
theorem opens_Tile_32 : Opens Tryz.prog 32 enc_Tile ok_Tile := ⟨by kernel_rfl, by decide, fun h => opn_Tile_32 h⟩
end Gp
