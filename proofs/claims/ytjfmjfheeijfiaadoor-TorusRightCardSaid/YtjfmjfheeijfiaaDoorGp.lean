/- The functions that the law reaches, as plain functions; how what comes in is opened. -/
import Derived.Test.YtjfmjfheeijfiaaDoorGs
set_option linter.unusedVariables false
set_option linter.unusedSimpArgs false
set_option maxHeartbeats 4000000
namespace Gp
open Go Gw
abbrev iv (n : Int) : Value := .int .i64 n
abbrev pt (g : Nat) : Value := .pointer (some ⟨g, 0, none⟩)
structure Pattern where
  Width : Int
  Height : Int
  Cells : List Int
  deriving DecidableEq
def z_Pattern : Pattern := ⟨0, 0, []⟩
def encN_Pattern : Enc (HF × Pattern) := ⟨3, fun x => [(.int .i64 x.2.Width), (.int .i64 x.2.Height), (.slice (x.1 0).1 x.2.Cells.length (x.1 0).2)], fun _ => rfl, fun x u h => by simp at h; rcases h with rfl | rfl | rfl <;> rfl⟩
def subN_Pattern (h : HF) (x : Pattern) : Own := rowR encInt (h 0).1 (h 0).2 x.Cells
structure Tile where
  N : Int
  E : Int
  S : Int
  W : Int
  deriving DecidableEq
def z_Tile : Tile := ⟨0, 0, 0, 0⟩
def ints_Tile (x : Tile) : List Int := [x.N, x.E, x.S, x.W]
def enc_Tile : Enc Tile := ⟨4, fun x => [(.int .i64 x.N), (.int .i64 x.E), (.int .i64 x.S), (.int .i64 x.W)], fun _ => rfl, fun x u h => by simp at h; rcases h with rfl | rfl | rfl | rfl <;> rfl⟩
structure A8_Int where
  e0 : Int
  e1 : Int
  e2 : Int
  e3 : Int
  e4 : Int
  e5 : Int
  e6 : Int
  e7 : Int
  deriving DecidableEq
def z_A8_Int : A8_Int := ⟨0, 0, 0, 0, 0, 0, 0, 0⟩
def A8_Int.get (a : A8_Int) (i : Int) : Int := if i = 0 then a.e0 else if i = 1 then a.e1 else if i = 2 then a.e2 else if i = 3 then a.e3 else if i = 4 then a.e4 else if i = 5 then a.e5 else if i = 6 then a.e6 else a.e7
def A8_Int.set (a : A8_Int) (i v : Int) : A8_Int := ⟨if i = 0 then v else a.e0, if i = 1 then v else a.e1, if i = 2 then v else a.e2, if i = 3 then v else a.e3, if i = 4 then v else a.e4, if i = 5 then v else a.e5, if i = 6 then v else a.e6, if i = 7 then v else a.e7⟩
def ints_A8_Int (x : A8_Int) : List Int := [x.e0, x.e1, x.e2, x.e3, x.e4, x.e5, x.e6, x.e7]
def enc_A8_Int : Enc A8_Int := ⟨8, fun x => [(.int .i64 x.e0), (.int .i64 x.e1), (.int .i64 x.e2), (.int .i64 x.e3), (.int .i64 x.e4), (.int .i64 x.e5), (.int .i64 x.e6), (.int .i64 x.e7)], fun _ => rfl, fun x u h => by simp at h; rcases h with rfl | rfl | rfl | rfl | rfl | rfl | rfl | rfl <;> rfl⟩
structure Row where
  Cells : List Int
  South : A8_Int
  North : A8_Int
  West : Int
  East : Int
  deriving DecidableEq
def z_Row : Row := ⟨[], z_A8_Int, z_A8_Int, 0, 0⟩
def encN_Row : Enc (HF × Row) := ⟨19, fun x => [(.slice (x.1 0).1 x.2.Cells.length (x.1 0).2), (.int .i64 x.2.South.e0), (.int .i64 x.2.South.e1), (.int .i64 x.2.South.e2), (.int .i64 x.2.South.e3), (.int .i64 x.2.South.e4), (.int .i64 x.2.South.e5), (.int .i64 x.2.South.e6), (.int .i64 x.2.South.e7), (.int .i64 x.2.North.e0), (.int .i64 x.2.North.e1), (.int .i64 x.2.North.e2), (.int .i64 x.2.North.e3), (.int .i64 x.2.North.e4), (.int .i64 x.2.North.e5), (.int .i64 x.2.North.e6), (.int .i64 x.2.North.e7), (.int .i64 x.2.West), (.int .i64 x.2.East)], fun _ => rfl, fun x u h => by simp at h; rcases h with rfl | rfl | rfl | rfl | rfl | rfl | rfl | rfl | rfl | rfl | rfl | rfl | rfl | rfl | rfl | rfl | rfl | rfl | rfl <;> rfl⟩
def subN_Row (h : HF) (x : Row) : Own := rowR encInt (h 0).1 (h 0).2 x.Cells
def ref01_colour (p0 : Int) : Option Bool := some ((decide (p0 ≥ 0)) && (decide (p0 < 1000)))
def ref01_Index.l0 : Nat → Int → (List Tile) → Tile → Option (Sum Int Unit)
  | 0, _, _, _ => none
  | k + 1, x95, p0, p1 => if (decide (x95 < (p0.length : Int))) = true then (if 0 ≤ x95 ∧ x95 < (p0.length : Int) then (if (((rdD p0 x95 z_Tile).N) == p1.N && (((rdD p0 x95 z_Tile).E) == p1.E && (((rdD p0 x95 z_Tile).S) == p1.S && (((rdD p0 x95 z_Tile).W) == p1.W)))) = true then (some (.inl x95)) else (ref01_Index.l0 k (w64 (x95 + 1)) p0 p1)) else none) else (some (.inr ()))
def ref01_Index (k : Nat) (p0 : List Tile) (p1 : Tile) : Option Int := (ref01_Index.l0 k 0 p0 p1).bind fun x96 => sumb x96 (fun r => some r) (fun y112 => some (-1))
def ref01_Valid.l0 : Nat → Int → (List Tile) → Option (Sum Bool Unit)
  | 0, _, _ => none
  | k + 1, x409, p0 => if (decide (x409 < (p0.length : Int))) = true then (if 0 ≤ x409 ∧ x409 < (p0.length : Int) then ((ref01_colour ((rdD p0 x409 z_Tile).N)).bind fun t513 => (if (!t513) = true then (some true) else ((ref01_colour ((rdD p0 x409 z_Tile).E)).bind fun t527 => some (!t527))).bind fun x524 => (if x524 = true then (some true) else ((ref01_colour ((rdD p0 x409 z_Tile).S)).bind fun t546 => some (!t546))).bind fun x543 => (if x543 = true then (some true) else ((ref01_colour ((rdD p0 x409 z_Tile).W)).bind fun t565 => some (!t565))).bind fun x562 => (if x562 = true then (some true) else (if 0 ≤ (0 : Int) ∧ (0 : Int) ≤ x409 ∧ x409 ≤ (p0.length : Int) then ((ref01_Index k (cut p0 (0 : Int) x409) (rdD p0 x409 z_Tile)).bind fun t588 => some (decide (t588 ≥ 0))) else none)).bind fun x583 => if x583 = true then (some (.inl false)) else (ref01_Valid.l0 k (w64 (x409 + 1)) p0)) else none) else (some (.inr ()))
def ref01_Valid (k : Nat) (p0 : List Tile) : Option Bool := if (decide ((p0.length : Int) > 1000)) = true then (some false) else ((ref01_Valid.l0 k 0 p0).bind fun x410 => sumb x410 (fun r => some r) (fun y602 => some true))
def tile_colour_1 (p0 : Int) : Option Bool := some ((decide (p0 < 0)) || (decide (p0 ≥ 1000)))
def slices_IndexFunc_int_int_with_tile_colour_1.l0 : Nat → Int → (List Int) → Option (Sum Int Unit)
  | 0, _, _ => none
  | k + 1, x1049, p0 => if (decide (x1049 < (p0.length : Int))) = true then (if 0 ≤ x1049 ∧ x1049 < (p0.length : Int) then ((tile_colour_1 (rdD p0 x1049 0)).bind fun t1058 => if t1058 = true then (some (.inl x1049)) else (slices_IndexFunc_int_int_with_tile_colour_1.l0 k (w64 (x1049 + 1)) p0)) else none) else (some (.inr ()))
def slices_IndexFunc_int_int_with_tile_colour_1 (k : Nat) (p0 : List Int) : Option Int := (slices_IndexFunc_int_int_with_tile_colour_1.l0 k 0 p0).bind fun x1050 => sumb x1050 (fun r => some r) (fun y1067 => some (-1))
def slices_ContainsFunc_int_int_with_tile_colour_1 (k : Nat) (p0 : List Int) : Option Bool := (slices_IndexFunc_int_int_with_tile_colour_1 k p0).bind fun t1069 => some (decide (t1069 ≥ 0))
def tile_colour (k : Nat) (p0 : List Int) : Option Bool := (slices_ContainsFunc_int_int_with_tile_colour_1 k p0).bind fun t1074 => some (!t1074)
def tile_Valid.l0 : Nat → (List (Tile × Bool)) → Int → (List Tile) → Option (Sum Bool Unit)
  | 0, _, _, _ => none
  | k + 1, l1148, x1149, p0 => if (decide (x1149 < (p0.length : Int))) = true then (if 0 ≤ x1149 ∧ x1149 < (p0.length : Int) then ((if (mget (rdD p0 x1149 z_Tile) false l1148) = true then (some true) else ((tile_colour k [(rdD p0 x1149 z_Tile).N, (rdD p0 x1149 z_Tile).E, (rdD p0 x1149 z_Tile).S, (rdD p0 x1149 z_Tile).W]).bind fun t1183 => some (!t1183))).bind fun x1175 => if x1175 = true then (some (.inl false)) else (tile_Valid.l0 k (mput (rdD p0 x1149 z_Tile) true l1148) (w64 (x1149 + 1)) p0)) else none) else (some (.inr ()))
def tile_Valid (k : Nat) (p0 : List Tile) : Option Bool := if (decide ((p0.length : Int) > 1000)) = true then (some false) else ((tile_Valid.l0 k ([] : List (Tile × Bool)) 0 p0).bind fun x1150 => sumb x1150 (fun r => some r) (fun y1199 => some true))
def tile_write.l1 : Nat → (List ByteArray) → Int → (List Tile) → Int → Option (List ByteArray)
  | 0, _, _, _, _ => none
  | k + 1, l1710, x1711, p0, x1602 => if (decide (x1711 < 4)) = true then (if (x1711 == 0) = true then ((itoaP ((rdD p0 x1602 z_Tile).N)).bind fun t1726 => if l1710.length + [t1726].length ≤ 100000000000 then (tile_write.l1 k (l1710 ++ [t1726]) (w64 (x1711 + 1)) p0 x1602) else none) else (if (x1711 == 1) = true then ((itoaP ((rdD p0 x1602 z_Tile).E)).bind fun t1742 => if l1710.length + [t1742].length ≤ 100000000000 then (tile_write.l1 k (l1710 ++ [t1742]) (w64 (x1711 + 1)) p0 x1602) else none) else (if (x1711 == 2) = true then ((itoaP ((rdD p0 x1602 z_Tile).S)).bind fun t1758 => if l1710.length + [t1758].length ≤ 100000000000 then (tile_write.l1 k (l1710 ++ [t1758]) (w64 (x1711 + 1)) p0 x1602) else none) else (if (x1711 == 3) = true then ((itoaP ((rdD p0 x1602 z_Tile).W)).bind fun t1774 => if l1710.length + [t1774].length ≤ 100000000000 then (tile_write.l1 k (l1710 ++ [t1774]) (w64 (x1711 + 1)) p0 x1602) else none) else (none))))) else (some l1710)
def tile_write.l0 : Nat → (List ByteArray) → Int → (List Tile) → Option (List ByteArray)
  | 0, _, _, _ => none
  | k + 1, l1601, x1602, p0 => if (decide (x1602 < (p0.length : Int))) = true then (if 0 ≤ x1602 ∧ x1602 < (p0.length : Int) then ((tile_write.l1 k ([] : List ByteArray) 0 p0 x1602).bind fun x1715 => (joinP x1715 (⟨#[46]⟩ : ByteArray)).bind fun t1793 => if l1601.length + [t1793].length ≤ 100000000000 then (tile_write.l0 k (l1601 ++ [t1793]) (w64 (x1602 + 1)) p0) else none) else none) else (some l1601)
def tile_write (k : Nat) (p0 : List Tile) : Option ByteArray := (tile_write.l0 k ([] : List ByteArray) 0 p0).bind fun x1606 => (joinP x1606 (⟨#[32]⟩ : ByteArray)).bind fun t1812 => some t1812
def tile_Parse.l1 : Nat → Int → Int → Int → Int → Int → ByteArray → Int → Option (Int × Int × Int × Int)
  | 0, _, _, _, _, _, _, _ => none
  | k + 1, x960, x961, x962, x963, x964, p0, x880 => if (decide (x964 < ((splitP (rdD (splitP p0 (⟨#[32]⟩ : ByteArray)) x880 ByteArray.empty) (⟨#[46]⟩ : ByteArray)).length : Int))) = true then (if 0 ≤ x964 ∧ x964 < ((splitP (rdD (splitP p0 (⟨#[32]⟩ : ByteArray)) x880 ByteArray.empty) (⟨#[46]⟩ : ByteArray)).length : Int) then ((atoiP (rdD (splitP (rdD (splitP p0 (⟨#[32]⟩ : ByteArray)) x880 ByteArray.empty) (⟨#[46]⟩ : ByteArray)) x964 ByteArray.empty)).bind fun t980 => if (x964 == 0) = true then (tile_Parse.l1 k t980 x961 x962 x963 (w64 (x964 + 1)) p0 x880) else (if (x964 == 1) = true then (tile_Parse.l1 k x960 t980 x962 x963 (w64 (x964 + 1)) p0 x880) else (if (x964 == 2) = true then (tile_Parse.l1 k x960 x961 t980 x963 (w64 (x964 + 1)) p0 x880) else (if (x964 == 3) = true then (tile_Parse.l1 k x960 x961 x962 t980 (w64 (x964 + 1)) p0 x880) else (none))))) else none) else (some (x960, x961, x962, x963))
def tile_Parse.l0 : Nat → (List Tile) → Int → ByteArray → Option (Sum ((List Tile) × Int) (List Tile))
  | 0, _, _, _ => none
  | k + 1, l879, x880, p0 => if (decide (x880 < ((splitP p0 (⟨#[32]⟩ : ByteArray)).length : Int))) = true then (if 0 ≤ x880 ∧ x880 < ((splitP p0 (⟨#[32]⟩ : ByteArray)).length : Int) then (if (rdD (splitP p0 (⟨#[32]⟩ : ByteArray)) x880 ByteArray.empty).size < 4294967281 ∧ 1 ≤ (⟨#[46]⟩ : ByteArray).size then (if ((((splitP (rdD (splitP p0 (⟨#[32]⟩ : ByteArray)) x880 ByteArray.empty) (⟨#[46]⟩ : ByteArray)).length : Int) != 4) || (decide ((l879.length : Int) > 1000))) = true then (some (.inl (([] : List Tile), 3))) else ((tile_Parse.l1 k 0 0 0 0 0 p0 x880).bind fun x969 => if l879.length + [(Tile.mk x969.1 x969.2.1 x969.2.2.1 x969.2.2.2)].length ≤ 100000000000 then (tile_Parse.l0 k (l879 ++ [(Tile.mk x969.1 x969.2.1 x969.2.2.1 x969.2.2.2)]) (w64 (x880 + 1)) p0) else none)) else none) else none) else (some (.inr l879))
def tile_Parse (k : Nat) (p0 : ByteArray) : Option ((List Tile) × Int) := if (strEq p0 (⟨#[]⟩ : ByteArray)) = true then (some (([] : List Tile), 0)) else (if (decide ((p0.size : Int) > 16000)) = true then (some (([] : List Tile), 3)) else (if p0.size < 4294967281 ∧ 1 ≤ (⟨#[32]⟩ : ByteArray).size then ((tile_Parse.l0 k ([] : List Tile) 0 p0).bind fun x884 => sumb x884 (fun r => some r) (fun y1011 => (tile_Valid k y1011).bind fun t1201 => (if (!t1201) = true then (some true) else ((tile_write k y1011).bind fun t1823 => some (!(strEq t1823 p0)))).bind fun x1820 => if x1820 = true then (some (([] : List Tile), 3)) else (some (y1011, 0)))) else none))
def rows_Few.l0 : Nat → Int → Int → (List Tile) → Int → Option (Sum Bool Unit)
  | 0, _, _, _, _ => none
  | k + 1, x1874, x1875, p0, p1 => if (decide (x1875 < p1)) = true then (if (decide (w64 (x1874 * (maxI (p0.length : Int) 1)) > 5000)) = true then (some (.inl false)) else (rows_Few.l0 k (w64 (x1874 * (maxI (p0.length : Int) 1))) (w64 (x1875 + 1)) p0 p1)) else (some (.inr ()))
def rows_Few (k : Nat) (p0 : List Tile) (p1 : Int) : Option Bool := (rows_Few.l0 k 1 0 p0 p1).bind fun x1876 => sumb x1876 (fun r => some r) (fun y1887 => some true)
def rows_rowOf.l0 : Nat → A8_Int → A8_Int → Int → (List Tile) → (List Int) → Option (A8_Int × A8_Int)
  | 0, _, _, _, _, _ => none
  | k + 1, a2025, a2026, x2027, p0, p1 => if (decide (x2027 < (p1.length : Int))) = true then (if 0 ≤ x2027 ∧ x2027 < (p1.length : Int) then (if 0 ≤ (rdD p1 x2027 0) ∧ (rdD p1 x2027 0) < (p0.length : Int) then (if 0 ≤ x2027 ∧ x2027 < (8 : Int) then (rows_rowOf.l0 k (A8_Int.set a2025 x2027 ((rdD p0 (rdD p1 x2027 0) z_Tile).S)) (A8_Int.set a2026 x2027 ((rdD p0 (rdD p1 x2027 0) z_Tile).N)) (w64 (x2027 + 1)) p0 p1) else none) else none) else none) else (some (a2025, a2026))
def rows_rowOf (k : Nat) (p0 : List Tile) (p1 : List Int) : Option Row := if ([] : List Int).length + p1.length ≤ 100000000000 then ((rows_rowOf.l0 k (A8_Int.mk 0 0 0 0 0 0 0 0) (A8_Int.mk 0 0 0 0 0 0 0 0) 0 p0 p1).bind fun x2030 => if 0 ≤ (0 : Int) ∧ (0 : Int) < (p1.length : Int) then (if 0 ≤ (rdD p1 (0 : Int) 0) ∧ (rdD p1 (0 : Int) 0) < (p0.length : Int) then (if 0 ≤ w64 ((p1.length : Int) - 1) ∧ w64 ((p1.length : Int) - 1) < (p1.length : Int) then (if 0 ≤ (rdD p1 (w64 ((p1.length : Int) - 1)) 0) ∧ (rdD p1 (w64 ((p1.length : Int) - 1)) 0) < (p0.length : Int) then (some (Row.mk (([] : List Int) ++ p1) x2030.1 x2030.2 ((rdD p0 (rdD p1 (0 : Int) 0) z_Tile).W) ((rdD p0 (rdD p1 (w64 ((p1.length : Int) - 1)) 0) z_Tile).E))) else none) else none) else none) else none) else none
def rows_All_1.l0 : Nat → (List Row) → (List Int) → Int → Int → Int → (List Tile) → (Int → Int → (List Row) → (List Tile) → (List Int) → Option ((List Row) × (List Int))) → Option ((List Row) × (List Int))
  | 0, _, _, _, _, _, _, _ => none
  | k + 1, l2482, l2486, x2487, p0, f0, f2, rc_ => if (decide (x2487 < (f2.length : Int))) = true then (if 0 ≤ x2487 ∧ x2487 < (f2.length : Int) then ((if (p0 == 0) = true then (some true) else (if 0 ≤ w64 (p0 - 1) ∧ w64 (p0 - 1) < (l2486.length : Int) then (if 0 ≤ (rdD l2486 (w64 (p0 - 1)) 0) ∧ (rdD l2486 (w64 (p0 - 1)) 0) < (f2.length : Int) then (some (((rdD f2 (rdD l2486 (w64 (p0 - 1)) 0) z_Tile).E) == ((rdD f2 x2487 z_Tile).W))) else none) else none)).bind fun x2521 => (if x2521 = true then (if 0 ≤ p0 ∧ p0 < (l2486.length : Int) then ((rc_ (w64 (p0 + 1)) f0 l2482 f2 (l2486.set (p0).toNat x2487)).bind fun t2567 => some (t2567.1, t2567.2)) else none) else (some (l2482, l2486))).bind fun x2560 => rows_All_1.l0 k x2560.1 x2560.2 (w64 (x2487 + 1)) p0 f0 f2 rc_) else none) else (some (l2482, l2486))
def rows_All_1 : Nat → Int → Int → (List Row) → (List Tile) → (List Int) → Option ((List Row) × (List Int))
  | 0, _, _, _, _, _ => none
  | k + 1, p0, f0, f1, f2, f3 => if (p0 == f0) = true then ((rows_rowOf k f2 f3).bind fun t2292 => if f1.length + 1 ≤ 100000000000 then (some (f1 ++ [t2292], f3)) else none) else ((rows_All_1.l0 k f1 f3 0 p0 f0 f2 (rows_All_1 k)).bind fun x2495 => some (x2495.1, x2495.2))
def rows_All (k : Nat) (p0 : List Tile) (p1 : Int) : Option (List Row) := if 0 ≤ p1 ∧ p1 ≤ 100000000000 then ((rows_All_1 k 0 p1 ([] : List Row) p0 (List.replicate p1.toNat (0 : Int))).bind fun t2587 => some t2587.1) else none
def torus_rings.l0 : Nat → (List Row) → Int → (List Row) → Option (List Row)
  | 0, _, _, _ => none
  | k + 1, l2711, x2713, t2597 => if (decide (x2713 < (t2597.length : Int))) = true then (if 0 ≤ x2713 ∧ x2713 < (t2597.length : Int) then ((if (((rdD t2597 x2713 z_Row).West) == ((rdD t2597 x2713 z_Row).East)) = true then (if l2711.length + 1 ≤ 100000000000 then (some (l2711 ++ [(rdD t2597 x2713 z_Row)])) else none) else (some l2711)).bind fun x2748 => torus_rings.l0 k x2748 (w64 (x2713 + 1)) t2597) else none) else (some l2711)
def torus_rings (k : Nat) (p0 : List Tile) (p1 : Int) : Option (List Row) := (rows_All k p0 p1).bind fun t2597 => (torus_rings.l0 k ([] : List Row) 0 t2597).bind fun x2718 => some x2718
def torus_back.l1 : Nat → (List (A8_Int × Bool)) → Int → (List Row) → (List (A8_Int × Bool)) → Option (List (A8_Int × Bool))
  | 0, _, _, _, _ => none
  | k + 1, l3080, x3081, p0, m3031 => if (decide (x3081 < (p0.length : Int))) = true then (if 0 ≤ x3081 ∧ x3081 < (p0.length : Int) then ((if (mget ((rdD p0 x3081 z_Row).North) false m3031) = true then (some (mput ((rdD p0 x3081 z_Row).South) true l3080)) else (some l3080)).bind fun x3101 => torus_back.l1 k x3101 (w64 (x3081 + 1)) p0 m3031) else none) else (some l3080)
def torus_back.l0 : Nat → (List (Option (List (A8_Int × Bool)))) → Int → (List Row) → Int → Option (List (Option (List (A8_Int × Bool))))
  | 0, _, _, _, _ => none
  | k + 1, l3016, x3018, p0, p2 => if (decide (x3018 < p2)) = true then (if 0 ≤ w64 ((l3016.length : Int) - 1) ∧ w64 ((l3016.length : Int) - 1) < (l3016.length : Int) then ((rdD l3016 (w64 ((l3016.length : Int) - 1)) none).bind fun m3031 => ((torus_back.l1 k ([] : List (A8_Int × Bool)) 0 p0 m3031).bind fun x3083 => if l3016.length + 1 ≤ 100000000000 then (torus_back.l0 k (l3016 ++ [some x3083]) (w64 (x3018 + 1)) p0 p2) else none)) else none) else (some l3016)
def torus_back (k : Nat) (p0 : List Row) (p1 : A8_Int) (p2 : Int) : Option (List (Option (List (A8_Int × Bool)))) := (torus_back.l0 k [some (mput p1 true ([] : List (A8_Int × Bool)))] 0 p0 p2).bind fun x3023 => some x3023
def torus_find.l2 : Nat → Int → (List Row) → ((List (A8_Int × List (Option (List (A8_Int × Bool))))) × (List (Option (List (A8_Int × Bool))))) → (List Int) → A8_Int → Int → Option ((List Int) × A8_Int)
  | 0, _, _, _, _, _, _ => none
  | k + 1, x4941, t2771, x4416, l4821, a4822, x4823 => if (decide (x4941 < (t2771.length : Int))) = true then (if 0 ≤ x4941 ∧ x4941 < (t2771.length : Int) then ((if ((((rdD t2771 x4941 z_Row).South).e0) == a4822.e0 && ((((rdD t2771 x4941 z_Row).South).e1) == a4822.e1 && ((((rdD t2771 x4941 z_Row).South).e2) == a4822.e2 && ((((rdD t2771 x4941 z_Row).South).e3) == a4822.e3 && ((((rdD t2771 x4941 z_Row).South).e4) == a4822.e4 && ((((rdD t2771 x4941 z_Row).South).e5) == a4822.e5 && ((((rdD t2771 x4941 z_Row).South).e6) == a4822.e6 && ((((rdD t2771 x4941 z_Row).South).e7) == a4822.e7)))))))) = true then (if 0 ≤ x4823 ∧ x4823 < (x4416.2.length : Int) then ((rdD x4416.2 x4823 none).bind fun m4987 => (some (mget ((rdD t2771 x4941 z_Row).North) false m4987))) else none) else (some false)).bind fun x4975 => if x4975 = true then (if l4821.length + ((rdD t2771 x4941 z_Row).Cells).length ≤ 100000000000 then (some (l4821 ++ ((rdD t2771 x4941 z_Row).Cells), ((rdD t2771 x4941 z_Row).North))) else none) else (torus_find.l2 k (w64 (x4941 + 1)) t2771 x4416 l4821 a4822 x4823)) else none) else (some (l4821, a4822))
def torus_find.l1 : Nat → (List Int) → A8_Int → Int → (List Row) → ((List (A8_Int × List (Option (List (A8_Int × Bool))))) × (List (Option (List (A8_Int × Bool))))) → Option (List Int)
  | 0, _, _, _, _, _ => none
  | k + 1, l4821, a4822, x4823, t2771, x4416 => if (decide (x4823 ≥ 0)) = true then ((torus_find.l2 k 0 t2771 x4416 l4821 a4822 x4823).bind fun x4946 => torus_find.l1 k x4946.1 x4946.2 (w64 (x4823 - 1)) t2771 x4416) else (some l4821)
def torus_find.l0 : Nat → (List (A8_Int × List (Option (List (A8_Int × Bool))))) → Int → Int → Int → (List Row) → Option (Sum (Pattern × Bool) Unit)
  | 0, _, _, _, _, _ => none
  | k + 1, l4377, x4379, p1, p2, t2771 => if (decide (x4379 < (t2771.length : Int))) = true then (if 0 ≤ x4379 ∧ x4379 < (t2771.length : Int) then ((if (!(mhas ((rdD t2771 x4379 z_Row).South) l4377)) = true then ((torus_back k t2771 ((rdD t2771 x4379 z_Row).South) (w64 (p2 - 1))).bind fun t4419 => some (mput ((rdD t2771 x4379 z_Row).South) t4419 l4377, t4419)) else (some (l4377, (mget ((rdD t2771 x4379 z_Row).South) [] l4377)))).bind fun x4416 => if 0 ≤ w64 (p2 - 1) ∧ w64 (p2 - 1) < (x4416.2.length : Int) then ((rdD x4416.2 (w64 (p2 - 1)) none).bind fun m4445 => (if (!(mget ((rdD t2771 x4379 z_Row).North) false m4445)) = true then (torus_find.l0 k x4416.1 (w64 (x4379 + 1)) p1 p2 t2771) else (if ([] : List Int).length + ((rdD t2771 x4379 z_Row).Cells).length ≤ 100000000000 then ((torus_find.l1 k (([] : List Int) ++ ((rdD t2771 x4379 z_Row).Cells)) ((rdD t2771 x4379 z_Row).North) (w64 (p2 - 2)) t2771 x4416).bind fun x4827 => some (.inl ((Pattern.mk p1 p2 x4827), true))) else none))) else none) else none) else (some (.inr ()))
def torus_find (k : Nat) (p0 : List Tile) (p1 : Int) (p2 : Int) : Option (Pattern × Bool) := (torus_rings k p0 p1).bind fun t2771 => (torus_find.l0 k ([] : List (A8_Int × List (Option (List (A8_Int × Bool))))) 0 p1 p2 t2771).bind fun x4380 => sumb x4380 (fun r => some r) (fun y5018 => some ((Pattern.mk 0 0 ([] : List Int)), false))
def torus_Least.l1 : Nat → Int → (List Tile) → Int → Int → Option (Sum (Pattern × Int) Unit)
  | 0, _, _, _, _ => none
  | k + 1, x5434, p0, p1, x5331 => if (decide (x5434 ≤ p1)) = true then ((if x5434 ≠ 0 then (if (((Int.tmod x5331 x5434) != 0) || (decide (w64 (Int.tdiv x5331 x5434) > p1))) = true then (some (.inr ())) else ((torus_find k p0 x5434 (w64 (Int.tdiv x5331 x5434))).bind fun t5468 => if t5468.2 = true then (some (.inl (t5468.1, 0))) else (some (.inr ())))) else none).bind fun x5462 => sumb x5462 (fun r => some (.inl r)) (fun y5487 => torus_Least.l1 k (w64 (x5434 + 1)) p0 p1 x5331)) else (some (.inr ()))
def torus_Least.l0 : Nat → Int → (List Tile) → Int → Option (Sum (Pattern × Int) Unit)
  | 0, _, _, _ => none
  | k + 1, x5331, p0, p1 => if (decide (x5331 ≤ w64 (p1 * p1))) = true then ((torus_Least.l1 k 1 p0 p1 x5331).bind fun x5435 => sumb x5435 (fun r => some (.inl r)) (fun y5492 => torus_Least.l0 k (w64 (x5331 + 1)) p0 p1)) else (some (.inr ()))
def torus_Least (k : Nat) (p0 : List Tile) (p1 : Int) : Option (Pattern × Int) := (tile_Valid k p0).bind fun t1853 => if (!t1853) = true then (some ((Pattern.mk 0 0 ([] : List Int)), 1)) else (if ((decide (p1 < 1)) || (decide (p1 > 6))) = true then (some ((Pattern.mk 0 0 ([] : List Int)), 2)) else ((rows_Few k p0 p1).bind fun t1889 => if (!t1889) = true then (some ((Pattern.mk 0 0 ([] : List Int)), 4)) else ((torus_Least.l0 k 1 p0 p1).bind fun x5332 => sumb x5332 (fun r => some r) (fun y5497 => some ((Pattern.mk 0 0 ([] : List Int)), 6)))))
def torus_Find (k : Nat) (p0 : List Tile) (p1 : Int) (p2 : Int) : Option (Pattern × Int) := (tile_Valid k p0).bind fun t5519 => if (!t5519) = true then (some ((Pattern.mk 0 0 ([] : List Int)), 1)) else (if ((((decide (p1 < 1)) || (decide (p1 > 6))) || (decide (p2 < 1))) || (decide (p2 > 6))) = true then (some ((Pattern.mk 0 0 ([] : List Int)), 2)) else ((rows_Few k p0 p1).bind fun t5538 => if (!t5538) = true then (some ((Pattern.mk 0 0 ([] : List Int)), 4)) else ((torus_find k p0 p1 p2).bind fun t5547 => if (!t5547.2) = true then (some ((Pattern.mk 0 0 ([] : List Int)), 6)) else (some (t5547.1, 0)))))
def ref01_Same.l0 : Nat → Int → (List Int) → (List Int) → Option (Sum Bool Unit)
  | 0, _, _, _ => none
  | k + 1, x5633, p0, p1 => if (decide (x5633 < (p0.length : Int))) = true then (if 0 ≤ x5633 ∧ x5633 < (p0.length : Int) then (if 0 ≤ x5633 ∧ x5633 < (p1.length : Int) then (if ((rdD p0 x5633 0) != (rdD p1 x5633 0)) = true then (some (.inl false)) else (ref01_Same.l0 k (w64 (x5633 + 1)) p0 p1)) else none) else none) else (some (.inr ()))
def ref01_Same (k : Nat) (p0 : List Int) (p1 : List Int) : Option Bool := if ((p0.length : Int) != (p1.length : Int)) = true then (some false) else ((ref01_Same.l0 k 0 p0 p1).bind fun x5634 => sumb x5634 (fun r => some r) (fun y5653 => some true))
def ref01_SamePattern (k : Nat) (p0 : Pattern) (p1 : Pattern) : Option Bool := (if ((p0.Width == p1.Width) && (p0.Height == p1.Height)) = true then ((ref01_Same k p0.Cells p1.Cells).bind fun t5664 => some t5664) else (some false)).bind fun x5661 => some x5661
def law03_awake (k : Nat)  : Option Bool := (tile_Parse k (⟨#[48, 46, 49, 46, 49, 46, 48, 32, 49, 46, 48, 46, 48, 46, 49]⟩ : ByteArray)).bind fun t1835 => (tile_Parse k (⟨#[48, 46, 49, 46, 48, 46, 48]⟩ : ByteArray)).bind fun t1842 => (torus_Least k t1835.1 6).bind fun t5502 => (torus_Find k t1835.1 2 1).bind fun t5566 => (torus_Least k t1842.1 4).bind fun t5579 => (if (((t5502.2 == 0) && (t5566.2 == 6)) && (t5579.2 == 6)) = true then ((ref01_SamePattern k t5502.1 (Pattern.mk 2 2 [0, 1, 1, 0])).bind fun t5688 => some t5688) else (some false)).bind fun x5680 => some x5680
def ref01_Form (p0 : Pattern) : Option Bool := some ((((((decide (p0.Width ≥ 1)) && (decide (p0.Height ≥ 1))) && (decide (p0.Width ≤ 40000))) && (decide (p0.Height ≤ 40000))) && (decide (w64 (p0.Width * p0.Height) ≤ 40000))) && ((p0.Cells.length : Int) == (w64 (p0.Width * p0.Height))))
def ref01_Cell (p0 : Pattern) (p1 : Int) (p2 : Int) : Option Int := if 0 ≤ w64 ((w64 (p2 * p0.Width)) + p1) ∧ w64 ((w64 (p2 * p0.Width)) + p1) < (p0.Cells.length : Int) then (some (rdD p0.Cells (w64 ((w64 (p2 * p0.Width)) + p1)) 0)) else none
def ref01_Of.l0 : Nat → Int → (List Tile) → Pattern → Option (Sum Bool Unit)
  | 0, _, _, _ => none
  | k + 1, x5777, p0, p1 => if (decide (x5777 < (p1.Cells.length : Int))) = true then (if 0 ≤ x5777 ∧ x5777 < (p1.Cells.length : Int) then (if ((decide ((rdD p1.Cells x5777 0) < 0)) || (decide ((rdD p1.Cells x5777 0) ≥ (p0.length : Int)))) = true then (some (.inl false)) else (ref01_Of.l0 k (w64 (x5777 + 1)) p0 p1)) else none) else (some (.inr ()))
def ref01_Of.l2 : Nat → Int → (List Tile) → Pattern → Int → Option (Sum Bool Unit)
  | 0, _, _, _, _ => none
  | k + 1, x7589, p0, p1, x7142 => if (decide (x7589 < p1.Width)) = true then ((ref01_Cell p1 x7589 x7142).bind fun t7597 => if 0 ≤ t7597 ∧ t7597 < (p0.length : Int) then ((if (decide (w64 (x7589 + 1) < p1.Width)) = true then (if (decide (w64 (x7142 + 1) < p1.Height)) = true then ((ref01_Cell p1 (w64 (x7589 + 1)) x7142).bind fun t7748 => if 0 ≤ t7748 ∧ t7748 < (p0.length : Int) then ((if (((rdD p0 t7597 z_Tile).E) != ((rdD p0 t7748 z_Tile).W)) = true then (some true) else ((ref01_Cell p1 x7589 (w64 (x7142 + 1))).bind fun t7764 => if 0 ≤ t7764 ∧ t7764 < (p0.length : Int) then (some (((rdD p0 t7597 z_Tile).N) != ((rdD p0 t7764 z_Tile).S))) else none)).bind fun x7761 => some x7761) else none) else ((ref01_Cell p1 (w64 (x7589 + 1)) x7142).bind fun t7785 => if 0 ≤ t7785 ∧ t7785 < (p0.length : Int) then (some (((rdD p0 t7597 z_Tile).E) != ((rdD p0 t7785 z_Tile).W))) else none)) else (if (decide (w64 (x7142 + 1) < p1.Height)) = true then ((ref01_Cell p1 x7589 (w64 (x7142 + 1))).bind fun t7802 => if 0 ≤ t7802 ∧ t7802 < (p0.length : Int) then (some (((rdD p0 t7597 z_Tile).N) != ((rdD p0 t7802 z_Tile).S))) else none) else (some false))).bind fun x7709 => if x7709 = true then (some (.inl false)) else (ref01_Of.l2 k (w64 (x7589 + 1)) p0 p1 x7142)) else none) else (some (.inr ()))
def ref01_Of.l1 : Nat → Int → (List Tile) → Pattern → Option (Sum Bool Unit)
  | 0, _, _, _ => none
  | k + 1, x7142, p0, p1 => if (decide (x7142 < p1.Height)) = true then ((ref01_Of.l2 k 0 p0 p1 x7142).bind fun x7590 => sumb x7590 (fun r => some (.inl r)) (fun y7818 => ref01_Of.l1 k (w64 (x7142 + 1)) p0 p1)) else (some (.inr ()))
def ref01_Of (k : Nat) (p0 : List Tile) (p1 : Pattern) : Option Bool := (ref01_Form p1).bind fun t5760 => if (!t5760) = true then (some false) else ((ref01_Of.l0 k 0 p0 p1).bind fun x5778 => sumb x5778 (fun r => some r) (fun y5792 => (ref01_Of.l1 k 0 p0 p1).bind fun x7143 => sumb x7143 (fun r => some r) (fun y7823 => some true)))
def ref01_Torus.l0 : Nat → Int → (List Tile) → Pattern → Option (Sum Bool Unit)
  | 0, _, _, _ => none
  | k + 1, x8026, p0, p1 => if (decide (x8026 < p1.Height)) = true then (((ref01_Cell p1 (w64 (p1.Width - 1)) x8026).bind fun t8089 => if 0 ≤ t8089 ∧ t8089 < (p0.length : Int) then ((ref01_Cell p1 0 x8026).bind fun t8095 => if 0 ≤ t8095 ∧ t8095 < (p0.length : Int) then (some (((rdD p0 t8089 z_Tile).E) != ((rdD p0 t8095 z_Tile).W))) else none) else none).bind fun x8085 => if x8085 = true then (some (.inl false)) else (ref01_Torus.l0 k (w64 (x8026 + 1)) p0 p1)) else (some (.inr ()))
def ref01_Torus.l1 : Nat → Int → (List Tile) → Pattern → Option (Sum Bool Unit)
  | 0, _, _, _ => none
  | k + 1, x8330, p0, p1 => if (decide (x8330 < p1.Width)) = true then (((ref01_Cell p1 x8330 (w64 (p1.Height - 1))).bind fun t8393 => if 0 ≤ t8393 ∧ t8393 < (p0.length : Int) then ((ref01_Cell p1 x8330 0).bind fun t8399 => if 0 ≤ t8399 ∧ t8399 < (p0.length : Int) then (some (((rdD p0 t8393 z_Tile).N) != ((rdD p0 t8399 z_Tile).S))) else none) else none).bind fun x8389 => if x8389 = true then (some (.inl false)) else (ref01_Torus.l1 k (w64 (x8330 + 1)) p0 p1)) else (some (.inr ()))
def ref01_Torus (k : Nat) (p0 : List Tile) (p1 : Pattern) : Option Bool := (ref01_Of k p0 p1).bind fun t7825 => if (!t7825) = true then (some false) else ((ref01_Torus.l0 k 0 p0 p1).bind fun x8027 => sumb x8027 (fun r => some r) (fun y8133 => (ref01_Torus.l1 k 0 p0 p1).bind fun x8331 => sumb x8331 (fun r => some r) (fun y8437 => some true)))
def ref03_Is (k : Nat) (p0 : List Tile) (p1 : Pattern) : Option Bool := (ref01_Valid k p0).bind fun t5733 => (if t5733 = true then ((ref01_Torus k p0 p1).bind fun t8448 => some t8448) else (some false)).bind fun x8445 => some x8445
def ref02_Power.l0 : Nat → Int → Int → Int → Int → Option Int
  | 0, _, _, _, _ => none
  | k + 1, x8571, x8572, p0, p1 => if (decide (x8572 < p1)) = true then (ref02_Power.l0 k (minI (w64 (x8571 * p0)) 1000000) (w64 (x8572 + 1)) p0 p1) else (some x8571)
def ref02_Power (k : Nat) (p0 : Int) (p1 : Int) : Option Int := (ref02_Power.l0 k 1 0 p0 p1).bind fun x8574 => some x8574
def ref02_Great (k : Nat) (p0 : List Tile) (p1 : Int) : Option Bool := (ref02_Power k (p0.length : Int) p1).bind fun t8585 => some (decide (t8585 > 5000))
def tile_Form (p0 : Pattern) : Option Bool := some ((((((decide (p0.Width ≥ 1)) && (decide (p0.Height ≥ 1))) && (decide (p0.Width ≤ 40000))) && (decide (p0.Height ≤ 40000))) && (decide (w64 (p0.Width * p0.Height) ≤ 40000))) && ((p0.Cells.length : Int) == (w64 (p0.Width * p0.Height))))
def tile_Repeat.l1 : Nat → (List Int) → Int → Pattern → Int → Int → Option (List Int)
  | 0, _, _, _, _, _ => none
  | k + 1, l9167, x9168, p0, p1, x9078 => if (decide (x9168 < p1)) = true then (if p0.Height ≠ 0 then (if p0.Width ≠ 0 then (if 0 ≤ w64 ((w64 ((Int.tmod x9078 p0.Height) * p0.Width)) + (Int.tmod x9168 p0.Width)) ∧ w64 ((w64 ((Int.tmod x9078 p0.Height) * p0.Width)) + (Int.tmod x9168 p0.Width)) < (p0.Cells.length : Int) then (if l9167.length + [(rdD p0.Cells (w64 ((w64 ((Int.tmod x9078 p0.Height) * p0.Width)) + (Int.tmod x9168 p0.Width))) 0)].length ≤ 100000000000 then (tile_Repeat.l1 k (l9167 ++ [(rdD p0.Cells (w64 ((w64 ((Int.tmod x9078 p0.Height) * p0.Width)) + (Int.tmod x9168 p0.Width))) 0)]) (w64 (x9168 + 1)) p0 p1 x9078) else none) else none) else none) else none) else (some l9167)
def tile_Repeat.l0 : Nat → (List Int) → Int → Pattern → Int → Int → Option (List Int)
  | 0, _, _, _, _, _ => none
  | k + 1, l9077, x9078, p0, p1, p2 => if (decide (x9078 < p2)) = true then ((tile_Repeat.l1 k l9077 0 p0 p1 x9078).bind fun x9172 => tile_Repeat.l0 k x9172 (w64 (x9078 + 1)) p0 p1 p2) else (some l9077)
def tile_Repeat (k : Nat) (p0 : Pattern) (p1 : Int) (p2 : Int) : Option (Pattern × Int) := (tile_Form p0).bind fun t8776 => if (!t8776) = true then (some ((Pattern.mk 0 0 ([] : List Int)), 1)) else (if ((decide (p1 < 1)) || (decide (p2 < 1))) = true then (some ((Pattern.mk 0 0 ([] : List Int)), 2)) else (if (((decide (p1 > 40000)) || (decide (p2 > 40000))) || (decide (w64 (p1 * p2) > 40000))) = true then (some ((Pattern.mk 0 0 ([] : List Int)), 4)) else ((tile_Repeat.l0 k ([] : List Int) 0 p0 p1 p2).bind fun x9082 => some ((Pattern.mk p1 p2 x9082), 0))))
def tile_of_1 (p0 : Int) (f0 : List Tile) : Option Bool := some ((decide (p0 < 0)) || (decide (p0 ≥ (f0.length : Int))))
def slices_IndexFunc_int_int_with_tile_of_1.l0 : Nat → Int → (List Int) → (List Tile) → Option (Sum Int Unit)
  | 0, _, _, _ => none
  | k + 1, x9292, p0, p1_0 => if (decide (x9292 < (p0.length : Int))) = true then (if 0 ≤ x9292 ∧ x9292 < (p0.length : Int) then ((tile_of_1 (rdD p0 x9292 0) p1_0).bind fun t9301 => if t9301 = true then (some (.inl x9292)) else (slices_IndexFunc_int_int_with_tile_of_1.l0 k (w64 (x9292 + 1)) p0 p1_0)) else none) else (some (.inr ()))
def slices_IndexFunc_int_int_with_tile_of_1 (k : Nat) (p0 : List Int) (p1_0 : List Tile) : Option Int := (slices_IndexFunc_int_int_with_tile_of_1.l0 k 0 p0 p1_0).bind fun x9293 => sumb x9293 (fun r => some r) (fun y9310 => some (-1))
def slices_ContainsFunc_int_int_with_tile_of_1 (k : Nat) (p0 : List Int) (p1_0 : List Tile) : Option Bool := (slices_IndexFunc_int_int_with_tile_of_1 k p0 p1_0).bind fun t9312 => some (decide (t9312 ≥ 0))
def tile_of (k : Nat) (p0 : List Tile) (p1 : Pattern) : Option Bool := (tile_Valid k p0).bind fun t9249 => (if t9249 = true then ((tile_Form p1).bind fun t9263 => some t9263) else (some false)).bind fun x9260 => (if x9260 = true then ((slices_ContainsFunc_int_int_with_tile_of_1 k p1.Cells p0).bind fun t9326 => some (!t9326)) else (some false)).bind fun x9323 => some x9323
def tile_joins.l0 : Nat → Int → (List Tile) → Pattern → Bool → Option (Sum Bool Unit)
  | 0, _, _, _, _ => none
  | k + 1, x9512, p0, p1, p2 => if (decide (x9512 < (p1.Cells.length : Int))) = true then (if 0 ≤ x9512 ∧ x9512 < (p1.Cells.length : Int) then (if p1.Width ≠ 0 then ((if ((decide (w64 ((Int.tmod x9512 p1.Width) + 1) < p1.Width)) || p2) = true then (if 0 ≤ (rdD p1.Cells x9512 0) ∧ (rdD p1.Cells x9512 0) < (p0.length : Int) then (if 0 ≤ w64 ((w64 ((w64 (Int.tdiv x9512 p1.Width)) * p1.Width)) + (Int.tmod (w64 ((Int.tmod x9512 p1.Width) + 1)) p1.Width)) ∧ w64 ((w64 ((w64 (Int.tdiv x9512 p1.Width)) * p1.Width)) + (Int.tmod (w64 ((Int.tmod x9512 p1.Width) + 1)) p1.Width)) < (p1.Cells.length : Int) then (if 0 ≤ (rdD p1.Cells (w64 ((w64 ((w64 (Int.tdiv x9512 p1.Width)) * p1.Width)) + (Int.tmod (w64 ((Int.tmod x9512 p1.Width) + 1)) p1.Width))) 0) ∧ (rdD p1.Cells (w64 ((w64 ((w64 (Int.tdiv x9512 p1.Width)) * p1.Width)) + (Int.tmod (w64 ((Int.tmod x9512 p1.Width) + 1)) p1.Width))) 0) < (p0.length : Int) then (if (((rdD p0 (rdD p1.Cells x9512 0) z_Tile).E) != ((rdD p0 (rdD p1.Cells (w64 ((w64 ((w64 (Int.tdiv x9512 p1.Width)) * p1.Width)) + (Int.tmod (w64 ((Int.tmod x9512 p1.Width) + 1)) p1.Width))) 0) z_Tile).W)) = true then (some (.inl false)) else (some (.inr ()))) else none) else none) else none) else (some (.inr ()))).bind fun x9541 => sumb x9541 (fun r => some (.inl r)) (fun y9559 => (if ((decide (w64 ((w64 (Int.tdiv x9512 p1.Width)) + 1) < p1.Height)) || p2) = true then (if 0 ≤ (rdD p1.Cells x9512 0) ∧ (rdD p1.Cells x9512 0) < (p0.length : Int) then (if p1.Height ≠ 0 then (if 0 ≤ w64 ((w64 ((Int.tmod (w64 ((w64 (Int.tdiv x9512 p1.Width)) + 1)) p1.Height) * p1.Width)) + (Int.tmod x9512 p1.Width)) ∧ w64 ((w64 ((Int.tmod (w64 ((w64 (Int.tdiv x9512 p1.Width)) + 1)) p1.Height) * p1.Width)) + (Int.tmod x9512 p1.Width)) < (p1.Cells.length : Int) then (if 0 ≤ (rdD p1.Cells (w64 ((w64 ((Int.tmod (w64 ((w64 (Int.tdiv x9512 p1.Width)) + 1)) p1.Height) * p1.Width)) + (Int.tmod x9512 p1.Width))) 0) ∧ (rdD p1.Cells (w64 ((w64 ((Int.tmod (w64 ((w64 (Int.tdiv x9512 p1.Width)) + 1)) p1.Height) * p1.Width)) + (Int.tmod x9512 p1.Width))) 0) < (p0.length : Int) then (if (((rdD p0 (rdD p1.Cells x9512 0) z_Tile).N) != ((rdD p0 (rdD p1.Cells (w64 ((w64 ((Int.tmod (w64 ((w64 (Int.tdiv x9512 p1.Width)) + 1)) p1.Height) * p1.Width)) + (Int.tmod x9512 p1.Width))) 0) z_Tile).S)) = true then (some (.inl false)) else (some (.inr ()))) else none) else none) else none) else none) else (some (.inr ()))).bind fun x9579 => sumb x9579 (fun r => some (.inl r)) (fun y9600 => tile_joins.l0 k (w64 (x9512 + 1)) p0 p1 p2))) else none) else none) else (some (.inr ()))
def tile_joins (k : Nat) (p0 : List Tile) (p1 : Pattern) (p2 : Bool) : Option Bool := (tile_joins.l0 k 0 p0 p1 p2).bind fun x9513 => sumb x9513 (fun r => some r) (fun y9605 => some true)
def tile_Repeats (k : Nat) (p0 : List Tile) (p1 : Pattern) : Option Bool := (tile_of k p0 p1).bind fun t9336 => (if t9336 = true then ((tile_joins k p0 p1 true).bind fun t9616 => some t9616) else (some false)).bind fun x9613 => some x9613
def law03_TorusRight.l1 : Nat → Int → (List Tile) → Int → (Pattern × Int) → Int → Option (Sum Bool Unit)
  | 0, _, _, _, _, _ => none
  | k + 1, x10789, p0, p2, t5703, x10464 => if (decide (x10789 ≤ 6)) = true then ((torus_Find k p0 x10464 x10789).bind fun t10797 => (if (t10797.2 == 6) = true then (some true) else ((if (t10797.2 == 0) = true then ((ref03_Is k p0 t10797.1).bind fun t10854 => some (((!t10854) || (t10797.1.Width != x10464)) || (t10797.1.Height != x10789))) else (some false)).bind fun x10851 => some x10851)).bind fun x10838 => (if x10838 = true then (some true) else ((if (t10797.2 != 0) = true then ((ref02_Great k p0 x10464).bind fun t10905 => some (!t10905)) else (some false)).bind fun x10902 => some x10902)).bind fun x10893 => if x10893 = true then (some (.inl false)) else ((tile_Repeat k t5703.1 x10464 x10789).bind fun t10921 => (if (t10921.2 != 0) = true then (some true) else ((tile_Repeats k p0 t10921.1).bind fun t10943 => some (!t10943))).bind fun x10940 => if x10940 = true then (some (.inl false)) else (law03_TorusRight.l1 k (w64 (x10789 + (w64 (1 + (Int.tmod (w64 (p2)) 4))))) p0 p2 t5703 x10464))) else (some (.inr ()))
def law03_TorusRight.l0 : Nat → Int → (List Tile) → Int → Int → (Pattern × Int) → Option (Sum Bool Unit)
  | 0, _, _, _, _, _ => none
  | k + 1, x10464, p0, p1, p2, t5703 => if (decide (x10464 ≤ 6)) = true then ((law03_TorusRight.l1 k (w64 (1 + (Int.tmod (w64 (p2)) 4))) p0 p2 t5703 x10464).bind fun x10790 => sumb x10790 (fun r => some (.inl r)) (fun y10957 => law03_TorusRight.l0 k (w64 (x10464 + (w64 (1 + (Int.tmod (w64 (p1)) 4))))) p0 p1 p2 t5703)) else (some (.inr ()))
def law03_TorusRight (k : Nat) (p0 : List Tile) (p1 : Int) (p2 : Int) (p3 : Int) : Option Bool := (if (decide ((p0.length : Int) > 6)) = true then (some true) else ((ref01_Valid k p0).bind fun t613 => some (!t613))).bind fun x610 => if x610 = true then ((law03_awake k).bind fun t5698 => some t5698) else ((torus_Find k p0 (w64 (1 + (Int.tmod (w64 (p1)) 4))) (w64 (1 + (Int.tmod (w64 (p2)) 4)))).bind fun t5703 => (torus_Least k p0 (w64 (1 + (Int.tmod (w64 (p3)) 4)))).bind fun t5716 => (if (t5703.2 == 0) = true then ((ref03_Is k p0 t5703.1).bind fun t8471 => some (((!t8471) || (t5703.1.Width != (w64 (1 + (Int.tmod (w64 (p1)) 4))))) || (t5703.1.Height != (w64 (1 + (Int.tmod (w64 (p2)) 4)))))) else (some false)).bind fun x8468 => (if x8468 = true then (some true) else ((if (t5716.2 == 0) = true then ((ref03_Is k p0 t5716.1).bind fun t8529 => some (((!t8529) || (decide (t5716.1.Width > w64 (1 + (Int.tmod (w64 (p3)) 4))))) || (decide (t5716.1.Height > w64 (1 + (Int.tmod (w64 (p3)) 4)))))) else (some false)).bind fun x8526 => some x8526)).bind fun x8513 => if x8513 = true then (some false) else (if (((t5703.2 == 0) && (decide (maxI (w64 (1 + (Int.tmod (w64 (p1)) 4))) (w64 (1 + (Int.tmod (w64 (p2)) 4))) ≤ w64 (1 + (Int.tmod (w64 (p3)) 4))))) && ((t5716.2 == 6) || ((t5716.2 == 0) && (decide (w64 (t5716.1.Width * t5716.1.Height) > w64 ((w64 (1 + (Int.tmod (w64 (p1)) 4))) * (w64 (1 + (Int.tmod (w64 (p2)) 4))))))))) = true then (some false) else (if (t5703.2 != 0) = true then ((if (t5703.2 == 6) = true then (some true) else ((ref02_Great k p0 (w64 (1 + (Int.tmod (w64 (p1)) 4)))).bind fun t8599 => some t8599)).bind fun x8596 => (if x8596 = true then ((law03_awake k).bind fun t8618 => some t8618) else (some false)).bind fun x8615 => some x8615) else ((law03_TorusRight.l0 k (w64 (1 + (Int.tmod (w64 (p1)) 4))) p0 p1 p2 t5703).bind fun x10465 => sumb x10465 (fun r => some r) (fun y10962 => (law03_awake k).bind fun t10964 => some t10964)))))
end Gp
namespace Gp
open Go Gw Go.Proofs Go.RowKit
def ok_Tile (a : Tile) : Prop := (ok64 a.N) ∧ (ok64 a.E) ∧ (ok64 a.S) ∧ (ok64 a.W)
theorem opn_Tile_40 {H : Type} {enc : TypeId × Value → H} {w : World} {base : Nat} {spare : Nat → Bool} {held : Bool} {fuel : Nat} {cs : List Value} {x : DataW H × List MemPlace} (h : DataW.trod enc Tryd.prog w base spare held fuel 40 cs = some x) : ∃ (a : Tile), cs = [.int .i64 a.N, .int .i64 a.E, .int .i64 a.S, .int .i64 a.W] ∧ ok_Tile a := by
  obtain ⟨hl, n, hf⟩ := opn_fields Tryd.underlying40 h
  have hl0 : cs.length = 4 := hl.trans (by kernel_rfl)
  obtain ⟨q0, r0, rfl, hl1⟩ := cons_of hl0
  obtain ⟨q1, r1, rfl, hl2⟩ := cons_of hl1
  obtain ⟨q2, r2, rfl, hl3⟩ := cons_of hl2
  obtain ⟨q3, r3, rfl, hl4⟩ := cons_of hl3
  obtain rfl := List.eq_nil_of_length_eq_zero hl4
  obtain ⟨y0, h0⟩ := hf 0 _ 1 rfl (by kernel_rfl)
  have h0 : DataW.trod enc Tryd.prog w base spare held n 3 [q0] = some y0 := h0
  obtain ⟨a0, e0, w0⟩ := opn_int Tryd.underlying3 h0
  injection e0 with f0 e0
  subst f0
  obtain ⟨y1, h1⟩ := hf 1 _ 1 rfl (by kernel_rfl)
  have h1 : DataW.trod enc Tryd.prog w base spare held n 3 [q1] = some y1 := h1
  obtain ⟨a1, e1, w1⟩ := opn_int Tryd.underlying3 h1
  injection e1 with f1 e1
  subst f1
  obtain ⟨y2, h2⟩ := hf 2 _ 1 rfl (by kernel_rfl)
  have h2 : DataW.trod enc Tryd.prog w base spare held n 3 [q2] = some y2 := h2
  obtain ⟨a2, e2, w2⟩ := opn_int Tryd.underlying3 h2
  injection e2 with f2 e2
  subst f2
  obtain ⟨y3, h3⟩ := hf 3 _ 1 rfl (by kernel_rfl)
  have h3 : DataW.trod enc Tryd.prog w base spare held n 3 [q3] = some y3 := h3
  obtain ⟨a3, e3, w3⟩ := opn_int Tryd.underlying3 h3
  injection e3 with f3 e3
  subst f3
  exact ⟨⟨a0, a1, a2, a3⟩, rfl, ⟨wf64 w0, wf64 w1, wf64 w2, wf64 w3⟩⟩
theorem opens_Tile_40 : Opens Tryd.prog 40 enc_Tile ok_Tile := ⟨by kernel_rfl, by decide, fun h => opn_Tile_40 h⟩
end Gp
