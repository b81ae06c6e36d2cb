/- The functions that the law reaches, as plain functions; how what comes in is opened. -/
import Derived.Test.YtfehljifahnipaaGreatDoorGs
set_option linter.unusedVariables false
set_option linter.unusedSimpArgs false
set_option maxHeartbeats 4000000
set_option maxRecDepth 8000
namespace Gp
open Go Gw
abbrev iv (n : Int) : Value := .int .i64 n
abbrev pt (g : Nat) : Value := .pointer (some ⟨g, 0, none⟩)
abbrev sv {α : Type} (A : Option Addr) (l : List α) (c : Nat) : Value := .slice A l.length c
abbrev bv (b : Bool) : Value := .bool b
abbrev md0 : Array Value := #[(.int .u64 2305843009213693951), (.int .u64 2305843009213693921), (.int .u64 2305843009213693907)]
structure Frac where
  Num : Int
  Den : Int
  deriving DecidableEq
def z_Frac : Frac := ⟨0, 0⟩
def ints_Frac (x : Frac) : List Int := [x.Num, x.Den]
def enc_Frac : Enc Frac := ⟨2, fun x => [(.int .i64 x.Num), (.int .i64 x.Den)], fun _ => rfl, fun x u h => by simp at h; rcases h with rfl | rfl <;> rfl⟩
structure Weights where
  Values : List Frac
  Carries : List Frac
  Factors : List Frac
  Primes : List Int
  Logs : List Int
  deriving DecidableEq
def z_Weights : Weights := ⟨[], [], [], [], []⟩
structure Tile where
  N : Int
  E : Int
  S : Int
  W : Int
  deriving DecidableEq
def z_Tile : Tile := ⟨0, 0, 0, 0⟩
def ints_Tile (x : Tile) : List Int := [x.N, x.E, x.S, x.W]
def enc_Tile : Enc Tile := ⟨4, fun x => [(.int .i64 x.N), (.int .i64 x.E), (.int .i64 x.S), (.int .i64 x.W)], fun _ => rfl, fun x u h => by simp at h; rcases h with rfl | rfl | rfl | rfl <;> rfl⟩
structure Fraction where
  Num : Int
  Den : Int
  deriving DecidableEq
def z_Fraction : Fraction := ⟨0, 0⟩
def ints_Fraction (x : Fraction) : List Int := [x.Num, x.Den]
def enc_Fraction : Enc Fraction := ⟨2, fun x => [(.int .i64 x.Num), (.int .i64 x.Den)], fun _ => rfl, fun x u h => by simp at h; rcases h with rfl | rfl <;> rfl⟩
def law06_wide (p0 : List Tile) (p1 : Weights) : Option Bool := some (((decide ((p0.length : Int) > 1100)) || (decide (w64 ((w64 ((p1.Values.length : Int) + (p1.Carries.length : Int))) + (p1.Factors.length : Int)) > 4000))) || (decide (w64 ((p1.Primes.length : Int) + (p1.Logs.length : Int)) > 100)))
def ref01_colour (p0 : Int) : Option Bool := some ((decide (p0 ≥ 0)) && (decide (p0 < 1000)))
def ref01_Index.l0 : Nat → Int → (List Tile) → Tile → Option (Sum Int Unit)
  | 0, _, _, _ => none
  | k + 1, x2, p0, p1 => if (decide (x2 < (p0.length : Int))) = true then (if 0 ≤ x2 ∧ x2 < (p0.length : Int) then (if (((rdD p0 x2 z_Tile).N) == p1.N && (((rdD p0 x2 z_Tile).E) == p1.E && (((rdD p0 x2 z_Tile).S) == p1.S && (((rdD p0 x2 z_Tile).W) == p1.W)))) = true then (some (.inl x2)) else (ref01_Index.l0 k (w64 (x2 + 1)) p0 p1)) else none) else (some (.inr ()))
def ref01_Index (k : Nat) (p0 : List Tile) (p1 : Tile) : Option Int := (ref01_Index.l0 k 0 p0 p1).bind fun x2 => sumb x2 (fun r => some r) (fun y3 => some (-1))
def ref01_Valid.l0 : Nat → Int → (List Tile) → Option (Sum Bool Unit)
  | 0, _, _ => none
  | k + 1, x2, p0 => if (decide (x2 < (p0.length : Int))) = true then (if 0 ≤ x2 ∧ x2 < (p0.length : Int) then ((ref01_colour ((rdD p0 x2 z_Tile).N)).bind fun t3 => (if (!t3) = true then (some true) else ((ref01_colour ((rdD p0 x2 z_Tile).E)).bind fun t5 => some (!t5))).bind fun x4 => (if x4 = true then (some true) else ((ref01_colour ((rdD p0 x2 z_Tile).S)).bind fun t7 => some (!t7))).bind fun x6 => (if x6 = true then (some true) else ((ref01_colour ((rdD p0 x2 z_Tile).W)).bind fun t9 => some (!t9))).bind fun x8 => (if x8 = true then (some true) else (if 0 ≤ (0 : Int) ∧ (0 : Int) ≤ x2 ∧ x2 ≤ (p0.length : Int) then ((ref01_Index k (cut p0 (0 : Int) x2) (rdD p0 x2 z_Tile)).bind fun t11 => some (decide (t11 ≥ 0))) else none)).bind fun x10 => if x10 = true then (some (.inl false)) else (ref01_Valid.l0 k (w64 (x2 + 1)) p0)) else none) else (some (.inr ()))
def ref01_Valid (k : Nat) (p0 : List Tile) : Option Bool := if (decide ((p0.length : Int) > 1000)) = true then (some false) else ((ref01_Valid.l0 k 0 p0).bind fun x2 => sumb x2 (fun r => some r) (fun y3 => some true))
def ref06_IsRow.l0 : Nat → Int → (List Tile) → (List Int) → Option (Sum Bool Unit)
  | 0, _, _, _ => none
  | k + 1, x2, p0, p1 => if (decide (x2 < (p1.length : Int))) = true then ((if (decide ((rdD p1 x2 0) < 0)) = true then (if 0 ≤ x2 ∧ x2 < (p1.length : Int) then (some true) else none) else (if (decide ((rdD p1 x2 0) ≥ (p0.length : Int))) = true then (if 0 ≤ x2 ∧ x2 < (p1.length : Int) then (some true) else none) else (if (decide (x2 > 0)) = true then (if 0 ≤ x2 ∧ x2 < (p1.length : Int) then (if 0 ≤ w64 (x2 - 1) ∧ w64 (x2 - 1) < (p1.length : Int) then (if 0 ≤ (rdD p1 (w64 (x2 - 1)) 0) ∧ (rdD p1 (w64 (x2 - 1)) 0) < (p0.length : Int) then (if 0 ≤ (rdD p1 x2 0) ∧ (rdD p1 x2 0) < (p0.length : Int) then (some (((rdD p0 (rdD p1 (w64 (x2 - 1)) 0) z_Tile).E) != ((rdD p0 (rdD p1 x2 0) z_Tile).W))) else none) else none) else none) else none) else (if 0 ≤ x2 ∧ x2 < (p1.length : Int) then (some false) else none)))).bind fun x3 => if x3 = true then (some (.inl false)) else (ref06_IsRow.l0 k (w64 (x2 + 1)) p0 p1)) else (some (.inr ()))
def ref06_IsRow (k : Nat) (p0 : List Tile) (p1 : List Int) : Option Bool := if ((decide ((p1.length : Int) < 1)) || (decide ((p1.length : Int) > 40000))) = true then (some false) else ((ref06_IsRow.l0 k 0 p0 p1).bind fun x2 => sumb x2 (fun r => some r) (fun y3 => some true))
def tile_colour_1 (p0 : Int) : Option Bool := some ((decide (p0 < 0)) || (decide (p0 ≥ 1000)))
def slices_IndexFunc_int_int_with_tile_colour_1.l0 : Nat → Int → (List Int) → Option (Sum Int Unit)
  | 0, _, _ => none
  | k + 1, x2, p0 => if (decide (x2 < (p0.length : Int))) = true then (if 0 ≤ x2 ∧ x2 < (p0.length : Int) then ((tile_colour_1 (rdD p0 x2 0)).bind fun t3 => if t3 = true then (some (.inl x2)) else (slices_IndexFunc_int_int_with_tile_colour_1.l0 k (w64 (x2 + 1)) p0)) else none) else (some (.inr ()))
def slices_IndexFunc_int_int_with_tile_colour_1 (k : Nat) (p0 : List Int) : Option Int := (slices_IndexFunc_int_int_with_tile_colour_1.l0 k 0 p0).bind fun x2 => sumb x2 (fun r => some r) (fun y3 => some (-1))
def slices_ContainsFunc_int_int_with_tile_colour_1 (k : Nat) (p0 : List Int) : Option Bool := (slices_IndexFunc_int_int_with_tile_colour_1 k p0).bind fun t2 => some (decide (t2 ≥ 0))
def tile_colour (k : Nat) (p0 : List Int) : Option Bool := (slices_ContainsFunc_int_int_with_tile_colour_1 k p0).bind fun t2 => some (!t2)
def tile_Valid.l0 : Nat → (List (Tile × Bool)) → Int → (List Tile) → Option (Sum Bool Unit)
  | 0, _, _, _ => none
  | k + 1, l1, x2, p0 => if (decide (x2 < (p0.length : Int))) = true then (if 0 ≤ x2 ∧ x2 < (p0.length : Int) then ((if (mget (rdD p0 x2 z_Tile) false l1) = true then (some true) else ((tile_colour k [(rdD p0 x2 z_Tile).N, (rdD p0 x2 z_Tile).E, (rdD p0 x2 z_Tile).S, (rdD p0 x2 z_Tile).W]).bind fun t4 => some (!t4))).bind fun x3 => if x3 = true then (some (.inl false)) else (tile_Valid.l0 k (mput (rdD p0 x2 z_Tile) true l1) (w64 (x2 + 1)) p0)) else none) else (some (.inr ()))
def tile_Valid (k : Nat) (p0 : List Tile) : Option Bool := if (decide ((p0.length : Int) > 1000)) = true then (some false) else ((tile_Valid.l0 k ([] : List (Tile × Bool)) 0 p0).bind fun x1 => sumb x1 (fun r => some r) (fun y2 => some true))
def tile_write.l1 : Nat → (List ByteArray) → Int → (List Tile) → Int → Option (List ByteArray)
  | 0, _, _, _, _ => none
  | k + 1, l3, x4, p0, x2 => if (decide (x4 < 4)) = true then (if (x4 == 0) = true then ((itoaN ((rdD p0 x2 z_Tile).N)).bind fun t5 => if l3.length + [t5].length ≤ 100000000000 then (tile_write.l1 k (l3 ++ [t5]) (w64 (x4 + 1)) p0 x2) else none) else (if (x4 == 1) = true then ((itoaN ((rdD p0 x2 z_Tile).E)).bind fun t6 => if l3.length + [t6].length ≤ 100000000000 then (tile_write.l1 k (l3 ++ [t6]) (w64 (x4 + 1)) p0 x2) else none) else (if (x4 == 2) = true then ((itoaN ((rdD p0 x2 z_Tile).S)).bind fun t7 => if l3.length + [t7].length ≤ 100000000000 then (tile_write.l1 k (l3 ++ [t7]) (w64 (x4 + 1)) p0 x2) else none) else (if (x4 == 3) = true then ((itoaN ((rdD p0 x2 z_Tile).W)).bind fun t8 => if l3.length + [t8].length ≤ 100000000000 then (tile_write.l1 k (l3 ++ [t8]) (w64 (x4 + 1)) p0 x2) else none) else (none))))) else (some l3)
def tile_write.l0 : Nat → (List ByteArray) → Int → (List Tile) → Option (List ByteArray)
  | 0, _, _, _ => none
  | k + 1, l2, x3, p0 => if (decide (x3 < (p0.length : Int))) = true then (if 0 ≤ x3 ∧ x3 < (p0.length : Int) then ((tile_write.l1 k ([] : List ByteArray) 0 p0 x3).bind fun x4 => (joinP x4 (⟨#[46]⟩ : ByteArray)).bind fun t5 => if l2.length + [t5].length ≤ 100000000000 then (tile_write.l0 k (l2 ++ [t5]) (w64 (x3 + 1)) p0) else none) else none) else (some l2)
def tile_write (k : Nat) (p0 : List Tile) : Option ByteArray := (tile_write.l0 k ([] : List ByteArray) 0 p0).bind fun x1 => (joinP x1 (⟨#[32]⟩ : ByteArray)).bind fun t2 => some t2
def tile_Parse.l1 : Nat → Int → Int → Int → Int → Int → ByteArray → Int → Option (Sum ((List Tile) × Int) (Int × Int × Int × Int))
  | 0, _, _, _, _, _, _, _ => none
  | k + 1, x3, x4, x5, x6, x7, p0, x2 => if (decide (x7 < ((splitP (rdD (splitP p0 (⟨#[32]⟩ : ByteArray)) x2 ByteArray.empty) (⟨#[46]⟩ : ByteArray)).length : Int))) = true then (if 0 ≤ x7 ∧ x7 < ((splitP (rdD (splitP p0 (⟨#[32]⟩ : ByteArray)) x2 ByteArray.empty) (⟨#[46]⟩ : ByteArray)).length : Int) then ((atoiN (rdD (splitP (rdD (splitP p0 (⟨#[32]⟩ : ByteArray)) x2 ByteArray.empty) (⟨#[46]⟩ : ByteArray)) x7 ByteArray.empty)).bind fun t8 => if t8.2 = true then (some (.inl (([] : List Tile), 3))) else (if (x7 == 0) = true then (tile_Parse.l1 k t8.1 x4 x5 x6 (w64 (x7 + 1)) p0 x2) else (if (x7 == 1) = true then (tile_Parse.l1 k x3 t8.1 x5 x6 (w64 (x7 + 1)) p0 x2) else (if (x7 == 2) = true then (tile_Parse.l1 k x3 x4 t8.1 x6 (w64 (x7 + 1)) p0 x2) else (if (x7 == 3) = true then (tile_Parse.l1 k x3 x4 x5 t8.1 (w64 (x7 + 1)) p0 x2) else (none)))))) else none) else (some (.inr (x3, x4, x5, x6)))
def tile_Parse.l0 : Nat → (List Tile) → Int → ByteArray → Option (Sum ((List Tile) × Int) (List Tile))
  | 0, _, _, _ => none
  | k + 1, l2, x3, p0 => if (decide (x3 < ((splitP p0 (⟨#[32]⟩ : ByteArray)).length : Int))) = true then (if 0 ≤ x3 ∧ x3 < ((splitP p0 (⟨#[32]⟩ : ByteArray)).length : Int) then (if (rdD (splitP p0 (⟨#[32]⟩ : ByteArray)) x3 ByteArray.empty).size < 4294967281 ∧ 1 ≤ (⟨#[46]⟩ : ByteArray).size then (if ((((splitP (rdD (splitP p0 (⟨#[32]⟩ : ByteArray)) x3 ByteArray.empty) (⟨#[46]⟩ : ByteArray)).length : Int) != 4) || (decide ((l2.length : Int) > 1000))) = true then (some (.inl (([] : List Tile), 3))) else ((tile_Parse.l1 k 0 0 0 0 0 p0 x3).bind fun x4 => sumb x4 (fun r => some (.inl r)) (fun y5 => if l2.length + [(Tile.mk y5.1 y5.2.1 y5.2.2.1 y5.2.2.2)].length ≤ 100000000000 then (tile_Parse.l0 k (l2 ++ [(Tile.mk y5.1 y5.2.1 y5.2.2.1 y5.2.2.2)]) (w64 (x3 + 1)) p0) else none))) else none) else none) else (some (.inr l2))
def tile_Parse (k : Nat) (p0 : ByteArray) : Option ((List Tile) × Int) := if (strEq p0 (⟨#[]⟩ : ByteArray)) = true then (some (([] : List Tile), 0)) else (if (decide ((p0.size : Int) > 16000)) = true then (some (([] : List Tile), 3)) else (if p0.size < 4294967281 ∧ 1 ≤ (⟨#[32]⟩ : ByteArray).size then ((tile_Parse.l0 k ([] : List Tile) 0 p0).bind fun x1 => sumb x1 (fun r => some r) (fun y2 => (tile_Valid k y2).bind fun t3 => (if (!t3) = true then (some true) else ((tile_write k y2).bind fun t5 => some (!(strEq t5 p0)))).bind fun x4 => if x4 = true then (some (([] : List Tile), 3)) else (some (y2, 0)))) else none))
def weight_needed.l0 : Nat → Int → Int → Int → (List Tile) → Option (Int × Int)
  | 0, _, _, _, _ => none
  | k + 1, x1, x2, x3, p0 => if (decide (x3 < (p0.length : Int))) = true then (if 0 ≤ x3 ∧ x3 < (p0.length : Int) then (weight_needed.l0 k (maxI (maxI x1 (w64 (((rdD p0 x3 z_Tile).N) + 1))) (w64 (((rdD p0 x3 z_Tile).S) + 1))) (maxI (maxI x2 (w64 (((rdD p0 x3 z_Tile).E) + 1))) (w64 (((rdD p0 x3 z_Tile).W) + 1))) (w64 (x3 + 1)) p0) else none) else (some (x1, x2))
def weight_needed (k : Nat) (p0 : List Tile) : Option (Int × Int) := (weight_needed.l0 k 0 0 0 p0).bind fun x1 => some (x1.1, x1.2)
def weight_fraction_valid (p0 : Fraction) : Option Bool := some ((((decide (p0.Den ≥ 1)) && (decide (p0.Den ≤ 1000000))) && (decide (p0.Num ≥ (-1000000)))) && (decide (p0.Num ≤ 1000000)))
def weight_all_1_of_weight_fraction_valid (p0 : Frac) : Option Bool := (weight_fraction_valid (Fraction.mk p0.Num p0.Den)).bind fun t2 => some (!t2)
def slices_IndexFunc_api_Frac_api_Frac_with_weight_all_1_of_weight_fraction_valid.l0 : Nat → Int → (List Frac) → Option (Sum Int Unit)
  | 0, _, _ => none
  | k + 1, x2, p0 => if (decide (x2 < (p0.length : Int))) = true then (if 0 ≤ x2 ∧ x2 < (p0.length : Int) then ((weight_all_1_of_weight_fraction_valid (rdD p0 x2 z_Frac)).bind fun t3 => if t3 = true then (some (.inl x2)) else (slices_IndexFunc_api_Frac_api_Frac_with_weight_all_1_of_weight_fraction_valid.l0 k (w64 (x2 + 1)) p0)) else none) else (some (.inr ()))
def slices_IndexFunc_api_Frac_api_Frac_with_weight_all_1_of_weight_fraction_valid (k : Nat) (p0 : List Frac) : Option Int := (slices_IndexFunc_api_Frac_api_Frac_with_weight_all_1_of_weight_fraction_valid.l0 k 0 p0).bind fun x2 => sumb x2 (fun r => some r) (fun y3 => some (-1))
def slices_ContainsFunc_api_Frac_api_Frac_with_weight_all_1_of_weight_fraction_valid (k : Nat) (p0 : List Frac) : Option Bool := (slices_IndexFunc_api_Frac_api_Frac_with_weight_all_1_of_weight_fraction_valid k p0).bind fun t2 => some (decide (t2 ≥ 0))
def weight_all_with_weight_fraction_valid (k : Nat) (p0 : List Frac) : Option Bool := (slices_ContainsFunc_api_Frac_api_Frac_with_weight_all_1_of_weight_fraction_valid k p0).bind fun t2 => some (!t2)
def weight_Valid_1 (p0 : Fraction) : Option Bool := some (decide (p0.Num ≥ 0))
def weight_all_1_of_weight_Valid_1 (p0 : Frac) : Option Bool := (weight_Valid_1 (Fraction.mk p0.Num p0.Den)).bind fun t2 => some (!t2)
def slices_IndexFunc_api_Frac_api_Frac_with_weight_all_1_of_weight_Valid_1.l0 : Nat → Int → (List Frac) → Option (Sum Int Unit)
  | 0, _, _ => none
  | k + 1, x2, p0 => if (decide (x2 < (p0.length : Int))) = true then (if 0 ≤ x2 ∧ x2 < (p0.length : Int) then ((weight_all_1_of_weight_Valid_1 (rdD p0 x2 z_Frac)).bind fun t3 => if t3 = true then (some (.inl x2)) else (slices_IndexFunc_api_Frac_api_Frac_with_weight_all_1_of_weight_Valid_1.l0 k (w64 (x2 + 1)) p0)) else none) else (some (.inr ()))
def slices_IndexFunc_api_Frac_api_Frac_with_weight_all_1_of_weight_Valid_1 (k : Nat) (p0 : List Frac) : Option Int := (slices_IndexFunc_api_Frac_api_Frac_with_weight_all_1_of_weight_Valid_1.l0 k 0 p0).bind fun x2 => sumb x2 (fun r => some r) (fun y3 => some (-1))
def slices_ContainsFunc_api_Frac_api_Frac_with_weight_all_1_of_weight_Valid_1 (k : Nat) (p0 : List Frac) : Option Bool := (slices_IndexFunc_api_Frac_api_Frac_with_weight_all_1_of_weight_Valid_1 k p0).bind fun t2 => some (decide (t2 ≥ 0))
def weight_all_with_weight_Valid_1 (k : Nat) (p0 : List Frac) : Option Bool := (slices_ContainsFunc_api_Frac_api_Frac_with_weight_all_1_of_weight_Valid_1 k p0).bind fun t2 => some (!t2)
def weight_Valid_2 (p0 : Fraction) : Option Bool := some (decide (p0.Num > 0))
def weight_all_1_of_weight_Valid_2 (p0 : Frac) : Option Bool := (weight_Valid_2 (Fraction.mk p0.Num p0.Den)).bind fun t3 => some (!t3)
def slices_IndexFunc_api_Frac_api_Frac_with_weight_all_1_of_weight_Valid_2.l0 : Nat → Int → (List Frac) → Option (Sum Int Unit)
  | 0, _, _ => none
  | k + 1, x2, p0 => if (decide (x2 < (p0.length : Int))) = true then (if 0 ≤ x2 ∧ x2 < (p0.length : Int) then ((weight_all_1_of_weight_Valid_2 (rdD p0 x2 z_Frac)).bind fun t3 => if t3 = true then (some (.inl x2)) else (slices_IndexFunc_api_Frac_api_Frac_with_weight_all_1_of_weight_Valid_2.l0 k (w64 (x2 + 1)) p0)) else none) else (some (.inr ()))
def slices_IndexFunc_api_Frac_api_Frac_with_weight_all_1_of_weight_Valid_2 (k : Nat) (p0 : List Frac) : Option Int := (slices_IndexFunc_api_Frac_api_Frac_with_weight_all_1_of_weight_Valid_2.l0 k 0 p0).bind fun x2 => sumb x2 (fun r => some r) (fun y3 => some (-1))
def slices_ContainsFunc_api_Frac_api_Frac_with_weight_all_1_of_weight_Valid_2 (k : Nat) (p0 : List Frac) : Option Bool := (slices_IndexFunc_api_Frac_api_Frac_with_weight_all_1_of_weight_Valid_2 k p0).bind fun t2 => some (decide (t2 ≥ 0))
def weight_all_with_weight_Valid_2 (k : Nat) (p0 : List Frac) : Option Bool := (slices_ContainsFunc_api_Frac_api_Frac_with_weight_all_1_of_weight_Valid_2 k p0).bind fun t3 => some (!t3)
def weight_prime.l0 : Nat → Int → Int → Option (Sum Bool Unit)
  | 0, _, _ => none
  | k + 1, x1, p0 => if (decide (w64 (x1 * x1) ≤ p0)) = true then (if x1 ≠ 0 then (if ((Int.tmod p0 x1) == 0) = true then (some (.inl false)) else (weight_prime.l0 k (w64 (x1 + 1)) p0)) else none) else (some (.inr ()))
def weight_prime (k : Nat) (p0 : Int) : Option Bool := (weight_prime.l0 k 2 p0).bind fun x1 => sumb x1 (fun r => some r) (fun y2 => some (decide (p0 ≥ 2)))
def slices_Index_int_int.l0 : Nat → Int → (List Int) → Int → Option (Sum Int Unit)
  | 0, _, _, _ => none
  | k + 1, x2, p0, p1 => if (decide (x2 < (p0.length : Int))) = true then (if 0 ≤ x2 ∧ x2 < (p0.length : Int) then (if (p1 == (rdD p0 x2 0)) = true then (some (.inl x2)) else (slices_Index_int_int.l0 k (w64 (x2 + 1)) p0 p1)) else none) else (some (.inr ()))
def slices_Index_int_int (k : Nat) (p0 : List Int) (p1 : Int) : Option Int := (slices_Index_int_int.l0 k 0 p0 p1).bind fun x2 => sumb x2 (fun r => some r) (fun y3 => some (-1))
def slices_Contains_int_int (k : Nat) (p0 : List Int) (p1 : Int) : Option Bool := (slices_Index_int_int k p0 p1).bind fun t2 => some (decide (t2 ≥ 0))
def weight_Valid.l0 : Nat → Int → Weights → Option (Sum Bool Unit)
  | 0, _, _ => none
  | k + 1, x2, p1 => if (decide (x2 < (p1.Primes.length : Int))) = true then (if 0 ≤ x2 ∧ x2 < (p1.Primes.length : Int) then ((if ((decide ((rdD p1.Primes x2 0) < 2)) || (decide ((rdD p1.Primes x2 0) > 1000000))) = true then (some true) else ((weight_prime k (rdD p1.Primes x2 0)).bind fun t4 => some (!t4))).bind fun x3 => (if x3 = true then (some true) else (if 0 ≤ (0 : Int) ∧ (0 : Int) ≤ x2 ∧ x2 ≤ (p1.Primes.length : Int) then ((slices_Contains_int_int k (cut p1.Primes (0 : Int) x2) (rdD p1.Primes x2 0)).bind fun t6 => some t6) else none)).bind fun x5 => (if x5 = true then (some true) else (if 0 ≤ x2 ∧ x2 < (p1.Logs.length : Int) then (some (decide ((rdD p1.Logs x2 0) < (-1000)))) else none)).bind fun b7 => (if b7 = true then (some true) else (if 0 ≤ x2 ∧ x2 < (p1.Logs.length : Int) then (some (decide ((rdD p1.Logs x2 0) > 1000))) else none)).bind fun b8 => if b8 = true then (some (.inl false)) else (weight_Valid.l0 k (w64 (x2 + 1)) p1)) else none) else (some (.inr ()))
def weight_Valid (k : Nat) (p0 : List Tile) (p1 : Weights) : Option Bool := (tile_Valid k p0).bind fun t3 => if (!t3) = true then (some false) else ((weight_needed k p0).bind fun t4 => if ((((((p1.Values.length : Int) != t4.1) || ((p1.Carries.length : Int) != t4.2)) || ((p1.Factors.length : Int) != (p0.length : Int))) || (decide ((p1.Primes.length : Int) > 12))) || ((p1.Logs.length : Int) != (p1.Primes.length : Int))) = true then (some false) else ((weight_all_with_weight_fraction_valid k p1.Values).bind fun t5 => (if (!t5) = true then (some true) else ((weight_all_with_weight_fraction_valid k p1.Carries).bind fun t7 => some (!t7))).bind fun x6 => (if x6 = true then (some true) else ((weight_all_with_weight_fraction_valid k p1.Factors).bind fun t9 => some (!t9))).bind fun x8 => if x8 = true then (some false) else ((weight_all_with_weight_Valid_1 k p1.Values).bind fun t10 => (if (!t10) = true then (some true) else ((weight_all_with_weight_Valid_2 k p1.Factors).bind fun t12 => some (!t12))).bind fun x11 => if x11 = true then (some false) else ((weight_Valid.l0 k 0 p1).bind fun x13 => sumb x13 (fun r => some r) (fun y14 => some true)))))
def bits_Mul64 (p0 : Int) (p1 : Int) : Option (Int × Int) := some (IntKind.wrap .u64 ((IntKind.wrap .u64 ((IntKind.wrap .u64 ((shrV p0 32) * (shrV p1 32))) + (shrV (IntKind.wrap .u64 ((IntKind.wrap .u64 ((shrV p0 32) * (andV p1 4294967295))) + (shrV (IntKind.wrap .u64 ((andV p0 4294967295) * (andV p1 4294967295))) 32))) 32))) + (shrV (IntKind.wrap .u64 ((andV (IntKind.wrap .u64 ((IntKind.wrap .u64 ((shrV p0 32) * (andV p1 4294967295))) + (shrV (IntKind.wrap .u64 ((andV p0 4294967295) * (andV p1 4294967295))) 32))) 4294967295) + (IntKind.wrap .u64 ((andV p0 4294967295) * (shrV p1 32))))) 32)), IntKind.wrap .u64 (p0 * p1))
def bits_Len64 (p0 : Int) : Option Int := (if (decide (p0 ≥ 4294967296)) = true then (some (shrV p0 32, 32)) else (some (p0, 0))).bind fun x1 => (if (decide (x1.1 ≥ 65536)) = true then (some (shrV x1.1 16, w64 (x1.2 + 16))) else (some (x1.1, x1.2))).bind fun x2 => (if (decide (x2.1 ≥ 256)) = true then (some (shrV x2.1 8, w64 (x2.2 + 8))) else (some (x2.1, x2.2))).bind fun x3 => if 0 ≤ IntKind.wrap .u8 (x3.1) ∧ IntKind.wrap .u8 (x3.1) < ((⟨#[0, 1, 2, 2, 3, 3, 3, 3, 4, 4, 4, 4, 4, 4, 4, 4, 5, 5, 5, 5, 5, 5, 5, 5, 5, 5, 5, 5, 5, 5, 5, 5, 6, 6, 6, 6, 6, 6, 6, 6, 6, 6, 6, 6, 6, 6, 6, 6, 6, 6, 6, 6, 6, 6, 6, 6, 6, 6, 6, 6, 6, 6, 6, 6, 7, 7, 7, 7, 7, 7, 7, 7, 7, 7, 7, 7, 7, 7, 7, 7, 7, 7, 7, 7, 7, 7, 7, 7, 7, 7, 7, 7, 7, 7, 7, 7, 7, 7, 7, 7, 7, 7, 7, 7, 7, 7, 7, 7, 7, 7, 7, 7, 7, 7, 7, 7, 7, 7, 7, 7, 7, 7, 7, 7, 7, 7, 7, 7, 8, 8, 8, 8, 8, 8, 8, 8, 8, 8, 8, 8, 8, 8, 8, 8, 8, 8, 8, 8, 8, 8, 8, 8, 8, 8, 8, 8, 8, 8, 8, 8, 8, 8, 8, 8, 8, 8, 8, 8, 8, 8, 8, 8, 8, 8, 8, 8, 8, 8, 8, 8, 8, 8, 8, 8, 8, 8, 8, 8, 8, 8, 8, 8, 8, 8, 8, 8, 8, 8, 8, 8, 8, 8, 8, 8, 8, 8, 8, 8, 8, 8, 8, 8, 8, 8, 8, 8, 8, 8, 8, 8, 8, 8, 8, 8, 8, 8, 8, 8, 8, 8, 8, 8, 8, 8, 8, 8, 8, 8, 8, 8, 8, 8, 8, 8, 8, 8, 8, 8, 8, 8, 8, 8, 8, 8, 8, 8]⟩ : ByteArray).size : Int) then (some (w64 (x3.2 + (w64 (strAt (⟨#[0, 1, 2, 2, 3, 3, 3, 3, 4, 4, 4, 4, 4, 4, 4, 4, 5, 5, 5, 5, 5, 5, 5, 5, 5, 5, 5, 5, 5, 5, 5, 5, 6, 6, 6, 6, 6, 6, 6, 6, 6, 6, 6, 6, 6, 6, 6, 6, 6, 6, 6, 6, 6, 6, 6, 6, 6, 6, 6, 6, 6, 6, 6, 6, 7, 7, 7, 7, 7, 7, 7, 7, 7, 7, 7, 7, 7, 7, 7, 7, 7, 7, 7, 7, 7, 7, 7, 7, 7, 7, 7, 7, 7, 7, 7, 7, 7, 7, 7, 7, 7, 7, 7, 7, 7, 7, 7, 7, 7, 7, 7, 7, 7, 7, 7, 7, 7, 7, 7, 7, 7, 7, 7, 7, 7, 7, 7, 7, 8, 8, 8, 8, 8, 8, 8, 8, 8, 8, 8, 8, 8, 8, 8, 8, 8, 8, 8, 8, 8, 8, 8, 8, 8, 8, 8, 8, 8, 8, 8, 8, 8, 8, 8, 8, 8, 8, 8, 8, 8, 8, 8, 8, 8, 8, 8, 8, 8, 8, 8, 8, 8, 8, 8, 8, 8, 8, 8, 8, 8, 8, 8, 8, 8, 8, 8, 8, 8, 8, 8, 8, 8, 8, 8, 8, 8, 8, 8, 8, 8, 8, 8, 8, 8, 8, 8, 8, 8, 8, 8, 8, 8, 8, 8, 8, 8, 8, 8, 8, 8, 8, 8, 8, 8, 8, 8, 8, 8, 8, 8, 8, 8, 8, 8, 8, 8, 8, 8, 8, 8, 8, 8, 8, 8, 8, 8, 8]⟩ : ByteArray) (IntKind.wrap .u8 (x3.1))))))) else none
def bits_LeadingZeros64 (p0 : Int) : Option Int := (bits_Len64 p0).bind fun t1 => some (w64 (64 - t1))
def bits_Div64.l0 : Nat → Int → Int → Int → Int → Int → Option Int
  | 0, _, _, _, _, _ => none
  | k + 1, x4, x5, p1, p2, t3 => if ((decide (x4 ≥ 4294967296)) || (decide (IntKind.wrap .u64 (x4 * (andV (shlV p2 (IntKind.wrap .u64 (t3))) 4294967295)) > IntKind.wrap .u64 ((IntKind.wrap .u64 (4294967296 * x5)) + (shrV (shlV p1 (IntKind.wrap .u64 (t3))) 32))))) = true then (if (decide (IntKind.wrap .u64 (x5 + (shrV (shlV p2 (IntKind.wrap .u64 (t3))) 32)) ≥ 4294967296)) = true then (some (IntKind.wrap .u64 (x4 - 1))) else (bits_Div64.l0 k (IntKind.wrap .u64 (x4 - 1)) (IntKind.wrap .u64 (x5 + (shrV (shlV p2 (IntKind.wrap .u64 (t3))) 32))) p1 p2 t3)) else (some x4)
def bits_Div64.l1 : Nat → Int → Int → Int → Int → Int → Option Int
  | 0, _, _, _, _, _ => none
  | k + 1, x4, x5, p1, p2, t3 => if ((decide (x5 ≥ 4294967296)) || (decide (IntKind.wrap .u64 (x5 * (andV (shlV p2 (IntKind.wrap .u64 (t3))) 4294967295)) > IntKind.wrap .u64 ((IntKind.wrap .u64 (4294967296 * x4)) + (andV (shlV p1 (IntKind.wrap .u64 (t3))) 4294967295))))) = true then (if (decide (IntKind.wrap .u64 (x4 + (shrV (shlV p2 (IntKind.wrap .u64 (t3))) 32)) ≥ 4294967296)) = true then (some (IntKind.wrap .u64 (x5 - 1))) else (bits_Div64.l1 k (IntKind.wrap .u64 (x4 + (shrV (shlV p2 (IntKind.wrap .u64 (t3))) 32))) (IntKind.wrap .u64 (x5 - 1)) p1 p2 t3)) else (some x5)
def bits_Div64 (k : Nat) (p0 : Int) (p1 : Int) (p2 : Int) : Option (Int × Int) := if (p2 == 0) = true then (none) else (if (decide (p2 ≤ p0)) = true then (none) else (if (p0 == 0) = true then (if p2 ≠ 0 then (some (IntKind.wrap .u64 (Int.tdiv p1 p2), Int.tmod p1 p2)) else none) else ((bits_LeadingZeros64 p2).bind fun t3 => if 0 ≤ (IntKind.wrap .u64 (t3)) ∧ (IntKind.wrap .u64 (t3)) < 64 then (if 0 ≤ (IntKind.wrap .u64 (64 - (IntKind.wrap .u64 (t3)))) ∧ (IntKind.wrap .u64 (64 - (IntKind.wrap .u64 (t3)))) < 64 then (if (shrV (shlV p2 (IntKind.wrap .u64 (t3))) 32) ≠ 0 then ((bits_Div64.l0 k (IntKind.wrap .u64 (Int.tdiv (orV (shlV p0 (IntKind.wrap .u64 (t3))) (shrV p1 (IntKind.wrap .u64 (64 - (IntKind.wrap .u64 (t3)))))) (shrV (shlV p2 (IntKind.wrap .u64 (t3))) 32))) (IntKind.wrap .u64 ((orV (shlV p0 (IntKind.wrap .u64 (t3))) (shrV p1 (IntKind.wrap .u64 (64 - (IntKind.wrap .u64 (t3)))))) - (IntKind.wrap .u64 ((IntKind.wrap .u64 (Int.tdiv (orV (shlV p0 (IntKind.wrap .u64 (t3))) (shrV p1 (IntKind.wrap .u64 (64 - (IntKind.wrap .u64 (t3)))))) (shrV (shlV p2 (IntKind.wrap .u64 (t3))) 32))) * (shrV (shlV p2 (IntKind.wrap .u64 (t3))) 32))))) p1 p2 t3).bind fun x4 => (bits_Div64.l1 k (IntKind.wrap .u64 ((IntKind.wrap .u64 ((IntKind.wrap .u64 ((IntKind.wrap .u64 ((orV (shlV p0 (IntKind.wrap .u64 (t3))) (shrV p1 (IntKind.wrap .u64 (64 - (IntKind.wrap .u64 (t3)))))) * 4294967296)) + (shrV (shlV p1 (IntKind.wrap .u64 (t3))) 32))) - (IntKind.wrap .u64 (x4 * (shlV p2 (IntKind.wrap .u64 (t3))))))) - (IntKind.wrap .u64 ((IntKind.wrap .u64 (Int.tdiv (IntKind.wrap .u64 ((IntKind.wrap .u64 ((IntKind.wrap .u64 ((orV (shlV p0 (IntKind.wrap .u64 (t3))) (shrV p1 (IntKind.wrap .u64 (64 - (IntKind.wrap .u64 (t3)))))) * 4294967296)) + (shrV (shlV p1 (IntKind.wrap .u64 (t3))) 32))) - (IntKind.wrap .u64 (x4 * (shlV p2 (IntKind.wrap .u64 (t3))))))) (shrV (shlV p2 (IntKind.wrap .u64 (t3))) 32))) * (shrV (shlV p2 (IntKind.wrap .u64 (t3))) 32))))) (IntKind.wrap .u64 (Int.tdiv (IntKind.wrap .u64 ((IntKind.wrap .u64 ((IntKind.wrap .u64 ((orV (shlV p0 (IntKind.wrap .u64 (t3))) (shrV p1 (IntKind.wrap .u64 (64 - (IntKind.wrap .u64 (t3)))))) * 4294967296)) + (shrV (shlV p1 (IntKind.wrap .u64 (t3))) 32))) - (IntKind.wrap .u64 (x4 * (shlV p2 (IntKind.wrap .u64 (t3))))))) (shrV (shlV p2 (IntKind.wrap .u64 (t3))) 32))) p1 p2 t3).bind fun x5 => some (IntKind.wrap .u64 ((IntKind.wrap .u64 (x4 * 4294967296)) + x5), shrV (IntKind.wrap .u64 ((IntKind.wrap .u64 ((IntKind.wrap .u64 ((IntKind.wrap .u64 ((IntKind.wrap .u64 ((IntKind.wrap .u64 ((orV (shlV p0 (IntKind.wrap .u64 (t3))) (shrV p1 (IntKind.wrap .u64 (64 - (IntKind.wrap .u64 (t3)))))) * 4294967296)) + (shrV (shlV p1 (IntKind.wrap .u64 (t3))) 32))) - (IntKind.wrap .u64 (x4 * (shlV p2 (IntKind.wrap .u64 (t3))))))) * 4294967296)) + (andV (shlV p1 (IntKind.wrap .u64 (t3))) 4294967295))) - (IntKind.wrap .u64 (x5 * (shlV p2 (IntKind.wrap .u64 (t3))))))) (IntKind.wrap .u64 (t3)))) else none) else none) else none)))
def weight_product.l0 : Nat → Int → Int → Int → Int → (List Int) → Option (Int × Int)
  | 0, _, _, _, _, _ => none
  | k + 1, x1, x3, x4, p0, p2 => if (decide (x4 < (p2.length : Int))) = true then (if 0 ≤ x4 ∧ x4 < (p2.length : Int) then (if p0 ≠ 0 then ((if (decide ((rdD p2 x4 0) < 0)) = true then (some (w64 (0 - x1))) else (some x1)).bind fun x5 => (bits_Mul64 x3 (Int.tmod (IntKind.wrap .u64 (maxI (rdD p2 x4 0) (w64 (0 - (rdD p2 x4 0))))) p0)).bind fun t6 => (bits_Div64 k (Int.tmod t6.1 p0) t6.2 p0).bind fun t7 => weight_product.l0 k x5 t7.2 (w64 (x4 + 1)) p0 p2) else none) else none) else (some (x1, x3))
def weight_product (k : Nat) (p0 : Int) (p1 : Int) (p2 : List Int) : Option Int := (weight_product.l0 k p1 1 0 p0 p2).bind fun x3 => (if ((decide (x3.1 < 0)) && (x3.2 != 0)) = true then (some (IntKind.wrap .u64 (p0 - x3.2))) else (some x3.2)).bind fun x4 => some x4
def weight_balanced.l1 : Nat → Int → Int → Int → Int → Int → Int → Int → Option Int
  | 0, _, _, _, _, _, _, _ => none
  | k + 1, x7, x8, x2, t3, t4, t5, t6 => if (decide (x8 < ([t3, t4, t5, t6].length : Int))) = true then (if 0 ≤ x8 ∧ x8 < ([t3, t4, t5, t6].length : Int) then (if (getI [2305843009213693951, 2305843009213693921, 2305843009213693907] x2) ≠ 0 then (weight_balanced.l1 k (Int.tmod (IntKind.wrap .u64 (x7 + (rdD [t3, t4, t5, t6] x8 0))) (getI [2305843009213693951, 2305843009213693921, 2305843009213693907] x2)) (w64 (x8 + 1)) x2 t3 t4 t5 t6) else none) else none) else (some x7)
def weight_balanced.l0 : Nat → Int → Frac → Frac → Frac → Frac → Frac → Option (Sum Bool Unit)
  | 0, _, _, _, _, _, _ => none
  | k + 1, x5, p0, p1, p2, p3, p4 => if (decide (x5 < 3)) = true then (if 0 ≤ x5 ∧ x5 < (3 : Int) then ((weight_product k (getI [2305843009213693951, 2305843009213693921, 2305843009213693907] x5) 1 [p0.Num, p1.Num, p2.Den, p3.Den, p4.Den]).bind fun t6 => (weight_product k (getI [2305843009213693951, 2305843009213693921, 2305843009213693907] x5) 1 [p2.Num, p0.Den, p1.Den, p3.Den, p4.Den]).bind fun t7 => (weight_product k (getI [2305843009213693951, 2305843009213693921, 2305843009213693907] x5) (-1) [p3.Num, p0.Den, p1.Den, p2.Den, p4.Den]).bind fun t8 => (weight_product k (getI [2305843009213693951, 2305843009213693921, 2305843009213693907] x5) (-1) [p4.Num, p0.Den, p1.Den, p2.Den, p3.Den]).bind fun t9 => (weight_balanced.l1 k 0 0 x5 t6 t7 t8 t9).bind fun x10 => if (x10 != 0) = true then (some (.inl false)) else (weight_balanced.l0 k (w64 (x5 + 1)) p0 p1 p2 p3 p4)) else none) else (some (.inr ()))
def weight_balanced (k : Nat) (p0 : Frac) (p1 : Frac) (p2 : Frac) (p3 : Frac) (p4 : Frac) : Option Bool := (weight_balanced.l0 k 0 p0 p1 p2 p3 p4).bind fun x5 => sumb x5 (fun r => some r) (fun y6 => some true)
def weight_Check_1.l0 : Nat → Int → (List Tile) → Weights → Option (Sum Bool Unit)
  | 0, _, _, _ => none
  | k + 1, x2, f0, f1 => if (decide (x2 < (f0.length : Int))) = true then (if 0 ≤ x2 ∧ x2 < (f0.length : Int) then (if 0 ≤ x2 ∧ x2 < (f1.Factors.length : Int) then (if 0 ≤ (rdD f0 x2 z_Tile).S ∧ (rdD f0 x2 z_Tile).S < (f1.Values.length : Int) then (if 0 ≤ (rdD f0 x2 z_Tile).W ∧ (rdD f0 x2 z_Tile).W < (f1.Carries.length : Int) then (if 0 ≤ (rdD f0 x2 z_Tile).N ∧ (rdD f0 x2 z_Tile).N < (f1.Values.length : Int) then (if 0 ≤ (rdD f0 x2 z_Tile).E ∧ (rdD f0 x2 z_Tile).E < (f1.Carries.length : Int) then ((weight_balanced k (rdD f1.Factors x2 z_Frac) (rdD f1.Values ((rdD f0 x2 z_Tile).S) z_Frac) (rdD f1.Carries ((rdD f0 x2 z_Tile).W) z_Frac) (rdD f1.Values ((rdD f0 x2 z_Tile).N) z_Frac) (rdD f1.Carries ((rdD f0 x2 z_Tile).E) z_Frac)).bind fun t3 => if (!t3) = true then (some (.inl false)) else (weight_Check_1.l0 k (w64 (x2 + 1)) f0 f1)) else none) else none) else none) else none) else none) else none) else (some (.inr ()))
def weight_Check_1 (k : Nat) (f0 : List Tile) (f1 : Weights) : Option Bool := (weight_Check_1.l0 k 0 f0 f1).bind fun x2 => sumb x2 (fun r => some r) (fun y3 => some true)
def weight_equal (p0 : Frac) (p1 : Frac) : Option Bool := some ((w64 (p0.Num * p1.Den)) == (w64 (p1.Num * p0.Den)))
def weight_Check_2.l1 : Nat → Int → (List Tile) → Int → Option (Sum Bool Unit)
  | 0, _, _, _ => none
  | k + 1, x4, f0, x3 => if (decide (x4 < (f0.length : Int))) = true then (if 0 ≤ x4 ∧ x4 < (f0.length : Int) then (if (((rdD f0 x4 z_Tile).E) == ((rdD f0 x3 z_Tile).W)) = true then (some (.inl false)) else (weight_Check_2.l1 k (w64 (x4 + 1)) f0 x3)) else none) else (some (.inr ()))
def weight_Check_2.l0 : Nat → (List (Int × Frac)) → Int → (List Tile) → Weights → Option (Sum Bool (List (Int × Frac)))
  | 0, _, _, _, _ => none
  | k + 1, l3, x4, f0, f1 => if (decide (x4 < (f0.length : Int))) = true then (if 0 ≤ x4 ∧ x4 < (f0.length : Int) then ((if (mhas ((rdD f0 x4 z_Tile).W) l3) = true then (if 0 ≤ x4 ∧ x4 < (f1.Factors.length : Int) then ((weight_equal (mget ((rdD f0 x4 z_Tile).W) z_Frac l3) (rdD f1.Factors x4 z_Frac)).bind fun t6 => some (!t6)) else none) else (some false)).bind fun x5 => (if x5 = true then ((weight_Check_2.l1 k 0 f0 x4).bind fun x8 => sumb x8 (fun r => some (.inl r)) (fun y9 => some (.inr ()))) else (some (.inr ()))).bind fun x7 => sumb x7 (fun r => some (.inl r)) (fun y10 => if 0 ≤ x4 ∧ x4 < (f1.Factors.length : Int) then (weight_Check_2.l0 k (mput ((rdD f0 x4 z_Tile).W) (rdD f1.Factors x4 z_Frac) l3) (w64 (x4 + 1)) f0 f1) else none)) else none) else (some (.inr l3))
def weight_Check_2.l2 : Nat → Int → (List Tile) → Weights → (List (Int × Frac)) → Option (Sum Bool Unit)
  | 0, _, _, _, _ => none
  | k + 1, x4, f0, f1, y3 => if (decide (x4 < (f0.length : Int))) = true then (if 0 ≤ x4 ∧ x4 < (f0.length : Int) then ((if (mhas ((rdD f0 x4 z_Tile).E) y3) = true then (if 0 ≤ x4 ∧ x4 < (f1.Factors.length : Int) then ((weight_equal (mget ((rdD f0 x4 z_Tile).E) z_Frac y3) (rdD f1.Factors x4 z_Frac)).bind fun t6 => some (!t6)) else none) else (some false)).bind fun x5 => if x5 = true then (some (.inl false)) else (weight_Check_2.l2 k (w64 (x4 + 1)) f0 f1 y3)) else none) else (some (.inr ()))
def weight_Check_2 (k : Nat) (f0 : List Tile) (f1 : Weights) : Option Bool := (weight_Check_2.l0 k ([] : List (Int × Frac)) 0 f0 f1).bind fun x3 => sumb x3 (fun r => some r) (fun y4 => (weight_Check_2.l2 k 0 f0 f1 y4).bind fun x5 => sumb x5 (fun r => some r) (fun y6 => some true))
def slices_Clone_api_Tile_api_Tile_nil (p0 : List Tile) : Option (List Tile) := some ([] : List Tile)
def slices_Clone_api_Tile_api_Tile_some (p0 : List Tile) : Option (List Tile) := if ([] : List Tile).length + p0.length ≤ 100000000000 then (some (([] : List Tile) ++ p0)) else none
def slices_Clone_api_Tile_api_Tile (p0 : List Tile) : Option (List Tile) := slices_Clone_api_Tile_api_Tile_some p0
def weight_acyclic_1 (p0 : Tile) (f0 : List (Int × Bool)) : Option Bool := some (!(mget p0.E false f0))
def slices_IndexFunc_api_Tile_api_Tile_with_weight_acyclic_1.l0 : Nat → Int → (List Tile) → (List (Int × Bool)) → Option (Sum Int Unit)
  | 0, _, _, _ => none
  | k + 1, x2, p0, p1_0 => if (decide (x2 < (p0.length : Int))) = true then (if 0 ≤ x2 ∧ x2 < (p0.length : Int) then ((weight_acyclic_1 (rdD p0 x2 z_Tile) p1_0).bind fun t3 => if t3 = true then (some (.inl x2)) else (slices_IndexFunc_api_Tile_api_Tile_with_weight_acyclic_1.l0 k (w64 (x2 + 1)) p0 p1_0)) else none) else (some (.inr ()))
def slices_IndexFunc_api_Tile_api_Tile_with_weight_acyclic_1 (k : Nat) (p0 : List Tile) (p1_0 : List (Int × Bool)) : Option Int := (slices_IndexFunc_api_Tile_api_Tile_with_weight_acyclic_1.l0 k 0 p0 p1_0).bind fun x2 => sumb x2 (fun r => some r) (fun y3 => some (-1))
def slices_DeleteFunc_api_Tile_api_Tile_with_weight_acyclic_1.l0 : Nat → (List Tile) → Int → Int → (List (Int × Bool)) → Option ((List Tile) × Int)
  | 0, _, _, _, _ => none
  | k + 1, l2, x3, x4, p1_0 => if (decide (x4 < (l2.length : Int))) = true then (if 0 ≤ x4 ∧ x4 < (l2.length : Int) then ((weight_acyclic_1 (rdD l2 x4 z_Tile) p1_0).bind fun t5 => (if (!t5) = true then (if 0 ≤ x3 ∧ x3 < (l2.length : Int) then (some (l2.set (x3).toNat (rdD l2 x4 z_Tile), w64 (x3 + 1))) else none) else (some (l2, x3))).bind fun x6 => slices_DeleteFunc_api_Tile_api_Tile_with_weight_acyclic_1.l0 k x6.1 x6.2 (w64 (x4 + 1)) p1_0) else none) else (some (l2, x3))
def slices_DeleteFunc_api_Tile_api_Tile_with_weight_acyclic_1 (k : Nat) (p0 : List Tile) (p1_0 : List (Int × Bool)) : Option (List Tile) := (slices_IndexFunc_api_Tile_api_Tile_with_weight_acyclic_1 k p0 p1_0).bind fun t2 => if (t2 == (-1)) = true then (some p0) else ((slices_DeleteFunc_api_Tile_api_Tile_with_weight_acyclic_1.l0 k p0 t2 (w64 (t2 + 1)) p1_0).bind fun x3 => if 0 ≤ x3.2 ∧ x3.2 ≤ (x3.1.length : Int) ∧ (x3.1.length : Int) ≤ (x3.1.length : Int) then (some (x3.1.take x3.2.toNat)) else none)
def weight_acyclic.l1 : Nat → (List (Int × Bool)) → Int → (List Tile) → Option (List (Int × Bool))
  | 0, _, _, _ => none
  | k + 1, l3, x4, l2 => if (decide (x4 < (l2.length : Int))) = true then (if 0 ≤ x4 ∧ x4 < (l2.length : Int) then (weight_acyclic.l1 k (mput ((rdD l2 x4 z_Tile).W) true l3) (w64 (x4 + 1)) l2) else none) else (some l3)
def weight_acyclic.l0 : Nat → (List Tile) → Option (Sum Bool Unit)
  | 0, _ => none
  | k + 1, l2 => if (decide ((l2.length : Int) > 0)) = true then ((weight_acyclic.l1 k ([] : List (Int × Bool)) 0 l2).bind fun x3 => (slices_Clone_api_Tile_api_Tile l2).bind fun t4 => (slices_DeleteFunc_api_Tile_api_Tile_with_weight_acyclic_1 k t4 x3).bind fun t5 => if ((t5.length : Int) == (l2.length : Int)) = true then (some (.inl false)) else (weight_acyclic.l0 k t5)) else (some (.inr ()))
def weight_acyclic (k : Nat) (p0 : List Tile) : Option Bool := (weight_acyclic.l0 k p0).bind fun x1 => sumb x1 (fun r => some r) (fun y2 => some true)
def weight_Check_3.l0 : Nat → (List Tile) → Int → (List Tile) → Weights → Option (List Tile)
  | 0, _, _, _, _ => none
  | k + 1, l2, x4, f0, f1 => if (decide (x4 < (f0.length : Int))) = true then (if 0 ≤ x4 ∧ x4 < (f0.length : Int) then (if 0 ≤ (rdD f0 x4 z_Tile).S ∧ (rdD f0 x4 z_Tile).S < (f1.Values.length : Int) then ((if (((rdD f1.Values ((rdD f0 x4 z_Tile).S) z_Frac).Num) == 0) = true then (if l2.length + [(rdD f0 x4 z_Tile)].length ≤ 100000000000 then (some (l2 ++ [(rdD f0 x4 z_Tile)])) else none) else (some l2)).bind fun x5 => weight_Check_3.l0 k x5 (w64 (x4 + 1)) f0 f1) else none) else none) else (some l2)
def weight_Check_3 (k : Nat) (f0 : List Tile) (f1 : Weights) : Option Bool := (weight_Check_3.l0 k ([] : List Tile) 0 f0 f1).bind fun x2 => (weight_acyclic k x2).bind fun t4 => some t4
def weight_gcd.l0 : Nat → Int → Int → Option Int
  | 0, _, _ => none
  | k + 1, x1, x2 => if (x2 != 0) = true then (if x2 ≠ 0 then (weight_gcd.l0 k x2 (Int.tmod x1 x2)) else none) else (some x1)
def weight_gcd (k : Nat) (p0 : Int) (p1 : Int) : Option Int := (weight_gcd.l0 k p0 p1).bind fun x2 => some x2
def weight_fraction_lowest (k : Nat) (p0 : Fraction) : Option Fraction := (weight_gcd k (maxI p0.Num (w64 (0 - p0.Num))) p0.Den).bind fun t1 => if t1 ≠ 0 then (some (Fraction.mk (w64 (Int.tdiv p0.Num t1)) (w64 (Int.tdiv p0.Den t1)))) else none
def weight_grows.l1 : Nat → Int → Int → Weights → Int → Option (Int × Int)
  | 0, _, _, _, _ => none
  | k + 1, x3, x4, p1, x2 => if (rdD p1.Primes x2 0) ≠ 0 then (if ((Int.tmod x3 (rdD p1.Primes x2 0)) == 0) = true then (if 0 ≤ x2 ∧ x2 < (p1.Logs.length : Int) then (weight_grows.l1 k (w64 (Int.tdiv x3 (rdD p1.Primes x2 0))) (w64 (x4 + (rdD p1.Logs x2 0))) p1 x2) else none) else (some (x3, x4))) else none
def weight_grows.l2 : Nat → Int → Int → Weights → Int → Option (Int × Int)
  | 0, _, _, _, _ => none
  | k + 1, x4, x5, p1, x3 => if (rdD p1.Primes x3 0) ≠ 0 then (if ((Int.tmod x4 (rdD p1.Primes x3 0)) == 0) = true then (if 0 ≤ x3 ∧ x3 < (p1.Logs.length : Int) then (weight_grows.l2 k (w64 (Int.tdiv x4 (rdD p1.Primes x3 0))) (w64 (x5 - (rdD p1.Logs x3 0))) p1 x3) else none) else (some (x4, x5))) else none
def weight_grows.l0 : Nat → Int → Int → Int → Int → Weights → Option (Int × Int × Int)
  | 0, _, _, _, _, _ => none
  | k + 1, x3, x4, x5, x6, p1 => if (decide (x6 < (p1.Primes.length : Int))) = true then (if 0 ≤ x6 ∧ x6 < (p1.Primes.length : Int) then ((weight_grows.l1 k x3 x5 p1 x6).bind fun x7 => (weight_grows.l2 k x4 x7.2 p1 x6).bind fun x8 => weight_grows.l0 k x7.1 x8.1 x8.2 (w64 (x6 + 1)) p1) else none) else (some (x3, x4, x5))
def weight_grows (k : Nat) (p0 : Frac) (p1 : Weights) : Option Bool := (weight_fraction_lowest k (Fraction.mk p0.Num p0.Den)).bind fun t2 => (weight_grows.l0 k t2.Num t2.Den 0 0 p1).bind fun x3 => some (((x3.1 == 1) && (x3.2.1 == 1)) && (decide (x3.2.2 > 0)))
def weight_Check_4_1 (k : Nat) (p0 : Fraction) (f0 : Weights) : Option Bool := (weight_grows k (Frac.mk p0.Num p0.Den) f0).bind fun t1 => some t1
def weight_all_1_of_weight_Check_4_1 (k : Nat) (p0 : Frac) (f0_0 : Weights) : Option Bool := (weight_Check_4_1 k (Fraction.mk p0.Num p0.Den) f0_0).bind fun t2 => some (!t2)
def slices_IndexFunc_api_Frac_api_Frac_with_weight_all_1_of_weight_Check_4_1.l0 : Nat → Int → (List Frac) → Weights → Option (Sum Int Unit)
  | 0, _, _, _ => none
  | k + 1, x2, p0, p1_0_0 => if (decide (x2 < (p0.length : Int))) = true then (if 0 ≤ x2 ∧ x2 < (p0.length : Int) then ((weight_all_1_of_weight_Check_4_1 k (rdD p0 x2 z_Frac) p1_0_0).bind fun t3 => if t3 = true then (some (.inl x2)) else (slices_IndexFunc_api_Frac_api_Frac_with_weight_all_1_of_weight_Check_4_1.l0 k (w64 (x2 + 1)) p0 p1_0_0)) else none) else (some (.inr ()))
def slices_IndexFunc_api_Frac_api_Frac_with_weight_all_1_of_weight_Check_4_1 (k : Nat) (p0 : List Frac) (p1_0_0 : Weights) : Option Int := (slices_IndexFunc_api_Frac_api_Frac_with_weight_all_1_of_weight_Check_4_1.l0 k 0 p0 p1_0_0).bind fun x2 => sumb x2 (fun r => some r) (fun y3 => some (-1))
def slices_ContainsFunc_api_Frac_api_Frac_with_weight_all_1_of_weight_Check_4_1 (k : Nat) (p0 : List Frac) (p1_0_0 : Weights) : Option Bool := (slices_IndexFunc_api_Frac_api_Frac_with_weight_all_1_of_weight_Check_4_1 k p0 p1_0_0).bind fun t2 => some (decide (t2 ≥ 0))
def weight_all_with_weight_Check_4_1 (k : Nat) (p0 : List Frac) (p1_0 : Weights) : Option Bool := (slices_ContainsFunc_api_Frac_api_Frac_with_weight_all_1_of_weight_Check_4_1 k p0 p1_0).bind fun t2 => some (!t2)
def weight_Check_4 (k : Nat) (f0 : Weights) : Option Bool := (weight_all_with_weight_Check_4_1 k f0.Factors f0).bind fun t1 => some t1
def weight_Check.l0 : Nat → Int → (List Tile) → Weights → Option (Sum (Bool × Int) Unit)
  | 0, _, _, _ => none
  | k + 1, x5, p0, p1 => if (decide (x5 < 4)) = true then (if (x5 == 0) = true then ((weight_Check_1 k p0 p1).bind fun t6 => if (!t6) = true then (some (.inl (false, 0))) else (weight_Check.l0 k (w64 (x5 + 1)) p0 p1)) else (if (x5 == 1) = true then ((weight_Check_2 k p0 p1).bind fun t7 => if (!t7) = true then (some (.inl (false, 0))) else (weight_Check.l0 k (w64 (x5 + 1)) p0 p1)) else (if (x5 == 2) = true then ((weight_Check_3 k p0 p1).bind fun t8 => if (!t8) = true then (some (.inl (false, 0))) else (weight_Check.l0 k (w64 (x5 + 1)) p0 p1)) else (if (x5 == 3) = true then ((weight_Check_4 k p1).bind fun t9 => if (!t9) = true then (some (.inl (false, 0))) else (weight_Check.l0 k (w64 (x5 + 1)) p0 p1)) else (none))))) else (some (.inr ()))
def weight_Check (k : Nat) (p0 : List Tile) (p1 : Weights) : Option (Bool × Int) := (weight_Valid k p0 p1).bind fun t2 => if (!t2) = true then (some (false, 1)) else ((weight_Check.l0 k 0 p0 p1).bind fun x3 => sumb x3 (fun r => some r) (fun y4 => some (true, 0)))
def weight_common.l0 : Nat → Int → Int → (List Frac) → Option (Sum (Int × Bool) Int)
  | 0, _, _, _ => none
  | k + 1, x1, x2, p0 => if (decide (x2 < (p0.length : Int))) = true then (if 0 ≤ x2 ∧ x2 < (p0.length : Int) then ((weight_fraction_lowest k (Fraction.mk ((rdD p0 x2 z_Frac).Num) ((rdD p0 x2 z_Frac).Den))).bind fun t3 => (weight_gcd k x1 t3.Den).bind fun t4 => if t4 ≠ 0 then (if (decide (w64 (x1 * (w64 (Int.tdiv t3.Den t4))) > 1000000)) = true then (some (.inl (0, false))) else (weight_common.l0 k (w64 (x1 * (w64 (Int.tdiv t3.Den t4)))) (w64 (x2 + 1)) p0)) else none) else none) else (some (.inr x1))
def weight_common (k : Nat) (p0 : List Frac) : Option (Int × Bool) := (weight_common.l0 k 1 0 p0).bind fun x1 => sumb x1 (fun r => some r) (fun y2 => some (y2, true))
def weight_Row_1 (k : Nat) (p0 : Int) (f0 : Weights) (f1 : Int) : Option Int := if 0 ≤ p0 ∧ p0 < (f0.Values.length : Int) then ((weight_fraction_lowest k (Fraction.mk ((rdD f0.Values p0 z_Frac).Num) ((rdD f0.Values p0 z_Frac).Den))).bind fun t2 => if t2.Den ≠ 0 then (some (w64 (t2.Num * (w64 (Int.tdiv f1 t2.Den))))) else none) else none
def weight_Row.l0 : Nat → Int → (List Tile) → (List Int) → Option (Sum (Frac × Frac × Int) Unit)
  | 0, _, _, _ => none
  | k + 1, x1, p0, p2 => if (decide (x1 < (p2.length : Int))) = true then (if 0 ≤ x1 ∧ x1 < (p2.length : Int) then ((if (decide ((rdD p2 x1 0) < 0)) = true then (some true) else (if (decide ((rdD p2 x1 0) ≥ (p0.length : Int))) = true then (some true) else (if (decide (x1 > 0)) = true then (if 0 ≤ w64 (x1 - 1) ∧ w64 (x1 - 1) < (p2.length : Int) then (if 0 ≤ (rdD p2 (w64 (x1 - 1)) 0) ∧ (rdD p2 (w64 (x1 - 1)) 0) < (p0.length : Int) then (if 0 ≤ (rdD p2 x1 0) ∧ (rdD p2 x1 0) < (p0.length : Int) then (some (((rdD p0 (rdD p2 (w64 (x1 - 1)) 0) z_Tile).E) != ((rdD p0 (rdD p2 x1 0) z_Tile).W))) else none) else none) else none) else (some false)))).bind fun x3 => if x3 = true then (some (.inl ((Frac.mk 0 0), (Frac.mk 0 0), 2))) else (weight_Row.l0 k (w64 (x1 + 1)) p0 p2)) else none) else (some (.inr ()))
def weight_Row.l1 : Nat → Int → Int → Int → (List Tile) → Weights → (List Int) → (Int × Bool) → Option (Int × Int)
  | 0, _, _, _, _, _, _, _ => none
  | k + 1, x4, x5, x6, p0, p1, p2, t3 => if (decide (x6 < (p2.length : Int))) = true then (if 0 ≤ x6 ∧ x6 < (p2.length : Int) then (if 0 ≤ (rdD p2 x6 0) ∧ (rdD p2 x6 0) < (p0.length : Int) then ((weight_Row_1 k ((rdD p0 (rdD p2 x6 0) z_Tile).S) p1 t3.1).bind fun t7 => (weight_Row_1 k ((rdD p0 (rdD p2 x6 0) z_Tile).N) p1 t3.1).bind fun t8 => weight_Row.l1 k (w64 (x4 + t7)) (w64 (x5 + t8)) (w64 (x6 + 1)) p0 p1 p2 t3) else none) else none) else (some (x4, x5))
def weight_Row (k : Nat) (p0 : List Tile) (p1 : Weights) (p2 : List Int) : Option (Frac × Frac × Int) := (weight_Valid k p0 p1).bind fun t3 => if (!t3) = true then (some ((Frac.mk 0 0), (Frac.mk 0 0), 1)) else (if ((decide ((p2.length : Int) < 1)) || (decide ((p2.length : Int) > 40000))) = true then (some ((Frac.mk 0 0), (Frac.mk 0 0), 2)) else ((weight_Row.l0 k 0 p0 p2).bind fun x4 => sumb x4 (fun r => some r) (fun y5 => (weight_common k p1.Values).bind fun t6 => if (!t6.2) = true then (some ((Frac.mk 0 0), (Frac.mk 0 0), 4)) else ((some (0, t6.1, 0, t6.1)).bind fun x7 => (weight_Row.l1 k x7.1 x7.2.2.1 0 p0 p1 p2 t6).bind fun x8 => (weight_fraction_lowest k (Fraction.mk x8.1 x7.2.1)).bind fun t9 => (weight_fraction_lowest k (Fraction.mk x8.2 x7.2.2.2)).bind fun t10 => (weight_fraction_valid t9).bind fun t11 => (if (!t11) = true then (some true) else ((weight_fraction_valid t10).bind fun t13 => some (!t13))).bind fun x12 => if x12 = true then (some ((Frac.mk 0 0), (Frac.mk 0 0), 4)) else (some ((Frac.mk t9.Num t9.Den), (Frac.mk t10.Num t10.Den), 0))))))
def law06_awake (k : Nat)  : Option Bool := (tile_Parse k (⟨#[50, 46, 48, 46, 49, 46, 48]⟩ : ByteArray)).bind fun t1 => (tile_Parse k (⟨#[49, 46, 48, 46, 49, 46, 48]⟩ : ByteArray)).bind fun t2 => (weight_Check k t1.1 (Weights.mk [(Frac.mk 0 1), (Frac.mk 1 1), (Frac.mk 2 1)] [(Frac.mk 0 1)] [(Frac.mk 2 1)] [2] [1])).bind fun t3 => (weight_Row k t1.1 (Weights.mk [(Frac.mk 0 1), (Frac.mk 1 1), (Frac.mk 2 1)] [(Frac.mk 0 1)] [(Frac.mk 2 1)] [2] [1]) [0, 0, 0]).bind fun t4 => if 0 ≤ (0 : Int) ∧ (0 : Int) ≤ (2 : Int) ∧ (2 : Int) ≤ ([(Frac.mk 0 1), (Frac.mk 1 1), (Frac.mk 2 1)].length : Int) then ((weight_Check k t2.1 (Weights.mk (cut [(Frac.mk 0 1), (Frac.mk 1 1), (Frac.mk 2 1)] (0 : Int) (2 : Int)) [(Frac.mk 0 1)] [(Frac.mk 2 1)] [2] [1])).bind fun t5 => (if (((((((t3.2 == 0) && (t4.2.2 == 0)) && (t5.2 == 0)) && t3.1) && (!t5.1)) && (t4.1.Num == 3 && (t4.1.Den == 1))) && (t4.2.1.Num == 6 && (t4.2.1.Den == 1))) = true then ((weight_Valid k t2.1 (Weights.mk (cut [(Frac.mk 0 1), (Frac.mk 1 1), (Frac.mk 2 1)] (0 : Int) (2 : Int)) [(Frac.mk 0 1)] [(Frac.mk 2 1)] [2] [1])).bind fun t8 => some t8) else (some false)).bind fun x7 => some x7) else none
def ref06_valid (p0 : Frac) : Option Bool := some ((((decide (p0.Den ≥ 1)) && (decide (p0.Den ≤ 1000000))) && (decide (p0.Num ≥ (-1000000)))) && (decide (p0.Num ≤ 1000000)))
def ref06_Fits (p0 : Frac) : Option Bool := (ref06_valid p0).bind fun t1 => some t1
def law06_WeightRows (k : Nat) (p0 : List Tile) (p1 : Weights) (p2 : List Int) : Option Bool := (if (decide ((p0.length : Int) > 60)) = true then (some true) else ((law06_wide p0 p1).bind fun t4 => (if t4 = true then (some true) else ((ref01_Valid k p0).bind fun t7 => some (!t7))).bind fun x5 => (if x5 = true then (some true) else ((ref06_IsRow k p0 p2).bind fun t9 => some (!t9))).bind fun x8 => (if x8 = true then (some true) else (if 0 ≤ (0 : Int) ∧ (0 : Int) < (p2.length : Int) then (if 0 ≤ w64 ((p2.length : Int) - 1) ∧ w64 ((p2.length : Int) - 1) < (p2.length : Int) then (if 0 ≤ (rdD p2 (0 : Int) 0) ∧ (rdD p2 (0 : Int) 0) < (p0.length : Int) then (if 0 ≤ (rdD p2 (w64 ((p2.length : Int) - 1)) 0) ∧ (rdD p2 (w64 ((p2.length : Int) - 1)) 0) < (p0.length : Int) then (some (((rdD p0 (rdD p2 (0 : Int) 0) z_Tile).W) != ((rdD p0 (rdD p2 (w64 ((p2.length : Int) - 1)) 0) z_Tile).E))) else none) else none) else none) else none)).bind fun b10 => some b10)).bind fun x3 => if x3 = true then ((law06_awake k).bind fun t11 => some t11) else ((weight_Check k p0 p1).bind fun t12 => if (((t12.2 != 0) || (!t12.1)) || ((p1.Factors.length : Int) != (p0.length : Int))) = true then ((if ((t12.2 == 0) || (t12.2 == 1)) = true then ((law06_awake k).bind fun t14 => some t14) else (some false)).bind fun x13 => some x13) else ((weight_Row k p0 p1 p2).bind fun t15 => if (t15.2.2 != 0) = true then ((if (t15.2.2 == 4) = true then ((law06_awake k).bind fun t17 => some t17) else (some false)).bind fun x16 => some x16) else (if 0 ≤ (0 : Int) ∧ (0 : Int) < (p2.length : Int) then (if 0 ≤ (rdD p2 (0 : Int) 0) ∧ (rdD p2 (0 : Int) 0) < (p1.Factors.length : Int) then ((ref06_Fits t15.1).bind fun t18 => (if (!t18) = true then (some true) else ((ref06_Fits t15.2.1).bind fun t20 => some (!t20))).bind fun x19 => (if x19 = true then (some true) else ((ref06_Fits (rdD p1.Factors (rdD p2 (0 : Int) 0) z_Frac)).bind fun t22 => some (!t22))).bind fun x21 => if x21 = true then (some false) else ((if ((decide (t15.1.Num > 0)) && ((w64 ((w64 (t15.2.1.Num * t15.1.Den)) * ((rdD p1.Factors (rdD p2 (0 : Int) 0) z_Frac).Den))) == (w64 ((w64 (((rdD p1.Factors (rdD p2 (0 : Int) 0) z_Frac).Num) * t15.1.Num)) * t15.2.1.Den)))) = true then ((law06_awake k).bind fun t24 => some t24) else (some false)).bind fun x23 => some x23)) else none) else none)))
def ref06_Colours.l0 : Nat → Int → Int → Int → (List Tile) → Option (Int × Int)
  | 0, _, _, _, _ => none
  | k + 1, x1, x2, x3, p0 => if (decide (x3 < (p0.length : Int))) = true then (if 0 ≤ x3 ∧ x3 < (p0.length : Int) then (ref06_Colours.l0 k (maxI (maxI x1 (w64 (((rdD p0 x3 z_Tile).N) + 1))) (w64 (((rdD p0 x3 z_Tile).S) + 1))) (maxI (maxI x2 (w64 (((rdD p0 x3 z_Tile).E) + 1))) (w64 (((rdD p0 x3 z_Tile).W) + 1))) (w64 (x3 + 1)) p0) else none) else (some (x1, x2))
def ref06_Colours (k : Nat) (p0 : List Tile) : Option (Int × Int) := (ref06_Colours.l0 k 0 0 0 p0).bind fun x1 => some (x1.1, x1.2)
def ref06_fractions.l0 : Nat → Int → (List Frac) → Int → Int → Option (Sum Bool Unit)
  | 0, _, _, _, _ => none
  | k + 1, x3, p0, p1, p2 => if (decide (x3 < p1)) = true then (if 0 ≤ x3 ∧ x3 < (p0.length : Int) then ((ref06_valid (rdD p0 x3 z_Frac)).bind fun t4 => if ((!t4) || (decide ((rdD p0 x3 z_Frac).Num < p2))) = true then (some (.inl false)) else (ref06_fractions.l0 k (w64 (x3 + 1)) p0 p1 p2)) else none) else (some (.inr ()))
def ref06_fractions (k : Nat) (p0 : List Frac) (p1 : Int) (p2 : Int) : Option Bool := if ((p0.length : Int) != p1) = true then (some false) else ((ref06_fractions.l0 k 0 p0 p1 p2).bind fun x3 => sumb x3 (fun r => some r) (fun y4 => some true))
def ref06_prime.l0 : Nat → Int → Int → Option (Sum Bool Unit)
  | 0, _, _ => none
  | k + 1, x1, p0 => if (decide (w64 (x1 * x1) ≤ p0)) = true then (if x1 ≠ 0 then (if ((Int.tmod p0 x1) == 0) = true then (some (.inl false)) else (ref06_prime.l0 k (w64 (x1 + 1)) p0)) else none) else (some (.inr ()))
def ref06_prime (k : Nat) (p0 : Int) : Option Bool := if ((decide (p0 < 2)) || (decide (p0 > 1000000))) = true then (some false) else ((ref06_prime.l0 k 2 p0).bind fun x1 => sumb x1 (fun r => some r) (fun y2 => some true))
def ref06_Valid.l1 : Nat → Int → Weights → Int → Option (Sum Bool Unit)
  | 0, _, _, _ => none
  | k + 1, x3, p1, x2 => if (decide (x3 < x2)) = true then (if 0 ≤ x3 ∧ x3 < (p1.Primes.length : Int) then (if ((rdD p1.Primes x3 0) == (rdD p1.Primes x2 0)) = true then (some (.inl false)) else (ref06_Valid.l1 k (w64 (x3 + 1)) p1 x2)) else none) else (some (.inr ()))
def ref06_Valid.l0 : Nat → Int → Weights → Option (Sum Bool Unit)
  | 0, _, _ => none
  | k + 1, x2, p1 => if (decide (x2 < (p1.Primes.length : Int))) = true then (if 0 ≤ x2 ∧ x2 < (p1.Primes.length : Int) then ((ref06_prime k (rdD p1.Primes x2 0)).bind fun t3 => (if (!t3) = true then (some true) else (if 0 ≤ x2 ∧ x2 < (p1.Logs.length : Int) then (some (decide ((rdD p1.Logs x2 0) < (-1000)))) else none)).bind fun b4 => (if b4 = true then (some true) else (if 0 ≤ x2 ∧ x2 < (p1.Logs.length : Int) then (some (decide ((rdD p1.Logs x2 0) > 1000))) else none)).bind fun b5 => if b5 = true then (some (.inl false)) else ((ref06_Valid.l1 k 0 p1 x2).bind fun x7 => sumb x7 (fun r => some (.inl r)) (fun y8 => ref06_Valid.l0 k (w64 (x2 + 1)) p1))) else none) else (some (.inr ()))
def ref06_Valid (k : Nat) (p0 : List Tile) (p1 : Weights) : Option Bool := (ref01_Valid k p0).bind fun t2 => if (!t2) = true then (some false) else ((ref06_Colours k p0).bind fun t3 => (ref06_fractions k p1.Values t3.1 0).bind fun t4 => (if (!t4) = true then (some true) else ((ref06_fractions k p1.Carries t3.2 (-1000000)).bind fun t7 => some (!t7))).bind fun x5 => (if x5 = true then (some true) else ((ref06_fractions k p1.Factors (p0.length : Int) 1).bind fun t9 => some (!t9))).bind fun x8 => if x8 = true then (some false) else (if ((decide ((p1.Primes.length : Int) > 12)) || ((p1.Logs.length : Int) != (p1.Primes.length : Int))) = true then (some false) else ((ref06_Valid.l0 k 0 p1).bind fun x10 => sumb x10 (fun r => some r) (fun y11 => some true))))
def ref06_gcd.l0 : Nat → Int → Int → Option Int
  | 0, _, _ => none
  | k + 1, x1, x2 => if (decide (x2 > 0)) = true then (if x2 ≠ 0 then (ref06_gcd.l0 k x2 (Int.tmod x1 x2)) else none) else (some x1)
def ref06_gcd (k : Nat) (p0 : Int) (p1 : Int) : Option Int := (ref06_gcd.l0 k p0 p1).bind fun x2 => some x2
def ref06_Lowest (k : Nat) (p0 : Int) (p1 : Int) : Option Frac := (ref06_gcd k p0 p1).bind fun t2 => if t2 ≠ 0 then (some (Frac.mk (w64 (Int.tdiv p0 t2)) (w64 (Int.tdiv p1 t2)))) else none
def ref06_Common.l0 : Nat → Int → Int → (List Frac) → Int → Option (Sum Int Int)
  | 0, _, _, _, _ => none
  | k + 1, x2, x3, p0, p1 => if (decide (x3 < (p0.length : Int))) = true then (if 0 ≤ x3 ∧ x3 < (p0.length : Int) then ((ref06_Lowest k ((rdD p0 x3 z_Frac).Num) ((rdD p0 x3 z_Frac).Den)).bind fun t4 => (ref06_gcd k x2 t4.Den).bind fun t5 => if t5 ≠ 0 then (if (decide (minI (w64 ((w64 (Int.tdiv x2 t5)) * t4.Den)) (w64 (p1 + 1)) > p1)) = true then (some (.inl (minI (w64 ((w64 (Int.tdiv x2 t5)) * t4.Den)) (w64 (p1 + 1))))) else (ref06_Common.l0 k (minI (w64 ((w64 (Int.tdiv x2 t5)) * t4.Den)) (w64 (p1 + 1))) (w64 (x3 + 1)) p0 p1)) else none) else none) else (some (.inr x2))
def ref06_Common (k : Nat) (p0 : List Frac) (p1 : Int) : Option Int := (ref06_Common.l0 k 1 0 p0 p1).bind fun x2 => sumb x2 (fun r => some r) (fun y3 => some y3)
def ref06_Of.l0 : Nat → (List Frac) → Int → (List Tile) → Weights → (List Int) → Option (List Frac)
  | 0, _, _, _, _, _ => none
  | k + 1, l3, x4, p0, p1, p2 => if (decide (x4 < (p2.length : Int))) = true then (if 0 ≤ x4 ∧ x4 < (p2.length : Int) then (if 0 ≤ (rdD p2 x4 0) ∧ (rdD p2 x4 0) < (p0.length : Int) then (if 0 ≤ (rdD p0 (rdD p2 x4 0) z_Tile).S ∧ (rdD p0 (rdD p2 x4 0) z_Tile).S < (p1.Values.length : Int) then (if 0 ≤ (rdD p0 (rdD p2 x4 0) z_Tile).N ∧ (rdD p0 (rdD p2 x4 0) z_Tile).N < (p1.Values.length : Int) then (if l3.length + [(rdD p1.Values ((rdD p0 (rdD p2 x4 0) z_Tile).S) z_Frac), (rdD p1.Values ((rdD p0 (rdD p2 x4 0) z_Tile).N) z_Frac)].length ≤ 100000000000 then (ref06_Of.l0 k (l3 ++ [(rdD p1.Values ((rdD p0 (rdD p2 x4 0) z_Tile).S) z_Frac), (rdD p1.Values ((rdD p0 (rdD p2 x4 0) z_Tile).N) z_Frac)]) (w64 (x4 + 1)) p0 p1 p2) else none) else none) else none) else none) else none) else (some l3)
def ref06_Of (k : Nat) (p0 : List Tile) (p1 : Weights) (p2 : List Int) : Option (List Frac) := (ref06_Of.l0 k ([] : List Frac) 0 p0 p1 p2).bind fun x3 => some x3
def ref06_Sum.l0 : Nat → Int → Int → (List Tile) → Weights → (List Int) → Bool → Int → Option Int
  | 0, _, _, _, _, _, _, _ => none
  | k + 1, x5, x7, p0, p1, p2, p3, p4 => if (decide (x7 < (p2.length : Int))) = true then (if 0 ≤ x7 ∧ x7 < (p2.length : Int) then (if 0 ≤ (rdD p2 x7 0) ∧ (rdD p2 x7 0) < (p0.length : Int) then ((if p3 = true then (some ((rdD p0 (rdD p2 x7 0) z_Tile).N)) else (some ((rdD p0 (rdD p2 x7 0) z_Tile).S))).bind fun x8 => (if 0 ≤ x8 ∧ x8 < (p1.Values.length : Int) then ((ref06_Lowest k ((rdD p1.Values x8 z_Frac).Num) ((rdD p1.Values x8 z_Frac).Den)).bind fun t10 => some (t10.Num, t10.Den)) else none).bind fun x9 => if x9.2 ≠ 0 then (ref06_Sum.l0 k (w64 (x5 + (w64 (x9.1 * (w64 (Int.tdiv p4 x9.2)))))) (w64 (x7 + 1)) p0 p1 p2 p3 p4) else none) else none) else none) else (some x5)
def ref06_Sum (k : Nat) (p0 : List Tile) (p1 : Weights) (p2 : List Int) (p3 : Bool) (p4 : Int) : Option Frac := (ref06_Sum.l0 k 0 0 p0 p1 p2 p3 p4).bind fun x5 => (ref06_Lowest k x5 p4).bind fun t7 => some t7
def law06_WeightRow (k : Nat) (p0 : List Tile) (p1 : Weights) (p2 : List Int) : Option Bool := (law06_wide p0 p1).bind fun t3 => if (t3 || (decide ((p2.length : Int) > 50000))) = true then ((law06_awake k).bind fun t4 => some t4) else ((weight_Row k p0 p1 p2).bind fun t5 => (ref06_Valid k p0 p1).bind fun t7 => if (!t7) = true then ((if ((t5.2.2 == 1) && ((t5.1.Num == 0 && (t5.1.Den == 0)) && (t5.2.1.Num == 0 && (t5.2.1.Den == 0)))) = true then ((law06_awake k).bind fun t9 => some t9) else (some false)).bind fun x8 => some x8) else ((ref06_IsRow k p0 p2).bind fun t10 => if (!t10) = true then ((if ((t5.2.2 == 2) && ((t5.1.Num == 0 && (t5.1.Den == 0)) && (t5.2.1.Num == 0 && (t5.2.1.Den == 0)))) = true then ((law06_awake k).bind fun t12 => some t12) else (some false)).bind fun x11 => some x11) else ((ref06_Common k p1.Values 1000000).bind fun t13 => (if (decide (t13 > 1000000)) = true then (if (t5.2.2 == 4) = true then ((if ((t5.1.Num == 0 && (t5.1.Den == 0)) && (t5.2.1.Num == 0 && (t5.2.1.Den == 0))) = true then ((law06_awake k).bind fun t16 => some t16) else (some false)).bind fun x15 => some (.inl x15)) else ((ref06_Of k p0 p1 p2).bind fun t17 => (ref06_Common k t17 1000000000).bind fun t18 => if ((decide ((p2.length : Int) > 200)) || (decide (t18 > 1000000000))) = true then ((if (t5.2.2 == 0) = true then ((ref06_Fits t5.1).bind fun t20 => some t20) else (some false)).bind fun x19 => (if x19 = true then ((ref06_Fits t5.2.1).bind fun t22 => some t22) else (some false)).bind fun x21 => (if x21 = true then ((law06_awake k).bind fun t24 => some t24) else (some false)).bind fun x23 => some (.inl x23)) else (some (.inr t18)))) else (some (.inr t13))).bind fun x14 => sumb x14 (fun r => some r) (fun y25 => ((ref06_Sum k p0 p1 p2 false y25).bind fun t27 => (ref06_Sum k p0 p1 p2 true y25).bind fun t28 => some (t27.Num, t27.Den, t28.Num, t28.Den)).bind fun x26 => (ref06_Fits (Frac.mk x26.1 x26.2.1)).bind fun t29 => (if (!t29) = true then (some true) else ((ref06_Fits (Frac.mk x26.2.2.1 x26.2.2.2)).bind fun t31 => some (!t31))).bind fun x30 => if x30 = true then ((if ((t5.2.2 == 4) && ((t5.1.Num == 0 && (t5.1.Den == 0)) && (t5.2.1.Num == 0 && (t5.2.1.Den == 0)))) = true then ((law06_awake k).bind fun t33 => some t33) else (some false)).bind fun x32 => some x32) else ((if (((t5.2.2 == 0) && (t5.1.Num == x26.1 && (t5.1.Den == x26.2.1))) && (t5.2.1.Num == x26.2.2.1 && (t5.2.1.Den == x26.2.2.2))) = true then ((law06_awake k).bind fun t35 => some t35) else (some false)).bind fun x34 => some x34)))))
end Gp
namespace Gp
open Go Gw Go.Proofs Go.RowKit
def ok_Tile (a : Tile) : Prop := (ok64 a.N) ∧ (ok64 a.E) ∧ (ok64 a.S) ∧ (ok64 a.W)
theorem opn_Tile_44 {H : Type} {enc : TypeId × Value → H} {w : World} {base : Nat} {spare : Nat → Bool} {held : Bool} {fuel : Nat} {cs : List Value} {x : DataW H × List MemPlace} (h : DataW.trod enc Tryz.prog w base spare held fuel 44 cs = some x) : ∃ (a : Tile), cs = [.int .i64 a.N, .int .i64 a.E, .int .i64 a.S, .int .i64 a.W] ∧ ok_Tile a := by
  obtain ⟨hl, n, hf⟩ := opn_fields Tryz.underlying44 h
  have hl0 : cs.length = 4 := hl.trans (by kernel_rfl)
  obtain ⟨q0, r0, rfl, hl1⟩ := cons_of hl0
  obtain ⟨q1, r1, rfl, hl2⟩ := cons_of hl1
  obtain ⟨q2, r2, rfl, hl3⟩ := cons_of hl2
  obtain ⟨q3, r3, rfl, hl4⟩ := cons_of hl3
  obtain rfl := List.eq_nil_of_length_eq_zero hl4
  obtain ⟨y0, h0⟩ := hf 0 _ 1 rfl (by kernel_rfl)
  have h0 : DataW.trod enc Tryz.prog w base spare held n 3 [q0] = some y0 := h0
  obtain ⟨a0, e0, w0⟩ := opn_int Tryz.underlying3 h0
  injection e0 with f0 e0
  subst f0
  obtain ⟨y1, h1⟩ := hf 1 _ 1 rfl (by kernel_rfl)
  have h1 : DataW.trod enc Tryz.prog w base spare held n 3 [q1] = some y1 := h1
  obtain ⟨a1, e1, w1⟩ := opn_int Tryz.underlying3 h1
  injection e1 with f1 e1
  subst f1
  obtain ⟨y2, h2⟩ := hf 2 _ 1 rfl (by kernel_rfl)
  have h2 : DataW.trod enc Tryz.prog w base spare held n 3 [q2] = some y2 := h2
  obtain ⟨a2, e2, w2⟩ := opn_int Tryz.underlying3 h2
  injection e2 with f2 e2
  subst f2
  obtain ⟨y3, h3⟩ := hf 3 _ 1 rfl (by kernel_rfl)
  have h3 : DataW.trod enc Tryz.prog w base spare held n 3 [q3] = some y3 := h3
  obtain ⟨a3, e3, w3⟩ := opn_int Tryz.underlying3 h3
  injection e3 with f3 e3
  subst f3
  exact ⟨⟨a0, a1, a2, a3⟩, rfl, ⟨wf64 w0, wf64 w1, wf64 w2, wf64 w3⟩⟩
theorem opens_Tile_44 : Opens Tryz.prog 44 enc_Tile ok_Tile := ⟨by kernel_rfl, by decide, fun h => opn_Tile_44 h⟩
def ok_Frac (a : Frac) : Prop := (ok64 a.Num) ∧ (ok64 a.Den)
theorem opn_Frac_33 {H : Type} {enc : TypeId × Value → H} {w : World} {base : Nat} {spare : Nat → Bool} {held : Bool} {fuel : Nat} {cs : List Value} {x : DataW H × List MemPlace} (h : DataW.trod enc Tryz.prog w base spare held fuel 33 cs = some x) : ∃ (a : Frac), cs = [.int .i64 a.Num, .int .i64 a.Den] ∧ ok_Frac a := by
  obtain ⟨hl, n, hf⟩ := opn_fields Tryz.underlying33 h
  have hl0 : cs.length = 2 := hl.trans (by kernel_rfl)
  obtain ⟨q0, r0, rfl, hl1⟩ := cons_of hl0
  obtain ⟨q1, r1, rfl, hl2⟩ := cons_of hl1
  obtain rfl := List.eq_nil_of_length_eq_zero hl2
  obtain ⟨y0, h0⟩ := hf 0 _ 1 rfl (by kernel_rfl)
  have h0 : DataW.trod enc Tryz.prog w base spare held n 3 [q0] = some y0 := h0
  obtain ⟨a0, e0, w0⟩ := opn_int Tryz.underlying3 h0
  injection e0 with f0 e0
  subst f0
  obtain ⟨y1, h1⟩ := hf 1 _ 1 rfl (by kernel_rfl)
  have h1 : DataW.trod enc Tryz.prog w base spare held n 3 [q1] = some y1 := h1
  obtain ⟨a1, e1, w1⟩ := opn_int Tryz.underlying3 h1
  injection e1 with f1 e1
  subst f1
  exact ⟨⟨a0, a1⟩, rfl, ⟨wf64 w0, wf64 w1⟩⟩
theorem opens_Frac_33 : Opens Tryz.prog 33 enc_Frac ok_Frac := ⟨by kernel_rfl, by decide, fun h => opn_Frac_33 h⟩
def ok_Weights (a : Weights) : Prop := ((∀ x ∈ a.Values, ok_Frac x) ∧ a.Values.length ≤ maxLen) ∧ ((∀ x ∈ a.Carries, ok_Frac x) ∧ a.Carries.length ≤ maxLen) ∧ ((∀ x ∈ a.Factors, ok_Frac x) ∧ a.Factors.length ≤ maxLen) ∧ ((∀ x ∈ a.Primes, ok64 x) ∧ a.Primes.length ≤ maxLen) ∧ ((∀ x ∈ a.Logs, ok64 x) ∧ a.Logs.length ≤ maxLen)
theorem opn_Weights_26 {H : Type} {enc : TypeId × Value → H} {w : World} {base : Nat} {spare : Nat → Bool} {held : Bool} {fuel : Nat} {cs : List Value} {x : DataW H × List MemPlace} (h : DataW.trod enc Tryz.prog w base spare held fuel 26 cs = some x) : ∃ (a : Weights) (A0 : Option Addr) (c0 : Nat) (A1 : Option Addr) (c1 : Nat) (A2 : Option Addr) (c2 : Nat) (A3 : Option Addr) (c3 : Nat) (A4 : Option Addr) (c4 : Nat), cs = [.slice A0 a.Values.length c0, .slice A1 a.Carries.length c1, .slice A2 a.Factors.length c2, .slice A3 a.Primes.length c3, .slice A4 a.Logs.length c4] ∧ RO NoS w (rowR enc_Frac A0 c0 a.Values) ∧ RO NoS w (rowR enc_Frac A1 c1 a.Carries) ∧ RO NoS w (rowR enc_Frac A2 c2 a.Factors) ∧ RO NoS w (rowR encInt A3 c3 a.Primes) ∧ RO NoS w (rowR encInt A4 c4 a.Logs) ∧ ok_Weights a := by
  obtain ⟨hl, n, hf⟩ := opn_fields Tryz.underlying26 h
  have hl0 : cs.length = 5 := hl.trans (by kernel_rfl)
  obtain ⟨q0, r0, rfl, hl1⟩ := cons_of hl0
  obtain ⟨q1, r1, rfl, hl2⟩ := cons_of hl1
  obtain ⟨q2, r2, rfl, hl3⟩ := cons_of hl2
  obtain ⟨q3, r3, rfl, hl4⟩ := cons_of hl3
  obtain ⟨q4, r4, rfl, hl5⟩ := cons_of hl4
  obtain rfl := List.eq_nil_of_length_eq_zero hl5
  obtain ⟨y0, h0⟩ := hf 0 _ 1 rfl (by kernel_rfl)
  have h0 : DataW.trod enc Tryz.prog w base spare held n 23 [q0] = some y0 := h0
  obtain ⟨A0_, c0_, a0, e0, o0, w0, m0⟩ := opn_row Tryz.underlying23 opens_Frac_33 h0
  injection e0 with f0 e0
  subst f0
  obtain ⟨y1, h1⟩ := hf 1 _ 1 rfl (by kernel_rfl)
  have h1 : DataW.trod enc Tryz.prog w base spare held n 23 [q1] = some y1 := h1
  obtain ⟨A1_, c1_, a1, e1, o1, w1, m1⟩ := opn_row Tryz.underlying23 opens_Frac_33 h1
  injection e1 with f1 e1
  subst f1
  obtain ⟨y2, h2⟩ := hf 2 _ 1 rfl (by kernel_rfl)
  have h2 : DataW.trod enc Tryz.prog w base spare held n 23 [q2] = some y2 := h2
  obtain ⟨A2_, c2_, a2, e2, o2, w2, m2⟩ := opn_row Tryz.underlying23 opens_Frac_33 h2
  injection e2 with f2 e2
  subst f2
  obtain ⟨y3, h3⟩ := hf 3 _ 1 rfl (by kernel_rfl)
  have h3 : DataW.trod enc Tryz.prog w base spare held n 24 [q3] = some y3 := h3
  obtain ⟨A3_, c3_, a3, e3, o3, w3, m3⟩ := opn_row Tryz.underlying24 (opens_int Tryz.underlying3 (by kernel_rfl)) h3
  injection e3 with f3 e3
  subst f3
  obtain ⟨y4, h4⟩ := hf 4 _ 1 rfl (by kernel_rfl)
  have h4 : DataW.trod enc Tryz.prog w base spare held n 24 [q4] = some y4 := h4
  obtain ⟨A4_, c4_, a4, e4, o4, w4, m4⟩ := opn_row Tryz.underlying24 (opens_int Tryz.underlying3 (by kernel_rfl)) h4
  injection e4 with f4 e4
  subst f4
  exact ⟨⟨a0, a1, a2, a3, a4⟩, A0_, c0_, A1_, c1_, A2_, c2_, A3_, c3_, A4_, c4_, rfl, o0, o1, o2, o3, o4, ⟨⟨w0, m0⟩, ⟨w1, m1⟩, ⟨w2, m2⟩, ⟨w3, m3⟩, ⟨w4, m4⟩⟩⟩
end Gp
