/- The functions that the law reaches, as plain functions; how what comes in is opened. -/
import Derived.Test.YtgdijgbjlioekaaDoorGs
set_option linter.unusedVariables false
set_option linter.unusedSimpArgs false
set_option maxHeartbeats 4000000
namespace Gp
open Go Gw
abbrev iv (n : Int) : Value := .int .i64 n
abbrev pt (g : Nat) : Value := .pointer (some ⟨g, 0, none⟩)
abbrev sv {α : Type} (A : Option Addr) (l : List α) (c : Nat) : Value := .slice A l.length c
abbrev bv (b : Bool) : Value := .bool b
structure Pattern where
  Width : Int
  Height : Int
  Cells : List Int
  deriving DecidableEq
def z_Pattern : Pattern := ⟨0, 0, []⟩
def encN_Pattern : Enc (HF × Pattern) := ⟨3, fun x => [(.int .i64 x.2.Width), (.int .i64 x.2.Height), (.slice (x.1 0).1 x.2.Cells.length (x.1 0).2)], fun _ => rfl, fun x u h => by simp at h; rcases h with rfl | rfl | rfl <;> rfl⟩
def subN_Pattern (h : HF) (x : Pattern) : Own := rowR encInt (h 0).1 (h 0).2 x.Cells
structure Tile where
  N : Int
  E : Int
  S : Int
  W : Int
  deriving DecidableEq
def z_Tile : Tile := ⟨0, 0, 0, 0⟩
def ints_Tile (x : Tile) : List Int := [x.N, x.E, x.S, x.W]
def enc_Tile : Enc Tile := ⟨4, fun x => [(.int .i64 x.N), (.int .i64 x.E), (.int .i64 x.S), (.int .i64 x.W)], fun _ => rfl, fun x u h => by simp at h; rcases h with rfl | rfl | rfl | rfl <;> rfl⟩
structure Change where
  tile : Unit
  size : Unit
  from_ : Unit
  deriving DecidableEq
def z_Change : Change := ⟨(), (), ()⟩
structure A3_Change where
  e0 : Change
  e1 : Change
  e2 : Change
  deriving DecidableEq
def z_A3_Change : A3_Change := ⟨z_Change, z_Change, z_Change⟩
def law01_wide (p0 : List Tile) : Option Bool := some (decide ((p0.length : Int) > 1100))
def tile_colour_1 (p0 : Int) : Option Bool := some ((decide (p0 < 0)) || (decide (p0 ≥ 1000)))
def slices_IndexFunc_int_int_with_tile_colour_1.l0 : Nat → Int → (List Int) → Option (Sum Int Unit)
  | 0, _, _ => none
  | k + 1, x2, p0 => if (decide (x2 < (p0.length : Int))) = true then (if 0 ≤ x2 ∧ x2 < (p0.length : Int) then ((tile_colour_1 (rdD p0 x2 0)).bind fun t3 => if t3 = true then (some (.inl x2)) else (slices_IndexFunc_int_int_with_tile_colour_1.l0 k (w64 (x2 + 1)) p0)) else none) else (some (.inr ()))
def slices_IndexFunc_int_int_with_tile_colour_1 (k : Nat) (p0 : List Int) : Option Int := (slices_IndexFunc_int_int_with_tile_colour_1.l0 k 0 p0).bind fun x2 => sumb x2 (fun r => some r) (fun y3 => some (-1))
def slices_ContainsFunc_int_int_with_tile_colour_1 (k : Nat) (p0 : List Int) : Option Bool := (slices_IndexFunc_int_int_with_tile_colour_1 k p0).bind fun t2 => some (decide (t2 ≥ 0))
def tile_colour (k : Nat) (p0 : List Int) : Option Bool := (slices_ContainsFunc_int_int_with_tile_colour_1 k p0).bind fun t2 => some (!t2)
def tile_Valid.l0 : Nat → (List (Tile × Bool)) → Int → (List Tile) → Option (Sum Bool Unit)
  | 0, _, _, _ => none
  | k + 1, l1, x2, p0 => if (decide (x2 < (p0.length : Int))) = true then (if 0 ≤ x2 ∧ x2 < (p0.length : Int) then ((if (mget (rdD p0 x2 z_Tile) false l1) = true then (some true) else ((tile_colour k [(rdD p0 x2 z_Tile).N, (rdD p0 x2 z_Tile).E, (rdD p0 x2 z_Tile).S, (rdD p0 x2 z_Tile).W]).bind fun t4 => some (!t4))).bind fun x3 => if x3 = true then (some (.inl false)) else (tile_Valid.l0 k (mput (rdD p0 x2 z_Tile) true l1) (w64 (x2 + 1)) p0)) else none) else (some (.inr ()))
def tile_Valid (k : Nat) (p0 : List Tile) : Option Bool := if (decide ((p0.length : Int) > 1000)) = true then (some false) else ((tile_Valid.l0 k ([] : List (Tile × Bool)) 0 p0).bind fun x1 => sumb x1 (fun r => some r) (fun y2 => some true))
def tile_write.l1 : Nat → (List ByteArray) → Int → (List Tile) → Int → Option (List ByteArray)
  | 0, _, _, _, _ => none
  | k + 1, l3, x4, p0, x2 => if (decide (x4 < 4)) = true then (if (x4 == 0) = true then ((itoaN ((rdD p0 x2 z_Tile).N)).bind fun t5 => if l3.length + [t5].length ≤ 100000000000 then (tile_write.l1 k (l3 ++ [t5]) (w64 (x4 + 1)) p0 x2) else none) else (if (x4 == 1) = true then ((itoaN ((rdD p0 x2 z_Tile).E)).bind fun t6 => if l3.length + [t6].length ≤ 100000000000 then (tile_write.l1 k (l3 ++ [t6]) (w64 (x4 + 1)) p0 x2) else none) else (if (x4 == 2) = true then ((itoaN ((rdD p0 x2 z_Tile).S)).bind fun t7 => if l3.length + [t7].length ≤ 100000000000 then (tile_write.l1 k (l3 ++ [t7]) (w64 (x4 + 1)) p0 x2) else none) else (if (x4 == 3) = true then ((itoaN ((rdD p0 x2 z_Tile).W)).bind fun t8 => if l3.length + [t8].length ≤ 100000000000 then (tile_write.l1 k (l3 ++ [t8]) (w64 (x4 + 1)) p0 x2) else none) else (none))))) else (some l3)
def tile_write.l0 : Nat → (List ByteArray) → Int → (List Tile) → Option (List ByteArray)
  | 0, _, _, _ => none
  | k + 1, l2, x3, p0 => if (decide (x3 < (p0.length : Int))) = true then (if 0 ≤ x3 ∧ x3 < (p0.length : Int) then ((tile_write.l1 k ([] : List ByteArray) 0 p0 x3).bind fun x4 => (joinP x4 (⟨#[46]⟩ : ByteArray)).bind fun t5 => if l2.length + [t5].length ≤ 100000000000 then (tile_write.l0 k (l2 ++ [t5]) (w64 (x3 + 1)) p0) else none) else none) else (some l2)
def tile_write (k : Nat) (p0 : List Tile) : Option ByteArray := (tile_write.l0 k ([] : List ByteArray) 0 p0).bind fun x1 => (joinP x1 (⟨#[32]⟩ : ByteArray)).bind fun t2 => some t2
def tile_Parse.l1 : Nat → Int → Int → Int → Int → Int → ByteArray → Int → Option (Sum ((List Tile) × Int) (Int × Int × Int × Int))
  | 0, _, _, _, _, _, _, _ => none
  | k + 1, x3, x4, x5, x6, x7, p0, x2 => if (decide (x7 < ((splitP (rdD (splitP p0 (⟨#[32]⟩ : ByteArray)) x2 ByteArray.empty) (⟨#[46]⟩ : ByteArray)).length : Int))) = true then (if 0 ≤ x7 ∧ x7 < ((splitP (rdD (splitP p0 (⟨#[32]⟩ : ByteArray)) x2 ByteArray.empty) (⟨#[46]⟩ : ByteArray)).length : Int) then ((atoiN (rdD (splitP (rdD (splitP p0 (⟨#[32]⟩ : ByteArray)) x2 ByteArray.empty) (⟨#[46]⟩ : ByteArray)) x7 ByteArray.empty)).bind fun t8 => if t8.2 = true then (some (.inl (([] : List Tile), 3))) else (if (x7 == 0) = true then (tile_Parse.l1 k t8.1 x4 x5 x6 (w64 (x7 + 1)) p0 x2) else (if (x7 == 1) = true then (tile_Parse.l1 k x3 t8.1 x5 x6 (w64 (x7 + 1)) p0 x2) else (if (x7 == 2) = true then (tile_Parse.l1 k x3 x4 t8.1 x6 (w64 (x7 + 1)) p0 x2) else (if (x7 == 3) = true then (tile_Parse.l1 k x3 x4 x5 t8.1 (w64 (x7 + 1)) p0 x2) else (none)))))) else none) else (some (.inr (x3, x4, x5, x6)))
def tile_Parse.l0 : Nat → (List Tile) → Int → ByteArray → Option (Sum ((List Tile) × Int) (List Tile))
  | 0, _, _, _ => none
  | k + 1, l2, x3, p0 => if (decide (x3 < ((splitP p0 (⟨#[32]⟩ : ByteArray)).length : Int))) = true then (if 0 ≤ x3 ∧ x3 < ((splitP p0 (⟨#[32]⟩ : ByteArray)).length : Int) then (if (rdD (splitP p0 (⟨#[32]⟩ : ByteArray)) x3 ByteArray.empty).size < 4294967281 ∧ 1 ≤ (⟨#[46]⟩ : ByteArray).size then (if ((((splitP (rdD (splitP p0 (⟨#[32]⟩ : ByteArray)) x3 ByteArray.empty) (⟨#[46]⟩ : ByteArray)).length : Int) != 4) || (decide ((l2.length : Int) > 1000))) = true then (some (.inl (([] : List Tile), 3))) else ((tile_Parse.l1 k 0 0 0 0 0 p0 x3).bind fun x4 => sumb x4 (fun r => some (.inl r)) (fun y5 => if l2.length + [(Tile.mk y5.1 y5.2.1 y5.2.2.1 y5.2.2.2)].length ≤ 100000000000 then (tile_Parse.l0 k (l2 ++ [(Tile.mk y5.1 y5.2.1 y5.2.2.1 y5.2.2.2)]) (w64 (x3 + 1)) p0) else none))) else none) else none) else (some (.inr l2))
def tile_Parse (k : Nat) (p0 : ByteArray) : Option ((List Tile) × Int) := if (strEq p0 (⟨#[]⟩ : ByteArray)) = true then (some (([] : List Tile), 0)) else (if (decide ((p0.size : Int) > 16000)) = true then (some (([] : List Tile), 3)) else (if p0.size < 4294967281 ∧ 1 ≤ (⟨#[32]⟩ : ByteArray).size then ((tile_Parse.l0 k ([] : List Tile) 0 p0).bind fun x1 => sumb x1 (fun r => some r) (fun y2 => (tile_Valid k y2).bind fun t3 => (if (!t3) = true then (some true) else ((tile_write k y2).bind fun t5 => some (!(strEq t5 p0)))).bind fun x4 => if x4 = true then (some (([] : List Tile), 3)) else (some (y2, 0)))) else none))
def tile_Text (k : Nat) (p0 : List Tile) : Option (ByteArray × Int) := (tile_Valid k p0).bind fun t1 => if (!t1) = true then (some ((⟨#[]⟩ : ByteArray), 1)) else ((tile_write k p0).bind fun t2 => some (t2, 0))
def tile_Form (p0 : Pattern) : Option Bool := some ((((((decide (p0.Width ≥ 1)) && (decide (p0.Height ≥ 1))) && (decide (p0.Width ≤ 40000))) && (decide (p0.Height ≤ 40000))) && (decide (w64 (p0.Width * p0.Height) ≤ 40000))) && ((p0.Cells.length : Int) == (w64 (p0.Width * p0.Height))))
def tile_of_1 (p0 : Int) (f0 : List Tile) : Option Bool := some ((decide (p0 < 0)) || (decide (p0 ≥ (f0.length : Int))))
def slices_IndexFunc_int_int_with_tile_of_1.l0 : Nat → Int → (List Int) → (List Tile) → Option (Sum Int Unit)
  | 0, _, _, _ => none
  | k + 1, x2, p0, p1_0 => if (decide (x2 < (p0.length : Int))) = true then (if 0 ≤ x2 ∧ x2 < (p0.length : Int) then ((tile_of_1 (rdD p0 x2 0) p1_0).bind fun t3 => if t3 = true then (some (.inl x2)) else (slices_IndexFunc_int_int_with_tile_of_1.l0 k (w64 (x2 + 1)) p0 p1_0)) else none) else (some (.inr ()))
def slices_IndexFunc_int_int_with_tile_of_1 (k : Nat) (p0 : List Int) (p1_0 : List Tile) : Option Int := (slices_IndexFunc_int_int_with_tile_of_1.l0 k 0 p0 p1_0).bind fun x2 => sumb x2 (fun r => some r) (fun y3 => some (-1))
def slices_ContainsFunc_int_int_with_tile_of_1 (k : Nat) (p0 : List Int) (p1_0 : List Tile) : Option Bool := (slices_IndexFunc_int_int_with_tile_of_1 k p0 p1_0).bind fun t2 => some (decide (t2 ≥ 0))
def tile_of (k : Nat) (p0 : List Tile) (p1 : Pattern) : Option Bool := (tile_Valid k p0).bind fun t2 => (if t2 = true then ((tile_Form p1).bind fun t4 => some t4) else (some false)).bind fun x3 => (if x3 = true then ((slices_ContainsFunc_int_int_with_tile_of_1 k p1.Cells p0).bind fun t6 => some (!t6)) else (some false)).bind fun x5 => some x5
def tile_joins.l0 : Nat → Int → (List Tile) → Pattern → Bool → Option (Sum Bool Unit)
  | 0, _, _, _, _ => none
  | k + 1, x3, p0, p1, p2 => if (decide (x3 < (p1.Cells.length : Int))) = true then (if 0 ≤ x3 ∧ x3 < (p1.Cells.length : Int) then (if p1.Width ≠ 0 then ((if ((decide (w64 ((Int.tmod x3 p1.Width) + 1) < p1.Width)) || p2) = true then (if 0 ≤ (rdD p1.Cells x3 0) ∧ (rdD p1.Cells x3 0) < (p0.length : Int) then (if 0 ≤ w64 ((w64 ((w64 (Int.tdiv x3 p1.Width)) * p1.Width)) + (Int.tmod (w64 ((Int.tmod x3 p1.Width) + 1)) p1.Width)) ∧ w64 ((w64 ((w64 (Int.tdiv x3 p1.Width)) * p1.Width)) + (Int.tmod (w64 ((Int.tmod x3 p1.Width) + 1)) p1.Width)) < (p1.Cells.length : Int) then (if 0 ≤ (rdD p1.Cells (w64 ((w64 ((w64 (Int.tdiv x3 p1.Width)) * p1.Width)) + (Int.tmod (w64 ((Int.tmod x3 p1.Width) + 1)) p1.Width))) 0) ∧ (rdD p1.Cells (w64 ((w64 ((w64 (Int.tdiv x3 p1.Width)) * p1.Width)) + (Int.tmod (w64 ((Int.tmod x3 p1.Width) + 1)) p1.Width))) 0) < (p0.length : Int) then (if (((rdD p0 (rdD p1.Cells x3 0) z_Tile).E) != ((rdD p0 (rdD p1.Cells (w64 ((w64 ((w64 (Int.tdiv x3 p1.Width)) * p1.Width)) + (Int.tmod (w64 ((Int.tmod x3 p1.Width) + 1)) p1.Width))) 0) z_Tile).W)) = true then (some (.inl false)) else (some (.inr ()))) else none) else none) else none) else (some (.inr ()))).bind fun x4 => sumb x4 (fun r => some (.inl r)) (fun y5 => (if ((decide (w64 ((w64 (Int.tdiv x3 p1.Width)) + 1) < p1.Height)) || p2) = true then (if 0 ≤ (rdD p1.Cells x3 0) ∧ (rdD p1.Cells x3 0) < (p0.length : Int) then (if p1.Height ≠ 0 then (if 0 ≤ w64 ((w64 ((Int.tmod (w64 ((w64 (Int.tdiv x3 p1.Width)) + 1)) p1.Height) * p1.Width)) + (Int.tmod x3 p1.Width)) ∧ w64 ((w64 ((Int.tmod (w64 ((w64 (Int.tdiv x3 p1.Width)) + 1)) p1.Height) * p1.Width)) + (Int.tmod x3 p1.Width)) < (p1.Cells.length : Int) then (if 0 ≤ (rdD p1.Cells (w64 ((w64 ((Int.tmod (w64 ((w64 (Int.tdiv x3 p1.Width)) + 1)) p1.Height) * p1.Width)) + (Int.tmod x3 p1.Width))) 0) ∧ (rdD p1.Cells (w64 ((w64 ((Int.tmod (w64 ((w64 (Int.tdiv x3 p1.Width)) + 1)) p1.Height) * p1.Width)) + (Int.tmod x3 p1.Width))) 0) < (p0.length : Int) then (if (((rdD p0 (rdD p1.Cells x3 0) z_Tile).N) != ((rdD p0 (rdD p1.Cells (w64 ((w64 ((Int.tmod (w64 ((w64 (Int.tdiv x3 p1.Width)) + 1)) p1.Height) * p1.Width)) + (Int.tmod x3 p1.Width))) 0) z_Tile).S)) = true then (some (.inl false)) else (some (.inr ()))) else none) else none) else none) else none) else (some (.inr ()))).bind fun x6 => sumb x6 (fun r => some (.inl r)) (fun y7 => tile_joins.l0 k (w64 (x3 + 1)) p0 p1 p2))) else none) else none) else (some (.inr ()))
def tile_joins (k : Nat) (p0 : List Tile) (p1 : Pattern) (p2 : Bool) : Option Bool := (tile_joins.l0 k 0 p0 p1 p2).bind fun x3 => sumb x3 (fun r => some r) (fun y4 => some true)
def tile_Repeats (k : Nat) (p0 : List Tile) (p1 : Pattern) : Option Bool := (tile_of k p0 p1).bind fun t2 => (if t2 = true then ((tile_joins k p0 p1 true).bind fun t4 => some t4) else (some false)).bind fun x3 => some x3
def tile_Fits (k : Nat) (p0 : List Tile) (p1 : Pattern) : Option Bool := (tile_of k p0 p1).bind fun t2 => (if t2 = true then ((tile_joins k p0 p1 false).bind fun t4 => some t4) else (some false)).bind fun x3 => some x3
def law01_awake (k : Nat)  : Option Bool := (tile_Parse k (⟨#[48, 46, 49, 46, 48, 46, 49]⟩ : ByteArray)).bind fun t2 => (tile_Parse k (⟨#[48, 46, 49, 46, 49, 46, 48, 32, 49, 46, 48, 46, 48, 46, 49]⟩ : ByteArray)).bind fun t3 => (tile_Text k t3.1).bind fun t4 => (if ((((t2.2 == 0) && (t3.2 == 0)) && (t4.2 == 0)) && (strEq t4.1 (⟨#[48, 46, 49, 46, 49, 46, 48, 32, 49, 46, 48, 46, 48, 46, 49]⟩ : ByteArray))) = true then ((tile_Repeats k t2.1 (Pattern.mk 1 1 [0])).bind fun t6 => some t6) else (some false)).bind fun x5 => (if x5 = true then ((tile_Repeats k t3.1 (Pattern.mk 2 2 [0, 1, 1, 0])).bind fun t8 => some t8) else (some false)).bind fun x7 => (if x7 = true then ((tile_Fits k t3.1 (Pattern.mk 2 1 [0, 0])).bind fun t10 => some (!t10)) else (some false)).bind fun x9 => some x9
def tile_changes  : Option A3_Change := some (A3_Change.mk (Change.mk () () ()) (Change.mk () () ()) (Change.mk () () ()))
def tile_changes_1 (p0 : Tile) : Option Tile := some (Tile.mk p0.N p0.W p0.S p0.E)
def tile_changed_at0.l0 : Nat → (List Tile) → Int → (List Tile) → Option (List Tile)
  | 0, _, _, _ => none
  | k + 1, l2, x3, p0 => if (decide (x3 < (p0.length : Int))) = true then (if 0 ≤ x3 ∧ x3 < (p0.length : Int) then ((tile_changes).bind fun t4 => (tile_changes_1 (rdD p0 x3 z_Tile)).bind fun t5 => if l2.length + [t5].length ≤ 100000000000 then (tile_changed_at0.l0 k (l2 ++ [t5]) (w64 (x3 + 1)) p0) else none) else none) else (some l2)
def tile_changed_at0 (k : Nat) (p0 : List Tile) : Option ((List Tile) × Int) := (tile_Valid k p0).bind fun t1 => if (!t1) = true then (some (([] : List Tile), 1)) else ((tile_changed_at0.l0 k ([] : List Tile) 0 p0).bind fun x2 => some (x2, 0))
def tile_Mirror (k : Nat) (p0 : List Tile) : Option ((List Tile) × Int) := (tile_changed_at0 k p0).bind fun t1 => some (t1.1, t1.2)
def tile_changes_3 (p0 : Tile) : Option Tile := some (Tile.mk p0.S p0.E p0.N p0.W)
def tile_changed_at1.l0 : Nat → (List Tile) → Int → (List Tile) → Option (List Tile)
  | 0, _, _, _ => none
  | k + 1, l2, x4, p0 => if (decide (x4 < (p0.length : Int))) = true then (if 0 ≤ x4 ∧ x4 < (p0.length : Int) then ((tile_changes).bind fun t5 => (tile_changes_3 (rdD p0 x4 z_Tile)).bind fun t6 => if l2.length + [t6].length ≤ 100000000000 then (tile_changed_at1.l0 k (l2 ++ [t6]) (w64 (x4 + 1)) p0) else none) else none) else (some l2)
def tile_changed_at1 (k : Nat) (p0 : List Tile) : Option ((List Tile) × Int) := (tile_Valid k p0).bind fun t2 => if (!t2) = true then (some (([] : List Tile), 1)) else ((tile_changed_at1.l0 k ([] : List Tile) 0 p0).bind fun x3 => some (x3, 0))
def tile_Upturn (k : Nat) (p0 : List Tile) : Option ((List Tile) × Int) := (tile_changed_at1 k p0).bind fun t2 => some (t2.1, t2.2)
def tile_changes_5 (p0 : Tile) : Option Tile := some (Tile.mk p0.W p0.N p0.E p0.S)
def tile_changed_at2.l0 : Nat → (List Tile) → Int → (List Tile) → Option (List Tile)
  | 0, _, _, _ => none
  | k + 1, l1, x3, p0 => if (decide (x3 < (p0.length : Int))) = true then (if 0 ≤ x3 ∧ x3 < (p0.length : Int) then ((tile_changes).bind fun t4 => (tile_changes_5 (rdD p0 x3 z_Tile)).bind fun t6 => if l1.length + [t6].length ≤ 100000000000 then (tile_changed_at2.l0 k (l1 ++ [t6]) (w64 (x3 + 1)) p0) else none) else none) else (some l1)
def tile_changed_at2 (k : Nat) (p0 : List Tile) : Option ((List Tile) × Int) := (tile_Valid k p0).bind fun t1 => if (!t1) = true then (some (([] : List Tile), 1)) else ((tile_changed_at2.l0 k ([] : List Tile) 0 p0).bind fun x3 => some (x3, 0))
def tile_Turn (k : Nat) (p0 : List Tile) : Option ((List Tile) × Int) := (tile_changed_at2 k p0).bind fun t1 => some (t1.1, t1.2)
def ref01_colour (p0 : Int) : Option Bool := some ((decide (p0 ≥ 0)) && (decide (p0 < 1000)))
def ref01_Index.l0 : Nat → Int → (List Tile) → Tile → Option (Sum Int Unit)
  | 0, _, _, _ => none
  | k + 1, x2, p0, p1 => if (decide (x2 < (p0.length : Int))) = true then (if 0 ≤ x2 ∧ x2 < (p0.length : Int) then (if (((rdD p0 x2 z_Tile).N) == p1.N && (((rdD p0 x2 z_Tile).E) == p1.E && (((rdD p0 x2 z_Tile).S) == p1.S && (((rdD p0 x2 z_Tile).W) == p1.W)))) = true then (some (.inl x2)) else (ref01_Index.l0 k (w64 (x2 + 1)) p0 p1)) else none) else (some (.inr ()))
def ref01_Index (k : Nat) (p0 : List Tile) (p1 : Tile) : Option Int := (ref01_Index.l0 k 0 p0 p1).bind fun x2 => sumb x2 (fun r => some r) (fun y3 => some (-1))
def ref01_Valid.l0 : Nat → Int → (List Tile) → Option (Sum Bool Unit)
  | 0, _, _ => none
  | k + 1, x2, p0 => if (decide (x2 < (p0.length : Int))) = true then (if 0 ≤ x2 ∧ x2 < (p0.length : Int) then ((ref01_colour ((rdD p0 x2 z_Tile).N)).bind fun t3 => (if (!t3) = true then (some true) else ((ref01_colour ((rdD p0 x2 z_Tile).E)).bind fun t5 => some (!t5))).bind fun x4 => (if x4 = true then (some true) else ((ref01_colour ((rdD p0 x2 z_Tile).S)).bind fun t7 => some (!t7))).bind fun x6 => (if x6 = true then (some true) else ((ref01_colour ((rdD p0 x2 z_Tile).W)).bind fun t9 => some (!t9))).bind fun x8 => (if x8 = true then (some true) else (if 0 ≤ (0 : Int) ∧ (0 : Int) ≤ x2 ∧ x2 ≤ (p0.length : Int) then ((ref01_Index k (cut p0 (0 : Int) x2) (rdD p0 x2 z_Tile)).bind fun t11 => some (decide (t11 ≥ 0))) else none)).bind fun x10 => if x10 = true then (some (.inl false)) else (ref01_Valid.l0 k (w64 (x2 + 1)) p0)) else none) else (some (.inr ()))
def ref01_Valid (k : Nat) (p0 : List Tile) : Option Bool := if (decide ((p0.length : Int) > 1000)) = true then (some false) else ((ref01_Valid.l0 k 0 p0).bind fun x2 => sumb x2 (fun r => some r) (fun y3 => some true))
def law01_none (p0 : List Tile) (p1 : Int) : Option Bool := some ((p1 == 1) && ((p0.length : Int) == 0))
def ref01_digits : Nat → Int → Option ByteArray
  | 0, _ => none
  | k + 1, p0 => if (decide (p0 < 10)) = true then (some (strOfNums [IntKind.wrap .u8 (w64 (48 + (Int.tmod p0 10)))])) else (((ref01_digits k) (w64 (Int.tdiv p0 10))).bind fun t2 => if t2.size + (strOfNums [IntKind.wrap .u8 (w64 (48 + (Int.tmod p0 10)))]).size ≤ 9223372036854775807 then (some (t2 ++ (strOfNums [IntKind.wrap .u8 (w64 (48 + (Int.tmod p0 10)))]))) else none)
def ref01_Text.l0 : Nat → (List Int) → Int → (List Tile) → Option (List Int)
  | 0, _, _, _ => none
  | k + 1, l2, x3, p0 => if (decide (x3 < (p0.length : Int))) = true then ((if (decide (x3 > 0)) = true then (if l2.length + [32].length ≤ 100000000000 then (some (l2 ++ [32])) else none) else (some l2)).bind fun x4 => if 0 ≤ x3 ∧ x3 < (p0.length : Int) then ((ref01_digits k ((rdD p0 x3 z_Tile).N)).bind fun t5 => if t5.size + (⟨#[46]⟩ : ByteArray).size ≤ 9223372036854775807 then ((ref01_digits k ((rdD p0 x3 z_Tile).E)).bind fun t6 => if (t5 ++ (⟨#[46]⟩ : ByteArray)).size + t6.size ≤ 9223372036854775807 then (if ((t5 ++ (⟨#[46]⟩ : ByteArray)) ++ t6).size + (⟨#[46]⟩ : ByteArray).size ≤ 9223372036854775807 then ((ref01_digits k ((rdD p0 x3 z_Tile).S)).bind fun t7 => if (((t5 ++ (⟨#[46]⟩ : ByteArray)) ++ t6) ++ (⟨#[46]⟩ : ByteArray)).size + t7.size ≤ 9223372036854775807 then (if ((((t5 ++ (⟨#[46]⟩ : ByteArray)) ++ t6) ++ (⟨#[46]⟩ : ByteArray)) ++ t7).size + (⟨#[46]⟩ : ByteArray).size ≤ 9223372036854775807 then ((ref01_digits k ((rdD p0 x3 z_Tile).W)).bind fun t9 => if (((((t5 ++ (⟨#[46]⟩ : ByteArray)) ++ t6) ++ (⟨#[46]⟩ : ByteArray)) ++ t7) ++ (⟨#[46]⟩ : ByteArray)).size + t9.size ≤ 9223372036854775807 then (if x4.length + ((((((t5 ++ (⟨#[46]⟩ : ByteArray)) ++ t6) ++ (⟨#[46]⟩ : ByteArray)) ++ t7) ++ (⟨#[46]⟩ : ByteArray)) ++ t9).size ≤ 100000000000 then (ref01_Text.l0 k (x4 ++ u8s ((((((t5 ++ (⟨#[46]⟩ : ByteArray)) ++ t6) ++ (⟨#[46]⟩ : ByteArray)) ++ t7) ++ (⟨#[46]⟩ : ByteArray)) ++ t9)) (w64 (x3 + 1)) p0) else none) else none) else none) else none) else none) else none) else none) else none) else (some l2)
def ref01_Text (k : Nat) (p0 : List Tile) : Option ByteArray := (ref01_Text.l0 k ([] : List Int) 0 p0).bind fun x2 => some (strOfNums x2)
def ref01_SameSet.l0 : Nat → Int → (List Tile) → (List Tile) → Option (Sum Bool Unit)
  | 0, _, _, _ => none
  | k + 1, x2, p0, p1 => if (decide (x2 < (p0.length : Int))) = true then (if 0 ≤ x2 ∧ x2 < (p0.length : Int) then (if 0 ≤ x2 ∧ x2 < (p1.length : Int) then (if (!(((rdD p0 x2 z_Tile).N) == ((rdD p1 x2 z_Tile).N) && (((rdD p0 x2 z_Tile).E) == ((rdD p1 x2 z_Tile).E) && (((rdD p0 x2 z_Tile).S) == ((rdD p1 x2 z_Tile).S) && (((rdD p0 x2 z_Tile).W) == ((rdD p1 x2 z_Tile).W)))))) = true then (some (.inl false)) else (ref01_SameSet.l0 k (w64 (x2 + 1)) p0 p1)) else none) else none) else (some (.inr ()))
def ref01_SameSet (k : Nat) (p0 : List Tile) (p1 : List Tile) : Option Bool := if ((p0.length : Int) != (p1.length : Int)) = true then (some false) else ((ref01_SameSet.l0 k 0 p0 p1).bind fun x2 => sumb x2 (fun r => some r) (fun y3 => some true))
def ref01_Mirror.l0 : Nat → (List Tile) → Int → (List Tile) → Option (List Tile)
  | 0, _, _, _ => none
  | k + 1, l2, x3, p0 => if (decide (x3 < (p0.length : Int))) = true then (if 0 ≤ x3 ∧ x3 < (p0.length : Int) then (if l2.length + [(Tile.mk ((rdD p0 x3 z_Tile).N) ((rdD p0 x3 z_Tile).W) ((rdD p0 x3 z_Tile).S) ((rdD p0 x3 z_Tile).E))].length ≤ 100000000000 then (ref01_Mirror.l0 k (l2 ++ [(Tile.mk ((rdD p0 x3 z_Tile).N) ((rdD p0 x3 z_Tile).W) ((rdD p0 x3 z_Tile).S) ((rdD p0 x3 z_Tile).E))]) (w64 (x3 + 1)) p0) else none) else none) else (some l2)
def ref01_Mirror (k : Nat) (p0 : List Tile) : Option (List Tile) := (ref01_Mirror.l0 k ([] : List Tile) 0 p0).bind fun x2 => some x2
def ref01_Upturn.l0 : Nat → (List Tile) → Int → (List Tile) → Option (List Tile)
  | 0, _, _, _ => none
  | k + 1, l2, x3, p0 => if (decide (x3 < (p0.length : Int))) = true then (if 0 ≤ x3 ∧ x3 < (p0.length : Int) then (if l2.length + [(Tile.mk ((rdD p0 x3 z_Tile).S) ((rdD p0 x3 z_Tile).E) ((rdD p0 x3 z_Tile).N) ((rdD p0 x3 z_Tile).W))].length ≤ 100000000000 then (ref01_Upturn.l0 k (l2 ++ [(Tile.mk ((rdD p0 x3 z_Tile).S) ((rdD p0 x3 z_Tile).E) ((rdD p0 x3 z_Tile).N) ((rdD p0 x3 z_Tile).W))]) (w64 (x3 + 1)) p0) else none) else none) else (some l2)
def ref01_Upturn (k : Nat) (p0 : List Tile) : Option (List Tile) := (ref01_Upturn.l0 k ([] : List Tile) 0 p0).bind fun x2 => some x2
def ref01_Turn.l0 : Nat → (List Tile) → Int → (List Tile) → Option (List Tile)
  | 0, _, _, _ => none
  | k + 1, l2, x3, p0 => if (decide (x3 < (p0.length : Int))) = true then (if 0 ≤ x3 ∧ x3 < (p0.length : Int) then (if l2.length + [(Tile.mk ((rdD p0 x3 z_Tile).W) ((rdD p0 x3 z_Tile).N) ((rdD p0 x3 z_Tile).E) ((rdD p0 x3 z_Tile).S))].length ≤ 100000000000 then (ref01_Turn.l0 k (l2 ++ [(Tile.mk ((rdD p0 x3 z_Tile).W) ((rdD p0 x3 z_Tile).N) ((rdD p0 x3 z_Tile).E) ((rdD p0 x3 z_Tile).S))]) (w64 (x3 + 1)) p0) else none) else none) else (some l2)
def ref01_Turn (k : Nat) (p0 : List Tile) : Option (List Tile) := (ref01_Turn.l0 k ([] : List Tile) 0 p0).bind fun x2 => some x2
def law01_TileSets (k : Nat) (p0 : List Tile) : Option Bool := (law01_wide p0).bind fun t1 => if t1 = true then ((law01_awake k).bind fun t2 => some t2) else ((tile_Mirror k p0).bind fun t3 => (tile_Upturn k p0).bind fun t4 => (tile_Turn k p0).bind fun t5 => (tile_Text k p0).bind fun t6 => (tile_Valid k p0).bind fun t7 => (ref01_Valid k p0).bind fun t8 => if (t7 != t8) = true then (some false) else ((ref01_Valid k p0).bind fun t9 => if (!t9) = true then ((law01_none t3.1 t3.2).bind fun t10 => (if t10 = true then ((law01_none t4.1 t4.2).bind fun t12 => some t12) else (some false)).bind fun x11 => (if x11 = true then ((law01_none t5.1 t5.2).bind fun t14 => some t14) else (some false)).bind fun x13 => (if ((x13 && (t6.2 == 1)) && (strEq t6.1 (⟨#[]⟩ : ByteArray))) = true then ((law01_awake k).bind fun t16 => some t16) else (some false)).bind fun x15 => some x15) else ((if ((((t3.2 != 0) || (t4.2 != 0)) || (t5.2 != 0)) || (t6.2 != 0)) = true then (some true) else ((ref01_Text k p0).bind fun t18 => some (!(strEq t6.1 t18)))).bind fun x17 => if x17 = true then (some false) else ((tile_Parse k t6.1).bind fun t19 => (if (t19.2 == 0) = true then ((ref01_SameSet k t19.1 p0).bind fun t21 => some t21) else (some false)).bind fun x20 => (if x20 = true then ((ref01_Mirror k p0).bind fun t23 => (ref01_SameSet k t3.1 t23).bind fun t24 => some t24) else (some false)).bind fun x22 => (if x22 = true then ((ref01_Upturn k p0).bind fun t26 => (ref01_SameSet k t4.1 t26).bind fun t27 => some t27) else (some false)).bind fun x25 => (if x25 = true then ((ref01_Turn k p0).bind fun t29 => (ref01_SameSet k t5.1 t29).bind fun t30 => some t30) else (some false)).bind fun x28 => (if x28 = true then ((law01_awake k).bind fun t32 => some t32) else (some false)).bind fun x31 => some x31))))
end Gp
namespace Gp
open Go Gw Go.Proofs Go.RowKit
def ok_Tile (a : Tile) : Prop := (ok64 a.N) ∧ (ok64 a.E) ∧ (ok64 a.S) ∧ (ok64 a.W)
theorem opn_Tile_50 {H : Type} {enc : TypeId × Value → H} {w : World} {base : Nat} {spare : Nat → Bool} {held : Bool} {fuel : Nat} {cs : List Value} {x : DataW H × List MemPlace} (h : DataW.trod enc Tryd.prog w base spare held fuel 50 cs = some x) : ∃ (a : Tile), cs = [.int .i64 a.N, .int .i64 a.E, .int .i64 a.S, .int .i64 a.W] ∧ ok_Tile a := by
  obtain ⟨hl, n, hf⟩ := opn_fields Tryd.underlying50 h
  have hl0 : cs.length = 4 := hl.trans (by kernel_rfl)
  obtain ⟨q0, r0, rfl, hl1⟩ := cons_of hl0
  obtain ⟨q1, r1, rfl, hl2⟩ := cons_of hl1
  obtain ⟨q2, r2, rfl, hl3⟩ := cons_of hl2
  obtain ⟨q3, r3, rfl, hl4⟩ := cons_of hl3
  obtain rfl := List.eq_nil_of_length_eq_zero hl4
  obtain ⟨y0, h0⟩ := hf 0 _ 1 rfl (by kernel_rfl)
  have h0 : DataW.trod enc Tryd.prog w base spare held n 3 [q0] = some y0 := h0
  obtain ⟨a0, e0, w0⟩ := opn_int Tryd.underlying3 h0
  injection e0 with f0 e0
  subst f0
  obtain ⟨y1, h1⟩ := hf 1 _ 1 rfl (by kernel_rfl)
  have h1 : DataW.trod enc Tryd.prog w base spare held n 3 [q1] = some y1 := h1
  obtain ⟨a1, e1, w1⟩ := opn_int Tryd.underlying3 h1
  injection e1 with f1 e1
  subst f1
  obtain ⟨y2, h2⟩ := hf 2 _ 1 rfl (by kernel_rfl)
  have h2 : DataW.trod enc Tryd.prog w base spare held n 3 [q2] = some y2 := h2
  obtain ⟨a2, e2, w2⟩ := opn_int Tryd.underlying3 h2
  injection e2 with f2 e2
  subst f2
  obtain ⟨y3, h3⟩ := hf 3 _ 1 rfl (by kernel_rfl)
  have h3 : DataW.trod enc Tryd.prog w base spare held n 3 [q3] = some y3 := h3
  obtain ⟨a3, e3, w3⟩ := opn_int Tryd.underlying3 h3
  injection e3 with f3 e3
  subst f3
  exact ⟨⟨a0, a1, a2, a3⟩, rfl, ⟨wf64 w0, wf64 w1, wf64 w2, wf64 w3⟩⟩
theorem opens_Tile_50 : Opens Tryd.prog 50 enc_Tile ok_Tile := ⟨by kernel_rfl, by decide, fun h => opn_Tile_50 h⟩
end Gp
