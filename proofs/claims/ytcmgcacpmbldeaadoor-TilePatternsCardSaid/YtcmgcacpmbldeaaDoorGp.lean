/- The functions that the law reaches, as plain functions; how what comes in is opened. -/
import Derived.Test.YtcmgcacpmbldeaaDoorGs
set_option linter.unusedVariables false
set_option linter.unusedSimpArgs false
namespace Gp
open Go Gw
structure Pattern where
  Width : Int
  Height : Int
  Cells : List Int
  deriving DecidableEq
def z_Pattern : Pattern := ⟨0, 0, []⟩
structure Tile where
  N : Int
  E : Int
  S : Int
  W : Int
  deriving DecidableEq
def z_Tile : Tile := ⟨0, 0, 0, 0⟩
def ints_Tile (x : Tile) : List Int := [x.N, x.E, x.S, x.W]
def enc_Tile : Enc Tile := ⟨4, fun x => [(.int .i64 x.N), (.int .i64 x.E), (.int .i64 x.S), (.int .i64 x.W)], fun _ => rfl, fun x u h => by simp at h; rcases h with rfl | rfl | rfl | rfl <;> rfl⟩
structure Change where
  tile : Unit
  size : Unit
  from_ : Unit
  deriving DecidableEq
def z_Change : Change := ⟨(), (), ()⟩
structure A3_Change where
  e0 : Change
  e1 : Change
  e2 : Change
  deriving DecidableEq
def z_A3_Change : A3_Change := ⟨z_Change, z_Change, z_Change⟩
def tile_colour_1 (p0 : Int) : Option Bool := some ((decide (p0 < 0)) || (decide (p0 ≥ 1000)))
def slices_IndexFunc_int_int_with_tile_colour_1.l0 : Nat → Int → (List Int) → Option (Sum Int Unit)
  | 0, _, _ => none
  | k + 1, x431, p0 => if (decide (x431 < (p0.length : Int))) = true then (if 0 ≤ x431 ∧ x431 < (p0.length : Int) then ((tile_colour_1 (rdD p0 x431 0)).bind fun t440 => if t440 = true then (some (.inl x431)) else (slices_IndexFunc_int_int_with_tile_colour_1.l0 k (w64 (x431 + 1)) p0)) else none) else (some (.inr ()))
def slices_IndexFunc_int_int_with_tile_colour_1 (k : Nat) (p0 : List Int) : Option Int := (slices_IndexFunc_int_int_with_tile_colour_1.l0 k 0 p0).bind fun x432 => sumb x432 (fun r => some r) (fun y449 => some (-1))
def slices_ContainsFunc_int_int_with_tile_colour_1 (k : Nat) (p0 : List Int) : Option Bool := (slices_IndexFunc_int_int_with_tile_colour_1 k p0).bind fun t451 => some (decide (t451 ≥ 0))
def tile_colour (k : Nat) (p0 : List Int) : Option Bool := (slices_ContainsFunc_int_int_with_tile_colour_1 k p0).bind fun t456 => some (!t456)
def tile_Valid.l0 : Nat → (List (Tile × Bool)) → Int → (List Tile) → Option (Sum Bool Unit)
  | 0, _, _, _ => none
  | k + 1, l530, x531, p0 => if (decide (x531 < (p0.length : Int))) = true then (if 0 ≤ x531 ∧ x531 < (p0.length : Int) then ((if (mget (rdD p0 x531 z_Tile) false l530) = true then (some true) else ((tile_colour k [(rdD p0 x531 z_Tile).N, (rdD p0 x531 z_Tile).E, (rdD p0 x531 z_Tile).S, (rdD p0 x531 z_Tile).W]).bind fun t565 => some (!t565))).bind fun x557 => if x557 = true then (some (.inl false)) else (tile_Valid.l0 k (mput (rdD p0 x531 z_Tile) true l530) (w64 (x531 + 1)) p0)) else none) else (some (.inr ()))
def tile_Valid (k : Nat) (p0 : List Tile) : Option Bool := if (decide ((p0.length : Int) > 1000)) = true then (some false) else ((tile_Valid.l0 k ([] : List (Tile × Bool)) 0 p0).bind fun x532 => sumb x532 (fun r => some r) (fun y581 => some true))
def tile_write.l1 : Nat → (List ByteArray) → Int → (List Tile) → Int → Option (List ByteArray)
  | 0, _, _, _, _ => none
  | k + 1, l1092, x1093, p0, x984 => if (decide (x1093 < 4)) = true then (if (x1093 == 0) = true then ((itoaP ((rdD p0 x984 z_Tile).N)).bind fun t1108 => if l1092.length + [t1108].length ≤ 100000000000 then (tile_write.l1 k (l1092 ++ [t1108]) (w64 (x1093 + 1)) p0 x984) else none) else (if (x1093 == 1) = true then ((itoaP ((rdD p0 x984 z_Tile).E)).bind fun t1124 => if l1092.length + [t1124].length ≤ 100000000000 then (tile_write.l1 k (l1092 ++ [t1124]) (w64 (x1093 + 1)) p0 x984) else none) else (if (x1093 == 2) = true then ((itoaP ((rdD p0 x984 z_Tile).S)).bind fun t1140 => if l1092.length + [t1140].length ≤ 100000000000 then (tile_write.l1 k (l1092 ++ [t1140]) (w64 (x1093 + 1)) p0 x984) else none) else (if (x1093 == 3) = true then ((itoaP ((rdD p0 x984 z_Tile).W)).bind fun t1156 => if l1092.length + [t1156].length ≤ 100000000000 then (tile_write.l1 k (l1092 ++ [t1156]) (w64 (x1093 + 1)) p0 x984) else none) else (none))))) else (some l1092)
def tile_write.l0 : Nat → (List ByteArray) → Int → (List Tile) → Option (List ByteArray)
  | 0, _, _, _ => none
  | k + 1, l983, x984, p0 => if (decide (x984 < (p0.length : Int))) = true then (if 0 ≤ x984 ∧ x984 < (p0.length : Int) then ((tile_write.l1 k ([] : List ByteArray) 0 p0 x984).bind fun x1097 => (joinP x1097 (⟨#[46]⟩ : ByteArray)).bind fun t1175 => if l983.length + [t1175].length ≤ 100000000000 then (tile_write.l0 k (l983 ++ [t1175]) (w64 (x984 + 1)) p0) else none) else none) else (some l983)
def tile_write (k : Nat) (p0 : List Tile) : Option ByteArray := (tile_write.l0 k ([] : List ByteArray) 0 p0).bind fun x988 => (joinP x988 (⟨#[32]⟩ : ByteArray)).bind fun t1194 => some t1194
def tile_Parse.l1 : Nat → Int → Int → Int → Int → Int → ByteArray → Int → Option (Int × Int × Int × Int)
  | 0, _, _, _, _, _, _, _ => none
  | k + 1, x342, x343, x344, x345, x346, p0, x262 => if (decide (x346 < ((splitP (rdD (splitP p0 (⟨#[32]⟩ : ByteArray)) x262 ByteArray.empty) (⟨#[46]⟩ : ByteArray)).length : Int))) = true then (if 0 ≤ x346 ∧ x346 < ((splitP (rdD (splitP p0 (⟨#[32]⟩ : ByteArray)) x262 ByteArray.empty) (⟨#[46]⟩ : ByteArray)).length : Int) then ((atoiP (rdD (splitP (rdD (splitP p0 (⟨#[32]⟩ : ByteArray)) x262 ByteArray.empty) (⟨#[46]⟩ : ByteArray)) x346 ByteArray.empty)).bind fun t362 => if (x346 == 0) = true then (tile_Parse.l1 k t362 x343 x344 x345 (w64 (x346 + 1)) p0 x262) else (if (x346 == 1) = true then (tile_Parse.l1 k x342 t362 x344 x345 (w64 (x346 + 1)) p0 x262) else (if (x346 == 2) = true then (tile_Parse.l1 k x342 x343 t362 x345 (w64 (x346 + 1)) p0 x262) else (if (x346 == 3) = true then (tile_Parse.l1 k x342 x343 x344 t362 (w64 (x346 + 1)) p0 x262) else (none))))) else none) else (some (x342, x343, x344, x345))
def tile_Parse.l0 : Nat → (List Tile) → Int → ByteArray → Option (Sum ((List Tile) × Int) (List Tile))
  | 0, _, _, _ => none
  | k + 1, l261, x262, p0 => if (decide (x262 < ((splitP p0 (⟨#[32]⟩ : ByteArray)).length : Int))) = true then (if 0 ≤ x262 ∧ x262 < ((splitP p0 (⟨#[32]⟩ : ByteArray)).length : Int) then (if (rdD (splitP p0 (⟨#[32]⟩ : ByteArray)) x262 ByteArray.empty).size < 4294967281 ∧ 1 ≤ (⟨#[46]⟩ : ByteArray).size then (if ((((splitP (rdD (splitP p0 (⟨#[32]⟩ : ByteArray)) x262 ByteArray.empty) (⟨#[46]⟩ : ByteArray)).length : Int) != 4) || (decide ((l261.length : Int) > 1000))) = true then (some (.inl (([] : List Tile), 3))) else ((tile_Parse.l1 k 0 0 0 0 0 p0 x262).bind fun x351 => if l261.length + [(Tile.mk x351.1 x351.2.1 x351.2.2.1 x351.2.2.2)].length ≤ 100000000000 then (tile_Parse.l0 k (l261 ++ [(Tile.mk x351.1 x351.2.1 x351.2.2.1 x351.2.2.2)]) (w64 (x262 + 1)) p0) else none)) else none) else none) else (some (.inr l261))
def tile_Parse (k : Nat) (p0 : ByteArray) : Option ((List Tile) × Int) := if (strEq p0 (⟨#[]⟩ : ByteArray)) = true then (some (([] : List Tile), 0)) else (if (decide ((p0.size : Int) > 16000)) = true then (some (([] : List Tile), 3)) else (if p0.size < 4294967281 ∧ 1 ≤ (⟨#[32]⟩ : ByteArray).size then ((tile_Parse.l0 k ([] : List Tile) 0 p0).bind fun x266 => sumb x266 (fun r => some r) (fun y393 => (tile_Valid k y393).bind fun t583 => (if (!t583) = true then (some true) else ((tile_write k y393).bind fun t1205 => some (!(strEq t1205 p0)))).bind fun x1202 => if x1202 = true then (some (([] : List Tile), 3)) else (some (y393, 0)))) else none))
def tile_Text (k : Nat) (p0 : List Tile) : Option (ByteArray × Int) := (tile_Valid k p0).bind fun t1242 => if (!t1242) = true then (some ((⟨#[]⟩ : ByteArray), 1)) else ((tile_write k p0).bind fun t1248 => some (t1248, 0))
def tile_Form (p0 : Pattern) : Option Bool := some ((((((decide (p0.Width ≥ 1)) && (decide (p0.Height ≥ 1))) && (decide (p0.Width ≤ 40000))) && (decide (p0.Height ≤ 40000))) && (decide (w64 (p0.Width * p0.Height) ≤ 40000))) && ((p0.Cells.length : Int) == (w64 (p0.Width * p0.Height))))
def tile_of_1 (p0 : Int) (f0 : List Tile) : Option Bool := some ((decide (p0 < 0)) || (decide (p0 ≥ (f0.length : Int))))
def slices_IndexFunc_int_int_with_tile_of_1.l0 : Nat → Int → (List Int) → (List Tile) → Option (Sum Int Unit)
  | 0, _, _, _ => none
  | k + 1, x1338, p0, p1_0 => if (decide (x1338 < (p0.length : Int))) = true then (if 0 ≤ x1338 ∧ x1338 < (p0.length : Int) then ((tile_of_1 (rdD p0 x1338 0) p1_0).bind fun t1347 => if t1347 = true then (some (.inl x1338)) else (slices_IndexFunc_int_int_with_tile_of_1.l0 k (w64 (x1338 + 1)) p0 p1_0)) else none) else (some (.inr ()))
def slices_IndexFunc_int_int_with_tile_of_1 (k : Nat) (p0 : List Int) (p1_0 : List Tile) : Option Int := (slices_IndexFunc_int_int_with_tile_of_1.l0 k 0 p0 p1_0).bind fun x1339 => sumb x1339 (fun r => some r) (fun y1356 => some (-1))
def slices_ContainsFunc_int_int_with_tile_of_1 (k : Nat) (p0 : List Int) (p1_0 : List Tile) : Option Bool := (slices_IndexFunc_int_int_with_tile_of_1 k p0 p1_0).bind fun t1358 => some (decide (t1358 ≥ 0))
def tile_of (k : Nat) (p0 : List Tile) (p1 : Pattern) : Option Bool := (tile_Valid k p0).bind fun t1281 => (if t1281 = true then ((tile_Form p1).bind fun t1309 => some t1309) else (some false)).bind fun x1306 => (if x1306 = true then ((slices_ContainsFunc_int_int_with_tile_of_1 k p1.Cells p0).bind fun t1372 => some (!t1372)) else (some false)).bind fun x1369 => some x1369
def tile_joins.l0 : Nat → Int → (List Tile) → Pattern → Bool → Option (Sum Bool Unit)
  | 0, _, _, _, _ => none
  | k + 1, x1558, p0, p1, p2 => if (decide (x1558 < (p1.Cells.length : Int))) = true then (if 0 ≤ x1558 ∧ x1558 < (p1.Cells.length : Int) then (if p1.Width ≠ 0 then ((if ((decide (w64 ((Int.tmod x1558 p1.Width) + 1) < p1.Width)) || p2) = true then (if 0 ≤ (rdD p1.Cells x1558 0) ∧ (rdD p1.Cells x1558 0) < (p0.length : Int) then (if 0 ≤ w64 ((w64 ((w64 (Int.tdiv x1558 p1.Width)) * p1.Width)) + (Int.tmod (w64 ((Int.tmod x1558 p1.Width) + 1)) p1.Width)) ∧ w64 ((w64 ((w64 (Int.tdiv x1558 p1.Width)) * p1.Width)) + (Int.tmod (w64 ((Int.tmod x1558 p1.Width) + 1)) p1.Width)) < (p1.Cells.length : Int) then (if 0 ≤ (rdD p1.Cells (w64 ((w64 ((w64 (Int.tdiv x1558 p1.Width)) * p1.Width)) + (Int.tmod (w64 ((Int.tmod x1558 p1.Width) + 1)) p1.Width))) 0) ∧ (rdD p1.Cells (w64 ((w64 ((w64 (Int.tdiv x1558 p1.Width)) * p1.Width)) + (Int.tmod (w64 ((Int.tmod x1558 p1.Width) + 1)) p1.Width))) 0) < (p0.length : Int) then (if (((rdD p0 (rdD p1.Cells x1558 0) z_Tile).E) != ((rdD p0 (rdD p1.Cells (w64 ((w64 ((w64 (Int.tdiv x1558 p1.Width)) * p1.Width)) + (Int.tmod (w64 ((Int.tmod x1558 p1.Width) + 1)) p1.Width))) 0) z_Tile).W)) = true then (some (.inl false)) else (some (.inr ()))) else none) else none) else none) else (some (.inr ()))).bind fun x1587 => sumb x1587 (fun r => some (.inl r)) (fun y1605 => (if ((decide (w64 ((w64 (Int.tdiv x1558 p1.Width)) + 1) < p1.Height)) || p2) = true then (if 0 ≤ (rdD p1.Cells x1558 0) ∧ (rdD p1.Cells x1558 0) < (p0.length : Int) then (if p1.Height ≠ 0 then (if 0 ≤ w64 ((w64 ((Int.tmod (w64 ((w64 (Int.tdiv x1558 p1.Width)) + 1)) p1.Height) * p1.Width)) + (Int.tmod x1558 p1.Width)) ∧ w64 ((w64 ((Int.tmod (w64 ((w64 (Int.tdiv x1558 p1.Width)) + 1)) p1.Height) * p1.Width)) + (Int.tmod x1558 p1.Width)) < (p1.Cells.length : Int) then (if 0 ≤ (rdD p1.Cells (w64 ((w64 ((Int.tmod (w64 ((w64 (Int.tdiv x1558 p1.Width)) + 1)) p1.Height) * p1.Width)) + (Int.tmod x1558 p1.Width))) 0) ∧ (rdD p1.Cells (w64 ((w64 ((Int.tmod (w64 ((w64 (Int.tdiv x1558 p1.Width)) + 1)) p1.Height) * p1.Width)) + (Int.tmod x1558 p1.Width))) 0) < (p0.length : Int) then (if (((rdD p0 (rdD p1.Cells x1558 0) z_Tile).N) != ((rdD p0 (rdD p1.Cells (w64 ((w64 ((Int.tmod (w64 ((w64 (Int.tdiv x1558 p1.Width)) + 1)) p1.Height) * p1.Width)) + (Int.tmod x1558 p1.Width))) 0) z_Tile).S)) = true then (some (.inl false)) else (some (.inr ()))) else none) else none) else none) else none) else (some (.inr ()))).bind fun x1625 => sumb x1625 (fun r => some (.inl r)) (fun y1646 => tile_joins.l0 k (w64 (x1558 + 1)) p0 p1 p2))) else none) else none) else (some (.inr ()))
def tile_joins (k : Nat) (p0 : List Tile) (p1 : Pattern) (p2 : Bool) : Option Bool := (tile_joins.l0 k 0 p0 p1 p2).bind fun x1559 => sumb x1559 (fun r => some r) (fun y1651 => some true)
def tile_Repeats (k : Nat) (p0 : List Tile) (p1 : Pattern) : Option Bool := (tile_of k p0 p1).bind fun t1382 => (if t1382 = true then ((tile_joins k p0 p1 true).bind fun t1662 => some t1662) else (some false)).bind fun x1659 => some x1659
def tile_Fits (k : Nat) (p0 : List Tile) (p1 : Pattern) : Option Bool := (tile_of k p0 p1).bind fun t1724 => (if t1724 = true then ((tile_joins k p0 p1 false).bind fun t1738 => some t1738) else (some false)).bind fun x1735 => some x1735
def law01_awake (k : Nat)  : Option Bool := (tile_Parse k (⟨#[48, 46, 49, 46, 48, 46, 49]⟩ : ByteArray)).bind fun t1217 => (tile_Parse k (⟨#[48, 46, 49, 46, 49, 46, 48, 32, 49, 46, 48, 46, 48, 46, 49]⟩ : ByteArray)).bind fun t1224 => (tile_Text k t1224.1).bind fun t1253 => (if ((((t1217.2 == 0) && (t1224.2 == 0)) && (t1253.2 == 0)) && (strEq t1253.1 (⟨#[48, 46, 49, 46, 49, 46, 48, 32, 49, 46, 48, 46, 48, 46, 49]⟩ : ByteArray))) = true then ((tile_Repeats k t1217.1 (Pattern.mk 1 1 [0])).bind fun t1686 => some t1686) else (some false)).bind fun x1678 => (if x1678 = true then ((tile_Repeats k t1224.1 (Pattern.mk 2 2 [0, 1, 1, 0])).bind fun t1705 => some t1705) else (some false)).bind fun x1702 => (if x1702 = true then ((tile_Fits k t1224.1 (Pattern.mk 2 1 [0, 0])).bind fun t1762 => some (!t1762)) else (some false)).bind fun x1754 => some x1754
def tile_changes  : Option A3_Change := some (A3_Change.mk (Change.mk () () ()) (Change.mk () () ()) (Change.mk () () ()))
def tile_same (p0 : Int) (p1 : Int) : Option (Int × Int) := some (p0, p1)
def tile_changes_2 (p0 : Pattern) (p1 : Int) (p2 : Int) : Option (Int × Int) := some (w64 ((w64 (p0.Width - 1)) - p1), p2)
def tile_changedPattern_at0.l1 : Nat → (List Int) → Int → Pattern → (Int × Int) → Int → Option (List Int)
  | 0, _, _, _, _, _ => none
  | k + 1, l2190, x2191, p0, t1823, x2103 => if (decide (x2191 < t1823.1)) = true then ((tile_changes_2 p0 x2191 x2103).bind fun t2202 => if 0 ≤ w64 ((w64 (t2202.2 * p0.Width)) + t2202.1) ∧ w64 ((w64 (t2202.2 * p0.Width)) + t2202.1) < (p0.Cells.length : Int) then (if l2190.length + [(rdD p0.Cells (w64 ((w64 (t2202.2 * p0.Width)) + t2202.1)) 0)].length ≤ 100000000000 then (tile_changedPattern_at0.l1 k (l2190 ++ [(rdD p0.Cells (w64 ((w64 (t2202.2 * p0.Width)) + t2202.1)) 0)]) (w64 (x2191 + 1)) p0 t1823 x2103) else none) else none) else (some l2190)
def tile_changedPattern_at0.l0 : Nat → (List Int) → Int → Pattern → (Int × Int) → Option (List Int)
  | 0, _, _, _, _ => none
  | k + 1, l2102, x2103, p0, t1823 => if (decide (x2103 < t1823.2)) = true then ((tile_changedPattern_at0.l1 k l2102 0 p0 t1823 x2103).bind fun x2195 => tile_changedPattern_at0.l0 k x2195 (w64 (x2103 + 1)) p0 t1823) else (some l2102)
def tile_changedPattern_at0 (k : Nat) (p0 : Pattern) : Option (Pattern × Int) := (tile_Form p0).bind fun t1793 => if (!t1793) = true then (some ((Pattern.mk 0 0 ([] : List Int)), 1)) else ((tile_changes).bind fun t1808 => (tile_same p0.Width p0.Height).bind fun t1823 => (tile_changedPattern_at0.l0 k ([] : List Int) 0 p0 t1823).bind fun x2107 => some ((Pattern.mk t1823.1 t1823.2 x2107), 0))
def tile_MirrorPattern (k : Nat) (p0 : Pattern) : Option (Pattern × Int) := (tile_changedPattern_at0 k p0).bind fun t2246 => some (t2246.1, t2246.2)
def tile_changes_4 (p0 : Pattern) (p1 : Int) (p2 : Int) : Option (Int × Int) := some (p1, w64 ((w64 (p0.Height - 1)) - p2))
def tile_changedPattern_at1.l1 : Nat → (List Int) → Int → Pattern → (Int × Int) → Int → Option (List Int)
  | 0, _, _, _, _, _ => none
  | k + 1, l2677, x2678, p0, t2308, x2590 => if (decide (x2678 < t2308.1)) = true then ((tile_changes_4 p0 x2678 x2590).bind fun t2689 => if 0 ≤ w64 ((w64 (t2689.2 * p0.Width)) + t2689.1) ∧ w64 ((w64 (t2689.2 * p0.Width)) + t2689.1) < (p0.Cells.length : Int) then (if l2677.length + [(rdD p0.Cells (w64 ((w64 (t2689.2 * p0.Width)) + t2689.1)) 0)].length ≤ 100000000000 then (tile_changedPattern_at1.l1 k (l2677 ++ [(rdD p0.Cells (w64 ((w64 (t2689.2 * p0.Width)) + t2689.1)) 0)]) (w64 (x2678 + 1)) p0 t2308 x2590) else none) else none) else (some l2677)
def tile_changedPattern_at1.l0 : Nat → (List Int) → Int → Pattern → (Int × Int) → Option (List Int)
  | 0, _, _, _, _ => none
  | k + 1, l2589, x2590, p0, t2308 => if (decide (x2590 < t2308.2)) = true then ((tile_changedPattern_at1.l1 k l2589 0 p0 t2308 x2590).bind fun x2682 => tile_changedPattern_at1.l0 k x2682 (w64 (x2590 + 1)) p0 t2308) else (some l2589)
def tile_changedPattern_at1 (k : Nat) (p0 : Pattern) : Option (Pattern × Int) := (tile_Form p0).bind fun t2284 => if (!t2284) = true then (some ((Pattern.mk 0 0 ([] : List Int)), 1)) else ((tile_changes).bind fun t2293 => (tile_same p0.Width p0.Height).bind fun t2308 => (tile_changedPattern_at1.l0 k ([] : List Int) 0 p0 t2308).bind fun x2594 => some ((Pattern.mk t2308.1 t2308.2 x2594), 0))
def tile_UpturnPattern (k : Nat) (p0 : Pattern) : Option (Pattern × Int) := (tile_changedPattern_at1 k p0).bind fun t2733 => some (t2733.1, t2733.2)
def tile_changes_6 (p0 : Int) (p1 : Int) : Option (Int × Int) := some (p1, p0)
def tile_changes_7 (p0 : Pattern) (p1 : Int) (p2 : Int) : Option (Int × Int) := some (w64 ((w64 (p0.Width - 1)) - p2), p1)
def tile_changedPattern_at2.l1 : Nat → (List Int) → Int → Pattern → (Int × Int) → Int → Option (List Int)
  | 0, _, _, _, _, _ => none
  | k + 1, l3162, x3163, p0, t2795, x3075 => if (decide (x3163 < t2795.1)) = true then ((tile_changes_7 p0 x3163 x3075).bind fun t3174 => if 0 ≤ w64 ((w64 (t3174.2 * p0.Width)) + t3174.1) ∧ w64 ((w64 (t3174.2 * p0.Width)) + t3174.1) < (p0.Cells.length : Int) then (if l3162.length + [(rdD p0.Cells (w64 ((w64 (t3174.2 * p0.Width)) + t3174.1)) 0)].length ≤ 100000000000 then (tile_changedPattern_at2.l1 k (l3162 ++ [(rdD p0.Cells (w64 ((w64 (t3174.2 * p0.Width)) + t3174.1)) 0)]) (w64 (x3163 + 1)) p0 t2795 x3075) else none) else none) else (some l3162)
def tile_changedPattern_at2.l0 : Nat → (List Int) → Int → Pattern → (Int × Int) → Option (List Int)
  | 0, _, _, _, _ => none
  | k + 1, l3074, x3075, p0, t2795 => if (decide (x3075 < t2795.2)) = true then ((tile_changedPattern_at2.l1 k l3074 0 p0 t2795 x3075).bind fun x3167 => tile_changedPattern_at2.l0 k x3167 (w64 (x3075 + 1)) p0 t2795) else (some l3074)
def tile_changedPattern_at2 (k : Nat) (p0 : Pattern) : Option (Pattern × Int) := (tile_Form p0).bind fun t2771 => if (!t2771) = true then (some ((Pattern.mk 0 0 ([] : List Int)), 1)) else ((tile_changes).bind fun t2780 => (tile_changes_6 p0.Width p0.Height).bind fun t2795 => (tile_changedPattern_at2.l0 k ([] : List Int) 0 p0 t2795).bind fun x3079 => some ((Pattern.mk t2795.1 t2795.2 x3079), 0))
def tile_TurnPattern (k : Nat) (p0 : Pattern) : Option (Pattern × Int) := (tile_changedPattern_at2 k p0).bind fun t3218 => some (t3218.1, t3218.2)
def tile_Cut.l0 : Nat → (List Int) → Int → Pattern → Int → Int → Int → Int → Option (List Int)
  | 0, _, _, _, _, _, _, _ => none
  | k + 1, l3333, x3334, p0, p1, p2, p3, p4 => if (decide (x3334 < p4)) = true then (if 0 ≤ w64 ((w64 ((w64 (p2 + x3334)) * p0.Width)) + p1) ∧ w64 ((w64 ((w64 (p2 + x3334)) * p0.Width)) + p1) ≤ w64 ((w64 ((w64 ((w64 (p2 + x3334)) * p0.Width)) + p1)) + p3) ∧ w64 ((w64 ((w64 ((w64 (p2 + x3334)) * p0.Width)) + p1)) + p3) ≤ (p0.Cells.length : Int) then (if l3333.length + (cut p0.Cells (w64 ((w64 ((w64 (p2 + x3334)) * p0.Width)) + p1)) (w64 ((w64 ((w64 ((w64 (p2 + x3334)) * p0.Width)) + p1)) + p3))).length ≤ 100000000000 then (tile_Cut.l0 k (l3333 ++ (cut p0.Cells (w64 ((w64 ((w64 (p2 + x3334)) * p0.Width)) + p1)) (w64 ((w64 ((w64 ((w64 (p2 + x3334)) * p0.Width)) + p1)) + p3)))) (w64 (x3334 + 1)) p0 p1 p2 p3 p4) else none) else none) else (some l3333)
def tile_Cut (k : Nat) (p0 : Pattern) (p1 : Int) (p2 : Int) (p3 : Int) (p4 : Int) : Option (Pattern × Int) := (tile_Form p0).bind fun t3248 => if (!t3248) = true then (some ((Pattern.mk 0 0 ([] : List Int)), 1)) else (if ((((((((decide (p3 < 1)) || (decide (p4 < 1))) || (decide (p1 < 0))) || (decide (p2 < 0))) || (decide (p3 > p0.Width))) || (decide (p4 > p0.Height))) || (decide (p1 > w64 (p0.Width - p3)))) || (decide (p2 > w64 (p0.Height - p4)))) = true then (some ((Pattern.mk 0 0 ([] : List Int)), 2)) else ((tile_Cut.l0 k ([] : List Int) 0 p0 p1 p2 p3 p4).bind fun x3338 => some ((Pattern.mk p3 p4 x3338), 0)))
def tile_Repeat.l1 : Nat → (List Int) → Int → Pattern → Int → Int → Option (List Int)
  | 0, _, _, _, _, _ => none
  | k + 1, l3783, x3784, p0, p1, x3694 => if (decide (x3784 < p1)) = true then (if p0.Height ≠ 0 then (if p0.Width ≠ 0 then (if 0 ≤ w64 ((w64 ((Int.tmod x3694 p0.Height) * p0.Width)) + (Int.tmod x3784 p0.Width)) ∧ w64 ((w64 ((Int.tmod x3694 p0.Height) * p0.Width)) + (Int.tmod x3784 p0.Width)) < (p0.Cells.length : Int) then (if l3783.length + [(rdD p0.Cells (w64 ((w64 ((Int.tmod x3694 p0.Height) * p0.Width)) + (Int.tmod x3784 p0.Width))) 0)].length ≤ 100000000000 then (tile_Repeat.l1 k (l3783 ++ [(rdD p0.Cells (w64 ((w64 ((Int.tmod x3694 p0.Height) * p0.Width)) + (Int.tmod x3784 p0.Width))) 0)]) (w64 (x3784 + 1)) p0 p1 x3694) else none) else none) else none) else none) else (some l3783)
def tile_Repeat.l0 : Nat → (List Int) → Int → Pattern → Int → Int → Option (List Int)
  | 0, _, _, _, _, _ => none
  | k + 1, l3693, x3694, p0, p1, p2 => if (decide (x3694 < p2)) = true then ((tile_Repeat.l1 k l3693 0 p0 p1 x3694).bind fun x3788 => tile_Repeat.l0 k x3788 (w64 (x3694 + 1)) p0 p1 p2) else (some l3693)
def tile_Repeat (k : Nat) (p0 : Pattern) (p1 : Int) (p2 : Int) : Option (Pattern × Int) := (tile_Form p0).bind fun t3392 => if (!t3392) = true then (some ((Pattern.mk 0 0 ([] : List Int)), 1)) else (if ((decide (p1 < 1)) || (decide (p2 < 1))) = true then (some ((Pattern.mk 0 0 ([] : List Int)), 2)) else (if (((decide (p1 > 40000)) || (decide (p2 > 40000))) || (decide (w64 (p1 * p2) > 40000))) = true then (some ((Pattern.mk 0 0 ([] : List Int)), 4)) else ((tile_Repeat.l0 k ([] : List Int) 0 p0 p1 p2).bind fun x3698 => some ((Pattern.mk p1 p2 x3698), 0))))
def ref01_Form (p0 : Pattern) : Option Bool := some ((((((decide (p0.Width ≥ 1)) && (decide (p0.Height ≥ 1))) && (decide (p0.Width ≤ 40000))) && (decide (p0.Height ≤ 40000))) && (decide (w64 (p0.Width * p0.Height) ≤ 40000))) && ((p0.Cells.length : Int) == (w64 (p0.Width * p0.Height))))
def ref01_Same.l0 : Nat → Int → (List Int) → (List Int) → Option (Sum Bool Unit)
  | 0, _, _, _ => none
  | k + 1, x3937, p0, p1 => if (decide (x3937 < (p0.length : Int))) = true then (if 0 ≤ x3937 ∧ x3937 < (p0.length : Int) then (if 0 ≤ x3937 ∧ x3937 < (p1.length : Int) then (if ((rdD p0 x3937 0) != (rdD p1 x3937 0)) = true then (some (.inl false)) else (ref01_Same.l0 k (w64 (x3937 + 1)) p0 p1)) else none) else none) else (some (.inr ()))
def ref01_Same (k : Nat) (p0 : List Int) (p1 : List Int) : Option Bool := if ((p0.length : Int) != (p1.length : Int)) = true then (some false) else ((ref01_Same.l0 k 0 p0 p1).bind fun x3938 => sumb x3938 (fun r => some r) (fun y3957 => some true))
def ref01_SamePattern (k : Nat) (p0 : Pattern) (p1 : Pattern) : Option Bool := (if ((p0.Width == p1.Width) && (p0.Height == p1.Height)) = true then ((ref01_Same k p0.Cells p1.Cells).bind fun t3968 => some t3968) else (some false)).bind fun x3965 => some x3965
def law01_is (k : Nat) (p0 : Pattern) (p1 : Int) (p2 : Pattern) (p3 : Int) : Option Bool := (if (p3 != 0) = true then (some (0, 0, ([] : List Int))) else (some (p2.Width, p2.Height, p2.Cells))).bind fun x3895 => (if (p1 == p3) = true then ((ref01_SamePattern k p0 (Pattern.mk x3895.1 x3895.2.1 x3895.2.2)).bind fun t3987 => some t3987) else (some false)).bind fun x3984 => some x3984
def ref01_Blank (p0 : Int) (p1 : Int) : Option Pattern := if 0 ≤ (w64 (p0 * p1)) ∧ (w64 (p0 * p1)) ≤ 100000000000 then (some (Pattern.mk p0 p1 (List.replicate (w64 (p0 * p1)).toNat (0 : Int)))) else none
def ref01_Cell (p0 : Pattern) (p1 : Int) (p2 : Int) : Option Int := if 0 ≤ w64 ((w64 (p2 * p0.Width)) + p1) ∧ w64 ((w64 (p2 * p0.Width)) + p1) < (p0.Cells.length : Int) then (some (rdD p0.Cells (w64 ((w64 (p2 * p0.Width)) + p1)) 0)) else none
def ref01_MirrorPattern.l1 : Nat → (List Int) → Int → Pattern → Int → Option (List Int)
  | 0, _, _, _, _ => none
  | k + 1, l4369, x4370, p0, x4310 => if (decide (x4370 < p0.Width)) = true then ((ref01_Cell p0 x4370 x4310).bind fun t4392 => if 0 ≤ w64 ((w64 ((w64 ((w64 (x4310 * p0.Width)) + p0.Width)) - 1)) - x4370) ∧ w64 ((w64 ((w64 ((w64 (x4310 * p0.Width)) + p0.Width)) - 1)) - x4370) < (l4369.length : Int) then (ref01_MirrorPattern.l1 k (l4369.set (w64 ((w64 ((w64 ((w64 (x4310 * p0.Width)) + p0.Width)) - 1)) - x4370)).toNat t4392) (w64 (x4370 + 1)) p0 x4310) else none) else (some l4369)
def ref01_MirrorPattern.l0 : Nat → (List Int) → Int → Pattern → Option (List Int)
  | 0, _, _, _ => none
  | k + 1, l4309, x4310, p0 => if (decide (x4310 < p0.Height)) = true then ((ref01_MirrorPattern.l1 k l4309 0 p0 x4310).bind fun x4374 => ref01_MirrorPattern.l0 k x4374 (w64 (x4310 + 1)) p0) else (some l4309)
def ref01_MirrorPattern (k : Nat) (p0 : Pattern) : Option Pattern := (ref01_Blank p0.Width p0.Height).bind fun t4115 => (ref01_MirrorPattern.l0 k t4115.Cells 0 p0).bind fun x4314 => some (Pattern.mk t4115.Width t4115.Height x4314)
def ref01_UpturnPattern.l1 : Nat → (List Int) → Int → Pattern → Int → Option (List Int)
  | 0, _, _, _, _ => none
  | k + 1, l4680, x4681, p0, x4621 => if (decide (x4681 < p0.Width)) = true then ((ref01_Cell p0 x4681 x4621).bind fun t4703 => if 0 ≤ w64 ((w64 ((w64 ((w64 (p0.Height - 1)) - x4621)) * p0.Width)) + x4681) ∧ w64 ((w64 ((w64 ((w64 (p0.Height - 1)) - x4621)) * p0.Width)) + x4681) < (l4680.length : Int) then (ref01_UpturnPattern.l1 k (l4680.set (w64 ((w64 ((w64 ((w64 (p0.Height - 1)) - x4621)) * p0.Width)) + x4681)).toNat t4703) (w64 (x4681 + 1)) p0 x4621) else none) else (some l4680)
def ref01_UpturnPattern.l0 : Nat → (List Int) → Int → Pattern → Option (List Int)
  | 0, _, _, _ => none
  | k + 1, l4620, x4621, p0 => if (decide (x4621 < p0.Height)) = true then ((ref01_UpturnPattern.l1 k l4620 0 p0 x4621).bind fun x4685 => ref01_UpturnPattern.l0 k x4685 (w64 (x4621 + 1)) p0) else (some l4620)
def ref01_UpturnPattern (k : Nat) (p0 : Pattern) : Option Pattern := (ref01_Blank p0.Width p0.Height).bind fun t4431 => (ref01_UpturnPattern.l0 k t4431.Cells 0 p0).bind fun x4625 => some (Pattern.mk t4431.Width t4431.Height x4625)
def ref01_TurnPattern.l1 : Nat → (List Int) → Int → Pattern → Int → Option (List Int)
  | 0, _, _, _, _ => none
  | k + 1, l5012, x5013, p0, x4953 => if (decide (x5013 < p0.Width)) = true then ((ref01_Cell p0 x5013 x4953).bind fun t5035 => if 0 ≤ w64 ((w64 ((w64 ((w64 (p0.Width - 1)) - x5013)) * p0.Height)) + x4953) ∧ w64 ((w64 ((w64 ((w64 (p0.Width - 1)) - x5013)) * p0.Height)) + x4953) < (l5012.length : Int) then (ref01_TurnPattern.l1 k (l5012.set (w64 ((w64 ((w64 ((w64 (p0.Width - 1)) - x5013)) * p0.Height)) + x4953)).toNat t5035) (w64 (x5013 + 1)) p0 x4953) else none) else (some l5012)
def ref01_TurnPattern.l0 : Nat → (List Int) → Int → Pattern → Option (List Int)
  | 0, _, _, _ => none
  | k + 1, l4952, x4953, p0 => if (decide (x4953 < p0.Height)) = true then ((ref01_TurnPattern.l1 k l4952 0 p0 x4953).bind fun x5017 => ref01_TurnPattern.l0 k x5017 (w64 (x4953 + 1)) p0) else (some l4952)
def ref01_TurnPattern (k : Nat) (p0 : Pattern) : Option Pattern := (ref01_Blank p0.Height p0.Width).bind fun t4763 => (ref01_TurnPattern.l0 k t4763.Cells 0 p0).bind fun x4957 => some (Pattern.mk t4763.Width t4763.Height x4957)
def ref01_Cut.l1 : Nat → (List Int) → Int → Pattern → Int → Int → Int → Int → Option (List Int)
  | 0, _, _, _, _, _, _, _ => none
  | k + 1, l5573, x5574, p0, p1, p2, p3, x5482 => if (decide (x5574 < p3)) = true then ((ref01_Cell p0 (w64 (p1 + x5574)) (w64 (p2 + x5482))).bind fun t5604 => if l5573.length + [t5604].length ≤ 100000000000 then (ref01_Cut.l1 k (l5573 ++ [t5604]) (w64 (x5574 + 1)) p0 p1 p2 p3 x5482) else none) else (some l5573)
def ref01_Cut.l0 : Nat → (List Int) → Int → Pattern → Int → Int → Int → Int → Option (List Int)
  | 0, _, _, _, _, _, _, _ => none
  | k + 1, l5481, x5482, p0, p1, p2, p3, p4 => if (decide (x5482 < p4)) = true then ((ref01_Cut.l1 k l5481 0 p0 p1 p2 p3 x5482).bind fun x5578 => ref01_Cut.l0 k x5578 (w64 (x5482 + 1)) p0 p1 p2 p3 p4) else (some l5481)
def ref01_Cut (k : Nat) (p0 : Pattern) (p1 : Int) (p2 : Int) (p3 : Int) (p4 : Int) : Option Pattern := (ref01_Cut.l0 k ([] : List Int) 0 p0 p1 p2 p3 p4).bind fun x5486 => some (Pattern.mk p3 p4 x5486)
def ref01_Repeat.l1 : Nat → (List Int) → Int → Pattern → Int → Int → Option (List Int)
  | 0, _, _, _, _, _ => none
  | k + 1, l6184, x6185, p0, p1, x6081 => if (decide (x6185 < p1)) = true then (if p0.Width ≠ 0 then (if p0.Height ≠ 0 then ((ref01_Cell p0 (Int.tmod x6185 p0.Width) (Int.tmod x6081 p0.Height)).bind fun t6221 => if l6184.length + [t6221].length ≤ 100000000000 then (ref01_Repeat.l1 k (l6184 ++ [t6221]) (w64 (x6185 + 1)) p0 p1 x6081) else none) else none) else none) else (some l6184)
def ref01_Repeat.l0 : Nat → (List Int) → Int → Pattern → Int → Int → Option (List Int)
  | 0, _, _, _, _, _ => none
  | k + 1, l6080, x6081, p0, p1, p2 => if (decide (x6081 < p2)) = true then ((ref01_Repeat.l1 k l6080 0 p0 p1 x6081).bind fun x6189 => ref01_Repeat.l0 k x6189 (w64 (x6081 + 1)) p0 p1 p2) else (some l6080)
def ref01_Repeat (k : Nat) (p0 : Pattern) (p1 : Int) (p2 : Int) : Option Pattern := (ref01_Repeat.l0 k ([] : List Int) 0 p0 p1 p2).bind fun x6085 => some (Pattern.mk p1 p2 x6085)
def law01_TilePatterns (k : Nat) (p0 : Pattern) (p1 : Int) (p2 : Int) (p3 : Int) (p4 : Int) : Option Bool := if (decide ((p0.Cells.length : Int) > 50000)) = true then ((law01_awake k).bind fun t1772 => some t1772) else ((tile_MirrorPattern k p0).bind fun t2255 => (tile_UpturnPattern k p0).bind fun t2742 => (tile_TurnPattern k p0).bind fun t3227 => (tile_Cut k p0 p1 p2 p3 p4).bind fun t3371 => (tile_Repeat k p0 p3 p4).bind fun t3840 => (ref01_Form p0).bind fun t3873 => if (!t3873) = true then ((law01_is k t2255.1 t2255.2 (Pattern.mk 0 0 ([] : List Int)) 1).bind fun t3997 => (if t3997 = true then ((law01_is k t2742.1 t2742.2 (Pattern.mk 0 0 ([] : List Int)) 1).bind fun t4011 => some t4011) else (some false)).bind fun x4008 => (if x4008 = true then ((law01_is k t3227.1 t3227.2 (Pattern.mk 0 0 ([] : List Int)) 1).bind fun t4030 => some t4030) else (some false)).bind fun x4027 => (if x4027 = true then ((law01_is k t3371.1 t3371.2 (Pattern.mk 0 0 ([] : List Int)) 1).bind fun t4049 => some t4049) else (some false)).bind fun x4046 => (if x4046 = true then ((law01_is k t3840.1 t3840.2 (Pattern.mk 0 0 ([] : List Int)) 1).bind fun t4068 => some t4068) else (some false)).bind fun x4065 => (if x4065 = true then ((law01_awake k).bind fun t4087 => some t4087) else (some false)).bind fun x4084 => some x4084) else ((ref01_MirrorPattern k p0).bind fun t5089 => (law01_is k t2255.1 t2255.2 t5089 0).bind fun t5096 => (if (!t5096) = true then (some true) else ((ref01_UpturnPattern k p0).bind fun t5117 => (law01_is k t2742.1 t2742.2 t5117 0).bind fun t5124 => some (!t5124))).bind fun x5114 => (if x5114 = true then (some true) else ((ref01_TurnPattern k p0).bind fun t5150 => (law01_is k t3227.1 t3227.2 t5150 0).bind fun t5157 => some (!t5157))).bind fun x5147 => if x5147 = true then (some false) else ((if ((((((((decide (p1 < 0)) || (decide (p2 < 0))) || (decide (p3 < 1))) || (decide (p4 < 1))) || (decide (p3 > p0.Width))) || (decide (p4 > p0.Height))) || (decide (p1 > w64 (p0.Width - p3)))) || (decide (p2 > w64 (p0.Height - p4)))) = true then ((law01_is k t3371.1 t3371.2 (Pattern.mk 0 0 ([] : List Int)) 2).bind fun t5661 => if (!t5661) = true then (some (.inl false)) else (some (.inr ()))) else ((ref01_Cut k p0 p1 p2 p3 p4).bind fun t5681 => (law01_is k t3371.1 t3371.2 t5681 0).bind fun t5688 => if (!t5688) = true then (some (.inl false)) else (some (.inr ())))).bind fun x5658 => sumb x5658 (fun r => some r) (fun y5697 => if ((decide (p3 < 1)) || (decide (p4 < 1))) = true then ((law01_is k t3840.1 t3840.2 (Pattern.mk 0 0 ([] : List Int)) 2).bind fun t5702 => (if t5702 = true then ((law01_awake k).bind fun t5716 => some t5716) else (some false)).bind fun x5713 => some x5713) else (if p4 ≠ 0 then (if (decide (p3 > w64 (Int.tdiv 40000 p4))) = true then ((law01_is k t3840.1 t3840.2 (Pattern.mk 0 0 ([] : List Int)) 4).bind fun t5728 => (if t5728 = true then ((law01_awake k).bind fun t5742 => some t5742) else (some false)).bind fun x5739 => some x5739) else ((ref01_Repeat k p0 p3 p4).bind fun t6281 => (law01_is k t3840.1 t3840.2 t6281 0).bind fun t6288 => (if t6288 = true then ((law01_awake k).bind fun t6302 => some t6302) else (some false)).bind fun x6299 => some x6299)) else none)))))
end Gp
namespace Gp
open Go Gw Go.Proofs Go.RowKit
def ok_Pattern (a : Pattern) : Prop := (ok64 a.Width) ∧ (ok64 a.Height) ∧ ((∀ x ∈ a.Cells, ok64 x) ∧ a.Cells.length ≤ maxLen)
theorem opn_Pattern_35 {H : Type} {enc : TypeId × Value → H} {w : World} {base : Nat} {spare : Nat → Bool} {held : Bool} {fuel : Nat} {cs : List Value} {x : DataW H × List MemPlace} (h : DataW.trod enc Tryd.prog w base spare held fuel 35 cs = some x) : ∃ (a : Pattern) (A0 : Option Addr) (c0 : Nat), cs = [.int .i64 a.Width, .int .i64 a.Height, .slice A0 a.Cells.length c0] ∧ RO NoS w (rowR encInt A0 c0 a.Cells) ∧ ok_Pattern a := by
  obtain ⟨hl, n, hf⟩ := opn_fields Tryd.underlying35 h
  have hl0 : cs.length = 3 := hl.trans (by kernel_rfl)
  obtain ⟨q0, r0, rfl, hl1⟩ := cons_of hl0
  obtain ⟨q1, r1, rfl, hl2⟩ := cons_of hl1
  obtain ⟨q2, r2, rfl, hl3⟩ := cons_of hl2
  obtain rfl := List.eq_nil_of_length_eq_zero hl3
  obtain ⟨y0, h0⟩ := hf 0 _ 1 rfl (by kernel_rfl)
  have h0 : DataW.trod enc Tryd.prog w base spare held n 3 [q0] = some y0 := h0
  obtain ⟨a0, e0, w0⟩ := opn_int Tryd.underlying3 h0
  injection e0 with f0 e0
  subst f0
  obtain ⟨y1, h1⟩ := hf 1 _ 1 rfl (by kernel_rfl)
  have h1 : DataW.trod enc Tryd.prog w base spare held n 3 [q1] = some y1 := h1
  obtain ⟨a1, e1, w1⟩ := opn_int Tryd.underlying3 h1
  injection e1 with f1 e1
  subst f1
  obtain ⟨y2, h2⟩ := hf 2 _ 1 rfl (by kernel_rfl)
  have h2 : DataW.trod enc Tryd.prog w base spare held n 33 [q2] = some y2 := h2
  obtain ⟨A2_, c2_, a2, e2, o2, w2, m2⟩ := opn_row Tryd.underlying33 (opens_int Tryd.underlying3 (by kernel_rfl)) h2
  injection e2 with f2 e2
  subst f2
  exact ⟨⟨a0, a1, a2⟩, A2_, c2_, rfl, o2, ⟨wf64 w0, wf64 w1, ⟨w2, m2⟩⟩⟩
end Gp
