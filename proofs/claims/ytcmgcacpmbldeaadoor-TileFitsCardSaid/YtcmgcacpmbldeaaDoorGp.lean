/- The functions that the law reaches, as plain functions; how what comes in is opened. -/
import Derived.Test.YtcmgcacpmbldeaaDoorGs
set_option linter.unusedVariables false
set_option linter.unusedSimpArgs false
namespace Gp
open Go Gw
structure Pattern where
  Width : Int
  Height : Int
  Cells : List Int
  deriving DecidableEq
def z_Pattern : Pattern := ⟨0, 0, []⟩
structure Tile where
  N : Int
  E : Int
  S : Int
  W : Int
  deriving DecidableEq
def z_Tile : Tile := ⟨0, 0, 0, 0⟩
def ints_Tile (x : Tile) : List Int := [x.N, x.E, x.S, x.W]
def enc_Tile : Enc Tile := ⟨4, fun x => [(.int .i64 x.N), (.int .i64 x.E), (.int .i64 x.S), (.int .i64 x.W)], fun _ => rfl, fun x u h => by simp at h; rcases h with rfl | rfl | rfl | rfl <;> rfl⟩
def law01_wide (p0 : List Tile) : Option Bool := some (decide ((p0.length : Int) > 1100))
def tile_colour_1 (p0 : Int) : Option Bool := some ((decide (p0 < 0)) || (decide (p0 ≥ 1000)))
def slices_IndexFunc_int_int_with_tile_colour_1.l0 : Nat → Int → (List Int) → Option (Sum Int Unit)
  | 0, _, _ => none
  | k + 1, x438, p0 => if (decide (x438 < (p0.length : Int))) = true then (if 0 ≤ x438 ∧ x438 < (p0.length : Int) then ((tile_colour_1 (rdD p0 x438 0)).bind fun t447 => if t447 = true then (some (.inl x438)) else (slices_IndexFunc_int_int_with_tile_colour_1.l0 k (w64 (x438 + 1)) p0)) else none) else (some (.inr ()))
def slices_IndexFunc_int_int_with_tile_colour_1 (k : Nat) (p0 : List Int) : Option Int := (slices_IndexFunc_int_int_with_tile_colour_1.l0 k 0 p0).bind fun x439 => sumb x439 (fun r => some r) (fun y456 => some (-1))
def slices_ContainsFunc_int_int_with_tile_colour_1 (k : Nat) (p0 : List Int) : Option Bool := (slices_IndexFunc_int_int_with_tile_colour_1 k p0).bind fun t458 => some (decide (t458 ≥ 0))
def tile_colour (k : Nat) (p0 : List Int) : Option Bool := (slices_ContainsFunc_int_int_with_tile_colour_1 k p0).bind fun t463 => some (!t463)
def tile_Valid.l0 : Nat → (List (Tile × Bool)) → Int → (List Tile) → Option (Sum Bool Unit)
  | 0, _, _, _ => none
  | k + 1, l537, x538, p0 => if (decide (x538 < (p0.length : Int))) = true then (if 0 ≤ x538 ∧ x538 < (p0.length : Int) then ((if (mget (rdD p0 x538 z_Tile) false l537) = true then (some true) else ((tile_colour k [(rdD p0 x538 z_Tile).N, (rdD p0 x538 z_Tile).E, (rdD p0 x538 z_Tile).S, (rdD p0 x538 z_Tile).W]).bind fun t572 => some (!t572))).bind fun x564 => if x564 = true then (some (.inl false)) else (tile_Valid.l0 k (mput (rdD p0 x538 z_Tile) true l537) (w64 (x538 + 1)) p0)) else none) else (some (.inr ()))
def tile_Valid (k : Nat) (p0 : List Tile) : Option Bool := if (decide ((p0.length : Int) > 1000)) = true then (some false) else ((tile_Valid.l0 k ([] : List (Tile × Bool)) 0 p0).bind fun x539 => sumb x539 (fun r => some r) (fun y588 => some true))
def tile_write.l1 : Nat → (List ByteArray) → Int → (List Tile) → Int → Option (List ByteArray)
  | 0, _, _, _, _ => none
  | k + 1, l1099, x1100, p0, x991 => if (decide (x1100 < 4)) = true then (if (x1100 == 0) = true then ((itoaP ((rdD p0 x991 z_Tile).N)).bind fun t1115 => if l1099.length + [t1115].length ≤ 100000000000 then (tile_write.l1 k (l1099 ++ [t1115]) (w64 (x1100 + 1)) p0 x991) else none) else (if (x1100 == 1) = true then ((itoaP ((rdD p0 x991 z_Tile).E)).bind fun t1131 => if l1099.length + [t1131].length ≤ 100000000000 then (tile_write.l1 k (l1099 ++ [t1131]) (w64 (x1100 + 1)) p0 x991) else none) else (if (x1100 == 2) = true then ((itoaP ((rdD p0 x991 z_Tile).S)).bind fun t1147 => if l1099.length + [t1147].length ≤ 100000000000 then (tile_write.l1 k (l1099 ++ [t1147]) (w64 (x1100 + 1)) p0 x991) else none) else (if (x1100 == 3) = true then ((itoaP ((rdD p0 x991 z_Tile).W)).bind fun t1163 => if l1099.length + [t1163].length ≤ 100000000000 then (tile_write.l1 k (l1099 ++ [t1163]) (w64 (x1100 + 1)) p0 x991) else none) else (none))))) else (some l1099)
def tile_write.l0 : Nat → (List ByteArray) → Int → (List Tile) → Option (List ByteArray)
  | 0, _, _, _ => none
  | k + 1, l990, x991, p0 => if (decide (x991 < (p0.length : Int))) = true then (if 0 ≤ x991 ∧ x991 < (p0.length : Int) then ((tile_write.l1 k ([] : List ByteArray) 0 p0 x991).bind fun x1104 => (joinP x1104 (⟨#[46]⟩ : ByteArray)).bind fun t1182 => if l990.length + [t1182].length ≤ 100000000000 then (tile_write.l0 k (l990 ++ [t1182]) (w64 (x991 + 1)) p0) else none) else none) else (some l990)
def tile_write (k : Nat) (p0 : List Tile) : Option ByteArray := (tile_write.l0 k ([] : List ByteArray) 0 p0).bind fun x995 => (joinP x995 (⟨#[32]⟩ : ByteArray)).bind fun t1201 => some t1201
def tile_Parse.l1 : Nat → Int → Int → Int → Int → Int → ByteArray → Int → Option (Int × Int × Int × Int)
  | 0, _, _, _, _, _, _, _ => none
  | k + 1, x349, x350, x351, x352, x353, p0, x269 => if (decide (x353 < ((splitP (rdD (splitP p0 (⟨#[32]⟩ : ByteArray)) x269 ByteArray.empty) (⟨#[46]⟩ : ByteArray)).length : Int))) = true then (if 0 ≤ x353 ∧ x353 < ((splitP (rdD (splitP p0 (⟨#[32]⟩ : ByteArray)) x269 ByteArray.empty) (⟨#[46]⟩ : ByteArray)).length : Int) then ((atoiP (rdD (splitP (rdD (splitP p0 (⟨#[32]⟩ : ByteArray)) x269 ByteArray.empty) (⟨#[46]⟩ : ByteArray)) x353 ByteArray.empty)).bind fun t369 => if (x353 == 0) = true then (tile_Parse.l1 k t369 x350 x351 x352 (w64 (x353 + 1)) p0 x269) else (if (x353 == 1) = true then (tile_Parse.l1 k x349 t369 x351 x352 (w64 (x353 + 1)) p0 x269) else (if (x353 == 2) = true then (tile_Parse.l1 k x349 x350 t369 x352 (w64 (x353 + 1)) p0 x269) else (if (x353 == 3) = true then (tile_Parse.l1 k x349 x350 x351 t369 (w64 (x353 + 1)) p0 x269) else (none))))) else none) else (some (x349, x350, x351, x352))
def tile_Parse.l0 : Nat → (List Tile) → Int → ByteArray → Option (Sum ((List Tile) × Int) (List Tile))
  | 0, _, _, _ => none
  | k + 1, l268, x269, p0 => if (decide (x269 < ((splitP p0 (⟨#[32]⟩ : ByteArray)).length : Int))) = true then (if 0 ≤ x269 ∧ x269 < ((splitP p0 (⟨#[32]⟩ : ByteArray)).length : Int) then (if (rdD (splitP p0 (⟨#[32]⟩ : ByteArray)) x269 ByteArray.empty).size < 4294967281 ∧ 1 ≤ (⟨#[46]⟩ : ByteArray).size then (if ((((splitP (rdD (splitP p0 (⟨#[32]⟩ : ByteArray)) x269 ByteArray.empty) (⟨#[46]⟩ : ByteArray)).length : Int) != 4) || (decide ((l268.length : Int) > 1000))) = true then (some (.inl (([] : List Tile), 3))) else ((tile_Parse.l1 k 0 0 0 0 0 p0 x269).bind fun x358 => if l268.length + [(Tile.mk x358.1 x358.2.1 x358.2.2.1 x358.2.2.2)].length ≤ 100000000000 then (tile_Parse.l0 k (l268 ++ [(Tile.mk x358.1 x358.2.1 x358.2.2.1 x358.2.2.2)]) (w64 (x269 + 1)) p0) else none)) else none) else none) else (some (.inr l268))
def tile_Parse (k : Nat) (p0 : ByteArray) : Option ((List Tile) × Int) := if (strEq p0 (⟨#[]⟩ : ByteArray)) = true then (some (([] : List Tile), 0)) else (if (decide ((p0.size : Int) > 16000)) = true then (some (([] : List Tile), 3)) else (if p0.size < 4294967281 ∧ 1 ≤ (⟨#[32]⟩ : ByteArray).size then ((tile_Parse.l0 k ([] : List Tile) 0 p0).bind fun x273 => sumb x273 (fun r => some r) (fun y400 => (tile_Valid k y400).bind fun t590 => (if (!t590) = true then (some true) else ((tile_write k y400).bind fun t1212 => some (!(strEq t1212 p0)))).bind fun x1209 => if x1209 = true then (some (([] : List Tile), 3)) else (some (y400, 0)))) else none))
def tile_Text (k : Nat) (p0 : List Tile) : Option (ByteArray × Int) := (tile_Valid k p0).bind fun t1249 => if (!t1249) = true then (some ((⟨#[]⟩ : ByteArray), 1)) else ((tile_write k p0).bind fun t1255 => some (t1255, 0))
def tile_Form (p0 : Pattern) : Option Bool := some ((((((decide (p0.Width ≥ 1)) && (decide (p0.Height ≥ 1))) && (decide (p0.Width ≤ 40000))) && (decide (p0.Height ≤ 40000))) && (decide (w64 (p0.Width * p0.Height) ≤ 40000))) && ((p0.Cells.length : Int) == (w64 (p0.Width * p0.Height))))
def tile_of_1 (p0 : Int) (f0 : List Tile) : Option Bool := some ((decide (p0 < 0)) || (decide (p0 ≥ (f0.length : Int))))
def slices_IndexFunc_int_int_with_tile_of_1.l0 : Nat → Int → (List Int) → (List Tile) → Option (Sum Int Unit)
  | 0, _, _, _ => none
  | k + 1, x1345, p0, p1_0 => if (decide (x1345 < (p0.length : Int))) = true then (if 0 ≤ x1345 ∧ x1345 < (p0.length : Int) then ((tile_of_1 (rdD p0 x1345 0) p1_0).bind fun t1354 => if t1354 = true then (some (.inl x1345)) else (slices_IndexFunc_int_int_with_tile_of_1.l0 k (w64 (x1345 + 1)) p0 p1_0)) else none) else (some (.inr ()))
def slices_IndexFunc_int_int_with_tile_of_1 (k : Nat) (p0 : List Int) (p1_0 : List Tile) : Option Int := (slices_IndexFunc_int_int_with_tile_of_1.l0 k 0 p0 p1_0).bind fun x1346 => sumb x1346 (fun r => some r) (fun y1363 => some (-1))
def slices_ContainsFunc_int_int_with_tile_of_1 (k : Nat) (p0 : List Int) (p1_0 : List Tile) : Option Bool := (slices_IndexFunc_int_int_with_tile_of_1 k p0 p1_0).bind fun t1365 => some (decide (t1365 ≥ 0))
def tile_of (k : Nat) (p0 : List Tile) (p1 : Pattern) : Option Bool := (tile_Valid k p0).bind fun t1288 => (if t1288 = true then ((tile_Form p1).bind fun t1316 => some t1316) else (some false)).bind fun x1313 => (if x1313 = true then ((slices_ContainsFunc_int_int_with_tile_of_1 k p1.Cells p0).bind fun t1379 => some (!t1379)) else (some false)).bind fun x1376 => some x1376
def tile_joins.l0 : Nat → Int → (List Tile) → Pattern → Bool → Option (Sum Bool Unit)
  | 0, _, _, _, _ => none
  | k + 1, x1565, p0, p1, p2 => if (decide (x1565 < (p1.Cells.length : Int))) = true then (if 0 ≤ x1565 ∧ x1565 < (p1.Cells.length : Int) then (if p1.Width ≠ 0 then ((if ((decide (w64 ((Int.tmod x1565 p1.Width) + 1) < p1.Width)) || p2) = true then (if 0 ≤ (rdD p1.Cells x1565 0) ∧ (rdD p1.Cells x1565 0) < (p0.length : Int) then (if 0 ≤ w64 ((w64 ((w64 (Int.tdiv x1565 p1.Width)) * p1.Width)) + (Int.tmod (w64 ((Int.tmod x1565 p1.Width) + 1)) p1.Width)) ∧ w64 ((w64 ((w64 (Int.tdiv x1565 p1.Width)) * p1.Width)) + (Int.tmod (w64 ((Int.tmod x1565 p1.Width) + 1)) p1.Width)) < (p1.Cells.length : Int) then (if 0 ≤ (rdD p1.Cells (w64 ((w64 ((w64 (Int.tdiv x1565 p1.Width)) * p1.Width)) + (Int.tmod (w64 ((Int.tmod x1565 p1.Width) + 1)) p1.Width))) 0) ∧ (rdD p1.Cells (w64 ((w64 ((w64 (Int.tdiv x1565 p1.Width)) * p1.Width)) + (Int.tmod (w64 ((Int.tmod x1565 p1.Width) + 1)) p1.Width))) 0) < (p0.length : Int) then (if (((rdD p0 (rdD p1.Cells x1565 0) z_Tile).E) != ((rdD p0 (rdD p1.Cells (w64 ((w64 ((w64 (Int.tdiv x1565 p1.Width)) * p1.Width)) + (Int.tmod (w64 ((Int.tmod x1565 p1.Width) + 1)) p1.Width))) 0) z_Tile).W)) = true then (some (.inl false)) else (some (.inr ()))) else none) else none) else none) else (some (.inr ()))).bind fun x1594 => sumb x1594 (fun r => some (.inl r)) (fun y1612 => (if ((decide (w64 ((w64 (Int.tdiv x1565 p1.Width)) + 1) < p1.Height)) || p2) = true then (if 0 ≤ (rdD p1.Cells x1565 0) ∧ (rdD p1.Cells x1565 0) < (p0.length : Int) then (if p1.Height ≠ 0 then (if 0 ≤ w64 ((w64 ((Int.tmod (w64 ((w64 (Int.tdiv x1565 p1.Width)) + 1)) p1.Height) * p1.Width)) + (Int.tmod x1565 p1.Width)) ∧ w64 ((w64 ((Int.tmod (w64 ((w64 (Int.tdiv x1565 p1.Width)) + 1)) p1.Height) * p1.Width)) + (Int.tmod x1565 p1.Width)) < (p1.Cells.length : Int) then (if 0 ≤ (rdD p1.Cells (w64 ((w64 ((Int.tmod (w64 ((w64 (Int.tdiv x1565 p1.Width)) + 1)) p1.Height) * p1.Width)) + (Int.tmod x1565 p1.Width))) 0) ∧ (rdD p1.Cells (w64 ((w64 ((Int.tmod (w64 ((w64 (Int.tdiv x1565 p1.Width)) + 1)) p1.Height) * p1.Width)) + (Int.tmod x1565 p1.Width))) 0) < (p0.length : Int) then (if (((rdD p0 (rdD p1.Cells x1565 0) z_Tile).N) != ((rdD p0 (rdD p1.Cells (w64 ((w64 ((Int.tmod (w64 ((w64 (Int.tdiv x1565 p1.Width)) + 1)) p1.Height) * p1.Width)) + (Int.tmod x1565 p1.Width))) 0) z_Tile).S)) = true then (some (.inl false)) else (some (.inr ()))) else none) else none) else none) else none) else (some (.inr ()))).bind fun x1632 => sumb x1632 (fun r => some (.inl r)) (fun y1653 => tile_joins.l0 k (w64 (x1565 + 1)) p0 p1 p2))) else none) else none) else (some (.inr ()))
def tile_joins (k : Nat) (p0 : List Tile) (p1 : Pattern) (p2 : Bool) : Option Bool := (tile_joins.l0 k 0 p0 p1 p2).bind fun x1566 => sumb x1566 (fun r => some r) (fun y1658 => some true)
def tile_Repeats (k : Nat) (p0 : List Tile) (p1 : Pattern) : Option Bool := (tile_of k p0 p1).bind fun t1389 => (if t1389 = true then ((tile_joins k p0 p1 true).bind fun t1669 => some t1669) else (some false)).bind fun x1666 => some x1666
def tile_Fits (k : Nat) (p0 : List Tile) (p1 : Pattern) : Option Bool := (tile_of k p0 p1).bind fun t1731 => (if t1731 = true then ((tile_joins k p0 p1 false).bind fun t1745 => some t1745) else (some false)).bind fun x1742 => some x1742
def law01_awake (k : Nat)  : Option Bool := (tile_Parse k (⟨#[48, 46, 49, 46, 48, 46, 49]⟩ : ByteArray)).bind fun t1224 => (tile_Parse k (⟨#[48, 46, 49, 46, 49, 46, 48, 32, 49, 46, 48, 46, 48, 46, 49]⟩ : ByteArray)).bind fun t1231 => (tile_Text k t1231.1).bind fun t1260 => (if ((((t1224.2 == 0) && (t1231.2 == 0)) && (t1260.2 == 0)) && (strEq t1260.1 (⟨#[48, 46, 49, 46, 49, 46, 48, 32, 49, 46, 48, 46, 48, 46, 49]⟩ : ByteArray))) = true then ((tile_Repeats k t1224.1 (Pattern.mk 1 1 [0])).bind fun t1693 => some t1693) else (some false)).bind fun x1685 => (if x1685 = true then ((tile_Repeats k t1231.1 (Pattern.mk 2 2 [0, 1, 1, 0])).bind fun t1712 => some t1712) else (some false)).bind fun x1709 => (if x1709 = true then ((tile_Fits k t1231.1 (Pattern.mk 2 1 [0, 0])).bind fun t1769 => some (!t1769)) else (some false)).bind fun x1761 => some x1761
def ref01_colour (p0 : Int) : Option Bool := some ((decide (p0 ≥ 0)) && (decide (p0 < 1000)))
def ref01_Index.l0 : Nat → Int → (List Tile) → Tile → Option (Sum Int Unit)
  | 0, _, _, _ => none
  | k + 1, x1887, p0, p1 => if (decide (x1887 < (p0.length : Int))) = true then (if 0 ≤ x1887 ∧ x1887 < (p0.length : Int) then (if (((rdD p0 x1887 z_Tile).N) == p1.N && (((rdD p0 x1887 z_Tile).E) == p1.E && (((rdD p0 x1887 z_Tile).S) == p1.S && (((rdD p0 x1887 z_Tile).W) == p1.W)))) = true then (some (.inl x1887)) else (ref01_Index.l0 k (w64 (x1887 + 1)) p0 p1)) else none) else (some (.inr ()))
def ref01_Index (k : Nat) (p0 : List Tile) (p1 : Tile) : Option Int := (ref01_Index.l0 k 0 p0 p1).bind fun x1888 => sumb x1888 (fun r => some r) (fun y1904 => some (-1))
def ref01_Valid.l0 : Nat → Int → (List Tile) → Option (Sum Bool Unit)
  | 0, _, _ => none
  | k + 1, x2197, p0 => if (decide (x2197 < (p0.length : Int))) = true then (if 0 ≤ x2197 ∧ x2197 < (p0.length : Int) then ((ref01_colour ((rdD p0 x2197 z_Tile).N)).bind fun t2299 => (if (!t2299) = true then (some true) else ((ref01_colour ((rdD p0 x2197 z_Tile).E)).bind fun t2313 => some (!t2313))).bind fun x2310 => (if x2310 = true then (some true) else ((ref01_colour ((rdD p0 x2197 z_Tile).S)).bind fun t2332 => some (!t2332))).bind fun x2329 => (if x2329 = true then (some true) else ((ref01_colour ((rdD p0 x2197 z_Tile).W)).bind fun t2351 => some (!t2351))).bind fun x2348 => (if x2348 = true then (some true) else (if 0 ≤ (0 : Int) ∧ (0 : Int) ≤ x2197 ∧ x2197 ≤ (p0.length : Int) then ((ref01_Index k (cut p0 (0 : Int) x2197) (rdD p0 x2197 z_Tile)).bind fun t2374 => some (decide (t2374 ≥ 0))) else none)).bind fun x2369 => if x2369 = true then (some (.inl false)) else (ref01_Valid.l0 k (w64 (x2197 + 1)) p0)) else none) else (some (.inr ()))
def ref01_Valid (k : Nat) (p0 : List Tile) : Option Bool := if (decide ((p0.length : Int) > 1000)) = true then (some false) else ((ref01_Valid.l0 k 0 p0).bind fun x2198 => sumb x2198 (fun r => some r) (fun y2388 => some true))
def ref01_Form (p0 : Pattern) : Option Bool := some ((((((decide (p0.Width ≥ 1)) && (decide (p0.Height ≥ 1))) && (decide (p0.Width ≤ 40000))) && (decide (p0.Height ≤ 40000))) && (decide (w64 (p0.Width * p0.Height) ≤ 40000))) && ((p0.Cells.length : Int) == (w64 (p0.Width * p0.Height))))
def ref01_Cell (p0 : Pattern) (p1 : Int) (p2 : Int) : Option Int := if 0 ≤ w64 ((w64 (p2 * p0.Width)) + p1) ∧ w64 ((w64 (p2 * p0.Width)) + p1) < (p0.Cells.length : Int) then (some (rdD p0.Cells (w64 ((w64 (p2 * p0.Width)) + p1)) 0)) else none
def ref01_Of.l0 : Nat → Int → (List Tile) → Pattern → Option (Sum Bool Unit)
  | 0, _, _, _ => none
  | k + 1, x2430, p0, p1 => if (decide (x2430 < (p1.Cells.length : Int))) = true then (if 0 ≤ x2430 ∧ x2430 < (p1.Cells.length : Int) then (if ((decide ((rdD p1.Cells x2430 0) < 0)) || (decide ((rdD p1.Cells x2430 0) ≥ (p0.length : Int)))) = true then (some (.inl false)) else (ref01_Of.l0 k (w64 (x2430 + 1)) p0 p1)) else none) else (some (.inr ()))
def ref01_Of.l2 : Nat → Int → (List Tile) → Pattern → Int → Option (Sum Bool Unit)
  | 0, _, _, _, _ => none
  | k + 1, x4242, p0, p1, x3795 => if (decide (x4242 < p1.Width)) = true then ((ref01_Cell p1 x4242 x3795).bind fun t4250 => if 0 ≤ t4250 ∧ t4250 < (p0.length : Int) then ((if (decide (w64 (x4242 + 1) < p1.Width)) = true then (if (decide (w64 (x3795 + 1) < p1.Height)) = true then ((ref01_Cell p1 (w64 (x4242 + 1)) x3795).bind fun t4401 => if 0 ≤ t4401 ∧ t4401 < (p0.length : Int) then ((if (((rdD p0 t4250 z_Tile).E) != ((rdD p0 t4401 z_Tile).W)) = true then (some true) else ((ref01_Cell p1 x4242 (w64 (x3795 + 1))).bind fun t4417 => if 0 ≤ t4417 ∧ t4417 < (p0.length : Int) then (some (((rdD p0 t4250 z_Tile).N) != ((rdD p0 t4417 z_Tile).S))) else none)).bind fun x4414 => some x4414) else none) else ((ref01_Cell p1 (w64 (x4242 + 1)) x3795).bind fun t4438 => if 0 ≤ t4438 ∧ t4438 < (p0.length : Int) then (some (((rdD p0 t4250 z_Tile).E) != ((rdD p0 t4438 z_Tile).W))) else none)) else (if (decide (w64 (x3795 + 1) < p1.Height)) = true then ((ref01_Cell p1 x4242 (w64 (x3795 + 1))).bind fun t4455 => if 0 ≤ t4455 ∧ t4455 < (p0.length : Int) then (some (((rdD p0 t4250 z_Tile).N) != ((rdD p0 t4455 z_Tile).S))) else none) else (some false))).bind fun x4362 => if x4362 = true then (some (.inl false)) else (ref01_Of.l2 k (w64 (x4242 + 1)) p0 p1 x3795)) else none) else (some (.inr ()))
def ref01_Of.l1 : Nat → Int → (List Tile) → Pattern → Option (Sum Bool Unit)
  | 0, _, _, _ => none
  | k + 1, x3795, p0, p1 => if (decide (x3795 < p1.Height)) = true then ((ref01_Of.l2 k 0 p0 p1 x3795).bind fun x4243 => sumb x4243 (fun r => some (.inl r)) (fun y4471 => ref01_Of.l1 k (w64 (x3795 + 1)) p0 p1)) else (some (.inr ()))
def ref01_Of (k : Nat) (p0 : List Tile) (p1 : Pattern) : Option Bool := (ref01_Form p1).bind fun t2413 => if (!t2413) = true then (some false) else ((ref01_Of.l0 k 0 p0 p1).bind fun x2431 => sumb x2431 (fun r => some r) (fun y2445 => (ref01_Of.l1 k 0 p0 p1).bind fun x3796 => sumb x3796 (fun r => some r) (fun y4476 => some true)))
def ref01_Fits (k : Nat) (p0 : List Tile) (p1 : Pattern) : Option Bool := (ref01_Valid k p0).bind fun t2390 => (if t2390 = true then ((ref01_Of k p0 p1).bind fun t4487 => some t4487) else (some false)).bind fun x4484 => some x4484
def ref01_Torus.l0 : Nat → Int → (List Tile) → Pattern → Option (Sum Bool Unit)
  | 0, _, _, _ => none
  | k + 1, x4717, p0, p1 => if (decide (x4717 < p1.Height)) = true then (((ref01_Cell p1 (w64 (p1.Width - 1)) x4717).bind fun t4780 => if 0 ≤ t4780 ∧ t4780 < (p0.length : Int) then ((ref01_Cell p1 0 x4717).bind fun t4786 => if 0 ≤ t4786 ∧ t4786 < (p0.length : Int) then (some (((rdD p0 t4780 z_Tile).E) != ((rdD p0 t4786 z_Tile).W))) else none) else none).bind fun x4776 => if x4776 = true then (some (.inl false)) else (ref01_Torus.l0 k (w64 (x4717 + 1)) p0 p1)) else (some (.inr ()))
def ref01_Torus.l1 : Nat → Int → (List Tile) → Pattern → Option (Sum Bool Unit)
  | 0, _, _, _ => none
  | k + 1, x5021, p0, p1 => if (decide (x5021 < p1.Width)) = true then (((ref01_Cell p1 x5021 (w64 (p1.Height - 1))).bind fun t5084 => if 0 ≤ t5084 ∧ t5084 < (p0.length : Int) then ((ref01_Cell p1 x5021 0).bind fun t5090 => if 0 ≤ t5090 ∧ t5090 < (p0.length : Int) then (some (((rdD p0 t5084 z_Tile).N) != ((rdD p0 t5090 z_Tile).S))) else none) else none).bind fun x5080 => if x5080 = true then (some (.inl false)) else (ref01_Torus.l1 k (w64 (x5021 + 1)) p0 p1)) else (some (.inr ()))
def ref01_Torus (k : Nat) (p0 : List Tile) (p1 : Pattern) : Option Bool := (ref01_Of k p0 p1).bind fun t4516 => if (!t4516) = true then (some false) else ((ref01_Torus.l0 k 0 p0 p1).bind fun x4718 => sumb x4718 (fun r => some r) (fun y4824 => (ref01_Torus.l1 k 0 p0 p1).bind fun x5022 => sumb x5022 (fun r => some r) (fun y5128 => some true)))
def law01_TileFits (k : Nat) (p0 : List Tile) (p1 : Pattern) : Option Bool := (law01_wide p0).bind fun t5 => if (t5 || (decide ((p1.Cells.length : Int) > 50000))) = true then ((law01_awake k).bind fun t1779 => some t1779) else ((tile_Fits k p0 p1).bind fun t5208 => (ref01_Fits k p0 p1).bind fun t5213 => (if (t5208 == t5213) = true then ((tile_Repeats k p0 p1).bind fun t5251 => (ref01_Valid k p0).bind fun t5256 => (if t5256 = true then ((ref01_Torus k p0 p1).bind fun t5270 => some t5270) else (some false)).bind fun x5267 => some (t5251 == x5267)) else (some false)).bind fun x5248 => (if x5248 = true then ((law01_awake k).bind fun t5294 => some t5294) else (some false)).bind fun x5291 => some x5291)
end Gp
namespace Gp
open Go Gw Go.Proofs Go.RowKit
def ok_Tile (a : Tile) : Prop := (ok64 a.N) ∧ (ok64 a.E) ∧ (ok64 a.S) ∧ (ok64 a.W)
theorem opn_Tile_62 {H : Type} {enc : TypeId × Value → H} {w : World} {base : Nat} {spare : Nat → Bool} {held : Bool} {fuel : Nat} {cs : List Value} {x : DataW H × List MemPlace} (h : DataW.trod enc Tryd.prog w base spare held fuel 62 cs = some x) : ∃ (a : Tile), cs = [.int .i64 a.N, .int .i64 a.E, .int .i64 a.S, .int .i64 a.W] ∧ ok_Tile a := by
  obtain ⟨hl, n, hf⟩ := opn_fields Tryd.underlying62 h
  have hl0 : cs.length = 4 := hl.trans (by kernel_rfl)
  obtain ⟨q0, r0, rfl, hl1⟩ := cons_of hl0
  obtain ⟨q1, r1, rfl, hl2⟩ := cons_of hl1
  obtain ⟨q2, r2, rfl, hl3⟩ := cons_of hl2
  obtain ⟨q3, r3, rfl, hl4⟩ := cons_of hl3
  obtain rfl := List.eq_nil_of_length_eq_zero hl4
  obtain ⟨y0, h0⟩ := hf 0 _ 1 rfl (by kernel_rfl)
  have h0 : DataW.trod enc Tryd.prog w base spare held n 3 [q0] = some y0 := h0
  obtain ⟨a0, e0, w0⟩ := opn_int Tryd.underlying3 h0
  injection e0 with f0 e0
  subst f0
  obtain ⟨y1, h1⟩ := hf 1 _ 1 rfl (by kernel_rfl)
  have h1 : DataW.trod enc Tryd.prog w base spare held n 3 [q1] = some y1 := h1
  obtain ⟨a1, e1, w1⟩ := opn_int Tryd.underlying3 h1
  injection e1 with f1 e1
  subst f1
  obtain ⟨y2, h2⟩ := hf 2 _ 1 rfl (by kernel_rfl)
  have h2 : DataW.trod enc Tryd.prog w base spare held n 3 [q2] = some y2 := h2
  obtain ⟨a2, e2, w2⟩ := opn_int Tryd.underlying3 h2
  injection e2 with f2 e2
  subst f2
  obtain ⟨y3, h3⟩ := hf 3 _ 1 rfl (by kernel_rfl)
  have h3 : DataW.trod enc Tryd.prog w base spare held n 3 [q3] = some y3 := h3
  obtain ⟨a3, e3, w3⟩ := opn_int Tryd.underlying3 h3
  injection e3 with f3 e3
  subst f3
  exact ⟨⟨a0, a1, a2, a3⟩, rfl, ⟨wf64 w0, wf64 w1, wf64 w2, wf64 w3⟩⟩
theorem opens_Tile_62 : Opens Tryd.prog 62 enc_Tile ok_Tile := ⟨by kernel_rfl, by decide, fun h => opn_Tile_62 h⟩
def ok_Pattern (a : Pattern) : Prop := (ok64 a.Width) ∧ (ok64 a.Height) ∧ ((∀ x ∈ a.Cells, ok64 x) ∧ a.Cells.length ≤ maxLen)
theorem opn_Pattern_35 {H : Type} {enc : TypeId × Value → H} {w : World} {base : Nat} {spare : Nat → Bool} {held : Bool} {fuel : Nat} {cs : List Value} {x : DataW H × List MemPlace} (h : DataW.trod enc Tryd.prog w base spare held fuel 35 cs = some x) : ∃ (a : Pattern) (A0 : Option Addr) (c0 : Nat), cs = [.int .i64 a.Width, .int .i64 a.Height, .slice A0 a.Cells.length c0] ∧ RO NoS w (rowR encInt A0 c0 a.Cells) ∧ ok_Pattern a := by
  obtain ⟨hl, n, hf⟩ := opn_fields Tryd.underlying35 h
  have hl0 : cs.length = 3 := hl.trans (by kernel_rfl)
  obtain ⟨q0, r0, rfl, hl1⟩ := cons_of hl0
  obtain ⟨q1, r1, rfl, hl2⟩ := cons_of hl1
  obtain ⟨q2, r2, rfl, hl3⟩ := cons_of hl2
  obtain rfl := List.eq_nil_of_length_eq_zero hl3
  obtain ⟨y0, h0⟩ := hf 0 _ 1 rfl (by kernel_rfl)
  have h0 : DataW.trod enc Tryd.prog w base spare held n 3 [q0] = some y0 := h0
  obtain ⟨a0, e0, w0⟩ := opn_int Tryd.underlying3 h0
  injection e0 with f0 e0
  subst f0
  obtain ⟨y1, h1⟩ := hf 1 _ 1 rfl (by kernel_rfl)
  have h1 : DataW.trod enc Tryd.prog w base spare held n 3 [q1] = some y1 := h1
  obtain ⟨a1, e1, w1⟩ := opn_int Tryd.underlying3 h1
  injection e1 with f1 e1
  subst f1
  obtain ⟨y2, h2⟩ := hf 2 _ 1 rfl (by kernel_rfl)
  have h2 : DataW.trod enc Tryd.prog w base spare held n 33 [q2] = some y2 := h2
  obtain ⟨A2_, c2_, a2, e2, o2, w2, m2⟩ := opn_row Tryd.underlying33 (opens_int Tryd.underlying3 (by kernel_rfl)) h2
  injection e2 with f2 e2
  subst f2
  exact ⟨⟨a0, a1, a2⟩, A2_, c2_, rfl, o2, ⟨wf64 w0, wf64 w1, ⟨w2, m2⟩⟩⟩
end Gp
