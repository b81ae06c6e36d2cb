/- The functions that the law reaches, as plain functions; how what comes in is opened. -/
import Derived.Test.YtcmgcacpmbldeaaDoorGs
set_option linter.unusedVariables false
set_option linter.unusedSimpArgs false
namespace Gp
open Go Gw
structure Pattern where
  Width : Int
  Height : Int
  Cells : List Int
  deriving DecidableEq
def z_Pattern : Pattern := ⟨0, 0, []⟩
structure Tile where
  N : Int
  E : Int
  S : Int
  W : Int
  deriving DecidableEq
def z_Tile : Tile := ⟨0, 0, 0, 0⟩
def ints_Tile (x : Tile) : List Int := [x.N, x.E, x.S, x.W]
def enc_Tile : Enc Tile := ⟨4, fun x => [(.int .i64 x.N), (.int .i64 x.E), (.int .i64 x.S), (.int .i64 x.W)], fun _ => rfl, fun x u h => by simp at h; rcases h with rfl | rfl | rfl | rfl <;> rfl⟩
structure Change where
  tile : Unit
  size : Unit
  from_ : Unit
  deriving DecidableEq
def z_Change : Change := ⟨(), (), ()⟩
structure A3_Change where
  e0 : Change
  e1 : Change
  e2 : Change
  deriving DecidableEq
def z_A3_Change : A3_Change := ⟨z_Change, z_Change, z_Change⟩
def ref01_colour (p0 : Int) : Option Bool := some ((decide (p0 ≥ 0)) && (decide (p0 < 1000)))
def ref01_Index.l0 : Nat → Int → (List Tile) → Tile → Option (Sum Int Unit)
  | 0, _, _, _ => none
  | k + 1, x105, p0, p1 => if (decide (x105 < (p0.length : Int))) = true then (if 0 ≤ x105 ∧ x105 < (p0.length : Int) then (if (((rdD p0 x105 z_Tile).N) == p1.N && (((rdD p0 x105 z_Tile).E) == p1.E && (((rdD p0 x105 z_Tile).S) == p1.S && (((rdD p0 x105 z_Tile).W) == p1.W)))) = true then (some (.inl x105)) else (ref01_Index.l0 k (w64 (x105 + 1)) p0 p1)) else none) else (some (.inr ()))
def ref01_Index (k : Nat) (p0 : List Tile) (p1 : Tile) : Option Int := (ref01_Index.l0 k 0 p0 p1).bind fun x106 => sumb x106 (fun r => some r) (fun y122 => some (-1))
def ref01_Valid.l0 : Nat → Int → (List Tile) → Option (Sum Bool Unit)
  | 0, _, _ => none
  | k + 1, x415, p0 => if (decide (x415 < (p0.length : Int))) = true then (if 0 ≤ x415 ∧ x415 < (p0.length : Int) then ((ref01_colour ((rdD p0 x415 z_Tile).N)).bind fun t517 => (if (!t517) = true then (some true) else ((ref01_colour ((rdD p0 x415 z_Tile).E)).bind fun t531 => some (!t531))).bind fun x528 => (if x528 = true then (some true) else ((ref01_colour ((rdD p0 x415 z_Tile).S)).bind fun t550 => some (!t550))).bind fun x547 => (if x547 = true then (some true) else ((ref01_colour ((rdD p0 x415 z_Tile).W)).bind fun t569 => some (!t569))).bind fun x566 => (if x566 = true then (some true) else (if 0 ≤ (0 : Int) ∧ (0 : Int) ≤ x415 ∧ x415 ≤ (p0.length : Int) then ((ref01_Index k (cut p0 (0 : Int) x415) (rdD p0 x415 z_Tile)).bind fun t592 => some (decide (t592 ≥ 0))) else none)).bind fun x587 => if x587 = true then (some (.inl false)) else (ref01_Valid.l0 k (w64 (x415 + 1)) p0)) else none) else (some (.inr ()))
def ref01_Valid (k : Nat) (p0 : List Tile) : Option Bool := if (decide ((p0.length : Int) > 1000)) = true then (some false) else ((ref01_Valid.l0 k 0 p0).bind fun x416 => sumb x416 (fun r => some r) (fun y606 => some true))
def ref01_Form (p0 : Pattern) : Option Bool := some ((((((decide (p0.Width ≥ 1)) && (decide (p0.Height ≥ 1))) && (decide (p0.Width ≤ 40000))) && (decide (p0.Height ≤ 40000))) && (decide (w64 (p0.Width * p0.Height) ≤ 40000))) && ((p0.Cells.length : Int) == (w64 (p0.Width * p0.Height))))
def ref01_Cell (p0 : Pattern) (p1 : Int) (p2 : Int) : Option Int := if 0 ≤ w64 ((w64 (p2 * p0.Width)) + p1) ∧ w64 ((w64 (p2 * p0.Width)) + p1) < (p0.Cells.length : Int) then (some (rdD p0.Cells (w64 ((w64 (p2 * p0.Width)) + p1)) 0)) else none
def ref01_Of.l0 : Nat → Int → (List Tile) → Pattern → Option (Sum Bool Unit)
  | 0, _, _, _ => none
  | k + 1, x648, p0, p1 => if (decide (x648 < (p1.Cells.length : Int))) = true then (if 0 ≤ x648 ∧ x648 < (p1.Cells.length : Int) then (if ((decide ((rdD p1.Cells x648 0) < 0)) || (decide ((rdD p1.Cells x648 0) ≥ (p0.length : Int)))) = true then (some (.inl false)) else (ref01_Of.l0 k (w64 (x648 + 1)) p0 p1)) else none) else (some (.inr ()))
def ref01_Of.l2 : Nat → Int → (List Tile) → Pattern → Int → Option (Sum Bool Unit)
  | 0, _, _, _, _ => none
  | k + 1, x2460, p0, p1, x2013 => if (decide (x2460 < p1.Width)) = true then ((ref01_Cell p1 x2460 x2013).bind fun t2468 => if 0 ≤ t2468 ∧ t2468 < (p0.length : Int) then ((if (decide (w64 (x2460 + 1) < p1.Width)) = true then (if (decide (w64 (x2013 + 1) < p1.Height)) = true then ((ref01_Cell p1 (w64 (x2460 + 1)) x2013).bind fun t2619 => if 0 ≤ t2619 ∧ t2619 < (p0.length : Int) then ((if (((rdD p0 t2468 z_Tile).E) != ((rdD p0 t2619 z_Tile).W)) = true then (some true) else ((ref01_Cell p1 x2460 (w64 (x2013 + 1))).bind fun t2635 => if 0 ≤ t2635 ∧ t2635 < (p0.length : Int) then (some (((rdD p0 t2468 z_Tile).N) != ((rdD p0 t2635 z_Tile).S))) else none)).bind fun x2632 => some x2632) else none) else ((ref01_Cell p1 (w64 (x2460 + 1)) x2013).bind fun t2656 => if 0 ≤ t2656 ∧ t2656 < (p0.length : Int) then (some (((rdD p0 t2468 z_Tile).E) != ((rdD p0 t2656 z_Tile).W))) else none)) else (if (decide (w64 (x2013 + 1) < p1.Height)) = true then ((ref01_Cell p1 x2460 (w64 (x2013 + 1))).bind fun t2673 => if 0 ≤ t2673 ∧ t2673 < (p0.length : Int) then (some (((rdD p0 t2468 z_Tile).N) != ((rdD p0 t2673 z_Tile).S))) else none) else (some false))).bind fun x2580 => if x2580 = true then (some (.inl false)) else (ref01_Of.l2 k (w64 (x2460 + 1)) p0 p1 x2013)) else none) else (some (.inr ()))
def ref01_Of.l1 : Nat → Int → (List Tile) → Pattern → Option (Sum Bool Unit)
  | 0, _, _, _ => none
  | k + 1, x2013, p0, p1 => if (decide (x2013 < p1.Height)) = true then ((ref01_Of.l2 k 0 p0 p1 x2013).bind fun x2461 => sumb x2461 (fun r => some (.inl r)) (fun y2689 => ref01_Of.l1 k (w64 (x2013 + 1)) p0 p1)) else (some (.inr ()))
def ref01_Of (k : Nat) (p0 : List Tile) (p1 : Pattern) : Option Bool := (ref01_Form p1).bind fun t631 => if (!t631) = true then (some false) else ((ref01_Of.l0 k 0 p0 p1).bind fun x649 => sumb x649 (fun r => some r) (fun y663 => (ref01_Of.l1 k 0 p0 p1).bind fun x2014 => sumb x2014 (fun r => some r) (fun y2694 => some true)))
def ref01_Fits (k : Nat) (p0 : List Tile) (p1 : Pattern) : Option Bool := (ref01_Valid k p0).bind fun t608 => (if t608 = true then ((ref01_Of k p0 p1).bind fun t2705 => some t2705) else (some false)).bind fun x2702 => some x2702
def tile_colour_1 (p0 : Int) : Option Bool := some ((decide (p0 < 0)) || (decide (p0 ≥ 1000)))
def slices_IndexFunc_int_int_with_tile_colour_1.l0 : Nat → Int → (List Int) → Option (Sum Int Unit)
  | 0, _, _ => none
  | k + 1, x3160, p0 => if (decide (x3160 < (p0.length : Int))) = true then (if 0 ≤ x3160 ∧ x3160 < (p0.length : Int) then ((tile_colour_1 (rdD p0 x3160 0)).bind fun t3169 => if t3169 = true then (some (.inl x3160)) else (slices_IndexFunc_int_int_with_tile_colour_1.l0 k (w64 (x3160 + 1)) p0)) else none) else (some (.inr ()))
def slices_IndexFunc_int_int_with_tile_colour_1 (k : Nat) (p0 : List Int) : Option Int := (slices_IndexFunc_int_int_with_tile_colour_1.l0 k 0 p0).bind fun x3161 => sumb x3161 (fun r => some r) (fun y3178 => some (-1))
def slices_ContainsFunc_int_int_with_tile_colour_1 (k : Nat) (p0 : List Int) : Option Bool := (slices_IndexFunc_int_int_with_tile_colour_1 k p0).bind fun t3180 => some (decide (t3180 ≥ 0))
def tile_colour (k : Nat) (p0 : List Int) : Option Bool := (slices_ContainsFunc_int_int_with_tile_colour_1 k p0).bind fun t3185 => some (!t3185)
def tile_Valid.l0 : Nat → (List (Tile × Bool)) → Int → (List Tile) → Option (Sum Bool Unit)
  | 0, _, _, _ => none
  | k + 1, l3259, x3260, p0 => if (decide (x3260 < (p0.length : Int))) = true then (if 0 ≤ x3260 ∧ x3260 < (p0.length : Int) then ((if (mget (rdD p0 x3260 z_Tile) false l3259) = true then (some true) else ((tile_colour k [(rdD p0 x3260 z_Tile).N, (rdD p0 x3260 z_Tile).E, (rdD p0 x3260 z_Tile).S, (rdD p0 x3260 z_Tile).W]).bind fun t3294 => some (!t3294))).bind fun x3286 => if x3286 = true then (some (.inl false)) else (tile_Valid.l0 k (mput (rdD p0 x3260 z_Tile) true l3259) (w64 (x3260 + 1)) p0)) else none) else (some (.inr ()))
def tile_Valid (k : Nat) (p0 : List Tile) : Option Bool := if (decide ((p0.length : Int) > 1000)) = true then (some false) else ((tile_Valid.l0 k ([] : List (Tile × Bool)) 0 p0).bind fun x3261 => sumb x3261 (fun r => some r) (fun y3310 => some true))
def tile_write.l1 : Nat → (List ByteArray) → Int → (List Tile) → Int → Option (List ByteArray)
  | 0, _, _, _, _ => none
  | k + 1, l3821, x3822, p0, x3713 => if (decide (x3822 < 4)) = true then (if (x3822 == 0) = true then ((itoaP ((rdD p0 x3713 z_Tile).N)).bind fun t3837 => if l3821.length + [t3837].length ≤ 100000000000 then (tile_write.l1 k (l3821 ++ [t3837]) (w64 (x3822 + 1)) p0 x3713) else none) else (if (x3822 == 1) = true then ((itoaP ((rdD p0 x3713 z_Tile).E)).bind fun t3853 => if l3821.length + [t3853].length ≤ 100000000000 then (tile_write.l1 k (l3821 ++ [t3853]) (w64 (x3822 + 1)) p0 x3713) else none) else (if (x3822 == 2) = true then ((itoaP ((rdD p0 x3713 z_Tile).S)).bind fun t3869 => if l3821.length + [t3869].length ≤ 100000000000 then (tile_write.l1 k (l3821 ++ [t3869]) (w64 (x3822 + 1)) p0 x3713) else none) else (if (x3822 == 3) = true then ((itoaP ((rdD p0 x3713 z_Tile).W)).bind fun t3885 => if l3821.length + [t3885].length ≤ 100000000000 then (tile_write.l1 k (l3821 ++ [t3885]) (w64 (x3822 + 1)) p0 x3713) else none) else (none))))) else (some l3821)
def tile_write.l0 : Nat → (List ByteArray) → Int → (List Tile) → Option (List ByteArray)
  | 0, _, _, _ => none
  | k + 1, l3712, x3713, p0 => if (decide (x3713 < (p0.length : Int))) = true then (if 0 ≤ x3713 ∧ x3713 < (p0.length : Int) then ((tile_write.l1 k ([] : List ByteArray) 0 p0 x3713).bind fun x3826 => (joinP x3826 (⟨#[46]⟩ : ByteArray)).bind fun t3904 => if l3712.length + [t3904].length ≤ 100000000000 then (tile_write.l0 k (l3712 ++ [t3904]) (w64 (x3713 + 1)) p0) else none) else none) else (some l3712)
def tile_write (k : Nat) (p0 : List Tile) : Option ByteArray := (tile_write.l0 k ([] : List ByteArray) 0 p0).bind fun x3717 => (joinP x3717 (⟨#[32]⟩ : ByteArray)).bind fun t3923 => some t3923
def tile_Parse.l1 : Nat → Int → Int → Int → Int → Int → ByteArray → Int → Option (Int × Int × Int × Int)
  | 0, _, _, _, _, _, _, _ => none
  | k + 1, x3071, x3072, x3073, x3074, x3075, p0, x2991 => if (decide (x3075 < ((splitP (rdD (splitP p0 (⟨#[32]⟩ : ByteArray)) x2991 ByteArray.empty) (⟨#[46]⟩ : ByteArray)).length : Int))) = true then (if 0 ≤ x3075 ∧ x3075 < ((splitP (rdD (splitP p0 (⟨#[32]⟩ : ByteArray)) x2991 ByteArray.empty) (⟨#[46]⟩ : ByteArray)).length : Int) then ((atoiP (rdD (splitP (rdD (splitP p0 (⟨#[32]⟩ : ByteArray)) x2991 ByteArray.empty) (⟨#[46]⟩ : ByteArray)) x3075 ByteArray.empty)).bind fun t3091 => if (x3075 == 0) = true then (tile_Parse.l1 k t3091 x3072 x3073 x3074 (w64 (x3075 + 1)) p0 x2991) else (if (x3075 == 1) = true then (tile_Parse.l1 k x3071 t3091 x3073 x3074 (w64 (x3075 + 1)) p0 x2991) else (if (x3075 == 2) = true then (tile_Parse.l1 k x3071 x3072 t3091 x3074 (w64 (x3075 + 1)) p0 x2991) else (if (x3075 == 3) = true then (tile_Parse.l1 k x3071 x3072 x3073 t3091 (w64 (x3075 + 1)) p0 x2991) else (none))))) else none) else (some (x3071, x3072, x3073, x3074))
def tile_Parse.l0 : Nat → (List Tile) → Int → ByteArray → Option (Sum ((List Tile) × Int) (List Tile))
  | 0, _, _, _ => none
  | k + 1, l2990, x2991, p0 => if (decide (x2991 < ((splitP p0 (⟨#[32]⟩ : ByteArray)).length : Int))) = true then (if 0 ≤ x2991 ∧ x2991 < ((splitP p0 (⟨#[32]⟩ : ByteArray)).length : Int) then (if (rdD (splitP p0 (⟨#[32]⟩ : ByteArray)) x2991 ByteArray.empty).size < 4294967281 ∧ 1 ≤ (⟨#[46]⟩ : ByteArray).size then (if ((((splitP (rdD (splitP p0 (⟨#[32]⟩ : ByteArray)) x2991 ByteArray.empty) (⟨#[46]⟩ : ByteArray)).length : Int) != 4) || (decide ((l2990.length : Int) > 1000))) = true then (some (.inl (([] : List Tile), 3))) else ((tile_Parse.l1 k 0 0 0 0 0 p0 x2991).bind fun x3080 => if l2990.length + [(Tile.mk x3080.1 x3080.2.1 x3080.2.2.1 x3080.2.2.2)].length ≤ 100000000000 then (tile_Parse.l0 k (l2990 ++ [(Tile.mk x3080.1 x3080.2.1 x3080.2.2.1 x3080.2.2.2)]) (w64 (x2991 + 1)) p0) else none)) else none) else none) else (some (.inr l2990))
def tile_Parse (k : Nat) (p0 : ByteArray) : Option ((List Tile) × Int) := if (strEq p0 (⟨#[]⟩ : ByteArray)) = true then (some (([] : List Tile), 0)) else (if (decide ((p0.size : Int) > 16000)) = true then (some (([] : List Tile), 3)) else (if p0.size < 4294967281 ∧ 1 ≤ (⟨#[32]⟩ : ByteArray).size then ((tile_Parse.l0 k ([] : List Tile) 0 p0).bind fun x2995 => sumb x2995 (fun r => some r) (fun y3122 => (tile_Valid k y3122).bind fun t3312 => (if (!t3312) = true then (some true) else ((tile_write k y3122).bind fun t3934 => some (!(strEq t3934 p0)))).bind fun x3931 => if x3931 = true then (some (([] : List Tile), 3)) else (some (y3122, 0)))) else none))
def tile_Text (k : Nat) (p0 : List Tile) : Option (ByteArray × Int) := (tile_Valid k p0).bind fun t3971 => if (!t3971) = true then (some ((⟨#[]⟩ : ByteArray), 1)) else ((tile_write k p0).bind fun t3977 => some (t3977, 0))
def tile_Form (p0 : Pattern) : Option Bool := some ((((((decide (p0.Width ≥ 1)) && (decide (p0.Height ≥ 1))) && (decide (p0.Width ≤ 40000))) && (decide (p0.Height ≤ 40000))) && (decide (w64 (p0.Width * p0.Height) ≤ 40000))) && ((p0.Cells.length : Int) == (w64 (p0.Width * p0.Height))))
def tile_of_1 (p0 : Int) (f0 : List Tile) : Option Bool := some ((decide (p0 < 0)) || (decide (p0 ≥ (f0.length : Int))))
def slices_IndexFunc_int_int_with_tile_of_1.l0 : Nat → Int → (List Int) → (List Tile) → Option (Sum Int Unit)
  | 0, _, _, _ => none
  | k + 1, x4067, p0, p1_0 => if (decide (x4067 < (p0.length : Int))) = true then (if 0 ≤ x4067 ∧ x4067 < (p0.length : Int) then ((tile_of_1 (rdD p0 x4067 0) p1_0).bind fun t4076 => if t4076 = true then (some (.inl x4067)) else (slices_IndexFunc_int_int_with_tile_of_1.l0 k (w64 (x4067 + 1)) p0 p1_0)) else none) else (some (.inr ()))
def slices_IndexFunc_int_int_with_tile_of_1 (k : Nat) (p0 : List Int) (p1_0 : List Tile) : Option Int := (slices_IndexFunc_int_int_with_tile_of_1.l0 k 0 p0 p1_0).bind fun x4068 => sumb x4068 (fun r => some r) (fun y4085 => some (-1))
def slices_ContainsFunc_int_int_with_tile_of_1 (k : Nat) (p0 : List Int) (p1_0 : List Tile) : Option Bool := (slices_IndexFunc_int_int_with_tile_of_1 k p0 p1_0).bind fun t4087 => some (decide (t4087 ≥ 0))
def tile_of (k : Nat) (p0 : List Tile) (p1 : Pattern) : Option Bool := (tile_Valid k p0).bind fun t4010 => (if t4010 = true then ((tile_Form p1).bind fun t4038 => some t4038) else (some false)).bind fun x4035 => (if x4035 = true then ((slices_ContainsFunc_int_int_with_tile_of_1 k p1.Cells p0).bind fun t4101 => some (!t4101)) else (some false)).bind fun x4098 => some x4098
def tile_joins.l0 : Nat → Int → (List Tile) → Pattern → Bool → Option (Sum Bool Unit)
  | 0, _, _, _, _ => none
  | k + 1, x4287, p0, p1, p2 => if (decide (x4287 < (p1.Cells.length : Int))) = true then (if 0 ≤ x4287 ∧ x4287 < (p1.Cells.length : Int) then (if p1.Width ≠ 0 then ((if ((decide (w64 ((Int.tmod x4287 p1.Width) + 1) < p1.Width)) || p2) = true then (if 0 ≤ (rdD p1.Cells x4287 0) ∧ (rdD p1.Cells x4287 0) < (p0.length : Int) then (if 0 ≤ w64 ((w64 ((w64 (Int.tdiv x4287 p1.Width)) * p1.Width)) + (Int.tmod (w64 ((Int.tmod x4287 p1.Width) + 1)) p1.Width)) ∧ w64 ((w64 ((w64 (Int.tdiv x4287 p1.Width)) * p1.Width)) + (Int.tmod (w64 ((Int.tmod x4287 p1.Width) + 1)) p1.Width)) < (p1.Cells.length : Int) then (if 0 ≤ (rdD p1.Cells (w64 ((w64 ((w64 (Int.tdiv x4287 p1.Width)) * p1.Width)) + (Int.tmod (w64 ((Int.tmod x4287 p1.Width) + 1)) p1.Width))) 0) ∧ (rdD p1.Cells (w64 ((w64 ((w64 (Int.tdiv x4287 p1.Width)) * p1.Width)) + (Int.tmod (w64 ((Int.tmod x4287 p1.Width) + 1)) p1.Width))) 0) < (p0.length : Int) then (if (((rdD p0 (rdD p1.Cells x4287 0) z_Tile).E) != ((rdD p0 (rdD p1.Cells (w64 ((w64 ((w64 (Int.tdiv x4287 p1.Width)) * p1.Width)) + (Int.tmod (w64 ((Int.tmod x4287 p1.Width) + 1)) p1.Width))) 0) z_Tile).W)) = true then (some (.inl false)) else (some (.inr ()))) else none) else none) else none) else (some (.inr ()))).bind fun x4316 => sumb x4316 (fun r => some (.inl r)) (fun y4334 => (if ((decide (w64 ((w64 (Int.tdiv x4287 p1.Width)) + 1) < p1.Height)) || p2) = true then (if 0 ≤ (rdD p1.Cells x4287 0) ∧ (rdD p1.Cells x4287 0) < (p0.length : Int) then (if p1.Height ≠ 0 then (if 0 ≤ w64 ((w64 ((Int.tmod (w64 ((w64 (Int.tdiv x4287 p1.Width)) + 1)) p1.Height) * p1.Width)) + (Int.tmod x4287 p1.Width)) ∧ w64 ((w64 ((Int.tmod (w64 ((w64 (Int.tdiv x4287 p1.Width)) + 1)) p1.Height) * p1.Width)) + (Int.tmod x4287 p1.Width)) < (p1.Cells.length : Int) then (if 0 ≤ (rdD p1.Cells (w64 ((w64 ((Int.tmod (w64 ((w64 (Int.tdiv x4287 p1.Width)) + 1)) p1.Height) * p1.Width)) + (Int.tmod x4287 p1.Width))) 0) ∧ (rdD p1.Cells (w64 ((w64 ((Int.tmod (w64 ((w64 (Int.tdiv x4287 p1.Width)) + 1)) p1.Height) * p1.Width)) + (Int.tmod x4287 p1.Width))) 0) < (p0.length : Int) then (if (((rdD p0 (rdD p1.Cells x4287 0) z_Tile).N) != ((rdD p0 (rdD p1.Cells (w64 ((w64 ((Int.tmod (w64 ((w64 (Int.tdiv x4287 p1.Width)) + 1)) p1.Height) * p1.Width)) + (Int.tmod x4287 p1.Width))) 0) z_Tile).S)) = true then (some (.inl false)) else (some (.inr ()))) else none) else none) else none) else none) else (some (.inr ()))).bind fun x4354 => sumb x4354 (fun r => some (.inl r)) (fun y4375 => tile_joins.l0 k (w64 (x4287 + 1)) p0 p1 p2))) else none) else none) else (some (.inr ()))
def tile_joins (k : Nat) (p0 : List Tile) (p1 : Pattern) (p2 : Bool) : Option Bool := (tile_joins.l0 k 0 p0 p1 p2).bind fun x4288 => sumb x4288 (fun r => some r) (fun y4380 => some true)
def tile_Repeats (k : Nat) (p0 : List Tile) (p1 : Pattern) : Option Bool := (tile_of k p0 p1).bind fun t4111 => (if t4111 = true then ((tile_joins k p0 p1 true).bind fun t4391 => some t4391) else (some false)).bind fun x4388 => some x4388
def tile_Fits (k : Nat) (p0 : List Tile) (p1 : Pattern) : Option Bool := (tile_of k p0 p1).bind fun t4453 => (if t4453 = true then ((tile_joins k p0 p1 false).bind fun t4467 => some t4467) else (some false)).bind fun x4464 => some x4464
def law01_awake (k : Nat)  : Option Bool := (tile_Parse k (⟨#[48, 46, 49, 46, 48, 46, 49]⟩ : ByteArray)).bind fun t3946 => (tile_Parse k (⟨#[48, 46, 49, 46, 49, 46, 48, 32, 49, 46, 48, 46, 48, 46, 49]⟩ : ByteArray)).bind fun t3953 => (tile_Text k t3953.1).bind fun t3982 => (if ((((t3946.2 == 0) && (t3953.2 == 0)) && (t3982.2 == 0)) && (strEq t3982.1 (⟨#[48, 46, 49, 46, 49, 46, 48, 32, 49, 46, 48, 46, 48, 46, 49]⟩ : ByteArray))) = true then ((tile_Repeats k t3946.1 (Pattern.mk 1 1 [0])).bind fun t4415 => some t4415) else (some false)).bind fun x4407 => (if x4407 = true then ((tile_Repeats k t3953.1 (Pattern.mk 2 2 [0, 1, 1, 0])).bind fun t4434 => some t4434) else (some false)).bind fun x4431 => (if x4431 = true then ((tile_Fits k t3953.1 (Pattern.mk 2 1 [0, 0])).bind fun t4491 => some (!t4491)) else (some false)).bind fun x4483 => some x4483
def tile_changes  : Option A3_Change := some (A3_Change.mk (Change.mk () () ()) (Change.mk () () ()) (Change.mk () () ()))
def tile_changes_5 (p0 : Tile) : Option Tile := some (Tile.mk p0.W p0.N p0.E p0.S)
def tile_changed_at2.l0 : Nat → (List Tile) → Int → (List Tile) → Option (List Tile)
  | 0, _, _, _ => none
  | k + 1, l4659, x4660, p0 => if (decide (x4660 < (p0.length : Int))) = true then (if 0 ≤ x4660 ∧ x4660 < (p0.length : Int) then ((tile_changes).bind fun t4700 => (tile_changes_5 (rdD p0 x4660 z_Tile)).bind fun t4705 => if l4659.length + [t4705].length ≤ 100000000000 then (tile_changed_at2.l0 k (l4659 ++ [t4705]) (w64 (x4660 + 1)) p0) else none) else none) else (some l4659)
def tile_changed_at2 (k : Nat) (p0 : List Tile) : Option ((List Tile) × Int) := (tile_Valid k p0).bind fun t4526 => if (!t4526) = true then (some (([] : List Tile), 1)) else ((tile_changed_at2.l0 k ([] : List Tile) 0 p0).bind fun x4664 => some (x4664, 0))
def tile_Turn (k : Nat) (p0 : List Tile) : Option ((List Tile) × Int) := (tile_changed_at2 k p0).bind fun t4724 => some (t4724.1, t4724.2)
def tile_changes_6 (p0 : Int) (p1 : Int) : Option (Int × Int) := some (p1, p0)
def tile_changes_7 (p0 : Pattern) (p1 : Int) (p2 : Int) : Option (Int × Int) := some (w64 ((w64 (p0.Width - 1)) - p2), p1)
def tile_changedPattern_at2.l1 : Nat → (List Int) → Int → Pattern → (Int × Int) → Int → Option (List Int)
  | 0, _, _, _, _, _ => none
  | k + 1, l5145, x5146, p0, t4778, x5058 => if (decide (x5146 < t4778.1)) = true then ((tile_changes_7 p0 x5146 x5058).bind fun t5157 => if 0 ≤ w64 ((w64 (t5157.2 * p0.Width)) + t5157.1) ∧ w64 ((w64 (t5157.2 * p0.Width)) + t5157.1) < (p0.Cells.length : Int) then (if l5145.length + [(rdD p0.Cells (w64 ((w64 (t5157.2 * p0.Width)) + t5157.1)) 0)].length ≤ 100000000000 then (tile_changedPattern_at2.l1 k (l5145 ++ [(rdD p0.Cells (w64 ((w64 (t5157.2 * p0.Width)) + t5157.1)) 0)]) (w64 (x5146 + 1)) p0 t4778 x5058) else none) else none) else (some l5145)
def tile_changedPattern_at2.l0 : Nat → (List Int) → Int → Pattern → (Int × Int) → Option (List Int)
  | 0, _, _, _, _ => none
  | k + 1, l5057, x5058, p0, t4778 => if (decide (x5058 < t4778.2)) = true then ((tile_changedPattern_at2.l1 k l5057 0 p0 t4778 x5058).bind fun x5150 => tile_changedPattern_at2.l0 k x5150 (w64 (x5058 + 1)) p0 t4778) else (some l5057)
def tile_changedPattern_at2 (k : Nat) (p0 : Pattern) : Option (Pattern × Int) := (tile_Form p0).bind fun t4754 => if (!t4754) = true then (some ((Pattern.mk 0 0 ([] : List Int)), 1)) else ((tile_changes).bind fun t4763 => (tile_changes_6 p0.Width p0.Height).bind fun t4778 => (tile_changedPattern_at2.l0 k ([] : List Int) 0 p0 t4778).bind fun x5062 => some ((Pattern.mk t4778.1 t4778.2 x5062), 0))
def tile_TurnPattern (k : Nat) (p0 : Pattern) : Option (Pattern × Int) := (tile_changedPattern_at2 k p0).bind fun t5201 => some (t5201.1, t5201.2)
def ref01_SameSet.l0 : Nat → Int → (List Tile) → (List Tile) → Option (Sum Bool Unit)
  | 0, _, _, _ => none
  | k + 1, x5467, p0, p1 => if (decide (x5467 < (p0.length : Int))) = true then (if 0 ≤ x5467 ∧ x5467 < (p0.length : Int) then (if 0 ≤ x5467 ∧ x5467 < (p1.length : Int) then (if (!(((rdD p0 x5467 z_Tile).N) == ((rdD p1 x5467 z_Tile).N) && (((rdD p0 x5467 z_Tile).E) == ((rdD p1 x5467 z_Tile).E) && (((rdD p0 x5467 z_Tile).S) == ((rdD p1 x5467 z_Tile).S) && (((rdD p0 x5467 z_Tile).W) == ((rdD p1 x5467 z_Tile).W)))))) = true then (some (.inl false)) else (ref01_SameSet.l0 k (w64 (x5467 + 1)) p0 p1)) else none) else none) else (some (.inr ()))
def ref01_SameSet (k : Nat) (p0 : List Tile) (p1 : List Tile) : Option Bool := if ((p0.length : Int) != (p1.length : Int)) = true then (some false) else ((ref01_SameSet.l0 k 0 p0 p1).bind fun x5468 => sumb x5468 (fun r => some r) (fun y5487 => some true))
def ref01_Same.l0 : Nat → Int → (List Int) → (List Int) → Option (Sum Bool Unit)
  | 0, _, _, _ => none
  | k + 1, x5526, p0, p1 => if (decide (x5526 < (p0.length : Int))) = true then (if 0 ≤ x5526 ∧ x5526 < (p0.length : Int) then (if 0 ≤ x5526 ∧ x5526 < (p1.length : Int) then (if ((rdD p0 x5526 0) != (rdD p1 x5526 0)) = true then (some (.inl false)) else (ref01_Same.l0 k (w64 (x5526 + 1)) p0 p1)) else none) else none) else (some (.inr ()))
def ref01_Same (k : Nat) (p0 : List Int) (p1 : List Int) : Option Bool := if ((p0.length : Int) != (p1.length : Int)) = true then (some false) else ((ref01_Same.l0 k 0 p0 p1).bind fun x5527 => sumb x5527 (fun r => some r) (fun y5546 => some true))
def ref01_SamePattern (k : Nat) (p0 : Pattern) (p1 : Pattern) : Option Bool := (if ((p0.Width == p1.Width) && (p0.Height == p1.Height)) = true then ((ref01_Same k p0.Cells p1.Cells).bind fun t5557 => some t5557) else (some false)).bind fun x5554 => some x5554
def tile_changes_1 (p0 : Tile) : Option Tile := some (Tile.mk p0.N p0.W p0.S p0.E)
def tile_changed_at0.l0 : Nat → (List Tile) → Int → (List Tile) → Option (List Tile)
  | 0, _, _, _ => none
  | k + 1, l5715, x5716, p0 => if (decide (x5716 < (p0.length : Int))) = true then (if 0 ≤ x5716 ∧ x5716 < (p0.length : Int) then ((tile_changes).bind fun t5756 => (tile_changes_1 (rdD p0 x5716 z_Tile)).bind fun t5761 => if l5715.length + [t5761].length ≤ 100000000000 then (tile_changed_at0.l0 k (l5715 ++ [t5761]) (w64 (x5716 + 1)) p0) else none) else none) else (some l5715)
def tile_changed_at0 (k : Nat) (p0 : List Tile) : Option ((List Tile) × Int) := (tile_Valid k p0).bind fun t5588 => if (!t5588) = true then (some (([] : List Tile), 1)) else ((tile_changed_at0.l0 k ([] : List Tile) 0 p0).bind fun x5720 => some (x5720, 0))
def tile_Mirror (k : Nat) (p0 : List Tile) : Option ((List Tile) × Int) := (tile_changed_at0 k p0).bind fun t5780 => some (t5780.1, t5780.2)
def tile_changes_3 (p0 : Tile) : Option Tile := some (Tile.mk p0.S p0.E p0.N p0.W)
def tile_changed_at1.l0 : Nat → (List Tile) → Int → (List Tile) → Option (List Tile)
  | 0, _, _, _ => none
  | k + 1, l5921, x5922, p0 => if (decide (x5922 < (p0.length : Int))) = true then (if 0 ≤ x5922 ∧ x5922 < (p0.length : Int) then ((tile_changes).bind fun t5962 => (tile_changes_3 (rdD p0 x5922 z_Tile)).bind fun t5967 => if l5921.length + [t5967].length ≤ 100000000000 then (tile_changed_at1.l0 k (l5921 ++ [t5967]) (w64 (x5922 + 1)) p0) else none) else none) else (some l5921)
def tile_changed_at1 (k : Nat) (p0 : List Tile) : Option ((List Tile) × Int) := (tile_Valid k p0).bind fun t5794 => if (!t5794) = true then (some (([] : List Tile), 1)) else ((tile_changed_at1.l0 k ([] : List Tile) 0 p0).bind fun x5926 => some (x5926, 0))
def tile_Upturn (k : Nat) (p0 : List Tile) : Option ((List Tile) × Int) := (tile_changed_at1 k p0).bind fun t5986 => some (t5986.1, t5986.2)
def tile_same (p0 : Int) (p1 : Int) : Option (Int × Int) := some (p0, p1)
def tile_changes_2 (p0 : Pattern) (p1 : Int) (p2 : Int) : Option (Int × Int) := some (w64 ((w64 (p0.Width - 1)) - p1), p2)
def tile_changedPattern_at0.l1 : Nat → (List Int) → Int → Pattern → (Int × Int) → Int → Option (List Int)
  | 0, _, _, _, _, _ => none
  | k + 1, l6407, x6408, p0, t6040, x6320 => if (decide (x6408 < t6040.1)) = true then ((tile_changes_2 p0 x6408 x6320).bind fun t6419 => if 0 ≤ w64 ((w64 (t6419.2 * p0.Width)) + t6419.1) ∧ w64 ((w64 (t6419.2 * p0.Width)) + t6419.1) < (p0.Cells.length : Int) then (if l6407.length + [(rdD p0.Cells (w64 ((w64 (t6419.2 * p0.Width)) + t6419.1)) 0)].length ≤ 100000000000 then (tile_changedPattern_at0.l1 k (l6407 ++ [(rdD p0.Cells (w64 ((w64 (t6419.2 * p0.Width)) + t6419.1)) 0)]) (w64 (x6408 + 1)) p0 t6040 x6320) else none) else none) else (some l6407)
def tile_changedPattern_at0.l0 : Nat → (List Int) → Int → Pattern → (Int × Int) → Option (List Int)
  | 0, _, _, _, _ => none
  | k + 1, l6319, x6320, p0, t6040 => if (decide (x6320 < t6040.2)) = true then ((tile_changedPattern_at0.l1 k l6319 0 p0 t6040 x6320).bind fun x6412 => tile_changedPattern_at0.l0 k x6412 (w64 (x6320 + 1)) p0 t6040) else (some l6319)
def tile_changedPattern_at0 (k : Nat) (p0 : Pattern) : Option (Pattern × Int) := (tile_Form p0).bind fun t6016 => if (!t6016) = true then (some ((Pattern.mk 0 0 ([] : List Int)), 1)) else ((tile_changes).bind fun t6025 => (tile_same p0.Width p0.Height).bind fun t6040 => (tile_changedPattern_at0.l0 k ([] : List Int) 0 p0 t6040).bind fun x6324 => some ((Pattern.mk t6040.1 t6040.2 x6324), 0))
def tile_MirrorPattern (k : Nat) (p0 : Pattern) : Option (Pattern × Int) := (tile_changedPattern_at0 k p0).bind fun t6463 => some (t6463.1, t6463.2)
def tile_changes_4 (p0 : Pattern) (p1 : Int) (p2 : Int) : Option (Int × Int) := some (p1, w64 ((w64 (p0.Height - 1)) - p2))
def tile_changedPattern_at1.l1 : Nat → (List Int) → Int → Pattern → (Int × Int) → Int → Option (List Int)
  | 0, _, _, _, _, _ => none
  | k + 1, l6894, x6895, p0, t6525, x6807 => if (decide (x6895 < t6525.1)) = true then ((tile_changes_4 p0 x6895 x6807).bind fun t6906 => if 0 ≤ w64 ((w64 (t6906.2 * p0.Width)) + t6906.1) ∧ w64 ((w64 (t6906.2 * p0.Width)) + t6906.1) < (p0.Cells.length : Int) then (if l6894.length + [(rdD p0.Cells (w64 ((w64 (t6906.2 * p0.Width)) + t6906.1)) 0)].length ≤ 100000000000 then (tile_changedPattern_at1.l1 k (l6894 ++ [(rdD p0.Cells (w64 ((w64 (t6906.2 * p0.Width)) + t6906.1)) 0)]) (w64 (x6895 + 1)) p0 t6525 x6807) else none) else none) else (some l6894)
def tile_changedPattern_at1.l0 : Nat → (List Int) → Int → Pattern → (Int × Int) → Option (List Int)
  | 0, _, _, _, _ => none
  | k + 1, l6806, x6807, p0, t6525 => if (decide (x6807 < t6525.2)) = true then ((tile_changedPattern_at1.l1 k l6806 0 p0 t6525 x6807).bind fun x6899 => tile_changedPattern_at1.l0 k x6899 (w64 (x6807 + 1)) p0 t6525) else (some l6806)
def tile_changedPattern_at1 (k : Nat) (p0 : Pattern) : Option (Pattern × Int) := (tile_Form p0).bind fun t6501 => if (!t6501) = true then (some ((Pattern.mk 0 0 ([] : List Int)), 1)) else ((tile_changes).bind fun t6510 => (tile_same p0.Width p0.Height).bind fun t6525 => (tile_changedPattern_at1.l0 k ([] : List Int) 0 p0 t6525).bind fun x6811 => some ((Pattern.mk t6525.1 t6525.2 x6811), 0))
def tile_UpturnPattern (k : Nat) (p0 : Pattern) : Option (Pattern × Int) := (tile_changedPattern_at1 k p0).bind fun t6950 => some (t6950.1, t6950.2)
def tile_Cut.l0 : Nat → (List Int) → Int → Pattern → Int → Int → Int → Int → Option (List Int)
  | 0, _, _, _, _, _, _, _ => none
  | k + 1, l7488, x7489, p0, p1, p2, p3, p4 => if (decide (x7489 < p4)) = true then (if 0 ≤ w64 ((w64 ((w64 (p2 + x7489)) * p0.Width)) + p1) ∧ w64 ((w64 ((w64 (p2 + x7489)) * p0.Width)) + p1) ≤ w64 ((w64 ((w64 ((w64 (p2 + x7489)) * p0.Width)) + p1)) + p3) ∧ w64 ((w64 ((w64 ((w64 (p2 + x7489)) * p0.Width)) + p1)) + p3) ≤ (p0.Cells.length : Int) then (if l7488.length + (cut p0.Cells (w64 ((w64 ((w64 (p2 + x7489)) * p0.Width)) + p1)) (w64 ((w64 ((w64 ((w64 (p2 + x7489)) * p0.Width)) + p1)) + p3))).length ≤ 100000000000 then (tile_Cut.l0 k (l7488 ++ (cut p0.Cells (w64 ((w64 ((w64 (p2 + x7489)) * p0.Width)) + p1)) (w64 ((w64 ((w64 ((w64 (p2 + x7489)) * p0.Width)) + p1)) + p3)))) (w64 (x7489 + 1)) p0 p1 p2 p3 p4) else none) else none) else (some l7488)
def tile_Cut (k : Nat) (p0 : Pattern) (p1 : Int) (p2 : Int) (p3 : Int) (p4 : Int) : Option (Pattern × Int) := (tile_Form p0).bind fun t7403 => if (!t7403) = true then (some ((Pattern.mk 0 0 ([] : List Int)), 1)) else (if ((((((((decide (p3 < 1)) || (decide (p4 < 1))) || (decide (p1 < 0))) || (decide (p2 < 0))) || (decide (p3 > p0.Width))) || (decide (p4 > p0.Height))) || (decide (p1 > w64 (p0.Width - p3)))) || (decide (p2 > w64 (p0.Height - p4)))) = true then (some ((Pattern.mk 0 0 ([] : List Int)), 2)) else ((tile_Cut.l0 k ([] : List Int) 0 p0 p1 p2 p3 p4).bind fun x7493 => some ((Pattern.mk p3 p4 x7493), 0)))
def tile_Repeat.l1 : Nat → (List Int) → Int → Pattern → Int → Int → Option (List Int)
  | 0, _, _, _, _, _ => none
  | k + 1, l8035, x8036, p0, p1, x7946 => if (decide (x8036 < p1)) = true then (if p0.Height ≠ 0 then (if p0.Width ≠ 0 then (if 0 ≤ w64 ((w64 ((Int.tmod x7946 p0.Height) * p0.Width)) + (Int.tmod x8036 p0.Width)) ∧ w64 ((w64 ((Int.tmod x7946 p0.Height) * p0.Width)) + (Int.tmod x8036 p0.Width)) < (p0.Cells.length : Int) then (if l8035.length + [(rdD p0.Cells (w64 ((w64 ((Int.tmod x7946 p0.Height) * p0.Width)) + (Int.tmod x8036 p0.Width))) 0)].length ≤ 100000000000 then (tile_Repeat.l1 k (l8035 ++ [(rdD p0.Cells (w64 ((w64 ((Int.tmod x7946 p0.Height) * p0.Width)) + (Int.tmod x8036 p0.Width))) 0)]) (w64 (x8036 + 1)) p0 p1 x7946) else none) else none) else none) else none) else (some l8035)
def tile_Repeat.l0 : Nat → (List Int) → Int → Pattern → Int → Int → Option (List Int)
  | 0, _, _, _, _, _ => none
  | k + 1, l7945, x7946, p0, p1, p2 => if (decide (x7946 < p2)) = true then ((tile_Repeat.l1 k l7945 0 p0 p1 x7946).bind fun x8040 => tile_Repeat.l0 k x8040 (w64 (x7946 + 1)) p0 p1 p2) else (some l7945)
def tile_Repeat (k : Nat) (p0 : Pattern) (p1 : Int) (p2 : Int) : Option (Pattern × Int) := (tile_Form p0).bind fun t7644 => if (!t7644) = true then (some ((Pattern.mk 0 0 ([] : List Int)), 1)) else (if ((decide (p1 < 1)) || (decide (p2 < 1))) = true then (some ((Pattern.mk 0 0 ([] : List Int)), 2)) else (if (((decide (p1 > 40000)) || (decide (p2 > 40000))) || (decide (w64 (p1 * p2) > 40000))) = true then (some ((Pattern.mk 0 0 ([] : List Int)), 4)) else ((tile_Repeat.l0 k ([] : List Int) 0 p0 p1 p2).bind fun x7950 => some ((Pattern.mk p1 p2 x7950), 0))))
def law01_TileTurned.l0 : Nat → (List Tile) → Int → Int → (List Int) → Int → Bool → Option (Sum Bool ((List Tile) × Int × Int × (List Int)))
  | 0, _, _, _, _, _, _ => none
  | k + 1, l5349, x5350, x5351, l5354, x5355, t4506 => if (decide (x5355 < 4)) = true then ((tile_Turn k l5349).bind fun t5371 => (tile_TurnPattern k (Pattern.mk x5350 x5351 l5354)).bind fun t5378 => (if ((t5371.2 != 0) || (t5378.2 != 0)) = true then (some true) else ((tile_Fits k t5371.1 t5378.1).bind fun t5402 => some (!t5402))).bind fun x5399 => (if x5399 = true then (some true) else ((tile_Repeats k t5371.1 t5378.1).bind fun t5421 => some (t5421 != t4506))).bind fun x5418 => if x5418 = true then (some (.inl false)) else (law01_TileTurned.l0 k t5371.1 t5378.1.Width t5378.1.Height t5378.1.Cells (w64 (x5355 + 1)) t4506)) else (some (.inr (l5349, x5350, x5351, l5354)))
def law01_TileTurned.l1 : Nat → (List Tile) → Int → Int → (List Int) → Int → Bool → Option (Sum Bool ((List Tile) × Int × Int × (List Int)))
  | 0, _, _, _, _, _, _ => none
  | k + 1, l7202, x7203, x7204, l7207, x7208, t4506 => if (decide (x7208 < 2)) = true then ((tile_Mirror k l7202).bind fun t7224 => (tile_Upturn k t7224.1).bind fun t7231 => (tile_MirrorPattern k (Pattern.mk x7203 x7204 l7207)).bind fun t7238 => (tile_UpturnPattern k t7238.1).bind fun t7251 => (if ((((t7224.2 != 0) || (t7231.2 != 0)) || (t7238.2 != 0)) || (t7251.2 != 0)) = true then (some true) else ((tile_Fits k t7224.1 t7238.1).bind fun t7279 => some (!t7279))).bind fun x7276 => (if x7276 = true then (some true) else ((tile_Fits k t7231.1 t7251.1).bind fun t7298 => some (!t7298))).bind fun x7295 => (if x7295 = true then (some true) else ((tile_Repeats k t7224.1 t7238.1).bind fun t7317 => some (t7317 != t4506))).bind fun x7314 => (if x7314 = true then (some true) else ((tile_Repeats k t7231.1 t7251.1).bind fun t7336 => some (t7336 != t4506))).bind fun x7333 => if x7333 = true then (some (.inl false)) else (law01_TileTurned.l1 k t7231.1 t7251.1.Width t7251.1.Height t7251.1.Cells (w64 (x7208 + 1)) t4506)) else (some (.inr (l7202, x7203, x7204, l7207)))
def law01_TileTurned (k : Nat) (p0 : List Tile) (p1 : Pattern) (p2 : Int) (p3 : Int) (p4 : Int) (p5 : Int) : Option Bool := (if ((decide ((p0.length : Int) > 200)) || (decide ((p1.Cells.length : Int) > 5000))) = true then (some true) else ((ref01_Fits k p0 p1).bind fun t2724 => some (!t2724))).bind fun x2721 => if x2721 = true then ((law01_awake k).bind fun t4501 => some t4501) else ((tile_Repeats k p0 p1).bind fun t4506 => (law01_TileTurned.l0 k p0 p1.Width p1.Height p1.Cells 0 t4506).bind fun x5364 => sumb x5364 (fun r => some r) (fun y5443 => (ref01_SameSet k y5443.1 p0).bind fun t5489 => (if (!t5489) = true then (some true) else ((ref01_SamePattern k (Pattern.mk y5443.2.1 y5443.2.2.1 y5443.2.2.2) p1).bind fun t5576 => some (!t5576))).bind fun x5573 => if x5573 = true then (some false) else ((law01_TileTurned.l1 k y5443.1 y5443.2.1 y5443.2.2.1 y5443.2.2.2 0 t4506).bind fun x7217 => sumb x7217 (fun r => some r) (fun y7358 => (ref01_SameSet k y7358.1 p0).bind fun t7360 => (if (!t7360) = true then (some true) else ((ref01_SamePattern k (Pattern.mk y7358.2.1 y7358.2.2.1 y7358.2.2.2) p1).bind fun t7374 => some (!t7374))).bind fun x7371 => if x7371 = true then (some false) else (if p1.Width ≠ 0 then (if p1.Height ≠ 0 then ((if (w64 (p1.Width - (Int.tmod (w64 (p2)) p1.Width))) ≠ 0 then (if (w64 (p1.Height - (Int.tmod (w64 (p3)) p1.Height))) ≠ 0 then ((tile_Cut k p1 (Int.tmod (w64 (p2)) p1.Width) (Int.tmod (w64 (p3)) p1.Height) (w64 (1 + (Int.tmod (w64 (p4)) (w64 (p1.Width - (Int.tmod (w64 (p2)) p1.Width)))))) (w64 (1 + (Int.tmod (w64 (p5)) (w64 (p1.Height - (Int.tmod (w64 (p3)) p1.Height))))))).bind fun t7586 => some (t7586.1.Width, t7586.1.Height, t7586.1.Cells, t7586.2)) else none) else none).bind fun x7578 => (if (x7578.2.2.2 != 0) = true then (some true) else ((tile_Fits k p0 (Pattern.mk x7578.1 x7578.2.1 x7578.2.2.1)).bind fun t7625 => some (!t7625))).bind fun x7622 => if x7622 = true then (some false) else ((tile_Repeat k p1 (w64 (1 + (w64 (p4)))) (w64 (1 + (w64 (p5))))).bind fun t8092 => if (t8092.2 != 0) = true then ((if (t8092.2 == 4) = true then ((law01_awake k).bind fun t8115 => some t8115) else (some false)).bind fun x8112 => some x8112) else ((if (!t4506) = true then (some true) else ((tile_Fits k p0 t8092.1).bind fun t8134 => some t8134)).bind fun x8131 => (if x8131 = true then ((law01_awake k).bind fun t8153 => some t8153) else (some false)).bind fun x8150 => some x8150))) else none) else none)))))
end Gp
namespace Gp
open Go Gw Go.Proofs Go.RowKit
def ok_Tile (a : Tile) : Prop := (ok64 a.N) ∧ (ok64 a.E) ∧ (ok64 a.S) ∧ (ok64 a.W)
theorem opn_Tile_62 {H : Type} {enc : TypeId × Value → H} {w : World} {base : Nat} {spare : Nat → Bool} {held : Bool} {fuel : Nat} {cs : List Value} {x : DataW H × List MemPlace} (h : DataW.trod enc Tryd.prog w base spare held fuel 62 cs = some x) : ∃ (a : Tile), cs = [.int .i64 a.N, .int .i64 a.E, .int .i64 a.S, .int .i64 a.W] ∧ ok_Tile a := by
  obtain ⟨hl, n, hf⟩ := opn_fields Tryd.underlying62 h
  have hl0 : cs.length = 4 := hl.trans (by kernel_rfl)
  obtain ⟨q0, r0, rfl, hl1⟩ := cons_of hl0
  obtain ⟨q1, r1, rfl, hl2⟩ := cons_of hl1
  obtain ⟨q2, r2, rfl, hl3⟩ := cons_of hl2
  obtain ⟨q3, r3, rfl, hl4⟩ := cons_of hl3
  obtain rfl := List.eq_nil_of_length_eq_zero hl4
  obtain ⟨y0, h0⟩ := hf 0 _ 1 rfl (by kernel_rfl)
  have h0 : DataW.trod enc Tryd.prog w base spare held n 3 [q0] = some y0 := h0
  obtain ⟨a0, e0, w0⟩ := opn_int Tryd.underlying3 h0
  injection e0 with f0 e0
  subst f0
  obtain ⟨y1, h1⟩ := hf 1 _ 1 rfl (by kernel_rfl)
  have h1 : DataW.trod enc Tryd.prog w base spare held n 3 [q1] = some y1 := h1
  obtain ⟨a1, e1, w1⟩ := opn_int Tryd.underlying3 h1
  injection e1 with f1 e1
  subst f1
  obtain ⟨y2, h2⟩ := hf 2 _ 1 rfl (by kernel_rfl)
  have h2 : DataW.trod enc Tryd.prog w base spare held n 3 [q2] = some y2 := h2
  obtain ⟨a2, e2, w2⟩ := opn_int Tryd.underlying3 h2
  injection e2 with f2 e2
  subst f2
  obtain ⟨y3, h3⟩ := hf 3 _ 1 rfl (by kernel_rfl)
  have h3 : DataW.trod enc Tryd.prog w base spare held n 3 [q3] = some y3 := h3
  obtain ⟨a3, e3, w3⟩ := opn_int Tryd.underlying3 h3
  injection e3 with f3 e3
  subst f3
  exact ⟨⟨a0, a1, a2, a3⟩, rfl, ⟨wf64 w0, wf64 w1, wf64 w2, wf64 w3⟩⟩
theorem opens_Tile_62 : Opens Tryd.prog 62 enc_Tile ok_Tile := ⟨by kernel_rfl, by decide, fun h => opn_Tile_62 h⟩
def ok_Pattern (a : Pattern) : Prop := (ok64 a.Width) ∧ (ok64 a.Height) ∧ ((∀ x ∈ a.Cells, ok64 x) ∧ a.Cells.length ≤ maxLen)
theorem opn_Pattern_35 {H : Type} {enc : TypeId × Value → H} {w : World} {base : Nat} {spare : Nat → Bool} {held : Bool} {fuel : Nat} {cs : List Value} {x : DataW H × List MemPlace} (h : DataW.trod enc Tryd.prog w base spare held fuel 35 cs = some x) : ∃ (a : Pattern) (A0 : Option Addr) (c0 : Nat), cs = [.int .i64 a.Width, .int .i64 a.Height, .slice A0 a.Cells.length c0] ∧ RO NoS w (rowR encInt A0 c0 a.Cells) ∧ ok_Pattern a := by
  obtain ⟨hl, n, hf⟩ := opn_fields Tryd.underlying35 h
  have hl0 : cs.length = 3 := hl.trans (by kernel_rfl)
  obtain ⟨q0, r0, rfl, hl1⟩ := cons_of hl0
  obtain ⟨q1, r1, rfl, hl2⟩ := cons_of hl1
  obtain ⟨q2, r2, rfl, hl3⟩ := cons_of hl2
  obtain rfl := List.eq_nil_of_length_eq_zero hl3
  obtain ⟨y0, h0⟩ := hf 0 _ 1 rfl (by kernel_rfl)
  have h0 : DataW.trod enc Tryd.prog w base spare held n 3 [q0] = some y0 := h0
  obtain ⟨a0, e0, w0⟩ := opn_int Tryd.underlying3 h0
  injection e0 with f0 e0
  subst f0
  obtain ⟨y1, h1⟩ := hf 1 _ 1 rfl (by kernel_rfl)
  have h1 : DataW.trod enc Tryd.prog w base spare held n 3 [q1] = some y1 := h1
  obtain ⟨a1, e1, w1⟩ := opn_int Tryd.underlying3 h1
  injection e1 with f1 e1
  subst f1
  obtain ⟨y2, h2⟩ := hf 2 _ 1 rfl (by kernel_rfl)
  have h2 : DataW.trod enc Tryd.prog w base spare held n 33 [q2] = some y2 := h2
  obtain ⟨A2_, c2_, a2, e2, o2, w2, m2⟩ := opn_row Tryd.underlying33 (opens_int Tryd.underlying3 (by kernel_rfl)) h2
  injection e2 with f2 e2
  subst f2
  exact ⟨⟨a0, a1, a2⟩, A2_, c2_, rfl, o2, ⟨wf64 w0, wf64 w1, ⟨w2, m2⟩⟩⟩
end Gp
