/- The functions that the law reaches, as plain functions; how what comes in is opened. -/
import Derived.Test.YtcmgcacpmbldeaaGb
set_option linter.unusedVariables false
set_option linter.unusedSimpArgs false
namespace Gp
open Go Gw
structure Pattern where
  Width : Int
  Height : Int
  Cells : List Int
  deriving DecidableEq
def z_Pattern : Pattern := ⟨0, 0, []⟩
structure Tile where
  N : Int
  E : Int
  S : Int
  W : Int
  deriving DecidableEq
def z_Tile : Tile := ⟨0, 0, 0, 0⟩
def ints_Tile (x : Tile) : List Int := [x.N, x.E, x.S, x.W]
def enc_Tile : Enc Tile := ⟨4, fun x => [(.int .i64 x.N), (.int .i64 x.E), (.int .i64 x.S), (.int .i64 x.W)], fun _ => rfl, fun x u h => by simp at h; rcases h with rfl | rfl | rfl | rfl <;> rfl⟩
structure A2_Int where
  e0 : Int
  e1 : Int
  deriving DecidableEq
def z_A2_Int : A2_Int := ⟨0, 0⟩
def ints_A2_Int (x : A2_Int) : List Int := [x.e0, x.e1]
def enc_A2_Int : Enc A2_Int := ⟨2, fun x => [(.int .i64 x.e0), (.int .i64 x.e1)], fun _ => rfl, fun x u h => by simp at h; rcases h with rfl | rfl <;> rfl⟩
def tile_Form (p0 : Pattern) : Option Bool := some ((((((decide (p0.Width ≥ 1)) && (decide (p0.Height ≥ 1))) && (decide (p0.Width ≤ 40000))) && (decide (p0.Height ≤ 40000))) && (decide (w64 (p0.Width * p0.Height) ≤ 40000))) && ((p0.Cells.length : Int) == (w64 (p0.Width * p0.Height))))
def tile_Repeat.l1 : Nat → (List Int) → Int → Pattern → Int → Int → Option (List Int)
  | 0, _, _, _, _, _ => none
  | k + 1, l436, x437, p0, p1, x347 => if (decide (x437 < p1)) = true then (if p0.Height ≠ 0 then (if p0.Width ≠ 0 then (if 0 ≤ w64 ((w64 ((Int.tmod x347 p0.Height) * p0.Width)) + (Int.tmod x437 p0.Width)) ∧ w64 ((w64 ((Int.tmod x347 p0.Height) * p0.Width)) + (Int.tmod x437 p0.Width)) < (p0.Cells.length : Int) then (if l436.length + [(rdD p0.Cells (w64 ((w64 ((Int.tmod x347 p0.Height) * p0.Width)) + (Int.tmod x437 p0.Width))) 0)].length ≤ 100000000000 then (tile_Repeat.l1 k (l436 ++ [(rdD p0.Cells (w64 ((w64 ((Int.tmod x347 p0.Height) * p0.Width)) + (Int.tmod x437 p0.Width))) 0)]) (w64 (x437 + 1)) p0 p1 x347) else none) else none) else none) else none) else (some l436)
def tile_Repeat.l0 : Nat → (List Int) → Int → Pattern → Int → Int → Option (List Int)
  | 0, _, _, _, _, _ => none
  | k + 1, l346, x347, p0, p1, p2 => if (decide (x347 < p2)) = true then ((tile_Repeat.l1 k l346 0 p0 p1 x347).bind fun x441 => tile_Repeat.l0 k x441 (w64 (x347 + 1)) p0 p1 p2) else (some l346)
def tile_Repeat (k : Nat) (p0 : Pattern) (p1 : Int) (p2 : Int) : Option (Pattern × Int) := (tile_Form p0).bind fun t45 => if (!t45) = true then (some ((Pattern.mk 0 0 ([] : List Int)), 1)) else (if ((decide (p1 < 1)) || (decide (p2 < 1))) = true then (some ((Pattern.mk 0 0 ([] : List Int)), 2)) else (if (((decide (p1 > 40000)) || (decide (p2 > 40000))) || (decide (w64 (p1 * p2) > 40000))) = true then (some ((Pattern.mk 0 0 ([] : List Int)), 4)) else ((tile_Repeat.l0 k ([] : List Int) 0 p0 p1 p2).bind fun x351 => some ((Pattern.mk p1 p2 x351), 0))))
def top_chess  : Option (List Tile) := some [(Tile.mk 0 1 1 0), (Tile.mk 1 0 0 1)]
def tile_colour_1 (p0 : Int) : Option Bool := some ((decide (p0 < 0)) || (decide (p0 ≥ 1000)))
def slices_IndexFunc_int_int_with_tile_colour_1.l0 : Nat → Int → (List Int) → Option (Sum Int Unit)
  | 0, _, _ => none
  | k + 1, x566, p0 => if (decide (x566 < (p0.length : Int))) = true then (if 0 ≤ x566 ∧ x566 < (p0.length : Int) then ((tile_colour_1 (rdD p0 x566 0)).bind fun t575 => if t575 = true then (some (.inl x566)) else (slices_IndexFunc_int_int_with_tile_colour_1.l0 k (w64 (x566 + 1)) p0)) else none) else (some (.inr ()))
def slices_IndexFunc_int_int_with_tile_colour_1 (k : Nat) (p0 : List Int) : Option Int := (slices_IndexFunc_int_int_with_tile_colour_1.l0 k 0 p0).bind fun x567 => sumb x567 (fun r => some r) (fun y584 => some (-1))
def slices_ContainsFunc_int_int_with_tile_colour_1 (k : Nat) (p0 : List Int) : Option Bool := (slices_IndexFunc_int_int_with_tile_colour_1 k p0).bind fun t586 => some (decide (t586 ≥ 0))
def tile_colour (k : Nat) (p0 : List Int) : Option Bool := (slices_ContainsFunc_int_int_with_tile_colour_1 k p0).bind fun t591 => some (!t591)
def tile_Valid.l0 : Nat → (List (Tile × Bool)) → Int → (List Tile) → Option (Sum Bool Unit)
  | 0, _, _, _ => none
  | k + 1, l665, x666, p0 => if (decide (x666 < (p0.length : Int))) = true then (if 0 ≤ x666 ∧ x666 < (p0.length : Int) then ((if (mget (rdD p0 x666 z_Tile) false l665) = true then (some true) else ((tile_colour k [(rdD p0 x666 z_Tile).N, (rdD p0 x666 z_Tile).E, (rdD p0 x666 z_Tile).S, (rdD p0 x666 z_Tile).W]).bind fun t700 => some (!t700))).bind fun x692 => if x692 = true then (some (.inl false)) else (tile_Valid.l0 k (mput (rdD p0 x666 z_Tile) true l665) (w64 (x666 + 1)) p0)) else none) else (some (.inr ()))
def tile_Valid (k : Nat) (p0 : List Tile) : Option Bool := if (decide ((p0.length : Int) > 1000)) = true then (some false) else ((tile_Valid.l0 k ([] : List (Tile × Bool)) 0 p0).bind fun x667 => sumb x667 (fun r => some r) (fun y716 => some true))
def tile_of_1 (p0 : Int) (f0 : List Tile) : Option Bool := some ((decide (p0 < 0)) || (decide (p0 ≥ (f0.length : Int))))
def slices_IndexFunc_int_int_with_tile_of_1.l0 : Nat → Int → (List Int) → (List Tile) → Option (Sum Int Unit)
  | 0, _, _, _ => none
  | k + 1, x761, p0, p1_0 => if (decide (x761 < (p0.length : Int))) = true then (if 0 ≤ x761 ∧ x761 < (p0.length : Int) then ((tile_of_1 (rdD p0 x761 0) p1_0).bind fun t770 => if t770 = true then (some (.inl x761)) else (slices_IndexFunc_int_int_with_tile_of_1.l0 k (w64 (x761 + 1)) p0 p1_0)) else none) else (some (.inr ()))
def slices_IndexFunc_int_int_with_tile_of_1 (k : Nat) (p0 : List Int) (p1_0 : List Tile) : Option Int := (slices_IndexFunc_int_int_with_tile_of_1.l0 k 0 p0 p1_0).bind fun x762 => sumb x762 (fun r => some r) (fun y779 => some (-1))
def slices_ContainsFunc_int_int_with_tile_of_1 (k : Nat) (p0 : List Int) (p1_0 : List Tile) : Option Bool := (slices_IndexFunc_int_int_with_tile_of_1 k p0 p1_0).bind fun t781 => some (decide (t781 ≥ 0))
def tile_of (k : Nat) (p0 : List Tile) (p1 : Pattern) : Option Bool := (tile_Valid k p0).bind fun t718 => (if t718 = true then ((tile_Form p1).bind fun t732 => some t732) else (some false)).bind fun x729 => (if x729 = true then ((slices_ContainsFunc_int_int_with_tile_of_1 k p1.Cells p0).bind fun t795 => some (!t795)) else (some false)).bind fun x792 => some x792
def tile_joins.l0 : Nat → Int → (List Tile) → Pattern → Bool → Option (Sum Bool Unit)
  | 0, _, _, _, _ => none
  | k + 1, x981, p0, p1, p2 => if (decide (x981 < (p1.Cells.length : Int))) = true then (if 0 ≤ x981 ∧ x981 < (p1.Cells.length : Int) then (if p1.Width ≠ 0 then ((if ((decide (w64 ((Int.tmod x981 p1.Width) + 1) < p1.Width)) || p2) = true then (if 0 ≤ (rdD p1.Cells x981 0) ∧ (rdD p1.Cells x981 0) < (p0.length : Int) then (if 0 ≤ w64 ((w64 ((w64 (Int.tdiv x981 p1.Width)) * p1.Width)) + (Int.tmod (w64 ((Int.tmod x981 p1.Width) + 1)) p1.Width)) ∧ w64 ((w64 ((w64 (Int.tdiv x981 p1.Width)) * p1.Width)) + (Int.tmod (w64 ((Int.tmod x981 p1.Width) + 1)) p1.Width)) < (p1.Cells.length : Int) then (if 0 ≤ (rdD p1.Cells (w64 ((w64 ((w64 (Int.tdiv x981 p1.Width)) * p1.Width)) + (Int.tmod (w64 ((Int.tmod x981 p1.Width) + 1)) p1.Width))) 0) ∧ (rdD p1.Cells (w64 ((w64 ((w64 (Int.tdiv x981 p1.Width)) * p1.Width)) + (Int.tmod (w64 ((Int.tmod x981 p1.Width) + 1)) p1.Width))) 0) < (p0.length : Int) then (if (((rdD p0 (rdD p1.Cells x981 0) z_Tile).E) != ((rdD p0 (rdD p1.Cells (w64 ((w64 ((w64 (Int.tdiv x981 p1.Width)) * p1.Width)) + (Int.tmod (w64 ((Int.tmod x981 p1.Width) + 1)) p1.Width))) 0) z_Tile).W)) = true then (some (.inl false)) else (some (.inr ()))) else none) else none) else none) else (some (.inr ()))).bind fun x1010 => sumb x1010 (fun r => some (.inl r)) (fun y1028 => (if ((decide (w64 ((w64 (Int.tdiv x981 p1.Width)) + 1) < p1.Height)) || p2) = true then (if 0 ≤ (rdD p1.Cells x981 0) ∧ (rdD p1.Cells x981 0) < (p0.length : Int) then (if p1.Height ≠ 0 then (if 0 ≤ w64 ((w64 ((Int.tmod (w64 ((w64 (Int.tdiv x981 p1.Width)) + 1)) p1.Height) * p1.Width)) + (Int.tmod x981 p1.Width)) ∧ w64 ((w64 ((Int.tmod (w64 ((w64 (Int.tdiv x981 p1.Width)) + 1)) p1.Height) * p1.Width)) + (Int.tmod x981 p1.Width)) < (p1.Cells.length : Int) then (if 0 ≤ (rdD p1.Cells (w64 ((w64 ((Int.tmod (w64 ((w64 (Int.tdiv x981 p1.Width)) + 1)) p1.Height) * p1.Width)) + (Int.tmod x981 p1.Width))) 0) ∧ (rdD p1.Cells (w64 ((w64 ((Int.tmod (w64 ((w64 (Int.tdiv x981 p1.Width)) + 1)) p1.Height) * p1.Width)) + (Int.tmod x981 p1.Width))) 0) < (p0.length : Int) then (if (((rdD p0 (rdD p1.Cells x981 0) z_Tile).N) != ((rdD p0 (rdD p1.Cells (w64 ((w64 ((Int.tmod (w64 ((w64 (Int.tdiv x981 p1.Width)) + 1)) p1.Height) * p1.Width)) + (Int.tmod x981 p1.Width))) 0) z_Tile).S)) = true then (some (.inl false)) else (some (.inr ()))) else none) else none) else none) else none) else (some (.inr ()))).bind fun x1048 => sumb x1048 (fun r => some (.inl r)) (fun y1069 => tile_joins.l0 k (w64 (x981 + 1)) p0 p1 p2))) else none) else none) else (some (.inr ()))
def tile_joins (k : Nat) (p0 : List Tile) (p1 : Pattern) (p2 : Bool) : Option Bool := (tile_joins.l0 k 0 p0 p1 p2).bind fun x982 => sumb x982 (fun r => some r) (fun y1074 => some true)
def tile_Repeats (k : Nat) (p0 : List Tile) (p1 : Pattern) : Option Bool := (tile_of k p0 p1).bind fun t805 => (if t805 = true then ((tile_joins k p0 p1 true).bind fun t1085 => some t1085) else (some false)).bind fun x1082 => some x1082
def top_sameInts.l0 : Nat → Int → (List Int) → (List Int) → Option (Sum Bool Unit)
  | 0, _, _, _ => none
  | k + 1, x1172, p0, p1 => if (decide (x1172 < (p0.length : Int))) = true then (if 0 ≤ x1172 ∧ x1172 < (p0.length : Int) then (if 0 ≤ x1172 ∧ x1172 < (p1.length : Int) then (if ((rdD p0 x1172 0) != (rdD p1 x1172 0)) = true then (some (.inl false)) else (top_sameInts.l0 k (w64 (x1172 + 1)) p0 p1)) else none) else none) else (some (.inr ()))
def top_sameInts (k : Nat) (p0 : List Int) (p1 : List Int) : Option Bool := if ((p0.length : Int) != (p1.length : Int)) = true then (some false) else ((top_sameInts.l0 k 0 p0 p1).bind fun x1173 => sumb x1173 (fun r => some r) (fun y1192 => some true))
def tile_Fits (k : Nat) (p0 : List Tile) (p1 : Pattern) : Option Bool := (tile_of k p0 p1).bind fun t1229 => (if t1229 = true then ((tile_joins k p0 p1 false).bind fun t1243 => some t1243) else (some false)).bind fun x1240 => some x1240
def top_lives (k : Nat)  : Option Bool := (tile_Repeat k (Pattern.mk 2 2 [0, 1, 1, 0]) 3 1).bind fun t493 => ((top_chess).bind fun t1524 => (tile_Repeats k t1524 (Pattern.mk 2 2 [0, 1, 1, 0])).bind fun t1531 => (if t1531 = true then ((top_chess).bind fun t1557 => (tile_Repeats k t1557 (Pattern.mk 1 1 [0])).bind fun t1569 => some (!t1569)) else (some false)).bind fun x1554 => (if (x1554 && (t493.2 == 0)) = true then ((top_sameInts k t493.1.Cells [0, 1, 0]).bind fun t1600 => some t1600) else (some false)).bind fun x1592 => (if x1592 = true then ((top_chess).bind fun t1626 => (tile_Fits k t1626 t493.1).bind fun t1633 => some t1633) else (some false)).bind fun x1623 => some x1623).bind fun x1520 => some x1520
def top_of.l1 : Nat → Int → (List Tile) → Int → Option (Sum Bool Unit)
  | 0, _, _, _ => none
  | k + 1, x1950, p0, x1905 => if (decide (x1950 < x1905)) = true then (if 0 ≤ x1950 ∧ x1950 < (p0.length : Int) then (if (((rdD p0 x1950 z_Tile).N) == ((rdD p0 x1905 z_Tile).N) && (((rdD p0 x1950 z_Tile).E) == ((rdD p0 x1905 z_Tile).E) && (((rdD p0 x1950 z_Tile).S) == ((rdD p0 x1905 z_Tile).S) && (((rdD p0 x1950 z_Tile).W) == ((rdD p0 x1905 z_Tile).W))))) = true then (some (.inl false)) else (top_of.l1 k (w64 (x1950 + 1)) p0 x1905)) else none) else (some (.inr ()))
def top_of.l0 : Nat → Int → (List Tile) → Option (Sum Bool Unit)
  | 0, _, _ => none
  | k + 1, x1905, p0 => if (decide (x1905 < (p0.length : Int))) = true then (if 0 ≤ x1905 ∧ x1905 < (p0.length : Int) then (if ((((((((decide ((rdD p0 x1905 z_Tile).N < 0)) || (decide ((rdD p0 x1905 z_Tile).E < 0))) || (decide ((rdD p0 x1905 z_Tile).S < 0))) || (decide ((rdD p0 x1905 z_Tile).W < 0))) || (decide ((rdD p0 x1905 z_Tile).N ≥ 1000))) || (decide ((rdD p0 x1905 z_Tile).E ≥ 1000))) || (decide ((rdD p0 x1905 z_Tile).S ≥ 1000))) || (decide ((rdD p0 x1905 z_Tile).W ≥ 1000))) = true then (some (.inl false)) else ((top_of.l1 k 0 p0 x1905).bind fun x1951 => sumb x1951 (fun r => some (.inl r)) (fun y1967 => top_of.l0 k (w64 (x1905 + 1)) p0))) else none) else (some (.inr ()))
def top_of.l2 : Nat → Int → (List Tile) → Pattern → Option (Sum Bool Unit)
  | 0, _, _, _ => none
  | k + 1, x1985, p0, p1 => if (decide (x1985 < (p1.Cells.length : Int))) = true then (if 0 ≤ x1985 ∧ x1985 < (p1.Cells.length : Int) then (if ((decide ((rdD p1.Cells x1985 0) < 0)) || (decide ((rdD p1.Cells x1985 0) ≥ (p0.length : Int)))) = true then (some (.inl false)) else (top_of.l2 k (w64 (x1985 + 1)) p0 p1)) else none) else (some (.inr ()))
def top_of.l4 : Nat → Int → (List Tile) → Pattern → Bool → Int → Option (Sum Bool Unit)
  | 0, _, _, _, _, _ => none
  | k + 1, x3072, p0, p1, p2, x2805 => if (decide (x3072 < p1.Width)) = true then (if 0 ≤ w64 ((w64 (x2805 * p1.Width)) + x3072) ∧ w64 ((w64 (x2805 * p1.Width)) + x3072) < (p1.Cells.length : Int) then (if 0 ≤ (rdD p1.Cells (w64 ((w64 (x2805 * p1.Width)) + x3072)) 0) ∧ (rdD p1.Cells (w64 ((w64 (x2805 * p1.Width)) + x3072)) 0) < (p0.length : Int) then ((if p2 = true then (if p1.Width ≠ 0 then (if 0 ≤ w64 ((w64 (x2805 * p1.Width)) + (Int.tmod (w64 (x3072 + 1)) p1.Width)) ∧ w64 ((w64 (x2805 * p1.Width)) + (Int.tmod (w64 (x3072 + 1)) p1.Width)) < (p1.Cells.length : Int) then (if 0 ≤ (rdD p1.Cells (w64 ((w64 (x2805 * p1.Width)) + (Int.tmod (w64 (x3072 + 1)) p1.Width))) 0) ∧ (rdD p1.Cells (w64 ((w64 (x2805 * p1.Width)) + (Int.tmod (w64 (x3072 + 1)) p1.Width))) 0) < (p0.length : Int) then (some (((rdD p0 (rdD p1.Cells (w64 ((w64 (x2805 * p1.Width)) + x3072)) 0) z_Tile).E) != ((rdD p0 (rdD p1.Cells (w64 ((w64 (x2805 * p1.Width)) + (Int.tmod (w64 (x3072 + 1)) p1.Width))) 0) z_Tile).W))) else none) else none) else none) else (if (decide (w64 (x3072 + 1) < p1.Width)) = true then (if p1.Width ≠ 0 then (if 0 ≤ w64 ((w64 (x2805 * p1.Width)) + (Int.tmod (w64 (x3072 + 1)) p1.Width)) ∧ w64 ((w64 (x2805 * p1.Width)) + (Int.tmod (w64 (x3072 + 1)) p1.Width)) < (p1.Cells.length : Int) then (if 0 ≤ (rdD p1.Cells (w64 ((w64 (x2805 * p1.Width)) + (Int.tmod (w64 (x3072 + 1)) p1.Width))) 0) ∧ (rdD p1.Cells (w64 ((w64 (x2805 * p1.Width)) + (Int.tmod (w64 (x3072 + 1)) p1.Width))) 0) < (p0.length : Int) then (some (((rdD p0 (rdD p1.Cells (w64 ((w64 (x2805 * p1.Width)) + x3072)) 0) z_Tile).E) != ((rdD p0 (rdD p1.Cells (w64 ((w64 (x2805 * p1.Width)) + (Int.tmod (w64 (x3072 + 1)) p1.Width))) 0) z_Tile).W))) else none) else none) else none) else (some false))).bind fun x3115 => if x3115 = true then (some (.inl false)) else ((if p2 = true then (if p1.Height ≠ 0 then (if 0 ≤ w64 ((w64 ((Int.tmod (w64 (x2805 + 1)) p1.Height) * p1.Width)) + x3072) ∧ w64 ((w64 ((Int.tmod (w64 (x2805 + 1)) p1.Height) * p1.Width)) + x3072) < (p1.Cells.length : Int) then (if 0 ≤ (rdD p1.Cells (w64 ((w64 ((Int.tmod (w64 (x2805 + 1)) p1.Height) * p1.Width)) + x3072)) 0) ∧ (rdD p1.Cells (w64 ((w64 ((Int.tmod (w64 (x2805 + 1)) p1.Height) * p1.Width)) + x3072)) 0) < (p0.length : Int) then (some (((rdD p0 (rdD p1.Cells (w64 ((w64 (x2805 * p1.Width)) + x3072)) 0) z_Tile).N) != ((rdD p0 (rdD p1.Cells (w64 ((w64 ((Int.tmod (w64 (x2805 + 1)) p1.Height) * p1.Width)) + x3072)) 0) z_Tile).S))) else none) else none) else none) else (if (decide (w64 (x2805 + 1) < p1.Height)) = true then (if p1.Height ≠ 0 then (if 0 ≤ w64 ((w64 ((Int.tmod (w64 (x2805 + 1)) p1.Height) * p1.Width)) + x3072) ∧ w64 ((w64 ((Int.tmod (w64 (x2805 + 1)) p1.Height) * p1.Width)) + x3072) < (p1.Cells.length : Int) then (if 0 ≤ (rdD p1.Cells (w64 ((w64 ((Int.tmod (w64 (x2805 + 1)) p1.Height) * p1.Width)) + x3072)) 0) ∧ (rdD p1.Cells (w64 ((w64 ((Int.tmod (w64 (x2805 + 1)) p1.Height) * p1.Width)) + x3072)) 0) < (p0.length : Int) then (some (((rdD p0 (rdD p1.Cells (w64 ((w64 (x2805 * p1.Width)) + x3072)) 0) z_Tile).N) != ((rdD p0 (rdD p1.Cells (w64 ((w64 ((Int.tmod (w64 (x2805 + 1)) p1.Height) * p1.Width)) + x3072)) 0) z_Tile).S))) else none) else none) else none) else (some false))).bind fun x3175 => if x3175 = true then (some (.inl false)) else (top_of.l4 k (w64 (x3072 + 1)) p0 p1 p2 x2805))) else none) else none) else (some (.inr ()))
def top_of.l3 : Nat → Int → (List Tile) → Pattern → Bool → Option (Sum Bool Unit)
  | 0, _, _, _, _ => none
  | k + 1, x2805, p0, p1, p2 => if (decide (x2805 < p1.Height)) = true then ((top_of.l4 k 0 p0 p1 p2 x2805).bind fun x3073 => sumb x3073 (fun r => some (.inl r)) (fun y3211 => top_of.l3 k (w64 (x2805 + 1)) p0 p1 p2)) else (some (.inr ()))
def top_of (k : Nat) (p0 : List Tile) (p1 : Pattern) (p2 : Bool) : Option Bool := if (((((((decide ((p0.length : Int) > 1000)) || (decide (p1.Width < 1))) || (decide (p1.Height < 1))) || (decide (p1.Width > 40000))) || (decide (p1.Height > 40000))) || (decide (w64 (p1.Width * p1.Height) > 40000))) || ((p1.Cells.length : Int) != (w64 (p1.Width * p1.Height)))) = true then (some false) else ((top_of.l0 k 0 p0).bind fun x1906 => sumb x1906 (fun r => some r) (fun y1972 => (top_of.l2 k 0 p0 p1).bind fun x1986 => sumb x1986 (fun r => some r) (fun y2000 => (top_of.l3 k 0 p0 p1 p2).bind fun x2806 => sumb x2806 (fun r => some r) (fun y3216 => some true))))
def top_cycle (p0 : Int) (p1 : Int) : Option Int := if p1 ≠ 0 then (some (Int.tmod (w64 ((Int.tmod p0 p1) + p1)) p1)) else none
def top_TopPeriods (k : Nat) (p0 : List Tile) (p1 : Pattern) (p2 : A2_Int) : Option Bool := if ((decide ((p1.Cells.length : Int) > 5000)) || (decide ((p0.length : Int) > 200))) = true then ((top_lives k).bind fun t1766 => some t1766) else ((tile_Fits k p0 p1).bind fun t3254 => (top_of k p0 p1 false).bind fun t3259 => (if (t3254 != t3259) = true then (some true) else ((tile_Repeats k p0 p1).bind fun t3278 => (top_of k p0 p1 true).bind fun t3283 => some (t3278 != t3283))).bind fun x3275 => if x3275 = true then (some false) else ((top_of k p0 p1 true).bind fun t3294 => if (!t3294) = true then ((top_lives k).bind fun t3300 => some t3300) else ((top_cycle p2.e0 40).bind fun t3318 => (top_cycle p2.e1 40).bind fun t3323 => (tile_Repeat k p1 (w64 (t3318 + 1)) (w64 (t3323 + 1))).bind fun t3328 => (if (((t3328.2 == 0) && (t3328.1.Width == (w64 (t3318 + 1)))) && (t3328.1.Height == (w64 (t3323 + 1)))) = true then ((top_of k p0 t3328.1 false).bind fun t3354 => some t3354) else (some false)).bind fun x3351 => (if x3351 = true then ((top_lives k).bind fun t3373 => some t3373) else (some false)).bind fun x3370 => some x3370)))
end Gp
namespace Gp
open Go Gw Go.Proofs Go.RowKit
def ok_Tile (a : Tile) : Prop := (ok64 a.N) ∧ (ok64 a.E) ∧ (ok64 a.S) ∧ (ok64 a.W)
theorem opn_Tile_38 {H : Type} {enc : TypeId × Value → H} {w : World} {base : Nat} {spare : Nat → Bool} {held : Bool} {fuel : Nat} {cs : List Value} {x : DataW H × List MemPlace} (h : DataW.trod enc Try.prog w base spare held fuel 38 cs = some x) : ∃ (a : Tile), cs = [.int .i64 a.N, .int .i64 a.E, .int .i64 a.S, .int .i64 a.W] ∧ ok_Tile a := by
  obtain ⟨hl, n, hf⟩ := opn_fields Try.underlying38 h
  have hl0 : cs.length = 4 := hl.trans (by kernel_rfl)
  obtain ⟨q0, r0, rfl, hl1⟩ := cons_of hl0
  obtain ⟨q1, r1, rfl, hl2⟩ := cons_of hl1
  obtain ⟨q2, r2, rfl, hl3⟩ := cons_of hl2
  obtain ⟨q3, r3, rfl, hl4⟩ := cons_of hl3
  obtain rfl := List.eq_nil_of_length_eq_zero hl4
  obtain ⟨y0, h0⟩ := hf 0 _ 1 rfl (by kernel_rfl)
  have h0 : DataW.trod enc Try.prog w base spare held n 3 [q0] = some y0 := h0
  obtain ⟨a0, e0, w0⟩ := opn_int Try.underlying3 h0
  injection e0 with f0 e0
  subst f0
  obtain ⟨y1, h1⟩ := hf 1 _ 1 rfl (by kernel_rfl)
  have h1 : DataW.trod enc Try.prog w base spare held n 3 [q1] = some y1 := h1
  obtain ⟨a1, e1, w1⟩ := opn_int Try.underlying3 h1
  injection e1 with f1 e1
  subst f1
  obtain ⟨y2, h2⟩ := hf 2 _ 1 rfl (by kernel_rfl)
  have h2 : DataW.trod enc Try.prog w base spare held n 3 [q2] = some y2 := h2
  obtain ⟨a2, e2, w2⟩ := opn_int Try.underlying3 h2
  injection e2 with f2 e2
  subst f2
  obtain ⟨y3, h3⟩ := hf 3 _ 1 rfl (by kernel_rfl)
  have h3 : DataW.trod enc Try.prog w base spare held n 3 [q3] = some y3 := h3
  obtain ⟨a3, e3, w3⟩ := opn_int Try.underlying3 h3
  injection e3 with f3 e3
  subst f3
  exact ⟨⟨a0, a1, a2, a3⟩, rfl, ⟨wf64 w0, wf64 w1, wf64 w2, wf64 w3⟩⟩
theorem opens_Tile_38 : Opens Try.prog 38 enc_Tile ok_Tile := ⟨by kernel_rfl, by decide, fun h => opn_Tile_38 h⟩
def ok_Pattern (a : Pattern) : Prop := (ok64 a.Width) ∧ (ok64 a.Height) ∧ ((∀ x ∈ a.Cells, ok64 x) ∧ a.Cells.length ≤ maxLen)
theorem opn_Pattern_25 {H : Type} {enc : TypeId × Value → H} {w : World} {base : Nat} {spare : Nat → Bool} {held : Bool} {fuel : Nat} {cs : List Value} {x : DataW H × List MemPlace} (h : DataW.trod enc Try.prog w base spare held fuel 25 cs = some x) : ∃ (a : Pattern) (A0 : Option Addr) (c0 : Nat), cs = [.int .i64 a.Width, .int .i64 a.Height, .slice A0 a.Cells.length c0] ∧ RO NoS w (rowR encInt A0 c0 a.Cells) ∧ ok_Pattern a := by
  obtain ⟨hl, n, hf⟩ := opn_fields Try.underlying25 h
  have hl0 : cs.length = 3 := hl.trans (by kernel_rfl)
  obtain ⟨q0, r0, rfl, hl1⟩ := cons_of hl0
  obtain ⟨q1, r1, rfl, hl2⟩ := cons_of hl1
  obtain ⟨q2, r2, rfl, hl3⟩ := cons_of hl2
  obtain rfl := List.eq_nil_of_length_eq_zero hl3
  obtain ⟨y0, h0⟩ := hf 0 _ 1 rfl (by kernel_rfl)
  have h0 : DataW.trod enc Try.prog w base spare held n 3 [q0] = some y0 := h0
  obtain ⟨a0, e0, w0⟩ := opn_int Try.underlying3 h0
  injection e0 with f0 e0
  subst f0
  obtain ⟨y1, h1⟩ := hf 1 _ 1 rfl (by kernel_rfl)
  have h1 : DataW.trod enc Try.prog w base spare held n 3 [q1] = some y1 := h1
  obtain ⟨a1, e1, w1⟩ := opn_int Try.underlying3 h1
  injection e1 with f1 e1
  subst f1
  obtain ⟨y2, h2⟩ := hf 2 _ 1 rfl (by kernel_rfl)
  have h2 : DataW.trod enc Try.prog w base spare held n 23 [q2] = some y2 := h2
  obtain ⟨A2_, c2_, a2, e2, o2, w2, m2⟩ := opn_row Try.underlying23 (opens_int Try.underlying3 (by kernel_rfl)) h2
  injection e2 with f2 e2
  subst f2
  exact ⟨⟨a0, a1, a2⟩, A2_, c2_, rfl, o2, ⟨wf64 w0, wf64 w1, ⟨w2, m2⟩⟩⟩
def ok_A2_Int (a : A2_Int) : Prop := (ok64 a.e0) ∧ (ok64 a.e1)
theorem opn_A2_Int_26 {H : Type} {enc : TypeId × Value → H} {w : World} {base : Nat} {spare : Nat → Bool} {held : Bool} {fuel : Nat} {cs : List Value} {x : DataW H × List MemPlace} (h : DataW.trod enc Try.prog w base spare held fuel 26 cs = some x) : ∃ (a : A2_Int), cs = [.int .i64 a.e0, .int .i64 a.e1] ∧ ok_A2_Int a := by
  obtain ⟨hl, n, hf⟩ := opn_items Try.underlying26 h
  have hl0 : cs.length = 2 := hl.trans (by kernel_rfl)
  obtain ⟨q0, r0, rfl, hl1⟩ := cons_of hl0
  obtain ⟨q1, r1, rfl, hl2⟩ := cons_of hl1
  obtain rfl := List.eq_nil_of_length_eq_zero hl2
  obtain ⟨y0, h0⟩ := hf 0 1 (by decide) (by kernel_rfl)
  have h0 : DataW.trod enc Try.prog w base spare held n 3 [q0] = some y0 := h0
  obtain ⟨a0, e0, w0⟩ := opn_int Try.underlying3 h0
  injection e0 with f0 e0
  subst f0
  obtain ⟨y1, h1⟩ := hf 1 1 (by decide) (by kernel_rfl)
  have h1 : DataW.trod enc Try.prog w base spare held n 3 [q1] = some y1 := h1
  obtain ⟨a1, e1, w1⟩ := opn_int Try.underlying3 h1
  injection e1 with f1 e1
  subst f1
  exact ⟨⟨a0, a1⟩, rfl, ⟨wf64 w0, wf64 w1⟩⟩
theorem opens_A2_Int_26 : Opens Try.prog 26 enc_A2_Int ok_A2_Int := ⟨by kernel_rfl, by decide, fun h => opn_A2_Int_26 h⟩
end Gp
