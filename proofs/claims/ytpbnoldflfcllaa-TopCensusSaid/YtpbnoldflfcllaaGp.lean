/- The functions that the law reaches, as plain functions; how what comes in is opened. -/
import Derived.Test.YtpbnoldflfcllaaGs
set_option linter.unusedVariables false
set_option linter.unusedSimpArgs false
set_option maxHeartbeats 4000000
set_option maxRecDepth 8000
namespace Gp
open Go Gw
abbrev iv (n : Int) : Value := .int .i64 n
abbrev pt (g : Nat) : Value := .pointer (some ⟨g, 0, none⟩)
abbrev sv {α : Type} (A : Option Addr) (l : List α) (c : Nat) : Value := .slice A l.length c
abbrev bv (b : Bool) : Value := .bool b
structure Tally where
  Sets : Int
  Fill : Int
  Cells : Int
  Side : Int
  deriving DecidableEq
def z_Tally : Tally := ⟨0, 0, 0, 0⟩
def ints_Tally (x : Tally) : List Int := [x.Sets, x.Fill, x.Cells, x.Side]
def enc_Tally : Enc Tally := ⟨4, fun x => [(.int .i64 x.Sets), (.int .i64 x.Fill), (.int .i64 x.Cells), (.int .i64 x.Side)], fun _ => rfl, fun x u h => by simp at h; rcases h with rfl | rfl | rfl | rfl <;> rfl⟩
structure Pattern where
  Width : Int
  Height : Int
  Cells : List Int
  deriving DecidableEq
def z_Pattern : Pattern := ⟨0, 0, []⟩
def encN_Pattern : Enc (HF × Pattern) := ⟨3, fun x => [(.int .i64 x.2.Width), (.int .i64 x.2.Height), (.slice (x.1 0).1 x.2.Cells.length (x.1 0).2)], fun _ => rfl, fun x u h => by simp at h; rcases h with rfl | rfl | rfl <;> rfl⟩
def subN_Pattern (h : HF) (x : Pattern) : Own := rowR encInt (h 0).1 (h 0).2 x.Cells
structure Verdict where
  Fills : Bool
  Torus : Pattern
  Side : Int
  deriving DecidableEq
def z_Verdict : Verdict := ⟨false, z_Pattern, 0⟩
structure Tile where
  N : Int
  E : Int
  S : Int
  W : Int
  deriving DecidableEq
def z_Tile : Tile := ⟨0, 0, 0, 0⟩
def ints_Tile (x : Tile) : List Int := [x.N, x.E, x.S, x.W]
def enc_Tile : Enc Tile := ⟨4, fun x => [(.int .i64 x.N), (.int .i64 x.E), (.int .i64 x.S), (.int .i64 x.W)], fun _ => rfl, fun x u h => by simp at h; rcases h with rfl | rfl | rfl | rfl <;> rfl⟩
structure A8_Int where
  e0 : Int
  e1 : Int
  e2 : Int
  e3 : Int
  e4 : Int
  e5 : Int
  e6 : Int
  e7 : Int
  deriving DecidableEq
def z_A8_Int : A8_Int := ⟨0, 0, 0, 0, 0, 0, 0, 0⟩
def A8_Int.get (a : A8_Int) (i : Int) : Int := if i = 0 then a.e0 else if i = 1 then a.e1 else if i = 2 then a.e2 else if i = 3 then a.e3 else if i = 4 then a.e4 else if i = 5 then a.e5 else if i = 6 then a.e6 else a.e7
def A8_Int.set (a : A8_Int) (i v : Int) : A8_Int := ⟨if i = 0 then v else a.e0, if i = 1 then v else a.e1, if i = 2 then v else a.e2, if i = 3 then v else a.e3, if i = 4 then v else a.e4, if i = 5 then v else a.e5, if i = 6 then v else a.e6, if i = 7 then v else a.e7⟩
def ints_A8_Int (x : A8_Int) : List Int := [x.e0, x.e1, x.e2, x.e3, x.e4, x.e5, x.e6, x.e7]
def enc_A8_Int : Enc A8_Int := ⟨8, fun x => [(.int .i64 x.e0), (.int .i64 x.e1), (.int .i64 x.e2), (.int .i64 x.e3), (.int .i64 x.e4), (.int .i64 x.e5), (.int .i64 x.e6), (.int .i64 x.e7)], fun _ => rfl, fun x u h => by simp at h; rcases h with rfl | rfl | rfl | rfl | rfl | rfl | rfl | rfl <;> rfl⟩
structure Row where
  Cells : List Int
  South : A8_Int
  North : A8_Int
  West : Int
  East : Int
  deriving DecidableEq
def z_Row : Row := ⟨[], z_A8_Int, z_A8_Int, 0, 0⟩
def encN_Row : Enc (HF × Row) := ⟨19, fun x => [(.slice (x.1 0).1 x.2.Cells.length (x.1 0).2), (.int .i64 x.2.South.e0), (.int .i64 x.2.South.e1), (.int .i64 x.2.South.e2), (.int .i64 x.2.South.e3), (.int .i64 x.2.South.e4), (.int .i64 x.2.South.e5), (.int .i64 x.2.South.e6), (.int .i64 x.2.South.e7), (.int .i64 x.2.North.e0), (.int .i64 x.2.North.e1), (.int .i64 x.2.North.e2), (.int .i64 x.2.North.e3), (.int .i64 x.2.North.e4), (.int .i64 x.2.North.e5), (.int .i64 x.2.North.e6), (.int .i64 x.2.North.e7), (.int .i64 x.2.West), (.int .i64 x.2.East)], fun _ => rfl, fun x u h => by simp at h; rcases h with rfl | rfl | rfl | rfl | rfl | rfl | rfl | rfl | rfl | rfl | rfl | rfl | rfl | rfl | rfl | rfl | rfl | rfl | rfl <;> rfl⟩
def subN_Row (h : HF) (x : Row) : Own := rowR encInt (h 0).1 (h 0).2 x.Cells
structure Edges where
  North : List Int
  East : List Int
  South : List Int
  West : List Int
  deriving DecidableEq
def z_Edges : Edges := ⟨[], [], [], []⟩
structure Job where
  rows : List Row
  width : Int
  height : Int
  edges : Edges
  deriving DecidableEq
def z_Job : Job := ⟨[], 0, 0, z_Edges⟩
structure S_side_n where
  side : List Int
  n : Int
  deriving DecidableEq
def z_S_side_n : S_side_n := ⟨[], 0⟩
def encN_S_side_n : Enc (HF × S_side_n) := ⟨2, fun x => [(.slice (x.1 0).1 x.2.side.length (x.1 0).2), (.int .i64 x.2.n)], fun _ => rfl, fun x u h => by simp at h; rcases h with rfl | rfl <;> rfl⟩
def subN_S_side_n (h : HF) (x : S_side_n) : Own := rowR encInt (h 0).1 (h 0).2 x.side
structure A4_Int where
  e0 : Int
  e1 : Int
  e2 : Int
  e3 : Int
  deriving DecidableEq
def z_A4_Int : A4_Int := ⟨0, 0, 0, 0⟩
def A4_Int.get (a : A4_Int) (i : Int) : Int := if i = 0 then a.e0 else if i = 1 then a.e1 else if i = 2 then a.e2 else a.e3
def A4_Int.set (a : A4_Int) (i v : Int) : A4_Int := ⟨if i = 0 then v else a.e0, if i = 1 then v else a.e1, if i = 2 then v else a.e2, if i = 3 then v else a.e3⟩
def ints_A4_Int (x : A4_Int) : List Int := [x.e0, x.e1, x.e2, x.e3]
def enc_A4_Int : Enc A4_Int := ⟨4, fun x => [(.int .i64 x.e0), (.int .i64 x.e1), (.int .i64 x.e2), (.int .i64 x.e3)], fun _ => rfl, fun x u h => by simp at h; rcases h with rfl | rfl | rfl | rfl <;> rfl⟩
def census_few (p0 : Int) : Option Bool := some ((decide (p0 ≥ 0)) && (decide (p0 ≤ 3)))
def census_words (p0 : Int) : Option Unit := some ()
def tile_colour_1 (p0 : Int) : Option Bool := some ((decide (p0 < 0)) || (decide (p0 ≥ 1000)))
def slices_IndexFunc_int_int_with_tile_colour_1.l0 : Nat → Int → (List Int) → Option (Sum Int Unit)
  | 0, _, _ => none
  | k + 1, x2, p0 => if (decide (x2 < (p0.length : Int))) = true then (if 0 ≤ x2 ∧ x2 < (p0.length : Int) then ((tile_colour_1 (rdD p0 x2 0)).bind fun t3 => if t3 = true then (some (.inl x2)) else (slices_IndexFunc_int_int_with_tile_colour_1.l0 k (w64 (x2 + 1)) p0)) else none) else (some (.inr ()))
def slices_IndexFunc_int_int_with_tile_colour_1 (k : Nat) (p0 : List Int) : Option Int := (slices_IndexFunc_int_int_with_tile_colour_1.l0 k 0 p0).bind fun x2 => sumb x2 (fun r => some r) (fun y3 => some (-1))
def slices_ContainsFunc_int_int_with_tile_colour_1 (k : Nat) (p0 : List Int) : Option Bool := (slices_IndexFunc_int_int_with_tile_colour_1 k p0).bind fun t2 => some (decide (t2 ≥ 0))
def tile_colour (k : Nat) (p0 : List Int) : Option Bool := (slices_ContainsFunc_int_int_with_tile_colour_1 k p0).bind fun t2 => some (!t2)
def tile_Valid.l0 : Nat → (List (Tile × Bool)) → Int → (List Tile) → Option (Sum Bool Unit)
  | 0, _, _, _ => none
  | k + 1, l1, x2, p0 => if (decide (x2 < (p0.length : Int))) = true then (if 0 ≤ x2 ∧ x2 < (p0.length : Int) then ((if (mget (rdD p0 x2 z_Tile) false l1) = true then (some true) else ((tile_colour k [(rdD p0 x2 z_Tile).N, (rdD p0 x2 z_Tile).E, (rdD p0 x2 z_Tile).S, (rdD p0 x2 z_Tile).W]).bind fun t4 => some (!t4))).bind fun x3 => if x3 = true then (some (.inl false)) else (tile_Valid.l0 k (mput (rdD p0 x2 z_Tile) true l1) (w64 (x2 + 1)) p0)) else none) else (some (.inr ()))
def tile_Valid (k : Nat) (p0 : List Tile) : Option Bool := if (decide ((p0.length : Int) > 1000)) = true then (some false) else ((tile_Valid.l0 k ([] : List (Tile × Bool)) 0 p0).bind fun x1 => sumb x1 (fun r => some r) (fun y2 => some true))
def census_orders (p0 : List Tile) : Option Unit := some ()
def census_names_of (p0 : List (Int × Int)) (p1 : Int) : Option (Int × (List (Int × Int))) := (if (!(mhas p1 p0)) = true then (some (mput p1 (p0.length : Int) p0)) else (some p0)).bind fun x2 => some (mget p1 0 x2, x2)
def census_renamed.l0 : Nat → (List (Int × Int)) → (List (Int × Int)) → (List Tile) → Int → (List Tile) → Option (List Tile)
  | 0, _, _, _, _, _ => none
  | k + 1, l1, l2, l3, x4, p0 => if (decide (x4 < (p0.length : Int))) = true then (if 0 ≤ x4 ∧ x4 < (p0.length : Int) then ((census_names_of l1 ((rdD p0 x4 z_Tile).N)).bind fun t5 => (census_names_of l2 ((rdD p0 x4 z_Tile).E)).bind fun t6 => (census_names_of t5.2 ((rdD p0 x4 z_Tile).S)).bind fun t7 => (census_names_of t6.2 ((rdD p0 x4 z_Tile).W)).bind fun t8 => if l3.length + [(Tile.mk t5.1 t6.1 t7.1 t8.1)].length ≤ 100000000000 then (census_renamed.l0 k t7.2 t8.2 (l3 ++ [(Tile.mk t5.1 t6.1 t7.1 t8.1)]) (w64 (x4 + 1)) p0) else none) else none) else (some l3)
def census_renamed (k : Nat) (p0 : List Tile) : Option (List Tile) := (census_renamed.l0 k ([] : List (Int × Int)) ([] : List (Int × Int)) ([] : List Tile) 0 p0).bind fun x1 => some x1
def census_numbers.l0 : Nat → (List Int) → Int → (List Tile) → Option (List Int)
  | 0, _, _, _ => none
  | k + 1, l1, x2, p0 => if (decide (x2 < (p0.length : Int))) = true then (if 0 ≤ x2 ∧ x2 < (p0.length : Int) then (if l1.length + [(rdD p0 x2 z_Tile).N, (rdD p0 x2 z_Tile).E, (rdD p0 x2 z_Tile).S, (rdD p0 x2 z_Tile).W].length ≤ 100000000000 then (census_numbers.l0 k (l1 ++ [(rdD p0 x2 z_Tile).N, (rdD p0 x2 z_Tile).E, (rdD p0 x2 z_Tile).S, (rdD p0 x2 z_Tile).W]) (w64 (x2 + 1)) p0) else none) else none) else (some l1)
def census_numbers (k : Nat) (p0 : List Tile) : Option (List Int) := (census_numbers.l0 k ([] : List Int) 0 p0).bind fun x1 => some x1
def cmp_isNaN_int (p0 : Int) : Option Bool := some (p0 != p0)
def cmp_Compare_int (p0 : Int) (p1 : Int) : Option Int := (cmp_isNaN_int p0).bind fun t2 => (cmp_isNaN_int p1).bind fun t3 => if t2 = true then (if t3 = true then (some 0) else (some (-1))) else (if t3 = true then (some 1) else (if (decide (p0 < p1)) = true then (some (-1)) else (if (decide (p0 > p1)) = true then (some 1) else (some 0))))
def slices_Compare_int_int.l0 : Nat → Int → (List Int) → (List Int) → Option (Sum Int Unit)
  | 0, _, _, _ => none
  | k + 1, x2, p0, p1 => if (decide (x2 < (p0.length : Int))) = true then (if 0 ≤ x2 ∧ x2 < (p0.length : Int) then (if (decide (x2 ≥ (p1.length : Int))) = true then (some (.inl 1)) else (if 0 ≤ x2 ∧ x2 < (p1.length : Int) then ((cmp_Compare_int (rdD p0 x2 0) (rdD p1 x2 0)).bind fun t3 => if (t3 != 0) = true then (some (.inl t3)) else (slices_Compare_int_int.l0 k (w64 (x2 + 1)) p0 p1)) else none)) else none) else (some (.inr ()))
def slices_Compare_int_int (k : Nat) (p0 : List Int) (p1 : List Int) : Option Int := (slices_Compare_int_int.l0 k 0 p0 p1).bind fun x2 => sumb x2 (fun r => some r) (fun y3 => if (decide ((p0.length : Int) < (p1.length : Int))) = true then (some (-1)) else (some 0))
def census_before (k : Nat) (p0 : List Tile) (p1 : List Tile) : Option Int := (census_numbers k p0).bind fun t2 => (census_numbers k p1).bind fun t3 => (slices_Compare_int_int k t2 t3).bind fun t4 => some t4
def slices_Clone_api_Tile_api_Tile_nil (p0 : List Tile) : Option (List Tile) := some ([] : List Tile)
def slices_Clone_api_Tile_api_Tile_some (p0 : List Tile) : Option (List Tile) := if ([] : List Tile).length + p0.length ≤ 100000000000 then (some (([] : List Tile) ++ p0)) else none
def slices_Clone_api_Tile_api_Tile (p0 : List Tile) : Option (List Tile) := slices_Clone_api_Tile_api_Tile_some p0
def census_orders_1_1_y.l0 {σ : Type} : Nat → (List Tile) → Int → σ → Int → ((List Tile) → σ → Option (σ × Bool)) → (Int → (List Tile) → ((List Tile) → σ → Option (σ × Bool)) → σ → Option (Bool × (List Tile) × σ)) → Option (Sum (Bool × (List Tile) × σ) ((List Tile) × σ))
  | 0, _, _, _, _, _, _ => none
  | k + 1, l2, x3, s4, p0, yf, rc_ => if (decide (x3 < (l2.length : Int))) = true then (if 0 ≤ x3 ∧ x3 < (l2.length : Int) then (if 0 ≤ p0 ∧ p0 < (l2.length : Int) then (if 0 ≤ x3 ∧ x3 < ((l2.set (p0).toNat (rdD l2 x3 z_Tile)).length : Int) then ((rc_ (w64 (p0 + 1)) ((l2.set (p0).toNat (rdD l2 x3 z_Tile)).set (x3).toNat (rdD l2 p0 z_Tile)) yf s4).bind fun t5 => if 0 ≤ x3 ∧ x3 < (t5.2.1.length : Int) then (if 0 ≤ p0 ∧ p0 < (t5.2.1.length : Int) then (if 0 ≤ x3 ∧ x3 < ((t5.2.1.set (p0).toNat (rdD t5.2.1 x3 z_Tile)).length : Int) then (if (!t5.1) = true then (some (.inl (false, (t5.2.1.set (p0).toNat (rdD t5.2.1 x3 z_Tile)).set (x3).toNat (rdD t5.2.1 p0 z_Tile), t5.2.2))) else (census_orders_1_1_y.l0 k ((t5.2.1.set (p0).toNat (rdD t5.2.1 x3 z_Tile)).set (x3).toNat (rdD t5.2.1 p0 z_Tile)) (w64 (x3 + 1)) t5.2.2 p0 yf rc_)) else none) else none) else none) else none) else none) else none) else (some (.inr (l2, s4)))
def census_orders_1_1_y {σ : Type} : Nat → Int → (List Tile) → ((List Tile) → σ → Option (σ × Bool)) → σ → Option (Bool × (List Tile) × σ)
  | 0, _, _, _, _ => none
  | k + 1, p0, f0, yf, sY => if (p0 == (f0.length : Int)) = true then ((yf f0 sY).bind fun t2 => some (t2.2, f0, t2.1)) else ((census_orders_1_1_y.l0 k f0 p0 sY p0 yf (census_orders_1_1_y k)).bind fun x3 => sumb x3 (fun r => some r) (fun y4 => some (true, y4.1, y4.2)))
def census_orders_1_y {σ : Type} (k : Nat) (f0 : List Tile) (yf : (List Tile) → σ → Option (σ × Bool)) (sY : σ) : Option σ := (slices_Clone_api_Tile_api_Tile f0).bind fun t2 => (census_orders_1_1_y k 0 t2 yf sY).bind fun t3 => some t3.2.2
def census_least.b1 : Nat → (List Tile) → ((Bool × (List Tile)) × Int) → Option (((Bool × (List Tile)) × Int) × Bool)
  | k, x4, ((b3, l2), j5) => if j5 = 0 then ((census_renamed k x4).bind fun t6 => nilM b3 l2 (some (((false, t6), 0), true)) ((census_before k t6 l2).bind fun t7 => (if (decide (t7 < 0)) = true then (some t6) else (some l2)).bind fun x8 => some (((false, x8), 0), true))) else none
def census_least (k : Nat) (p0 : List Tile) : Option (List Tile) := (census_orders p0).bind fun t2 => (census_orders_1_y k p0 (census_least.b1 k ) ((true, ([] : List Tile)), (0 : Int))).bind fun t3 => if t3.2 = 0 then (some t3.1.2) else none
def census_words_1_1_y.l0 {σ : Type} : Nat → (List Int) → Int → σ → Int → Int → Int → ((List Int) → σ → Option (σ × Bool)) → (Int → Int → Int → (List Int) → ((List Int) → σ → Option (σ × Bool)) → σ → Option (Bool × σ × (List Int))) → Option (Sum (Bool × σ × (List Int)) ((List Int) × σ))
  | 0, _, _, _, _, _, _, _, _ => none
  | k + 1, l2, x3, s4, p0, p1, f0, yf, rc_ => if (decide (x3 < w64 (p1 + 1))) = true then (if 0 ≤ p0 ∧ p0 < (l2.length : Int) then ((rc_ (w64 (p0 + 1)) (maxI p1 (w64 (x3 + 1))) f0 (l2.set (p0).toNat x3) yf s4).bind fun t5 => if (!t5.1) = true then (some (.inl (false, t5.2.1, t5.2.2))) else (census_words_1_1_y.l0 k t5.2.2 (w64 (x3 + 1)) t5.2.1 p0 p1 f0 yf rc_)) else none) else (some (.inr (l2, s4)))
def census_words_1_1_y {σ : Type} : Nat → Int → Int → Int → (List Int) → ((List Int) → σ → Option (σ × Bool)) → σ → Option (Bool × σ × (List Int))
  | 0, _, _, _, _, _, _ => none
  | k + 1, p0, p1, f0, f2, yf, sY => if (p0 == f0) = true then ((yf f2 sY).bind fun t3 => some (t3.2, t3.1, f2)) else ((census_words_1_1_y.l0 k f2 0 sY p0 p1 f0 yf (census_words_1_1_y k)).bind fun x4 => sumb x4 (fun r => some r) (fun y5 => some (true, y5.2, y5.1)))
def census_words_1_y {σ : Type} (k : Nat) (f0 : Int) (yf : (List Int) → σ → Option (σ × Bool)) (sY : σ) : Option σ := if 0 ≤ f0 ∧ f0 ≤ 100000000000 then ((census_words_1_1_y k 0 0 f0 (List.replicate f0.toNat (0 : Int)) yf sY).bind fun t2 => some t2.2.1) else none
def census_forms.l0 : Nat → (List Tile) → Int → Int → (List Int) → (List Int) → Option (List Tile)
  | 0, _, _, _, _, _ => none
  | k + 1, l3, x4, p0, x1, x2 => if (decide (x4 < p0)) = true then (if 0 ≤ w64 (2 * x4) ∧ w64 (2 * x4) < (x1.length : Int) then (if 0 ≤ w64 (2 * x4) ∧ w64 (2 * x4) < (x2.length : Int) then (if 0 ≤ w64 ((w64 (2 * x4)) + 1) ∧ w64 ((w64 (2 * x4)) + 1) < (x1.length : Int) then (if 0 ≤ w64 ((w64 (2 * x4)) + 1) ∧ w64 ((w64 (2 * x4)) + 1) < (x2.length : Int) then (if l3.length + [(Tile.mk (rdD x1 (w64 (2 * x4)) 0) (rdD x2 (w64 (2 * x4)) 0) (rdD x1 (w64 ((w64 (2 * x4)) + 1)) 0) (rdD x2 (w64 ((w64 (2 * x4)) + 1)) 0))].length ≤ 100000000000 then (census_forms.l0 k (l3 ++ [(Tile.mk (rdD x1 (w64 (2 * x4)) 0) (rdD x2 (w64 (2 * x4)) 0) (rdD x1 (w64 ((w64 (2 * x4)) + 1)) 0) (rdD x2 (w64 ((w64 (2 * x4)) + 1)) 0))]) (w64 (x4 + 1)) p0 x1 x2) else none) else none) else none) else none) else none) else (some l3)
def census_forms.b2 : Nat → Int → (List Int) → (List Int) → ((List (List Tile)) × Int) → Option (((List (List Tile)) × Int) × Bool)
  | k, p0, x1, x4, (l3, j5) => if j5 = 0 then ((census_forms.l0 k ([] : List Tile) 0 p0 x1 x4).bind fun x6 => (tile_Valid k x6).bind fun t7 => (if t7 = true then ((census_least k x6).bind fun t9 => (census_before k t9 x6).bind fun t10 => some (t10 == 0)) else (some false)).bind fun x8 => (if x8 = true then (if l3.length + 1 ≤ 100000000000 then (some (l3 ++ [x6])) else none) else (some l3)).bind fun x11 => some ((x11, 0), true)) else none
def census_forms.b1 : Nat → Int → (List Int) → ((List (List Tile)) × Int) → Option (((List (List Tile)) × Int) × Bool)
  | k, p0, x4, (l3, j5) => if j5 = 0 then ((census_words (w64 (2 * p0))).bind fun t6 => (census_words_1_y k (w64 (2 * p0)) (census_forms.b2 k p0 x4) (l3, (0 : Int))).bind fun t7 => if t7.2 = 0 then (some ((t7.1, 0), true)) else none) else none
def census_forms (k : Nat) (p0 : Int) : Option (List (List Tile)) := (census_words (w64 (2 * p0))).bind fun t44 => (census_words_1_y k (w64 (2 * p0)) (census_forms.b1 k p0) (([] : List (List Tile)), (0 : Int))).bind fun t2 => if t2.2 = 0 then ((sortP (census_before k) t2.1 []).bind fun t3 => some t3) else none
def decide_asks (k : Nat) (p0 : List Tile) : Option Int := (tile_Valid k p0).bind fun t1 => if (!t1) = true then (some 1) else (if (decide ((p0.length : Int) > 3)) = true then (some 2) else (some 0))
def decide_sides (p0 : List Tile) : Option Unit := some ()
def rows_Few.l0 : Nat → Int → Int → (List Tile) → Int → Option (Sum Bool Unit)
  | 0, _, _, _, _ => none
  | k + 1, x2, x3, p0, p1 => if (decide (x3 < p1)) = true then (if (decide (w64 (x2 * (maxI (p0.length : Int) 1)) > 5000)) = true then (some (.inl false)) else (rows_Few.l0 k (w64 (x2 * (maxI (p0.length : Int) 1))) (w64 (x3 + 1)) p0 p1)) else (some (.inr ()))
def rows_Few (k : Nat) (p0 : List Tile) (p1 : Int) : Option Bool := (rows_Few.l0 k 1 0 p0 p1).bind fun x2 => sumb x2 (fun r => some r) (fun y3 => some true)
def square_check (k : Nat) (p0 : List Tile) (p1 : Int) : Option Int := (tile_Valid k p0).bind fun t2 => if (!t2) = true then (some 1) else (if ((decide (p1 < 1)) || (decide (p1 > 8))) = true then (some 2) else ((rows_Few k p0 p1).bind fun t3 => if (!t3) = true then (some 4) else (some 0)))
def rows_rowOf.l0 : Nat → A8_Int → A8_Int → Int → (List Tile) → (List Int) → Option (A8_Int × A8_Int)
  | 0, _, _, _, _, _ => none
  | k + 1, a2, a3, x4, p0, p1 => if (decide (x4 < (p1.length : Int))) = true then (if 0 ≤ x4 ∧ x4 < (p1.length : Int) then (if 0 ≤ (rdD p1 x4 0) ∧ (rdD p1 x4 0) < (p0.length : Int) then (if 0 ≤ x4 ∧ x4 < (8 : Int) then (rows_rowOf.l0 k (A8_Int.set a2 x4 ((rdD p0 (rdD p1 x4 0) z_Tile).S)) (A8_Int.set a3 x4 ((rdD p0 (rdD p1 x4 0) z_Tile).N)) (w64 (x4 + 1)) p0 p1) else none) else none) else none) else (some (a2, a3))
def rows_rowOf (k : Nat) (p0 : List Tile) (p1 : List Int) : Option Row := if ([] : List Int).length + p1.length ≤ 100000000000 then ((rows_rowOf.l0 k (A8_Int.mk 0 0 0 0 0 0 0 0) (A8_Int.mk 0 0 0 0 0 0 0 0) 0 p0 p1).bind fun x2 => if 0 ≤ (0 : Int) ∧ (0 : Int) < (p1.length : Int) then (if 0 ≤ (rdD p1 (0 : Int) 0) ∧ (rdD p1 (0 : Int) 0) < (p0.length : Int) then (if 0 ≤ w64 ((p1.length : Int) - 1) ∧ w64 ((p1.length : Int) - 1) < (p1.length : Int) then (if 0 ≤ (rdD p1 (w64 ((p1.length : Int) - 1)) 0) ∧ (rdD p1 (w64 ((p1.length : Int) - 1)) 0) < (p0.length : Int) then (some (Row.mk (([] : List Int) ++ p1) x2.1 x2.2 ((rdD p0 (rdD p1 (0 : Int) 0) z_Tile).W) ((rdD p0 (rdD p1 (w64 ((p1.length : Int) - 1)) 0) z_Tile).E))) else none) else none) else none) else none) else none
def rows_All_1.l0 : Nat → (List Row) → (List Int) → Int → Int → Int → (List Tile) → (Int → Int → (List Row) → (List Tile) → (List Int) → Option ((List Row) × (List Int))) → Option ((List Row) × (List Int))
  | 0, _, _, _, _, _, _, _ => none
  | k + 1, l3, l4, x5, p0, f0, f2, rc_ => if (decide (x5 < (f2.length : Int))) = true then (if 0 ≤ x5 ∧ x5 < (f2.length : Int) then ((if (p0 == 0) = true then (some true) else (if 0 ≤ w64 (p0 - 1) ∧ w64 (p0 - 1) < (l4.length : Int) then (if 0 ≤ (rdD l4 (w64 (p0 - 1)) 0) ∧ (rdD l4 (w64 (p0 - 1)) 0) < (f2.length : Int) then (some (((rdD f2 (rdD l4 (w64 (p0 - 1)) 0) z_Tile).E) == ((rdD f2 x5 z_Tile).W))) else none) else none)).bind fun x6 => (if x6 = true then (if 0 ≤ p0 ∧ p0 < (l4.length : Int) then ((rc_ (w64 (p0 + 1)) f0 l3 f2 (l4.set (p0).toNat x5)).bind fun t8 => some (t8.1, t8.2)) else none) else (some (l3, l4))).bind fun x7 => rows_All_1.l0 k x7.1 x7.2 (w64 (x5 + 1)) p0 f0 f2 rc_) else none) else (some (l3, l4))
def rows_All_1 : Nat → Int → Int → (List Row) → (List Tile) → (List Int) → Option ((List Row) × (List Int))
  | 0, _, _, _, _, _ => none
  | k + 1, p0, f0, f1, f2, f3 => if (p0 == f0) = true then ((rows_rowOf k f2 f3).bind fun t4 => if f1.length + 1 ≤ 100000000000 then (some (f1 ++ [t4], f3)) else none) else ((rows_All_1.l0 k f1 f3 0 p0 f0 f2 (rows_All_1 k)).bind fun x5 => some (x5.1, x5.2))
def rows_All (k : Nat) (p0 : List Tile) (p1 : Int) : Option (List Row) := if 0 ≤ p1 ∧ p1 ≤ 100000000000 then ((rows_All_1 k 0 p1 ([] : List Row) p0 (List.replicate p1.toNat (0 : Int))).bind fun t2 => some t2.1) else none
def fill_begin.l0 : Nat → Int → Int → Int → Edges → Option (Sum ((Option Job) × Int) Unit)
  | 0, _, _, _, _ => none
  | k + 1, x4, p1, p2, p3 => if (decide (x4 < ([(S_side_n.mk p3.North p1), (S_side_n.mk p3.South p1), (S_side_n.mk p3.East p2), (S_side_n.mk p3.West p2)].length : Int))) = true then (if 0 ≤ x4 ∧ x4 < ([(S_side_n.mk p3.North p1), (S_side_n.mk p3.South p1), (S_side_n.mk p3.East p2), (S_side_n.mk p3.West p2)].length : Int) then (if (((((rdD [(S_side_n.mk p3.North p1), (S_side_n.mk p3.South p1), (S_side_n.mk p3.East p2), (S_side_n.mk p3.West p2)] x4 z_S_side_n).side).length : Int) != 0) && ((((rdD [(S_side_n.mk p3.North p1), (S_side_n.mk p3.South p1), (S_side_n.mk p3.East p2), (S_side_n.mk p3.West p2)] x4 z_S_side_n).side).length : Int) != ((rdD [(S_side_n.mk p3.North p1), (S_side_n.mk p3.South p1), (S_side_n.mk p3.East p2), (S_side_n.mk p3.West p2)] x4 z_S_side_n).n))) = true then (some (.inl (none, 2))) else (fill_begin.l0 k (w64 (x4 + 1)) p1 p2 p3)) else none) else (some (.inr ()))
def fill_begin (k : Nat) (p0 : List Tile) (p1 : Int) (p2 : Int) (p3 : Edges) : Option ((Option Job) × Int) := (tile_Valid k p0).bind fun t4 => if (!t4) = true then (some (none, 1)) else (if ((((decide (p1 < 1)) || (decide (p1 > 8))) || (decide (p2 < 1))) || (decide (p2 > 60))) = true then (some (none, 2)) else ((fill_begin.l0 k 0 p1 p2 p3).bind fun x5 => sumb x5 (fun r => some r) (fun y6 => (rows_Few k p0 p1).bind fun t7 => if (!t7) = true then (some (none, 4)) else ((rows_All k p0 p1).bind fun t8 => some ((some (Job.mk t8 p1 p2 p3)), 0)))))
def fill_at (p0 : List Int) (p1 : Int) (p2 : Int) : Option Bool := (if ((p0.length : Int) == 0) = true then (some true) else (if 0 ≤ p1 ∧ p1 < (p0.length : Int) then (some ((rdD p0 p1 0) == p2)) else none)).bind fun b3 => some b3
def fill_job_allows.l0 : Nat → Int → Job → Row → Int → Option (Sum Bool Unit)
  | 0, _, _, _, _ => none
  | k + 1, x3, p0, p1, p2 => if (decide (x3 < p0.width)) = true then ((if (p2 == 0) = true then (if (p2 == (w64 (p0.height - 1))) = true then (if 0 ≤ x3 ∧ x3 < (8 : Int) then ((fill_at p0.edges.South x3 (A8_Int.get p1.South x3)).bind fun t5 => (if (!t5) = true then (some true) else ((fill_at p0.edges.North x3 (A8_Int.get p1.North x3)).bind fun t7 => some (!t7))).bind fun x6 => some x6) else none) else (if 0 ≤ x3 ∧ x3 < (8 : Int) then ((fill_at p0.edges.South x3 (A8_Int.get p1.South x3)).bind fun t9 => some (!t9)) else none)) else (if (p2 == (w64 (p0.height - 1))) = true then (if 0 ≤ x3 ∧ x3 < (8 : Int) then ((fill_at p0.edges.North x3 (A8_Int.get p1.North x3)).bind fun t10 => some (!t10)) else none) else (some false))).bind fun x4 => if x4 = true then (some (.inl false)) else (fill_job_allows.l0 k (w64 (x3 + 1)) p0 p1 p2)) else (some (.inr ()))
def fill_job_allows (k : Nat) (p0 : Job) (p1 : Row) (p2 : Int) : Option Bool := (fill_at p0.edges.West p2 p1.West).bind fun t3 => (if (!t3) = true then (some true) else ((fill_at p0.edges.East p2 p1.East).bind fun t5 => some (!t5))).bind fun x4 => if x4 = true then (some false) else ((fill_job_allows.l0 k 0 p0 p1 p2).bind fun x6 => sumb x6 (fun r => some r) (fun y7 => some true))
def fill_First.l0 : Nat → Int → Option Unit
  | 0, _ => none
  | k + 1, p2 => if (decide (w64 (p2 - 1) ≥ 0)) = true then (if 0 ≤ w64 (p2 - 1) ∧ w64 (p2 - 1) < ((List.replicate p2.toNat (none : Option (List (A8_Int × Bool)))).length : Int) then (none) else none) else (some ())
def fill_First.l1 : Nat → Int → Option Unit
  | 0, _ => none
  | k + 1, p2 => if (decide (0 < p2)) = true then (none) else (some ())
def fill_First.l3 : Nat → (List (Option (List (A8_Int × Bool)))) → Int → Int → Edges → Job → Int → Option (List (Option (List (A8_Int × Bool))))
  | 0, _, _, _, _, _, _ => none
  | k + 1, l5, x6, p2, p3, y1, x4 => if (decide (x6 < (y1.rows.length : Int))) = true then (if 0 ≤ x6 ∧ x6 < (y1.rows.length : Int) then ((if (x4 == (w64 (p2 - 1))) = true then ((fill_job_allows k (Job.mk y1.rows y1.width y1.height p3) (rdD y1.rows x6 z_Row) x4).bind fun t9 => some t9) else ((fill_job_allows k (Job.mk y1.rows y1.width y1.height p3) (rdD y1.rows x6 z_Row) x4).bind fun t10 => (if t10 = true then (if 0 ≤ w64 (x4 + 1) ∧ w64 (x4 + 1) < (l5.length : Int) then ((rdD l5 (w64 (x4 + 1)) none).bind fun m12 => (some (mget ((rdD y1.rows x6 z_Row).North) false m12))) else none) else (some false)).bind fun b11 => some b11)).bind fun x7 => (if x7 = true then (if 0 ≤ x4 ∧ x4 < (l5.length : Int) then ((rdD l5 x4 none).bind fun m14 => (some (l5.set x4.toNat (some (mput ((rdD y1.rows x6 z_Row).South) true m14))))) else none) else (some l5)).bind fun x13 => fill_First.l3 k x13 (w64 (x6 + 1)) p2 p3 y1 x4) else none) else (some l5)
def fill_First.l2 : Nat → (List (Option (List (A8_Int × Bool)))) → Int → Int → Edges → Job → Option (List (Option (List (A8_Int × Bool))))
  | 0, _, _, _, _, _ => none
  | k + 1, l4, x5, p2, p3, y1 => if (decide (x5 ≥ 0)) = true then (if 0 ≤ x5 ∧ x5 < (l4.length : Int) then ((fill_First.l3 k (l4.set x5.toNat (some ([] : List (A8_Int × Bool)))) 0 p2 p3 y1 x5).bind fun x6 => fill_First.l2 k x6 (w64 (x5 - 1)) p2 p3 y1) else none) else (some l4)
def fill_First.l5 : Nat → (Option Int) → Int → Int → Edges → Job → (List (Option (List (A8_Int × Bool)))) → Int → Option Int
  | 0, _, _, _, _, _, _, _ => none
  | k + 1, o12, x13, p2, p3, y9, x10, x11 => if (decide (x13 < (y9.rows.length : Int))) = true then (if 0 ≤ x13 ∧ x13 < (y9.rows.length : Int) then ((if (x11 == (w64 (p2 - 1))) = true then ((fill_job_allows k (Job.mk y9.rows y9.width y9.height p3) (rdD y9.rows x13 z_Row) x11).bind fun t15 => (if t15 = true then (optM o12 (some true) (fun i17 => if 0 ≤ i17 ∧ i17 < (y9.rows.length : Int) then (some ((((rdD y9.rows i17 z_Row).North).e0) == (((rdD y9.rows x13 z_Row).South).e0) && ((((rdD y9.rows i17 z_Row).North).e1) == (((rdD y9.rows x13 z_Row).South).e1) && ((((rdD y9.rows i17 z_Row).North).e2) == (((rdD y9.rows x13 z_Row).South).e2) && ((((rdD y9.rows i17 z_Row).North).e3) == (((rdD y9.rows x13 z_Row).South).e3) && ((((rdD y9.rows i17 z_Row).North).e4) == (((rdD y9.rows x13 z_Row).South).e4) && ((((rdD y9.rows i17 z_Row).North).e5) == (((rdD y9.rows x13 z_Row).South).e5) && ((((rdD y9.rows i17 z_Row).North).e6) == (((rdD y9.rows x13 z_Row).South).e6) && ((((rdD y9.rows i17 z_Row).North).e7) == (((rdD y9.rows x13 z_Row).South).e7)))))))))) else none)) else (some false)).bind fun b16 => some b16) else ((fill_job_allows k (Job.mk y9.rows y9.width y9.height p3) (rdD y9.rows x13 z_Row) x11).bind fun t18 => (if t18 = true then (optM o12 (some true) (fun i20 => if 0 ≤ i20 ∧ i20 < (y9.rows.length : Int) then (some ((((rdD y9.rows i20 z_Row).North).e0) == (((rdD y9.rows x13 z_Row).South).e0) && ((((rdD y9.rows i20 z_Row).North).e1) == (((rdD y9.rows x13 z_Row).South).e1) && ((((rdD y9.rows i20 z_Row).North).e2) == (((rdD y9.rows x13 z_Row).South).e2) && ((((rdD y9.rows i20 z_Row).North).e3) == (((rdD y9.rows x13 z_Row).South).e3) && ((((rdD y9.rows i20 z_Row).North).e4) == (((rdD y9.rows x13 z_Row).South).e4) && ((((rdD y9.rows i20 z_Row).North).e5) == (((rdD y9.rows x13 z_Row).South).e5) && ((((rdD y9.rows i20 z_Row).North).e6) == (((rdD y9.rows x13 z_Row).South).e6) && ((((rdD y9.rows i20 z_Row).North).e7) == (((rdD y9.rows x13 z_Row).South).e7)))))))))) else none)) else (some false)).bind fun b19 => (if b19 = true then (if 0 ≤ w64 (x11 + 1) ∧ w64 (x11 + 1) < (x10.length : Int) then ((rdD x10 (w64 (x11 + 1)) none).bind fun m22 => (some (mget ((rdD y9.rows x13 z_Row).North) false m22))) else none) else (some false)).bind fun b21 => some b21)).bind fun x14 => if x14 = true then (some x13) else (fill_First.l5 k o12 (w64 (x13 + 1)) p2 p3 y9 x10 x11)) else none) else (some (-1))
def fill_First.l4 : Nat → (List Int) → (Option Int) → Int → Int → Edges → Job → (List (Option (List (A8_Int × Bool)))) → Option (Sum (Pattern × Int) (List Int))
  | 0, _, _, _, _, _, _, _ => none
  | k + 1, l7, o9, x10, p2, p3, y1, x6 => if (decide (x10 < p2)) = true then ((fill_First.l5 k o9 0 p2 p3 y1 x6 x10).bind fun x11 => if (decide (x11 < 0)) = true then (some (.inl ((Pattern.mk 0 0 ([] : List Int)), 6))) else (if 0 ≤ x11 ∧ x11 < (y1.rows.length : Int) then (if l7.length + ((rdD y1.rows x11 z_Row).Cells).length ≤ 100000000000 then (fill_First.l4 k (l7 ++ ((rdD y1.rows x11 z_Row).Cells)) (some x11) (w64 (x10 + 1)) p2 p3 y1 x6) else none) else none)) else (some (.inr l7))
def fill_First (k : Nat) (p0 : List Tile) (p1 : Int) (p2 : Int) (p3 : Edges) : Option (Pattern × Int) := (fill_begin k p0 p1 p2 p3).bind fun t5 => optM t5.1 (if (t5.2 != 0) = true then (some ((Pattern.mk 0 0 ([] : List Int)), t5.2)) else (if 0 ≤ p2 ∧ p2 ≤ 100000000000 then ((fill_First.l0 k p2).bind fun x7 => (fill_First.l1 k p2).bind fun x9 => some ((Pattern.mk p1 p2 ([] : List Int)), 0)) else none)) (fun y6 => if (t5.2 != 0) = true then (some ((Pattern.mk 0 0 ([] : List Int)), t5.2)) else (if 0 ≤ p2 ∧ p2 ≤ 100000000000 then ((fill_First.l2 k (List.replicate p2.toNat (none : Option (List (A8_Int × Bool)))) (w64 (p2 - 1)) p2 p3 y6).bind fun x10 => (fill_First.l4 k ([] : List Int) none 0 p2 p3 y6 x10).bind fun x11 => sumb x11 (fun r => some r) (fun y12 => some ((Pattern.mk p1 p2 y12), 0))) else none))
def square_exists (k : Nat) (p0 : List Tile) (p1 : Int) : Option Bool := (fill_First k p0 p1 p1 (Edges.mk ([] : List Int) ([] : List Int) ([] : List Int) ([] : List Int))).bind fun t2 => some (t2.2 == 0)
def square_Exists (k : Nat) (p0 : List Tile) (p1 : Int) : Option (Bool × Int) := (square_check k p0 p1).bind fun t2 => if (t2 != 0) = true then (some (false, t2)) else ((square_exists k p0 p1).bind fun t3 => some (t3, 0))
def decide_sides_1_y.l0 {σ : Type} : Nat → Int → σ → (List Tile) → (Int → Bool → σ → Option (σ × Bool)) → Option (Sum σ σ)
  | 0, _, _, _, _ => none
  | k + 1, x2, s3, f0, yf => if (decide (x2 ≤ 8)) = true then ((square_Exists k f0 x2).bind fun t4 => (if (t4.2 != 0) = true then (some (true, s3)) else ((yf x2 t4.1 s3).bind fun t6 => some (!t6.2, t6.1))).bind fun x5 => if x5.1 = true then (some (.inl x5.2)) else (decide_sides_1_y.l0 k (w64 (x2 + 1)) x5.2 f0 yf)) else (some (.inr s3))
def decide_sides_1_y {σ : Type} (k : Nat) (f0 : List Tile) (yf : Int → Bool → σ → Option (σ × Bool)) (sY : σ) : Option σ := (decide_sides_1_y.l0 k 1 sY f0 yf).bind fun x2 => sumb x2 (fun r => some r) (fun y3 => some y3)
def torus_rings.l0 : Nat → (List Row) → Int → (List Row) → Option (List Row)
  | 0, _, _, _ => none
  | k + 1, l2, x3, t1 => if (decide (x3 < (t1.length : Int))) = true then (if 0 ≤ x3 ∧ x3 < (t1.length : Int) then ((if (((rdD t1 x3 z_Row).West) == ((rdD t1 x3 z_Row).East)) = true then (if l2.length + 1 ≤ 100000000000 then (some (l2 ++ [(rdD t1 x3 z_Row)])) else none) else (some l2)).bind fun x4 => torus_rings.l0 k x4 (w64 (x3 + 1)) t1) else none) else (some l2)
def torus_rings (k : Nat) (p0 : List Tile) (p1 : Int) : Option (List Row) := (rows_All k p0 p1).bind fun t2 => (torus_rings.l0 k ([] : List Row) 0 t2).bind fun x3 => some x3
def torus_back.l1 : Nat → (List (A8_Int × Bool)) → Int → (List Row) → (List (A8_Int × Bool)) → Option (List (A8_Int × Bool))
  | 0, _, _, _, _ => none
  | k + 1, l3, x4, p0, m2 => if (decide (x4 < (p0.length : Int))) = true then (if 0 ≤ x4 ∧ x4 < (p0.length : Int) then ((if (mget ((rdD p0 x4 z_Row).North) false m2) = true then (some (mput ((rdD p0 x4 z_Row).South) true l3)) else (some l3)).bind fun x5 => torus_back.l1 k x5 (w64 (x4 + 1)) p0 m2) else none) else (some l3)
def torus_back.l0 : Nat → (List (Option (List (A8_Int × Bool)))) → Int → (List Row) → Int → Option (List (Option (List (A8_Int × Bool))))
  | 0, _, _, _, _ => none
  | k + 1, l3, x4, p0, p2 => if (decide (x4 < p2)) = true then (if 0 ≤ w64 ((l3.length : Int) - 1) ∧ w64 ((l3.length : Int) - 1) < (l3.length : Int) then ((rdD l3 (w64 ((l3.length : Int) - 1)) none).bind fun m5 => ((torus_back.l1 k ([] : List (A8_Int × Bool)) 0 p0 m5).bind fun x6 => if l3.length + 1 ≤ 100000000000 then (torus_back.l0 k (l3 ++ [some x6]) (w64 (x4 + 1)) p0 p2) else none)) else none) else (some l3)
def torus_back (k : Nat) (p0 : List Row) (p1 : A8_Int) (p2 : Int) : Option (List (Option (List (A8_Int × Bool)))) := (torus_back.l0 k [some (mput p1 true ([] : List (A8_Int × Bool)))] 0 p0 p2).bind fun x3 => some x3
def torus_find.l2 : Nat → Int → (List Row) → ((List (A8_Int × List (Option (List (A8_Int × Bool))))) × (List (Option (List (A8_Int × Bool))))) → (List Int) → A8_Int → Int → Option ((List Int) × A8_Int)
  | 0, _, _, _, _, _, _ => none
  | k + 1, x14, t9, x10, l11, a12, x13 => if (decide (x14 < (t9.length : Int))) = true then (if 0 ≤ x14 ∧ x14 < (t9.length : Int) then ((if ((((rdD t9 x14 z_Row).South).e0) == a12.e0 && ((((rdD t9 x14 z_Row).South).e1) == a12.e1 && ((((rdD t9 x14 z_Row).South).e2) == a12.e2 && ((((rdD t9 x14 z_Row).South).e3) == a12.e3 && ((((rdD t9 x14 z_Row).South).e4) == a12.e4 && ((((rdD t9 x14 z_Row).South).e5) == a12.e5 && ((((rdD t9 x14 z_Row).South).e6) == a12.e6 && ((((rdD t9 x14 z_Row).South).e7) == a12.e7)))))))) = true then (if 0 ≤ x13 ∧ x13 < (x10.2.length : Int) then ((rdD x10.2 x13 none).bind fun m16 => (some (mget ((rdD t9 x14 z_Row).North) false m16))) else none) else (some false)).bind fun x15 => if x15 = true then (if l11.length + ((rdD t9 x14 z_Row).Cells).length ≤ 100000000000 then (some (l11 ++ ((rdD t9 x14 z_Row).Cells), ((rdD t9 x14 z_Row).North))) else none) else (torus_find.l2 k (w64 (x14 + 1)) t9 x10 l11 a12 x13)) else none) else (some (l11, a12))
def torus_find.l1 : Nat → (List Int) → A8_Int → Int → (List Row) → ((List (A8_Int × List (Option (List (A8_Int × Bool))))) × (List (Option (List (A8_Int × Bool))))) → Option (List Int)
  | 0, _, _, _, _, _ => none
  | k + 1, l5, a6, x7, t3, x4 => if (decide (x7 ≥ 0)) = true then ((torus_find.l2 k 0 t3 x4 l5 a6 x7).bind fun x9 => torus_find.l1 k x9.1 x9.2 (w64 (x7 - 1)) t3 x4) else (some l5)
def torus_find.l0 : Nat → (List (A8_Int × List (Option (List (A8_Int × Bool))))) → Int → Int → Int → (List Row) → Option (Sum (Pattern × Bool) Unit)
  | 0, _, _, _, _, _ => none
  | k + 1, l4, x5, p1, p2, t3 => if (decide (x5 < (t3.length : Int))) = true then (if 0 ≤ x5 ∧ x5 < (t3.length : Int) then ((if (!(mhas ((rdD t3 x5 z_Row).South) l4)) = true then ((torus_back k t3 ((rdD t3 x5 z_Row).South) (w64 (p2 - 1))).bind fun t7 => some (mput ((rdD t3 x5 z_Row).South) t7 l4, t7)) else (some (l4, (mget ((rdD t3 x5 z_Row).South) [] l4)))).bind fun x6 => if 0 ≤ w64 (p2 - 1) ∧ w64 (p2 - 1) < (x6.2.length : Int) then ((rdD x6.2 (w64 (p2 - 1)) none).bind fun m9 => (if (!(mget ((rdD t3 x5 z_Row).North) false m9)) = true then (torus_find.l0 k x6.1 (w64 (x5 + 1)) p1 p2 t3) else (if ([] : List Int).length + ((rdD t3 x5 z_Row).Cells).length ≤ 100000000000 then ((torus_find.l1 k (([] : List Int) ++ ((rdD t3 x5 z_Row).Cells)) ((rdD t3 x5 z_Row).North) (w64 (p2 - 2)) t3 x6).bind fun x10 => some (.inl ((Pattern.mk p1 p2 x10), true))) else none))) else none) else none) else (some (.inr ()))
def torus_find (k : Nat) (p0 : List Tile) (p1 : Int) (p2 : Int) : Option (Pattern × Bool) := (torus_rings k p0 p1).bind fun t3 => (torus_find.l0 k ([] : List (A8_Int × List (Option (List (A8_Int × Bool))))) 0 p1 p2 t3).bind fun x4 => sumb x4 (fun r => some r) (fun y5 => some ((Pattern.mk 0 0 ([] : List Int)), false))
def torus_Least.l1 : Nat → Int → (List Tile) → Int → Int → Option (Sum (Pattern × Int) Unit)
  | 0, _, _, _, _ => none
  | k + 1, x3, p0, p1, x2 => if (decide (x3 ≤ p1)) = true then ((if x3 ≠ 0 then (if (((Int.tmod x2 x3) != 0) || (decide (w64 (Int.tdiv x2 x3) > p1))) = true then (some (.inr ())) else ((torus_find k p0 x3 (w64 (Int.tdiv x2 x3))).bind fun t5 => if t5.2 = true then (some (.inl (t5.1, 0))) else (some (.inr ())))) else none).bind fun x4 => sumb x4 (fun r => some (.inl r)) (fun y6 => torus_Least.l1 k (w64 (x3 + 1)) p0 p1 x2)) else (some (.inr ()))
def torus_Least.l0 : Nat → Int → (List Tile) → Int → Option (Sum (Pattern × Int) Unit)
  | 0, _, _, _ => none
  | k + 1, x2, p0, p1 => if (decide (x2 ≤ w64 (p1 * p1))) = true then ((torus_Least.l1 k 1 p0 p1 x2).bind fun x3 => sumb x3 (fun r => some (.inl r)) (fun y4 => torus_Least.l0 k (w64 (x2 + 1)) p0 p1)) else (some (.inr ()))
def torus_Least (k : Nat) (p0 : List Tile) (p1 : Int) : Option (Pattern × Int) := (tile_Valid k p0).bind fun t2 => if (!t2) = true then (some ((Pattern.mk 0 0 ([] : List Int)), 1)) else (if ((decide (p1 < 1)) || (decide (p1 > 6))) = true then (some ((Pattern.mk 0 0 ([] : List Int)), 2)) else ((rows_Few k p0 p1).bind fun t3 => if (!t3) = true then (some ((Pattern.mk 0 0 ([] : List Int)), 4)) else ((torus_Least.l0 k 1 p0 p1).bind fun x4 => sumb x4 (fun r => some r) (fun y5 => some ((Pattern.mk 0 0 ([] : List Int)), 6)))))
def decide_Decide.b1 : Nat → Int → Bool → (Int × Int) → Option ((Int × Int) × Bool)
  | k, x3, x4, (x2, j5) => if j5 = 0 then (if (!x4) = true then (some ((x3, 1), false)) else (some ((x2, 0), true))) else none
def decide_Decide (k : Nat) (p0 : List Tile) : Option (Verdict × Int) := (decide_asks k p0).bind fun t2 => if (t2 != 0) = true then (some ((Verdict.mk false (Pattern.mk 0 0 ([] : List Int)) 0), t2)) else ((decide_sides p0).bind fun t3 => (decide_sides_1_y k p0 (decide_Decide.b1 k ) (0, (0 : Int))).bind fun t4 => if (t4.2 == 1) = true then (some ((Verdict.mk false (Pattern.mk 0 0 ([] : List Int)) t4.1), 0)) else (if t4.2 = 0 then ((torus_Least k p0 6).bind fun t5 => if (t5.2 != 0) = true then (some ((Verdict.mk false (Pattern.mk 0 0 ([] : List Int)) 0), t5.2)) else (some ((Verdict.mk true t5.1 0), 0))) else none))
def census_Count.l0 : Nat → Int → Int → Int → Int → Int → (List (List Tile)) → Option (Sum (Tally × Int) (Int × Int × Int × Int))
  | 0, _, _, _, _, _, _ => none
  | k + 1, x2, x3, x4, x5, x6, t1 => if (decide (x6 < (t1.length : Int))) = true then (if 0 ≤ x6 ∧ x6 < (t1.length : Int) then ((decide_Decide k (rdD t1 x6 [])).bind fun t7 => if (t7.2 != 0) = true then (some (.inl ((Tally.mk 0 0 0 0), t7.2))) else ((if t7.1.Fills = true then (some (w64 (x3 + 1))) else (some x3)).bind fun x8 => census_Count.l0 k (w64 (x2 + 1)) x8 (maxI x4 (t7.1.Torus.Cells.length : Int)) (maxI x5 t7.1.Side) (w64 (x6 + 1)) t1)) else none) else (some (.inr (x2, x3, x4, x5)))
def census_Count (k : Nat) (p0 : Int) : Option (Tally × Int) := (census_few p0).bind fun t20 => if (!t20) = true then (some ((Tally.mk 0 0 0 0), 2)) else ((census_forms k p0).bind fun t1 => (census_Count.l0 k 0 0 0 0 0 t1).bind fun x2 => sumb x2 (fun r => some r) (fun y3 => some ((Tally.mk y3.1 y3.2.1 y3.2.2.1 y3.2.2.2), 0)))
def top_chess  : Option (List Tile) := some [(Tile.mk 0 1 1 0), (Tile.mk 1 0 0 1)]
def tile_Form (p0 : Pattern) : Option Bool := some ((((((decide (p0.Width ≥ 1)) && (decide (p0.Height ≥ 1))) && (decide (p0.Width ≤ 40000))) && (decide (p0.Height ≤ 40000))) && (decide (w64 (p0.Width * p0.Height) ≤ 40000))) && ((p0.Cells.length : Int) == (w64 (p0.Width * p0.Height))))
def tile_Repeat.l1 : Nat → (List Int) → Int → Pattern → Int → Int → Option (List Int)
  | 0, _, _, _, _, _ => none
  | k + 1, l3, x4, p0, p1, x2 => if (decide (x4 < p1)) = true then (if p0.Height ≠ 0 then (if p0.Width ≠ 0 then (if 0 ≤ w64 ((w64 ((Int.tmod x2 p0.Height) * p0.Width)) + (Int.tmod x4 p0.Width)) ∧ w64 ((w64 ((Int.tmod x2 p0.Height) * p0.Width)) + (Int.tmod x4 p0.Width)) < (p0.Cells.length : Int) then (if l3.length + [(rdD p0.Cells (w64 ((w64 ((Int.tmod x2 p0.Height) * p0.Width)) + (Int.tmod x4 p0.Width))) 0)].length ≤ 100000000000 then (tile_Repeat.l1 k (l3 ++ [(rdD p0.Cells (w64 ((w64 ((Int.tmod x2 p0.Height) * p0.Width)) + (Int.tmod x4 p0.Width))) 0)]) (w64 (x4 + 1)) p0 p1 x2) else none) else none) else none) else none) else (some l3)
def tile_Repeat.l0 : Nat → (List Int) → Int → Pattern → Int → Int → Option (List Int)
  | 0, _, _, _, _, _ => none
  | k + 1, l3, x4, p0, p1, p2 => if (decide (x4 < p2)) = true then ((tile_Repeat.l1 k l3 0 p0 p1 x4).bind fun x5 => tile_Repeat.l0 k x5 (w64 (x4 + 1)) p0 p1 p2) else (some l3)
def tile_Repeat (k : Nat) (p0 : Pattern) (p1 : Int) (p2 : Int) : Option (Pattern × Int) := (tile_Form p0).bind fun t3 => if (!t3) = true then (some ((Pattern.mk 0 0 ([] : List Int)), 1)) else (if ((decide (p1 < 1)) || (decide (p2 < 1))) = true then (some ((Pattern.mk 0 0 ([] : List Int)), 2)) else (if (((decide (p1 > 40000)) || (decide (p2 > 40000))) || (decide (w64 (p1 * p2) > 40000))) = true then (some ((Pattern.mk 0 0 ([] : List Int)), 4)) else ((tile_Repeat.l0 k ([] : List Int) 0 p0 p1 p2).bind fun x4 => some ((Pattern.mk p1 p2 x4), 0))))
def tile_of_1 (p0 : Int) (f0 : List Tile) : Option Bool := some ((decide (p0 < 0)) || (decide (p0 ≥ (f0.length : Int))))
def slices_IndexFunc_int_int_with_tile_of_1.l0 : Nat → Int → (List Int) → (List Tile) → Option (Sum Int Unit)
  | 0, _, _, _ => none
  | k + 1, x2, p0, p1_0 => if (decide (x2 < (p0.length : Int))) = true then (if 0 ≤ x2 ∧ x2 < (p0.length : Int) then ((tile_of_1 (rdD p0 x2 0) p1_0).bind fun t3 => if t3 = true then (some (.inl x2)) else (slices_IndexFunc_int_int_with_tile_of_1.l0 k (w64 (x2 + 1)) p0 p1_0)) else none) else (some (.inr ()))
def slices_IndexFunc_int_int_with_tile_of_1 (k : Nat) (p0 : List Int) (p1_0 : List Tile) : Option Int := (slices_IndexFunc_int_int_with_tile_of_1.l0 k 0 p0 p1_0).bind fun x2 => sumb x2 (fun r => some r) (fun y3 => some (-1))
def slices_ContainsFunc_int_int_with_tile_of_1 (k : Nat) (p0 : List Int) (p1_0 : List Tile) : Option Bool := (slices_IndexFunc_int_int_with_tile_of_1 k p0 p1_0).bind fun t2 => some (decide (t2 ≥ 0))
def tile_of (k : Nat) (p0 : List Tile) (p1 : Pattern) : Option Bool := (tile_Valid k p0).bind fun t2 => (if t2 = true then ((tile_Form p1).bind fun t4 => some t4) else (some false)).bind fun x3 => (if x3 = true then ((slices_ContainsFunc_int_int_with_tile_of_1 k p1.Cells p0).bind fun t6 => some (!t6)) else (some false)).bind fun x5 => some x5
def tile_joins.l0 : Nat → Int → (List Tile) → Pattern → Bool → Option (Sum Bool Unit)
  | 0, _, _, _, _ => none
  | k + 1, x3, p0, p1, p2 => if (decide (x3 < (p1.Cells.length : Int))) = true then (if 0 ≤ x3 ∧ x3 < (p1.Cells.length : Int) then (if p1.Width ≠ 0 then ((if ((decide (w64 ((Int.tmod x3 p1.Width) + 1) < p1.Width)) || p2) = true then (if 0 ≤ (rdD p1.Cells x3 0) ∧ (rdD p1.Cells x3 0) < (p0.length : Int) then (if 0 ≤ w64 ((w64 ((w64 (Int.tdiv x3 p1.Width)) * p1.Width)) + (Int.tmod (w64 ((Int.tmod x3 p1.Width) + 1)) p1.Width)) ∧ w64 ((w64 ((w64 (Int.tdiv x3 p1.Width)) * p1.Width)) + (Int.tmod (w64 ((Int.tmod x3 p1.Width) + 1)) p1.Width)) < (p1.Cells.length : Int) then (if 0 ≤ (rdD p1.Cells (w64 ((w64 ((w64 (Int.tdiv x3 p1.Width)) * p1.Width)) + (Int.tmod (w64 ((Int.tmod x3 p1.Width) + 1)) p1.Width))) 0) ∧ (rdD p1.Cells (w64 ((w64 ((w64 (Int.tdiv x3 p1.Width)) * p1.Width)) + (Int.tmod (w64 ((Int.tmod x3 p1.Width) + 1)) p1.Width))) 0) < (p0.length : Int) then (if (((rdD p0 (rdD p1.Cells x3 0) z_Tile).E) != ((rdD p0 (rdD p1.Cells (w64 ((w64 ((w64 (Int.tdiv x3 p1.Width)) * p1.Width)) + (Int.tmod (w64 ((Int.tmod x3 p1.Width) + 1)) p1.Width))) 0) z_Tile).W)) = true then (some (.inl false)) else (some (.inr ()))) else none) else none) else none) else (some (.inr ()))).bind fun x4 => sumb x4 (fun r => some (.inl r)) (fun y5 => (if ((decide (w64 ((w64 (Int.tdiv x3 p1.Width)) + 1) < p1.Height)) || p2) = true then (if 0 ≤ (rdD p1.Cells x3 0) ∧ (rdD p1.Cells x3 0) < (p0.length : Int) then (if p1.Height ≠ 0 then (if 0 ≤ w64 ((w64 ((Int.tmod (w64 ((w64 (Int.tdiv x3 p1.Width)) + 1)) p1.Height) * p1.Width)) + (Int.tmod x3 p1.Width)) ∧ w64 ((w64 ((Int.tmod (w64 ((w64 (Int.tdiv x3 p1.Width)) + 1)) p1.Height) * p1.Width)) + (Int.tmod x3 p1.Width)) < (p1.Cells.length : Int) then (if 0 ≤ (rdD p1.Cells (w64 ((w64 ((Int.tmod (w64 ((w64 (Int.tdiv x3 p1.Width)) + 1)) p1.Height) * p1.Width)) + (Int.tmod x3 p1.Width))) 0) ∧ (rdD p1.Cells (w64 ((w64 ((Int.tmod (w64 ((w64 (Int.tdiv x3 p1.Width)) + 1)) p1.Height) * p1.Width)) + (Int.tmod x3 p1.Width))) 0) < (p0.length : Int) then (if (((rdD p0 (rdD p1.Cells x3 0) z_Tile).N) != ((rdD p0 (rdD p1.Cells (w64 ((w64 ((Int.tmod (w64 ((w64 (Int.tdiv x3 p1.Width)) + 1)) p1.Height) * p1.Width)) + (Int.tmod x3 p1.Width))) 0) z_Tile).S)) = true then (some (.inl false)) else (some (.inr ()))) else none) else none) else none) else none) else (some (.inr ()))).bind fun x6 => sumb x6 (fun r => some (.inl r)) (fun y7 => tile_joins.l0 k (w64 (x3 + 1)) p0 p1 p2))) else none) else none) else (some (.inr ()))
def tile_joins (k : Nat) (p0 : List Tile) (p1 : Pattern) (p2 : Bool) : Option Bool := (tile_joins.l0 k 0 p0 p1 p2).bind fun x3 => sumb x3 (fun r => some r) (fun y4 => some true)
def tile_Repeats (k : Nat) (p0 : List Tile) (p1 : Pattern) : Option Bool := (tile_of k p0 p1).bind fun t2 => (if t2 = true then ((tile_joins k p0 p1 true).bind fun t4 => some t4) else (some false)).bind fun x3 => some x3
def top_sameInts.l0 : Nat → Int → (List Int) → (List Int) → Option (Sum Bool Unit)
  | 0, _, _, _ => none
  | k + 1, x2, p0, p1 => if (decide (x2 < (p0.length : Int))) = true then (if 0 ≤ x2 ∧ x2 < (p0.length : Int) then (if 0 ≤ x2 ∧ x2 < (p1.length : Int) then (if ((rdD p0 x2 0) != (rdD p1 x2 0)) = true then (some (.inl false)) else (top_sameInts.l0 k (w64 (x2 + 1)) p0 p1)) else none) else none) else (some (.inr ()))
def top_sameInts (k : Nat) (p0 : List Int) (p1 : List Int) : Option Bool := if ((p0.length : Int) != (p1.length : Int)) = true then (some false) else ((top_sameInts.l0 k 0 p0 p1).bind fun x2 => sumb x2 (fun r => some r) (fun y3 => some true))
def tile_Fits (k : Nat) (p0 : List Tile) (p1 : Pattern) : Option Bool := (tile_of k p0 p1).bind fun t2 => (if t2 = true then ((tile_joins k p0 p1 false).bind fun t4 => some t4) else (some false)).bind fun x3 => some x3
def top_lives (k : Nat)  : Option Bool := (tile_Repeat k (Pattern.mk 2 2 [0, 1, 1, 0]) 3 1).bind fun t1 => ((top_chess).bind fun t3 => (tile_Repeats k t3 (Pattern.mk 2 2 [0, 1, 1, 0])).bind fun t4 => (if t4 = true then ((top_chess).bind fun t6 => (tile_Repeats k t6 (Pattern.mk 1 1 [0])).bind fun t7 => some (!t7)) else (some false)).bind fun x5 => (if (x5 && (t1.2 == 0)) = true then ((top_sameInts k t1.1.Cells [0, 1, 0]).bind fun t9 => some t9) else (some false)).bind fun x8 => (if x8 = true then ((top_chess).bind fun t11 => (tile_Fits k t11 t1.1).bind fun t12 => some t12) else (some false)).bind fun x10 => some x10).bind fun x2 => some x2
def top_decides (k : Nat)  : Option Bool := (top_chess).bind fun t1 => (decide_Decide k t1).bind fun t2 => (decide_Decide k [(Tile.mk 0 0 1 0)]).bind fun t3 => (if ((((((t2.2 == 0) && (t3.2 == 0)) && t2.1.Fills) && (t2.1.Torus.Width == 2)) && (!t3.1.Fills)) && (t3.1.Side == 2)) = true then ((top_lives k).bind fun t5 => some t5) else (some false)).bind fun x4 => some x4
def top_TopCensus.l0 : Nat → Int → Option (Sum Bool Unit)
  | 0, _ => none
  | k + 1, x1 => if (decide (x1 ≤ 3)) = true then ((census_Count k x1).bind fun t2 => (if (t2.2 != 0) = true then (some true) else (if (t2.1.Sets != (A4_Int.get (A4_Int.mk 1 4 133 7145) x1)) = true then (if 0 ≤ x1 ∧ x1 < (4 : Int) then (some true) else none) else (if (t2.1.Fill != (A4_Int.get (A4_Int.mk 0 1 29 1497) x1)) = true then (if 0 ≤ x1 ∧ x1 < (4 : Int) then (some true) else none) else (if (decide (t2.1.Cells > 9)) = true then (if 0 ≤ x1 ∧ x1 < (4 : Int) then (some true) else none) else (if 0 ≤ x1 ∧ x1 < (4 : Int) then (some (decide (t2.1.Side > 4))) else none))))).bind fun x3 => if x3 = true then (some (.inl false)) else (top_TopCensus.l0 k (w64 (x1 + 1)))) else (some (.inr ()))
def top_TopCensus (k : Nat)  : Option Bool := (top_TopCensus.l0 k 0).bind fun x1 => sumb x1 (fun r => some r) (fun y2 => (top_decides k).bind fun t3 => some t3)
end Gp
namespace Gp
open Go Gw Go.Proofs Go.RowKit

end Gp
