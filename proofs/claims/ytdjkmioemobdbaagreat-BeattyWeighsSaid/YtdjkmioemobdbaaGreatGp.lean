/- The functions that the law reaches, as plain functions; how what comes in is opened. -/
import Derived.Test.YtdjkmioemobdbaaGreatGs
set_option linter.unusedVariables false
set_option linter.unusedSimpArgs false
set_option maxHeartbeats 4000000
set_option maxRecDepth 8000
namespace Gp
open Go Gw
abbrev iv (n : Int) : Value := .int .i64 n
abbrev pt (g : Nat) : Value := .pointer (some ⟨g, 0, none⟩)
abbrev sv {α : Type} (A : Option Addr) (l : List α) (c : Nat) : Value := .slice A l.length c
abbrev bv (b : Bool) : Value := .bool b
structure Frac where
  Num : Int
  Den : Int
  deriving DecidableEq
def z_Frac : Frac := ⟨0, 0⟩
def ints_Frac (x : Frac) : List Int := [x.Num, x.Den]
def enc_Frac : Enc Frac := ⟨2, fun x => [(.int .i64 x.Num), (.int .i64 x.Den)], fun _ => rfl, fun x u h => by simp at h; rcases h with rfl | rfl <;> rfl⟩
structure Weights where
  Values : List Frac
  Carries : List Frac
  Factors : List Frac
  Primes : List Int
  Logs : List Int
  deriving DecidableEq
def z_Weights : Weights := ⟨[], [], [], [], []⟩
structure Tile where
  N : Int
  E : Int
  S : Int
  W : Int
  deriving DecidableEq
def z_Tile : Tile := ⟨0, 0, 0, 0⟩
def ints_Tile (x : Tile) : List Int := [x.N, x.E, x.S, x.W]
def enc_Tile : Enc Tile := ⟨4, fun x => [(.int .i64 x.N), (.int .i64 x.E), (.int .i64 x.S), (.int .i64 x.W)], fun _ => rfl, fun x u h => by simp at h; rcases h with rfl | rfl | rfl | rfl <;> rfl⟩
structure Piece where
  Factor : Frac
  Low : Frac
  High : Frac
  deriving DecidableEq
def z_Piece : Piece := ⟨z_Frac, z_Frac, z_Frac⟩
def enc_Piece : Enc Piece := ⟨6, fun x => [(.int .i64 x.Factor.Num), (.int .i64 x.Factor.Den), (.int .i64 x.Low.Num), (.int .i64 x.Low.Den), (.int .i64 x.High.Num), (.int .i64 x.High.Den)], fun _ => rfl, fun x u h => by simp at h; rcases h with rfl | rfl | rfl | rfl | rfl | rfl <;> rfl⟩
structure Ratio where
  n : Int
  d : Int
  deriving DecidableEq
def z_Ratio : Ratio := ⟨0, 0⟩
def ints_Ratio (x : Ratio) : List Int := [x.n, x.d]
def enc_Ratio : Enc Ratio := ⟨2, fun x => [(.int .i64 x.n), (.int .i64 x.d)], fun _ => rfl, fun x u h => by simp at h; rcases h with rfl | rfl <;> rfl⟩
structure Carry where
  piece : Int
  n : Int
  deriving DecidableEq
def z_Carry : Carry := ⟨0, 0⟩
def ints_Carry (x : Carry) : List Int := [x.piece, x.n]
def enc_Carry : Enc Carry := ⟨2, fun x => [(.int .i64 x.piece), (.int .i64 x.n)], fun _ => rfl, fun x u h => by simp at h; rcases h with rfl | rfl <;> rfl⟩
structure House where
  pieces : List Piece
  set : List Tile
  piece : List Int
  first : List Int
  carries : List Carry
  colour : List (Carry × Int)
  most : Int
  deriving DecidableEq
def z_House : House := ⟨[], [], [], [], [], [], 0⟩
structure Made where
  Piece : Int
  S : Int
  N : Int
  W : Int
  E : Int
  deriving DecidableEq
def z_Made : Made := ⟨0, 0, 0, 0, 0⟩
def ints_Made (x : Made) : List Int := [x.Piece, x.S, x.N, x.W, x.E]
def enc_Made : Enc Made := ⟨5, fun x => [(.int .i64 x.Piece), (.int .i64 x.S), (.int .i64 x.N), (.int .i64 x.W), (.int .i64 x.E)], fun _ => rfl, fun x u h => by simp at h; rcases h with rfl | rfl | rfl | rfl | rfl <;> rfl⟩
structure Colour where
  Piece : Int
  Carry : Int
  deriving DecidableEq
def z_Colour : Colour := ⟨0, 0⟩
def ints_Colour (x : Colour) : List Int := [x.Piece, x.Carry]
def enc_Colour : Enc Colour := ⟨2, fun x => [(.int .i64 x.Piece), (.int .i64 x.Carry)], fun _ => rfl, fun x u h => by simp at h; rcases h with rfl | rfl <;> rfl⟩
structure Mark where
  s : Int
  n : Int
  west : Int
  east : Int
  deriving DecidableEq
def z_Mark : Mark := ⟨0, 0, 0, 0⟩
def ints_Mark (x : Mark) : List Int := [x.s, x.n, x.west, x.east]
def enc_Mark : Enc Mark := ⟨4, fun x => [(.int .i64 x.s), (.int .i64 x.n), (.int .i64 x.west), (.int .i64 x.east)], fun _ => rfl, fun x u h => by simp at h; rcases h with rfl | rfl | rfl | rfl <;> rfl⟩
structure Span where
  from_ : Ratio
  to : Ratio
  deriving DecidableEq
def z_Span : Span := ⟨z_Ratio, z_Ratio⟩
def enc_Span : Enc Span := ⟨4, fun x => [(.int .i64 x.from_.n), (.int .i64 x.from_.d), (.int .i64 x.to.n), (.int .i64 x.to.d)], fun _ => rfl, fun x u h => by simp at h; rcases h with rfl | rfl | rfl | rfl <;> rfl⟩
def beatty_frac (p0 : Frac) : Option Bool := some ((((decide (p0.Den ≥ 1)) && (decide (p0.Den ≤ 1000000))) && (decide (p0.Num ≥ (-1000000)))) && (decide (p0.Num ≤ 1000000)))
def beatty_gcd.l0 : Nat → Int → Int → Option Int
  | 0, _, _ => none
  | k + 1, x98, x99 => if (x99 != 0) = true then (if x99 ≠ 0 then (beatty_gcd.l0 k x99 (Int.tmod x98 x99)) else none) else (some x98)
def beatty_gcd (k : Nat) (p0 : Int) (p1 : Int) : Option Int := (beatty_gcd.l0 k p0 p1).bind fun x2 => some (maxI x2 (w64 (0 - x2)))
def beatty_of (p0 : Frac) : Option Ratio := some (Ratio.mk p0.Num p0.Den)
def beatty_ratio_less (p0 : Ratio) (p1 : Ratio) : Option Bool := some (decide (w64 (p0.n * p1.d) < w64 (p1.n * p0.d)))
def beatty_valid (k : Nat) (p0 : Piece) : Option Bool := (beatty_frac p0.Factor).bind fun t35 => (if (!t35) = true then (some true) else ((beatty_frac p0.Low).bind fun t49 => some (!t49))).bind fun x46 => (if x46 = true then (some true) else ((beatty_frac p0.High).bind fun t68 => some (!t68))).bind fun x65 => (if (((x65 || (decide (p0.Factor.Num < 1))) || (decide (p0.Factor.Num > 12))) || (decide (p0.Factor.Den > 12))) = true then (some true) else ((beatty_gcd k p0.Factor.Num p0.Factor.Den).bind fun t2 => some (t2 != 1))).bind fun x1 => if ((x1 || (decide (p0.Low.Den > 1000))) || (decide (p0.High.Den > 1000))) = true then (some false) else (((beatty_of p0.Low).bind fun t4 => (beatty_of p0.High).bind fun t5 => some (t4.n, t4.d, t5.n, t5.d)).bind fun x3 => (if (decide (x3.1 ≥ 0)) = true then ((beatty_ratio_less (Ratio.mk x3.1 x3.2.1) (Ratio.mk x3.2.2.1 x3.2.2.2)).bind fun t7 => some t7) else (some false)).bind fun x6 => (if x6 = true then ((beatty_ratio_less (Ratio.mk 12 1) (Ratio.mk x3.2.2.1 x3.2.2.2)).bind fun t9 => some (!t9)) else (some false)).bind fun x8 => some x8)
def beatty_Valid_1 (k : Nat) (p0 : Piece) : Option Bool := (beatty_valid k p0).bind fun t2 => some (!t2)
def slices_IndexFunc_api_Piece_api_Piece_with_beatty_Valid_1.l0 : Nat → Int → (List Piece) → Option (Sum Int Unit)
  | 0, _, _ => none
  | k + 1, x2, p0 => if (decide (x2 < (p0.length : Int))) = true then (if 0 ≤ x2 ∧ x2 < (p0.length : Int) then ((beatty_Valid_1 k (rdD p0 x2 z_Piece)).bind fun t3 => if t3 = true then (some (.inl x2)) else (slices_IndexFunc_api_Piece_api_Piece_with_beatty_Valid_1.l0 k (w64 (x2 + 1)) p0)) else none) else (some (.inr ()))
def slices_IndexFunc_api_Piece_api_Piece_with_beatty_Valid_1 (k : Nat) (p0 : List Piece) : Option Int := (slices_IndexFunc_api_Piece_api_Piece_with_beatty_Valid_1.l0 k 0 p0).bind fun x2 => sumb x2 (fun r => some r) (fun y3 => some (-1))
def slices_ContainsFunc_api_Piece_api_Piece_with_beatty_Valid_1 (k : Nat) (p0 : List Piece) : Option Bool := (slices_IndexFunc_api_Piece_api_Piece_with_beatty_Valid_1 k p0).bind fun t2 => some (decide (t2 ≥ 0))
def beatty_Valid (k : Nat) (p0 : List Piece) : Option Bool := (if ((decide ((p0.length : Int) > 0)) && (decide ((p0.length : Int) ≤ 6))) = true then ((slices_ContainsFunc_api_Piece_api_Piece_with_beatty_Valid_1 k p0).bind fun t3 => some (!t3)) else (some false)).bind fun x2 => some x2
def beatty_marks_1 (p0 : Int) (f0 : Frac) : Option Int := if f0.Den ≠ 0 then (some (w64 (Int.tdiv (w64 (f0.Num * p0)) f0.Den))) else none
def beatty_cuts (p0 : Frac) (p1 : Int) (p2 : Int) : Option Span := some (Span.mk (Ratio.mk (w64 ((w64 (p2 * p0.Den)) - (w64 (p1 * p0.Num)))) p0.Num) (Ratio.mk (w64 ((w64 ((w64 (p2 + 1)) * p0.Den)) - (w64 (p1 * p0.Num)))) p0.Num))
def beatty_both (p0 : Span) (p1 : Span) : Option Span := (beatty_ratio_less p0.from_ p1.from_).bind fun t2 => (if t2 = true then (some (p1.from_.n, p1.from_.d)) else (some (p0.from_.n, p0.from_.d))).bind fun x3 => (beatty_ratio_less p1.to p0.to).bind fun t4 => (if t4 = true then (some (p1.to.n, p1.to.d)) else (some (p0.to.n, p0.to.d))).bind fun x5 => some (Span.mk (Ratio.mk x3.1 x3.2) (Ratio.mk x5.1 x5.2))
def beatty_ratio_minus (p0 : Ratio) (p1 : Ratio) : Option Ratio := some (Ratio.mk (w64 ((w64 (p0.n * p1.d)) - (w64 (p1.n * p0.d)))) (w64 (p0.d * p1.d)))
def beatty_possible (p0 : Piece) (p1 : Span) (p2 : Span) : Option Bool := (beatty_ratio_less p1.from_ p1.to).bind fun t3 => (if (!t3) = true then (some true) else ((beatty_ratio_less p2.from_ p2.to).bind fun t5 => some (!t5))).bind fun x4 => if x4 = true then (some false) else (((beatty_of p0.Low).bind fun t7 => (beatty_of p0.High).bind fun t8 => some (t7.n, t7.d, t8.n, t8.d)).bind fun x6 => ((beatty_ratio_minus p2.from_ p1.to).bind fun t10 => (beatty_ratio_minus p2.to p1.from_).bind fun t11 => some (t10.n, t10.d, t11.n, t11.d)).bind fun x9 => (beatty_ratio_less (Ratio.mk x6.1 x6.2.1) (Ratio.mk x9.2.2.1 x9.2.2.2)).bind fun t12 => (if t12 = true then ((beatty_ratio_less (Ratio.mk x9.1 x9.2.1) (Ratio.mk x6.2.2.1 x6.2.2.2)).bind fun t14 => some t14) else (some false)).bind fun x13 => some x13)
def cmp_isNaN_int (p0 : Int) : Option Bool := some (p0 != p0)
def cmp_Compare_int (p0 : Int) (p1 : Int) : Option Int := (cmp_isNaN_int p0).bind fun t2 => (cmp_isNaN_int p1).bind fun t3 => if t2 = true then (if t3 = true then (some 0) else (some (-1))) else (if t3 = true then (some 1) else (if (decide (p0 < p1)) = true then (some (-1)) else (if (decide (p0 > p1)) = true then (some 1) else (some 0))))
def cmp_Or_int.l0 : Nat → Int → (List Int) → Option (Sum Int Unit)
  | 0, _, _ => none
  | k + 1, x1, p0 => if (decide (x1 < (p0.length : Int))) = true then (if 0 ≤ x1 ∧ x1 < (p0.length : Int) then (if ((rdD p0 x1 0) != 0) = true then (some (.inl (rdD p0 x1 0))) else (cmp_Or_int.l0 k (w64 (x1 + 1)) p0)) else none) else (some (.inr ()))
def cmp_Or_int (k : Nat) (p0 : List Int) : Option Int := (cmp_Or_int.l0 k 0 p0).bind fun x1 => sumb x1 (fun r => some r) (fun y2 => some 0)
def beatty_order (k : Nat) (p0 : Mark) (p1 : Mark) : Option Int := (cmp_Compare_int p0.s p1.s).bind fun t2 => (cmp_Compare_int p0.n p1.n).bind fun t3 => (cmp_Compare_int p0.west p1.west).bind fun t4 => (cmp_Or_int k [t2, t3, t4]).bind fun t5 => some t5
def beatty_marks.l3 : Nat → (List (Mark × Bool)) → Int → Piece → Int → Int → Span → Int → Option (List (Mark × Bool))
  | 0, _, _, _, _, _, _, _ => none
  | k + 1, l7, x8, p0, x2, x4, t5, x6 => (beatty_marks_1 (w64 ((w64 (x2 + x6)) + 1)) p0.Factor).bind fun t9 => if (decide (x8 ≤ t9)) = true then ((beatty_cuts p0.Factor x2 x8).bind fun t10 => (beatty_both (Span.mk (Ratio.mk x6 1) (Ratio.mk (w64 (x6 + 1)) 1)) t10).bind fun t11 => (beatty_possible p0 t5 t11).bind fun t12 => (if t12 = true then (some (mput (Mark.mk x6 (w64 (x8 - x4)) (w64 ((w64 (x2 * p0.Factor.Num)) - (w64 (x4 * p0.Factor.Den)))) (w64 ((w64 ((w64 (x2 + x6)) * p0.Factor.Num)) - (w64 (x8 * p0.Factor.Den))))) true l7)) else (some l7)).bind fun x13 => beatty_marks.l3 k x13 (w64 (x8 + 1)) p0 x2 x4 t5 x6) else (some l7)
def beatty_marks.l2 : Nat → (List (Mark × Bool)) → Int → Piece → Int → Int → Span → Option (List (Mark × Bool))
  | 0, _, _, _, _, _, _ => none
  | k + 1, l7, x8, p0, x4, x5, t6 => if (decide (x8 < 13)) = true then ((beatty_marks_1 (w64 (x4 + x8)) p0.Factor).bind fun t9 => (beatty_marks.l3 k l7 (maxI x5 t9) p0 x4 x5 t6 x8).bind fun x10 => beatty_marks.l2 k x10 (w64 (x8 + 1)) p0 x4 x5 t6) else (some l7)
def beatty_marks.l1 : Nat → (List (Mark × Bool)) → Int → Piece → Int → Option (List (Mark × Bool))
  | 0, _, _, _, _ => none
  | k + 1, l4, x5, p0, x3 => (beatty_marks_1 (w64 (x3 + 1)) p0.Factor).bind fun t6 => if (decide (x5 ≤ t6)) = true then ((beatty_cuts p0.Factor x3 x5).bind fun t7 => (beatty_both (Span.mk (Ratio.mk 0 1) (Ratio.mk 1 1)) t7).bind fun t8 => (beatty_marks.l2 k l4 0 p0 x3 x5 t8).bind fun x9 => beatty_marks.l1 k x9 (w64 (x5 + 1)) p0 x3) else (some l4)
def beatty_marks.l0 : Nat → (List (Mark × Bool)) → Int → Piece → Option (List (Mark × Bool))
  | 0, _, _, _ => none
  | k + 1, l2, x3, p0 => if (decide (x3 < p0.Factor.Den)) = true then ((beatty_marks_1 x3 p0.Factor).bind fun t4 => (beatty_marks.l1 k l2 t4 p0 x3).bind fun x5 => beatty_marks.l0 k x5 (w64 (x3 + 1)) p0) else (some l2)
def beatty_marks (k : Nat) (p0 : Piece) : Option (List Mark) := (beatty_marks.l0 k ([] : List (Mark × Bool)) 0 p0).bind fun x1 => if x1.length ≤ 100000000000 then ((sortP (beatty_order k) (x1.map Prod.fst) z_Mark).bind fun t2 => some t2) else none
def beatty_houseOf_1 (k : Nat) (p0 : Carry) (p1 : Carry) : Option Int := (cmp_Compare_int p0.piece p1.piece).bind fun t2 => (cmp_Compare_int p0.n p1.n).bind fun t3 => (cmp_Or_int k [t2, t3]).bind fun t4 => some t4
def beatty_houseOf.l2 : Nat → (List Carry) → (List (Carry × Int)) → Int → (List (List Mark)) → Int → (List Mark) → Int → Option ((List Carry) × (List (Carry × Int)))
  | 0, _, _, _, _, _, _, _ => none
  | k + 1, l6, l7, x8, l1, x3, t4, x5 => if (decide (x8 < 2)) = true then (if (x8 == 0) = true then ((if ((mget (Carry.mk x3 ((rdD (rdD (l1 ++ [t4]) x3 []) x5 z_Mark).west)) 0 l7) == 0) = true then (if l6.length + [(Carry.mk x3 ((rdD (rdD (l1 ++ [t4]) x3 []) x5 z_Mark).west))].length ≤ 100000000000 then (some (l6 ++ [(Carry.mk x3 ((rdD (rdD (l1 ++ [t4]) x3 []) x5 z_Mark).west))], mput (Carry.mk x3 ((rdD (rdD (l1 ++ [t4]) x3 []) x5 z_Mark).west)) 1 l7)) else none) else (some (l6, l7))).bind fun x9 => beatty_houseOf.l2 k x9.1 x9.2 (w64 (x8 + 1)) l1 x3 t4 x5) else (if (x8 == 1) = true then ((if ((mget (Carry.mk x3 ((rdD (rdD (l1 ++ [t4]) x3 []) x5 z_Mark).east)) 0 l7) == 0) = true then (if l6.length + [(Carry.mk x3 ((rdD (rdD (l1 ++ [t4]) x3 []) x5 z_Mark).east))].length ≤ 100000000000 then (some (l6 ++ [(Carry.mk x3 ((rdD (rdD (l1 ++ [t4]) x3 []) x5 z_Mark).east))], mput (Carry.mk x3 ((rdD (rdD (l1 ++ [t4]) x3 []) x5 z_Mark).east)) 1 l7)) else none) else (some (l6, l7))).bind fun x10 => beatty_houseOf.l2 k x10.1 x10.2 (w64 (x8 + 1)) l1 x3 t4 x5) else (none))) else (some (l6, l7))
def beatty_houseOf.l1 : Nat → (List Carry) → (List (Carry × Int)) → Int → (List (List Mark)) → Int → (List Mark) → Option ((List Carry) × (List (Carry × Int)))
  | 0, _, _, _, _, _, _ => none
  | k + 1, l6, l7, x8, l3, x4, t5 => if (decide (x8 < ((rdD (l3 ++ [t5]) x4 []).length : Int))) = true then (if 0 ≤ x8 ∧ x8 < ((rdD (l3 ++ [t5]) x4 []).length : Int) then ((beatty_houseOf.l2 k l6 l7 0 l3 x4 t5 x8).bind fun x9 => beatty_houseOf.l1 k x9.1 x9.2 (w64 (x8 + 1)) l3 x4 t5) else none) else (some (l6, l7))
def beatty_houseOf.l0 : Nat → (List Carry) → (List (Carry × Int)) → (List (List Mark)) → Int → (List Piece) → Option ((List Carry) × (List (Carry × Int)) × (List (List Mark)))
  | 0, _, _, _, _, _ => none
  | k + 1, l2, l3, l4, x5, p0 => if (decide (x5 < (p0.length : Int))) = true then (if 0 ≤ x5 ∧ x5 < (p0.length : Int) then ((beatty_marks k (rdD p0 x5 z_Piece)).bind fun t6 => if l4.length + 1 ≤ 100000000000 then (if 0 ≤ x5 ∧ x5 < ((l4 ++ [t6]).length : Int) then ((beatty_houseOf.l1 k l2 l3 0 l4 x5 t6).bind fun x7 => beatty_houseOf.l0 k x7.1 x7.2 (l4 ++ [t6]) (w64 (x5 + 1)) p0) else none) else none) else none) else (some (l2, l3, l4))
def beatty_houseOf.l3 : Nat → (List (Carry × Int)) → Int → (List Carry) → Option (List (Carry × Int))
  | 0, _, _, _ => none
  | k + 1, l2, x4, t1 => if (decide (x4 < (t1.length : Int))) = true then (if 0 ≤ x4 ∧ x4 < (t1.length : Int) then (beatty_houseOf.l3 k (mput (rdD t1 x4 z_Carry) x4 l2) (w64 (x4 + 1)) t1) else none) else (some l2)
def beatty_houseOf.l5 : Nat → (List Tile) → (List Int) → Int → Int → ((List Carry) × (List (Carry × Int)) × (List (List Mark))) → (List (Carry × Int)) → Int → Option ((List Tile) × (List Int) × Int)
  | 0, _, _, _, _, _, _, _ => none
  | k + 1, l4, l6, x7, x8, x1, x2, x3 => if (decide (x8 < ((rdD x1.2.2 x3 []).length : Int))) = true then (if 0 ≤ x8 ∧ x8 < ((rdD x1.2.2 x3 []).length : Int) then ((if l4.length + [(Tile.mk ((rdD (rdD x1.2.2 x3 []) x8 z_Mark).n) (mget (Carry.mk x3 ((rdD (rdD x1.2.2 x3 []) x8 z_Mark).east)) 0 x2) ((rdD (rdD x1.2.2 x3 []) x8 z_Mark).s) (mget (Carry.mk x3 ((rdD (rdD x1.2.2 x3 []) x8 z_Mark).west)) 0 x2))].length ≤ 100000000000 then (some (l4 ++ [(Tile.mk ((rdD (rdD x1.2.2 x3 []) x8 z_Mark).n) (mget (Carry.mk x3 ((rdD (rdD x1.2.2 x3 []) x8 z_Mark).east)) 0 x2) ((rdD (rdD x1.2.2 x3 []) x8 z_Mark).s) (mget (Carry.mk x3 ((rdD (rdD x1.2.2 x3 []) x8 z_Mark).west)) 0 x2))])) else none).bind fun x9 => if l6.length + [x3].length ≤ 100000000000 then (beatty_houseOf.l5 k x9 (l6 ++ [x3]) (maxI (maxI x7 ((rdD (rdD x1.2.2 x3 []) x8 z_Mark).n)) ((rdD (rdD x1.2.2 x3 []) x8 z_Mark).s)) (w64 (x8 + 1)) x1 x2 x3) else none) else none) else (some (l4, l6, x7))
def beatty_houseOf.l4 : Nat → (List Tile) → (List Int) → (List Int) → Int → Int → ((List Carry) × (List (Carry × Int)) × (List (List Mark))) → (List (Carry × Int)) → Option ((List Tile) × (List Int) × (List Int) × Int)
  | 0, _, _, _, _, _, _, _ => none
  | k + 1, l3, l6, l7, x8, x9, x1, x2 => if (decide (x9 < (x1.2.2.length : Int))) = true then (if 0 ≤ x9 ∧ x9 < (x1.2.2.length : Int) then (if l7.length + [(l3.length : Int)].length ≤ 100000000000 then ((beatty_houseOf.l5 k l3 l6 x8 0 x1 x2 x9).bind fun x10 => beatty_houseOf.l4 k x10.1 x10.2.1 (l7 ++ [(l3.length : Int)]) x10.2.2 (w64 (x9 + 1)) x1 x2) else none) else none) else (some (l3, l6, l7, x8))
def beatty_houseOf (k : Nat) (p0 : List Piece) : Option House := (beatty_houseOf.l0 k ([] : List Carry) ([] : List (Carry × Int)) ([] : List (List Mark)) 0 p0).bind fun x2 => (sortP (beatty_houseOf_1 k) x2.1 z_Carry).bind fun t5 => (beatty_houseOf.l3 k x2.2.1 0 t5).bind fun x6 => (beatty_houseOf.l4 k ([] : List Tile) ([] : List Int) ([] : List Int) (-1) 0 x2 x6).bind fun x7 => if x7.2.2.1.length + [(x7.1.length : Int)].length ≤ 100000000000 then (some (House.mk p0 x7.1 x7.2.1 (x7.2.2.1 ++ [(x7.1.length : Int)]) t5 x6 x7.2.2.2)) else none
def tile_colour_1 (p0 : Int) : Option Bool := some ((decide (p0 < 0)) || (decide (p0 ≥ 1000)))
def slices_IndexFunc_int_int_with_tile_colour_1.l0 : Nat → Int → (List Int) → Option (Sum Int Unit)
  | 0, _, _ => none
  | k + 1, x2, p0 => if (decide (x2 < (p0.length : Int))) = true then (if 0 ≤ x2 ∧ x2 < (p0.length : Int) then ((tile_colour_1 (rdD p0 x2 0)).bind fun t3 => if t3 = true then (some (.inl x2)) else (slices_IndexFunc_int_int_with_tile_colour_1.l0 k (w64 (x2 + 1)) p0)) else none) else (some (.inr ()))
def slices_IndexFunc_int_int_with_tile_colour_1 (k : Nat) (p0 : List Int) : Option Int := (slices_IndexFunc_int_int_with_tile_colour_1.l0 k 0 p0).bind fun x2 => sumb x2 (fun r => some r) (fun y3 => some (-1))
def slices_ContainsFunc_int_int_with_tile_colour_1 (k : Nat) (p0 : List Int) : Option Bool := (slices_IndexFunc_int_int_with_tile_colour_1 k p0).bind fun t2 => some (decide (t2 ≥ 0))
def tile_colour (k : Nat) (p0 : List Int) : Option Bool := (slices_ContainsFunc_int_int_with_tile_colour_1 k p0).bind fun t2 => some (!t2)
def tile_Valid.l0 : Nat → (List (Tile × Bool)) → Int → (List Tile) → Option (Sum Bool Unit)
  | 0, _, _, _ => none
  | k + 1, l1, x2, p0 => if (decide (x2 < (p0.length : Int))) = true then (if 0 ≤ x2 ∧ x2 < (p0.length : Int) then ((if (mget (rdD p0 x2 z_Tile) false l1) = true then (some true) else ((tile_colour k [(rdD p0 x2 z_Tile).N, (rdD p0 x2 z_Tile).E, (rdD p0 x2 z_Tile).S, (rdD p0 x2 z_Tile).W]).bind fun t4 => some (!t4))).bind fun x3 => if x3 = true then (some (.inl false)) else (tile_Valid.l0 k (mput (rdD p0 x2 z_Tile) true l1) (w64 (x2 + 1)) p0)) else none) else (some (.inr ()))
def tile_Valid (k : Nat) (p0 : List Tile) : Option Bool := if (decide ((p0.length : Int) > 1000)) = true then (some false) else ((tile_Valid.l0 k ([] : List (Tile × Bool)) 0 p0).bind fun x1 => sumb x1 (fun r => some r) (fun y2 => some true))
def beatty_made (k : Nat) (p0 : List Piece) : Option ((Option House) × Int) := (beatty_Valid k p0).bind fun t1 => if (!t1) = true then (some (none, 1)) else ((beatty_houseOf k p0).bind fun t2 => (tile_Valid k t2.set).bind fun t3 => if (!t3) = true then (some (none, 4)) else (some ((some (House.mk p0 t2.set t2.piece t2.first t2.carries t2.colour t2.most)), 0)))
def beatty_Tiles (k : Nat) (p0 : List Piece) : Option ((List Tile) × Int) := (beatty_made k p0).bind fun t1 => optM t1.1 (if (t1.2 != 0) = true then (some (([] : List Tile), t1.2)) else (none)) (fun y2 => if (t1.2 != 0) = true then (some (([] : List Tile), t1.2)) else (some (y2.set, 0)))
def beatty_primesOf_1 (p0 : Int) (f0 : Int) : Option Bool := if p0 ≠ 0 then (some ((Int.tmod f0 p0) == 0)) else none
def slices_IndexFunc_int_int_with_beatty_primesOf_1.l0 : Nat → Int → (List Int) → Int → Option (Sum Int Unit)
  | 0, _, _, _ => none
  | k + 1, x2, p0, p1_0 => if (decide (x2 < (p0.length : Int))) = true then (if 0 ≤ x2 ∧ x2 < (p0.length : Int) then ((beatty_primesOf_1 (rdD p0 x2 0) p1_0).bind fun t3 => if t3 = true then (some (.inl x2)) else (slices_IndexFunc_int_int_with_beatty_primesOf_1.l0 k (w64 (x2 + 1)) p0 p1_0)) else none) else (some (.inr ()))
def slices_IndexFunc_int_int_with_beatty_primesOf_1 (k : Nat) (p0 : List Int) (p1_0 : Int) : Option Int := (slices_IndexFunc_int_int_with_beatty_primesOf_1.l0 k 0 p0 p1_0).bind fun x2 => sumb x2 (fun r => some r) (fun y3 => some (-1))
def slices_ContainsFunc_int_int_with_beatty_primesOf_1 (k : Nat) (p0 : List Int) (p1_0 : Int) : Option Bool := (slices_IndexFunc_int_int_with_beatty_primesOf_1 k p0 p1_0).bind fun t2 => some (decide (t2 ≥ 0))
def beatty_primesOf_2 (p0 : Int) (f0 : Int) : Option Bool := if f0 ≠ 0 then (some ((Int.tmod p0 f0) == 0)) else none
def slices_IndexFunc_int_int_with_beatty_primesOf_2.l0 : Nat → Int → (List Int) → Int → Option (Sum Int Unit)
  | 0, _, _, _ => none
  | k + 1, x3, p0, p1_0 => if (decide (x3 < (p0.length : Int))) = true then (if 0 ≤ x3 ∧ x3 < (p0.length : Int) then ((beatty_primesOf_2 (rdD p0 x3 0) p1_0).bind fun t4 => if t4 = true then (some (.inl x3)) else (slices_IndexFunc_int_int_with_beatty_primesOf_2.l0 k (w64 (x3 + 1)) p0 p1_0)) else none) else (some (.inr ()))
def slices_IndexFunc_int_int_with_beatty_primesOf_2 (k : Nat) (p0 : List Int) (p1_0 : Int) : Option Int := (slices_IndexFunc_int_int_with_beatty_primesOf_2.l0 k 0 p0 p1_0).bind fun x3 => sumb x3 (fun r => some r) (fun y4 => some (-1))
def slices_ContainsFunc_int_int_with_beatty_primesOf_2 (k : Nat) (p0 : List Int) (p1_0 : Int) : Option Bool := (slices_IndexFunc_int_int_with_beatty_primesOf_2 k p0 p1_0).bind fun t3 => some (decide (t3 ≥ 0))
def beatty_primesOf.l1 : Nat → Bool → Int → Int → Option Bool
  | 0, _, _, _ => none
  | k + 1, b3, x4, x2 => if (decide (x4 < x2)) = true then ((if b3 = true then (if x4 ≠ 0 then (some ((Int.tmod x2 x4) != 0)) else none) else (some false)).bind fun b5 => beatty_primesOf.l1 k b5 (w64 (x4 + 1)) x2) else (some b3)
def beatty_primesOf.l0 : Nat → (List Int) → Int → (List Int) → Option (List Int)
  | 0, _, _, _ => none
  | k + 1, l3, x4, p0 => if (decide (x4 ≤ 12)) = true then ((slices_ContainsFunc_int_int_with_beatty_primesOf_1 k l3 x4).bind fun t5 => (beatty_primesOf.l1 k (!t5) 2 x4).bind fun x6 => (if x6 = true then ((slices_ContainsFunc_int_int_with_beatty_primesOf_2 k p0 x4).bind fun t8 => some t8) else (some false)).bind fun x7 => (if x7 = true then (if l3.length + [x4].length ≤ 100000000000 then (some (l3 ++ [x4])) else none) else (some l3)).bind fun x9 => beatty_primesOf.l0 k x9 (w64 (x4 + 1)) p0) else (some l3)
def beatty_primesOf (k : Nat) (p0 : List Int) : Option (List Int) := (beatty_primesOf.l0 k ([] : List Int) 2 p0).bind fun x1 => some x1
def beatty_exponents.l1 : Nat → Int → Int → (List Int) → Int → Option Int
  | 0, _, _, _, _ => none
  | k + 1, x3, x4, p1, x2 => if (rdD p1 x2 0) ≠ 0 then (if ((Int.tmod x4 (rdD p1 x2 0)) == 0) = true then (beatty_exponents.l1 k (w64 (x3 + 1)) (w64 (Int.tdiv x4 (rdD p1 x2 0))) p1 x2) else (some x3)) else none
def beatty_exponents.l2 : Nat → Int → Int → (List Int) → Int → Option Int
  | 0, _, _, _, _ => none
  | k + 1, x4, x5, p1, x3 => if (rdD p1 x3 0) ≠ 0 then (if ((Int.tmod x5 (rdD p1 x3 0)) == 0) = true then (beatty_exponents.l2 k (w64 (x4 - 1)) (w64 (Int.tdiv x5 (rdD p1 x3 0))) p1 x3) else (some x4)) else none
def beatty_exponents.l0 : Nat → (List Int) → Int → Frac → (List Int) → Option (List Int)
  | 0, _, _, _, _ => none
  | k + 1, l3, x4, p0, p1 => if (decide (x4 < (p1.length : Int))) = true then (if 0 ≤ x4 ∧ x4 < (p1.length : Int) then ((beatty_exponents.l1 k 0 p0.Num p1 x4).bind fun x5 => (beatty_exponents.l2 k x5 p0.Den p1 x4).bind fun x6 => if l3.length + [x6].length ≤ 100000000000 then (beatty_exponents.l0 k (l3 ++ [x6]) (w64 (x4 + 1)) p0 p1) else none) else none) else (some l3)
def beatty_exponents (k : Nat) (p0 : Frac) (p1 : List Int) : Option (List Int) := (beatty_exponents.l0 k ([] : List Int) 0 p0 p1).bind fun x2 => some x2
def beatty_lists (p0 : Int) : Option Unit := some ()
def beatty_logsOf_1.l0 : Nat → Int → Int → (List Int) → (List Int) → Option Int
  | 0, _, _, _, _ => none
  | k + 1, x2, x3, p0, f0 => if (decide (x3 < (p0.length : Int))) = true then (if 0 ≤ x3 ∧ x3 < (p0.length : Int) then (if 0 ≤ x3 ∧ x3 < (f0.length : Int) then (beatty_logsOf_1.l0 k (w64 (x2 + (w64 ((rdD p0 x3 0) * (rdD f0 x3 0))))) (w64 (x3 + 1)) p0 f0) else none) else none) else (some x2)
def beatty_logsOf_1 (k : Nat) (p0 : List Int) (f0 : List Int) : Option Bool := (beatty_logsOf_1.l0 k 0 0 p0 f0).bind fun x2 => some (decide (x2 ≤ 0))
def slices_IndexFunc_int_int_98_with_beatty_logsOf_1.l0 : Nat → Int → (List (List Int)) → (List Int) → Option (Sum Int Unit)
  | 0, _, _, _ => none
  | k + 1, x2, p0, p1_0 => if (decide (x2 < (p0.length : Int))) = true then (if 0 ≤ x2 ∧ x2 < (p0.length : Int) then ((beatty_logsOf_1 k (rdD p0 x2 []) p1_0).bind fun t3 => if t3 = true then (some (.inl x2)) else (slices_IndexFunc_int_int_98_with_beatty_logsOf_1.l0 k (w64 (x2 + 1)) p0 p1_0)) else none) else (some (.inr ()))
def slices_IndexFunc_int_int_98_with_beatty_logsOf_1 (k : Nat) (p0 : List (List Int)) (p1_0 : List Int) : Option Int := (slices_IndexFunc_int_int_98_with_beatty_logsOf_1.l0 k 0 p0 p1_0).bind fun x2 => sumb x2 (fun r => some r) (fun y3 => some (-1))
def slices_ContainsFunc_int_int_76_with_beatty_logsOf_1 (k : Nat) (p0 : List (List Int)) (p1_0 : List Int) : Option Bool := (slices_IndexFunc_int_int_98_with_beatty_logsOf_1 k p0 p1_0).bind fun t2 => some (decide (t2 ≥ 0))
def slices_Clone_int_int_nil (p0 : List Int) : Option (List Int) := some ([] : List Int)
def slices_Clone_int_int_some (p0 : List Int) : Option (List Int) := if ([] : List Int).length + p0.length ≤ 100000000000 then (some (([] : List Int) ++ p0)) else none
def slices_Clone_int_int (p0 : List Int) : Option (List Int) := slices_Clone_int_int_some p0
def bits_Mul64 (p0 : Int) (p1 : Int) : Option (Int × Int) := some (IntKind.wrap .u64 ((IntKind.wrap .u64 ((IntKind.wrap .u64 ((shrV p0 32) * (shrV p1 32))) + (shrV (IntKind.wrap .u64 ((IntKind.wrap .u64 ((shrV p0 32) * (andV p1 4294967295))) + (shrV (IntKind.wrap .u64 ((andV p0 4294967295) * (andV p1 4294967295))) 32))) 32))) + (shrV (IntKind.wrap .u64 ((andV (IntKind.wrap .u64 ((IntKind.wrap .u64 ((shrV p0 32) * (andV p1 4294967295))) + (shrV (IntKind.wrap .u64 ((andV p0 4294967295) * (andV p1 4294967295))) 32))) 4294967295) + (IntKind.wrap .u64 ((andV p0 4294967295) * (shrV p1 32))))) 32)), IntKind.wrap .u64 (p0 * p1))
def bits_Mul (p0 : Int) (p1 : Int) : Option (Int × Int) := (bits_Mul64 p0 p1).bind fun t2 => some (t2.1, t2.2)
def slices_Repeat_int_int.l0 : Nat → (List Int) → Int → Option (List Int)
  | 0, _, _ => none
  | k + 1, l1, x2 => if (decide (x2 < (l1.length : Int))) = true then (if 0 ≤ x2 ∧ x2 ≤ (l1.length : Int) ∧ (l1.length : Int) ≤ (l1.length : Int) then (if 0 ≤ (0 : Int) ∧ (0 : Int) ≤ x2 ∧ x2 ≤ (l1.length : Int) then (slices_Repeat_int_int.l0 k (cpL l1 x2.toNat (cut l1 (0 : Int) x2)) (w64 (x2 + (cpN (cut l1 (0 : Int) x2).length (cut l1 x2 (l1.length : Int)).length)))) else none) else none) else (some l1)
def slices_Repeat_int_int (k : Nat) (p0 : List Int) (p1 : Int) : Option (List Int) := if (decide (p1 < 0)) = true then (none) else ((bits_Mul (IntKind.wrap .u64 ((p0.length : Int))) (IntKind.wrap .u64 (p1))).bind fun t2 => if ((decide (t2.1 > 0)) || (decide (t2.2 > 9223372036854775807))) = true then (none) else (if 0 ≤ (w64 (t2.2)) ∧ (w64 (t2.2)) ≤ 100000000000 then ((slices_Repeat_int_int.l0 k (cpL (List.replicate (w64 (t2.2)).toNat (0 : Int)) 0 p0) (cpN p0.length (List.replicate (w64 (t2.2)).toNat (0 : Int)).length)).bind fun x3 => some x3) else none))
def beatty_lists_1_y.l1 : Nat → (List Int) → Int → Option ((List Int) × Int)
  | 0, _, _ => none
  | k + 1, l2, x3 => (if (decide (x3 ≥ 0)) = true then (if 0 ≤ x3 ∧ x3 < (l2.length : Int) then (some ((rdD l2 x3 0) == 3)) else none) else (some false)).bind fun b4 => if b4 = true then (if 0 ≤ x3 ∧ x3 < (l2.length : Int) then (beatty_lists_1_y.l1 k (l2.set (x3).toNat (-3)) (w64 (x3 - 1))) else none) else (some (l2, x3))
def beatty_lists_1_y.l0 {σ : Type} : Nat → (List Int) → σ → Int → ((List Int) → σ → Option (σ × Bool)) → Option (Sum σ σ)
  | 0, _, _, _, _ => none
  | k + 1, l2, s3, f0, yf => (yf l2 s3).bind fun t4 => if t4.2 = true then ((beatty_lists_1_y.l1 k l2 (w64 (f0 - 1))).bind fun x5 => if (decide (x5.2 < 0)) = true then (some (.inl t4.1)) else (if 0 ≤ x5.2 ∧ x5.2 < (x5.1.length : Int) then (beatty_lists_1_y.l0 k (x5.1.set (x5.2).toNat (w64 ((rdD x5.1 x5.2 0) + 1))) t4.1 f0 yf) else none)) else (some (.inr t4.1))
def beatty_lists_1_y {σ : Type} (k : Nat) (f0 : Int) (yf : (List Int) → σ → Option (σ × Bool)) (sY : σ) : Option σ := (slices_Repeat_int_int k [(-3)] f0).bind fun t2 => (beatty_lists_1_y.l0 k t2 sY f0 yf).bind fun x3 => sumb x3 (fun r => some r) (fun y4 => some y4)
def beatty_logsOf.l0 : Nat → (List (List Int)) → Int → (List Piece) → (List Int) → Option (List (List Int))
  | 0, _, _, _, _ => none
  | k + 1, l2, x3, p0, p1 => if (decide (x3 < (p0.length : Int))) = true then (if 0 ≤ x3 ∧ x3 < (p0.length : Int) then ((beatty_exponents k ((rdD p0 x3 z_Piece).Factor) p1).bind fun t4 => if l2.length + 1 ≤ 100000000000 then (beatty_logsOf.l0 k (l2 ++ [t4]) (w64 (x3 + 1)) p0 p1) else none) else none) else (some l2)
def beatty_logsOf.b1 : Nat → (List (List Int)) → (List Int) → (((List Int) × Bool) × Int) → Option ((((List Int) × Bool) × Int) × Bool)
  | k, x2, x5, ((l3, b4), j6) => if j6 = 0 then ((slices_ContainsFunc_int_int_76_with_beatty_logsOf_1 k x2 x5).bind fun t7 => if (!t7) = true then ((slices_Clone_int_int x5).bind fun t8 => some (((t8, true), 1), false)) else (some (((l3, b4), 0), true))) else none
def beatty_logsOf (k : Nat) (p0 : List Piece) (p1 : List Int) : Option ((List Int) × Bool) := (beatty_logsOf.l0 k ([] : List (List Int)) 0 p0 p1).bind fun x2 => (beatty_lists (p1.length : Int)).bind fun t3 => (beatty_lists_1_y k (p1.length : Int) (beatty_logsOf.b1 k x2) ((([] : List Int), false), (0 : Int))).bind fun t4 => if (t4.2 == 1) = true then (some (t4.1.1, t4.1.2)) else (if t4.2 = 0 then (some (([] : List Int), false)) else none)
def beatty_lowest (k : Nat) (p0 : Int) (p1 : Int) : Option Frac := (beatty_gcd k p0 p1).bind fun t2 => if (maxI t2 1) ≠ 0 then (some (Frac.mk (w64 (Int.tdiv p0 (maxI t2 1))) (w64 (Int.tdiv p1 (maxI t2 1))))) else none
def beatty_Weigh.l0 : Nat → (List Int) → Int → (List Piece) → Option (List Int)
  | 0, _, _, _ => none
  | k + 1, l1, x2, p0 => if (decide (x2 < (p0.length : Int))) = true then (if 0 ≤ x2 ∧ x2 < (p0.length : Int) then (if l1.length + [((rdD p0 x2 z_Piece).Factor).Num, ((rdD p0 x2 z_Piece).Factor).Den].length ≤ 100000000000 then (beatty_Weigh.l0 k (l1 ++ [((rdD p0 x2 z_Piece).Factor).Num, ((rdD p0 x2 z_Piece).Factor).Den]) (w64 (x2 + 1)) p0) else none) else none) else (some l1)
def beatty_Weigh.l1 : Nat → (List Int) → Int → (List Piece) → Option (List Int)
  | 0, _, _, _ => none
  | k + 1, l2, x3, p0 => if (decide (x3 < (p0.length : Int))) = true then (if 0 ≤ x3 ∧ x3 < (p0.length : Int) then (if l2.length + [((rdD p0 x3 z_Piece).Factor).Num, ((rdD p0 x3 z_Piece).Factor).Den].length ≤ 100000000000 then (beatty_Weigh.l1 k (l2 ++ [((rdD p0 x3 z_Piece).Factor).Num, ((rdD p0 x3 z_Piece).Factor).Den]) (w64 (x3 + 1)) p0) else none) else none) else (some l2)
def beatty_Weigh.l2 : Nat → (List Frac) → Int → House → Option (List Frac)
  | 0, _, _, _ => none
  | k + 1, l3, x4, y1 => if (decide (x4 < w64 (y1.most + 1))) = true then (if l3.length + [(Frac.mk x4 1)].length ≤ 100000000000 then (beatty_Weigh.l2 k (l3 ++ [(Frac.mk x4 1)]) (w64 (x4 + 1)) y1) else none) else (some l3)
def beatty_Weigh.l3 : Nat → (List Frac) → Int → (List Piece) → House → Option (List Frac)
  | 0, _, _, _, _ => none
  | k + 1, l2, x4, p0, y1 => if (decide (x4 < (y1.carries.length : Int))) = true then (if 0 ≤ x4 ∧ x4 < (y1.carries.length : Int) then (if 0 ≤ (rdD y1.carries x4 z_Carry).piece ∧ (rdD y1.carries x4 z_Carry).piece < (p0.length : Int) then ((beatty_lowest k ((rdD y1.carries x4 z_Carry).n) (((rdD p0 ((rdD y1.carries x4 z_Carry).piece) z_Piece).Factor).Den)).bind fun t5 => if l2.length + [t5].length ≤ 100000000000 then (beatty_Weigh.l3 k (l2 ++ [t5]) (w64 (x4 + 1)) p0 y1) else none) else none) else none) else (some l2)
def beatty_Weigh.l4 : Nat → (List Frac) → Int → (List Piece) → House → Option (List Frac)
  | 0, _, _, _, _ => none
  | k + 1, l2, x3, p0, y1 => if (decide (x3 < (y1.piece.length : Int))) = true then (if 0 ≤ x3 ∧ x3 < (y1.piece.length : Int) then (if 0 ≤ (rdD y1.piece x3 0) ∧ (rdD y1.piece x3 0) < (p0.length : Int) then (if l2.length + [((rdD p0 (rdD y1.piece x3 0) z_Piece).Factor)].length ≤ 100000000000 then (beatty_Weigh.l4 k (l2 ++ [((rdD p0 (rdD y1.piece x3 0) z_Piece).Factor)]) (w64 (x3 + 1)) p0 y1) else none) else none) else none) else (some l2)
def beatty_Weigh (k : Nat) (p0 : List Piece) : Option (Weights × Int) := (beatty_made k p0).bind fun t5 => optM t5.1 (if (t5.2 != 0) = true then (some ((Weights.mk ([] : List Frac) ([] : List Frac) ([] : List Frac) ([] : List Int) ([] : List Int)), t5.2)) else ((beatty_Weigh.l0 k ([] : List Int) 0 p0).bind fun x7 => (beatty_primesOf k x7).bind fun t8 => (beatty_logsOf k p0 t8).bind fun t9 => if (!t9.2) = true then (some ((Weights.mk ([] : List Frac) ([] : List Frac) ([] : List Frac) ([] : List Int) ([] : List Int)), 6)) else (none))) (fun y6 => if (t5.2 != 0) = true then (some ((Weights.mk ([] : List Frac) ([] : List Frac) ([] : List Frac) ([] : List Int) ([] : List Int)), t5.2)) else ((beatty_Weigh.l1 k ([] : List Int) 0 p0).bind fun x10 => (beatty_primesOf k x10).bind fun t11 => (beatty_logsOf k p0 t11).bind fun t12 => if (!t12.2) = true then (some ((Weights.mk ([] : List Frac) ([] : List Frac) ([] : List Frac) ([] : List Int) ([] : List Int)), 6)) else ((beatty_Weigh.l2 k ([] : List Frac) 0 y6).bind fun x13 => (beatty_Weigh.l3 k ([] : List Frac) 0 p0 y6).bind fun x14 => (beatty_Weigh.l4 k ([] : List Frac) 0 p0 y6).bind fun x15 => some ((Weights.mk x13 x14 x15 t11 t12.1), 0))))
def law07_Kari_1 (p0 : Int) (p1 : Int) : Option Frac := some (Frac.mk p0 p1)
def law07_Kari  : Option (List Piece) := (law07_Kari_1 2 1).bind fun t1 => (law07_Kari_1 2 3).bind fun t2 => (law07_Kari_1 1 1).bind fun t3 => (law07_Kari_1 2 3).bind fun t4 => (law07_Kari_1 1 1).bind fun t5 => (law07_Kari_1 2 1).bind fun t6 => some [(Piece.mk t1 t2 t3), (Piece.mk t4 t5 t6)]
def beatty_ratio_times (p0 : Ratio) (p1 : Ratio) : Option Ratio := some (Ratio.mk (w64 (p0.n * p1.n)) (w64 (p0.d * p1.d)))
def beatty_Closed_1 (p0 : Piece) (f0 : Ratio) : Option Bool := (beatty_of p0.Low).bind fun t2 => (beatty_ratio_less f0 t2).bind fun t3 => (if (!t3) = true then ((beatty_of p0.High).bind fun t5 => (beatty_ratio_less f0 t5).bind fun t6 => some t6) else (some false)).bind fun x4 => some x4
def slices_IndexFunc_api_Piece_api_Piece_with_beatty_Closed_1.l0 : Nat → Int → (List Piece) → Ratio → Option (Sum Int Unit)
  | 0, _, _, _ => none
  | k + 1, x2, p0, p1_0 => if (decide (x2 < (p0.length : Int))) = true then (if 0 ≤ x2 ∧ x2 < (p0.length : Int) then ((beatty_Closed_1 (rdD p0 x2 z_Piece) p1_0).bind fun t3 => if t3 = true then (some (.inl x2)) else (slices_IndexFunc_api_Piece_api_Piece_with_beatty_Closed_1.l0 k (w64 (x2 + 1)) p0 p1_0)) else none) else (some (.inr ()))
def slices_IndexFunc_api_Piece_api_Piece_with_beatty_Closed_1 (k : Nat) (p0 : List Piece) (p1_0 : Ratio) : Option Int := (slices_IndexFunc_api_Piece_api_Piece_with_beatty_Closed_1.l0 k 0 p0 p1_0).bind fun x2 => sumb x2 (fun r => some r) (fun y3 => some (-1))
def beatty_Closed.l1 : Nat → Int → Int → (List Piece) → Ratio → Option (Sum (Bool × Int) Unit)
  | 0, _, _, _, _ => none
  | k + 1, x3, x4, p0, t2 => (beatty_ratio_less (Ratio.mk x3 x4) t2).bind fun t5 => if t5 = true then ((slices_IndexFunc_api_Piece_api_Piece_with_beatty_Closed_1 k p0 (Ratio.mk x3 x4)).bind fun t6 => if (decide (t6 < 0)) = true then (some (.inl (false, 0))) else (if 0 ≤ t6 ∧ t6 < (p0.length : Int) then ((beatty_of ((rdD p0 t6 z_Piece).High)).bind fun t7 => beatty_Closed.l1 k t7.n t7.d p0 t2) else none)) else (some (.inr ()))
def beatty_Closed.l0 : Nat → Int → (List Piece) → Option (Sum (Bool × Int) Unit)
  | 0, _, _ => none
  | k + 1, x2, p0 => if (decide (x2 < (p0.length : Int))) = true then (if 0 ≤ x2 ∧ x2 < (p0.length : Int) then ((beatty_of ((rdD p0 x2 z_Piece).Factor)).bind fun t3 => (beatty_of ((rdD p0 x2 z_Piece).Low)).bind fun t4 => (beatty_ratio_times t3 t4).bind fun t5 => (beatty_of ((rdD p0 x2 z_Piece).High)).bind fun t6 => (beatty_ratio_times t3 t6).bind fun t7 => (beatty_Closed.l1 k t5.n t5.d p0 t7).bind fun x8 => sumb x8 (fun r => some (.inl r)) (fun y9 => beatty_Closed.l0 k (w64 (x2 + 1)) p0)) else none) else (some (.inr ()))
def beatty_Closed (k : Nat) (p0 : List Piece) : Option (Bool × Int) := (beatty_Valid k p0).bind fun t1 => if (!t1) = true then (some (false, 1)) else ((beatty_Closed.l0 k 0 p0).bind fun x2 => sumb x2 (fun r => some r) (fun y3 => some (true, 0)))
def ref01_SameSet.l0 : Nat → Int → (List Tile) → (List Tile) → Option (Sum Bool Unit)
  | 0, _, _, _ => none
  | k + 1, x2, p0, p1 => if (decide (x2 < (p0.length : Int))) = true then (if 0 ≤ x2 ∧ x2 < (p0.length : Int) then (if 0 ≤ x2 ∧ x2 < (p1.length : Int) then (if (!(((rdD p0 x2 z_Tile).N) == ((rdD p1 x2 z_Tile).N) && (((rdD p0 x2 z_Tile).E) == ((rdD p1 x2 z_Tile).E) && (((rdD p0 x2 z_Tile).S) == ((rdD p1 x2 z_Tile).S) && (((rdD p0 x2 z_Tile).W) == ((rdD p1 x2 z_Tile).W)))))) = true then (some (.inl false)) else (ref01_SameSet.l0 k (w64 (x2 + 1)) p0 p1)) else none) else none) else (some (.inr ()))
def ref01_SameSet (k : Nat) (p0 : List Tile) (p1 : List Tile) : Option Bool := if ((p0.length : Int) != (p1.length : Int)) = true then (some false) else ((ref01_SameSet.l0 k 0 p0 p1).bind fun x2 => sumb x2 (fun r => some r) (fun y3 => some true))
def ref01_Same.l0 : Nat → Int → (List Int) → (List Int) → Option (Sum Bool Unit)
  | 0, _, _, _ => none
  | k + 1, x2, p0, p1 => if (decide (x2 < (p0.length : Int))) = true then (if 0 ≤ x2 ∧ x2 < (p0.length : Int) then (if 0 ≤ x2 ∧ x2 < (p1.length : Int) then (if ((rdD p0 x2 0) != (rdD p1 x2 0)) = true then (some (.inl false)) else (ref01_Same.l0 k (w64 (x2 + 1)) p0 p1)) else none) else none) else (some (.inr ()))
def ref01_Same (k : Nat) (p0 : List Int) (p1 : List Int) : Option Bool := if ((p0.length : Int) != (p1.length : Int)) = true then (some false) else ((ref01_Same.l0 k 0 p0 p1).bind fun x2 => sumb x2 (fun r => some r) (fun y3 => some true))
def law07_awake (k : Nat)  : Option Bool := (beatty_Tiles k [(Piece.mk (Frac.mk 1 1) (Frac.mk 1 1) (Frac.mk 2 1))]).bind fun t2 => (beatty_Weigh k [(Piece.mk (Frac.mk 1 1) (Frac.mk 1 1) (Frac.mk 2 1))]).bind fun t3 => (beatty_Weigh k [(Piece.mk (Frac.mk 2 1) (Frac.mk 1 2) (Frac.mk 1 1))]).bind fun t4 => (law07_Kari).bind fun t5 => (beatty_Closed k t5).bind fun t6 => (if (t2.2 == 0) = true then ((ref01_SameSet k t2.1 [(Tile.mk 1 0 1 0), (Tile.mk 2 0 2 0)]).bind fun t9 => some t9) else (some false)).bind fun x8 => (if ((x8 && (t3.2 == 6)) && (t4.2 == 0)) = true then ((ref01_Same k t4.1.Primes [2]).bind fun t11 => some t11) else (some false)).bind fun x10 => (if x10 = true then ((ref01_Same k t4.1.Logs [1]).bind fun t13 => some t13) else (some false)).bind fun x12 => some ((x12 && (t6.2 == 0)) && t6.1)
def ref07_sameFracs.l0 : Nat → Int → (List Frac) → (List Frac) → Option (Sum Bool Unit)
  | 0, _, _, _ => none
  | k + 1, x2, p0, p1 => if (decide (x2 < (p0.length : Int))) = true then (if 0 ≤ x2 ∧ x2 < (p0.length : Int) then (if 0 ≤ x2 ∧ x2 < (p1.length : Int) then (if (!(((rdD p0 x2 z_Frac).Num) == ((rdD p1 x2 z_Frac).Num) && (((rdD p0 x2 z_Frac).Den) == ((rdD p1 x2 z_Frac).Den)))) = true then (some (.inl false)) else (ref07_sameFracs.l0 k (w64 (x2 + 1)) p0 p1)) else none) else none) else (some (.inr ()))
def ref07_sameFracs (k : Nat) (p0 : List Frac) (p1 : List Frac) : Option Bool := if ((p0.length : Int) != (p1.length : Int)) = true then (some false) else ((ref07_sameFracs.l0 k 0 p0 p1).bind fun x2 => sumb x2 (fun r => some r) (fun y3 => some true))
def ref07_SameWeights (k : Nat) (p0 : Weights) (p1 : Weights) : Option Bool := (ref07_sameFracs k p0.Values p1.Values).bind fun t2 => (if t2 = true then ((ref07_sameFracs k p0.Carries p1.Carries).bind fun t4 => some t4) else (some false)).bind fun x3 => (if x3 = true then ((ref07_sameFracs k p0.Factors p1.Factors).bind fun t6 => some t6) else (some false)).bind fun x5 => (if x5 = true then ((ref01_Same k p0.Primes p1.Primes).bind fun t9 => some t9) else (some false)).bind fun x8 => (if x8 = true then ((ref01_Same k p0.Logs p1.Logs).bind fun t11 => some t11) else (some false)).bind fun x10 => some x10
def ref07_frac (p0 : Frac) : Option Bool := some ((((decide (p0.Den ≥ 1)) && (decide (p0.Den ≤ 1000000))) && (decide (p0.Num ≥ (-1000000)))) && (decide (p0.Num ≤ 1000000)))
def ref07_gcd.l0 : Nat → Int → Int → Option Int
  | 0, _, _ => none
  | k + 1, x1, x2 => if (decide (x2 > 0)) = true then (if x2 ≠ 0 then (ref07_gcd.l0 k x2 (Int.tmod x1 x2)) else none) else (some x1)
def ref07_gcd (k : Nat) (p0 : Int) (p1 : Int) : Option Int := (ref07_gcd.l0 k p0 p1).bind fun x2 => some x2
def ref07_piece (k : Nat) (p0 : Piece) : Option Bool := (some (p0.Factor.Num, p0.Factor.Den, p0.Low.Num, p0.Low.Den, p0.High.Num, p0.High.Den)).bind fun x1 => (ref07_frac (Frac.mk x1.1 x1.2.1)).bind fun t2 => (if (!t2) = true then (some true) else ((ref07_frac (Frac.mk x1.2.2.1 x1.2.2.2.1)).bind fun t4 => some (!t4))).bind fun x3 => (if x3 = true then (some true) else ((ref07_frac (Frac.mk x1.2.2.2.2.1 x1.2.2.2.2.2)).bind fun t6 => some (!t6))).bind fun x5 => (if (((x5 || (decide (x1.1 < 1))) || (decide (x1.1 > 12))) || (decide (x1.2.1 > 12))) = true then (some true) else ((ref07_gcd k (IntKind.wrap .u64 (x1.1)) (IntKind.wrap .u64 (x1.2.1))).bind fun t9 => some (t9 != 1))).bind fun x8 => if x8 = true then (some false) else (some (((((decide (x1.2.2.2.1 ≤ 1000)) && (decide (x1.2.2.2.2.2 ≤ 1000))) && (decide (x1.2.2.1 ≥ 0))) && (decide (w64 (x1.2.2.1 * x1.2.2.2.2.2) < w64 (x1.2.2.2.2.1 * x1.2.2.2.1)))) && (decide (x1.2.2.2.2.1 ≤ w64 (12 * x1.2.2.2.2.2)))))
def ref07_Valid.l0 : Nat → Int → (List Piece) → Option (Sum Bool Unit)
  | 0, _, _ => none
  | k + 1, x1, p0 => if (decide (x1 < (p0.length : Int))) = true then (if 0 ≤ x1 ∧ x1 < (p0.length : Int) then ((ref07_piece k (rdD p0 x1 z_Piece)).bind fun t2 => if (!t2) = true then (some (.inl false)) else (ref07_Valid.l0 k (w64 (x1 + 1)) p0)) else none) else (some (.inr ()))
def ref07_Valid (k : Nat) (p0 : List Piece) : Option Bool := if ((decide ((p0.length : Int) < 1)) || (decide ((p0.length : Int) > 6))) = true then (some false) else ((ref07_Valid.l0 k 0 p0).bind fun x1 => sumb x1 (fun r => some r) (fun y2 => some true))
def ref07_possible (p0 : Piece) (p1 : Int) (p2 : Int) (p3 : Int) (p4 : Int) : Option Bool := some ((((decide (maxI 0 (w64 ((w64 (p3 * p0.Factor.Den)) - (w64 (p1 * p0.Factor.Num)))) < minI p0.Factor.Num (w64 ((w64 ((w64 (p3 + 1)) * p0.Factor.Den)) - (w64 (p1 * p0.Factor.Num)))))) && (decide (maxI (w64 (p2 * p0.Factor.Num)) (w64 ((w64 (p4 * p0.Factor.Den)) - (w64 (p1 * p0.Factor.Num)))) < minI (w64 ((w64 (p2 + 1)) * p0.Factor.Num)) (w64 ((w64 ((w64 (p4 + 1)) * p0.Factor.Den)) - (w64 (p1 * p0.Factor.Num))))))) && (decide (w64 (p0.Low.Num * p0.Factor.Num) < w64 ((w64 ((minI (w64 ((w64 (p2 + 1)) * p0.Factor.Num)) (w64 ((w64 ((w64 (p4 + 1)) * p0.Factor.Den)) - (w64 (p1 * p0.Factor.Num))))) - (maxI 0 (w64 ((w64 (p3 * p0.Factor.Den)) - (w64 (p1 * p0.Factor.Num))))))) * p0.Low.Den)))) && (decide (w64 ((w64 ((maxI (w64 (p2 * p0.Factor.Num)) (w64 ((w64 (p4 * p0.Factor.Den)) - (w64 (p1 * p0.Factor.Num))))) - (minI p0.Factor.Num (w64 ((w64 ((w64 (p3 + 1)) * p0.Factor.Den)) - (w64 (p1 * p0.Factor.Num))))))) * p0.High.Den) < w64 (p0.High.Num * p0.Factor.Num))))
def ref07_before (p0 : Made) (p1 : Made) : Option Bool := if (p0.S != p1.S) = true then (some (decide (p0.S < p1.S))) else (if (p0.N != p1.N) = true then (some (decide (p0.N < p1.N))) else (some (decide (p0.W < p1.W))))
def ref07_put.l0 : Nat → Int → (List Made) → Made → Option Int
  | 0, _, _, _ => none
  | k + 1, x2, p0, p1 => (if (decide (x2 < (p0.length : Int))) = true then (if 0 ≤ x2 ∧ x2 < (p0.length : Int) then ((ref07_before (rdD p0 x2 z_Made) p1).bind fun t4 => some t4) else none) else (some false)).bind fun x3 => if x3 = true then (ref07_put.l0 k (w64 (x2 + 1)) p0 p1) else (some x2)
def ref07_put (k : Nat) (p0 : List Made) (p1 : Made) : Option (List Made) := (ref07_put.l0 k 0 p0 p1).bind fun x2 => (if (decide (x2 < (p0.length : Int))) = true then (if 0 ≤ x2 ∧ x2 < (p0.length : Int) then (some (((rdD p0 x2 z_Made).Piece) == p1.Piece && (((rdD p0 x2 z_Made).S) == p1.S && (((rdD p0 x2 z_Made).N) == p1.N && (((rdD p0 x2 z_Made).W) == p1.W && (((rdD p0 x2 z_Made).E) == p1.E)))))) else none) else (some false)).bind fun x3 => if x3 = true then (some p0) else ((if 0 ≤ (0 : Int) ∧ (0 : Int) ≤ x2 ∧ x2 ≤ (p0.length : Int) then (if 0 ≤ x2 ∧ x2 ≤ (p0.length : Int) ∧ (p0.length : Int) ≤ (p0.length : Int) then (if ([] : List Made).length + (cut p0 (0 : Int) x2).length ≤ 100000000000 then (if (([] : List Made) ++ (cut p0 (0 : Int) x2)).length + [p1].length ≤ 100000000000 then (if ((([] : List Made) ++ (cut p0 (0 : Int) x2)) ++ [p1]).length + (cut p0 x2 (p0.length : Int)).length ≤ 100000000000 then (some (((([] : List Made) ++ (cut p0 (0 : Int) x2)) ++ [p1]) ++ (cut p0 x2 (p0.length : Int)))) else none) else none) else none) else none) else none).bind fun x4 => some x4)
def ref07_made.l3 : Nat → (List Made) → Int → Int → Piece → Int → Int → Int → Option (List Made)
  | 0, _, _, _, _, _, _, _ => none
  | k + 1, l6, x8, p0, p1, x2, x4, x5 => if (decide (x8 ≤ w64 (p1.Factor.Num * (w64 ((w64 (x2 + x4)) + 2))))) = true then ((ref07_possible p1 x2 x4 x5 x8).bind fun t9 => (if t9 = true then ((ref07_put k l6 (Made.mk p0 x4 (w64 (x8 - x5)) (w64 ((w64 (p1.Factor.Num * x2)) - (w64 (x5 * p1.Factor.Den)))) (w64 ((w64 (p1.Factor.Num * (w64 (x2 + x4)))) - (w64 (x8 * p1.Factor.Den)))))).bind fun t11 => some t11) else (some l6)).bind fun x10 => ref07_made.l3 k x10 (w64 (x8 + 1)) p0 p1 x2 x4 x5) else (some l6)
def ref07_made.l2 : Nat → (List Made) → Int → Int → Piece → Int → Int → Option (List Made)
  | 0, _, _, _, _, _, _ => none
  | k + 1, l6, x8, p0, p1, x4, x5 => if (decide (x8 < p1.Factor.Num)) = true then ((ref07_made.l3 k l6 0 p0 p1 x4 x5 x8).bind fun x9 => ref07_made.l2 k x9 (w64 (x8 + 1)) p0 p1 x4 x5) else (some l6)
def ref07_made.l1 : Nat → (List Made) → Int → Int → Piece → Int → Option (List Made)
  | 0, _, _, _, _, _ => none
  | k + 1, l4, x5, p0, p1, x3 => if (decide (x5 ≤ 12)) = true then ((ref07_made.l2 k l4 0 p0 p1 x3 x5).bind fun x6 => ref07_made.l1 k x6 (w64 (x5 + 1)) p0 p1 x3) else (some l4)
def ref07_made.l0 : Nat → (List Made) → Int → Int → Piece → Option (List Made)
  | 0, _, _, _, _ => none
  | k + 1, l2, x3, p0, p1 => if (decide (x3 < p1.Factor.Den)) = true then ((ref07_made.l1 k l2 0 p0 p1 x3).bind fun x4 => ref07_made.l0 k x4 (w64 (x3 + 1)) p0 p1) else (some l2)
def ref07_made (k : Nat) (p0 : Int) (p1 : Piece) : Option (List Made) := (ref07_made.l0 k ([] : List Made) 0 p0 p1).bind fun x2 => some x2
def ref07_All.l0 : Nat → (List Made) → Int → (List Piece) → Option (List Made)
  | 0, _, _, _ => none
  | k + 1, l1, x2, p0 => if (decide (x2 < (p0.length : Int))) = true then (if 0 ≤ x2 ∧ x2 < (p0.length : Int) then ((ref07_made k x2 (rdD p0 x2 z_Piece)).bind fun t3 => if l1.length + t3.length ≤ 100000000000 then (ref07_All.l0 k (l1 ++ t3) (w64 (x2 + 1)) p0) else none) else none) else (some l1)
def ref07_All (k : Nat) (p0 : List Piece) : Option (List Made) := (ref07_All.l0 k ([] : List Made) 0 p0).bind fun x1 => some x1
def ref07_add.l0 : Nat → Int → (List Colour) → Colour → Option Int
  | 0, _, _, _ => none
  | k + 1, x2, p0, p1 => (if (decide (x2 < (p0.length : Int))) = true then (if (decide ((rdD p0 x2 z_Colour).Piece < p1.Piece)) = true then (if 0 ≤ x2 ∧ x2 < (p0.length : Int) then (some true) else none) else (if (((rdD p0 x2 z_Colour).Piece) == p1.Piece) = true then (if 0 ≤ x2 ∧ x2 < (p0.length : Int) then (some (decide ((rdD p0 x2 z_Colour).Carry < p1.Carry))) else none) else (if 0 ≤ x2 ∧ x2 < (p0.length : Int) then (some false) else none))) else (some false)).bind fun x3 => if x3 = true then (ref07_add.l0 k (w64 (x2 + 1)) p0 p1) else (some x2)
def ref07_add (k : Nat) (p0 : List Colour) (p1 : Colour) : Option (List Colour) := (ref07_add.l0 k 0 p0 p1).bind fun x2 => (if (decide (x2 < (p0.length : Int))) = true then (if 0 ≤ x2 ∧ x2 < (p0.length : Int) then (some (((rdD p0 x2 z_Colour).Piece) == p1.Piece && (((rdD p0 x2 z_Colour).Carry) == p1.Carry))) else none) else (some false)).bind fun x3 => if x3 = true then (some p0) else ((if 0 ≤ (0 : Int) ∧ (0 : Int) ≤ x2 ∧ x2 ≤ (p0.length : Int) then (if 0 ≤ x2 ∧ x2 ≤ (p0.length : Int) ∧ (p0.length : Int) ≤ (p0.length : Int) then (if ([] : List Colour).length + (cut p0 (0 : Int) x2).length ≤ 100000000000 then (if (([] : List Colour) ++ (cut p0 (0 : Int) x2)).length + [p1].length ≤ 100000000000 then (if ((([] : List Colour) ++ (cut p0 (0 : Int) x2)) ++ [p1]).length + (cut p0 x2 (p0.length : Int)).length ≤ 100000000000 then (some (((([] : List Colour) ++ (cut p0 (0 : Int) x2)) ++ [p1]) ++ (cut p0 x2 (p0.length : Int)))) else none) else none) else none) else none) else none).bind fun x4 => some x4)
def ref07_Colours.l0 : Nat → (List Colour) → Int → (List Made) → Option (List Colour)
  | 0, _, _, _ => none
  | k + 1, l1, x2, p0 => if (decide (x2 < (p0.length : Int))) = true then (if 0 ≤ x2 ∧ x2 < (p0.length : Int) then ((ref07_add k l1 (Colour.mk ((rdD p0 x2 z_Made).Piece) ((rdD p0 x2 z_Made).W))).bind fun t3 => (ref07_add k t3 (Colour.mk ((rdD p0 x2 z_Made).Piece) ((rdD p0 x2 z_Made).E))).bind fun t4 => ref07_Colours.l0 k t4 (w64 (x2 + 1)) p0) else none) else (some l1)
def ref07_Colours (k : Nat) (p0 : List Made) : Option (List Colour) := (ref07_Colours.l0 k ([] : List Colour) 0 p0).bind fun x1 => some x1
def ref07_place.l0 : Nat → Int → (List Colour) → Colour → Option (Sum Int Unit)
  | 0, _, _, _ => none
  | k + 1, x2, p0, p1 => if (decide (x2 < (p0.length : Int))) = true then (if 0 ≤ x2 ∧ x2 < (p0.length : Int) then (if (((rdD p0 x2 z_Colour).Piece) == p1.Piece && (((rdD p0 x2 z_Colour).Carry) == p1.Carry)) = true then (some (.inl x2)) else (ref07_place.l0 k (w64 (x2 + 1)) p0 p1)) else none) else (some (.inr ()))
def ref07_place (k : Nat) (p0 : List Colour) (p1 : Colour) : Option Int := (ref07_place.l0 k 0 p0 p1).bind fun x2 => sumb x2 (fun r => some r) (fun y3 => some (-1))
def ref07_Tiles.l0 : Nat → (List Tile) → Int → (List Made) → (List Colour) → Option (List Tile)
  | 0, _, _, _, _ => none
  | k + 1, l3, x4, t1, t2 => if (decide (x4 < (t1.length : Int))) = true then (if 0 ≤ x4 ∧ x4 < (t1.length : Int) then ((ref07_place k t2 (Colour.mk ((rdD t1 x4 z_Made).Piece) ((rdD t1 x4 z_Made).W))).bind fun t5 => (ref07_place k t2 (Colour.mk ((rdD t1 x4 z_Made).Piece) ((rdD t1 x4 z_Made).E))).bind fun t6 => if l3.length + [(Tile.mk ((rdD t1 x4 z_Made).N) t6 ((rdD t1 x4 z_Made).S) t5)].length ≤ 100000000000 then (ref07_Tiles.l0 k (l3 ++ [(Tile.mk ((rdD t1 x4 z_Made).N) t6 ((rdD t1 x4 z_Made).S) t5)]) (w64 (x4 + 1)) t1 t2) else none) else none) else (some l3)
def ref07_Tiles (k : Nat) (p0 : List Piece) : Option (List Tile) := (ref07_All k p0).bind fun t1 => (ref07_Colours k t1).bind fun t2 => (ref07_Tiles.l0 k ([] : List Tile) 0 t1 t2).bind fun x3 => some x3
def ref01_colour (p0 : Int) : Option Bool := some ((decide (p0 ≥ 0)) && (decide (p0 < 1000)))
def ref01_Index.l0 : Nat → Int → (List Tile) → Tile → Option (Sum Int Unit)
  | 0, _, _, _ => none
  | k + 1, x2, p0, p1 => if (decide (x2 < (p0.length : Int))) = true then (if 0 ≤ x2 ∧ x2 < (p0.length : Int) then (if (((rdD p0 x2 z_Tile).N) == p1.N && (((rdD p0 x2 z_Tile).E) == p1.E && (((rdD p0 x2 z_Tile).S) == p1.S && (((rdD p0 x2 z_Tile).W) == p1.W)))) = true then (some (.inl x2)) else (ref01_Index.l0 k (w64 (x2 + 1)) p0 p1)) else none) else (some (.inr ()))
def ref01_Index (k : Nat) (p0 : List Tile) (p1 : Tile) : Option Int := (ref01_Index.l0 k 0 p0 p1).bind fun x2 => sumb x2 (fun r => some r) (fun y3 => some (-1))
def ref01_Valid.l0 : Nat → Int → (List Tile) → Option (Sum Bool Unit)
  | 0, _, _ => none
  | k + 1, x2, p0 => if (decide (x2 < (p0.length : Int))) = true then (if 0 ≤ x2 ∧ x2 < (p0.length : Int) then ((ref01_colour ((rdD p0 x2 z_Tile).N)).bind fun t3 => (if (!t3) = true then (some true) else ((ref01_colour ((rdD p0 x2 z_Tile).E)).bind fun t5 => some (!t5))).bind fun x4 => (if x4 = true then (some true) else ((ref01_colour ((rdD p0 x2 z_Tile).S)).bind fun t7 => some (!t7))).bind fun x6 => (if x6 = true then (some true) else ((ref01_colour ((rdD p0 x2 z_Tile).W)).bind fun t9 => some (!t9))).bind fun x8 => (if x8 = true then (some true) else (if 0 ≤ (0 : Int) ∧ (0 : Int) ≤ x2 ∧ x2 ≤ (p0.length : Int) then ((ref01_Index k (cut p0 (0 : Int) x2) (rdD p0 x2 z_Tile)).bind fun t11 => some (decide (t11 ≥ 0))) else none)).bind fun x10 => if x10 = true then (some (.inl false)) else (ref01_Valid.l0 k (w64 (x2 + 1)) p0)) else none) else (some (.inr ()))
def ref01_Valid (k : Nat) (p0 : List Tile) : Option Bool := if (decide ((p0.length : Int) > 1000)) = true then (some false) else ((ref01_Valid.l0 k 0 p0).bind fun x2 => sumb x2 (fun r => some r) (fun y3 => some true))
def ref07_primes.l1 : Nat → Bool → Int → Int → Option Bool
  | 0, _, _, _ => none
  | k + 1, b3, x4, x2 => if (decide (x4 < x2)) = true then ((if b3 = true then (if x4 ≠ 0 then (some ((Int.tmod x2 x4) != 0)) else none) else (some false)).bind fun b5 => ref07_primes.l1 k b5 (w64 (x4 + 1)) x2) else (some b3)
def ref07_primes.l2 : Nat → Bool → Int → (List Piece) → Int → Option Bool
  | 0, _, _, _, _ => none
  | k + 1, b3, x4, p0, x1 => if (decide (x4 < (p0.length : Int))) = true then ((if b3 = true then (some true) else (if 0 ≤ x4 ∧ x4 < (p0.length : Int) then (if x1 ≠ 0 then (some ((Int.tmod (((rdD p0 x4 z_Piece).Factor).Num) x1) == 0)) else none) else none)).bind fun b5 => (if b5 = true then (some true) else (if 0 ≤ x4 ∧ x4 < (p0.length : Int) then (if x1 ≠ 0 then (some ((Int.tmod (((rdD p0 x4 z_Piece).Factor).Den) x1) == 0)) else none) else none)).bind fun b6 => ref07_primes.l2 k b6 (w64 (x4 + 1)) p0 x1) else (some b3)
def ref07_primes.l0 : Nat → (List Int) → Int → (List Piece) → Option (List Int)
  | 0, _, _, _ => none
  | k + 1, l3, x4, p0 => if (decide (x4 ≤ 12)) = true then ((ref07_primes.l1 k true 2 x4).bind fun x5 => (ref07_primes.l2 k false 0 p0 x4).bind fun x6 => (if (x5 && x6) = true then (if l3.length + [x4].length ≤ 100000000000 then (some (l3 ++ [x4])) else none) else (some l3)).bind fun x8 => ref07_primes.l0 k x8 (w64 (x4 + 1)) p0) else (some l3)
def ref07_primes (k : Nat) (p0 : List Piece) : Option (List Int) := (ref07_primes.l0 k ([] : List Int) 2 p0).bind fun x1 => some x1
def ref07_exponent.l0 : Nat → Int → Int → Int → Option Int
  | 0, _, _, _ => none
  | k + 1, x2, x3, p1 => if p1 ≠ 0 then (if ((Int.tmod x2 p1) == 0) = true then (ref07_exponent.l0 k (w64 (Int.tdiv x2 p1)) (w64 (x3 + 1)) p1) else (some x3)) else none
def ref07_exponent (k : Nat) (p0 : Int) (p1 : Int) : Option Int := (ref07_exponent.l0 k p0 0 p1).bind fun x2 => some x2
def ref07_rises.l1 : Nat → Int → Int → (List Piece) → (List Int) → (List Int) → Int → Option Int
  | 0, _, _, _, _, _, _ => none
  | k + 1, x4, x5, p0, p1, p2, x3 => if (decide (x5 < (p1.length : Int))) = true then (if 0 ≤ x5 ∧ x5 < (p2.length : Int) then (if 0 ≤ x3 ∧ x3 < (p0.length : Int) then (if 0 ≤ x5 ∧ x5 < (p1.length : Int) then ((ref07_exponent k (((rdD p0 x3 z_Piece).Factor).Num) (rdD p1 x5 0)).bind fun t6 => (ref07_exponent k (((rdD p0 x3 z_Piece).Factor).Den) (rdD p1 x5 0)).bind fun t8 => ref07_rises.l1 k (w64 (x4 + (w64 ((rdD p2 x5 0) * (w64 (t6 - t8)))))) (w64 (x5 + 1)) p0 p1 p2 x3) else none) else none) else none) else (some x4)
def ref07_rises.l0 : Nat → Int → (List Piece) → (List Int) → (List Int) → Option (Sum Bool Unit)
  | 0, _, _, _, _ => none
  | k + 1, x3, p0, p1, p2 => if (decide (x3 < (p0.length : Int))) = true then ((ref07_rises.l1 k 0 0 p0 p1 p2 x3).bind fun x4 => if (decide (x4 ≤ 0)) = true then (some (.inl false)) else (ref07_rises.l0 k (w64 (x3 + 1)) p0 p1 p2)) else (some (.inr ()))
def ref07_rises (k : Nat) (p0 : List Piece) (p1 : List Int) (p2 : List Int) : Option Bool := (ref07_rises.l0 k 0 p0 p1 p2).bind fun x3 => sumb x3 (fun r => some r) (fun y4 => some true)
def ref07_logs.l0 : Nat → Int → (List Piece) → (List Int) → (List Int) → ((List Piece) → (List Int) → (List Int) → Option ((List Int) × Bool)) → Option (Sum ((List Int) × Bool) Unit)
  | 0, _, _, _, _, _ => none
  | k + 1, x3, p0, p1, p2, rc_ => if (decide (x3 ≤ 3)) = true then (if ([] : List Int).length + p2.length ≤ 100000000000 then (if (([] : List Int) ++ p2).length + [x3].length ≤ 100000000000 then ((rc_ p0 p1 ((([] : List Int) ++ p2) ++ [x3])).bind fun t4 => if t4.2 = true then (some (.inl (t4.1, true))) else (ref07_logs.l0 k (w64 (x3 + 1)) p0 p1 p2 rc_)) else none) else none) else (some (.inr ()))
def ref07_logs : Nat → (List Piece) → (List Int) → (List Int) → Option ((List Int) × Bool)
  | 0, _, _, _ => none
  | k + 1, p0, p1, p2 => if ((p2.length : Int) == (p1.length : Int)) = true then ((ref07_rises k p0 p1 p2).bind fun t3 => some (p2, t3)) else ((ref07_logs.l0 k (-3) p0 p1 p2 (ref07_logs k)).bind fun x4 => sumb x4 (fun r => some r) (fun y5 => some (([] : List Int), false)))
def ref07_lowest (k : Nat) (p0 : Int) (p1 : Int) : Option Frac := (if (decide (p0 < 0)) = true then (some (w64 (0 - p0))) else (some p0)).bind fun x2 => (ref07_gcd k (IntKind.wrap .u64 (x2)) (IntKind.wrap .u64 (p1))).bind fun t3 => if (w64 (t3)) ≠ 0 then (some (Frac.mk (w64 (Int.tdiv p0 (w64 (t3)))) (w64 (Int.tdiv p1 (w64 (t3)))))) else none
def ref07_Weigh.l0 : Nat → (List Frac) → Int → Int → (List Piece) → (List Made) → Option ((List Frac) × Int)
  | 0, _, _, _, _, _ => none
  | k + 1, l2, x3, x4, p0, t1 => if (decide (x4 < (t1.length : Int))) = true then (if 0 ≤ x4 ∧ x4 < (t1.length : Int) then (if 0 ≤ (rdD t1 x4 z_Made).Piece ∧ (rdD t1 x4 z_Made).Piece < (p0.length : Int) then (if l2.length + [((rdD p0 ((rdD t1 x4 z_Made).Piece) z_Piece).Factor)].length ≤ 100000000000 then (ref07_Weigh.l0 k (l2 ++ [((rdD p0 ((rdD t1 x4 z_Made).Piece) z_Piece).Factor)]) (maxI (maxI x3 ((rdD t1 x4 z_Made).N)) ((rdD t1 x4 z_Made).S)) (w64 (x4 + 1)) p0 t1) else none) else none) else none) else (some (l2, x3))
def ref07_Weigh.l1 : Nat → (List Frac) → Int → ((List Frac) × Int) → Option (List Frac)
  | 0, _, _, _ => none
  | k + 1, l3, x4, x2 => if (decide (x4 ≤ x2.2)) = true then (if l3.length + [(Frac.mk x4 1)].length ≤ 100000000000 then (ref07_Weigh.l1 k (l3 ++ [(Frac.mk x4 1)]) (w64 (x4 + 1)) x2) else none) else (some l3)
def ref07_Weigh.l2 : Nat → (List Frac) → Int → (List Piece) → (List Colour) → Option (List Frac)
  | 0, _, _, _, _ => none
  | k + 1, l3, x4, p0, t1 => if (decide (x4 < (t1.length : Int))) = true then (if 0 ≤ x4 ∧ x4 < (t1.length : Int) then (if 0 ≤ (rdD t1 x4 z_Colour).Piece ∧ (rdD t1 x4 z_Colour).Piece < (p0.length : Int) then ((ref07_lowest k ((rdD t1 x4 z_Colour).Carry) (((rdD p0 ((rdD t1 x4 z_Colour).Piece) z_Piece).Factor).Den)).bind fun t5 => if l3.length + [t5].length ≤ 100000000000 then (ref07_Weigh.l2 k (l3 ++ [t5]) (w64 (x4 + 1)) p0 t1) else none) else none) else none) else (some l3)
def ref07_Weigh (k : Nat) (p0 : List Piece) : Option (Weights × Bool) := (ref07_primes k p0).bind fun t3 => (ref07_logs k p0 t3 ([] : List Int)).bind fun t4 => if (!t4.2) = true then (some ((Weights.mk ([] : List Frac) ([] : List Frac) ([] : List Frac) ([] : List Int) ([] : List Int)), false)) else ((ref07_All k p0).bind fun t5 => (ref07_Colours k t5).bind fun t6 => (ref07_Weigh.l0 k ([] : List Frac) 0 0 p0 t5).bind fun x8 => (ref07_Weigh.l1 k ([] : List Frac) 0 x8).bind fun x9 => (ref07_Weigh.l2 k ([] : List Frac) 0 p0 t6).bind fun x10 => some ((Weights.mk x9 x10 x8.1 t3 t4.1), true))
def law07_BeattyWeighs (k : Nat) (p0 : List Piece) : Option Bool := if (decide ((p0.length : Int) > 100)) = true then ((law07_awake k).bind fun t2 => some t2) else ((beatty_Weigh k p0).bind fun t3 => (ref07_SameWeights k t3.1 (Weights.mk ([] : List Frac) ([] : List Frac) ([] : List Frac) ([] : List Int) ([] : List Int))).bind fun t4 => (ref07_Valid k p0).bind fun t5 => if (!t5) = true then ((if ((t3.2 == 1) && t4) = true then ((law07_awake k).bind fun t8 => some t8) else (some false)).bind fun x6 => some x6) else ((ref07_Tiles k p0).bind fun t9 => (ref01_Valid k t9).bind fun t10 => if (!t10) = true then ((if ((t3.2 == 4) && t4) = true then ((law07_awake k).bind fun t12 => some t12) else (some false)).bind fun x11 => some x11) else ((ref07_Weigh k p0).bind fun t13 => if (!t13.2) = true then ((if ((t3.2 == 6) && t4) = true then ((law07_awake k).bind fun t15 => some t15) else (some false)).bind fun x14 => some x14) else ((if (t3.2 == 0) = true then ((ref07_SameWeights k t3.1 t13.1).bind fun t17 => some t17) else (some false)).bind fun x16 => (if x16 = true then ((law07_awake k).bind fun t19 => some t19) else (some false)).bind fun x18 => some x18))))
end Gp
namespace Gp
open Go Gw Go.Proofs Go.RowKit
def ok_Frac (a : Frac) : Prop := (ok64 a.Num) ∧ (ok64 a.Den)
theorem opn_Frac_44 {H : Type} {enc : TypeId × Value → H} {w : World} {base : Nat} {spare : Nat → Bool} {held : Bool} {fuel : Nat} {cs : List Value} {x : DataW H × List MemPlace} (h : DataW.trod enc Tryz.prog w base spare held fuel 44 cs = some x) : ∃ (a : Frac), cs = [.int .i64 a.Num, .int .i64 a.Den] ∧ ok_Frac a := by
  obtain ⟨hl, n, hf⟩ := opn_fields Tryz.underlying44 h
  have hl0 : cs.length = 2 := hl.trans (by kernel_rfl)
  obtain ⟨q0, r0, rfl, hl1⟩ := cons_of hl0
  obtain ⟨q1, r1, rfl, hl2⟩ := cons_of hl1
  obtain rfl := List.eq_nil_of_length_eq_zero hl2
  obtain ⟨y0, h0⟩ := hf 0 _ 1 rfl (by kernel_rfl)
  have h0 : DataW.trod enc Tryz.prog w base spare held n 3 [q0] = some y0 := h0
  obtain ⟨a0, e0, w0⟩ := opn_int Tryz.underlying3 h0
  injection e0 with f0 e0
  subst f0
  obtain ⟨y1, h1⟩ := hf 1 _ 1 rfl (by kernel_rfl)
  have h1 : DataW.trod enc Tryz.prog w base spare held n 3 [q1] = some y1 := h1
  obtain ⟨a1, e1, w1⟩ := opn_int Tryz.underlying3 h1
  injection e1 with f1 e1
  subst f1
  exact ⟨⟨a0, a1⟩, rfl, ⟨wf64 w0, wf64 w1⟩⟩
theorem opens_Frac_44 : Opens Tryz.prog 44 enc_Frac ok_Frac := ⟨by kernel_rfl, by decide, fun h => opn_Frac_44 h⟩
def ok_Piece (a : Piece) : Prop := (ok_Frac a.Factor) ∧ (ok_Frac a.Low) ∧ (ok_Frac a.High)
theorem opn_Piece_66 {H : Type} {enc : TypeId × Value → H} {w : World} {base : Nat} {spare : Nat → Bool} {held : Bool} {fuel : Nat} {cs : List Value} {x : DataW H × List MemPlace} (h : DataW.trod enc Tryz.prog w base spare held fuel 66 cs = some x) : ∃ (a : Piece), cs = [.int .i64 a.Factor.Num, .int .i64 a.Factor.Den, .int .i64 a.Low.Num, .int .i64 a.Low.Den, .int .i64 a.High.Num, .int .i64 a.High.Den] ∧ ok_Piece a := by
  obtain ⟨hl, n, hf⟩ := opn_fields Tryz.underlying66 h
  have hl0 : cs.length = 6 := hl.trans (by kernel_rfl)
  obtain ⟨q0, r0, rfl, hl1⟩ := cons_of hl0
  obtain ⟨q1, r1, rfl, hl2⟩ := cons_of hl1
  obtain ⟨q2, r2, rfl, hl3⟩ := cons_of hl2
  obtain ⟨q3, r3, rfl, hl4⟩ := cons_of hl3
  obtain ⟨q4, r4, rfl, hl5⟩ := cons_of hl4
  obtain ⟨q5, r5, rfl, hl6⟩ := cons_of hl5
  obtain rfl := List.eq_nil_of_length_eq_zero hl6
  obtain ⟨y0, h0⟩ := hf 0 _ 2 rfl (by kernel_rfl)
  have h0 : DataW.trod enc Tryz.prog w base spare held n 44 [q0, q1] = some y0 := h0
  obtain ⟨a0, e0, w0⟩ := opn_Frac_44 h0
  injection e0 with f0 e0
  subst f0
  injection e0 with f1 e0
  subst f1
  obtain ⟨y1, h1⟩ := hf 1 _ 2 rfl (by kernel_rfl)
  have h1 : DataW.trod enc Tryz.prog w base spare held n 44 [q2, q3] = some y1 := h1
  obtain ⟨a1, e1, w1⟩ := opn_Frac_44 h1
  injection e1 with f2 e1
  subst f2
  injection e1 with f3 e1
  subst f3
  obtain ⟨y2, h2⟩ := hf 2 _ 2 rfl (by kernel_rfl)
  have h2 : DataW.trod enc Tryz.prog w base spare held n 44 [q4, q5] = some y2 := h2
  obtain ⟨a2, e2, w2⟩ := opn_Frac_44 h2
  injection e2 with f4 e2
  subst f4
  injection e2 with f5 e2
  subst f5
  exact ⟨⟨a0, a1, a2⟩, rfl, ⟨w0, w1, w2⟩⟩
theorem opens_Piece_66 : Opens Tryz.prog 66 enc_Piece ok_Piece := ⟨by kernel_rfl, by decide, fun h => opn_Piece_66 h⟩
end Gp
