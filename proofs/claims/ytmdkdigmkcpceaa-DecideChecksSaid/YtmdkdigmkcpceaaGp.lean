/- The functions that the law reaches, as plain functions; how what comes in is opened. -/
import Derived.Test.YtmdkdigmkcpceaaGb
set_option linter.unusedVariables false
set_option linter.unusedSimpArgs false
set_option maxHeartbeats 4000000
namespace Gp
open Go Gw
abbrev iv (n : Int) : Value := .int .i64 n
abbrev pt (g : Nat) : Value := .pointer (some ⟨g, 0, none⟩)
structure Tile where
  N : Int
  E : Int
  S : Int
  W : Int
  deriving DecidableEq
def z_Tile : Tile := ⟨0, 0, 0, 0⟩
def ints_Tile (x : Tile) : List Int := [x.N, x.E, x.S, x.W]
def enc_Tile : Enc Tile := ⟨4, fun x => [(.int .i64 x.N), (.int .i64 x.E), (.int .i64 x.S), (.int .i64 x.W)], fun _ => rfl, fun x u h => by simp at h; rcases h with rfl | rfl | rfl | rfl <;> rfl⟩
structure Pattern where
  Width : Int
  Height : Int
  Cells : List Int
  deriving DecidableEq
def z_Pattern : Pattern := ⟨0, 0, []⟩
def encN_Pattern : Enc (HF × Pattern) := ⟨3, fun x => [(.int .i64 x.2.Width), (.int .i64 x.2.Height), (.slice (x.1 0).1 x.2.Cells.length (x.1 0).2)], fun _ => rfl, fun x u h => by simp at h; rcases h with rfl | rfl | rfl <;> rfl⟩
def subN_Pattern (h : HF) (x : Pattern) : Own := rowR encInt (h 0).1 (h 0).2 x.Cells
structure Verdict where
  Fills : Bool
  Torus : Pattern
  Side : Int
  deriving DecidableEq
def z_Verdict : Verdict := ⟨false, z_Pattern, 0⟩
structure Edges where
  North : List Int
  East : List Int
  South : List Int
  West : List Int
  deriving DecidableEq
def z_Edges : Edges := ⟨[], [], [], []⟩
structure A8_Int where
  e0 : Int
  e1 : Int
  e2 : Int
  e3 : Int
  e4 : Int
  e5 : Int
  e6 : Int
  e7 : Int
  deriving DecidableEq
def z_A8_Int : A8_Int := ⟨0, 0, 0, 0, 0, 0, 0, 0⟩
def A8_Int.get (a : A8_Int) (i : Int) : Int := if i = 0 then a.e0 else if i = 1 then a.e1 else if i = 2 then a.e2 else if i = 3 then a.e3 else if i = 4 then a.e4 else if i = 5 then a.e5 else if i = 6 then a.e6 else a.e7
def A8_Int.set (a : A8_Int) (i v : Int) : A8_Int := ⟨if i = 0 then v else a.e0, if i = 1 then v else a.e1, if i = 2 then v else a.e2, if i = 3 then v else a.e3, if i = 4 then v else a.e4, if i = 5 then v else a.e5, if i = 6 then v else a.e6, if i = 7 then v else a.e7⟩
def ints_A8_Int (x : A8_Int) : List Int := [x.e0, x.e1, x.e2, x.e3, x.e4, x.e5, x.e6, x.e7]
def enc_A8_Int : Enc A8_Int := ⟨8, fun x => [(.int .i64 x.e0), (.int .i64 x.e1), (.int .i64 x.e2), (.int .i64 x.e3), (.int .i64 x.e4), (.int .i64 x.e5), (.int .i64 x.e6), (.int .i64 x.e7)], fun _ => rfl, fun x u h => by simp at h; rcases h with rfl | rfl | rfl | rfl | rfl | rfl | rfl | rfl <;> rfl⟩
structure Row where
  Cells : List Int
  South : A8_Int
  North : A8_Int
  West : Int
  East : Int
  deriving DecidableEq
def z_Row : Row := ⟨[], z_A8_Int, z_A8_Int, 0, 0⟩
def encN_Row : Enc (HF × Row) := ⟨19, fun x => [(.slice (x.1 0).1 x.2.Cells.length (x.1 0).2), (.int .i64 x.2.South.e0), (.int .i64 x.2.South.e1), (.int .i64 x.2.South.e2), (.int .i64 x.2.South.e3), (.int .i64 x.2.South.e4), (.int .i64 x.2.South.e5), (.int .i64 x.2.South.e6), (.int .i64 x.2.South.e7), (.int .i64 x.2.North.e0), (.int .i64 x.2.North.e1), (.int .i64 x.2.North.e2), (.int .i64 x.2.North.e3), (.int .i64 x.2.North.e4), (.int .i64 x.2.North.e5), (.int .i64 x.2.North.e6), (.int .i64 x.2.North.e7), (.int .i64 x.2.West), (.int .i64 x.2.East)], fun _ => rfl, fun x u h => by simp at h; rcases h with rfl | rfl | rfl | rfl | rfl | rfl | rfl | rfl | rfl | rfl | rfl | rfl | rfl | rfl | rfl | rfl | rfl | rfl | rfl <;> rfl⟩
def subN_Row (h : HF) (x : Row) : Own := rowR encInt (h 0).1 (h 0).2 x.Cells
structure Job where
  rows : List Row
  width : Int
  height : Int
  edges : Edges
  deriving DecidableEq
def z_Job : Job := ⟨[], 0, 0, z_Edges⟩
structure S108 where
  side : List Int
  n : Int
  deriving DecidableEq
def z_S108 : S108 := ⟨[], 0⟩
def encN_S108 : Enc (HF × S108) := ⟨2, fun x => [(.slice (x.1 0).1 x.2.side.length (x.1 0).2), (.int .i64 x.2.n)], fun _ => rfl, fun x u h => by simp at h; rcases h with rfl | rfl <;> rfl⟩
def subN_S108 (h : HF) (x : S108) : Own := rowR encInt (h 0).1 (h 0).2 x.side
def tile_colour_1 (p0 : Int) : Option Bool := some ((decide (p0 < 0)) || (decide (p0 ≥ 1000)))
def slices_IndexFunc_int_int_with_tile_colour_1.l0 : Nat → Int → (List Int) → Option (Sum Int Unit)
  | 0, _, _ => none
  | k + 1, x69, p0 => if (decide (x69 < (p0.length : Int))) = true then (if 0 ≤ x69 ∧ x69 < (p0.length : Int) then ((tile_colour_1 (rdD p0 x69 0)).bind fun t78 => if t78 = true then (some (.inl x69)) else (slices_IndexFunc_int_int_with_tile_colour_1.l0 k (w64 (x69 + 1)) p0)) else none) else (some (.inr ()))
def slices_IndexFunc_int_int_with_tile_colour_1 (k : Nat) (p0 : List Int) : Option Int := (slices_IndexFunc_int_int_with_tile_colour_1.l0 k 0 p0).bind fun x70 => sumb x70 (fun r => some r) (fun y87 => some (-1))
def slices_ContainsFunc_int_int_with_tile_colour_1 (k : Nat) (p0 : List Int) : Option Bool := (slices_IndexFunc_int_int_with_tile_colour_1 k p0).bind fun t89 => some (decide (t89 ≥ 0))
def tile_colour (k : Nat) (p0 : List Int) : Option Bool := (slices_ContainsFunc_int_int_with_tile_colour_1 k p0).bind fun t94 => some (!t94)
def tile_Valid.l0 : Nat → (List (Tile × Bool)) → Int → (List Tile) → Option (Sum Bool Unit)
  | 0, _, _, _ => none
  | k + 1, l168, x169, p0 => if (decide (x169 < (p0.length : Int))) = true then (if 0 ≤ x169 ∧ x169 < (p0.length : Int) then ((if (mget (rdD p0 x169 z_Tile) false l168) = true then (some true) else ((tile_colour k [(rdD p0 x169 z_Tile).N, (rdD p0 x169 z_Tile).E, (rdD p0 x169 z_Tile).S, (rdD p0 x169 z_Tile).W]).bind fun t203 => some (!t203))).bind fun x195 => if x195 = true then (some (.inl false)) else (tile_Valid.l0 k (mput (rdD p0 x169 z_Tile) true l168) (w64 (x169 + 1)) p0)) else none) else (some (.inr ()))
def tile_Valid (k : Nat) (p0 : List Tile) : Option Bool := if (decide ((p0.length : Int) > 1000)) = true then (some false) else ((tile_Valid.l0 k ([] : List (Tile × Bool)) 0 p0).bind fun x170 => sumb x170 (fun r => some r) (fun y219 => some true))
def decide_asks (k : Nat) (p0 : List Tile) : Option Int := (tile_Valid k p0).bind fun t221 => if (!t221) = true then (some 1) else (if (decide ((p0.length : Int) > 3)) = true then (some 2) else (some 0))
def decide_sides (p0 : List Tile) : Option Unit := some ()
def rows_Few.l0 : Nat → Int → Int → (List Tile) → Int → Option (Sum Bool Unit)
  | 0, _, _, _, _ => none
  | k + 1, x312, x313, p0, p1 => if (decide (x313 < p1)) = true then (if (decide (w64 (x312 * (maxI (p0.length : Int) 1)) > 5000)) = true then (some (.inl false)) else (rows_Few.l0 k (w64 (x312 * (maxI (p0.length : Int) 1))) (w64 (x313 + 1)) p0 p1)) else (some (.inr ()))
def rows_Few (k : Nat) (p0 : List Tile) (p1 : Int) : Option Bool := (rows_Few.l0 k 1 0 p0 p1).bind fun x314 => sumb x314 (fun r => some r) (fun y325 => some true)
def square_check (k : Nat) (p0 : List Tile) (p1 : Int) : Option Int := (tile_Valid k p0).bind fun t297 => if (!t297) = true then (some 1) else (if ((decide (p1 < 1)) || (decide (p1 > 8))) = true then (some 2) else ((rows_Few k p0 p1).bind fun t327 => if (!t327) = true then (some 4) else (some 0)))
def rows_rowOf.l0 : Nat → A8_Int → A8_Int → Int → (List Tile) → (List Int) → Option (A8_Int × A8_Int)
  | 0, _, _, _, _, _ => none
  | k + 1, a540, a541, x542, p0, p1 => if (decide (x542 < (p1.length : Int))) = true then (if 0 ≤ x542 ∧ x542 < (p1.length : Int) then (if 0 ≤ (rdD p1 x542 0) ∧ (rdD p1 x542 0) < (p0.length : Int) then (if 0 ≤ x542 ∧ x542 < (8 : Int) then (rows_rowOf.l0 k (A8_Int.set a540 x542 ((rdD p0 (rdD p1 x542 0) z_Tile).S)) (A8_Int.set a541 x542 ((rdD p0 (rdD p1 x542 0) z_Tile).N)) (w64 (x542 + 1)) p0 p1) else none) else none) else none) else (some (a540, a541))
def rows_rowOf (k : Nat) (p0 : List Tile) (p1 : List Int) : Option Row := if ([] : List Int).length + p1.length ≤ 100000000000 then ((rows_rowOf.l0 k (A8_Int.mk 0 0 0 0 0 0 0 0) (A8_Int.mk 0 0 0 0 0 0 0 0) 0 p0 p1).bind fun x545 => if 0 ≤ (0 : Int) ∧ (0 : Int) < (p1.length : Int) then (if 0 ≤ (rdD p1 (0 : Int) 0) ∧ (rdD p1 (0 : Int) 0) < (p0.length : Int) then (if 0 ≤ w64 ((p1.length : Int) - 1) ∧ w64 ((p1.length : Int) - 1) < (p1.length : Int) then (if 0 ≤ (rdD p1 (w64 ((p1.length : Int) - 1)) 0) ∧ (rdD p1 (w64 ((p1.length : Int) - 1)) 0) < (p0.length : Int) then (some (Row.mk (([] : List Int) ++ p1) x545.1 x545.2 ((rdD p0 (rdD p1 (0 : Int) 0) z_Tile).W) ((rdD p0 (rdD p1 (w64 ((p1.length : Int) - 1)) 0) z_Tile).E))) else none) else none) else none) else none) else none
def rows_All_1.l0 : Nat → (List Row) → (List Int) → Int → Int → Int → (List Tile) → (Int → Int → (List Row) → (List Tile) → (List Int) → Option ((List Row) × (List Int))) → Option ((List Row) × (List Int))
  | 0, _, _, _, _, _, _, _ => none
  | k + 1, l997, l1001, x1002, p0, f0, f2, rc_ => if (decide (x1002 < (f2.length : Int))) = true then (if 0 ≤ x1002 ∧ x1002 < (f2.length : Int) then ((if (p0 == 0) = true then (some true) else (if 0 ≤ w64 (p0 - 1) ∧ w64 (p0 - 1) < (l1001.length : Int) then (if 0 ≤ (rdD l1001 (w64 (p0 - 1)) 0) ∧ (rdD l1001 (w64 (p0 - 1)) 0) < (f2.length : Int) then (some (((rdD f2 (rdD l1001 (w64 (p0 - 1)) 0) z_Tile).E) == ((rdD f2 x1002 z_Tile).W))) else none) else none)).bind fun x1036 => (if x1036 = true then (if 0 ≤ p0 ∧ p0 < (l1001.length : Int) then ((rc_ (w64 (p0 + 1)) f0 l997 f2 (l1001.set (p0).toNat x1002)).bind fun t1082 => some (t1082.1, t1082.2)) else none) else (some (l997, l1001))).bind fun x1075 => rows_All_1.l0 k x1075.1 x1075.2 (w64 (x1002 + 1)) p0 f0 f2 rc_) else none) else (some (l997, l1001))
def rows_All_1 : Nat → Int → Int → (List Row) → (List Tile) → (List Int) → Option ((List Row) × (List Int))
  | 0, _, _, _, _, _ => none
  | k + 1, p0, f0, f1, f2, f3 => if (p0 == f0) = true then ((rows_rowOf k f2 f3).bind fun t807 => if f1.length + 1 ≤ 100000000000 then (some (f1 ++ [t807], f3)) else none) else ((rows_All_1.l0 k f1 f3 0 p0 f0 f2 (rows_All_1 k)).bind fun x1010 => some (x1010.1, x1010.2))
def rows_All (k : Nat) (p0 : List Tile) (p1 : Int) : Option (List Row) := if 0 ≤ p1 ∧ p1 ≤ 100000000000 then ((rows_All_1 k 0 p1 ([] : List Row) p0 (List.replicate p1.toNat (0 : Int))).bind fun t1102 => some t1102.1) else none
def fill_begin.l0 : Nat → Int → Int → Int → Edges → Option (Sum ((Option Job) × Int) Unit)
  | 0, _, _, _, _ => none
  | k + 1, x1184, p1, p2, p3 => if (decide (x1184 < ([(S108.mk p3.North p1), (S108.mk p3.South p1), (S108.mk p3.East p2), (S108.mk p3.West p2)].length : Int))) = true then (if 0 ≤ x1184 ∧ x1184 < ([(S108.mk p3.North p1), (S108.mk p3.South p1), (S108.mk p3.East p2), (S108.mk p3.West p2)].length : Int) then (if (((((rdD [(S108.mk p3.North p1), (S108.mk p3.South p1), (S108.mk p3.East p2), (S108.mk p3.West p2)] x1184 z_S108).side).length : Int) != 0) && ((((rdD [(S108.mk p3.North p1), (S108.mk p3.South p1), (S108.mk p3.East p2), (S108.mk p3.West p2)] x1184 z_S108).side).length : Int) != ((rdD [(S108.mk p3.North p1), (S108.mk p3.South p1), (S108.mk p3.East p2), (S108.mk p3.West p2)] x1184 z_S108).n))) = true then (some (.inl (none, 2))) else (fill_begin.l0 k (w64 (x1184 + 1)) p1 p2 p3)) else none) else (some (.inr ()))
def fill_begin (k : Nat) (p0 : List Tile) (p1 : Int) (p2 : Int) (p3 : Edges) : Option ((Option Job) × Int) := (tile_Valid k p0).bind fun t1142 => if (!t1142) = true then (some (none, 1)) else (if ((((decide (p1 < 1)) || (decide (p1 > 8))) || (decide (p2 < 1))) || (decide (p2 > 60))) = true then (some (none, 2)) else ((fill_begin.l0 k 0 p1 p2 p3).bind fun x1185 => sumb x1185 (fun r => some r) (fun y1205 => (rows_Few k p0 p1).bind fun t1207 => if (!t1207) = true then (some (none, 4)) else ((rows_All k p0 p1).bind fun t1227 => some ((some (Job.mk t1227 p1 p2 p3)), 0)))))
def fill_at (p0 : List Int) (p1 : Int) (p2 : Int) : Option Bool := (if ((p0.length : Int) == 0) = true then (some true) else (if 0 ≤ p1 ∧ p1 < (p0.length : Int) then (some ((rdD p0 p1 0) == p2)) else none)).bind fun b1341 => some b1341
def fill_job_allows.l0 : Nat → Int → Job → Row → Int → Option (Sum Bool Unit)
  | 0, _, _, _, _ => none
  | k + 1, x1931, p0, p1, p2 => if (decide (x1931 < p0.width)) = true then ((if (p2 == 0) = true then (if (p2 == (w64 (p0.height - 1))) = true then (if 0 ≤ x1931 ∧ x1931 < (8 : Int) then ((fill_at p0.edges.South x1931 (A8_Int.get p1.South x1931)).bind fun t2113 => (if (!t2113) = true then (some true) else ((fill_at p0.edges.North x1931 (A8_Int.get p1.North x1931)).bind fun t2127 => some (!t2127))).bind fun x2124 => some x2124) else none) else (if 0 ≤ x1931 ∧ x1931 < (8 : Int) then ((fill_at p0.edges.South x1931 (A8_Int.get p1.South x1931)).bind fun t2173 => some (!t2173)) else none)) else (if (p2 == (w64 (p0.height - 1))) = true then (if 0 ≤ x1931 ∧ x1931 < (8 : Int) then ((fill_at p0.edges.North x1931 (A8_Int.get p1.North x1931)).bind fun t2197 => some (!t2197)) else none) else (some false))).bind fun x2074 => if x2074 = true then (some (.inl false)) else (fill_job_allows.l0 k (w64 (x1931 + 1)) p0 p1 p2)) else (some (.inr ()))
def fill_job_allows (k : Nat) (p0 : Job) (p1 : Row) (p2 : Int) : Option Bool := (fill_at p0.edges.West p2 p1.West).bind fun t1371 => (if (!t1371) = true then (some true) else ((fill_at p0.edges.East p2 p1.East).bind fun t1385 => some (!t1385))).bind fun x1382 => if x1382 = true then (some false) else ((fill_job_allows.l0 k 0 p0 p1 p2).bind fun x1932 => sumb x1932 (fun r => some r) (fun y2218 => some true))
def fill_First.l0 : Nat → Int → Option Unit
  | 0, _ => none
  | k + 1, p2 => if (decide (w64 (p2 - 1) ≥ 0)) = true then (if 0 ≤ w64 (p2 - 1) ∧ w64 (p2 - 1) < ((List.replicate p2.toNat (none : Option (List (A8_Int × Bool)))).length : Int) then (none) else none) else (some ())
def fill_First.l1 : Nat → Int → Option Unit
  | 0, _ => none
  | k + 1, p2 => if (decide (0 < p2)) = true then (none) else (some ())
def fill_First.l3 : Nat → (List (Option (List (A8_Int × Bool)))) → Int → Int → Edges → Job → Int → Option (List (Option (List (A8_Int × Bool))))
  | 0, _, _, _, _, _, _ => none
  | k + 1, l3697, x3699, p2, p3, y1248, x3322 => if (decide (x3699 < (y1248.rows.length : Int))) = true then (if 0 ≤ x3699 ∧ x3699 < (y1248.rows.length : Int) then ((if (x3322 == (w64 (p2 - 1))) = true then ((fill_job_allows k (Job.mk y1248.rows y1248.width y1248.height p3) (rdD y1248.rows x3699 z_Row) x3322).bind fun t3796 => some t3796) else ((fill_job_allows k (Job.mk y1248.rows y1248.width y1248.height p3) (rdD y1248.rows x3699 z_Row) x3322).bind fun t3820 => (if t3820 = true then (if 0 ≤ w64 (x3322 + 1) ∧ w64 (x3322 + 1) < (l3697.length : Int) then ((rdD l3697 (w64 (x3322 + 1)) none).bind fun m3832 => (some (mget ((rdD y1248.rows x3699 z_Row).North) false m3832))) else none) else (some false)).bind fun b3828 => some b3828)).bind fun x3778 => (if x3778 = true then (if 0 ≤ x3322 ∧ x3322 < (l3697.length : Int) then ((rdD l3697 x3322 none).bind fun m3875 => (some (l3697.set x3322.toNat (some (mput ((rdD y1248.rows x3699 z_Row).South) true m3875))))) else none) else (some l3697)).bind fun x3860 => fill_First.l3 k x3860 (w64 (x3699 + 1)) p2 p3 y1248 x3322) else none) else (some l3697)
def fill_First.l2 : Nat → (List (Option (List (A8_Int × Bool)))) → Int → Int → Edges → Job → Option (List (Option (List (A8_Int × Bool))))
  | 0, _, _, _, _, _ => none
  | k + 1, l3320, x3322, p2, p3, y1248 => if (decide (x3322 ≥ 0)) = true then (if 0 ≤ x3322 ∧ x3322 < (l3320.length : Int) then ((fill_First.l3 k (l3320.set x3322.toNat (some ([] : List (A8_Int × Bool)))) 0 p2 p3 y1248 x3322).bind fun x3704 => fill_First.l2 k x3704 (w64 (x3322 - 1)) p2 p3 y1248) else none) else (some l3320)
def fill_First.l5 : Nat → (Option Int) → Int → Int → Edges → Job → (List (Option (List (A8_Int × Bool)))) → Int → Option Int
  | 0, _, _, _, _, _, _, _ => none
  | k + 1, o5589, x5590, p2, p3, y1248, x3327, x5120 => if (decide (x5590 < (y1248.rows.length : Int))) = true then (if 0 ≤ x5590 ∧ x5590 < (y1248.rows.length : Int) then ((if (x5120 == (w64 (p2 - 1))) = true then ((fill_job_allows k (Job.mk y1248.rows y1248.width y1248.height p3) (rdD y1248.rows x5590 z_Row) x5120).bind fun t5756 => (if t5756 = true then (optM o5589 (some true) (fun i5768 => if 0 ≤ i5768 ∧ i5768 < (y1248.rows.length : Int) then (some ((((rdD y1248.rows i5768 z_Row).North).e0) == (((rdD y1248.rows x5590 z_Row).South).e0) && ((((rdD y1248.rows i5768 z_Row).North).e1) == (((rdD y1248.rows x5590 z_Row).South).e1) && ((((rdD y1248.rows i5768 z_Row).North).e2) == (((rdD y1248.rows x5590 z_Row).South).e2) && ((((rdD y1248.rows i5768 z_Row).North).e3) == (((rdD y1248.rows x5590 z_Row).South).e3) && ((((rdD y1248.rows i5768 z_Row).North).e4) == (((rdD y1248.rows x5590 z_Row).South).e4) && ((((rdD y1248.rows i5768 z_Row).North).e5) == (((rdD y1248.rows x5590 z_Row).South).e5) && ((((rdD y1248.rows i5768 z_Row).North).e6) == (((rdD y1248.rows x5590 z_Row).South).e6) && ((((rdD y1248.rows i5768 z_Row).North).e7) == (((rdD y1248.rows x5590 z_Row).South).e7)))))))))) else none)) else (some false)).bind fun b5764 => some b5764) else ((fill_job_allows k (Job.mk y1248.rows y1248.width y1248.height p3) (rdD y1248.rows x5590 z_Row) x5120).bind fun t5798 => (if t5798 = true then (optM o5589 (some true) (fun i5810 => if 0 ≤ i5810 ∧ i5810 < (y1248.rows.length : Int) then (some ((((rdD y1248.rows i5810 z_Row).North).e0) == (((rdD y1248.rows x5590 z_Row).South).e0) && ((((rdD y1248.rows i5810 z_Row).North).e1) == (((rdD y1248.rows x5590 z_Row).South).e1) && ((((rdD y1248.rows i5810 z_Row).North).e2) == (((rdD y1248.rows x5590 z_Row).South).e2) && ((((rdD y1248.rows i5810 z_Row).North).e3) == (((rdD y1248.rows x5590 z_Row).South).e3) && ((((rdD y1248.rows i5810 z_Row).North).e4) == (((rdD y1248.rows x5590 z_Row).South).e4) && ((((rdD y1248.rows i5810 z_Row).North).e5) == (((rdD y1248.rows x5590 z_Row).South).e5) && ((((rdD y1248.rows i5810 z_Row).North).e6) == (((rdD y1248.rows x5590 z_Row).South).e6) && ((((rdD y1248.rows i5810 z_Row).North).e7) == (((rdD y1248.rows x5590 z_Row).South).e7)))))))))) else none)) else (some false)).bind fun b5806 => (if b5806 = true then (if 0 ≤ w64 (x5120 + 1) ∧ w64 (x5120 + 1) < (x3327.length : Int) then ((rdD x3327 (w64 (x5120 + 1)) none).bind fun m5819 => (some (mget ((rdD y1248.rows x5590 z_Row).North) false m5819))) else none) else (some false)).bind fun b5815 => some b5815)).bind fun x5720 => if x5720 = true then (some x5590) else (fill_First.l5 k o5589 (w64 (x5590 + 1)) p2 p3 y1248 x3327 x5120)) else none) else (some (-1))
def fill_First.l4 : Nat → (List Int) → (Option Int) → Int → Int → Edges → Job → (List (Option (List (A8_Int × Bool)))) → Option (Sum (Pattern × Int) (List Int))
  | 0, _, _, _, _, _, _, _ => none
  | k + 1, l5118, o5119, x5120, p2, p3, y1248, x3327 => if (decide (x5120 < p2)) = true then ((fill_First.l5 k o5119 0 p2 p3 y1248 x3327 x5120).bind fun x5592 => if (decide (x5592 < 0)) = true then (some (.inl ((Pattern.mk 0 0 ([] : List Int)), 6))) else (if 0 ≤ x5592 ∧ x5592 < (y1248.rows.length : Int) then (if l5118.length + ((rdD y1248.rows x5592 z_Row).Cells).length ≤ 100000000000 then (fill_First.l4 k (l5118 ++ ((rdD y1248.rows x5592 z_Row).Cells)) (some x5592) (w64 (x5120 + 1)) p2 p3 y1248 x3327) else none) else none)) else (some (.inr l5118))
def fill_First (k : Nat) (p0 : List Tile) (p1 : Int) (p2 : Int) (p3 : Edges) : Option (Pattern × Int) := (fill_begin k p0 p1 p2 p3).bind fun t1239 => optM t1239.1 (if (t1239.2 != 0) = true then (some ((Pattern.mk 0 0 ([] : List Int)), t1239.2)) else (if 0 ≤ p2 ∧ p2 ≤ 100000000000 then ((fill_First.l0 k p2).bind fun x1269 => (fill_First.l1 k p2).bind fun x1295 => some ((Pattern.mk p1 p2 ([] : List Int)), 0)) else none)) (fun y1248 => if (t1239.2 != 0) = true then (some ((Pattern.mk 0 0 ([] : List Int)), t1239.2)) else (if 0 ≤ p2 ∧ p2 ≤ 100000000000 then ((fill_First.l2 k (List.replicate p2.toNat (none : Option (List (A8_Int × Bool)))) (w64 (p2 - 1)) p2 p3 y1248).bind fun x3327 => (fill_First.l4 k ([] : List Int) none 0 p2 p3 y1248 x3327).bind fun x5124 => sumb x5124 (fun r => some r) (fun y5854 => some ((Pattern.mk p1 p2 y5854), 0))) else none))
def square_exists (k : Nat) (p0 : List Tile) (p1 : Int) : Option Bool := (fill_First k p0 p1 p1 (Edges.mk ([] : List Int) ([] : List Int) ([] : List Int) ([] : List Int))).bind fun t5858 => some (t5858.2 == 0)
def square_Exists (k : Nat) (p0 : List Tile) (p1 : Int) : Option (Bool × Int) := (square_check k p0 p1).bind fun t333 => if (t333 != 0) = true then (some (false, t333)) else ((square_exists k p0 p1).bind fun t5871 => some (t5871, 0))
def decide_sides_1_y.l0 {σ : Type} : Nat → Int → σ → (List Tile) → (Int → Bool → σ → Option (σ × Bool)) → Option (Sum σ σ)
  | 0, _, _, _, _ => none
  | k + 1, x5938, s5939, f0, yf => if (decide (x5938 ≤ 8)) = true then ((square_Exists k f0 x5938).bind fun t5950 => (if (t5950.2 != 0) = true then (some (true, s5939)) else ((yf x5938 t5950.1 s5939).bind fun t5967 => some (!t5967.2, t5967.1))).bind fun x5964 => if x5964.1 = true then (some (.inl x5964.2)) else (decide_sides_1_y.l0 k (w64 (x5938 + 1)) x5964.2 f0 yf)) else (some (.inr s5939))
def decide_sides_1_y {σ : Type} (k : Nat) (f0 : List Tile) (yf : Int → Bool → σ → Option (σ × Bool)) (sY : σ) : Option σ := (decide_sides_1_y.l0 k 1 sY f0 yf).bind fun x5943 => sumb x5943 (fun r => some r) (fun y5982 => some y5982)
def torus_rings.l0 : Nat → (List Row) → Int → (List Row) → Option (List Row)
  | 0, _, _, _ => none
  | k + 1, l6150, x6152, t6036 => if (decide (x6152 < (t6036.length : Int))) = true then (if 0 ≤ x6152 ∧ x6152 < (t6036.length : Int) then ((if (((rdD t6036 x6152 z_Row).West) == ((rdD t6036 x6152 z_Row).East)) = true then (if l6150.length + 1 ≤ 100000000000 then (some (l6150 ++ [(rdD t6036 x6152 z_Row)])) else none) else (some l6150)).bind fun x6187 => torus_rings.l0 k x6187 (w64 (x6152 + 1)) t6036) else none) else (some l6150)
def torus_rings (k : Nat) (p0 : List Tile) (p1 : Int) : Option (List Row) := (rows_All k p0 p1).bind fun t6036 => (torus_rings.l0 k ([] : List Row) 0 t6036).bind fun x6157 => some x6157
def torus_back.l1 : Nat → (List (A8_Int × Bool)) → Int → (List Row) → (List (A8_Int × Bool)) → Option (List (A8_Int × Bool))
  | 0, _, _, _, _ => none
  | k + 1, l6519, x6520, p0, m6470 => if (decide (x6520 < (p0.length : Int))) = true then (if 0 ≤ x6520 ∧ x6520 < (p0.length : Int) then ((if (mget ((rdD p0 x6520 z_Row).North) false m6470) = true then (some (mput ((rdD p0 x6520 z_Row).South) true l6519)) else (some l6519)).bind fun x6540 => torus_back.l1 k x6540 (w64 (x6520 + 1)) p0 m6470) else none) else (some l6519)
def torus_back.l0 : Nat → (List (Option (List (A8_Int × Bool)))) → Int → (List Row) → Int → Option (List (Option (List (A8_Int × Bool))))
  | 0, _, _, _, _ => none
  | k + 1, l6455, x6457, p0, p2 => if (decide (x6457 < p2)) = true then (if 0 ≤ w64 ((l6455.length : Int) - 1) ∧ w64 ((l6455.length : Int) - 1) < (l6455.length : Int) then ((rdD l6455 (w64 ((l6455.length : Int) - 1)) none).bind fun m6470 => ((torus_back.l1 k ([] : List (A8_Int × Bool)) 0 p0 m6470).bind fun x6522 => if l6455.length + 1 ≤ 100000000000 then (torus_back.l0 k (l6455 ++ [some x6522]) (w64 (x6457 + 1)) p0 p2) else none)) else none) else (some l6455)
def torus_back (k : Nat) (p0 : List Row) (p1 : A8_Int) (p2 : Int) : Option (List (Option (List (A8_Int × Bool)))) := (torus_back.l0 k [some (mput p1 true ([] : List (A8_Int × Bool)))] 0 p0 p2).bind fun x6462 => some x6462
def torus_find.l2 : Nat → Int → (List Row) → ((List (A8_Int × List (Option (List (A8_Int × Bool))))) × (List (Option (List (A8_Int × Bool))))) → (List Int) → A8_Int → Int → Option ((List Int) × A8_Int)
  | 0, _, _, _, _, _, _ => none
  | k + 1, x8380, t6210, x7855, l8260, a8261, x8262 => if (decide (x8380 < (t6210.length : Int))) = true then (if 0 ≤ x8380 ∧ x8380 < (t6210.length : Int) then ((if ((((rdD t6210 x8380 z_Row).South).e0) == a8261.e0 && ((((rdD t6210 x8380 z_Row).South).e1) == a8261.e1 && ((((rdD t6210 x8380 z_Row).South).e2) == a8261.e2 && ((((rdD t6210 x8380 z_Row).South).e3) == a8261.e3 && ((((rdD t6210 x8380 z_Row).South).e4) == a8261.e4 && ((((rdD t6210 x8380 z_Row).South).e5) == a8261.e5 && ((((rdD t6210 x8380 z_Row).South).e6) == a8261.e6 && ((((rdD t6210 x8380 z_Row).South).e7) == a8261.e7)))))))) = true then (if 0 ≤ x8262 ∧ x8262 < (x7855.2.length : Int) then ((rdD x7855.2 x8262 none).bind fun m8426 => (some (mget ((rdD t6210 x8380 z_Row).North) false m8426))) else none) else (some false)).bind fun x8414 => if x8414 = true then (if l8260.length + ((rdD t6210 x8380 z_Row).Cells).length ≤ 100000000000 then (some (l8260 ++ ((rdD t6210 x8380 z_Row).Cells), ((rdD t6210 x8380 z_Row).North))) else none) else (torus_find.l2 k (w64 (x8380 + 1)) t6210 x7855 l8260 a8261 x8262)) else none) else (some (l8260, a8261))
def torus_find.l1 : Nat → (List Int) → A8_Int → Int → (List Row) → ((List (A8_Int × List (Option (List (A8_Int × Bool))))) × (List (Option (List (A8_Int × Bool))))) → Option (List Int)
  | 0, _, _, _, _, _ => none
  | k + 1, l8260, a8261, x8262, t6210, x7855 => if (decide (x8262 ≥ 0)) = true then ((torus_find.l2 k 0 t6210 x7855 l8260 a8261 x8262).bind fun x8385 => torus_find.l1 k x8385.1 x8385.2 (w64 (x8262 - 1)) t6210 x7855) else (some l8260)
def torus_find.l0 : Nat → (List (A8_Int × List (Option (List (A8_Int × Bool))))) → Int → Int → Int → (List Row) → Option (Sum (Pattern × Bool) Unit)
  | 0, _, _, _, _, _ => none
  | k + 1, l7816, x7818, p1, p2, t6210 => if (decide (x7818 < (t6210.length : Int))) = true then (if 0 ≤ x7818 ∧ x7818 < (t6210.length : Int) then ((if (!(mhas ((rdD t6210 x7818 z_Row).South) l7816)) = true then ((torus_back k t6210 ((rdD t6210 x7818 z_Row).South) (w64 (p2 - 1))).bind fun t7858 => some (mput ((rdD t6210 x7818 z_Row).South) t7858 l7816, t7858)) else (some (l7816, (mget ((rdD t6210 x7818 z_Row).South) [] l7816)))).bind fun x7855 => if 0 ≤ w64 (p2 - 1) ∧ w64 (p2 - 1) < (x7855.2.length : Int) then ((rdD x7855.2 (w64 (p2 - 1)) none).bind fun m7884 => (if (!(mget ((rdD t6210 x7818 z_Row).North) false m7884)) = true then (torus_find.l0 k x7855.1 (w64 (x7818 + 1)) p1 p2 t6210) else (if ([] : List Int).length + ((rdD t6210 x7818 z_Row).Cells).length ≤ 100000000000 then ((torus_find.l1 k (([] : List Int) ++ ((rdD t6210 x7818 z_Row).Cells)) ((rdD t6210 x7818 z_Row).North) (w64 (p2 - 2)) t6210 x7855).bind fun x8266 => some (.inl ((Pattern.mk p1 p2 x8266), true))) else none))) else none) else none) else (some (.inr ()))
def torus_find (k : Nat) (p0 : List Tile) (p1 : Int) (p2 : Int) : Option (Pattern × Bool) := (torus_rings k p0 p1).bind fun t6210 => (torus_find.l0 k ([] : List (A8_Int × List (Option (List (A8_Int × Bool))))) 0 p1 p2 t6210).bind fun x7819 => sumb x7819 (fun r => some r) (fun y8457 => some ((Pattern.mk 0 0 ([] : List Int)), false))
def torus_Least.l1 : Nat → Int → (List Tile) → Int → Int → Option (Sum (Pattern × Int) Unit)
  | 0, _, _, _, _ => none
  | k + 1, x8873, p0, p1, x8770 => if (decide (x8873 ≤ p1)) = true then ((if x8873 ≠ 0 then (if (((Int.tmod x8770 x8873) != 0) || (decide (w64 (Int.tdiv x8770 x8873) > p1))) = true then (some (.inr ())) else ((torus_find k p0 x8873 (w64 (Int.tdiv x8770 x8873))).bind fun t8907 => if t8907.2 = true then (some (.inl (t8907.1, 0))) else (some (.inr ())))) else none).bind fun x8901 => sumb x8901 (fun r => some (.inl r)) (fun y8926 => torus_Least.l1 k (w64 (x8873 + 1)) p0 p1 x8770)) else (some (.inr ()))
def torus_Least.l0 : Nat → Int → (List Tile) → Int → Option (Sum (Pattern × Int) Unit)
  | 0, _, _, _ => none
  | k + 1, x8770, p0, p1 => if (decide (x8770 ≤ w64 (p1 * p1))) = true then ((torus_Least.l1 k 1 p0 p1 x8770).bind fun x8874 => sumb x8874 (fun r => some (.inl r)) (fun y8931 => torus_Least.l0 k (w64 (x8770 + 1)) p0 p1)) else (some (.inr ()))
def torus_Least (k : Nat) (p0 : List Tile) (p1 : Int) : Option (Pattern × Int) := (tile_Valid k p0).bind fun t6003 => if (!t6003) = true then (some ((Pattern.mk 0 0 ([] : List Int)), 1)) else (if ((decide (p1 < 1)) || (decide (p1 > 6))) = true then (some ((Pattern.mk 0 0 ([] : List Int)), 2)) else ((rows_Few k p0 p1).bind fun t6018 => if (!t6018) = true then (some ((Pattern.mk 0 0 ([] : List Int)), 4)) else ((torus_Least.l0 k 1 p0 p1).bind fun x8771 => sumb x8771 (fun r => some r) (fun y8936 => some ((Pattern.mk 0 0 ([] : List Int)), 6)))))
def decide_Decide.b1 : Nat → Int → Bool → (Int × Int) → Option ((Int × Int) × Bool)
  | k, x276, x277, (x264, j279) => if j279 = 0 then (if (!x277) = true then (some ((x276, 1), false)) else (some ((x264, 0), true))) else none
def decide_Decide (k : Nat) (p0 : List Tile) : Option (Verdict × Int) := (decide_asks k p0).bind fun t228 => if (t228 != 0) = true then (some ((Verdict.mk false (Pattern.mk 0 0 ([] : List Int)) 0), t228)) else ((decide_sides p0).bind fun t243 => (decide_sides_1_y k p0 (decide_Decide.b1 k ) (0, (0 : Int))).bind fun t5984 => if (t5984.2 == 1) = true then (some ((Verdict.mk false (Pattern.mk 0 0 ([] : List Int)) t5984.1), 0)) else (if t5984.2 = 0 then ((torus_Least k p0 6).bind fun t8941 => if (t8941.2 != 0) = true then (some ((Verdict.mk false (Pattern.mk 0 0 ([] : List Int)) 0), t8941.2)) else (some ((Verdict.mk true t8941.1 0), 0))) else none))
def law09_chess  : Option (List Tile) := some [(Tile.mk 0 1 1 0), (Tile.mk 1 0 0 1)]
def ref01_Same.l0 : Nat → Int → (List Int) → (List Int) → Option (Sum Bool Unit)
  | 0, _, _, _ => none
  | k + 1, x9066, p0, p1 => if (decide (x9066 < (p0.length : Int))) = true then (if 0 ≤ x9066 ∧ x9066 < (p0.length : Int) then (if 0 ≤ x9066 ∧ x9066 < (p1.length : Int) then (if ((rdD p0 x9066 0) != (rdD p1 x9066 0)) = true then (some (.inl false)) else (ref01_Same.l0 k (w64 (x9066 + 1)) p0 p1)) else none) else none) else (some (.inr ()))
def ref01_Same (k : Nat) (p0 : List Int) (p1 : List Int) : Option Bool := if ((p0.length : Int) != (p1.length : Int)) = true then (some false) else ((ref01_Same.l0 k 0 p0 p1).bind fun x9067 => sumb x9067 (fun r => some r) (fun y9086 => some true))
def ref01_SamePattern (k : Nat) (p0 : Pattern) (p1 : Pattern) : Option Bool := (if ((p0.Width == p1.Width) && (p0.Height == p1.Height)) = true then ((ref01_Same k p0.Cells p1.Cells).bind fun t9097 => some t9097) else (some false)).bind fun x9094 => some x9094
def law09_awake (k : Nat)  : Option Bool := (decide_Decide k [(Tile.mk 0 0 1 0)]).bind fun t8968 => (law09_chess).bind fun t8986 => (decide_Decide k t8986).bind fun t8993 => (decide_Decide k ([] : List Tile)).bind fun t9006 => (if ((((((t8968.2 == 0) && (t8993.2 == 0)) && (t9006.2 == 0)) && (!t8968.1.Fills)) && (t8968.1.Side == 2)) && t8993.1.Fills) = true then ((ref01_SamePattern k t8993.1.Torus (Pattern.mk 2 2 [0, 1, 1, 0])).bind fun t9121 => some t9121) else (some false)).bind fun x9113 => some ((x9113 && (!t9006.1.Fills)) && (t9006.1.Side == 1))
def tile_Form (p0 : Pattern) : Option Bool := some ((((((decide (p0.Width ≥ 1)) && (decide (p0.Height ≥ 1))) && (decide (p0.Width ≤ 40000))) && (decide (p0.Height ≤ 40000))) && (decide (w64 (p0.Width * p0.Height) ≤ 40000))) && ((p0.Cells.length : Int) == (w64 (p0.Width * p0.Height))))
def tile_of_1 (p0 : Int) (f0 : List Tile) : Option Bool := some ((decide (p0 < 0)) || (decide (p0 ≥ (f0.length : Int))))
def slices_IndexFunc_int_int_with_tile_of_1.l0 : Nat → Int → (List Int) → (List Tile) → Option (Sum Int Unit)
  | 0, _, _, _ => none
  | k + 1, x9220, p0, p1_0 => if (decide (x9220 < (p0.length : Int))) = true then (if 0 ≤ x9220 ∧ x9220 < (p0.length : Int) then ((tile_of_1 (rdD p0 x9220 0) p1_0).bind fun t9229 => if t9229 = true then (some (.inl x9220)) else (slices_IndexFunc_int_int_with_tile_of_1.l0 k (w64 (x9220 + 1)) p0 p1_0)) else none) else (some (.inr ()))
def slices_IndexFunc_int_int_with_tile_of_1 (k : Nat) (p0 : List Int) (p1_0 : List Tile) : Option Int := (slices_IndexFunc_int_int_with_tile_of_1.l0 k 0 p0 p1_0).bind fun x9221 => sumb x9221 (fun r => some r) (fun y9238 => some (-1))
def slices_ContainsFunc_int_int_with_tile_of_1 (k : Nat) (p0 : List Int) (p1_0 : List Tile) : Option Bool := (slices_IndexFunc_int_int_with_tile_of_1 k p0 p1_0).bind fun t9240 => some (decide (t9240 ≥ 0))
def tile_of (k : Nat) (p0 : List Tile) (p1 : Pattern) : Option Bool := (tile_Valid k p0).bind fun t9163 => (if t9163 = true then ((tile_Form p1).bind fun t9191 => some t9191) else (some false)).bind fun x9188 => (if x9188 = true then ((slices_ContainsFunc_int_int_with_tile_of_1 k p1.Cells p0).bind fun t9254 => some (!t9254)) else (some false)).bind fun x9251 => some x9251
def tile_joins.l0 : Nat → Int → (List Tile) → Pattern → Bool → Option (Sum Bool Unit)
  | 0, _, _, _, _ => none
  | k + 1, x9440, p0, p1, p2 => if (decide (x9440 < (p1.Cells.length : Int))) = true then (if 0 ≤ x9440 ∧ x9440 < (p1.Cells.length : Int) then (if p1.Width ≠ 0 then ((if ((decide (w64 ((Int.tmod x9440 p1.Width) + 1) < p1.Width)) || p2) = true then (if 0 ≤ (rdD p1.Cells x9440 0) ∧ (rdD p1.Cells x9440 0) < (p0.length : Int) then (if 0 ≤ w64 ((w64 ((w64 (Int.tdiv x9440 p1.Width)) * p1.Width)) + (Int.tmod (w64 ((Int.tmod x9440 p1.Width) + 1)) p1.Width)) ∧ w64 ((w64 ((w64 (Int.tdiv x9440 p1.Width)) * p1.Width)) + (Int.tmod (w64 ((Int.tmod x9440 p1.Width) + 1)) p1.Width)) < (p1.Cells.length : Int) then (if 0 ≤ (rdD p1.Cells (w64 ((w64 ((w64 (Int.tdiv x9440 p1.Width)) * p1.Width)) + (Int.tmod (w64 ((Int.tmod x9440 p1.Width) + 1)) p1.Width))) 0) ∧ (rdD p1.Cells (w64 ((w64 ((w64 (Int.tdiv x9440 p1.Width)) * p1.Width)) + (Int.tmod (w64 ((Int.tmod x9440 p1.Width) + 1)) p1.Width))) 0) < (p0.length : Int) then (if (((rdD p0 (rdD p1.Cells x9440 0) z_Tile).E) != ((rdD p0 (rdD p1.Cells (w64 ((w64 ((w64 (Int.tdiv x9440 p1.Width)) * p1.Width)) + (Int.tmod (w64 ((Int.tmod x9440 p1.Width) + 1)) p1.Width))) 0) z_Tile).W)) = true then (some (.inl false)) else (some (.inr ()))) else none) else none) else none) else (some (.inr ()))).bind fun x9469 => sumb x9469 (fun r => some (.inl r)) (fun y9487 => (if ((decide (w64 ((w64 (Int.tdiv x9440 p1.Width)) + 1) < p1.Height)) || p2) = true then (if 0 ≤ (rdD p1.Cells x9440 0) ∧ (rdD p1.Cells x9440 0) < (p0.length : Int) then (if p1.Height ≠ 0 then (if 0 ≤ w64 ((w64 ((Int.tmod (w64 ((w64 (Int.tdiv x9440 p1.Width)) + 1)) p1.Height) * p1.Width)) + (Int.tmod x9440 p1.Width)) ∧ w64 ((w64 ((Int.tmod (w64 ((w64 (Int.tdiv x9440 p1.Width)) + 1)) p1.Height) * p1.Width)) + (Int.tmod x9440 p1.Width)) < (p1.Cells.length : Int) then (if 0 ≤ (rdD p1.Cells (w64 ((w64 ((Int.tmod (w64 ((w64 (Int.tdiv x9440 p1.Width)) + 1)) p1.Height) * p1.Width)) + (Int.tmod x9440 p1.Width))) 0) ∧ (rdD p1.Cells (w64 ((w64 ((Int.tmod (w64 ((w64 (Int.tdiv x9440 p1.Width)) + 1)) p1.Height) * p1.Width)) + (Int.tmod x9440 p1.Width))) 0) < (p0.length : Int) then (if (((rdD p0 (rdD p1.Cells x9440 0) z_Tile).N) != ((rdD p0 (rdD p1.Cells (w64 ((w64 ((Int.tmod (w64 ((w64 (Int.tdiv x9440 p1.Width)) + 1)) p1.Height) * p1.Width)) + (Int.tmod x9440 p1.Width))) 0) z_Tile).S)) = true then (some (.inl false)) else (some (.inr ()))) else none) else none) else none) else none) else (some (.inr ()))).bind fun x9507 => sumb x9507 (fun r => some (.inl r)) (fun y9528 => tile_joins.l0 k (w64 (x9440 + 1)) p0 p1 p2))) else none) else none) else (some (.inr ()))
def tile_joins (k : Nat) (p0 : List Tile) (p1 : Pattern) (p2 : Bool) : Option Bool := (tile_joins.l0 k 0 p0 p1 p2).bind fun x9441 => sumb x9441 (fun r => some r) (fun y9533 => some true)
def tile_Repeats (k : Nat) (p0 : List Tile) (p1 : Pattern) : Option Bool := (tile_of k p0 p1).bind fun t9264 => (if t9264 = true then ((tile_joins k p0 p1 true).bind fun t9544 => some t9544) else (some false)).bind fun x9541 => some x9541
def decide_Check (k : Nat) (p0 : List Tile) (p1 : Verdict) : Option (Bool × Int) := (tile_Valid k p0).bind fun t9144 => if (!t9144) = true then (some (false, 1)) else (if p1.Fills = true then ((if (p1.Side == 0) = true then ((tile_Repeats k p0 p1.Torus).bind fun t9563 => some t9563) else (some false)).bind fun x9560 => some (x9560, 0)) else (if (((p1.Torus.Width != 0) || (p1.Torus.Height != 0)) || (decide ((p1.Torus.Cells.length : Int) > 0))) = true then (some (false, 0)) else ((square_Exists k p0 p1.Side).bind fun t9578 => some ((t9578.2 == 0) && (!t9578.1), 0))))
def ref01_colour (p0 : Int) : Option Bool := some ((decide (p0 ≥ 0)) && (decide (p0 < 1000)))
def ref01_Index.l0 : Nat → Int → (List Tile) → Tile → Option (Sum Int Unit)
  | 0, _, _, _ => none
  | k + 1, x9684, p0, p1 => if (decide (x9684 < (p0.length : Int))) = true then (if 0 ≤ x9684 ∧ x9684 < (p0.length : Int) then (if (((rdD p0 x9684 z_Tile).N) == p1.N && (((rdD p0 x9684 z_Tile).E) == p1.E && (((rdD p0 x9684 z_Tile).S) == p1.S && (((rdD p0 x9684 z_Tile).W) == p1.W)))) = true then (some (.inl x9684)) else (ref01_Index.l0 k (w64 (x9684 + 1)) p0 p1)) else none) else (some (.inr ()))
def ref01_Index (k : Nat) (p0 : List Tile) (p1 : Tile) : Option Int := (ref01_Index.l0 k 0 p0 p1).bind fun x9685 => sumb x9685 (fun r => some r) (fun y9701 => some (-1))
def ref01_Valid.l0 : Nat → Int → (List Tile) → Option (Sum Bool Unit)
  | 0, _, _ => none
  | k + 1, x9998, p0 => if (decide (x9998 < (p0.length : Int))) = true then (if 0 ≤ x9998 ∧ x9998 < (p0.length : Int) then ((ref01_colour ((rdD p0 x9998 z_Tile).N)).bind fun t10102 => (if (!t10102) = true then (some true) else ((ref01_colour ((rdD p0 x9998 z_Tile).E)).bind fun t10116 => some (!t10116))).bind fun x10113 => (if x10113 = true then (some true) else ((ref01_colour ((rdD p0 x9998 z_Tile).S)).bind fun t10135 => some (!t10135))).bind fun x10132 => (if x10132 = true then (some true) else ((ref01_colour ((rdD p0 x9998 z_Tile).W)).bind fun t10154 => some (!t10154))).bind fun x10151 => (if x10151 = true then (some true) else (if 0 ≤ (0 : Int) ∧ (0 : Int) ≤ x9998 ∧ x9998 ≤ (p0.length : Int) then ((ref01_Index k (cut p0 (0 : Int) x9998) (rdD p0 x9998 z_Tile)).bind fun t10177 => some (decide (t10177 ≥ 0))) else none)).bind fun x10172 => if x10172 = true then (some (.inl false)) else (ref01_Valid.l0 k (w64 (x9998 + 1)) p0)) else none) else (some (.inr ()))
def ref01_Valid (k : Nat) (p0 : List Tile) : Option Bool := if (decide ((p0.length : Int) > 1000)) = true then (some false) else ((ref01_Valid.l0 k 0 p0).bind fun x9999 => sumb x9999 (fun r => some r) (fun y10191 => some true))
def ref01_Form (p0 : Pattern) : Option Bool := some ((((((decide (p0.Width ≥ 1)) && (decide (p0.Height ≥ 1))) && (decide (p0.Width ≤ 40000))) && (decide (p0.Height ≤ 40000))) && (decide (w64 (p0.Width * p0.Height) ≤ 40000))) && ((p0.Cells.length : Int) == (w64 (p0.Width * p0.Height))))
def ref01_Cell (p0 : Pattern) (p1 : Int) (p2 : Int) : Option Int := if 0 ≤ w64 ((w64 (p2 * p0.Width)) + p1) ∧ w64 ((w64 (p2 * p0.Width)) + p1) < (p0.Cells.length : Int) then (some (rdD p0.Cells (w64 ((w64 (p2 * p0.Width)) + p1)) 0)) else none
def ref01_Of.l0 : Nat → Int → (List Tile) → Pattern → Option (Sum Bool Unit)
  | 0, _, _, _ => none
  | k + 1, x10261, p0, p1 => if (decide (x10261 < (p1.Cells.length : Int))) = true then (if 0 ≤ x10261 ∧ x10261 < (p1.Cells.length : Int) then (if ((decide ((rdD p1.Cells x10261 0) < 0)) || (decide ((rdD p1.Cells x10261 0) ≥ (p0.length : Int)))) = true then (some (.inl false)) else (ref01_Of.l0 k (w64 (x10261 + 1)) p0 p1)) else none) else (some (.inr ()))
def ref01_Of.l2 : Nat → Int → (List Tile) → Pattern → Int → Option (Sum Bool Unit)
  | 0, _, _, _, _ => none
  | k + 1, x12073, p0, p1, x11626 => if (decide (x12073 < p1.Width)) = true then ((ref01_Cell p1 x12073 x11626).bind fun t12081 => if 0 ≤ t12081 ∧ t12081 < (p0.length : Int) then ((if (decide (w64 (x12073 + 1) < p1.Width)) = true then (if (decide (w64 (x11626 + 1) < p1.Height)) = true then ((ref01_Cell p1 (w64 (x12073 + 1)) x11626).bind fun t12232 => if 0 ≤ t12232 ∧ t12232 < (p0.length : Int) then ((if (((rdD p0 t12081 z_Tile).E) != ((rdD p0 t12232 z_Tile).W)) = true then (some true) else ((ref01_Cell p1 x12073 (w64 (x11626 + 1))).bind fun t12248 => if 0 ≤ t12248 ∧ t12248 < (p0.length : Int) then (some (((rdD p0 t12081 z_Tile).N) != ((rdD p0 t12248 z_Tile).S))) else none)).bind fun x12245 => some x12245) else none) else ((ref01_Cell p1 (w64 (x12073 + 1)) x11626).bind fun t12269 => if 0 ≤ t12269 ∧ t12269 < (p0.length : Int) then (some (((rdD p0 t12081 z_Tile).E) != ((rdD p0 t12269 z_Tile).W))) else none)) else (if (decide (w64 (x11626 + 1) < p1.Height)) = true then ((ref01_Cell p1 x12073 (w64 (x11626 + 1))).bind fun t12286 => if 0 ≤ t12286 ∧ t12286 < (p0.length : Int) then (some (((rdD p0 t12081 z_Tile).N) != ((rdD p0 t12286 z_Tile).S))) else none) else (some false))).bind fun x12193 => if x12193 = true then (some (.inl false)) else (ref01_Of.l2 k (w64 (x12073 + 1)) p0 p1 x11626)) else none) else (some (.inr ()))
def ref01_Of.l1 : Nat → Int → (List Tile) → Pattern → Option (Sum Bool Unit)
  | 0, _, _, _ => none
  | k + 1, x11626, p0, p1 => if (decide (x11626 < p1.Height)) = true then ((ref01_Of.l2 k 0 p0 p1 x11626).bind fun x12074 => sumb x12074 (fun r => some (.inl r)) (fun y12302 => ref01_Of.l1 k (w64 (x11626 + 1)) p0 p1)) else (some (.inr ()))
def ref01_Of (k : Nat) (p0 : List Tile) (p1 : Pattern) : Option Bool := (ref01_Form p1).bind fun t10244 => if (!t10244) = true then (some false) else ((ref01_Of.l0 k 0 p0 p1).bind fun x10262 => sumb x10262 (fun r => some r) (fun y10276 => (ref01_Of.l1 k 0 p0 p1).bind fun x11627 => sumb x11627 (fun r => some r) (fun y12307 => some true)))
def ref01_Torus.l0 : Nat → Int → (List Tile) → Pattern → Option (Sum Bool Unit)
  | 0, _, _, _ => none
  | k + 1, x12510, p0, p1 => if (decide (x12510 < p1.Height)) = true then (((ref01_Cell p1 (w64 (p1.Width - 1)) x12510).bind fun t12573 => if 0 ≤ t12573 ∧ t12573 < (p0.length : Int) then ((ref01_Cell p1 0 x12510).bind fun t12579 => if 0 ≤ t12579 ∧ t12579 < (p0.length : Int) then (some (((rdD p0 t12573 z_Tile).E) != ((rdD p0 t12579 z_Tile).W))) else none) else none).bind fun x12569 => if x12569 = true then (some (.inl false)) else (ref01_Torus.l0 k (w64 (x12510 + 1)) p0 p1)) else (some (.inr ()))
def ref01_Torus.l1 : Nat → Int → (List Tile) → Pattern → Option (Sum Bool Unit)
  | 0, _, _, _ => none
  | k + 1, x12814, p0, p1 => if (decide (x12814 < p1.Width)) = true then (((ref01_Cell p1 x12814 (w64 (p1.Height - 1))).bind fun t12877 => if 0 ≤ t12877 ∧ t12877 < (p0.length : Int) then ((ref01_Cell p1 x12814 0).bind fun t12883 => if 0 ≤ t12883 ∧ t12883 < (p0.length : Int) then (some (((rdD p0 t12877 z_Tile).N) != ((rdD p0 t12883 z_Tile).S))) else none) else none).bind fun x12873 => if x12873 = true then (some (.inl false)) else (ref01_Torus.l1 k (w64 (x12814 + 1)) p0 p1)) else (some (.inr ()))
def ref01_Torus (k : Nat) (p0 : List Tile) (p1 : Pattern) : Option Bool := (ref01_Of k p0 p1).bind fun t12309 => if (!t12309) = true then (some false) else ((ref01_Torus.l0 k 0 p0 p1).bind fun x12511 => sumb x12511 (fun r => some r) (fun y12617 => (ref01_Torus.l1 k 0 p0 p1).bind fun x12815 => sumb x12815 (fun r => some r) (fun y12921 => some true)))
def law09_none (p0 : Pattern) : Option Bool := some (((p0.Width == 0) && (p0.Height == 0)) && ((p0.Cells.length : Int) == 0))
def law09_DecideChecks (k : Nat) (p0 : List Tile) (p1 : Verdict) : Option Bool := if ((decide ((p0.length : Int) > 2000)) || ((((!p1.Fills) && (decide ((p0.length : Int) > 4))) && (decide (p1.Side > 3))) && (decide (p1.Side ≤ 8)))) = true then ((law09_awake k).bind fun t9135 => some t9135) else ((decide_Check k p0 p1).bind fun t9585 => (ref01_Valid k p0).bind fun t10193 => if (!t10193) = true then ((if ((t9585.2 == 1) && (!t9585.1)) = true then ((law09_awake k).bind fun t10210 => some t10210) else (some false)).bind fun x10207 => some x10207) else ((if (p1.Fills && (p1.Side == 0)) = true then ((ref01_Torus k p0 p1.Torus).bind fun t12932 => some t12932) else (some false)).bind fun x12929 => (if (!p1.Fills) = true then ((law09_none p1.Torus).bind fun t12959 => some t12959) else (some false)).bind fun x12956 => (if ((x12956 && (decide (p1.Side ≥ 1))) && (decide (p1.Side ≤ 8))) = true then ((square_Exists k p0 p1.Side).bind fun t12985 => some ((t12985.2 == 0) && (!t12985.1))) else (some x12929)).bind fun x12982 => (if ((t9585.2 == 0) && (t9585.1 == x12982)) = true then ((law09_awake k).bind fun t13007 => some t13007) else (some false)).bind fun x13004 => some x13004))
end Gp
namespace Gp
open Go Gw Go.Proofs Go.RowKit
def ok_Tile (a : Tile) : Prop := (ok64 a.N) ∧ (ok64 a.E) ∧ (ok64 a.S) ∧ (ok64 a.W)
theorem opn_Tile_24 {H : Type} {enc : TypeId × Value → H} {w : World} {base : Nat} {spare : Nat → Bool} {held : Bool} {fuel : Nat} {cs : List Value} {x : DataW H × List MemPlace} (h : DataW.trod enc Try.prog w base spare held fuel 24 cs = some x) : ∃ (a : Tile), cs = [.int .i64 a.N, .int .i64 a.E, .int .i64 a.S, .int .i64 a.W] ∧ ok_Tile a := by
  obtain ⟨hl, n, hf⟩ := opn_fields Try.underlying24 h
  have hl0 : cs.length = 4 := hl.trans (by kernel_rfl)
  obtain ⟨q0, r0, rfl, hl1⟩ := cons_of hl0
  obtain ⟨q1, r1, rfl, hl2⟩ := cons_of hl1
  obtain ⟨q2, r2, rfl, hl3⟩ := cons_of hl2
  obtain ⟨q3, r3, rfl, hl4⟩ := cons_of hl3
  obtain rfl := List.eq_nil_of_length_eq_zero hl4
  obtain ⟨y0, h0⟩ := hf 0 _ 1 rfl (by kernel_rfl)
  have h0 : DataW.trod enc Try.prog w base spare held n 3 [q0] = some y0 := h0
  obtain ⟨a0, e0, w0⟩ := opn_int Try.underlying3 h0
  injection e0 with f0 e0
  subst f0
  obtain ⟨y1, h1⟩ := hf 1 _ 1 rfl (by kernel_rfl)
  have h1 : DataW.trod enc Try.prog w base spare held n 3 [q1] = some y1 := h1
  obtain ⟨a1, e1, w1⟩ := opn_int Try.underlying3 h1
  injection e1 with f1 e1
  subst f1
  obtain ⟨y2, h2⟩ := hf 2 _ 1 rfl (by kernel_rfl)
  have h2 : DataW.trod enc Try.prog w base spare held n 3 [q2] = some y2 := h2
  obtain ⟨a2, e2, w2⟩ := opn_int Try.underlying3 h2
  injection e2 with f2 e2
  subst f2
  obtain ⟨y3, h3⟩ := hf 3 _ 1 rfl (by kernel_rfl)
  have h3 : DataW.trod enc Try.prog w base spare held n 3 [q3] = some y3 := h3
  obtain ⟨a3, e3, w3⟩ := opn_int Try.underlying3 h3
  injection e3 with f3 e3
  subst f3
  exact ⟨⟨a0, a1, a2, a3⟩, rfl, ⟨wf64 w0, wf64 w1, wf64 w2, wf64 w3⟩⟩
theorem opens_Tile_24 : Opens Try.prog 24 enc_Tile ok_Tile := ⟨by kernel_rfl, by decide, fun h => opn_Tile_24 h⟩
def ok_Pattern (a : Pattern) : Prop := (ok64 a.Width) ∧ (ok64 a.Height) ∧ ((∀ x ∈ a.Cells, ok64 x) ∧ a.Cells.length ≤ maxLen)
theorem opn_Pattern_38 {H : Type} {enc : TypeId × Value → H} {w : World} {base : Nat} {spare : Nat → Bool} {held : Bool} {fuel : Nat} {cs : List Value} {x : DataW H × List MemPlace} (h : DataW.trod enc Try.prog w base spare held fuel 38 cs = some x) : ∃ (a : Pattern) (A0 : Option Addr) (c0 : Nat), cs = [.int .i64 a.Width, .int .i64 a.Height, .slice A0 a.Cells.length c0] ∧ RO NoS w (rowR encInt A0 c0 a.Cells) ∧ ok_Pattern a := by
  obtain ⟨hl, n, hf⟩ := opn_fields Try.underlying38 h
  have hl0 : cs.length = 3 := hl.trans (by kernel_rfl)
  obtain ⟨q0, r0, rfl, hl1⟩ := cons_of hl0
  obtain ⟨q1, r1, rfl, hl2⟩ := cons_of hl1
  obtain ⟨q2, r2, rfl, hl3⟩ := cons_of hl2
  obtain rfl := List.eq_nil_of_length_eq_zero hl3
  obtain ⟨y0, h0⟩ := hf 0 _ 1 rfl (by kernel_rfl)
  have h0 : DataW.trod enc Try.prog w base spare held n 3 [q0] = some y0 := h0
  obtain ⟨a0, e0, w0⟩ := opn_int Try.underlying3 h0
  injection e0 with f0 e0
  subst f0
  obtain ⟨y1, h1⟩ := hf 1 _ 1 rfl (by kernel_rfl)
  have h1 : DataW.trod enc Try.prog w base spare held n 3 [q1] = some y1 := h1
  obtain ⟨a1, e1, w1⟩ := opn_int Try.underlying3 h1
  injection e1 with f1 e1
  subst f1
  obtain ⟨y2, h2⟩ := hf 2 _ 1 rfl (by kernel_rfl)
  have h2 : DataW.trod enc Try.prog w base spare held n 36 [q2] = some y2 := h2
  obtain ⟨A2_, c2_, a2, e2, o2, w2, m2⟩ := opn_row Try.underlying36 (opens_int Try.underlying3 (by kernel_rfl)) h2
  injection e2 with f2 e2
  subst f2
  exact ⟨⟨a0, a1, a2⟩, A2_, c2_, rfl, o2, ⟨wf64 w0, wf64 w1, ⟨w2, m2⟩⟩⟩
def ok_Verdict (a : Verdict) : Prop := True ∧ (ok_Pattern a.Torus) ∧ (ok64 a.Side)
theorem opn_Verdict_40 {H : Type} {enc : TypeId × Value → H} {w : World} {base : Nat} {spare : Nat → Bool} {held : Bool} {fuel : Nat} {cs : List Value} {x : DataW H × List MemPlace} (h : DataW.trod enc Try.prog w base spare held fuel 40 cs = some x) : ∃ (a : Verdict) (A0 : Option Addr) (c0 : Nat), cs = [.bool a.Fills, .int .i64 a.Torus.Width, .int .i64 a.Torus.Height, .slice A0 a.Torus.Cells.length c0, .int .i64 a.Side] ∧ RO NoS w (rowR encInt A0 c0 a.Torus.Cells) ∧ ok_Verdict a := by
  obtain ⟨hl, n, hf⟩ := opn_fields Try.underlying40 h
  have hl0 : cs.length = 5 := hl.trans (by kernel_rfl)
  obtain ⟨q0, r0, rfl, hl1⟩ := cons_of hl0
  obtain ⟨q1, r1, rfl, hl2⟩ := cons_of hl1
  obtain ⟨q2, r2, rfl, hl3⟩ := cons_of hl2
  obtain ⟨q3, r3, rfl, hl4⟩ := cons_of hl3
  obtain ⟨q4, r4, rfl, hl5⟩ := cons_of hl4
  obtain rfl := List.eq_nil_of_length_eq_zero hl5
  obtain ⟨y0, h0⟩ := hf 0 _ 1 rfl (by kernel_rfl)
  have h0 : DataW.trod enc Try.prog w base spare held n 4 [q0] = some y0 := h0
  obtain ⟨a0, e0⟩ := opn_bool Try.underlying4 h0
  injection e0 with f0 e0
  subst f0
  obtain ⟨y1, h1⟩ := hf 1 _ 3 rfl (by kernel_rfl)
  have h1 : DataW.trod enc Try.prog w base spare held n 38 [q1, q2, q3] = some y1 := h1
  obtain ⟨a1, A1_0, c1_0, e1, o1_0, w1⟩ := opn_Pattern_38 h1
  injection e1 with f1 e1
  subst f1
  injection e1 with f2 e1
  subst f2
  injection e1 with f3 e1
  subst f3
  obtain ⟨y2, h2⟩ := hf 2 _ 1 rfl (by kernel_rfl)
  have h2 : DataW.trod enc Try.prog w base spare held n 3 [q4] = some y2 := h2
  obtain ⟨a2, e2, w2⟩ := opn_int Try.underlying3 h2
  injection e2 with f4 e2
  subst f4
  exact ⟨⟨a0, a1, a2⟩, A1_0, c1_0, rfl, o1_0, ⟨trivial, w1, wf64 w2⟩⟩
end Gp
