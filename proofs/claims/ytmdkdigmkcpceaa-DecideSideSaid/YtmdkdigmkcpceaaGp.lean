/- The functions that the law reaches, as plain functions; how what comes in is opened. -/
import Derived.Test.YtmdkdigmkcpceaaGb
set_option linter.unusedVariables false
set_option linter.unusedSimpArgs false
set_option maxHeartbeats 4000000
namespace Gp
open Go Gw
structure Tile where
  N : Int
  E : Int
  S : Int
  W : Int
  deriving DecidableEq
def z_Tile : Tile := ⟨0, 0, 0, 0⟩
def ints_Tile (x : Tile) : List Int := [x.N, x.E, x.S, x.W]
def enc_Tile : Enc Tile := ⟨4, fun x => [(.int .i64 x.N), (.int .i64 x.E), (.int .i64 x.S), (.int .i64 x.W)], fun _ => rfl, fun x u h => by simp at h; rcases h with rfl | rfl | rfl | rfl <;> rfl⟩
structure Pattern where
  Width : Int
  Height : Int
  Cells : List Int
  deriving DecidableEq
def z_Pattern : Pattern := ⟨0, 0, []⟩
def encN_Pattern : Enc (HF × Pattern) := ⟨3, fun x => [(.int .i64 x.2.Width), (.int .i64 x.2.Height), (.slice (x.1 0).1 x.2.Cells.length (x.1 0).2)], fun _ => rfl, fun x u h => by simp at h; rcases h with rfl | rfl | rfl <;> rfl⟩
def subN_Pattern (h : HF) (x : Pattern) : Own := rowR encInt (h 0).1 (h 0).2 x.Cells
structure Verdict where
  Fills : Bool
  Torus : Pattern
  Side : Int
  deriving DecidableEq
def z_Verdict : Verdict := ⟨false, z_Pattern, 0⟩
structure Edges where
  North : List Int
  East : List Int
  South : List Int
  West : List Int
  deriving DecidableEq
def z_Edges : Edges := ⟨[], [], [], []⟩
structure A8_Int where
  e0 : Int
  e1 : Int
  e2 : Int
  e3 : Int
  e4 : Int
  e5 : Int
  e6 : Int
  e7 : Int
  deriving DecidableEq
def z_A8_Int : A8_Int := ⟨0, 0, 0, 0, 0, 0, 0, 0⟩
def A8_Int.get (a : A8_Int) (i : Int) : Int := if i = 0 then a.e0 else if i = 1 then a.e1 else if i = 2 then a.e2 else if i = 3 then a.e3 else if i = 4 then a.e4 else if i = 5 then a.e5 else if i = 6 then a.e6 else a.e7
def A8_Int.set (a : A8_Int) (i v : Int) : A8_Int := ⟨if i = 0 then v else a.e0, if i = 1 then v else a.e1, if i = 2 then v else a.e2, if i = 3 then v else a.e3, if i = 4 then v else a.e4, if i = 5 then v else a.e5, if i = 6 then v else a.e6, if i = 7 then v else a.e7⟩
def ints_A8_Int (x : A8_Int) : List Int := [x.e0, x.e1, x.e2, x.e3, x.e4, x.e5, x.e6, x.e7]
def enc_A8_Int : Enc A8_Int := ⟨8, fun x => [(.int .i64 x.e0), (.int .i64 x.e1), (.int .i64 x.e2), (.int .i64 x.e3), (.int .i64 x.e4), (.int .i64 x.e5), (.int .i64 x.e6), (.int .i64 x.e7)], fun _ => rfl, fun x u h => by simp at h; rcases h with rfl | rfl | rfl | rfl | rfl | rfl | rfl | rfl <;> rfl⟩
structure Row where
  Cells : List Int
  South : A8_Int
  North : A8_Int
  West : Int
  East : Int
  deriving DecidableEq
def z_Row : Row := ⟨[], z_A8_Int, z_A8_Int, 0, 0⟩
def encN_Row : Enc (HF × Row) := ⟨19, fun x => [(.slice (x.1 0).1 x.2.Cells.length (x.1 0).2), (.int .i64 x.2.South.e0), (.int .i64 x.2.South.e1), (.int .i64 x.2.South.e2), (.int .i64 x.2.South.e3), (.int .i64 x.2.South.e4), (.int .i64 x.2.South.e5), (.int .i64 x.2.South.e6), (.int .i64 x.2.South.e7), (.int .i64 x.2.North.e0), (.int .i64 x.2.North.e1), (.int .i64 x.2.North.e2), (.int .i64 x.2.North.e3), (.int .i64 x.2.North.e4), (.int .i64 x.2.North.e5), (.int .i64 x.2.North.e6), (.int .i64 x.2.North.e7), (.int .i64 x.2.West), (.int .i64 x.2.East)], fun _ => rfl, fun x u h => by simp at h; rcases h with rfl | rfl | rfl | rfl | rfl | rfl | rfl | rfl | rfl | rfl | rfl | rfl | rfl | rfl | rfl | rfl | rfl | rfl | rfl <;> rfl⟩
def subN_Row (h : HF) (x : Row) : Own := rowR encInt (h 0).1 (h 0).2 x.Cells
structure Job where
  rows : List Row
  width : Int
  height : Int
  edges : Edges
  deriving DecidableEq
def z_Job : Job := ⟨[], 0, 0, z_Edges⟩
structure S108 where
  side : List Int
  n : Int
  deriving DecidableEq
def z_S108 : S108 := ⟨[], 0⟩
def encN_S108 : Enc (HF × S108) := ⟨2, fun x => [(.slice (x.1 0).1 x.2.side.length (x.1 0).2), (.int .i64 x.2.n)], fun _ => rfl, fun x u h => by simp at h; rcases h with rfl | rfl <;> rfl⟩
def subN_S108 (h : HF) (x : S108) : Own := rowR encInt (h 0).1 (h 0).2 x.side
def tile_colour_1 (p0 : Int) : Option Bool := some ((decide (p0 < 0)) || (decide (p0 ≥ 1000)))
def slices_IndexFunc_int_int_with_tile_colour_1.l0 : Nat → Int → (List Int) → Option (Sum Int Unit)
  | 0, _, _ => none
  | k + 1, x55, p0 => if (decide (x55 < (p0.length : Int))) = true then (if 0 ≤ x55 ∧ x55 < (p0.length : Int) then ((tile_colour_1 (rdD p0 x55 0)).bind fun t64 => if t64 = true then (some (.inl x55)) else (slices_IndexFunc_int_int_with_tile_colour_1.l0 k (w64 (x55 + 1)) p0)) else none) else (some (.inr ()))
def slices_IndexFunc_int_int_with_tile_colour_1 (k : Nat) (p0 : List Int) : Option Int := (slices_IndexFunc_int_int_with_tile_colour_1.l0 k 0 p0).bind fun x56 => sumb x56 (fun r => some r) (fun y73 => some (-1))
def slices_ContainsFunc_int_int_with_tile_colour_1 (k : Nat) (p0 : List Int) : Option Bool := (slices_IndexFunc_int_int_with_tile_colour_1 k p0).bind fun t75 => some (decide (t75 ≥ 0))
def tile_colour (k : Nat) (p0 : List Int) : Option Bool := (slices_ContainsFunc_int_int_with_tile_colour_1 k p0).bind fun t80 => some (!t80)
def tile_Valid.l0 : Nat → (List (Tile × Bool)) → Int → (List Tile) → Option (Sum Bool Unit)
  | 0, _, _, _ => none
  | k + 1, l154, x155, p0 => if (decide (x155 < (p0.length : Int))) = true then (if 0 ≤ x155 ∧ x155 < (p0.length : Int) then ((if (mget (rdD p0 x155 z_Tile) false l154) = true then (some true) else ((tile_colour k [(rdD p0 x155 z_Tile).N, (rdD p0 x155 z_Tile).E, (rdD p0 x155 z_Tile).S, (rdD p0 x155 z_Tile).W]).bind fun t189 => some (!t189))).bind fun x181 => if x181 = true then (some (.inl false)) else (tile_Valid.l0 k (mput (rdD p0 x155 z_Tile) true l154) (w64 (x155 + 1)) p0)) else none) else (some (.inr ()))
def tile_Valid (k : Nat) (p0 : List Tile) : Option Bool := if (decide ((p0.length : Int) > 1000)) = true then (some false) else ((tile_Valid.l0 k ([] : List (Tile × Bool)) 0 p0).bind fun x156 => sumb x156 (fun r => some r) (fun y205 => some true))
def decide_asks (k : Nat) (p0 : List Tile) : Option Int := (tile_Valid k p0).bind fun t207 => if (!t207) = true then (some 1) else (if (decide ((p0.length : Int) > 3)) = true then (some 2) else (some 0))
def decide_sides (p0 : List Tile) : Option Unit := some ()
def rows_Few.l0 : Nat → Int → Int → (List Tile) → Int → Option (Sum Bool Unit)
  | 0, _, _, _, _ => none
  | k + 1, x298, x299, p0, p1 => if (decide (x299 < p1)) = true then (if (decide (w64 (x298 * (maxI (p0.length : Int) 1)) > 5000)) = true then (some (.inl false)) else (rows_Few.l0 k (w64 (x298 * (maxI (p0.length : Int) 1))) (w64 (x299 + 1)) p0 p1)) else (some (.inr ()))
def rows_Few (k : Nat) (p0 : List Tile) (p1 : Int) : Option Bool := (rows_Few.l0 k 1 0 p0 p1).bind fun x300 => sumb x300 (fun r => some r) (fun y311 => some true)
def square_check (k : Nat) (p0 : List Tile) (p1 : Int) : Option Int := (tile_Valid k p0).bind fun t283 => if (!t283) = true then (some 1) else (if ((decide (p1 < 1)) || (decide (p1 > 8))) = true then (some 2) else ((rows_Few k p0 p1).bind fun t313 => if (!t313) = true then (some 4) else (some 0)))
def rows_rowOf.l0 : Nat → A8_Int → A8_Int → Int → (List Tile) → (List Int) → Option (A8_Int × A8_Int)
  | 0, _, _, _, _, _ => none
  | k + 1, a526, a527, x528, p0, p1 => if (decide (x528 < (p1.length : Int))) = true then (if 0 ≤ x528 ∧ x528 < (p1.length : Int) then (if 0 ≤ (rdD p1 x528 0) ∧ (rdD p1 x528 0) < (p0.length : Int) then (if 0 ≤ x528 ∧ x528 < (8 : Int) then (rows_rowOf.l0 k (A8_Int.set a526 x528 ((rdD p0 (rdD p1 x528 0) z_Tile).S)) (A8_Int.set a527 x528 ((rdD p0 (rdD p1 x528 0) z_Tile).N)) (w64 (x528 + 1)) p0 p1) else none) else none) else none) else (some (a526, a527))
def rows_rowOf (k : Nat) (p0 : List Tile) (p1 : List Int) : Option Row := if ([] : List Int).length + p1.length ≤ 100000000000 then ((rows_rowOf.l0 k (A8_Int.mk 0 0 0 0 0 0 0 0) (A8_Int.mk 0 0 0 0 0 0 0 0) 0 p0 p1).bind fun x531 => if 0 ≤ (0 : Int) ∧ (0 : Int) < (p1.length : Int) then (if 0 ≤ (rdD p1 (0 : Int) 0) ∧ (rdD p1 (0 : Int) 0) < (p0.length : Int) then (if 0 ≤ w64 ((p1.length : Int) - 1) ∧ w64 ((p1.length : Int) - 1) < (p1.length : Int) then (if 0 ≤ (rdD p1 (w64 ((p1.length : Int) - 1)) 0) ∧ (rdD p1 (w64 ((p1.length : Int) - 1)) 0) < (p0.length : Int) then (some (Row.mk (([] : List Int) ++ p1) x531.1 x531.2 ((rdD p0 (rdD p1 (0 : Int) 0) z_Tile).W) ((rdD p0 (rdD p1 (w64 ((p1.length : Int) - 1)) 0) z_Tile).E))) else none) else none) else none) else none) else none
def rows_All_1.l0 : Nat → (List Row) → (List Int) → Int → Int → Int → (List Tile) → (Int → Int → (List Row) → (List Tile) → (List Int) → Option ((List Row) × (List Int))) → Option ((List Row) × (List Int))
  | 0, _, _, _, _, _, _, _ => none
  | k + 1, l983, l987, x988, p0, f0, f2, rc_ => if (decide (x988 < (f2.length : Int))) = true then (if 0 ≤ x988 ∧ x988 < (f2.length : Int) then ((if (p0 == 0) = true then (some true) else (if 0 ≤ w64 (p0 - 1) ∧ w64 (p0 - 1) < (l987.length : Int) then (if 0 ≤ (rdD l987 (w64 (p0 - 1)) 0) ∧ (rdD l987 (w64 (p0 - 1)) 0) < (f2.length : Int) then (some (((rdD f2 (rdD l987 (w64 (p0 - 1)) 0) z_Tile).E) == ((rdD f2 x988 z_Tile).W))) else none) else none)).bind fun x1022 => (if x1022 = true then (if 0 ≤ p0 ∧ p0 < (l987.length : Int) then ((rc_ (w64 (p0 + 1)) f0 l983 f2 (l987.set (p0).toNat x988)).bind fun t1068 => some (t1068.1, t1068.2)) else none) else (some (l983, l987))).bind fun x1061 => rows_All_1.l0 k x1061.1 x1061.2 (w64 (x988 + 1)) p0 f0 f2 rc_) else none) else (some (l983, l987))
def rows_All_1 : Nat → Int → Int → (List Row) → (List Tile) → (List Int) → Option ((List Row) × (List Int))
  | 0, _, _, _, _, _ => none
  | k + 1, p0, f0, f1, f2, f3 => if (p0 == f0) = true then ((rows_rowOf k f2 f3).bind fun t793 => if f1.length + 1 ≤ 100000000000 then (some (f1 ++ [t793], f3)) else none) else ((rows_All_1.l0 k f1 f3 0 p0 f0 f2 (rows_All_1 k)).bind fun x996 => some (x996.1, x996.2))
def rows_All (k : Nat) (p0 : List Tile) (p1 : Int) : Option (List Row) := if 0 ≤ p1 ∧ p1 ≤ 100000000000 then ((rows_All_1 k 0 p1 ([] : List Row) p0 (List.replicate p1.toNat (0 : Int))).bind fun t1088 => some t1088.1) else none
def fill_begin.l0 : Nat → Int → Int → Int → Edges → Option (Sum ((Option Job) × Int) Unit)
  | 0, _, _, _, _ => none
  | k + 1, x1170, p1, p2, p3 => if (decide (x1170 < ([(S108.mk p3.North p1), (S108.mk p3.South p1), (S108.mk p3.East p2), (S108.mk p3.West p2)].length : Int))) = true then (if 0 ≤ x1170 ∧ x1170 < ([(S108.mk p3.North p1), (S108.mk p3.South p1), (S108.mk p3.East p2), (S108.mk p3.West p2)].length : Int) then (if (((((rdD [(S108.mk p3.North p1), (S108.mk p3.South p1), (S108.mk p3.East p2), (S108.mk p3.West p2)] x1170 z_S108).side).length : Int) != 0) && ((((rdD [(S108.mk p3.North p1), (S108.mk p3.South p1), (S108.mk p3.East p2), (S108.mk p3.West p2)] x1170 z_S108).side).length : Int) != ((rdD [(S108.mk p3.North p1), (S108.mk p3.South p1), (S108.mk p3.East p2), (S108.mk p3.West p2)] x1170 z_S108).n))) = true then (some (.inl (none, 2))) else (fill_begin.l0 k (w64 (x1170 + 1)) p1 p2 p3)) else none) else (some (.inr ()))
def fill_begin (k : Nat) (p0 : List Tile) (p1 : Int) (p2 : Int) (p3 : Edges) : Option ((Option Job) × Int) := (tile_Valid k p0).bind fun t1128 => if (!t1128) = true then (some (none, 1)) else (if ((((decide (p1 < 1)) || (decide (p1 > 8))) || (decide (p2 < 1))) || (decide (p2 > 60))) = true then (some (none, 2)) else ((fill_begin.l0 k 0 p1 p2 p3).bind fun x1171 => sumb x1171 (fun r => some r) (fun y1191 => (rows_Few k p0 p1).bind fun t1193 => if (!t1193) = true then (some (none, 4)) else ((rows_All k p0 p1).bind fun t1213 => some ((some (Job.mk t1213 p1 p2 p3)), 0)))))
def fill_at (p0 : List Int) (p1 : Int) (p2 : Int) : Option Bool := (if ((p0.length : Int) == 0) = true then (some true) else (if 0 ≤ p1 ∧ p1 < (p0.length : Int) then (some ((rdD p0 p1 0) == p2)) else none)).bind fun b1327 => some b1327
def fill_job_allows.l0 : Nat → Int → Job → Row → Int → Option (Sum Bool Unit)
  | 0, _, _, _, _ => none
  | k + 1, x1917, p0, p1, p2 => if (decide (x1917 < p0.width)) = true then ((if (p2 == 0) = true then (if (p2 == (w64 (p0.height - 1))) = true then (if 0 ≤ x1917 ∧ x1917 < (8 : Int) then ((fill_at p0.edges.South x1917 (A8_Int.get p1.South x1917)).bind fun t2099 => (if (!t2099) = true then (some true) else ((fill_at p0.edges.North x1917 (A8_Int.get p1.North x1917)).bind fun t2113 => some (!t2113))).bind fun x2110 => some x2110) else none) else (if 0 ≤ x1917 ∧ x1917 < (8 : Int) then ((fill_at p0.edges.South x1917 (A8_Int.get p1.South x1917)).bind fun t2159 => some (!t2159)) else none)) else (if (p2 == (w64 (p0.height - 1))) = true then (if 0 ≤ x1917 ∧ x1917 < (8 : Int) then ((fill_at p0.edges.North x1917 (A8_Int.get p1.North x1917)).bind fun t2183 => some (!t2183)) else none) else (some false))).bind fun x2060 => if x2060 = true then (some (.inl false)) else (fill_job_allows.l0 k (w64 (x1917 + 1)) p0 p1 p2)) else (some (.inr ()))
def fill_job_allows (k : Nat) (p0 : Job) (p1 : Row) (p2 : Int) : Option Bool := (fill_at p0.edges.West p2 p1.West).bind fun t1357 => (if (!t1357) = true then (some true) else ((fill_at p0.edges.East p2 p1.East).bind fun t1371 => some (!t1371))).bind fun x1368 => if x1368 = true then (some false) else ((fill_job_allows.l0 k 0 p0 p1 p2).bind fun x1918 => sumb x1918 (fun r => some r) (fun y2204 => some true))
def fill_First.l0 : Nat → Int → Option Unit
  | 0, _ => none
  | k + 1, p2 => if (decide (w64 (p2 - 1) ≥ 0)) = true then (if 0 ≤ w64 (p2 - 1) ∧ w64 (p2 - 1) < ((List.replicate p2.toNat (none : Option (List (A8_Int × Bool)))).length : Int) then (none) else none) else (some ())
def fill_First.l1 : Nat → Int → Option Unit
  | 0, _ => none
  | k + 1, p2 => if (decide (0 < p2)) = true then (none) else (some ())
def fill_First.l3 : Nat → (List (Option (List (A8_Int × Bool)))) → Int → Int → Edges → Job → Int → Option (List (Option (List (A8_Int × Bool))))
  | 0, _, _, _, _, _, _ => none
  | k + 1, l3683, x3685, p2, p3, y1234, x3308 => if (decide (x3685 < (y1234.rows.length : Int))) = true then (if 0 ≤ x3685 ∧ x3685 < (y1234.rows.length : Int) then ((if (x3308 == (w64 (p2 - 1))) = true then ((fill_job_allows k (Job.mk y1234.rows y1234.width y1234.height p3) (rdD y1234.rows x3685 z_Row) x3308).bind fun t3782 => some t3782) else ((fill_job_allows k (Job.mk y1234.rows y1234.width y1234.height p3) (rdD y1234.rows x3685 z_Row) x3308).bind fun t3806 => (if t3806 = true then (if 0 ≤ w64 (x3308 + 1) ∧ w64 (x3308 + 1) < (l3683.length : Int) then ((rdD l3683 (w64 (x3308 + 1)) none).bind fun m3818 => (some (mget ((rdD y1234.rows x3685 z_Row).North) false m3818))) else none) else (some false)).bind fun b3814 => some b3814)).bind fun x3764 => (if x3764 = true then (if 0 ≤ x3308 ∧ x3308 < (l3683.length : Int) then ((rdD l3683 x3308 none).bind fun m3861 => (some (l3683.set x3308.toNat (some (mput ((rdD y1234.rows x3685 z_Row).South) true m3861))))) else none) else (some l3683)).bind fun x3846 => fill_First.l3 k x3846 (w64 (x3685 + 1)) p2 p3 y1234 x3308) else none) else (some l3683)
def fill_First.l2 : Nat → (List (Option (List (A8_Int × Bool)))) → Int → Int → Edges → Job → Option (List (Option (List (A8_Int × Bool))))
  | 0, _, _, _, _, _ => none
  | k + 1, l3306, x3308, p2, p3, y1234 => if (decide (x3308 ≥ 0)) = true then (if 0 ≤ x3308 ∧ x3308 < (l3306.length : Int) then ((fill_First.l3 k (l3306.set x3308.toNat (some ([] : List (A8_Int × Bool)))) 0 p2 p3 y1234 x3308).bind fun x3690 => fill_First.l2 k x3690 (w64 (x3308 - 1)) p2 p3 y1234) else none) else (some l3306)
def fill_First.l5 : Nat → (Option Int) → Int → Int → Edges → Job → (List (Option (List (A8_Int × Bool)))) → Int → Option Int
  | 0, _, _, _, _, _, _, _ => none
  | k + 1, o5575, x5576, p2, p3, y1234, x3313, x5106 => if (decide (x5576 < (y1234.rows.length : Int))) = true then (if 0 ≤ x5576 ∧ x5576 < (y1234.rows.length : Int) then ((if (x5106 == (w64 (p2 - 1))) = true then ((fill_job_allows k (Job.mk y1234.rows y1234.width y1234.height p3) (rdD y1234.rows x5576 z_Row) x5106).bind fun t5742 => (if t5742 = true then (optM o5575 (some true) (fun i5754 => if 0 ≤ i5754 ∧ i5754 < (y1234.rows.length : Int) then (some ((((rdD y1234.rows i5754 z_Row).North).e0) == (((rdD y1234.rows x5576 z_Row).South).e0) && ((((rdD y1234.rows i5754 z_Row).North).e1) == (((rdD y1234.rows x5576 z_Row).South).e1) && ((((rdD y1234.rows i5754 z_Row).North).e2) == (((rdD y1234.rows x5576 z_Row).South).e2) && ((((rdD y1234.rows i5754 z_Row).North).e3) == (((rdD y1234.rows x5576 z_Row).South).e3) && ((((rdD y1234.rows i5754 z_Row).North).e4) == (((rdD y1234.rows x5576 z_Row).South).e4) && ((((rdD y1234.rows i5754 z_Row).North).e5) == (((rdD y1234.rows x5576 z_Row).South).e5) && ((((rdD y1234.rows i5754 z_Row).North).e6) == (((rdD y1234.rows x5576 z_Row).South).e6) && ((((rdD y1234.rows i5754 z_Row).North).e7) == (((rdD y1234.rows x5576 z_Row).South).e7)))))))))) else none)) else (some false)).bind fun b5750 => some b5750) else ((fill_job_allows k (Job.mk y1234.rows y1234.width y1234.height p3) (rdD y1234.rows x5576 z_Row) x5106).bind fun t5784 => (if t5784 = true then (optM o5575 (some true) (fun i5796 => if 0 ≤ i5796 ∧ i5796 < (y1234.rows.length : Int) then (some ((((rdD y1234.rows i5796 z_Row).North).e0) == (((rdD y1234.rows x5576 z_Row).South).e0) && ((((rdD y1234.rows i5796 z_Row).North).e1) == (((rdD y1234.rows x5576 z_Row).South).e1) && ((((rdD y1234.rows i5796 z_Row).North).e2) == (((rdD y1234.rows x5576 z_Row).South).e2) && ((((rdD y1234.rows i5796 z_Row).North).e3) == (((rdD y1234.rows x5576 z_Row).South).e3) && ((((rdD y1234.rows i5796 z_Row).North).e4) == (((rdD y1234.rows x5576 z_Row).South).e4) && ((((rdD y1234.rows i5796 z_Row).North).e5) == (((rdD y1234.rows x5576 z_Row).South).e5) && ((((rdD y1234.rows i5796 z_Row).North).e6) == (((rdD y1234.rows x5576 z_Row).South).e6) && ((((rdD y1234.rows i5796 z_Row).North).e7) == (((rdD y1234.rows x5576 z_Row).South).e7)))))))))) else none)) else (some false)).bind fun b5792 => (if b5792 = true then (if 0 ≤ w64 (x5106 + 1) ∧ w64 (x5106 + 1) < (x3313.length : Int) then ((rdD x3313 (w64 (x5106 + 1)) none).bind fun m5805 => (some (mget ((rdD y1234.rows x5576 z_Row).North) false m5805))) else none) else (some false)).bind fun b5801 => some b5801)).bind fun x5706 => if x5706 = true then (some x5576) else (fill_First.l5 k o5575 (w64 (x5576 + 1)) p2 p3 y1234 x3313 x5106)) else none) else (some (-1))
def fill_First.l4 : Nat → (List Int) → (Option Int) → Int → Int → Edges → Job → (List (Option (List (A8_Int × Bool)))) → Option (Sum (Pattern × Int) (List Int))
  | 0, _, _, _, _, _, _, _ => none
  | k + 1, l5104, o5105, x5106, p2, p3, y1234, x3313 => if (decide (x5106 < p2)) = true then ((fill_First.l5 k o5105 0 p2 p3 y1234 x3313 x5106).bind fun x5578 => if (decide (x5578 < 0)) = true then (some (.inl ((Pattern.mk 0 0 ([] : List Int)), 6))) else (if 0 ≤ x5578 ∧ x5578 < (y1234.rows.length : Int) then (if l5104.length + ((rdD y1234.rows x5578 z_Row).Cells).length ≤ 100000000000 then (fill_First.l4 k (l5104 ++ ((rdD y1234.rows x5578 z_Row).Cells)) (some x5578) (w64 (x5106 + 1)) p2 p3 y1234 x3313) else none) else none)) else (some (.inr l5104))
def fill_First (k : Nat) (p0 : List Tile) (p1 : Int) (p2 : Int) (p3 : Edges) : Option (Pattern × Int) := (fill_begin k p0 p1 p2 p3).bind fun t1225 => optM t1225.1 (if (t1225.2 != 0) = true then (some ((Pattern.mk 0 0 ([] : List Int)), t1225.2)) else (if 0 ≤ p2 ∧ p2 ≤ 100000000000 then ((fill_First.l0 k p2).bind fun x1255 => (fill_First.l1 k p2).bind fun x1281 => some ((Pattern.mk p1 p2 ([] : List Int)), 0)) else none)) (fun y1234 => if (t1225.2 != 0) = true then (some ((Pattern.mk 0 0 ([] : List Int)), t1225.2)) else (if 0 ≤ p2 ∧ p2 ≤ 100000000000 then ((fill_First.l2 k (List.replicate p2.toNat (none : Option (List (A8_Int × Bool)))) (w64 (p2 - 1)) p2 p3 y1234).bind fun x3313 => (fill_First.l4 k ([] : List Int) none 0 p2 p3 y1234 x3313).bind fun x5110 => sumb x5110 (fun r => some r) (fun y5840 => some ((Pattern.mk p1 p2 y5840), 0))) else none))
def square_exists (k : Nat) (p0 : List Tile) (p1 : Int) : Option Bool := (fill_First k p0 p1 p1 (Edges.mk ([] : List Int) ([] : List Int) ([] : List Int) ([] : List Int))).bind fun t5844 => some (t5844.2 == 0)
def square_Exists (k : Nat) (p0 : List Tile) (p1 : Int) : Option (Bool × Int) := (square_check k p0 p1).bind fun t319 => if (t319 != 0) = true then (some (false, t319)) else ((square_exists k p0 p1).bind fun t5857 => some (t5857, 0))
def decide_sides_1_y.l0 {σ : Type} : Nat → Int → σ → (List Tile) → (Int → Bool → σ → Option (σ × Bool)) → Option (Sum σ σ)
  | 0, _, _, _, _ => none
  | k + 1, x5924, s5925, f0, yf => if (decide (x5924 ≤ 8)) = true then ((square_Exists k f0 x5924).bind fun t5936 => (if (t5936.2 != 0) = true then (some (true, s5925)) else ((yf x5924 t5936.1 s5925).bind fun t5953 => some (!t5953.2, t5953.1))).bind fun x5950 => if x5950.1 = true then (some (.inl x5950.2)) else (decide_sides_1_y.l0 k (w64 (x5924 + 1)) x5950.2 f0 yf)) else (some (.inr s5925))
def decide_sides_1_y {σ : Type} (k : Nat) (f0 : List Tile) (yf : Int → Bool → σ → Option (σ × Bool)) (sY : σ) : Option σ := (decide_sides_1_y.l0 k 1 sY f0 yf).bind fun x5929 => sumb x5929 (fun r => some r) (fun y5968 => some y5968)
def torus_rings.l0 : Nat → (List Row) → Int → (List Row) → Option (List Row)
  | 0, _, _, _ => none
  | k + 1, l6136, x6138, t6022 => if (decide (x6138 < (t6022.length : Int))) = true then (if 0 ≤ x6138 ∧ x6138 < (t6022.length : Int) then ((if (((rdD t6022 x6138 z_Row).West) == ((rdD t6022 x6138 z_Row).East)) = true then (if l6136.length + 1 ≤ 100000000000 then (some (l6136 ++ [(rdD t6022 x6138 z_Row)])) else none) else (some l6136)).bind fun x6173 => torus_rings.l0 k x6173 (w64 (x6138 + 1)) t6022) else none) else (some l6136)
def torus_rings (k : Nat) (p0 : List Tile) (p1 : Int) : Option (List Row) := (rows_All k p0 p1).bind fun t6022 => (torus_rings.l0 k ([] : List Row) 0 t6022).bind fun x6143 => some x6143
def torus_back.l1 : Nat → (List (A8_Int × Bool)) → Int → (List Row) → (List (A8_Int × Bool)) → Option (List (A8_Int × Bool))
  | 0, _, _, _, _ => none
  | k + 1, l6505, x6506, p0, m6456 => if (decide (x6506 < (p0.length : Int))) = true then (if 0 ≤ x6506 ∧ x6506 < (p0.length : Int) then ((if (mget ((rdD p0 x6506 z_Row).North) false m6456) = true then (some (mput ((rdD p0 x6506 z_Row).South) true l6505)) else (some l6505)).bind fun x6526 => torus_back.l1 k x6526 (w64 (x6506 + 1)) p0 m6456) else none) else (some l6505)
def torus_back.l0 : Nat → (List (Option (List (A8_Int × Bool)))) → Int → (List Row) → Int → Option (List (Option (List (A8_Int × Bool))))
  | 0, _, _, _, _ => none
  | k + 1, l6441, x6443, p0, p2 => if (decide (x6443 < p2)) = true then (if 0 ≤ w64 ((l6441.length : Int) - 1) ∧ w64 ((l6441.length : Int) - 1) < (l6441.length : Int) then ((rdD l6441 (w64 ((l6441.length : Int) - 1)) none).bind fun m6456 => ((torus_back.l1 k ([] : List (A8_Int × Bool)) 0 p0 m6456).bind fun x6508 => if l6441.length + 1 ≤ 100000000000 then (torus_back.l0 k (l6441 ++ [some x6508]) (w64 (x6443 + 1)) p0 p2) else none)) else none) else (some l6441)
def torus_back (k : Nat) (p0 : List Row) (p1 : A8_Int) (p2 : Int) : Option (List (Option (List (A8_Int × Bool)))) := (torus_back.l0 k [some (mput p1 true ([] : List (A8_Int × Bool)))] 0 p0 p2).bind fun x6448 => some x6448
def torus_find.l2 : Nat → Int → (List Row) → ((List (A8_Int × List (Option (List (A8_Int × Bool))))) × (List (Option (List (A8_Int × Bool))))) → (List Int) → A8_Int → Int → Option ((List Int) × A8_Int)
  | 0, _, _, _, _, _, _ => none
  | k + 1, x8366, t6196, x7841, l8246, a8247, x8248 => if (decide (x8366 < (t6196.length : Int))) = true then (if 0 ≤ x8366 ∧ x8366 < (t6196.length : Int) then ((if ((((rdD t6196 x8366 z_Row).South).e0) == a8247.e0 && ((((rdD t6196 x8366 z_Row).South).e1) == a8247.e1 && ((((rdD t6196 x8366 z_Row).South).e2) == a8247.e2 && ((((rdD t6196 x8366 z_Row).South).e3) == a8247.e3 && ((((rdD t6196 x8366 z_Row).South).e4) == a8247.e4 && ((((rdD t6196 x8366 z_Row).South).e5) == a8247.e5 && ((((rdD t6196 x8366 z_Row).South).e6) == a8247.e6 && ((((rdD t6196 x8366 z_Row).South).e7) == a8247.e7)))))))) = true then (if 0 ≤ x8248 ∧ x8248 < (x7841.2.length : Int) then ((rdD x7841.2 x8248 none).bind fun m8412 => (some (mget ((rdD t6196 x8366 z_Row).North) false m8412))) else none) else (some false)).bind fun x8400 => if x8400 = true then (if l8246.length + ((rdD t6196 x8366 z_Row).Cells).length ≤ 100000000000 then (some (l8246 ++ ((rdD t6196 x8366 z_Row).Cells), ((rdD t6196 x8366 z_Row).North))) else none) else (torus_find.l2 k (w64 (x8366 + 1)) t6196 x7841 l8246 a8247 x8248)) else none) else (some (l8246, a8247))
def torus_find.l1 : Nat → (List Int) → A8_Int → Int → (List Row) → ((List (A8_Int × List (Option (List (A8_Int × Bool))))) × (List (Option (List (A8_Int × Bool))))) → Option (List Int)
  | 0, _, _, _, _, _ => none
  | k + 1, l8246, a8247, x8248, t6196, x7841 => if (decide (x8248 ≥ 0)) = true then ((torus_find.l2 k 0 t6196 x7841 l8246 a8247 x8248).bind fun x8371 => torus_find.l1 k x8371.1 x8371.2 (w64 (x8248 - 1)) t6196 x7841) else (some l8246)
def torus_find.l0 : Nat → (List (A8_Int × List (Option (List (A8_Int × Bool))))) → Int → Int → Int → (List Row) → Option (Sum (Pattern × Bool) Unit)
  | 0, _, _, _, _, _ => none
  | k + 1, l7802, x7804, p1, p2, t6196 => if (decide (x7804 < (t6196.length : Int))) = true then (if 0 ≤ x7804 ∧ x7804 < (t6196.length : Int) then ((if (!(mhas ((rdD t6196 x7804 z_Row).South) l7802)) = true then ((torus_back k t6196 ((rdD t6196 x7804 z_Row).South) (w64 (p2 - 1))).bind fun t7844 => some (mput ((rdD t6196 x7804 z_Row).South) t7844 l7802, t7844)) else (some (l7802, (mget ((rdD t6196 x7804 z_Row).South) [] l7802)))).bind fun x7841 => if 0 ≤ w64 (p2 - 1) ∧ w64 (p2 - 1) < (x7841.2.length : Int) then ((rdD x7841.2 (w64 (p2 - 1)) none).bind fun m7870 => (if (!(mget ((rdD t6196 x7804 z_Row).North) false m7870)) = true then (torus_find.l0 k x7841.1 (w64 (x7804 + 1)) p1 p2 t6196) else (if ([] : List Int).length + ((rdD t6196 x7804 z_Row).Cells).length ≤ 100000000000 then ((torus_find.l1 k (([] : List Int) ++ ((rdD t6196 x7804 z_Row).Cells)) ((rdD t6196 x7804 z_Row).North) (w64 (p2 - 2)) t6196 x7841).bind fun x8252 => some (.inl ((Pattern.mk p1 p2 x8252), true))) else none))) else none) else none) else (some (.inr ()))
def torus_find (k : Nat) (p0 : List Tile) (p1 : Int) (p2 : Int) : Option (Pattern × Bool) := (torus_rings k p0 p1).bind fun t6196 => (torus_find.l0 k ([] : List (A8_Int × List (Option (List (A8_Int × Bool))))) 0 p1 p2 t6196).bind fun x7805 => sumb x7805 (fun r => some r) (fun y8443 => some ((Pattern.mk 0 0 ([] : List Int)), false))
def torus_Least.l1 : Nat → Int → (List Tile) → Int → Int → Option (Sum (Pattern × Int) Unit)
  | 0, _, _, _, _ => none
  | k + 1, x8859, p0, p1, x8756 => if (decide (x8859 ≤ p1)) = true then ((if x8859 ≠ 0 then (if (((Int.tmod x8756 x8859) != 0) || (decide (w64 (Int.tdiv x8756 x8859) > p1))) = true then (some (.inr ())) else ((torus_find k p0 x8859 (w64 (Int.tdiv x8756 x8859))).bind fun t8893 => if t8893.2 = true then (some (.inl (t8893.1, 0))) else (some (.inr ())))) else none).bind fun x8887 => sumb x8887 (fun r => some (.inl r)) (fun y8912 => torus_Least.l1 k (w64 (x8859 + 1)) p0 p1 x8756)) else (some (.inr ()))
def torus_Least.l0 : Nat → Int → (List Tile) → Int → Option (Sum (Pattern × Int) Unit)
  | 0, _, _, _ => none
  | k + 1, x8756, p0, p1 => if (decide (x8756 ≤ w64 (p1 * p1))) = true then ((torus_Least.l1 k 1 p0 p1 x8756).bind fun x8860 => sumb x8860 (fun r => some (.inl r)) (fun y8917 => torus_Least.l0 k (w64 (x8756 + 1)) p0 p1)) else (some (.inr ()))
def torus_Least (k : Nat) (p0 : List Tile) (p1 : Int) : Option (Pattern × Int) := (tile_Valid k p0).bind fun t5989 => if (!t5989) = true then (some ((Pattern.mk 0 0 ([] : List Int)), 1)) else (if ((decide (p1 < 1)) || (decide (p1 > 6))) = true then (some ((Pattern.mk 0 0 ([] : List Int)), 2)) else ((rows_Few k p0 p1).bind fun t6004 => if (!t6004) = true then (some ((Pattern.mk 0 0 ([] : List Int)), 4)) else ((torus_Least.l0 k 1 p0 p1).bind fun x8757 => sumb x8757 (fun r => some r) (fun y8922 => some ((Pattern.mk 0 0 ([] : List Int)), 6)))))
def decide_Decide.b1 : Nat → Int → Bool → (Int × Int) → Option ((Int × Int) × Bool)
  | k, x262, x263, (x250, j265) => if j265 = 0 then (if (!x263) = true then (some ((x262, 1), false)) else (some ((x250, 0), true))) else none
def decide_Decide (k : Nat) (p0 : List Tile) : Option (Verdict × Int) := (decide_asks k p0).bind fun t214 => if (t214 != 0) = true then (some ((Verdict.mk false (Pattern.mk 0 0 ([] : List Int)) 0), t214)) else ((decide_sides p0).bind fun t229 => (decide_sides_1_y k p0 (decide_Decide.b1 k ) (0, (0 : Int))).bind fun t5970 => if (t5970.2 == 1) = true then (some ((Verdict.mk false (Pattern.mk 0 0 ([] : List Int)) t5970.1), 0)) else (if t5970.2 = 0 then ((torus_Least k p0 6).bind fun t8927 => if (t8927.2 != 0) = true then (some ((Verdict.mk false (Pattern.mk 0 0 ([] : List Int)) 0), t8927.2)) else (some ((Verdict.mk true t8927.1 0), 0))) else none))
def law09_chess  : Option (List Tile) := some [(Tile.mk 0 1 1 0), (Tile.mk 1 0 0 1)]
def ref01_Same.l0 : Nat → Int → (List Int) → (List Int) → Option (Sum Bool Unit)
  | 0, _, _, _ => none
  | k + 1, x9052, p0, p1 => if (decide (x9052 < (p0.length : Int))) = true then (if 0 ≤ x9052 ∧ x9052 < (p0.length : Int) then (if 0 ≤ x9052 ∧ x9052 < (p1.length : Int) then (if ((rdD p0 x9052 0) != (rdD p1 x9052 0)) = true then (some (.inl false)) else (ref01_Same.l0 k (w64 (x9052 + 1)) p0 p1)) else none) else none) else (some (.inr ()))
def ref01_Same (k : Nat) (p0 : List Int) (p1 : List Int) : Option Bool := if ((p0.length : Int) != (p1.length : Int)) = true then (some false) else ((ref01_Same.l0 k 0 p0 p1).bind fun x9053 => sumb x9053 (fun r => some r) (fun y9072 => some true))
def ref01_SamePattern (k : Nat) (p0 : Pattern) (p1 : Pattern) : Option Bool := (if ((p0.Width == p1.Width) && (p0.Height == p1.Height)) = true then ((ref01_Same k p0.Cells p1.Cells).bind fun t9083 => some t9083) else (some false)).bind fun x9080 => some x9080
def law09_awake (k : Nat)  : Option Bool := (decide_Decide k [(Tile.mk 0 0 1 0)]).bind fun t8954 => (law09_chess).bind fun t8972 => (decide_Decide k t8972).bind fun t8979 => (decide_Decide k ([] : List Tile)).bind fun t8992 => (if ((((((t8954.2 == 0) && (t8979.2 == 0)) && (t8992.2 == 0)) && (!t8954.1.Fills)) && (t8954.1.Side == 2)) && t8979.1.Fills) = true then ((ref01_SamePattern k t8979.1.Torus (Pattern.mk 2 2 [0, 1, 1, 0])).bind fun t9107 => some t9107) else (some false)).bind fun x9099 => some ((x9099 && (!t8992.1.Fills)) && (t8992.1.Side == 1))
def tile_Form (p0 : Pattern) : Option Bool := some ((((((decide (p0.Width ≥ 1)) && (decide (p0.Height ≥ 1))) && (decide (p0.Width ≤ 40000))) && (decide (p0.Height ≤ 40000))) && (decide (w64 (p0.Width * p0.Height) ≤ 40000))) && ((p0.Cells.length : Int) == (w64 (p0.Width * p0.Height))))
def tile_of_1 (p0 : Int) (f0 : List Tile) : Option Bool := some ((decide (p0 < 0)) || (decide (p0 ≥ (f0.length : Int))))
def slices_IndexFunc_int_int_with_tile_of_1.l0 : Nat → Int → (List Int) → (List Tile) → Option (Sum Int Unit)
  | 0, _, _, _ => none
  | k + 1, x9206, p0, p1_0 => if (decide (x9206 < (p0.length : Int))) = true then (if 0 ≤ x9206 ∧ x9206 < (p0.length : Int) then ((tile_of_1 (rdD p0 x9206 0) p1_0).bind fun t9215 => if t9215 = true then (some (.inl x9206)) else (slices_IndexFunc_int_int_with_tile_of_1.l0 k (w64 (x9206 + 1)) p0 p1_0)) else none) else (some (.inr ()))
def slices_IndexFunc_int_int_with_tile_of_1 (k : Nat) (p0 : List Int) (p1_0 : List Tile) : Option Int := (slices_IndexFunc_int_int_with_tile_of_1.l0 k 0 p0 p1_0).bind fun x9207 => sumb x9207 (fun r => some r) (fun y9224 => some (-1))
def slices_ContainsFunc_int_int_with_tile_of_1 (k : Nat) (p0 : List Int) (p1_0 : List Tile) : Option Bool := (slices_IndexFunc_int_int_with_tile_of_1 k p0 p1_0).bind fun t9226 => some (decide (t9226 ≥ 0))
def tile_of (k : Nat) (p0 : List Tile) (p1 : Pattern) : Option Bool := (tile_Valid k p0).bind fun t9149 => (if t9149 = true then ((tile_Form p1).bind fun t9177 => some t9177) else (some false)).bind fun x9174 => (if x9174 = true then ((slices_ContainsFunc_int_int_with_tile_of_1 k p1.Cells p0).bind fun t9240 => some (!t9240)) else (some false)).bind fun x9237 => some x9237
def tile_joins.l0 : Nat → Int → (List Tile) → Pattern → Bool → Option (Sum Bool Unit)
  | 0, _, _, _, _ => none
  | k + 1, x9426, p0, p1, p2 => if (decide (x9426 < (p1.Cells.length : Int))) = true then (if 0 ≤ x9426 ∧ x9426 < (p1.Cells.length : Int) then (if p1.Width ≠ 0 then ((if ((decide (w64 ((Int.tmod x9426 p1.Width) + 1) < p1.Width)) || p2) = true then (if 0 ≤ (rdD p1.Cells x9426 0) ∧ (rdD p1.Cells x9426 0) < (p0.length : Int) then (if 0 ≤ w64 ((w64 ((w64 (Int.tdiv x9426 p1.Width)) * p1.Width)) + (Int.tmod (w64 ((Int.tmod x9426 p1.Width) + 1)) p1.Width)) ∧ w64 ((w64 ((w64 (Int.tdiv x9426 p1.Width)) * p1.Width)) + (Int.tmod (w64 ((Int.tmod x9426 p1.Width) + 1)) p1.Width)) < (p1.Cells.length : Int) then (if 0 ≤ (rdD p1.Cells (w64 ((w64 ((w64 (Int.tdiv x9426 p1.Width)) * p1.Width)) + (Int.tmod (w64 ((Int.tmod x9426 p1.Width) + 1)) p1.Width))) 0) ∧ (rdD p1.Cells (w64 ((w64 ((w64 (Int.tdiv x9426 p1.Width)) * p1.Width)) + (Int.tmod (w64 ((Int.tmod x9426 p1.Width) + 1)) p1.Width))) 0) < (p0.length : Int) then (if (((rdD p0 (rdD p1.Cells x9426 0) z_Tile).E) != ((rdD p0 (rdD p1.Cells (w64 ((w64 ((w64 (Int.tdiv x9426 p1.Width)) * p1.Width)) + (Int.tmod (w64 ((Int.tmod x9426 p1.Width) + 1)) p1.Width))) 0) z_Tile).W)) = true then (some (.inl false)) else (some (.inr ()))) else none) else none) else none) else (some (.inr ()))).bind fun x9455 => sumb x9455 (fun r => some (.inl r)) (fun y9473 => (if ((decide (w64 ((w64 (Int.tdiv x9426 p1.Width)) + 1) < p1.Height)) || p2) = true then (if 0 ≤ (rdD p1.Cells x9426 0) ∧ (rdD p1.Cells x9426 0) < (p0.length : Int) then (if p1.Height ≠ 0 then (if 0 ≤ w64 ((w64 ((Int.tmod (w64 ((w64 (Int.tdiv x9426 p1.Width)) + 1)) p1.Height) * p1.Width)) + (Int.tmod x9426 p1.Width)) ∧ w64 ((w64 ((Int.tmod (w64 ((w64 (Int.tdiv x9426 p1.Width)) + 1)) p1.Height) * p1.Width)) + (Int.tmod x9426 p1.Width)) < (p1.Cells.length : Int) then (if 0 ≤ (rdD p1.Cells (w64 ((w64 ((Int.tmod (w64 ((w64 (Int.tdiv x9426 p1.Width)) + 1)) p1.Height) * p1.Width)) + (Int.tmod x9426 p1.Width))) 0) ∧ (rdD p1.Cells (w64 ((w64 ((Int.tmod (w64 ((w64 (Int.tdiv x9426 p1.Width)) + 1)) p1.Height) * p1.Width)) + (Int.tmod x9426 p1.Width))) 0) < (p0.length : Int) then (if (((rdD p0 (rdD p1.Cells x9426 0) z_Tile).N) != ((rdD p0 (rdD p1.Cells (w64 ((w64 ((Int.tmod (w64 ((w64 (Int.tdiv x9426 p1.Width)) + 1)) p1.Height) * p1.Width)) + (Int.tmod x9426 p1.Width))) 0) z_Tile).S)) = true then (some (.inl false)) else (some (.inr ()))) else none) else none) else none) else none) else (some (.inr ()))).bind fun x9493 => sumb x9493 (fun r => some (.inl r)) (fun y9514 => tile_joins.l0 k (w64 (x9426 + 1)) p0 p1 p2))) else none) else none) else (some (.inr ()))
def tile_joins (k : Nat) (p0 : List Tile) (p1 : Pattern) (p2 : Bool) : Option Bool := (tile_joins.l0 k 0 p0 p1 p2).bind fun x9427 => sumb x9427 (fun r => some r) (fun y9519 => some true)
def tile_Repeats (k : Nat) (p0 : List Tile) (p1 : Pattern) : Option Bool := (tile_of k p0 p1).bind fun t9250 => (if t9250 = true then ((tile_joins k p0 p1 true).bind fun t9530 => some t9530) else (some false)).bind fun x9527 => some x9527
def decide_Check (k : Nat) (p0 : List Tile) (p1 : Verdict) : Option (Bool × Int) := (tile_Valid k p0).bind fun t9130 => if (!t9130) = true then (some (false, 1)) else (if p1.Fills = true then ((if (p1.Side == 0) = true then ((tile_Repeats k p0 p1.Torus).bind fun t9549 => some t9549) else (some false)).bind fun x9546 => some (x9546, 0)) else (if (((p1.Torus.Width != 0) || (p1.Torus.Height != 0)) || (decide ((p1.Torus.Cells.length : Int) > 0))) = true then (some (false, 0)) else ((square_Exists k p0 p1.Side).bind fun t9564 => some ((t9564.2 == 0) && (!t9564.1), 0))))
def law09_DecideSide (k : Nat) (p0 : List Tile) (p1 : Pattern) (p2 : Int) : Option Bool := if (decide ((p0.length : Int) > 4)) = true then ((law09_awake k).bind fun t9121 => some t9121) else ((decide_Check k p0 (Verdict.mk true p1 0)).bind fun t9571 => (decide_Check k p0 (Verdict.mk false (Pattern.mk 0 0 ([] : List Int)) (w64 (1 + (Int.tmod (w64 (p2)) 8))))).bind fun t9576 => (if ((t9571.2 == t9576.2) && (!(t9571.1 && t9576.1))) = true then ((law09_awake k).bind fun t9596 => some t9596) else (some false)).bind fun x9593 => some x9593)
end Gp
namespace Gp
open Go Gw Go.Proofs Go.RowKit
def ok_Tile (a : Tile) : Prop := (ok64 a.N) ∧ (ok64 a.E) ∧ (ok64 a.S) ∧ (ok64 a.W)
theorem opn_Tile_24 {H : Type} {enc : TypeId × Value → H} {w : World} {base : Nat} {spare : Nat → Bool} {held : Bool} {fuel : Nat} {cs : List Value} {x : DataW H × List MemPlace} (h : DataW.trod enc Try.prog w base spare held fuel 24 cs = some x) : ∃ (a : Tile), cs = [.int .i64 a.N, .int .i64 a.E, .int .i64 a.S, .int .i64 a.W] ∧ ok_Tile a := by
  obtain ⟨hl, n, hf⟩ := opn_fields Try.underlying24 h
  have hl0 : cs.length = 4 := hl.trans (by kernel_rfl)
  obtain ⟨q0, r0, rfl, hl1⟩ := cons_of hl0
  obtain ⟨q1, r1, rfl, hl2⟩ := cons_of hl1
  obtain ⟨q2, r2, rfl, hl3⟩ := cons_of hl2
  obtain ⟨q3, r3, rfl, hl4⟩ := cons_of hl3
  obtain rfl := List.eq_nil_of_length_eq_zero hl4
  obtain ⟨y0, h0⟩ := hf 0 _ 1 rfl (by kernel_rfl)
  have h0 : DataW.trod enc Try.prog w base spare held n 3 [q0] = some y0 := h0
  obtain ⟨a0, e0, w0⟩ := opn_int Try.underlying3 h0
  injection e0 with f0 e0
  subst f0
  obtain ⟨y1, h1⟩ := hf 1 _ 1 rfl (by kernel_rfl)
  have h1 : DataW.trod enc Try.prog w base spare held n 3 [q1] = some y1 := h1
  obtain ⟨a1, e1, w1⟩ := opn_int Try.underlying3 h1
  injection e1 with f1 e1
  subst f1
  obtain ⟨y2, h2⟩ := hf 2 _ 1 rfl (by kernel_rfl)
  have h2 : DataW.trod enc Try.prog w base spare held n 3 [q2] = some y2 := h2
  obtain ⟨a2, e2, w2⟩ := opn_int Try.underlying3 h2
  injection e2 with f2 e2
  subst f2
  obtain ⟨y3, h3⟩ := hf 3 _ 1 rfl (by kernel_rfl)
  have h3 : DataW.trod enc Try.prog w base spare held n 3 [q3] = some y3 := h3
  obtain ⟨a3, e3, w3⟩ := opn_int Try.underlying3 h3
  injection e3 with f3 e3
  subst f3
  exact ⟨⟨a0, a1, a2, a3⟩, rfl, ⟨wf64 w0, wf64 w1, wf64 w2, wf64 w3⟩⟩
theorem opens_Tile_24 : Opens Try.prog 24 enc_Tile ok_Tile := ⟨by kernel_rfl, by decide, fun h => opn_Tile_24 h⟩
def ok_Pattern (a : Pattern) : Prop := (ok64 a.Width) ∧ (ok64 a.Height) ∧ ((∀ x ∈ a.Cells, ok64 x) ∧ a.Cells.length ≤ maxLen)
theorem opn_Pattern_38 {H : Type} {enc : TypeId × Value → H} {w : World} {base : Nat} {spare : Nat → Bool} {held : Bool} {fuel : Nat} {cs : List Value} {x : DataW H × List MemPlace} (h : DataW.trod enc Try.prog w base spare held fuel 38 cs = some x) : ∃ (a : Pattern) (A0 : Option Addr) (c0 : Nat), cs = [.int .i64 a.Width, .int .i64 a.Height, .slice A0 a.Cells.length c0] ∧ RO NoS w (rowR encInt A0 c0 a.Cells) ∧ ok_Pattern a := by
  obtain ⟨hl, n, hf⟩ := opn_fields Try.underlying38 h
  have hl0 : cs.length = 3 := hl.trans (by kernel_rfl)
  obtain ⟨q0, r0, rfl, hl1⟩ := cons_of hl0
  obtain ⟨q1, r1, rfl, hl2⟩ := cons_of hl1
  obtain ⟨q2, r2, rfl, hl3⟩ := cons_of hl2
  obtain rfl := List.eq_nil_of_length_eq_zero hl3
  obtain ⟨y0, h0⟩ := hf 0 _ 1 rfl (by kernel_rfl)
  have h0 : DataW.trod enc Try.prog w base spare held n 3 [q0] = some y0 := h0
  obtain ⟨a0, e0, w0⟩ := opn_int Try.underlying3 h0
  injection e0 with f0 e0
  subst f0
  obtain ⟨y1, h1⟩ := hf 1 _ 1 rfl (by kernel_rfl)
  have h1 : DataW.trod enc Try.prog w base spare held n 3 [q1] = some y1 := h1
  obtain ⟨a1, e1, w1⟩ := opn_int Try.underlying3 h1
  injection e1 with f1 e1
  subst f1
  obtain ⟨y2, h2⟩ := hf 2 _ 1 rfl (by kernel_rfl)
  have h2 : DataW.trod enc Try.prog w base spare held n 36 [q2] = some y2 := h2
  obtain ⟨A2_, c2_, a2, e2, o2, w2, m2⟩ := opn_row Try.underlying36 (opens_int Try.underlying3 (by kernel_rfl)) h2
  injection e2 with f2 e2
  subst f2
  exact ⟨⟨a0, a1, a2⟩, A2_, c2_, rfl, o2, ⟨wf64 w0, wf64 w1, ⟨w2, m2⟩⟩⟩
end Gp
