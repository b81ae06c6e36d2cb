/- The functions that the law reaches, as plain functions; how what comes in is opened. -/
import Derived.Test.YtmdkdigmkcpceaaGb
set_option linter.unusedVariables false
set_option linter.unusedSimpArgs false
set_option maxHeartbeats 4000000
namespace Gp
open Go Gw
abbrev iv (n : Int) : Value := .int .i64 n
abbrev pt (g : Nat) : Value := .pointer (some ⟨g, 0, none⟩)
structure Tile where
  N : Int
  E : Int
  S : Int
  W : Int
  deriving DecidableEq
def z_Tile : Tile := ⟨0, 0, 0, 0⟩
def ints_Tile (x : Tile) : List Int := [x.N, x.E, x.S, x.W]
def enc_Tile : Enc Tile := ⟨4, fun x => [(.int .i64 x.N), (.int .i64 x.E), (.int .i64 x.S), (.int .i64 x.W)], fun _ => rfl, fun x u h => by simp at h; rcases h with rfl | rfl | rfl | rfl <;> rfl⟩
structure Pattern where
  Width : Int
  Height : Int
  Cells : List Int
  deriving DecidableEq
def z_Pattern : Pattern := ⟨0, 0, []⟩
def encN_Pattern : Enc (HF × Pattern) := ⟨3, fun x => [(.int .i64 x.2.Width), (.int .i64 x.2.Height), (.slice (x.1 0).1 x.2.Cells.length (x.1 0).2)], fun _ => rfl, fun x u h => by simp at h; rcases h with rfl | rfl | rfl <;> rfl⟩
def subN_Pattern (h : HF) (x : Pattern) : Own := rowR encInt (h 0).1 (h 0).2 x.Cells
structure Verdict where
  Fills : Bool
  Torus : Pattern
  Side : Int
  deriving DecidableEq
def z_Verdict : Verdict := ⟨false, z_Pattern, 0⟩
structure Edges where
  North : List Int
  East : List Int
  South : List Int
  West : List Int
  deriving DecidableEq
def z_Edges : Edges := ⟨[], [], [], []⟩
structure A8_Int where
  e0 : Int
  e1 : Int
  e2 : Int
  e3 : Int
  e4 : Int
  e5 : Int
  e6 : Int
  e7 : Int
  deriving DecidableEq
def z_A8_Int : A8_Int := ⟨0, 0, 0, 0, 0, 0, 0, 0⟩
def A8_Int.get (a : A8_Int) (i : Int) : Int := if i = 0 then a.e0 else if i = 1 then a.e1 else if i = 2 then a.e2 else if i = 3 then a.e3 else if i = 4 then a.e4 else if i = 5 then a.e5 else if i = 6 then a.e6 else a.e7
def A8_Int.set (a : A8_Int) (i v : Int) : A8_Int := ⟨if i = 0 then v else a.e0, if i = 1 then v else a.e1, if i = 2 then v else a.e2, if i = 3 then v else a.e3, if i = 4 then v else a.e4, if i = 5 then v else a.e5, if i = 6 then v else a.e6, if i = 7 then v else a.e7⟩
def ints_A8_Int (x : A8_Int) : List Int := [x.e0, x.e1, x.e2, x.e3, x.e4, x.e5, x.e6, x.e7]
def enc_A8_Int : Enc A8_Int := ⟨8, fun x => [(.int .i64 x.e0), (.int .i64 x.e1), (.int .i64 x.e2), (.int .i64 x.e3), (.int .i64 x.e4), (.int .i64 x.e5), (.int .i64 x.e6), (.int .i64 x.e7)], fun _ => rfl, fun x u h => by simp at h; rcases h with rfl | rfl | rfl | rfl | rfl | rfl | rfl | rfl <;> rfl⟩
structure Row where
  Cells : List Int
  South : A8_Int
  North : A8_Int
  West : Int
  East : Int
  deriving DecidableEq
def z_Row : Row := ⟨[], z_A8_Int, z_A8_Int, 0, 0⟩
def encN_Row : Enc (HF × Row) := ⟨19, fun x => [(.slice (x.1 0).1 x.2.Cells.length (x.1 0).2), (.int .i64 x.2.South.e0), (.int .i64 x.2.South.e1), (.int .i64 x.2.South.e2), (.int .i64 x.2.South.e3), (.int .i64 x.2.South.e4), (.int .i64 x.2.South.e5), (.int .i64 x.2.South.e6), (.int .i64 x.2.South.e7), (.int .i64 x.2.North.e0), (.int .i64 x.2.North.e1), (.int .i64 x.2.North.e2), (.int .i64 x.2.North.e3), (.int .i64 x.2.North.e4), (.int .i64 x.2.North.e5), (.int .i64 x.2.North.e6), (.int .i64 x.2.North.e7), (.int .i64 x.2.West), (.int .i64 x.2.East)], fun _ => rfl, fun x u h => by simp at h; rcases h with rfl | rfl | rfl | rfl | rfl | rfl | rfl | rfl | rfl | rfl | rfl | rfl | rfl | rfl | rfl | rfl | rfl | rfl | rfl <;> rfl⟩
def subN_Row (h : HF) (x : Row) : Own := rowR encInt (h 0).1 (h 0).2 x.Cells
structure Job where
  rows : List Row
  width : Int
  height : Int
  edges : Edges
  deriving DecidableEq
def z_Job : Job := ⟨[], 0, 0, z_Edges⟩
structure Change where
  tile : Unit
  size : Unit
  from_ : Unit
  deriving DecidableEq
def z_Change : Change := ⟨(), (), ()⟩
structure S108 where
  side : List Int
  n : Int
  deriving DecidableEq
def z_S108 : S108 := ⟨[], 0⟩
def encN_S108 : Enc (HF × S108) := ⟨2, fun x => [(.slice (x.1 0).1 x.2.side.length (x.1 0).2), (.int .i64 x.2.n)], fun _ => rfl, fun x u h => by simp at h; rcases h with rfl | rfl <;> rfl⟩
def subN_S108 (h : HF) (x : S108) : Own := rowR encInt (h 0).1 (h 0).2 x.side
structure A3_Change where
  e0 : Change
  e1 : Change
  e2 : Change
  deriving DecidableEq
def z_A3_Change : A3_Change := ⟨z_Change, z_Change, z_Change⟩
def tile_colour_1 (p0 : Int) : Option Bool := some ((decide (p0 < 0)) || (decide (p0 ≥ 1000)))
def slices_IndexFunc_int_int_with_tile_colour_1.l0 : Nat → Int → (List Int) → Option (Sum Int Unit)
  | 0, _, _ => none
  | k + 1, x45, p0 => if (decide (x45 < (p0.length : Int))) = true then (if 0 ≤ x45 ∧ x45 < (p0.length : Int) then ((tile_colour_1 (rdD p0 x45 0)).bind fun t54 => if t54 = true then (some (.inl x45)) else (slices_IndexFunc_int_int_with_tile_colour_1.l0 k (w64 (x45 + 1)) p0)) else none) else (some (.inr ()))
def slices_IndexFunc_int_int_with_tile_colour_1 (k : Nat) (p0 : List Int) : Option Int := (slices_IndexFunc_int_int_with_tile_colour_1.l0 k 0 p0).bind fun x46 => sumb x46 (fun r => some r) (fun y63 => some (-1))
def slices_ContainsFunc_int_int_with_tile_colour_1 (k : Nat) (p0 : List Int) : Option Bool := (slices_IndexFunc_int_int_with_tile_colour_1 k p0).bind fun t65 => some (decide (t65 ≥ 0))
def tile_colour (k : Nat) (p0 : List Int) : Option Bool := (slices_ContainsFunc_int_int_with_tile_colour_1 k p0).bind fun t70 => some (!t70)
def tile_Valid.l0 : Nat → (List (Tile × Bool)) → Int → (List Tile) → Option (Sum Bool Unit)
  | 0, _, _, _ => none
  | k + 1, l144, x145, p0 => if (decide (x145 < (p0.length : Int))) = true then (if 0 ≤ x145 ∧ x145 < (p0.length : Int) then ((if (mget (rdD p0 x145 z_Tile) false l144) = true then (some true) else ((tile_colour k [(rdD p0 x145 z_Tile).N, (rdD p0 x145 z_Tile).E, (rdD p0 x145 z_Tile).S, (rdD p0 x145 z_Tile).W]).bind fun t179 => some (!t179))).bind fun x171 => if x171 = true then (some (.inl false)) else (tile_Valid.l0 k (mput (rdD p0 x145 z_Tile) true l144) (w64 (x145 + 1)) p0)) else none) else (some (.inr ()))
def tile_Valid (k : Nat) (p0 : List Tile) : Option Bool := if (decide ((p0.length : Int) > 1000)) = true then (some false) else ((tile_Valid.l0 k ([] : List (Tile × Bool)) 0 p0).bind fun x146 => sumb x146 (fun r => some r) (fun y195 => some true))
def decide_asks (k : Nat) (p0 : List Tile) : Option Int := (tile_Valid k p0).bind fun t197 => if (!t197) = true then (some 1) else (if (decide ((p0.length : Int) > 3)) = true then (some 2) else (some 0))
def decide_sides (p0 : List Tile) : Option Unit := some ()
def rows_Few.l0 : Nat → Int → Int → (List Tile) → Int → Option (Sum Bool Unit)
  | 0, _, _, _, _ => none
  | k + 1, x288, x289, p0, p1 => if (decide (x289 < p1)) = true then (if (decide (w64 (x288 * (maxI (p0.length : Int) 1)) > 5000)) = true then (some (.inl false)) else (rows_Few.l0 k (w64 (x288 * (maxI (p0.length : Int) 1))) (w64 (x289 + 1)) p0 p1)) else (some (.inr ()))
def rows_Few (k : Nat) (p0 : List Tile) (p1 : Int) : Option Bool := (rows_Few.l0 k 1 0 p0 p1).bind fun x290 => sumb x290 (fun r => some r) (fun y301 => some true)
def square_check (k : Nat) (p0 : List Tile) (p1 : Int) : Option Int := (tile_Valid k p0).bind fun t273 => if (!t273) = true then (some 1) else (if ((decide (p1 < 1)) || (decide (p1 > 8))) = true then (some 2) else ((rows_Few k p0 p1).bind fun t303 => if (!t303) = true then (some 4) else (some 0)))
def rows_rowOf.l0 : Nat → A8_Int → A8_Int → Int → (List Tile) → (List Int) → Option (A8_Int × A8_Int)
  | 0, _, _, _, _, _ => none
  | k + 1, a516, a517, x518, p0, p1 => if (decide (x518 < (p1.length : Int))) = true then (if 0 ≤ x518 ∧ x518 < (p1.length : Int) then (if 0 ≤ (rdD p1 x518 0) ∧ (rdD p1 x518 0) < (p0.length : Int) then (if 0 ≤ x518 ∧ x518 < (8 : Int) then (rows_rowOf.l0 k (A8_Int.set a516 x518 ((rdD p0 (rdD p1 x518 0) z_Tile).S)) (A8_Int.set a517 x518 ((rdD p0 (rdD p1 x518 0) z_Tile).N)) (w64 (x518 + 1)) p0 p1) else none) else none) else none) else (some (a516, a517))
def rows_rowOf (k : Nat) (p0 : List Tile) (p1 : List Int) : Option Row := if ([] : List Int).length + p1.length ≤ 100000000000 then ((rows_rowOf.l0 k (A8_Int.mk 0 0 0 0 0 0 0 0) (A8_Int.mk 0 0 0 0 0 0 0 0) 0 p0 p1).bind fun x521 => if 0 ≤ (0 : Int) ∧ (0 : Int) < (p1.length : Int) then (if 0 ≤ (rdD p1 (0 : Int) 0) ∧ (rdD p1 (0 : Int) 0) < (p0.length : Int) then (if 0 ≤ w64 ((p1.length : Int) - 1) ∧ w64 ((p1.length : Int) - 1) < (p1.length : Int) then (if 0 ≤ (rdD p1 (w64 ((p1.length : Int) - 1)) 0) ∧ (rdD p1 (w64 ((p1.length : Int) - 1)) 0) < (p0.length : Int) then (some (Row.mk (([] : List Int) ++ p1) x521.1 x521.2 ((rdD p0 (rdD p1 (0 : Int) 0) z_Tile).W) ((rdD p0 (rdD p1 (w64 ((p1.length : Int) - 1)) 0) z_Tile).E))) else none) else none) else none) else none) else none
def rows_All_1.l0 : Nat → (List Row) → (List Int) → Int → Int → Int → (List Tile) → (Int → Int → (List Row) → (List Tile) → (List Int) → Option ((List Row) × (List Int))) → Option ((List Row) × (List Int))
  | 0, _, _, _, _, _, _, _ => none
  | k + 1, l973, l977, x978, p0, f0, f2, rc_ => if (decide (x978 < (f2.length : Int))) = true then (if 0 ≤ x978 ∧ x978 < (f2.length : Int) then ((if (p0 == 0) = true then (some true) else (if 0 ≤ w64 (p0 - 1) ∧ w64 (p0 - 1) < (l977.length : Int) then (if 0 ≤ (rdD l977 (w64 (p0 - 1)) 0) ∧ (rdD l977 (w64 (p0 - 1)) 0) < (f2.length : Int) then (some (((rdD f2 (rdD l977 (w64 (p0 - 1)) 0) z_Tile).E) == ((rdD f2 x978 z_Tile).W))) else none) else none)).bind fun x1012 => (if x1012 = true then (if 0 ≤ p0 ∧ p0 < (l977.length : Int) then ((rc_ (w64 (p0 + 1)) f0 l973 f2 (l977.set (p0).toNat x978)).bind fun t1058 => some (t1058.1, t1058.2)) else none) else (some (l973, l977))).bind fun x1051 => rows_All_1.l0 k x1051.1 x1051.2 (w64 (x978 + 1)) p0 f0 f2 rc_) else none) else (some (l973, l977))
def rows_All_1 : Nat → Int → Int → (List Row) → (List Tile) → (List Int) → Option ((List Row) × (List Int))
  | 0, _, _, _, _, _ => none
  | k + 1, p0, f0, f1, f2, f3 => if (p0 == f0) = true then ((rows_rowOf k f2 f3).bind fun t783 => if f1.length + 1 ≤ 100000000000 then (some (f1 ++ [t783], f3)) else none) else ((rows_All_1.l0 k f1 f3 0 p0 f0 f2 (rows_All_1 k)).bind fun x986 => some (x986.1, x986.2))
def rows_All (k : Nat) (p0 : List Tile) (p1 : Int) : Option (List Row) := if 0 ≤ p1 ∧ p1 ≤ 100000000000 then ((rows_All_1 k 0 p1 ([] : List Row) p0 (List.replicate p1.toNat (0 : Int))).bind fun t1078 => some t1078.1) else none
def fill_begin.l0 : Nat → Int → Int → Int → Edges → Option (Sum ((Option Job) × Int) Unit)
  | 0, _, _, _, _ => none
  | k + 1, x1160, p1, p2, p3 => if (decide (x1160 < ([(S108.mk p3.North p1), (S108.mk p3.South p1), (S108.mk p3.East p2), (S108.mk p3.West p2)].length : Int))) = true then (if 0 ≤ x1160 ∧ x1160 < ([(S108.mk p3.North p1), (S108.mk p3.South p1), (S108.mk p3.East p2), (S108.mk p3.West p2)].length : Int) then (if (((((rdD [(S108.mk p3.North p1), (S108.mk p3.South p1), (S108.mk p3.East p2), (S108.mk p3.West p2)] x1160 z_S108).side).length : Int) != 0) && ((((rdD [(S108.mk p3.North p1), (S108.mk p3.South p1), (S108.mk p3.East p2), (S108.mk p3.West p2)] x1160 z_S108).side).length : Int) != ((rdD [(S108.mk p3.North p1), (S108.mk p3.South p1), (S108.mk p3.East p2), (S108.mk p3.West p2)] x1160 z_S108).n))) = true then (some (.inl (none, 2))) else (fill_begin.l0 k (w64 (x1160 + 1)) p1 p2 p3)) else none) else (some (.inr ()))
def fill_begin (k : Nat) (p0 : List Tile) (p1 : Int) (p2 : Int) (p3 : Edges) : Option ((Option Job) × Int) := (tile_Valid k p0).bind fun t1118 => if (!t1118) = true then (some (none, 1)) else (if ((((decide (p1 < 1)) || (decide (p1 > 8))) || (decide (p2 < 1))) || (decide (p2 > 60))) = true then (some (none, 2)) else ((fill_begin.l0 k 0 p1 p2 p3).bind fun x1161 => sumb x1161 (fun r => some r) (fun y1181 => (rows_Few k p0 p1).bind fun t1183 => if (!t1183) = true then (some (none, 4)) else ((rows_All k p0 p1).bind fun t1203 => some ((some (Job.mk t1203 p1 p2 p3)), 0)))))
def fill_at (p0 : List Int) (p1 : Int) (p2 : Int) : Option Bool := (if ((p0.length : Int) == 0) = true then (some true) else (if 0 ≤ p1 ∧ p1 < (p0.length : Int) then (some ((rdD p0 p1 0) == p2)) else none)).bind fun b1317 => some b1317
def fill_job_allows.l0 : Nat → Int → Job → Row → Int → Option (Sum Bool Unit)
  | 0, _, _, _, _ => none
  | k + 1, x1907, p0, p1, p2 => if (decide (x1907 < p0.width)) = true then ((if (p2 == 0) = true then (if (p2 == (w64 (p0.height - 1))) = true then (if 0 ≤ x1907 ∧ x1907 < (8 : Int) then ((fill_at p0.edges.South x1907 (A8_Int.get p1.South x1907)).bind fun t2089 => (if (!t2089) = true then (some true) else ((fill_at p0.edges.North x1907 (A8_Int.get p1.North x1907)).bind fun t2103 => some (!t2103))).bind fun x2100 => some x2100) else none) else (if 0 ≤ x1907 ∧ x1907 < (8 : Int) then ((fill_at p0.edges.South x1907 (A8_Int.get p1.South x1907)).bind fun t2149 => some (!t2149)) else none)) else (if (p2 == (w64 (p0.height - 1))) = true then (if 0 ≤ x1907 ∧ x1907 < (8 : Int) then ((fill_at p0.edges.North x1907 (A8_Int.get p1.North x1907)).bind fun t2173 => some (!t2173)) else none) else (some false))).bind fun x2050 => if x2050 = true then (some (.inl false)) else (fill_job_allows.l0 k (w64 (x1907 + 1)) p0 p1 p2)) else (some (.inr ()))
def fill_job_allows (k : Nat) (p0 : Job) (p1 : Row) (p2 : Int) : Option Bool := (fill_at p0.edges.West p2 p1.West).bind fun t1347 => (if (!t1347) = true then (some true) else ((fill_at p0.edges.East p2 p1.East).bind fun t1361 => some (!t1361))).bind fun x1358 => if x1358 = true then (some false) else ((fill_job_allows.l0 k 0 p0 p1 p2).bind fun x1908 => sumb x1908 (fun r => some r) (fun y2194 => some true))
def fill_First.l0 : Nat → Int → Option Unit
  | 0, _ => none
  | k + 1, p2 => if (decide (w64 (p2 - 1) ≥ 0)) = true then (if 0 ≤ w64 (p2 - 1) ∧ w64 (p2 - 1) < ((List.replicate p2.toNat (none : Option (List (A8_Int × Bool)))).length : Int) then (none) else none) else (some ())
def fill_First.l1 : Nat → Int → Option Unit
  | 0, _ => none
  | k + 1, p2 => if (decide (0 < p2)) = true then (none) else (some ())
def fill_First.l3 : Nat → (List (Option (List (A8_Int × Bool)))) → Int → Int → Edges → Job → Int → Option (List (Option (List (A8_Int × Bool))))
  | 0, _, _, _, _, _, _ => none
  | k + 1, l3673, x3675, p2, p3, y1224, x3298 => if (decide (x3675 < (y1224.rows.length : Int))) = true then (if 0 ≤ x3675 ∧ x3675 < (y1224.rows.length : Int) then ((if (x3298 == (w64 (p2 - 1))) = true then ((fill_job_allows k (Job.mk y1224.rows y1224.width y1224.height p3) (rdD y1224.rows x3675 z_Row) x3298).bind fun t3772 => some t3772) else ((fill_job_allows k (Job.mk y1224.rows y1224.width y1224.height p3) (rdD y1224.rows x3675 z_Row) x3298).bind fun t3796 => (if t3796 = true then (if 0 ≤ w64 (x3298 + 1) ∧ w64 (x3298 + 1) < (l3673.length : Int) then ((rdD l3673 (w64 (x3298 + 1)) none).bind fun m3808 => (some (mget ((rdD y1224.rows x3675 z_Row).North) false m3808))) else none) else (some false)).bind fun b3804 => some b3804)).bind fun x3754 => (if x3754 = true then (if 0 ≤ x3298 ∧ x3298 < (l3673.length : Int) then ((rdD l3673 x3298 none).bind fun m3851 => (some (l3673.set x3298.toNat (some (mput ((rdD y1224.rows x3675 z_Row).South) true m3851))))) else none) else (some l3673)).bind fun x3836 => fill_First.l3 k x3836 (w64 (x3675 + 1)) p2 p3 y1224 x3298) else none) else (some l3673)
def fill_First.l2 : Nat → (List (Option (List (A8_Int × Bool)))) → Int → Int → Edges → Job → Option (List (Option (List (A8_Int × Bool))))
  | 0, _, _, _, _, _ => none
  | k + 1, l3296, x3298, p2, p3, y1224 => if (decide (x3298 ≥ 0)) = true then (if 0 ≤ x3298 ∧ x3298 < (l3296.length : Int) then ((fill_First.l3 k (l3296.set x3298.toNat (some ([] : List (A8_Int × Bool)))) 0 p2 p3 y1224 x3298).bind fun x3680 => fill_First.l2 k x3680 (w64 (x3298 - 1)) p2 p3 y1224) else none) else (some l3296)
def fill_First.l5 : Nat → (Option Int) → Int → Int → Edges → Job → (List (Option (List (A8_Int × Bool)))) → Int → Option Int
  | 0, _, _, _, _, _, _, _ => none
  | k + 1, o5565, x5566, p2, p3, y1224, x3303, x5096 => if (decide (x5566 < (y1224.rows.length : Int))) = true then (if 0 ≤ x5566 ∧ x5566 < (y1224.rows.length : Int) then ((if (x5096 == (w64 (p2 - 1))) = true then ((fill_job_allows k (Job.mk y1224.rows y1224.width y1224.height p3) (rdD y1224.rows x5566 z_Row) x5096).bind fun t5732 => (if t5732 = true then (optM o5565 (some true) (fun i5744 => if 0 ≤ i5744 ∧ i5744 < (y1224.rows.length : Int) then (some ((((rdD y1224.rows i5744 z_Row).North).e0) == (((rdD y1224.rows x5566 z_Row).South).e0) && ((((rdD y1224.rows i5744 z_Row).North).e1) == (((rdD y1224.rows x5566 z_Row).South).e1) && ((((rdD y1224.rows i5744 z_Row).North).e2) == (((rdD y1224.rows x5566 z_Row).South).e2) && ((((rdD y1224.rows i5744 z_Row).North).e3) == (((rdD y1224.rows x5566 z_Row).South).e3) && ((((rdD y1224.rows i5744 z_Row).North).e4) == (((rdD y1224.rows x5566 z_Row).South).e4) && ((((rdD y1224.rows i5744 z_Row).North).e5) == (((rdD y1224.rows x5566 z_Row).South).e5) && ((((rdD y1224.rows i5744 z_Row).North).e6) == (((rdD y1224.rows x5566 z_Row).South).e6) && ((((rdD y1224.rows i5744 z_Row).North).e7) == (((rdD y1224.rows x5566 z_Row).South).e7)))))))))) else none)) else (some false)).bind fun b5740 => some b5740) else ((fill_job_allows k (Job.mk y1224.rows y1224.width y1224.height p3) (rdD y1224.rows x5566 z_Row) x5096).bind fun t5774 => (if t5774 = true then (optM o5565 (some true) (fun i5786 => if 0 ≤ i5786 ∧ i5786 < (y1224.rows.length : Int) then (some ((((rdD y1224.rows i5786 z_Row).North).e0) == (((rdD y1224.rows x5566 z_Row).South).e0) && ((((rdD y1224.rows i5786 z_Row).North).e1) == (((rdD y1224.rows x5566 z_Row).South).e1) && ((((rdD y1224.rows i5786 z_Row).North).e2) == (((rdD y1224.rows x5566 z_Row).South).e2) && ((((rdD y1224.rows i5786 z_Row).North).e3) == (((rdD y1224.rows x5566 z_Row).South).e3) && ((((rdD y1224.rows i5786 z_Row).North).e4) == (((rdD y1224.rows x5566 z_Row).South).e4) && ((((rdD y1224.rows i5786 z_Row).North).e5) == (((rdD y1224.rows x5566 z_Row).South).e5) && ((((rdD y1224.rows i5786 z_Row).North).e6) == (((rdD y1224.rows x5566 z_Row).South).e6) && ((((rdD y1224.rows i5786 z_Row).North).e7) == (((rdD y1224.rows x5566 z_Row).South).e7)))))))))) else none)) else (some false)).bind fun b5782 => (if b5782 = true then (if 0 ≤ w64 (x5096 + 1) ∧ w64 (x5096 + 1) < (x3303.length : Int) then ((rdD x3303 (w64 (x5096 + 1)) none).bind fun m5795 => (some (mget ((rdD y1224.rows x5566 z_Row).North) false m5795))) else none) else (some false)).bind fun b5791 => some b5791)).bind fun x5696 => if x5696 = true then (some x5566) else (fill_First.l5 k o5565 (w64 (x5566 + 1)) p2 p3 y1224 x3303 x5096)) else none) else (some (-1))
def fill_First.l4 : Nat → (List Int) → (Option Int) → Int → Int → Edges → Job → (List (Option (List (A8_Int × Bool)))) → Option (Sum (Pattern × Int) (List Int))
  | 0, _, _, _, _, _, _, _ => none
  | k + 1, l5094, o5095, x5096, p2, p3, y1224, x3303 => if (decide (x5096 < p2)) = true then ((fill_First.l5 k o5095 0 p2 p3 y1224 x3303 x5096).bind fun x5568 => if (decide (x5568 < 0)) = true then (some (.inl ((Pattern.mk 0 0 ([] : List Int)), 6))) else (if 0 ≤ x5568 ∧ x5568 < (y1224.rows.length : Int) then (if l5094.length + ((rdD y1224.rows x5568 z_Row).Cells).length ≤ 100000000000 then (fill_First.l4 k (l5094 ++ ((rdD y1224.rows x5568 z_Row).Cells)) (some x5568) (w64 (x5096 + 1)) p2 p3 y1224 x3303) else none) else none)) else (some (.inr l5094))
def fill_First (k : Nat) (p0 : List Tile) (p1 : Int) (p2 : Int) (p3 : Edges) : Option (Pattern × Int) := (fill_begin k p0 p1 p2 p3).bind fun t1215 => optM t1215.1 (if (t1215.2 != 0) = true then (some ((Pattern.mk 0 0 ([] : List Int)), t1215.2)) else (if 0 ≤ p2 ∧ p2 ≤ 100000000000 then ((fill_First.l0 k p2).bind fun x1245 => (fill_First.l1 k p2).bind fun x1271 => some ((Pattern.mk p1 p2 ([] : List Int)), 0)) else none)) (fun y1224 => if (t1215.2 != 0) = true then (some ((Pattern.mk 0 0 ([] : List Int)), t1215.2)) else (if 0 ≤ p2 ∧ p2 ≤ 100000000000 then ((fill_First.l2 k (List.replicate p2.toNat (none : Option (List (A8_Int × Bool)))) (w64 (p2 - 1)) p2 p3 y1224).bind fun x3303 => (fill_First.l4 k ([] : List Int) none 0 p2 p3 y1224 x3303).bind fun x5100 => sumb x5100 (fun r => some r) (fun y5830 => some ((Pattern.mk p1 p2 y5830), 0))) else none))
def square_exists (k : Nat) (p0 : List Tile) (p1 : Int) : Option Bool := (fill_First k p0 p1 p1 (Edges.mk ([] : List Int) ([] : List Int) ([] : List Int) ([] : List Int))).bind fun t5834 => some (t5834.2 == 0)
def square_Exists (k : Nat) (p0 : List Tile) (p1 : Int) : Option (Bool × Int) := (square_check k p0 p1).bind fun t309 => if (t309 != 0) = true then (some (false, t309)) else ((square_exists k p0 p1).bind fun t5847 => some (t5847, 0))
def decide_sides_1_y.l0 {σ : Type} : Nat → Int → σ → (List Tile) → (Int → Bool → σ → Option (σ × Bool)) → Option (Sum σ σ)
  | 0, _, _, _, _ => none
  | k + 1, x5914, s5915, f0, yf => if (decide (x5914 ≤ 8)) = true then ((square_Exists k f0 x5914).bind fun t5926 => (if (t5926.2 != 0) = true then (some (true, s5915)) else ((yf x5914 t5926.1 s5915).bind fun t5943 => some (!t5943.2, t5943.1))).bind fun x5940 => if x5940.1 = true then (some (.inl x5940.2)) else (decide_sides_1_y.l0 k (w64 (x5914 + 1)) x5940.2 f0 yf)) else (some (.inr s5915))
def decide_sides_1_y {σ : Type} (k : Nat) (f0 : List Tile) (yf : Int → Bool → σ → Option (σ × Bool)) (sY : σ) : Option σ := (decide_sides_1_y.l0 k 1 sY f0 yf).bind fun x5919 => sumb x5919 (fun r => some r) (fun y5958 => some y5958)
def torus_rings.l0 : Nat → (List Row) → Int → (List Row) → Option (List Row)
  | 0, _, _, _ => none
  | k + 1, l6126, x6128, t6012 => if (decide (x6128 < (t6012.length : Int))) = true then (if 0 ≤ x6128 ∧ x6128 < (t6012.length : Int) then ((if (((rdD t6012 x6128 z_Row).West) == ((rdD t6012 x6128 z_Row).East)) = true then (if l6126.length + 1 ≤ 100000000000 then (some (l6126 ++ [(rdD t6012 x6128 z_Row)])) else none) else (some l6126)).bind fun x6163 => torus_rings.l0 k x6163 (w64 (x6128 + 1)) t6012) else none) else (some l6126)
def torus_rings (k : Nat) (p0 : List Tile) (p1 : Int) : Option (List Row) := (rows_All k p0 p1).bind fun t6012 => (torus_rings.l0 k ([] : List Row) 0 t6012).bind fun x6133 => some x6133
def torus_back.l1 : Nat → (List (A8_Int × Bool)) → Int → (List Row) → (List (A8_Int × Bool)) → Option (List (A8_Int × Bool))
  | 0, _, _, _, _ => none
  | k + 1, l6495, x6496, p0, m6446 => if (decide (x6496 < (p0.length : Int))) = true then (if 0 ≤ x6496 ∧ x6496 < (p0.length : Int) then ((if (mget ((rdD p0 x6496 z_Row).North) false m6446) = true then (some (mput ((rdD p0 x6496 z_Row).South) true l6495)) else (some l6495)).bind fun x6516 => torus_back.l1 k x6516 (w64 (x6496 + 1)) p0 m6446) else none) else (some l6495)
def torus_back.l0 : Nat → (List (Option (List (A8_Int × Bool)))) → Int → (List Row) → Int → Option (List (Option (List (A8_Int × Bool))))
  | 0, _, _, _, _ => none
  | k + 1, l6431, x6433, p0, p2 => if (decide (x6433 < p2)) = true then (if 0 ≤ w64 ((l6431.length : Int) - 1) ∧ w64 ((l6431.length : Int) - 1) < (l6431.length : Int) then ((rdD l6431 (w64 ((l6431.length : Int) - 1)) none).bind fun m6446 => ((torus_back.l1 k ([] : List (A8_Int × Bool)) 0 p0 m6446).bind fun x6498 => if l6431.length + 1 ≤ 100000000000 then (torus_back.l0 k (l6431 ++ [some x6498]) (w64 (x6433 + 1)) p0 p2) else none)) else none) else (some l6431)
def torus_back (k : Nat) (p0 : List Row) (p1 : A8_Int) (p2 : Int) : Option (List (Option (List (A8_Int × Bool)))) := (torus_back.l0 k [some (mput p1 true ([] : List (A8_Int × Bool)))] 0 p0 p2).bind fun x6438 => some x6438
def torus_find.l2 : Nat → Int → (List Row) → ((List (A8_Int × List (Option (List (A8_Int × Bool))))) × (List (Option (List (A8_Int × Bool))))) → (List Int) → A8_Int → Int → Option ((List Int) × A8_Int)
  | 0, _, _, _, _, _, _ => none
  | k + 1, x8356, t6186, x7831, l8236, a8237, x8238 => if (decide (x8356 < (t6186.length : Int))) = true then (if 0 ≤ x8356 ∧ x8356 < (t6186.length : Int) then ((if ((((rdD t6186 x8356 z_Row).South).e0) == a8237.e0 && ((((rdD t6186 x8356 z_Row).South).e1) == a8237.e1 && ((((rdD t6186 x8356 z_Row).South).e2) == a8237.e2 && ((((rdD t6186 x8356 z_Row).South).e3) == a8237.e3 && ((((rdD t6186 x8356 z_Row).South).e4) == a8237.e4 && ((((rdD t6186 x8356 z_Row).South).e5) == a8237.e5 && ((((rdD t6186 x8356 z_Row).South).e6) == a8237.e6 && ((((rdD t6186 x8356 z_Row).South).e7) == a8237.e7)))))))) = true then (if 0 ≤ x8238 ∧ x8238 < (x7831.2.length : Int) then ((rdD x7831.2 x8238 none).bind fun m8402 => (some (mget ((rdD t6186 x8356 z_Row).North) false m8402))) else none) else (some false)).bind fun x8390 => if x8390 = true then (if l8236.length + ((rdD t6186 x8356 z_Row).Cells).length ≤ 100000000000 then (some (l8236 ++ ((rdD t6186 x8356 z_Row).Cells), ((rdD t6186 x8356 z_Row).North))) else none) else (torus_find.l2 k (w64 (x8356 + 1)) t6186 x7831 l8236 a8237 x8238)) else none) else (some (l8236, a8237))
def torus_find.l1 : Nat → (List Int) → A8_Int → Int → (List Row) → ((List (A8_Int × List (Option (List (A8_Int × Bool))))) × (List (Option (List (A8_Int × Bool))))) → Option (List Int)
  | 0, _, _, _, _, _ => none
  | k + 1, l8236, a8237, x8238, t6186, x7831 => if (decide (x8238 ≥ 0)) = true then ((torus_find.l2 k 0 t6186 x7831 l8236 a8237 x8238).bind fun x8361 => torus_find.l1 k x8361.1 x8361.2 (w64 (x8238 - 1)) t6186 x7831) else (some l8236)
def torus_find.l0 : Nat → (List (A8_Int × List (Option (List (A8_Int × Bool))))) → Int → Int → Int → (List Row) → Option (Sum (Pattern × Bool) Unit)
  | 0, _, _, _, _, _ => none
  | k + 1, l7792, x7794, p1, p2, t6186 => if (decide (x7794 < (t6186.length : Int))) = true then (if 0 ≤ x7794 ∧ x7794 < (t6186.length : Int) then ((if (!(mhas ((rdD t6186 x7794 z_Row).South) l7792)) = true then ((torus_back k t6186 ((rdD t6186 x7794 z_Row).South) (w64 (p2 - 1))).bind fun t7834 => some (mput ((rdD t6186 x7794 z_Row).South) t7834 l7792, t7834)) else (some (l7792, (mget ((rdD t6186 x7794 z_Row).South) [] l7792)))).bind fun x7831 => if 0 ≤ w64 (p2 - 1) ∧ w64 (p2 - 1) < (x7831.2.length : Int) then ((rdD x7831.2 (w64 (p2 - 1)) none).bind fun m7860 => (if (!(mget ((rdD t6186 x7794 z_Row).North) false m7860)) = true then (torus_find.l0 k x7831.1 (w64 (x7794 + 1)) p1 p2 t6186) else (if ([] : List Int).length + ((rdD t6186 x7794 z_Row).Cells).length ≤ 100000000000 then ((torus_find.l1 k (([] : List Int) ++ ((rdD t6186 x7794 z_Row).Cells)) ((rdD t6186 x7794 z_Row).North) (w64 (p2 - 2)) t6186 x7831).bind fun x8242 => some (.inl ((Pattern.mk p1 p2 x8242), true))) else none))) else none) else none) else (some (.inr ()))
def torus_find (k : Nat) (p0 : List Tile) (p1 : Int) (p2 : Int) : Option (Pattern × Bool) := (torus_rings k p0 p1).bind fun t6186 => (torus_find.l0 k ([] : List (A8_Int × List (Option (List (A8_Int × Bool))))) 0 p1 p2 t6186).bind fun x7795 => sumb x7795 (fun r => some r) (fun y8433 => some ((Pattern.mk 0 0 ([] : List Int)), false))
def torus_Least.l1 : Nat → Int → (List Tile) → Int → Int → Option (Sum (Pattern × Int) Unit)
  | 0, _, _, _, _ => none
  | k + 1, x8849, p0, p1, x8746 => if (decide (x8849 ≤ p1)) = true then ((if x8849 ≠ 0 then (if (((Int.tmod x8746 x8849) != 0) || (decide (w64 (Int.tdiv x8746 x8849) > p1))) = true then (some (.inr ())) else ((torus_find k p0 x8849 (w64 (Int.tdiv x8746 x8849))).bind fun t8883 => if t8883.2 = true then (some (.inl (t8883.1, 0))) else (some (.inr ())))) else none).bind fun x8877 => sumb x8877 (fun r => some (.inl r)) (fun y8902 => torus_Least.l1 k (w64 (x8849 + 1)) p0 p1 x8746)) else (some (.inr ()))
def torus_Least.l0 : Nat → Int → (List Tile) → Int → Option (Sum (Pattern × Int) Unit)
  | 0, _, _, _ => none
  | k + 1, x8746, p0, p1 => if (decide (x8746 ≤ w64 (p1 * p1))) = true then ((torus_Least.l1 k 1 p0 p1 x8746).bind fun x8850 => sumb x8850 (fun r => some (.inl r)) (fun y8907 => torus_Least.l0 k (w64 (x8746 + 1)) p0 p1)) else (some (.inr ()))
def torus_Least (k : Nat) (p0 : List Tile) (p1 : Int) : Option (Pattern × Int) := (tile_Valid k p0).bind fun t5979 => if (!t5979) = true then (some ((Pattern.mk 0 0 ([] : List Int)), 1)) else (if ((decide (p1 < 1)) || (decide (p1 > 6))) = true then (some ((Pattern.mk 0 0 ([] : List Int)), 2)) else ((rows_Few k p0 p1).bind fun t5994 => if (!t5994) = true then (some ((Pattern.mk 0 0 ([] : List Int)), 4)) else ((torus_Least.l0 k 1 p0 p1).bind fun x8747 => sumb x8747 (fun r => some r) (fun y8912 => some ((Pattern.mk 0 0 ([] : List Int)), 6)))))
def decide_Decide.b1 : Nat → Int → Bool → (Int × Int) → Option ((Int × Int) × Bool)
  | k, x252, x253, (x240, j255) => if j255 = 0 then (if (!x253) = true then (some ((x252, 1), false)) else (some ((x240, 0), true))) else none
def decide_Decide (k : Nat) (p0 : List Tile) : Option (Verdict × Int) := (decide_asks k p0).bind fun t204 => if (t204 != 0) = true then (some ((Verdict.mk false (Pattern.mk 0 0 ([] : List Int)) 0), t204)) else ((decide_sides p0).bind fun t219 => (decide_sides_1_y k p0 (decide_Decide.b1 k ) (0, (0 : Int))).bind fun t5960 => if (t5960.2 == 1) = true then (some ((Verdict.mk false (Pattern.mk 0 0 ([] : List Int)) t5960.1), 0)) else (if t5960.2 = 0 then ((torus_Least k p0 6).bind fun t8917 => if (t8917.2 != 0) = true then (some ((Verdict.mk false (Pattern.mk 0 0 ([] : List Int)) 0), t8917.2)) else (some ((Verdict.mk true t8917.1 0), 0))) else none))
def decide_Fills (k : Nat) (p0 : List Tile) : Option (Bool × Int) := (decide_Decide k p0).bind fun t8944 => some (t8944.1.Fills, t8944.2)
def law09_chess  : Option (List Tile) := some [(Tile.mk 0 1 1 0), (Tile.mk 1 0 0 1)]
def ref01_Same.l0 : Nat → Int → (List Int) → (List Int) → Option (Sum Bool Unit)
  | 0, _, _, _ => none
  | k + 1, x9066, p0, p1 => if (decide (x9066 < (p0.length : Int))) = true then (if 0 ≤ x9066 ∧ x9066 < (p0.length : Int) then (if 0 ≤ x9066 ∧ x9066 < (p1.length : Int) then (if ((rdD p0 x9066 0) != (rdD p1 x9066 0)) = true then (some (.inl false)) else (ref01_Same.l0 k (w64 (x9066 + 1)) p0 p1)) else none) else none) else (some (.inr ()))
def ref01_Same (k : Nat) (p0 : List Int) (p1 : List Int) : Option Bool := if ((p0.length : Int) != (p1.length : Int)) = true then (some false) else ((ref01_Same.l0 k 0 p0 p1).bind fun x9067 => sumb x9067 (fun r => some r) (fun y9086 => some true))
def ref01_SamePattern (k : Nat) (p0 : Pattern) (p1 : Pattern) : Option Bool := (if ((p0.Width == p1.Width) && (p0.Height == p1.Height)) = true then ((ref01_Same k p0.Cells p1.Cells).bind fun t9097 => some t9097) else (some false)).bind fun x9094 => some x9094
def law09_awake (k : Nat)  : Option Bool := (decide_Decide k [(Tile.mk 0 0 1 0)]).bind fun t8968 => (law09_chess).bind fun t8986 => (decide_Decide k t8986).bind fun t8993 => (decide_Decide k ([] : List Tile)).bind fun t9006 => (if ((((((t8968.2 == 0) && (t8993.2 == 0)) && (t9006.2 == 0)) && (!t8968.1.Fills)) && (t8968.1.Side == 2)) && t8993.1.Fills) = true then ((ref01_SamePattern k t8993.1.Torus (Pattern.mk 2 2 [0, 1, 1, 0])).bind fun t9121 => some t9121) else (some false)).bind fun x9113 => some ((x9113 && (!t9006.1.Fills)) && (t9006.1.Side == 1))
def tile_changes  : Option A3_Change := some (A3_Change.mk (Change.mk () () ()) (Change.mk () () ()) (Change.mk () () ()))
def tile_changes_1 (p0 : Tile) : Option Tile := some (Tile.mk p0.N p0.W p0.S p0.E)
def tile_changed_at0.l0 : Nat → (List Tile) → Int → (List Tile) → Option (List Tile)
  | 0, _, _, _ => none
  | k + 1, l9273, x9274, p0 => if (decide (x9274 < (p0.length : Int))) = true then (if 0 ≤ x9274 ∧ x9274 < (p0.length : Int) then ((tile_changes).bind fun t9314 => (tile_changes_1 (rdD p0 x9274 z_Tile)).bind fun t9319 => if l9273.length + [t9319].length ≤ 100000000000 then (tile_changed_at0.l0 k (l9273 ++ [t9319]) (w64 (x9274 + 1)) p0) else none) else none) else (some l9273)
def tile_changed_at0 (k : Nat) (p0 : List Tile) : Option ((List Tile) × Int) := (tile_Valid k p0).bind fun t9140 => if (!t9140) = true then (some (([] : List Tile), 1)) else ((tile_changed_at0.l0 k ([] : List Tile) 0 p0).bind fun x9278 => some (x9278, 0))
def tile_Mirror (k : Nat) (p0 : List Tile) : Option ((List Tile) × Int) := (tile_changed_at0 k p0).bind fun t9338 => some (t9338.1, t9338.2)
def tile_changes_3 (p0 : Tile) : Option Tile := some (Tile.mk p0.S p0.E p0.N p0.W)
def tile_changed_at1.l0 : Nat → (List Tile) → Int → (List Tile) → Option (List Tile)
  | 0, _, _, _ => none
  | k + 1, l9479, x9480, p0 => if (decide (x9480 < (p0.length : Int))) = true then (if 0 ≤ x9480 ∧ x9480 < (p0.length : Int) then ((tile_changes).bind fun t9520 => (tile_changes_3 (rdD p0 x9480 z_Tile)).bind fun t9525 => if l9479.length + [t9525].length ≤ 100000000000 then (tile_changed_at1.l0 k (l9479 ++ [t9525]) (w64 (x9480 + 1)) p0) else none) else none) else (some l9479)
def tile_changed_at1 (k : Nat) (p0 : List Tile) : Option ((List Tile) × Int) := (tile_Valid k p0).bind fun t9352 => if (!t9352) = true then (some (([] : List Tile), 1)) else ((tile_changed_at1.l0 k ([] : List Tile) 0 p0).bind fun x9484 => some (x9484, 0))
def tile_Upturn (k : Nat) (p0 : List Tile) : Option ((List Tile) × Int) := (tile_changed_at1 k p0).bind fun t9544 => some (t9544.1, t9544.2)
def tile_changes_5 (p0 : Tile) : Option Tile := some (Tile.mk p0.W p0.N p0.E p0.S)
def tile_changed_at2.l0 : Nat → (List Tile) → Int → (List Tile) → Option (List Tile)
  | 0, _, _, _ => none
  | k + 1, l9685, x9686, p0 => if (decide (x9686 < (p0.length : Int))) = true then (if 0 ≤ x9686 ∧ x9686 < (p0.length : Int) then ((tile_changes).bind fun t9726 => (tile_changes_5 (rdD p0 x9686 z_Tile)).bind fun t9731 => if l9685.length + [t9731].length ≤ 100000000000 then (tile_changed_at2.l0 k (l9685 ++ [t9731]) (w64 (x9686 + 1)) p0) else none) else none) else (some l9685)
def tile_changed_at2 (k : Nat) (p0 : List Tile) : Option ((List Tile) × Int) := (tile_Valid k p0).bind fun t9558 => if (!t9558) = true then (some (([] : List Tile), 1)) else ((tile_changed_at2.l0 k ([] : List Tile) 0 p0).bind fun x9690 => some (x9690, 0))
def tile_Turn (k : Nat) (p0 : List Tile) : Option ((List Tile) × Int) := (tile_changed_at2 k p0).bind fun t9750 => some (t9750.1, t9750.2)
def law09_DecideTurned.l0 : Nat → (List Tile) → Int → (List Tile) → Int → Option (List Tile)
  | 0, _, _, _, _ => none
  | k + 1, l9814, x9815, p0, p1 => if (decide (x9815 < (p0.length : Int))) = true then (if 0 ≤ x9815 ∧ x9815 < (p0.length : Int) then (if l9814.length + [(Tile.mk (Int.tmod (w64 (((rdD p0 x9815 z_Tile).N) + (Int.tmod (w64 (p1)) 1000))) 1000) (Int.tmod (w64 (((rdD p0 x9815 z_Tile).E) + (w64 (2 * (Int.tmod (w64 (p1)) 1000))))) 1000) (Int.tmod (w64 (((rdD p0 x9815 z_Tile).S) + (Int.tmod (w64 (p1)) 1000))) 1000) (Int.tmod (w64 (((rdD p0 x9815 z_Tile).W) + (w64 (2 * (Int.tmod (w64 (p1)) 1000))))) 1000))].length ≤ 100000000000 then (law09_DecideTurned.l0 k (l9814 ++ [(Tile.mk (Int.tmod (w64 (((rdD p0 x9815 z_Tile).N) + (Int.tmod (w64 (p1)) 1000))) 1000) (Int.tmod (w64 (((rdD p0 x9815 z_Tile).E) + (w64 (2 * (Int.tmod (w64 (p1)) 1000))))) 1000) (Int.tmod (w64 (((rdD p0 x9815 z_Tile).S) + (Int.tmod (w64 (p1)) 1000))) 1000) (Int.tmod (w64 (((rdD p0 x9815 z_Tile).W) + (w64 (2 * (Int.tmod (w64 (p1)) 1000))))) 1000))]) (w64 (x9815 + 1)) p0 p1) else none) else none) else (some l9814)
def law09_DecideTurned (k : Nat) (p0 : List Tile) (p1 : Int) : Option Bool := (decide_Fills k p0).bind fun t8957 => if (t8957.2 != 0) = true then ((law09_awake k).bind fun t9135 => some t9135) else ((tile_Mirror k p0).bind fun t9345 => (tile_Upturn k p0).bind fun t9551 => (tile_Turn k p0).bind fun t9757 => if (((t9345.2 != 0) || (t9551.2 != 0)) || (t9757.2 != 0)) = true then (some false) else ((law09_DecideTurned.l0 k ([] : List Tile) 0 p0 p1).bind fun x9819 => (decide_Fills k t9345.1).bind fun t9847 => (decide_Fills k t9551.1).bind fun t9852 => (decide_Fills k t9757.1).bind fun t9857 => (decide_Fills k x9819).bind fun t9862 => (if ((((((((t9847.2 == 0) && (t9852.2 == 0)) && (t9857.2 == 0)) && (t9862.2 == 0)) && (t9847.1 == t8957.1)) && (t9852.1 == t8957.1)) && (t9857.1 == t8957.1)) && (t9862.1 == t8957.1)) = true then ((law09_awake k).bind fun t9890 => some t9890) else (some false)).bind fun x9887 => some x9887))
end Gp
namespace Gp
open Go Gw Go.Proofs Go.RowKit
def ok_Tile (a : Tile) : Prop := (ok64 a.N) ∧ (ok64 a.E) ∧ (ok64 a.S) ∧ (ok64 a.W)
theorem opn_Tile_24 {H : Type} {enc : TypeId × Value → H} {w : World} {base : Nat} {spare : Nat → Bool} {held : Bool} {fuel : Nat} {cs : List Value} {x : DataW H × List MemPlace} (h : DataW.trod enc Try.prog w base spare held fuel 24 cs = some x) : ∃ (a : Tile), cs = [.int .i64 a.N, .int .i64 a.E, .int .i64 a.S, .int .i64 a.W] ∧ ok_Tile a := by
  obtain ⟨hl, n, hf⟩ := opn_fields Try.underlying24 h
  have hl0 : cs.length = 4 := hl.trans (by kernel_rfl)
  obtain ⟨q0, r0, rfl, hl1⟩ := cons_of hl0
  obtain ⟨q1, r1, rfl, hl2⟩ := cons_of hl1
  obtain ⟨q2, r2, rfl, hl3⟩ := cons_of hl2
  obtain ⟨q3, r3, rfl, hl4⟩ := cons_of hl3
  obtain rfl := List.eq_nil_of_length_eq_zero hl4
  obtain ⟨y0, h0⟩ := hf 0 _ 1 rfl (by kernel_rfl)
  have h0 : DataW.trod enc Try.prog w base spare held n 3 [q0] = some y0 := h0
  obtain ⟨a0, e0, w0⟩ := opn_int Try.underlying3 h0
  injection e0 with f0 e0
  subst f0
  obtain ⟨y1, h1⟩ := hf 1 _ 1 rfl (by kernel_rfl)
  have h1 : DataW.trod enc Try.prog w base spare held n 3 [q1] = some y1 := h1
  obtain ⟨a1, e1, w1⟩ := opn_int Try.underlying3 h1
  injection e1 with f1 e1
  subst f1
  obtain ⟨y2, h2⟩ := hf 2 _ 1 rfl (by kernel_rfl)
  have h2 : DataW.trod enc Try.prog w base spare held n 3 [q2] = some y2 := h2
  obtain ⟨a2, e2, w2⟩ := opn_int Try.underlying3 h2
  injection e2 with f2 e2
  subst f2
  obtain ⟨y3, h3⟩ := hf 3 _ 1 rfl (by kernel_rfl)
  have h3 : DataW.trod enc Try.prog w base spare held n 3 [q3] = some y3 := h3
  obtain ⟨a3, e3, w3⟩ := opn_int Try.underlying3 h3
  injection e3 with f3 e3
  subst f3
  exact ⟨⟨a0, a1, a2, a3⟩, rfl, ⟨wf64 w0, wf64 w1, wf64 w2, wf64 w3⟩⟩
theorem opens_Tile_24 : Opens Try.prog 24 enc_Tile ok_Tile := ⟨by kernel_rfl, by decide, fun h => opn_Tile_24 h⟩
end Gp
