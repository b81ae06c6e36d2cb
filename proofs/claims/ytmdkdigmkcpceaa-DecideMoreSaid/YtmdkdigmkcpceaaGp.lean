/- The functions that the law reaches, as plain functions; how what comes in is opened. -/
import Derived.Test.YtmdkdigmkcpceaaGb
set_option linter.unusedVariables false
set_option linter.unusedSimpArgs false
set_option maxHeartbeats 4000000
namespace Gp
open Go Gw
abbrev iv (n : Int) : Value := .int .i64 n
abbrev pt (g : Nat) : Value := .pointer (some ⟨g, 0, none⟩)
structure Tile where
  N : Int
  E : Int
  S : Int
  W : Int
  deriving DecidableEq
def z_Tile : Tile := ⟨0, 0, 0, 0⟩
def ints_Tile (x : Tile) : List Int := [x.N, x.E, x.S, x.W]
def enc_Tile : Enc Tile := ⟨4, fun x => [(.int .i64 x.N), (.int .i64 x.E), (.int .i64 x.S), (.int .i64 x.W)], fun _ => rfl, fun x u h => by simp at h; rcases h with rfl | rfl | rfl | rfl <;> rfl⟩
structure Pattern where
  Width : Int
  Height : Int
  Cells : List Int
  deriving DecidableEq
def z_Pattern : Pattern := ⟨0, 0, []⟩
def encN_Pattern : Enc (HF × Pattern) := ⟨3, fun x => [(.int .i64 x.2.Width), (.int .i64 x.2.Height), (.slice (x.1 0).1 x.2.Cells.length (x.1 0).2)], fun _ => rfl, fun x u h => by simp at h; rcases h with rfl | rfl | rfl <;> rfl⟩
def subN_Pattern (h : HF) (x : Pattern) : Own := rowR encInt (h 0).1 (h 0).2 x.Cells
structure Verdict where
  Fills : Bool
  Torus : Pattern
  Side : Int
  deriving DecidableEq
def z_Verdict : Verdict := ⟨false, z_Pattern, 0⟩
structure Edges where
  North : List Int
  East : List Int
  South : List Int
  West : List Int
  deriving DecidableEq
def z_Edges : Edges := ⟨[], [], [], []⟩
structure A8_Int where
  e0 : Int
  e1 : Int
  e2 : Int
  e3 : Int
  e4 : Int
  e5 : Int
  e6 : Int
  e7 : Int
  deriving DecidableEq
def z_A8_Int : A8_Int := ⟨0, 0, 0, 0, 0, 0, 0, 0⟩
def A8_Int.get (a : A8_Int) (i : Int) : Int := if i = 0 then a.e0 else if i = 1 then a.e1 else if i = 2 then a.e2 else if i = 3 then a.e3 else if i = 4 then a.e4 else if i = 5 then a.e5 else if i = 6 then a.e6 else a.e7
def A8_Int.set (a : A8_Int) (i v : Int) : A8_Int := ⟨if i = 0 then v else a.e0, if i = 1 then v else a.e1, if i = 2 then v else a.e2, if i = 3 then v else a.e3, if i = 4 then v else a.e4, if i = 5 then v else a.e5, if i = 6 then v else a.e6, if i = 7 then v else a.e7⟩
def ints_A8_Int (x : A8_Int) : List Int := [x.e0, x.e1, x.e2, x.e3, x.e4, x.e5, x.e6, x.e7]
def enc_A8_Int : Enc A8_Int := ⟨8, fun x => [(.int .i64 x.e0), (.int .i64 x.e1), (.int .i64 x.e2), (.int .i64 x.e3), (.int .i64 x.e4), (.int .i64 x.e5), (.int .i64 x.e6), (.int .i64 x.e7)], fun _ => rfl, fun x u h => by simp at h; rcases h with rfl | rfl | rfl | rfl | rfl | rfl | rfl | rfl <;> rfl⟩
structure Row where
  Cells : List Int
  South : A8_Int
  North : A8_Int
  West : Int
  East : Int
  deriving DecidableEq
def z_Row : Row := ⟨[], z_A8_Int, z_A8_Int, 0, 0⟩
def encN_Row : Enc (HF × Row) := ⟨19, fun x => [(.slice (x.1 0).1 x.2.Cells.length (x.1 0).2), (.int .i64 x.2.South.e0), (.int .i64 x.2.South.e1), (.int .i64 x.2.South.e2), (.int .i64 x.2.South.e3), (.int .i64 x.2.South.e4), (.int .i64 x.2.South.e5), (.int .i64 x.2.South.e6), (.int .i64 x.2.South.e7), (.int .i64 x.2.North.e0), (.int .i64 x.2.North.e1), (.int .i64 x.2.North.e2), (.int .i64 x.2.North.e3), (.int .i64 x.2.North.e4), (.int .i64 x.2.North.e5), (.int .i64 x.2.North.e6), (.int .i64 x.2.North.e7), (.int .i64 x.2.West), (.int .i64 x.2.East)], fun _ => rfl, fun x u h => by simp at h; rcases h with rfl | rfl | rfl | rfl | rfl | rfl | rfl | rfl | rfl | rfl | rfl | rfl | rfl | rfl | rfl | rfl | rfl | rfl | rfl <;> rfl⟩
def subN_Row (h : HF) (x : Row) : Own := rowR encInt (h 0).1 (h 0).2 x.Cells
structure Job where
  rows : List Row
  width : Int
  height : Int
  edges : Edges
  deriving DecidableEq
def z_Job : Job := ⟨[], 0, 0, z_Edges⟩
structure S_side_n where
  side : List Int
  n : Int
  deriving DecidableEq
def z_S_side_n : S_side_n := ⟨[], 0⟩
def encN_S_side_n : Enc (HF × S_side_n) := ⟨2, fun x => [(.slice (x.1 0).1 x.2.side.length (x.1 0).2), (.int .i64 x.2.n)], fun _ => rfl, fun x u h => by simp at h; rcases h with rfl | rfl <;> rfl⟩
def subN_S_side_n (h : HF) (x : S_side_n) : Own := rowR encInt (h 0).1 (h 0).2 x.side
def tile_colour_1 (p0 : Int) : Option Bool := some ((decide (p0 < 0)) || (decide (p0 ≥ 1000)))
def slices_IndexFunc_int_int_with_tile_colour_1.l0 : Nat → Int → (List Int) → Option (Sum Int Unit)
  | 0, _, _ => none
  | k + 1, x49, p0 => if (decide (x49 < (p0.length : Int))) = true then (if 0 ≤ x49 ∧ x49 < (p0.length : Int) then ((tile_colour_1 (rdD p0 x49 0)).bind fun t58 => if t58 = true then (some (.inl x49)) else (slices_IndexFunc_int_int_with_tile_colour_1.l0 k (w64 (x49 + 1)) p0)) else none) else (some (.inr ()))
def slices_IndexFunc_int_int_with_tile_colour_1 (k : Nat) (p0 : List Int) : Option Int := (slices_IndexFunc_int_int_with_tile_colour_1.l0 k 0 p0).bind fun x50 => sumb x50 (fun r => some r) (fun y67 => some (-1))
def slices_ContainsFunc_int_int_with_tile_colour_1 (k : Nat) (p0 : List Int) : Option Bool := (slices_IndexFunc_int_int_with_tile_colour_1 k p0).bind fun t69 => some (decide (t69 ≥ 0))
def tile_colour (k : Nat) (p0 : List Int) : Option Bool := (slices_ContainsFunc_int_int_with_tile_colour_1 k p0).bind fun t74 => some (!t74)
def tile_Valid.l0 : Nat → (List (Tile × Bool)) → Int → (List Tile) → Option (Sum Bool Unit)
  | 0, _, _, _ => none
  | k + 1, l148, x149, p0 => if (decide (x149 < (p0.length : Int))) = true then (if 0 ≤ x149 ∧ x149 < (p0.length : Int) then ((if (mget (rdD p0 x149 z_Tile) false l148) = true then (some true) else ((tile_colour k [(rdD p0 x149 z_Tile).N, (rdD p0 x149 z_Tile).E, (rdD p0 x149 z_Tile).S, (rdD p0 x149 z_Tile).W]).bind fun t183 => some (!t183))).bind fun x175 => if x175 = true then (some (.inl false)) else (tile_Valid.l0 k (mput (rdD p0 x149 z_Tile) true l148) (w64 (x149 + 1)) p0)) else none) else (some (.inr ()))
def tile_Valid (k : Nat) (p0 : List Tile) : Option Bool := if (decide ((p0.length : Int) > 1000)) = true then (some false) else ((tile_Valid.l0 k ([] : List (Tile × Bool)) 0 p0).bind fun x150 => sumb x150 (fun r => some r) (fun y199 => some true))
def decide_asks (k : Nat) (p0 : List Tile) : Option Int := (tile_Valid k p0).bind fun t201 => if (!t201) = true then (some 1) else (if (decide ((p0.length : Int) > 3)) = true then (some 2) else (some 0))
def decide_sides (p0 : List Tile) : Option Unit := some ()
def rows_Few.l0 : Nat → Int → Int → (List Tile) → Int → Option (Sum Bool Unit)
  | 0, _, _, _, _ => none
  | k + 1, x292, x293, p0, p1 => if (decide (x293 < p1)) = true then (if (decide (w64 (x292 * (maxI (p0.length : Int) 1)) > 5000)) = true then (some (.inl false)) else (rows_Few.l0 k (w64 (x292 * (maxI (p0.length : Int) 1))) (w64 (x293 + 1)) p0 p1)) else (some (.inr ()))
def rows_Few (k : Nat) (p0 : List Tile) (p1 : Int) : Option Bool := (rows_Few.l0 k 1 0 p0 p1).bind fun x294 => sumb x294 (fun r => some r) (fun y305 => some true)
def square_check (k : Nat) (p0 : List Tile) (p1 : Int) : Option Int := (tile_Valid k p0).bind fun t277 => if (!t277) = true then (some 1) else (if ((decide (p1 < 1)) || (decide (p1 > 8))) = true then (some 2) else ((rows_Few k p0 p1).bind fun t307 => if (!t307) = true then (some 4) else (some 0)))
def rows_rowOf.l0 : Nat → A8_Int → A8_Int → Int → (List Tile) → (List Int) → Option (A8_Int × A8_Int)
  | 0, _, _, _, _, _ => none
  | k + 1, a520, a521, x522, p0, p1 => if (decide (x522 < (p1.length : Int))) = true then (if 0 ≤ x522 ∧ x522 < (p1.length : Int) then (if 0 ≤ (rdD p1 x522 0) ∧ (rdD p1 x522 0) < (p0.length : Int) then (if 0 ≤ x522 ∧ x522 < (8 : Int) then (rows_rowOf.l0 k (A8_Int.set a520 x522 ((rdD p0 (rdD p1 x522 0) z_Tile).S)) (A8_Int.set a521 x522 ((rdD p0 (rdD p1 x522 0) z_Tile).N)) (w64 (x522 + 1)) p0 p1) else none) else none) else none) else (some (a520, a521))
def rows_rowOf (k : Nat) (p0 : List Tile) (p1 : List Int) : Option Row := if ([] : List Int).length + p1.length ≤ 100000000000 then ((rows_rowOf.l0 k (A8_Int.mk 0 0 0 0 0 0 0 0) (A8_Int.mk 0 0 0 0 0 0 0 0) 0 p0 p1).bind fun x525 => if 0 ≤ (0 : Int) ∧ (0 : Int) < (p1.length : Int) then (if 0 ≤ (rdD p1 (0 : Int) 0) ∧ (rdD p1 (0 : Int) 0) < (p0.length : Int) then (if 0 ≤ w64 ((p1.length : Int) - 1) ∧ w64 ((p1.length : Int) - 1) < (p1.length : Int) then (if 0 ≤ (rdD p1 (w64 ((p1.length : Int) - 1)) 0) ∧ (rdD p1 (w64 ((p1.length : Int) - 1)) 0) < (p0.length : Int) then (some (Row.mk (([] : List Int) ++ p1) x525.1 x525.2 ((rdD p0 (rdD p1 (0 : Int) 0) z_Tile).W) ((rdD p0 (rdD p1 (w64 ((p1.length : Int) - 1)) 0) z_Tile).E))) else none) else none) else none) else none) else none
def rows_All_1.l0 : Nat → (List Row) → (List Int) → Int → Int → Int → (List Tile) → (Int → Int → (List Row) → (List Tile) → (List Int) → Option ((List Row) × (List Int))) → Option ((List Row) × (List Int))
  | 0, _, _, _, _, _, _, _ => none
  | k + 1, l977, l981, x982, p0, f0, f2, rc_ => if (decide (x982 < (f2.length : Int))) = true then (if 0 ≤ x982 ∧ x982 < (f2.length : Int) then ((if (p0 == 0) = true then (some true) else (if 0 ≤ w64 (p0 - 1) ∧ w64 (p0 - 1) < (l981.length : Int) then (if 0 ≤ (rdD l981 (w64 (p0 - 1)) 0) ∧ (rdD l981 (w64 (p0 - 1)) 0) < (f2.length : Int) then (some (((rdD f2 (rdD l981 (w64 (p0 - 1)) 0) z_Tile).E) == ((rdD f2 x982 z_Tile).W))) else none) else none)).bind fun x1016 => (if x1016 = true then (if 0 ≤ p0 ∧ p0 < (l981.length : Int) then ((rc_ (w64 (p0 + 1)) f0 l977 f2 (l981.set (p0).toNat x982)).bind fun t1062 => some (t1062.1, t1062.2)) else none) else (some (l977, l981))).bind fun x1055 => rows_All_1.l0 k x1055.1 x1055.2 (w64 (x982 + 1)) p0 f0 f2 rc_) else none) else (some (l977, l981))
def rows_All_1 : Nat → Int → Int → (List Row) → (List Tile) → (List Int) → Option ((List Row) × (List Int))
  | 0, _, _, _, _, _ => none
  | k + 1, p0, f0, f1, f2, f3 => if (p0 == f0) = true then ((rows_rowOf k f2 f3).bind fun t787 => if f1.length + 1 ≤ 100000000000 then (some (f1 ++ [t787], f3)) else none) else ((rows_All_1.l0 k f1 f3 0 p0 f0 f2 (rows_All_1 k)).bind fun x990 => some (x990.1, x990.2))
def rows_All (k : Nat) (p0 : List Tile) (p1 : Int) : Option (List Row) := if 0 ≤ p1 ∧ p1 ≤ 100000000000 then ((rows_All_1 k 0 p1 ([] : List Row) p0 (List.replicate p1.toNat (0 : Int))).bind fun t1082 => some t1082.1) else none
def fill_begin.l0 : Nat → Int → Int → Int → Edges → Option (Sum ((Option Job) × Int) Unit)
  | 0, _, _, _, _ => none
  | k + 1, x1164, p1, p2, p3 => if (decide (x1164 < ([(S_side_n.mk p3.North p1), (S_side_n.mk p3.South p1), (S_side_n.mk p3.East p2), (S_side_n.mk p3.West p2)].length : Int))) = true then (if 0 ≤ x1164 ∧ x1164 < ([(S_side_n.mk p3.North p1), (S_side_n.mk p3.South p1), (S_side_n.mk p3.East p2), (S_side_n.mk p3.West p2)].length : Int) then (if (((((rdD [(S_side_n.mk p3.North p1), (S_side_n.mk p3.South p1), (S_side_n.mk p3.East p2), (S_side_n.mk p3.West p2)] x1164 z_S_side_n).side).length : Int) != 0) && ((((rdD [(S_side_n.mk p3.North p1), (S_side_n.mk p3.South p1), (S_side_n.mk p3.East p2), (S_side_n.mk p3.West p2)] x1164 z_S_side_n).side).length : Int) != ((rdD [(S_side_n.mk p3.North p1), (S_side_n.mk p3.South p1), (S_side_n.mk p3.East p2), (S_side_n.mk p3.West p2)] x1164 z_S_side_n).n))) = true then (some (.inl (none, 2))) else (fill_begin.l0 k (w64 (x1164 + 1)) p1 p2 p3)) else none) else (some (.inr ()))
def fill_begin (k : Nat) (p0 : List Tile) (p1 : Int) (p2 : Int) (p3 : Edges) : Option ((Option Job) × Int) := (tile_Valid k p0).bind fun t1122 => if (!t1122) = true then (some (none, 1)) else (if ((((decide (p1 < 1)) || (decide (p1 > 8))) || (decide (p2 < 1))) || (decide (p2 > 60))) = true then (some (none, 2)) else ((fill_begin.l0 k 0 p1 p2 p3).bind fun x1165 => sumb x1165 (fun r => some r) (fun y1185 => (rows_Few k p0 p1).bind fun t1187 => if (!t1187) = true then (some (none, 4)) else ((rows_All k p0 p1).bind fun t1207 => some ((some (Job.mk t1207 p1 p2 p3)), 0)))))
def fill_at (p0 : List Int) (p1 : Int) (p2 : Int) : Option Bool := (if ((p0.length : Int) == 0) = true then (some true) else (if 0 ≤ p1 ∧ p1 < (p0.length : Int) then (some ((rdD p0 p1 0) == p2)) else none)).bind fun b1321 => some b1321
def fill_job_allows.l0 : Nat → Int → Job → Row → Int → Option (Sum Bool Unit)
  | 0, _, _, _, _ => none
  | k + 1, x1911, p0, p1, p2 => if (decide (x1911 < p0.width)) = true then ((if (p2 == 0) = true then (if (p2 == (w64 (p0.height - 1))) = true then (if 0 ≤ x1911 ∧ x1911 < (8 : Int) then ((fill_at p0.edges.South x1911 (A8_Int.get p1.South x1911)).bind fun t2093 => (if (!t2093) = true then (some true) else ((fill_at p0.edges.North x1911 (A8_Int.get p1.North x1911)).bind fun t2107 => some (!t2107))).bind fun x2104 => some x2104) else none) else (if 0 ≤ x1911 ∧ x1911 < (8 : Int) then ((fill_at p0.edges.South x1911 (A8_Int.get p1.South x1911)).bind fun t2153 => some (!t2153)) else none)) else (if (p2 == (w64 (p0.height - 1))) = true then (if 0 ≤ x1911 ∧ x1911 < (8 : Int) then ((fill_at p0.edges.North x1911 (A8_Int.get p1.North x1911)).bind fun t2177 => some (!t2177)) else none) else (some false))).bind fun x2054 => if x2054 = true then (some (.inl false)) else (fill_job_allows.l0 k (w64 (x1911 + 1)) p0 p1 p2)) else (some (.inr ()))
def fill_job_allows (k : Nat) (p0 : Job) (p1 : Row) (p2 : Int) : Option Bool := (fill_at p0.edges.West p2 p1.West).bind fun t1351 => (if (!t1351) = true then (some true) else ((fill_at p0.edges.East p2 p1.East).bind fun t1365 => some (!t1365))).bind fun x1362 => if x1362 = true then (some false) else ((fill_job_allows.l0 k 0 p0 p1 p2).bind fun x1912 => sumb x1912 (fun r => some r) (fun y2198 => some true))
def fill_First.l0 : Nat → Int → Option Unit
  | 0, _ => none
  | k + 1, p2 => if (decide (w64 (p2 - 1) ≥ 0)) = true then (if 0 ≤ w64 (p2 - 1) ∧ w64 (p2 - 1) < ((List.replicate p2.toNat (none : Option (List (A8_Int × Bool)))).length : Int) then (none) else none) else (some ())
def fill_First.l1 : Nat → Int → Option Unit
  | 0, _ => none
  | k + 1, p2 => if (decide (0 < p2)) = true then (none) else (some ())
def fill_First.l3 : Nat → (List (Option (List (A8_Int × Bool)))) → Int → Int → Edges → Job → Int → Option (List (Option (List (A8_Int × Bool))))
  | 0, _, _, _, _, _, _ => none
  | k + 1, l3677, x3679, p2, p3, y1228, x3302 => if (decide (x3679 < (y1228.rows.length : Int))) = true then (if 0 ≤ x3679 ∧ x3679 < (y1228.rows.length : Int) then ((if (x3302 == (w64 (p2 - 1))) = true then ((fill_job_allows k (Job.mk y1228.rows y1228.width y1228.height p3) (rdD y1228.rows x3679 z_Row) x3302).bind fun t3776 => some t3776) else ((fill_job_allows k (Job.mk y1228.rows y1228.width y1228.height p3) (rdD y1228.rows x3679 z_Row) x3302).bind fun t3800 => (if t3800 = true then (if 0 ≤ w64 (x3302 + 1) ∧ w64 (x3302 + 1) < (l3677.length : Int) then ((rdD l3677 (w64 (x3302 + 1)) none).bind fun m3812 => (some (mget ((rdD y1228.rows x3679 z_Row).North) false m3812))) else none) else (some false)).bind fun b3808 => some b3808)).bind fun x3758 => (if x3758 = true then (if 0 ≤ x3302 ∧ x3302 < (l3677.length : Int) then ((rdD l3677 x3302 none).bind fun m3855 => (some (l3677.set x3302.toNat (some (mput ((rdD y1228.rows x3679 z_Row).South) true m3855))))) else none) else (some l3677)).bind fun x3840 => fill_First.l3 k x3840 (w64 (x3679 + 1)) p2 p3 y1228 x3302) else none) else (some l3677)
def fill_First.l2 : Nat → (List (Option (List (A8_Int × Bool)))) → Int → Int → Edges → Job → Option (List (Option (List (A8_Int × Bool))))
  | 0, _, _, _, _, _ => none
  | k + 1, l3300, x3302, p2, p3, y1228 => if (decide (x3302 ≥ 0)) = true then (if 0 ≤ x3302 ∧ x3302 < (l3300.length : Int) then ((fill_First.l3 k (l3300.set x3302.toNat (some ([] : List (A8_Int × Bool)))) 0 p2 p3 y1228 x3302).bind fun x3684 => fill_First.l2 k x3684 (w64 (x3302 - 1)) p2 p3 y1228) else none) else (some l3300)
def fill_First.l5 : Nat → (Option Int) → Int → Int → Edges → Job → (List (Option (List (A8_Int × Bool)))) → Int → Option Int
  | 0, _, _, _, _, _, _, _ => none
  | k + 1, o5569, x5570, p2, p3, y1228, x3307, x5100 => if (decide (x5570 < (y1228.rows.length : Int))) = true then (if 0 ≤ x5570 ∧ x5570 < (y1228.rows.length : Int) then ((if (x5100 == (w64 (p2 - 1))) = true then ((fill_job_allows k (Job.mk y1228.rows y1228.width y1228.height p3) (rdD y1228.rows x5570 z_Row) x5100).bind fun t5736 => (if t5736 = true then (optM o5569 (some true) (fun i5748 => if 0 ≤ i5748 ∧ i5748 < (y1228.rows.length : Int) then (some ((((rdD y1228.rows i5748 z_Row).North).e0) == (((rdD y1228.rows x5570 z_Row).South).e0) && ((((rdD y1228.rows i5748 z_Row).North).e1) == (((rdD y1228.rows x5570 z_Row).South).e1) && ((((rdD y1228.rows i5748 z_Row).North).e2) == (((rdD y1228.rows x5570 z_Row).South).e2) && ((((rdD y1228.rows i5748 z_Row).North).e3) == (((rdD y1228.rows x5570 z_Row).South).e3) && ((((rdD y1228.rows i5748 z_Row).North).e4) == (((rdD y1228.rows x5570 z_Row).South).e4) && ((((rdD y1228.rows i5748 z_Row).North).e5) == (((rdD y1228.rows x5570 z_Row).South).e5) && ((((rdD y1228.rows i5748 z_Row).North).e6) == (((rdD y1228.rows x5570 z_Row).South).e6) && ((((rdD y1228.rows i5748 z_Row).North).e7) == (((rdD y1228.rows x5570 z_Row).South).e7)))))))))) else none)) else (some false)).bind fun b5744 => some b5744) else ((fill_job_allows k (Job.mk y1228.rows y1228.width y1228.height p3) (rdD y1228.rows x5570 z_Row) x5100).bind fun t5778 => (if t5778 = true then (optM o5569 (some true) (fun i5790 => if 0 ≤ i5790 ∧ i5790 < (y1228.rows.length : Int) then (some ((((rdD y1228.rows i5790 z_Row).North).e0) == (((rdD y1228.rows x5570 z_Row).South).e0) && ((((rdD y1228.rows i5790 z_Row).North).e1) == (((rdD y1228.rows x5570 z_Row).South).e1) && ((((rdD y1228.rows i5790 z_Row).North).e2) == (((rdD y1228.rows x5570 z_Row).South).e2) && ((((rdD y1228.rows i5790 z_Row).North).e3) == (((rdD y1228.rows x5570 z_Row).South).e3) && ((((rdD y1228.rows i5790 z_Row).North).e4) == (((rdD y1228.rows x5570 z_Row).South).e4) && ((((rdD y1228.rows i5790 z_Row).North).e5) == (((rdD y1228.rows x5570 z_Row).South).e5) && ((((rdD y1228.rows i5790 z_Row).North).e6) == (((rdD y1228.rows x5570 z_Row).South).e6) && ((((rdD y1228.rows i5790 z_Row).North).e7) == (((rdD y1228.rows x5570 z_Row).South).e7)))))))))) else none)) else (some false)).bind fun b5786 => (if b5786 = true then (if 0 ≤ w64 (x5100 + 1) ∧ w64 (x5100 + 1) < (x3307.length : Int) then ((rdD x3307 (w64 (x5100 + 1)) none).bind fun m5799 => (some (mget ((rdD y1228.rows x5570 z_Row).North) false m5799))) else none) else (some false)).bind fun b5795 => some b5795)).bind fun x5700 => if x5700 = true then (some x5570) else (fill_First.l5 k o5569 (w64 (x5570 + 1)) p2 p3 y1228 x3307 x5100)) else none) else (some (-1))
def fill_First.l4 : Nat → (List Int) → (Option Int) → Int → Int → Edges → Job → (List (Option (List (A8_Int × Bool)))) → Option (Sum (Pattern × Int) (List Int))
  | 0, _, _, _, _, _, _, _ => none
  | k + 1, l5098, o5099, x5100, p2, p3, y1228, x3307 => if (decide (x5100 < p2)) = true then ((fill_First.l5 k o5099 0 p2 p3 y1228 x3307 x5100).bind fun x5572 => if (decide (x5572 < 0)) = true then (some (.inl ((Pattern.mk 0 0 ([] : List Int)), 6))) else (if 0 ≤ x5572 ∧ x5572 < (y1228.rows.length : Int) then (if l5098.length + ((rdD y1228.rows x5572 z_Row).Cells).length ≤ 100000000000 then (fill_First.l4 k (l5098 ++ ((rdD y1228.rows x5572 z_Row).Cells)) (some x5572) (w64 (x5100 + 1)) p2 p3 y1228 x3307) else none) else none)) else (some (.inr l5098))
def fill_First (k : Nat) (p0 : List Tile) (p1 : Int) (p2 : Int) (p3 : Edges) : Option (Pattern × Int) := (fill_begin k p0 p1 p2 p3).bind fun t1219 => optM t1219.1 (if (t1219.2 != 0) = true then (some ((Pattern.mk 0 0 ([] : List Int)), t1219.2)) else (if 0 ≤ p2 ∧ p2 ≤ 100000000000 then ((fill_First.l0 k p2).bind fun x1249 => (fill_First.l1 k p2).bind fun x1275 => some ((Pattern.mk p1 p2 ([] : List Int)), 0)) else none)) (fun y1228 => if (t1219.2 != 0) = true then (some ((Pattern.mk 0 0 ([] : List Int)), t1219.2)) else (if 0 ≤ p2 ∧ p2 ≤ 100000000000 then ((fill_First.l2 k (List.replicate p2.toNat (none : Option (List (A8_Int × Bool)))) (w64 (p2 - 1)) p2 p3 y1228).bind fun x3307 => (fill_First.l4 k ([] : List Int) none 0 p2 p3 y1228 x3307).bind fun x5104 => sumb x5104 (fun r => some r) (fun y5834 => some ((Pattern.mk p1 p2 y5834), 0))) else none))
def square_exists (k : Nat) (p0 : List Tile) (p1 : Int) : Option Bool := (fill_First k p0 p1 p1 (Edges.mk ([] : List Int) ([] : List Int) ([] : List Int) ([] : List Int))).bind fun t5838 => some (t5838.2 == 0)
def square_Exists (k : Nat) (p0 : List Tile) (p1 : Int) : Option (Bool × Int) := (square_check k p0 p1).bind fun t313 => if (t313 != 0) = true then (some (false, t313)) else ((square_exists k p0 p1).bind fun t5851 => some (t5851, 0))
def decide_sides_1_y.l0 {σ : Type} : Nat → Int → σ → (List Tile) → (Int → Bool → σ → Option (σ × Bool)) → Option (Sum σ σ)
  | 0, _, _, _, _ => none
  | k + 1, x5918, s5919, f0, yf => if (decide (x5918 ≤ 8)) = true then ((square_Exists k f0 x5918).bind fun t5930 => (if (t5930.2 != 0) = true then (some (true, s5919)) else ((yf x5918 t5930.1 s5919).bind fun t5947 => some (!t5947.2, t5947.1))).bind fun x5944 => if x5944.1 = true then (some (.inl x5944.2)) else (decide_sides_1_y.l0 k (w64 (x5918 + 1)) x5944.2 f0 yf)) else (some (.inr s5919))
def decide_sides_1_y {σ : Type} (k : Nat) (f0 : List Tile) (yf : Int → Bool → σ → Option (σ × Bool)) (sY : σ) : Option σ := (decide_sides_1_y.l0 k 1 sY f0 yf).bind fun x5923 => sumb x5923 (fun r => some r) (fun y5962 => some y5962)
def torus_rings.l0 : Nat → (List Row) → Int → (List Row) → Option (List Row)
  | 0, _, _, _ => none
  | k + 1, l6130, x6132, t6016 => if (decide (x6132 < (t6016.length : Int))) = true then (if 0 ≤ x6132 ∧ x6132 < (t6016.length : Int) then ((if (((rdD t6016 x6132 z_Row).West) == ((rdD t6016 x6132 z_Row).East)) = true then (if l6130.length + 1 ≤ 100000000000 then (some (l6130 ++ [(rdD t6016 x6132 z_Row)])) else none) else (some l6130)).bind fun x6167 => torus_rings.l0 k x6167 (w64 (x6132 + 1)) t6016) else none) else (some l6130)
def torus_rings (k : Nat) (p0 : List Tile) (p1 : Int) : Option (List Row) := (rows_All k p0 p1).bind fun t6016 => (torus_rings.l0 k ([] : List Row) 0 t6016).bind fun x6137 => some x6137
def torus_back.l1 : Nat → (List (A8_Int × Bool)) → Int → (List Row) → (List (A8_Int × Bool)) → Option (List (A8_Int × Bool))
  | 0, _, _, _, _ => none
  | k + 1, l6499, x6500, p0, m6450 => if (decide (x6500 < (p0.length : Int))) = true then (if 0 ≤ x6500 ∧ x6500 < (p0.length : Int) then ((if (mget ((rdD p0 x6500 z_Row).North) false m6450) = true then (some (mput ((rdD p0 x6500 z_Row).South) true l6499)) else (some l6499)).bind fun x6520 => torus_back.l1 k x6520 (w64 (x6500 + 1)) p0 m6450) else none) else (some l6499)
def torus_back.l0 : Nat → (List (Option (List (A8_Int × Bool)))) → Int → (List Row) → Int → Option (List (Option (List (A8_Int × Bool))))
  | 0, _, _, _, _ => none
  | k + 1, l6435, x6437, p0, p2 => if (decide (x6437 < p2)) = true then (if 0 ≤ w64 ((l6435.length : Int) - 1) ∧ w64 ((l6435.length : Int) - 1) < (l6435.length : Int) then ((rdD l6435 (w64 ((l6435.length : Int) - 1)) none).bind fun m6450 => ((torus_back.l1 k ([] : List (A8_Int × Bool)) 0 p0 m6450).bind fun x6502 => if l6435.length + 1 ≤ 100000000000 then (torus_back.l0 k (l6435 ++ [some x6502]) (w64 (x6437 + 1)) p0 p2) else none)) else none) else (some l6435)
def torus_back (k : Nat) (p0 : List Row) (p1 : A8_Int) (p2 : Int) : Option (List (Option (List (A8_Int × Bool)))) := (torus_back.l0 k [some (mput p1 true ([] : List (A8_Int × Bool)))] 0 p0 p2).bind fun x6442 => some x6442
def torus_find.l2 : Nat → Int → (List Row) → ((List (A8_Int × List (Option (List (A8_Int × Bool))))) × (List (Option (List (A8_Int × Bool))))) → (List Int) → A8_Int → Int → Option ((List Int) × A8_Int)
  | 0, _, _, _, _, _, _ => none
  | k + 1, x8360, t6190, x7835, l8240, a8241, x8242 => if (decide (x8360 < (t6190.length : Int))) = true then (if 0 ≤ x8360 ∧ x8360 < (t6190.length : Int) then ((if ((((rdD t6190 x8360 z_Row).South).e0) == a8241.e0 && ((((rdD t6190 x8360 z_Row).South).e1) == a8241.e1 && ((((rdD t6190 x8360 z_Row).South).e2) == a8241.e2 && ((((rdD t6190 x8360 z_Row).South).e3) == a8241.e3 && ((((rdD t6190 x8360 z_Row).South).e4) == a8241.e4 && ((((rdD t6190 x8360 z_Row).South).e5) == a8241.e5 && ((((rdD t6190 x8360 z_Row).South).e6) == a8241.e6 && ((((rdD t6190 x8360 z_Row).South).e7) == a8241.e7)))))))) = true then (if 0 ≤ x8242 ∧ x8242 < (x7835.2.length : Int) then ((rdD x7835.2 x8242 none).bind fun m8406 => (some (mget ((rdD t6190 x8360 z_Row).North) false m8406))) else none) else (some false)).bind fun x8394 => if x8394 = true then (if l8240.length + ((rdD t6190 x8360 z_Row).Cells).length ≤ 100000000000 then (some (l8240 ++ ((rdD t6190 x8360 z_Row).Cells), ((rdD t6190 x8360 z_Row).North))) else none) else (torus_find.l2 k (w64 (x8360 + 1)) t6190 x7835 l8240 a8241 x8242)) else none) else (some (l8240, a8241))
def torus_find.l1 : Nat → (List Int) → A8_Int → Int → (List Row) → ((List (A8_Int × List (Option (List (A8_Int × Bool))))) × (List (Option (List (A8_Int × Bool))))) → Option (List Int)
  | 0, _, _, _, _, _ => none
  | k + 1, l8240, a8241, x8242, t6190, x7835 => if (decide (x8242 ≥ 0)) = true then ((torus_find.l2 k 0 t6190 x7835 l8240 a8241 x8242).bind fun x8365 => torus_find.l1 k x8365.1 x8365.2 (w64 (x8242 - 1)) t6190 x7835) else (some l8240)
def torus_find.l0 : Nat → (List (A8_Int × List (Option (List (A8_Int × Bool))))) → Int → Int → Int → (List Row) → Option (Sum (Pattern × Bool) Unit)
  | 0, _, _, _, _, _ => none
  | k + 1, l7796, x7798, p1, p2, t6190 => if (decide (x7798 < (t6190.length : Int))) = true then (if 0 ≤ x7798 ∧ x7798 < (t6190.length : Int) then ((if (!(mhas ((rdD t6190 x7798 z_Row).South) l7796)) = true then ((torus_back k t6190 ((rdD t6190 x7798 z_Row).South) (w64 (p2 - 1))).bind fun t7838 => some (mput ((rdD t6190 x7798 z_Row).South) t7838 l7796, t7838)) else (some (l7796, (mget ((rdD t6190 x7798 z_Row).South) [] l7796)))).bind fun x7835 => if 0 ≤ w64 (p2 - 1) ∧ w64 (p2 - 1) < (x7835.2.length : Int) then ((rdD x7835.2 (w64 (p2 - 1)) none).bind fun m7864 => (if (!(mget ((rdD t6190 x7798 z_Row).North) false m7864)) = true then (torus_find.l0 k x7835.1 (w64 (x7798 + 1)) p1 p2 t6190) else (if ([] : List Int).length + ((rdD t6190 x7798 z_Row).Cells).length ≤ 100000000000 then ((torus_find.l1 k (([] : List Int) ++ ((rdD t6190 x7798 z_Row).Cells)) ((rdD t6190 x7798 z_Row).North) (w64 (p2 - 2)) t6190 x7835).bind fun x8246 => some (.inl ((Pattern.mk p1 p2 x8246), true))) else none))) else none) else none) else (some (.inr ()))
def torus_find (k : Nat) (p0 : List Tile) (p1 : Int) (p2 : Int) : Option (Pattern × Bool) := (torus_rings k p0 p1).bind fun t6190 => (torus_find.l0 k ([] : List (A8_Int × List (Option (List (A8_Int × Bool))))) 0 p1 p2 t6190).bind fun x7799 => sumb x7799 (fun r => some r) (fun y8437 => some ((Pattern.mk 0 0 ([] : List Int)), false))
def torus_Least.l1 : Nat → Int → (List Tile) → Int → Int → Option (Sum (Pattern × Int) Unit)
  | 0, _, _, _, _ => none
  | k + 1, x8853, p0, p1, x8750 => if (decide (x8853 ≤ p1)) = true then ((if x8853 ≠ 0 then (if (((Int.tmod x8750 x8853) != 0) || (decide (w64 (Int.tdiv x8750 x8853) > p1))) = true then (some (.inr ())) else ((torus_find k p0 x8853 (w64 (Int.tdiv x8750 x8853))).bind fun t8887 => if t8887.2 = true then (some (.inl (t8887.1, 0))) else (some (.inr ())))) else none).bind fun x8881 => sumb x8881 (fun r => some (.inl r)) (fun y8906 => torus_Least.l1 k (w64 (x8853 + 1)) p0 p1 x8750)) else (some (.inr ()))
def torus_Least.l0 : Nat → Int → (List Tile) → Int → Option (Sum (Pattern × Int) Unit)
  | 0, _, _, _ => none
  | k + 1, x8750, p0, p1 => if (decide (x8750 ≤ w64 (p1 * p1))) = true then ((torus_Least.l1 k 1 p0 p1 x8750).bind fun x8854 => sumb x8854 (fun r => some (.inl r)) (fun y8911 => torus_Least.l0 k (w64 (x8750 + 1)) p0 p1)) else (some (.inr ()))
def torus_Least (k : Nat) (p0 : List Tile) (p1 : Int) : Option (Pattern × Int) := (tile_Valid k p0).bind fun t5983 => if (!t5983) = true then (some ((Pattern.mk 0 0 ([] : List Int)), 1)) else (if ((decide (p1 < 1)) || (decide (p1 > 6))) = true then (some ((Pattern.mk 0 0 ([] : List Int)), 2)) else ((rows_Few k p0 p1).bind fun t5998 => if (!t5998) = true then (some ((Pattern.mk 0 0 ([] : List Int)), 4)) else ((torus_Least.l0 k 1 p0 p1).bind fun x8751 => sumb x8751 (fun r => some r) (fun y8916 => some ((Pattern.mk 0 0 ([] : List Int)), 6)))))
def decide_Decide.b1 : Nat → Int → Bool → (Int × Int) → Option ((Int × Int) × Bool)
  | k, x256, x257, (x244, j259) => if j259 = 0 then (if (!x257) = true then (some ((x256, 1), false)) else (some ((x244, 0), true))) else none
def decide_Decide (k : Nat) (p0 : List Tile) : Option (Verdict × Int) := (decide_asks k p0).bind fun t208 => if (t208 != 0) = true then (some ((Verdict.mk false (Pattern.mk 0 0 ([] : List Int)) 0), t208)) else ((decide_sides p0).bind fun t223 => (decide_sides_1_y k p0 (decide_Decide.b1 k ) (0, (0 : Int))).bind fun t5964 => if (t5964.2 == 1) = true then (some ((Verdict.mk false (Pattern.mk 0 0 ([] : List Int)) t5964.1), 0)) else (if t5964.2 = 0 then ((torus_Least k p0 6).bind fun t8921 => if (t8921.2 != 0) = true then (some ((Verdict.mk false (Pattern.mk 0 0 ([] : List Int)) 0), t8921.2)) else (some ((Verdict.mk true t8921.1 0), 0))) else none))
def decide_Fills (k : Nat) (p0 : List Tile) : Option (Bool × Int) := (decide_Decide k p0).bind fun t8948 => some (t8948.1.Fills, t8948.2)
def ref01_Index.l0 : Nat → Int → (List Tile) → Tile → Option (Sum Int Unit)
  | 0, _, _, _ => none
  | k + 1, x8987, p0, p1 => if (decide (x8987 < (p0.length : Int))) = true then (if 0 ≤ x8987 ∧ x8987 < (p0.length : Int) then (if (((rdD p0 x8987 z_Tile).N) == p1.N && (((rdD p0 x8987 z_Tile).E) == p1.E && (((rdD p0 x8987 z_Tile).S) == p1.S && (((rdD p0 x8987 z_Tile).W) == p1.W)))) = true then (some (.inl x8987)) else (ref01_Index.l0 k (w64 (x8987 + 1)) p0 p1)) else none) else (some (.inr ()))
def ref01_Index (k : Nat) (p0 : List Tile) (p1 : Tile) : Option Int := (ref01_Index.l0 k 0 p0 p1).bind fun x8988 => sumb x8988 (fun r => some r) (fun y9004 => some (-1))
def ref01_colour (p0 : Int) : Option Bool := some ((decide (p0 ≥ 0)) && (decide (p0 < 1000)))
def ref01_Valid.l0 : Nat → Int → (List Tile) → Option (Sum Bool Unit)
  | 0, _, _ => none
  | k + 1, x9400, p0 => if (decide (x9400 < (p0.length : Int))) = true then (if 0 ≤ x9400 ∧ x9400 < (p0.length : Int) then ((ref01_colour ((rdD p0 x9400 z_Tile).N)).bind fun t9504 => (if (!t9504) = true then (some true) else ((ref01_colour ((rdD p0 x9400 z_Tile).E)).bind fun t9518 => some (!t9518))).bind fun x9515 => (if x9515 = true then (some true) else ((ref01_colour ((rdD p0 x9400 z_Tile).S)).bind fun t9537 => some (!t9537))).bind fun x9534 => (if x9534 = true then (some true) else ((ref01_colour ((rdD p0 x9400 z_Tile).W)).bind fun t9556 => some (!t9556))).bind fun x9553 => (if x9553 = true then (some true) else (if 0 ≤ (0 : Int) ∧ (0 : Int) ≤ x9400 ∧ x9400 ≤ (p0.length : Int) then ((ref01_Index k (cut p0 (0 : Int) x9400) (rdD p0 x9400 z_Tile)).bind fun t9579 => some (decide (t9579 ≥ 0))) else none)).bind fun x9574 => if x9574 = true then (some (.inl false)) else (ref01_Valid.l0 k (w64 (x9400 + 1)) p0)) else none) else (some (.inr ()))
def ref01_Valid (k : Nat) (p0 : List Tile) : Option Bool := if (decide ((p0.length : Int) > 1000)) = true then (some false) else ((ref01_Valid.l0 k 0 p0).bind fun x9401 => sumb x9401 (fun r => some r) (fun y9593 => some true))
def law09_chess  : Option (List Tile) := some [(Tile.mk 0 1 1 0), (Tile.mk 1 0 0 1)]
def ref01_Same.l0 : Nat → Int → (List Int) → (List Int) → Option (Sum Bool Unit)
  | 0, _, _, _ => none
  | k + 1, x9723, p0, p1 => if (decide (x9723 < (p0.length : Int))) = true then (if 0 ≤ x9723 ∧ x9723 < (p0.length : Int) then (if 0 ≤ x9723 ∧ x9723 < (p1.length : Int) then (if ((rdD p0 x9723 0) != (rdD p1 x9723 0)) = true then (some (.inl false)) else (ref01_Same.l0 k (w64 (x9723 + 1)) p0 p1)) else none) else none) else (some (.inr ()))
def ref01_Same (k : Nat) (p0 : List Int) (p1 : List Int) : Option Bool := if ((p0.length : Int) != (p1.length : Int)) = true then (some false) else ((ref01_Same.l0 k 0 p0 p1).bind fun x9724 => sumb x9724 (fun r => some r) (fun y9743 => some true))
def ref01_SamePattern (k : Nat) (p0 : Pattern) (p1 : Pattern) : Option Bool := (if ((p0.Width == p1.Width) && (p0.Height == p1.Height)) = true then ((ref01_Same k p0.Cells p1.Cells).bind fun t9754 => some t9754) else (some false)).bind fun x9751 => some x9751
def law09_awake (k : Nat)  : Option Bool := (decide_Decide k [(Tile.mk 0 0 1 0)]).bind fun t9625 => (law09_chess).bind fun t9643 => (decide_Decide k t9643).bind fun t9650 => (decide_Decide k ([] : List Tile)).bind fun t9663 => (if ((((((t9625.2 == 0) && (t9650.2 == 0)) && (t9663.2 == 0)) && (!t9625.1.Fills)) && (t9625.1.Side == 2)) && t9650.1.Fills) = true then ((ref01_SamePattern k t9650.1.Torus (Pattern.mk 2 2 [0, 1, 1, 0])).bind fun t9778 => some t9778) else (some false)).bind fun x9770 => some ((x9770 && (!t9663.1.Fills)) && (t9663.1.Side == 1))
def law09_DecideMore.l0 : Nat → Int → (List Tile) → Tile → (Bool × Int) → Option (Sum Bool Unit)
  | 0, _, _, _, _ => none
  | k + 1, x10256, p0, p1, t8961 => if (decide (x10256 ≤ (p0.length : Int))) = true then ((if 0 ≤ (0 : Int) ∧ (0 : Int) ≤ x10256 ∧ x10256 ≤ (p0.length : Int) then (if 0 ≤ x10256 ∧ x10256 ≤ (p0.length : Int) ∧ (p0.length : Int) ≤ (p0.length : Int) then (if ([] : List Tile).length + (cut p0 (0 : Int) x10256).length ≤ 100000000000 then (if (([] : List Tile) ++ (cut p0 (0 : Int) x10256)).length + [p1].length ≤ 100000000000 then (if ((([] : List Tile) ++ (cut p0 (0 : Int) x10256)) ++ [p1]).length + (cut p0 x10256 (p0.length : Int)).length ≤ 100000000000 then (some (((([] : List Tile) ++ (cut p0 (0 : Int) x10256)) ++ [p1]) ++ (cut p0 x10256 (p0.length : Int)))) else none) else none) else none) else none) else none).bind fun x10385 => (decide_Fills k x10385).bind fun t10480 => if ((t10480.2 != 0) || (t8961.1 && (!t10480.1))) = true then (some (.inl false)) else (law09_DecideMore.l0 k (w64 (x10256 + 1)) p0 p1 t8961)) else (some (.inr ()))
def law09_DecideMore (k : Nat) (p0 : List Tile) (p1 : Tile) : Option Bool := (decide_Fills k p0).bind fun t8961 => (if ((t8961.2 != 0) || (decide ((p0.length : Int) ≥ 3))) = true then (some true) else ((ref01_Index k p0 p1).bind fun t9015 => some (decide (t9015 ≥ 0)))).bind fun x9012 => (if x9012 = true then (some true) else ((ref01_Valid k [p1]).bind fun t9609 => some (!t9609))).bind fun x9601 => if x9601 = true then ((law09_awake k).bind fun t9792 => some t9792) else ((law09_DecideMore.l0 k 0 p0 p1 t8961).bind fun x10257 => sumb x10257 (fun r => some r) (fun y10495 => (law09_awake k).bind fun t10497 => some t10497))
end Gp
namespace Gp
open Go Gw Go.Proofs Go.RowKit
def ok_Tile (a : Tile) : Prop := (ok64 a.N) ∧ (ok64 a.E) ∧ (ok64 a.S) ∧ (ok64 a.W)
theorem opn_Tile_24 {H : Type} {enc : TypeId × Value → H} {w : World} {base : Nat} {spare : Nat → Bool} {held : Bool} {fuel : Nat} {cs : List Value} {x : DataW H × List MemPlace} (h : DataW.trod enc Try.prog w base spare held fuel 24 cs = some x) : ∃ (a : Tile), cs = [.int .i64 a.N, .int .i64 a.E, .int .i64 a.S, .int .i64 a.W] ∧ ok_Tile a := by
  obtain ⟨hl, n, hf⟩ := opn_fields Try.underlying24 h
  have hl0 : cs.length = 4 := hl.trans (by kernel_rfl)
  obtain ⟨q0, r0, rfl, hl1⟩ := cons_of hl0
  obtain ⟨q1, r1, rfl, hl2⟩ := cons_of hl1
  obtain ⟨q2, r2, rfl, hl3⟩ := cons_of hl2
  obtain ⟨q3, r3, rfl, hl4⟩ := cons_of hl3
  obtain rfl := List.eq_nil_of_length_eq_zero hl4
  obtain ⟨y0, h0⟩ := hf 0 _ 1 rfl (by kernel_rfl)
  have h0 : DataW.trod enc Try.prog w base spare held n 3 [q0] = some y0 := h0
  obtain ⟨a0, e0, w0⟩ := opn_int Try.underlying3 h0
  injection e0 with f0 e0
  subst f0
  obtain ⟨y1, h1⟩ := hf 1 _ 1 rfl (by kernel_rfl)
  have h1 : DataW.trod enc Try.prog w base spare held n 3 [q1] = some y1 := h1
  obtain ⟨a1, e1, w1⟩ := opn_int Try.underlying3 h1
  injection e1 with f1 e1
  subst f1
  obtain ⟨y2, h2⟩ := hf 2 _ 1 rfl (by kernel_rfl)
  have h2 : DataW.trod enc Try.prog w base spare held n 3 [q2] = some y2 := h2
  obtain ⟨a2, e2, w2⟩ := opn_int Try.underlying3 h2
  injection e2 with f2 e2
  subst f2
  obtain ⟨y3, h3⟩ := hf 3 _ 1 rfl (by kernel_rfl)
  have h3 : DataW.trod enc Try.prog w base spare held n 3 [q3] = some y3 := h3
  obtain ⟨a3, e3, w3⟩ := opn_int Try.underlying3 h3
  injection e3 with f3 e3
  subst f3
  exact ⟨⟨a0, a1, a2, a3⟩, rfl, ⟨wf64 w0, wf64 w1, wf64 w2, wf64 w3⟩⟩
theorem opens_Tile_24 : Opens Try.prog 24 enc_Tile ok_Tile := ⟨by kernel_rfl, by decide, fun h => opn_Tile_24 h⟩
end Gp
