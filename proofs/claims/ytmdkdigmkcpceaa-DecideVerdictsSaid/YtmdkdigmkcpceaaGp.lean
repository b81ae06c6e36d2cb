/- The functions that the law reaches, as plain functions; how what comes in is opened. -/
import Derived.Test.YtmdkdigmkcpceaaGb
set_option linter.unusedVariables false
set_option linter.unusedSimpArgs false
set_option maxHeartbeats 4000000
namespace Gp
open Go Gw
abbrev iv (n : Int) : Value := .int .i64 n
abbrev pt (g : Nat) : Value := .pointer (some ⟨g, 0, none⟩)
structure Tile where
  N : Int
  E : Int
  S : Int
  W : Int
  deriving DecidableEq
def z_Tile : Tile := ⟨0, 0, 0, 0⟩
def ints_Tile (x : Tile) : List Int := [x.N, x.E, x.S, x.W]
def enc_Tile : Enc Tile := ⟨4, fun x => [(.int .i64 x.N), (.int .i64 x.E), (.int .i64 x.S), (.int .i64 x.W)], fun _ => rfl, fun x u h => by simp at h; rcases h with rfl | rfl | rfl | rfl <;> rfl⟩
structure Pattern where
  Width : Int
  Height : Int
  Cells : List Int
  deriving DecidableEq
def z_Pattern : Pattern := ⟨0, 0, []⟩
def encN_Pattern : Enc (HF × Pattern) := ⟨3, fun x => [(.int .i64 x.2.Width), (.int .i64 x.2.Height), (.slice (x.1 0).1 x.2.Cells.length (x.1 0).2)], fun _ => rfl, fun x u h => by simp at h; rcases h with rfl | rfl | rfl <;> rfl⟩
def subN_Pattern (h : HF) (x : Pattern) : Own := rowR encInt (h 0).1 (h 0).2 x.Cells
structure Verdict where
  Fills : Bool
  Torus : Pattern
  Side : Int
  deriving DecidableEq
def z_Verdict : Verdict := ⟨false, z_Pattern, 0⟩
structure Edges where
  North : List Int
  East : List Int
  South : List Int
  West : List Int
  deriving DecidableEq
def z_Edges : Edges := ⟨[], [], [], []⟩
structure A8_Int where
  e0 : Int
  e1 : Int
  e2 : Int
  e3 : Int
  e4 : Int
  e5 : Int
  e6 : Int
  e7 : Int
  deriving DecidableEq
def z_A8_Int : A8_Int := ⟨0, 0, 0, 0, 0, 0, 0, 0⟩
def A8_Int.get (a : A8_Int) (i : Int) : Int := if i = 0 then a.e0 else if i = 1 then a.e1 else if i = 2 then a.e2 else if i = 3 then a.e3 else if i = 4 then a.e4 else if i = 5 then a.e5 else if i = 6 then a.e6 else a.e7
def A8_Int.set (a : A8_Int) (i v : Int) : A8_Int := ⟨if i = 0 then v else a.e0, if i = 1 then v else a.e1, if i = 2 then v else a.e2, if i = 3 then v else a.e3, if i = 4 then v else a.e4, if i = 5 then v else a.e5, if i = 6 then v else a.e6, if i = 7 then v else a.e7⟩
def ints_A8_Int (x : A8_Int) : List Int := [x.e0, x.e1, x.e2, x.e3, x.e4, x.e5, x.e6, x.e7]
def enc_A8_Int : Enc A8_Int := ⟨8, fun x => [(.int .i64 x.e0), (.int .i64 x.e1), (.int .i64 x.e2), (.int .i64 x.e3), (.int .i64 x.e4), (.int .i64 x.e5), (.int .i64 x.e6), (.int .i64 x.e7)], fun _ => rfl, fun x u h => by simp at h; rcases h with rfl | rfl | rfl | rfl | rfl | rfl | rfl | rfl <;> rfl⟩
structure Row where
  Cells : List Int
  South : A8_Int
  North : A8_Int
  West : Int
  East : Int
  deriving DecidableEq
def z_Row : Row := ⟨[], z_A8_Int, z_A8_Int, 0, 0⟩
def encN_Row : Enc (HF × Row) := ⟨19, fun x => [(.slice (x.1 0).1 x.2.Cells.length (x.1 0).2), (.int .i64 x.2.South.e0), (.int .i64 x.2.South.e1), (.int .i64 x.2.South.e2), (.int .i64 x.2.South.e3), (.int .i64 x.2.South.e4), (.int .i64 x.2.South.e5), (.int .i64 x.2.South.e6), (.int .i64 x.2.South.e7), (.int .i64 x.2.North.e0), (.int .i64 x.2.North.e1), (.int .i64 x.2.North.e2), (.int .i64 x.2.North.e3), (.int .i64 x.2.North.e4), (.int .i64 x.2.North.e5), (.int .i64 x.2.North.e6), (.int .i64 x.2.North.e7), (.int .i64 x.2.West), (.int .i64 x.2.East)], fun _ => rfl, fun x u h => by simp at h; rcases h with rfl | rfl | rfl | rfl | rfl | rfl | rfl | rfl | rfl | rfl | rfl | rfl | rfl | rfl | rfl | rfl | rfl | rfl | rfl <;> rfl⟩
def subN_Row (h : HF) (x : Row) : Own := rowR encInt (h 0).1 (h 0).2 x.Cells
structure Job where
  rows : List Row
  width : Int
  height : Int
  edges : Edges
  deriving DecidableEq
def z_Job : Job := ⟨[], 0, 0, z_Edges⟩
structure S108 where
  side : List Int
  n : Int
  deriving DecidableEq
def z_S108 : S108 := ⟨[], 0⟩
def encN_S108 : Enc (HF × S108) := ⟨2, fun x => [(.slice (x.1 0).1 x.2.side.length (x.1 0).2), (.int .i64 x.2.n)], fun _ => rfl, fun x u h => by simp at h; rcases h with rfl | rfl <;> rfl⟩
def subN_S108 (h : HF) (x : S108) : Own := rowR encInt (h 0).1 (h 0).2 x.side
def tile_colour_1 (p0 : Int) : Option Bool := some ((decide (p0 < 0)) || (decide (p0 ≥ 1000)))
def slices_IndexFunc_int_int_with_tile_colour_1.l0 : Nat → Int → (List Int) → Option (Sum Int Unit)
  | 0, _, _ => none
  | k + 1, x51, p0 => if (decide (x51 < (p0.length : Int))) = true then (if 0 ≤ x51 ∧ x51 < (p0.length : Int) then ((tile_colour_1 (rdD p0 x51 0)).bind fun t60 => if t60 = true then (some (.inl x51)) else (slices_IndexFunc_int_int_with_tile_colour_1.l0 k (w64 (x51 + 1)) p0)) else none) else (some (.inr ()))
def slices_IndexFunc_int_int_with_tile_colour_1 (k : Nat) (p0 : List Int) : Option Int := (slices_IndexFunc_int_int_with_tile_colour_1.l0 k 0 p0).bind fun x52 => sumb x52 (fun r => some r) (fun y69 => some (-1))
def slices_ContainsFunc_int_int_with_tile_colour_1 (k : Nat) (p0 : List Int) : Option Bool := (slices_IndexFunc_int_int_with_tile_colour_1 k p0).bind fun t71 => some (decide (t71 ≥ 0))
def tile_colour (k : Nat) (p0 : List Int) : Option Bool := (slices_ContainsFunc_int_int_with_tile_colour_1 k p0).bind fun t76 => some (!t76)
def tile_Valid.l0 : Nat → (List (Tile × Bool)) → Int → (List Tile) → Option (Sum Bool Unit)
  | 0, _, _, _ => none
  | k + 1, l150, x151, p0 => if (decide (x151 < (p0.length : Int))) = true then (if 0 ≤ x151 ∧ x151 < (p0.length : Int) then ((if (mget (rdD p0 x151 z_Tile) false l150) = true then (some true) else ((tile_colour k [(rdD p0 x151 z_Tile).N, (rdD p0 x151 z_Tile).E, (rdD p0 x151 z_Tile).S, (rdD p0 x151 z_Tile).W]).bind fun t185 => some (!t185))).bind fun x177 => if x177 = true then (some (.inl false)) else (tile_Valid.l0 k (mput (rdD p0 x151 z_Tile) true l150) (w64 (x151 + 1)) p0)) else none) else (some (.inr ()))
def tile_Valid (k : Nat) (p0 : List Tile) : Option Bool := if (decide ((p0.length : Int) > 1000)) = true then (some false) else ((tile_Valid.l0 k ([] : List (Tile × Bool)) 0 p0).bind fun x152 => sumb x152 (fun r => some r) (fun y201 => some true))
def decide_asks (k : Nat) (p0 : List Tile) : Option Int := (tile_Valid k p0).bind fun t203 => if (!t203) = true then (some 1) else (if (decide ((p0.length : Int) > 3)) = true then (some 2) else (some 0))
def decide_sides (p0 : List Tile) : Option Unit := some ()
def rows_Few.l0 : Nat → Int → Int → (List Tile) → Int → Option (Sum Bool Unit)
  | 0, _, _, _, _ => none
  | k + 1, x294, x295, p0, p1 => if (decide (x295 < p1)) = true then (if (decide (w64 (x294 * (maxI (p0.length : Int) 1)) > 5000)) = true then (some (.inl false)) else (rows_Few.l0 k (w64 (x294 * (maxI (p0.length : Int) 1))) (w64 (x295 + 1)) p0 p1)) else (some (.inr ()))
def rows_Few (k : Nat) (p0 : List Tile) (p1 : Int) : Option Bool := (rows_Few.l0 k 1 0 p0 p1).bind fun x296 => sumb x296 (fun r => some r) (fun y307 => some true)
def square_check (k : Nat) (p0 : List Tile) (p1 : Int) : Option Int := (tile_Valid k p0).bind fun t279 => if (!t279) = true then (some 1) else (if ((decide (p1 < 1)) || (decide (p1 > 8))) = true then (some 2) else ((rows_Few k p0 p1).bind fun t309 => if (!t309) = true then (some 4) else (some 0)))
def rows_rowOf.l0 : Nat → A8_Int → A8_Int → Int → (List Tile) → (List Int) → Option (A8_Int × A8_Int)
  | 0, _, _, _, _, _ => none
  | k + 1, a522, a523, x524, p0, p1 => if (decide (x524 < (p1.length : Int))) = true then (if 0 ≤ x524 ∧ x524 < (p1.length : Int) then (if 0 ≤ (rdD p1 x524 0) ∧ (rdD p1 x524 0) < (p0.length : Int) then (if 0 ≤ x524 ∧ x524 < (8 : Int) then (rows_rowOf.l0 k (A8_Int.set a522 x524 ((rdD p0 (rdD p1 x524 0) z_Tile).S)) (A8_Int.set a523 x524 ((rdD p0 (rdD p1 x524 0) z_Tile).N)) (w64 (x524 + 1)) p0 p1) else none) else none) else none) else (some (a522, a523))
def rows_rowOf (k : Nat) (p0 : List Tile) (p1 : List Int) : Option Row := if ([] : List Int).length + p1.length ≤ 100000000000 then ((rows_rowOf.l0 k (A8_Int.mk 0 0 0 0 0 0 0 0) (A8_Int.mk 0 0 0 0 0 0 0 0) 0 p0 p1).bind fun x527 => if 0 ≤ (0 : Int) ∧ (0 : Int) < (p1.length : Int) then (if 0 ≤ (rdD p1 (0 : Int) 0) ∧ (rdD p1 (0 : Int) 0) < (p0.length : Int) then (if 0 ≤ w64 ((p1.length : Int) - 1) ∧ w64 ((p1.length : Int) - 1) < (p1.length : Int) then (if 0 ≤ (rdD p1 (w64 ((p1.length : Int) - 1)) 0) ∧ (rdD p1 (w64 ((p1.length : Int) - 1)) 0) < (p0.length : Int) then (some (Row.mk (([] : List Int) ++ p1) x527.1 x527.2 ((rdD p0 (rdD p1 (0 : Int) 0) z_Tile).W) ((rdD p0 (rdD p1 (w64 ((p1.length : Int) - 1)) 0) z_Tile).E))) else none) else none) else none) else none) else none
def rows_All_1.l0 : Nat → (List Row) → (List Int) → Int → Int → Int → (List Tile) → (Int → Int → (List Row) → (List Tile) → (List Int) → Option ((List Row) × (List Int))) → Option ((List Row) × (List Int))
  | 0, _, _, _, _, _, _, _ => none
  | k + 1, l979, l983, x984, p0, f0, f2, rc_ => if (decide (x984 < (f2.length : Int))) = true then (if 0 ≤ x984 ∧ x984 < (f2.length : Int) then ((if (p0 == 0) = true then (some true) else (if 0 ≤ w64 (p0 - 1) ∧ w64 (p0 - 1) < (l983.length : Int) then (if 0 ≤ (rdD l983 (w64 (p0 - 1)) 0) ∧ (rdD l983 (w64 (p0 - 1)) 0) < (f2.length : Int) then (some (((rdD f2 (rdD l983 (w64 (p0 - 1)) 0) z_Tile).E) == ((rdD f2 x984 z_Tile).W))) else none) else none)).bind fun x1018 => (if x1018 = true then (if 0 ≤ p0 ∧ p0 < (l983.length : Int) then ((rc_ (w64 (p0 + 1)) f0 l979 f2 (l983.set (p0).toNat x984)).bind fun t1064 => some (t1064.1, t1064.2)) else none) else (some (l979, l983))).bind fun x1057 => rows_All_1.l0 k x1057.1 x1057.2 (w64 (x984 + 1)) p0 f0 f2 rc_) else none) else (some (l979, l983))
def rows_All_1 : Nat → Int → Int → (List Row) → (List Tile) → (List Int) → Option ((List Row) × (List Int))
  | 0, _, _, _, _, _ => none
  | k + 1, p0, f0, f1, f2, f3 => if (p0 == f0) = true then ((rows_rowOf k f2 f3).bind fun t789 => if f1.length + 1 ≤ 100000000000 then (some (f1 ++ [t789], f3)) else none) else ((rows_All_1.l0 k f1 f3 0 p0 f0 f2 (rows_All_1 k)).bind fun x992 => some (x992.1, x992.2))
def rows_All (k : Nat) (p0 : List Tile) (p1 : Int) : Option (List Row) := if 0 ≤ p1 ∧ p1 ≤ 100000000000 then ((rows_All_1 k 0 p1 ([] : List Row) p0 (List.replicate p1.toNat (0 : Int))).bind fun t1084 => some t1084.1) else none
def fill_begin.l0 : Nat → Int → Int → Int → Edges → Option (Sum ((Option Job) × Int) Unit)
  | 0, _, _, _, _ => none
  | k + 1, x1166, p1, p2, p3 => if (decide (x1166 < ([(S108.mk p3.North p1), (S108.mk p3.South p1), (S108.mk p3.East p2), (S108.mk p3.West p2)].length : Int))) = true then (if 0 ≤ x1166 ∧ x1166 < ([(S108.mk p3.North p1), (S108.mk p3.South p1), (S108.mk p3.East p2), (S108.mk p3.West p2)].length : Int) then (if (((((rdD [(S108.mk p3.North p1), (S108.mk p3.South p1), (S108.mk p3.East p2), (S108.mk p3.West p2)] x1166 z_S108).side).length : Int) != 0) && ((((rdD [(S108.mk p3.North p1), (S108.mk p3.South p1), (S108.mk p3.East p2), (S108.mk p3.West p2)] x1166 z_S108).side).length : Int) != ((rdD [(S108.mk p3.North p1), (S108.mk p3.South p1), (S108.mk p3.East p2), (S108.mk p3.West p2)] x1166 z_S108).n))) = true then (some (.inl (none, 2))) else (fill_begin.l0 k (w64 (x1166 + 1)) p1 p2 p3)) else none) else (some (.inr ()))
def fill_begin (k : Nat) (p0 : List Tile) (p1 : Int) (p2 : Int) (p3 : Edges) : Option ((Option Job) × Int) := (tile_Valid k p0).bind fun t1124 => if (!t1124) = true then (some (none, 1)) else (if ((((decide (p1 < 1)) || (decide (p1 > 8))) || (decide (p2 < 1))) || (decide (p2 > 60))) = true then (some (none, 2)) else ((fill_begin.l0 k 0 p1 p2 p3).bind fun x1167 => sumb x1167 (fun r => some r) (fun y1187 => (rows_Few k p0 p1).bind fun t1189 => if (!t1189) = true then (some (none, 4)) else ((rows_All k p0 p1).bind fun t1209 => some ((some (Job.mk t1209 p1 p2 p3)), 0)))))
def fill_at (p0 : List Int) (p1 : Int) (p2 : Int) : Option Bool := (if ((p0.length : Int) == 0) = true then (some true) else (if 0 ≤ p1 ∧ p1 < (p0.length : Int) then (some ((rdD p0 p1 0) == p2)) else none)).bind fun b1323 => some b1323
def fill_job_allows.l0 : Nat → Int → Job → Row → Int → Option (Sum Bool Unit)
  | 0, _, _, _, _ => none
  | k + 1, x1913, p0, p1, p2 => if (decide (x1913 < p0.width)) = true then ((if (p2 == 0) = true then (if (p2 == (w64 (p0.height - 1))) = true then (if 0 ≤ x1913 ∧ x1913 < (8 : Int) then ((fill_at p0.edges.South x1913 (A8_Int.get p1.South x1913)).bind fun t2095 => (if (!t2095) = true then (some true) else ((fill_at p0.edges.North x1913 (A8_Int.get p1.North x1913)).bind fun t2109 => some (!t2109))).bind fun x2106 => some x2106) else none) else (if 0 ≤ x1913 ∧ x1913 < (8 : Int) then ((fill_at p0.edges.South x1913 (A8_Int.get p1.South x1913)).bind fun t2155 => some (!t2155)) else none)) else (if (p2 == (w64 (p0.height - 1))) = true then (if 0 ≤ x1913 ∧ x1913 < (8 : Int) then ((fill_at p0.edges.North x1913 (A8_Int.get p1.North x1913)).bind fun t2179 => some (!t2179)) else none) else (some false))).bind fun x2056 => if x2056 = true then (some (.inl false)) else (fill_job_allows.l0 k (w64 (x1913 + 1)) p0 p1 p2)) else (some (.inr ()))
def fill_job_allows (k : Nat) (p0 : Job) (p1 : Row) (p2 : Int) : Option Bool := (fill_at p0.edges.West p2 p1.West).bind fun t1353 => (if (!t1353) = true then (some true) else ((fill_at p0.edges.East p2 p1.East).bind fun t1367 => some (!t1367))).bind fun x1364 => if x1364 = true then (some false) else ((fill_job_allows.l0 k 0 p0 p1 p2).bind fun x1914 => sumb x1914 (fun r => some r) (fun y2200 => some true))
def fill_First.l0 : Nat → Int → Option Unit
  | 0, _ => none
  | k + 1, p2 => if (decide (w64 (p2 - 1) ≥ 0)) = true then (if 0 ≤ w64 (p2 - 1) ∧ w64 (p2 - 1) < ((List.replicate p2.toNat (none : Option (List (A8_Int × Bool)))).length : Int) then (none) else none) else (some ())
def fill_First.l1 : Nat → Int → Option Unit
  | 0, _ => none
  | k + 1, p2 => if (decide (0 < p2)) = true then (none) else (some ())
def fill_First.l3 : Nat → (List (Option (List (A8_Int × Bool)))) → Int → Int → Edges → Job → Int → Option (List (Option (List (A8_Int × Bool))))
  | 0, _, _, _, _, _, _ => none
  | k + 1, l3679, x3681, p2, p3, y1230, x3304 => if (decide (x3681 < (y1230.rows.length : Int))) = true then (if 0 ≤ x3681 ∧ x3681 < (y1230.rows.length : Int) then ((if (x3304 == (w64 (p2 - 1))) = true then ((fill_job_allows k (Job.mk y1230.rows y1230.width y1230.height p3) (rdD y1230.rows x3681 z_Row) x3304).bind fun t3778 => some t3778) else ((fill_job_allows k (Job.mk y1230.rows y1230.width y1230.height p3) (rdD y1230.rows x3681 z_Row) x3304).bind fun t3802 => (if t3802 = true then (if 0 ≤ w64 (x3304 + 1) ∧ w64 (x3304 + 1) < (l3679.length : Int) then ((rdD l3679 (w64 (x3304 + 1)) none).bind fun m3814 => (some (mget ((rdD y1230.rows x3681 z_Row).North) false m3814))) else none) else (some false)).bind fun b3810 => some b3810)).bind fun x3760 => (if x3760 = true then (if 0 ≤ x3304 ∧ x3304 < (l3679.length : Int) then ((rdD l3679 x3304 none).bind fun m3857 => (some (l3679.set x3304.toNat (some (mput ((rdD y1230.rows x3681 z_Row).South) true m3857))))) else none) else (some l3679)).bind fun x3842 => fill_First.l3 k x3842 (w64 (x3681 + 1)) p2 p3 y1230 x3304) else none) else (some l3679)
def fill_First.l2 : Nat → (List (Option (List (A8_Int × Bool)))) → Int → Int → Edges → Job → Option (List (Option (List (A8_Int × Bool))))
  | 0, _, _, _, _, _ => none
  | k + 1, l3302, x3304, p2, p3, y1230 => if (decide (x3304 ≥ 0)) = true then (if 0 ≤ x3304 ∧ x3304 < (l3302.length : Int) then ((fill_First.l3 k (l3302.set x3304.toNat (some ([] : List (A8_Int × Bool)))) 0 p2 p3 y1230 x3304).bind fun x3686 => fill_First.l2 k x3686 (w64 (x3304 - 1)) p2 p3 y1230) else none) else (some l3302)
def fill_First.l5 : Nat → (Option Int) → Int → Int → Edges → Job → (List (Option (List (A8_Int × Bool)))) → Int → Option Int
  | 0, _, _, _, _, _, _, _ => none
  | k + 1, o5571, x5572, p2, p3, y1230, x3309, x5102 => if (decide (x5572 < (y1230.rows.length : Int))) = true then (if 0 ≤ x5572 ∧ x5572 < (y1230.rows.length : Int) then ((if (x5102 == (w64 (p2 - 1))) = true then ((fill_job_allows k (Job.mk y1230.rows y1230.width y1230.height p3) (rdD y1230.rows x5572 z_Row) x5102).bind fun t5738 => (if t5738 = true then (optM o5571 (some true) (fun i5750 => if 0 ≤ i5750 ∧ i5750 < (y1230.rows.length : Int) then (some ((((rdD y1230.rows i5750 z_Row).North).e0) == (((rdD y1230.rows x5572 z_Row).South).e0) && ((((rdD y1230.rows i5750 z_Row).North).e1) == (((rdD y1230.rows x5572 z_Row).South).e1) && ((((rdD y1230.rows i5750 z_Row).North).e2) == (((rdD y1230.rows x5572 z_Row).South).e2) && ((((rdD y1230.rows i5750 z_Row).North).e3) == (((rdD y1230.rows x5572 z_Row).South).e3) && ((((rdD y1230.rows i5750 z_Row).North).e4) == (((rdD y1230.rows x5572 z_Row).South).e4) && ((((rdD y1230.rows i5750 z_Row).North).e5) == (((rdD y1230.rows x5572 z_Row).South).e5) && ((((rdD y1230.rows i5750 z_Row).North).e6) == (((rdD y1230.rows x5572 z_Row).South).e6) && ((((rdD y1230.rows i5750 z_Row).North).e7) == (((rdD y1230.rows x5572 z_Row).South).e7)))))))))) else none)) else (some false)).bind fun b5746 => some b5746) else ((fill_job_allows k (Job.mk y1230.rows y1230.width y1230.height p3) (rdD y1230.rows x5572 z_Row) x5102).bind fun t5780 => (if t5780 = true then (optM o5571 (some true) (fun i5792 => if 0 ≤ i5792 ∧ i5792 < (y1230.rows.length : Int) then (some ((((rdD y1230.rows i5792 z_Row).North).e0) == (((rdD y1230.rows x5572 z_Row).South).e0) && ((((rdD y1230.rows i5792 z_Row).North).e1) == (((rdD y1230.rows x5572 z_Row).South).e1) && ((((rdD y1230.rows i5792 z_Row).North).e2) == (((rdD y1230.rows x5572 z_Row).South).e2) && ((((rdD y1230.rows i5792 z_Row).North).e3) == (((rdD y1230.rows x5572 z_Row).South).e3) && ((((rdD y1230.rows i5792 z_Row).North).e4) == (((rdD y1230.rows x5572 z_Row).South).e4) && ((((rdD y1230.rows i5792 z_Row).North).e5) == (((rdD y1230.rows x5572 z_Row).South).e5) && ((((rdD y1230.rows i5792 z_Row).North).e6) == (((rdD y1230.rows x5572 z_Row).South).e6) && ((((rdD y1230.rows i5792 z_Row).North).e7) == (((rdD y1230.rows x5572 z_Row).South).e7)))))))))) else none)) else (some false)).bind fun b5788 => (if b5788 = true then (if 0 ≤ w64 (x5102 + 1) ∧ w64 (x5102 + 1) < (x3309.length : Int) then ((rdD x3309 (w64 (x5102 + 1)) none).bind fun m5801 => (some (mget ((rdD y1230.rows x5572 z_Row).North) false m5801))) else none) else (some false)).bind fun b5797 => some b5797)).bind fun x5702 => if x5702 = true then (some x5572) else (fill_First.l5 k o5571 (w64 (x5572 + 1)) p2 p3 y1230 x3309 x5102)) else none) else (some (-1))
def fill_First.l4 : Nat → (List Int) → (Option Int) → Int → Int → Edges → Job → (List (Option (List (A8_Int × Bool)))) → Option (Sum (Pattern × Int) (List Int))
  | 0, _, _, _, _, _, _, _ => none
  | k + 1, l5100, o5101, x5102, p2, p3, y1230, x3309 => if (decide (x5102 < p2)) = true then ((fill_First.l5 k o5101 0 p2 p3 y1230 x3309 x5102).bind fun x5574 => if (decide (x5574 < 0)) = true then (some (.inl ((Pattern.mk 0 0 ([] : List Int)), 6))) else (if 0 ≤ x5574 ∧ x5574 < (y1230.rows.length : Int) then (if l5100.length + ((rdD y1230.rows x5574 z_Row).Cells).length ≤ 100000000000 then (fill_First.l4 k (l5100 ++ ((rdD y1230.rows x5574 z_Row).Cells)) (some x5574) (w64 (x5102 + 1)) p2 p3 y1230 x3309) else none) else none)) else (some (.inr l5100))
def fill_First (k : Nat) (p0 : List Tile) (p1 : Int) (p2 : Int) (p3 : Edges) : Option (Pattern × Int) := (fill_begin k p0 p1 p2 p3).bind fun t1221 => optM t1221.1 (if (t1221.2 != 0) = true then (some ((Pattern.mk 0 0 ([] : List Int)), t1221.2)) else (if 0 ≤ p2 ∧ p2 ≤ 100000000000 then ((fill_First.l0 k p2).bind fun x1251 => (fill_First.l1 k p2).bind fun x1277 => some ((Pattern.mk p1 p2 ([] : List Int)), 0)) else none)) (fun y1230 => if (t1221.2 != 0) = true then (some ((Pattern.mk 0 0 ([] : List Int)), t1221.2)) else (if 0 ≤ p2 ∧ p2 ≤ 100000000000 then ((fill_First.l2 k (List.replicate p2.toNat (none : Option (List (A8_Int × Bool)))) (w64 (p2 - 1)) p2 p3 y1230).bind fun x3309 => (fill_First.l4 k ([] : List Int) none 0 p2 p3 y1230 x3309).bind fun x5106 => sumb x5106 (fun r => some r) (fun y5836 => some ((Pattern.mk p1 p2 y5836), 0))) else none))
def square_exists (k : Nat) (p0 : List Tile) (p1 : Int) : Option Bool := (fill_First k p0 p1 p1 (Edges.mk ([] : List Int) ([] : List Int) ([] : List Int) ([] : List Int))).bind fun t5840 => some (t5840.2 == 0)
def square_Exists (k : Nat) (p0 : List Tile) (p1 : Int) : Option (Bool × Int) := (square_check k p0 p1).bind fun t315 => if (t315 != 0) = true then (some (false, t315)) else ((square_exists k p0 p1).bind fun t5853 => some (t5853, 0))
def decide_sides_1_y.l0 {σ : Type} : Nat → Int → σ → (List Tile) → (Int → Bool → σ → Option (σ × Bool)) → Option (Sum σ σ)
  | 0, _, _, _, _ => none
  | k + 1, x5920, s5921, f0, yf => if (decide (x5920 ≤ 8)) = true then ((square_Exists k f0 x5920).bind fun t5932 => (if (t5932.2 != 0) = true then (some (true, s5921)) else ((yf x5920 t5932.1 s5921).bind fun t5949 => some (!t5949.2, t5949.1))).bind fun x5946 => if x5946.1 = true then (some (.inl x5946.2)) else (decide_sides_1_y.l0 k (w64 (x5920 + 1)) x5946.2 f0 yf)) else (some (.inr s5921))
def decide_sides_1_y {σ : Type} (k : Nat) (f0 : List Tile) (yf : Int → Bool → σ → Option (σ × Bool)) (sY : σ) : Option σ := (decide_sides_1_y.l0 k 1 sY f0 yf).bind fun x5925 => sumb x5925 (fun r => some r) (fun y5964 => some y5964)
def torus_rings.l0 : Nat → (List Row) → Int → (List Row) → Option (List Row)
  | 0, _, _, _ => none
  | k + 1, l6132, x6134, t6018 => if (decide (x6134 < (t6018.length : Int))) = true then (if 0 ≤ x6134 ∧ x6134 < (t6018.length : Int) then ((if (((rdD t6018 x6134 z_Row).West) == ((rdD t6018 x6134 z_Row).East)) = true then (if l6132.length + 1 ≤ 100000000000 then (some (l6132 ++ [(rdD t6018 x6134 z_Row)])) else none) else (some l6132)).bind fun x6169 => torus_rings.l0 k x6169 (w64 (x6134 + 1)) t6018) else none) else (some l6132)
def torus_rings (k : Nat) (p0 : List Tile) (p1 : Int) : Option (List Row) := (rows_All k p0 p1).bind fun t6018 => (torus_rings.l0 k ([] : List Row) 0 t6018).bind fun x6139 => some x6139
def torus_back.l1 : Nat → (List (A8_Int × Bool)) → Int → (List Row) → (List (A8_Int × Bool)) → Option (List (A8_Int × Bool))
  | 0, _, _, _, _ => none
  | k + 1, l6501, x6502, p0, m6452 => if (decide (x6502 < (p0.length : Int))) = true then (if 0 ≤ x6502 ∧ x6502 < (p0.length : Int) then ((if (mget ((rdD p0 x6502 z_Row).North) false m6452) = true then (some (mput ((rdD p0 x6502 z_Row).South) true l6501)) else (some l6501)).bind fun x6522 => torus_back.l1 k x6522 (w64 (x6502 + 1)) p0 m6452) else none) else (some l6501)
def torus_back.l0 : Nat → (List (Option (List (A8_Int × Bool)))) → Int → (List Row) → Int → Option (List (Option (List (A8_Int × Bool))))
  | 0, _, _, _, _ => none
  | k + 1, l6437, x6439, p0, p2 => if (decide (x6439 < p2)) = true then (if 0 ≤ w64 ((l6437.length : Int) - 1) ∧ w64 ((l6437.length : Int) - 1) < (l6437.length : Int) then ((rdD l6437 (w64 ((l6437.length : Int) - 1)) none).bind fun m6452 => ((torus_back.l1 k ([] : List (A8_Int × Bool)) 0 p0 m6452).bind fun x6504 => if l6437.length + 1 ≤ 100000000000 then (torus_back.l0 k (l6437 ++ [some x6504]) (w64 (x6439 + 1)) p0 p2) else none)) else none) else (some l6437)
def torus_back (k : Nat) (p0 : List Row) (p1 : A8_Int) (p2 : Int) : Option (List (Option (List (A8_Int × Bool)))) := (torus_back.l0 k [some (mput p1 true ([] : List (A8_Int × Bool)))] 0 p0 p2).bind fun x6444 => some x6444
def torus_find.l2 : Nat → Int → (List Row) → ((List (A8_Int × List (Option (List (A8_Int × Bool))))) × (List (Option (List (A8_Int × Bool))))) → (List Int) → A8_Int → Int → Option ((List Int) × A8_Int)
  | 0, _, _, _, _, _, _ => none
  | k + 1, x8362, t6192, x7837, l8242, a8243, x8244 => if (decide (x8362 < (t6192.length : Int))) = true then (if 0 ≤ x8362 ∧ x8362 < (t6192.length : Int) then ((if ((((rdD t6192 x8362 z_Row).South).e0) == a8243.e0 && ((((rdD t6192 x8362 z_Row).South).e1) == a8243.e1 && ((((rdD t6192 x8362 z_Row).South).e2) == a8243.e2 && ((((rdD t6192 x8362 z_Row).South).e3) == a8243.e3 && ((((rdD t6192 x8362 z_Row).South).e4) == a8243.e4 && ((((rdD t6192 x8362 z_Row).South).e5) == a8243.e5 && ((((rdD t6192 x8362 z_Row).South).e6) == a8243.e6 && ((((rdD t6192 x8362 z_Row).South).e7) == a8243.e7)))))))) = true then (if 0 ≤ x8244 ∧ x8244 < (x7837.2.length : Int) then ((rdD x7837.2 x8244 none).bind fun m8408 => (some (mget ((rdD t6192 x8362 z_Row).North) false m8408))) else none) else (some false)).bind fun x8396 => if x8396 = true then (if l8242.length + ((rdD t6192 x8362 z_Row).Cells).length ≤ 100000000000 then (some (l8242 ++ ((rdD t6192 x8362 z_Row).Cells), ((rdD t6192 x8362 z_Row).North))) else none) else (torus_find.l2 k (w64 (x8362 + 1)) t6192 x7837 l8242 a8243 x8244)) else none) else (some (l8242, a8243))
def torus_find.l1 : Nat → (List Int) → A8_Int → Int → (List Row) → ((List (A8_Int × List (Option (List (A8_Int × Bool))))) × (List (Option (List (A8_Int × Bool))))) → Option (List Int)
  | 0, _, _, _, _, _ => none
  | k + 1, l8242, a8243, x8244, t6192, x7837 => if (decide (x8244 ≥ 0)) = true then ((torus_find.l2 k 0 t6192 x7837 l8242 a8243 x8244).bind fun x8367 => torus_find.l1 k x8367.1 x8367.2 (w64 (x8244 - 1)) t6192 x7837) else (some l8242)
def torus_find.l0 : Nat → (List (A8_Int × List (Option (List (A8_Int × Bool))))) → Int → Int → Int → (List Row) → Option (Sum (Pattern × Bool) Unit)
  | 0, _, _, _, _, _ => none
  | k + 1, l7798, x7800, p1, p2, t6192 => if (decide (x7800 < (t6192.length : Int))) = true then (if 0 ≤ x7800 ∧ x7800 < (t6192.length : Int) then ((if (!(mhas ((rdD t6192 x7800 z_Row).South) l7798)) = true then ((torus_back k t6192 ((rdD t6192 x7800 z_Row).South) (w64 (p2 - 1))).bind fun t7840 => some (mput ((rdD t6192 x7800 z_Row).South) t7840 l7798, t7840)) else (some (l7798, (mget ((rdD t6192 x7800 z_Row).South) [] l7798)))).bind fun x7837 => if 0 ≤ w64 (p2 - 1) ∧ w64 (p2 - 1) < (x7837.2.length : Int) then ((rdD x7837.2 (w64 (p2 - 1)) none).bind fun m7866 => (if (!(mget ((rdD t6192 x7800 z_Row).North) false m7866)) = true then (torus_find.l0 k x7837.1 (w64 (x7800 + 1)) p1 p2 t6192) else (if ([] : List Int).length + ((rdD t6192 x7800 z_Row).Cells).length ≤ 100000000000 then ((torus_find.l1 k (([] : List Int) ++ ((rdD t6192 x7800 z_Row).Cells)) ((rdD t6192 x7800 z_Row).North) (w64 (p2 - 2)) t6192 x7837).bind fun x8248 => some (.inl ((Pattern.mk p1 p2 x8248), true))) else none))) else none) else none) else (some (.inr ()))
def torus_find (k : Nat) (p0 : List Tile) (p1 : Int) (p2 : Int) : Option (Pattern × Bool) := (torus_rings k p0 p1).bind fun t6192 => (torus_find.l0 k ([] : List (A8_Int × List (Option (List (A8_Int × Bool))))) 0 p1 p2 t6192).bind fun x7801 => sumb x7801 (fun r => some r) (fun y8439 => some ((Pattern.mk 0 0 ([] : List Int)), false))
def torus_Least.l1 : Nat → Int → (List Tile) → Int → Int → Option (Sum (Pattern × Int) Unit)
  | 0, _, _, _, _ => none
  | k + 1, x8855, p0, p1, x8752 => if (decide (x8855 ≤ p1)) = true then ((if x8855 ≠ 0 then (if (((Int.tmod x8752 x8855) != 0) || (decide (w64 (Int.tdiv x8752 x8855) > p1))) = true then (some (.inr ())) else ((torus_find k p0 x8855 (w64 (Int.tdiv x8752 x8855))).bind fun t8889 => if t8889.2 = true then (some (.inl (t8889.1, 0))) else (some (.inr ())))) else none).bind fun x8883 => sumb x8883 (fun r => some (.inl r)) (fun y8908 => torus_Least.l1 k (w64 (x8855 + 1)) p0 p1 x8752)) else (some (.inr ()))
def torus_Least.l0 : Nat → Int → (List Tile) → Int → Option (Sum (Pattern × Int) Unit)
  | 0, _, _, _ => none
  | k + 1, x8752, p0, p1 => if (decide (x8752 ≤ w64 (p1 * p1))) = true then ((torus_Least.l1 k 1 p0 p1 x8752).bind fun x8856 => sumb x8856 (fun r => some (.inl r)) (fun y8913 => torus_Least.l0 k (w64 (x8752 + 1)) p0 p1)) else (some (.inr ()))
def torus_Least (k : Nat) (p0 : List Tile) (p1 : Int) : Option (Pattern × Int) := (tile_Valid k p0).bind fun t5985 => if (!t5985) = true then (some ((Pattern.mk 0 0 ([] : List Int)), 1)) else (if ((decide (p1 < 1)) || (decide (p1 > 6))) = true then (some ((Pattern.mk 0 0 ([] : List Int)), 2)) else ((rows_Few k p0 p1).bind fun t6000 => if (!t6000) = true then (some ((Pattern.mk 0 0 ([] : List Int)), 4)) else ((torus_Least.l0 k 1 p0 p1).bind fun x8753 => sumb x8753 (fun r => some r) (fun y8918 => some ((Pattern.mk 0 0 ([] : List Int)), 6)))))
def decide_Decide.b1 : Nat → Int → Bool → (Int × Int) → Option ((Int × Int) × Bool)
  | k, x258, x259, (x246, j261) => if j261 = 0 then (if (!x259) = true then (some ((x258, 1), false)) else (some ((x246, 0), true))) else none
def decide_Decide (k : Nat) (p0 : List Tile) : Option (Verdict × Int) := (decide_asks k p0).bind fun t210 => if (t210 != 0) = true then (some ((Verdict.mk false (Pattern.mk 0 0 ([] : List Int)) 0), t210)) else ((decide_sides p0).bind fun t225 => (decide_sides_1_y k p0 (decide_Decide.b1 k ) (0, (0 : Int))).bind fun t5966 => if (t5966.2 == 1) = true then (some ((Verdict.mk false (Pattern.mk 0 0 ([] : List Int)) t5966.1), 0)) else (if t5966.2 = 0 then ((torus_Least k p0 6).bind fun t8923 => if (t8923.2 != 0) = true then (some ((Verdict.mk false (Pattern.mk 0 0 ([] : List Int)) 0), t8923.2)) else (some ((Verdict.mk true t8923.1 0), 0))) else none))
def law09_chess  : Option (List Tile) := some [(Tile.mk 0 1 1 0), (Tile.mk 1 0 0 1)]
def ref01_Same.l0 : Nat → Int → (List Int) → (List Int) → Option (Sum Bool Unit)
  | 0, _, _, _ => none
  | k + 1, x9048, p0, p1 => if (decide (x9048 < (p0.length : Int))) = true then (if 0 ≤ x9048 ∧ x9048 < (p0.length : Int) then (if 0 ≤ x9048 ∧ x9048 < (p1.length : Int) then (if ((rdD p0 x9048 0) != (rdD p1 x9048 0)) = true then (some (.inl false)) else (ref01_Same.l0 k (w64 (x9048 + 1)) p0 p1)) else none) else none) else (some (.inr ()))
def ref01_Same (k : Nat) (p0 : List Int) (p1 : List Int) : Option Bool := if ((p0.length : Int) != (p1.length : Int)) = true then (some false) else ((ref01_Same.l0 k 0 p0 p1).bind fun x9049 => sumb x9049 (fun r => some r) (fun y9068 => some true))
def ref01_SamePattern (k : Nat) (p0 : Pattern) (p1 : Pattern) : Option Bool := (if ((p0.Width == p1.Width) && (p0.Height == p1.Height)) = true then ((ref01_Same k p0.Cells p1.Cells).bind fun t9079 => some t9079) else (some false)).bind fun x9076 => some x9076
def law09_awake (k : Nat)  : Option Bool := (decide_Decide k [(Tile.mk 0 0 1 0)]).bind fun t8950 => (law09_chess).bind fun t8968 => (decide_Decide k t8968).bind fun t8975 => (decide_Decide k ([] : List Tile)).bind fun t8988 => (if ((((((t8950.2 == 0) && (t8975.2 == 0)) && (t8988.2 == 0)) && (!t8950.1.Fills)) && (t8950.1.Side == 2)) && t8975.1.Fills) = true then ((ref01_SamePattern k t8975.1.Torus (Pattern.mk 2 2 [0, 1, 1, 0])).bind fun t9103 => some t9103) else (some false)).bind fun x9095 => some ((x9095 && (!t8988.1.Fills)) && (t8988.1.Side == 1))
def decide_Fills (k : Nat) (p0 : List Tile) : Option (Bool × Int) := (decide_Decide k p0).bind fun t9135 => some (t9135.1.Fills, t9135.2)
def ref01_colour (p0 : Int) : Option Bool := some ((decide (p0 ≥ 0)) && (decide (p0 < 1000)))
def ref01_Index.l0 : Nat → Int → (List Tile) → Tile → Option (Sum Int Unit)
  | 0, _, _, _ => none
  | k + 1, x9247, p0, p1 => if (decide (x9247 < (p0.length : Int))) = true then (if 0 ≤ x9247 ∧ x9247 < (p0.length : Int) then (if (((rdD p0 x9247 z_Tile).N) == p1.N && (((rdD p0 x9247 z_Tile).E) == p1.E && (((rdD p0 x9247 z_Tile).S) == p1.S && (((rdD p0 x9247 z_Tile).W) == p1.W)))) = true then (some (.inl x9247)) else (ref01_Index.l0 k (w64 (x9247 + 1)) p0 p1)) else none) else (some (.inr ()))
def ref01_Index (k : Nat) (p0 : List Tile) (p1 : Tile) : Option Int := (ref01_Index.l0 k 0 p0 p1).bind fun x9248 => sumb x9248 (fun r => some r) (fun y9264 => some (-1))
def ref01_Valid.l0 : Nat → Int → (List Tile) → Option (Sum Bool Unit)
  | 0, _, _ => none
  | k + 1, x9561, p0 => if (decide (x9561 < (p0.length : Int))) = true then (if 0 ≤ x9561 ∧ x9561 < (p0.length : Int) then ((ref01_colour ((rdD p0 x9561 z_Tile).N)).bind fun t9665 => (if (!t9665) = true then (some true) else ((ref01_colour ((rdD p0 x9561 z_Tile).E)).bind fun t9679 => some (!t9679))).bind fun x9676 => (if x9676 = true then (some true) else ((ref01_colour ((rdD p0 x9561 z_Tile).S)).bind fun t9698 => some (!t9698))).bind fun x9695 => (if x9695 = true then (some true) else ((ref01_colour ((rdD p0 x9561 z_Tile).W)).bind fun t9717 => some (!t9717))).bind fun x9714 => (if x9714 = true then (some true) else (if 0 ≤ (0 : Int) ∧ (0 : Int) ≤ x9561 ∧ x9561 ≤ (p0.length : Int) then ((ref01_Index k (cut p0 (0 : Int) x9561) (rdD p0 x9561 z_Tile)).bind fun t9740 => some (decide (t9740 ≥ 0))) else none)).bind fun x9735 => if x9735 = true then (some (.inl false)) else (ref01_Valid.l0 k (w64 (x9561 + 1)) p0)) else none) else (some (.inr ()))
def ref01_Valid (k : Nat) (p0 : List Tile) : Option Bool := if (decide ((p0.length : Int) > 1000)) = true then (some false) else ((ref01_Valid.l0 k 0 p0).bind fun x9562 => sumb x9562 (fun r => some r) (fun y9754 => some true))
def law09_code (k : Nat) (p0 : List Tile) : Option Int := (ref01_Valid k p0).bind fun t9756 => if (!t9756) = true then (some 1) else (if (decide ((p0.length : Int) > 3)) = true then (some 2) else (some 0))
def law09_none (p0 : Pattern) : Option Bool := some (((p0.Width == 0) && (p0.Height == 0)) && ((p0.Cells.length : Int) == 0))
def law09_zero (p0 : Verdict) : Option Bool := (if ((!p0.Fills) && (p0.Side == 0)) = true then ((law09_none p0.Torus).bind fun t9794 => some t9794) else (some false)).bind fun x9791 => some x9791
def tile_Form (p0 : Pattern) : Option Bool := some ((((((decide (p0.Width ≥ 1)) && (decide (p0.Height ≥ 1))) && (decide (p0.Width ≤ 40000))) && (decide (p0.Height ≤ 40000))) && (decide (w64 (p0.Width * p0.Height) ≤ 40000))) && ((p0.Cells.length : Int) == (w64 (p0.Width * p0.Height))))
def tile_of_1 (p0 : Int) (f0 : List Tile) : Option Bool := some ((decide (p0 < 0)) || (decide (p0 ≥ (f0.length : Int))))
def slices_IndexFunc_int_int_with_tile_of_1.l0 : Nat → Int → (List Int) → (List Tile) → Option (Sum Int Unit)
  | 0, _, _, _ => none
  | k + 1, x9924, p0, p1_0 => if (decide (x9924 < (p0.length : Int))) = true then (if 0 ≤ x9924 ∧ x9924 < (p0.length : Int) then ((tile_of_1 (rdD p0 x9924 0) p1_0).bind fun t9933 => if t9933 = true then (some (.inl x9924)) else (slices_IndexFunc_int_int_with_tile_of_1.l0 k (w64 (x9924 + 1)) p0 p1_0)) else none) else (some (.inr ()))
def slices_IndexFunc_int_int_with_tile_of_1 (k : Nat) (p0 : List Int) (p1_0 : List Tile) : Option Int := (slices_IndexFunc_int_int_with_tile_of_1.l0 k 0 p0 p1_0).bind fun x9925 => sumb x9925 (fun r => some r) (fun y9942 => some (-1))
def slices_ContainsFunc_int_int_with_tile_of_1 (k : Nat) (p0 : List Int) (p1_0 : List Tile) : Option Bool := (slices_IndexFunc_int_int_with_tile_of_1 k p0 p1_0).bind fun t9944 => some (decide (t9944 ≥ 0))
def tile_of (k : Nat) (p0 : List Tile) (p1 : Pattern) : Option Bool := (tile_Valid k p0).bind fun t9867 => (if t9867 = true then ((tile_Form p1).bind fun t9895 => some t9895) else (some false)).bind fun x9892 => (if x9892 = true then ((slices_ContainsFunc_int_int_with_tile_of_1 k p1.Cells p0).bind fun t9958 => some (!t9958)) else (some false)).bind fun x9955 => some x9955
def tile_joins.l0 : Nat → Int → (List Tile) → Pattern → Bool → Option (Sum Bool Unit)
  | 0, _, _, _, _ => none
  | k + 1, x10144, p0, p1, p2 => if (decide (x10144 < (p1.Cells.length : Int))) = true then (if 0 ≤ x10144 ∧ x10144 < (p1.Cells.length : Int) then (if p1.Width ≠ 0 then ((if ((decide (w64 ((Int.tmod x10144 p1.Width) + 1) < p1.Width)) || p2) = true then (if 0 ≤ (rdD p1.Cells x10144 0) ∧ (rdD p1.Cells x10144 0) < (p0.length : Int) then (if 0 ≤ w64 ((w64 ((w64 (Int.tdiv x10144 p1.Width)) * p1.Width)) + (Int.tmod (w64 ((Int.tmod x10144 p1.Width) + 1)) p1.Width)) ∧ w64 ((w64 ((w64 (Int.tdiv x10144 p1.Width)) * p1.Width)) + (Int.tmod (w64 ((Int.tmod x10144 p1.Width) + 1)) p1.Width)) < (p1.Cells.length : Int) then (if 0 ≤ (rdD p1.Cells (w64 ((w64 ((w64 (Int.tdiv x10144 p1.Width)) * p1.Width)) + (Int.tmod (w64 ((Int.tmod x10144 p1.Width) + 1)) p1.Width))) 0) ∧ (rdD p1.Cells (w64 ((w64 ((w64 (Int.tdiv x10144 p1.Width)) * p1.Width)) + (Int.tmod (w64 ((Int.tmod x10144 p1.Width) + 1)) p1.Width))) 0) < (p0.length : Int) then (if (((rdD p0 (rdD p1.Cells x10144 0) z_Tile).E) != ((rdD p0 (rdD p1.Cells (w64 ((w64 ((w64 (Int.tdiv x10144 p1.Width)) * p1.Width)) + (Int.tmod (w64 ((Int.tmod x10144 p1.Width) + 1)) p1.Width))) 0) z_Tile).W)) = true then (some (.inl false)) else (some (.inr ()))) else none) else none) else none) else (some (.inr ()))).bind fun x10173 => sumb x10173 (fun r => some (.inl r)) (fun y10191 => (if ((decide (w64 ((w64 (Int.tdiv x10144 p1.Width)) + 1) < p1.Height)) || p2) = true then (if 0 ≤ (rdD p1.Cells x10144 0) ∧ (rdD p1.Cells x10144 0) < (p0.length : Int) then (if p1.Height ≠ 0 then (if 0 ≤ w64 ((w64 ((Int.tmod (w64 ((w64 (Int.tdiv x10144 p1.Width)) + 1)) p1.Height) * p1.Width)) + (Int.tmod x10144 p1.Width)) ∧ w64 ((w64 ((Int.tmod (w64 ((w64 (Int.tdiv x10144 p1.Width)) + 1)) p1.Height) * p1.Width)) + (Int.tmod x10144 p1.Width)) < (p1.Cells.length : Int) then (if 0 ≤ (rdD p1.Cells (w64 ((w64 ((Int.tmod (w64 ((w64 (Int.tdiv x10144 p1.Width)) + 1)) p1.Height) * p1.Width)) + (Int.tmod x10144 p1.Width))) 0) ∧ (rdD p1.Cells (w64 ((w64 ((Int.tmod (w64 ((w64 (Int.tdiv x10144 p1.Width)) + 1)) p1.Height) * p1.Width)) + (Int.tmod x10144 p1.Width))) 0) < (p0.length : Int) then (if (((rdD p0 (rdD p1.Cells x10144 0) z_Tile).N) != ((rdD p0 (rdD p1.Cells (w64 ((w64 ((Int.tmod (w64 ((w64 (Int.tdiv x10144 p1.Width)) + 1)) p1.Height) * p1.Width)) + (Int.tmod x10144 p1.Width))) 0) z_Tile).S)) = true then (some (.inl false)) else (some (.inr ()))) else none) else none) else none) else none) else (some (.inr ()))).bind fun x10211 => sumb x10211 (fun r => some (.inl r)) (fun y10232 => tile_joins.l0 k (w64 (x10144 + 1)) p0 p1 p2))) else none) else none) else (some (.inr ()))
def tile_joins (k : Nat) (p0 : List Tile) (p1 : Pattern) (p2 : Bool) : Option Bool := (tile_joins.l0 k 0 p0 p1 p2).bind fun x10145 => sumb x10145 (fun r => some r) (fun y10237 => some true)
def tile_Repeats (k : Nat) (p0 : List Tile) (p1 : Pattern) : Option Bool := (tile_of k p0 p1).bind fun t9968 => (if t9968 = true then ((tile_joins k p0 p1 true).bind fun t10248 => some t10248) else (some false)).bind fun x10245 => some x10245
def decide_Check (k : Nat) (p0 : List Tile) (p1 : Verdict) : Option (Bool × Int) := (tile_Valid k p0).bind fun t9848 => if (!t9848) = true then (some (false, 1)) else (if p1.Fills = true then ((if (p1.Side == 0) = true then ((tile_Repeats k p0 p1.Torus).bind fun t10267 => some t10267) else (some false)).bind fun x10264 => some (x10264, 0)) else (if (((p1.Torus.Width != 0) || (p1.Torus.Height != 0)) || (decide ((p1.Torus.Cells.length : Int) > 0))) = true then (some (false, 0)) else ((square_Exists k p0 p1.Side).bind fun t10282 => some ((t10282.2 == 0) && (!t10282.1), 0))))
def law09_DecideVerdicts (k : Nat) (p0 : List Tile) : Option Bool := if (decide ((p0.length : Int) > 2000)) = true then ((law09_awake k).bind fun t9117 => some t9117) else ((decide_Decide k p0).bind fun t9122 => (decide_Fills k p0).bind fun t9148 => (law09_code k p0).bind fun t9763 => if (t9763 != 0) = true then ((if ((t9122.2 == t9763) && (t9148.2 == t9763)) = true then ((law09_zero t9122.1).bind fun t9813 => some t9813) else (some false)).bind fun x9810 => (if (x9810 && (!t9148.1)) = true then ((law09_awake k).bind fun t9834 => some t9834) else (some false)).bind fun x9831 => some x9831) else ((decide_Check k p0 t9122.1).bind fun t10289 => if (((((t9122.2 != 0) || (t9148.2 != 0)) || (t10289.2 != 0)) || (!t10289.1)) || (t9148.1 != t9122.1.Fills)) = true then (some false) else ((torus_Least k p0 6).bind fun t10303 => if t9122.1.Fills = true then ((if ((t10303.2 == 0) && (t9122.1.Side == 0)) = true then ((ref01_SamePattern k t10303.1 t9122.1.Torus).bind fun t10328 => some t10328) else (some false)).bind fun x10325 => (if x10325 = true then ((tile_Repeats k p0 t10303.1).bind fun t10347 => some t10347) else (some false)).bind fun x10344 => (if x10344 = true then ((law09_awake k).bind fun t10366 => some t10366) else (some false)).bind fun x10363 => some x10363) else ((if (t10303.2 != 6) = true then (some true) else ((law09_none t9122.1.Torus).bind fun t10385 => some (!t10385))).bind fun x10382 => if ((x10382 || (decide (t9122.1.Side < 1))) || (decide (t9122.1.Side > 8))) = true then (some false) else ((square_Exists k p0 t9122.1.Side).bind fun t10400 => if ((t10400.2 != 0) || t10400.1) = true then (some false) else ((if (decide (t9122.1.Side > 1)) = true then ((square_Exists k p0 (w64 (t9122.1.Side - 1))).bind fun t10420 => if ((t10420.2 != 0) || (!t10420.1)) = true then (some (.inl false)) else (some (.inr ()))) else (some (.inr ()))).bind fun x10417 => sumb x10417 (fun r => some r) (fun y10431 => (law09_awake k).bind fun t10433 => some t10433)))))))
end Gp
namespace Gp
open Go Gw Go.Proofs Go.RowKit
def ok_Tile (a : Tile) : Prop := (ok64 a.N) ∧ (ok64 a.E) ∧ (ok64 a.S) ∧ (ok64 a.W)
theorem opn_Tile_24 {H : Type} {enc : TypeId × Value → H} {w : World} {base : Nat} {spare : Nat → Bool} {held : Bool} {fuel : Nat} {cs : List Value} {x : DataW H × List MemPlace} (h : DataW.trod enc Try.prog w base spare held fuel 24 cs = some x) : ∃ (a : Tile), cs = [.int .i64 a.N, .int .i64 a.E, .int .i64 a.S, .int .i64 a.W] ∧ ok_Tile a := by
  obtain ⟨hl, n, hf⟩ := opn_fields Try.underlying24 h
  have hl0 : cs.length = 4 := hl.trans (by kernel_rfl)
  obtain ⟨q0, r0, rfl, hl1⟩ := cons_of hl0
  obtain ⟨q1, r1, rfl, hl2⟩ := cons_of hl1
  obtain ⟨q2, r2, rfl, hl3⟩ := cons_of hl2
  obtain ⟨q3, r3, rfl, hl4⟩ := cons_of hl3
  obtain rfl := List.eq_nil_of_length_eq_zero hl4
  obtain ⟨y0, h0⟩ := hf 0 _ 1 rfl (by kernel_rfl)
  have h0 : DataW.trod enc Try.prog w base spare held n 3 [q0] = some y0 := h0
  obtain ⟨a0, e0, w0⟩ := opn_int Try.underlying3 h0
  injection e0 with f0 e0
  subst f0
  obtain ⟨y1, h1⟩ := hf 1 _ 1 rfl (by kernel_rfl)
  have h1 : DataW.trod enc Try.prog w base spare held n 3 [q1] = some y1 := h1
  obtain ⟨a1, e1, w1⟩ := opn_int Try.underlying3 h1
  injection e1 with f1 e1
  subst f1
  obtain ⟨y2, h2⟩ := hf 2 _ 1 rfl (by kernel_rfl)
  have h2 : DataW.trod enc Try.prog w base spare held n 3 [q2] = some y2 := h2
  obtain ⟨a2, e2, w2⟩ := opn_int Try.underlying3 h2
  injection e2 with f2 e2
  subst f2
  obtain ⟨y3, h3⟩ := hf 3 _ 1 rfl (by kernel_rfl)
  have h3 : DataW.trod enc Try.prog w base spare held n 3 [q3] = some y3 := h3
  obtain ⟨a3, e3, w3⟩ := opn_int Try.underlying3 h3
  injection e3 with f3 e3
  subst f3
  exact ⟨⟨a0, a1, a2, a3⟩, rfl, ⟨wf64 w0, wf64 w1, wf64 w2, wf64 w3⟩⟩
theorem opens_Tile_24 : Opens Try.prog 24 enc_Tile ok_Tile := ⟨by kernel_rfl, by decide, fun h => opn_Tile_24 h⟩
end Gp
