/- Walks: each function of the program computes its plain function. -/
import Derived.Test.YtchikbfmbfoaoaaGreatDoorGx2
set_option linter.unusedVariables false
set_option linter.unusedSimpArgs false
set_option maxHeartbeats 4000000
set_option maxRecDepth 8000
namespace Gp
open Go Gw Go.Proofs
theorem fill_Count_key64 : KeyK Tryz.prog 64 (aggI ints_A8_Int) := KeyK.array (n := 8) (by kernel_rfl) ints_A8_Int (fun _ => rfl) (fun x y h => by cases x; cases y; simp only [ints_A8_Int, List.cons.injEq, and_true] at h; obtain ⟨rfl, rfl, rfl, rfl, rfl, rfl, rfl, rfl⟩ := h; rfl)
theorem fill_Count_calls (k : Nat) (p0 : List Tile) (p1 : Int) (p2 : Int) (p3 : Edges) (Aa : Option Addr) (ca : Nat) (Ab : Option Addr) (cb : Nat) (Ac : Option Addr) (cc : Nat) (Ad : Option Addr) (cd : Nat) (Ae : Option Addr) (ce : Nat) (r : Int × Int) (w : World) (hR0 : RO NoS w (rowR enc_Tile Aa ca p0)) (hR1 : RO NoS w (rowR encInt Ab cb p3.North)) (hR2 : RO NoS w (rowR encInt Ac cc p3.East)) (hR3 : RO NoS w (rowR encInt Ad cd p3.South)) (hR4 : RO NoS w (rowR encInt Ae ce p3.West)) (hf : fill_Count k p0 p1 p2 p3 = some r) :
  CallsR Tryz.prog 8 #[(sv Aa p0 ca), (iv p1), (iv p2), (.agg #[(sv Ab p3.North cb), (sv Ac p3.East cc), (sv Ad p3.South cd), (sv Ae p3.West ce)])] w (fun v w' => v = (.tuple #[(iv r.1), (iv r.2)]) ∧ Keeps NoS w w') := by
 have hS : St NoS w w [rowR enc_Tile Aa ca p0, rowR encInt Ab cb p3.North, rowR encInt Ac cc p3.East, rowR encInt Ad cd p3.South, rowR encInt Ae ce p3.West] [] := St.init (ro_cons hR0 (ro_cons hR1 (ro_cons hR2 (ro_cons hR3 (ro_cons hR4 (ro_nil _ _))))))
 refine enter 87 Tryz.func8 rfl Tryz.ntmps8 rfl ?_
 unfold fill_Count at hf
 refine WC.seq (WC.region ?_)
 refine WL.new hS 7 [] (fun g => (pt g)) (.cells #[(sv Ab p3.North cb), (sv Ac p3.East cc), (sv Ad p3.South cd), (sv Ae p3.West ce)] 37 (0, 0)) [] (fun fb g => by kernel_rfl) trivial (fun g9 w10 hS11 => ?_)
 refine ⟨trivial, ?_⟩
 refine seg 3 [] [0, 1, 2, 7] [(0, (sv Aa p0 ca)), (1, (iv p1)), (2, (iv p2)), (7, (pt g9))] [] (fun fb => by kernel_rfl) rfl trivial ?_
 refine WL.done rfl (WX.next (WC.seq (WC.region ?_)))
 refine seg 4 [.v (sv Ab p3.North cb), .v (sv Ac p3.East cc), .v (sv Ad p3.South cd), .v (sv Ae p3.West ce)] [2, 23, 24, 25, 26] [(2, (iv p2)), (23, (sv Aa p0 ca)), (24, (iv p1)), (25, (iv p2)), (26, (.agg #[(sv Ab p3.North cb), (sv Ac p3.East cc), (sv Ad p3.South cd), (sv Ae p3.West ce)]))] [.cell ⟨g9, 0, none⟩ (sv Ab p3.North cb), .cell ⟨g9, 1, none⟩ (sv Ac p3.East cc), .cell ⟨g9, 2, none⟩ (sv Ad p3.South cd), .cell ⟨g9, 3, none⟩ (sv Ae p3.West ce)] (fun fb => by kernel_rfl) rfl ⟨hS11.cell 0 rfl 0 rfl, hS11.cell 0 rfl 1 rfl, hS11.cell 0 rfl 2 rfl, hS11.cell 0 rfl 3 rfl, trivial⟩ ?_
 obtain ⟨t12, ht13, hf⟩ := bind_some hf
 refine WL.call (some 27) 24 #[(sv Aa p0 ca), (iv p1), (iv p2), (.agg #[(sv Ab p3.North cb), (sv Ac p3.East cc), (sv Ad p3.South cd), (sv Ae p3.West ce)])] (fun fb => by kernel_rfl) (fill_begin_calls _ p0 p1 p2 p3 Aa ca Ab cb Ac cc Ad cd Ae ce t12 _ (hS11.rd 0) (hS11.rd 1) (hS11.rd 2) (hS11.rd 3) (hS11.rd 4) ht13) (fun v w14 hR15 => ?_)
 obtain ⟨g17, A18, c19, H20, rfl, hk_⟩ := hR15
 refine ⟨trivial, ?_⟩
 let e16 : List Own := [rowR enc_Tile Aa ca p0, rowR encInt Ab cb p3.North, rowR encInt Ac cc p3.East, rowR encInt Ad cd p3.South, rowR encInt Ae ce p3.West]
 let e32 := aggI ints_A8_Int
 let e53 : Nat × Value := (33, (iv p2))
 rcases optM_some hf with ⟨ho22, hf⟩ | ⟨y21, ho22, hf⟩
 ·
  have ho22 : t12.1 = none := ho22
  have hS16 := hS11.keepN (optS_none ho22 hk_)
  refine WL.reE [2, 23, 24, 25, 26, 27] [(2, (iv p2)), (23, (.slice Aa p0.length ca)), (24, (iv p1)), (25, (iv p2)), (26, (.agg #[(.slice Ab p3.North.length cb), (.slice Ac p3.East.length cc), (.slice Ad p3.South.length cd), (.slice Ae p3.West.length ce)])), (27, (.tuple #[(optP t12.1 g17), (iv t12.2)]))] [(2, (iv p2)), (23, (.slice Aa p0.length ca)), (24, (iv p1)), (25, (iv p2)), (26, (.agg #[(.slice Ab p3.North.length cb), (.slice Ac p3.East.length cc), (.slice Ad p3.South.length cd), (.slice Ae p3.West.length ce)])), (27, (.tuple #[(.pointer none), (iv t12.2)]))] rfl (by rw [ho22]; rfl) ?_
  refine seg 10 [] [2, 10, 11] [(2, (iv p2)), (10, (.pointer none)), (11, (iv t12.2))] [] (fun fb => by kernel_rfl) rfl trivial ?_
  refine WL.done rfl (WX.next (WC.seq (WC.seq (WC.region ?_))))
  refine seg 2 [] [2, 10, 11, 31] [(2, (iv p2)), (10, (.pointer none)), (11, (iv t12.2)), (31, (bv (t12.2 != 0)))] [] (fun fb => by kernel_rfl) rfl trivial ?_
  refine WL.done rfl (WX.next ?_)
  rcases br_some hf with ⟨h23, hf⟩ | ⟨h23, hf⟩
  ·refine WC.condT2 (fun fb => by kernel_rfl) h23 ?_
   refine WC.seq (WC.region ?_)
   refine seg 3 [] [8, 9] [(8, (iv 0)), (9, (iv t12.2))] [] (fun fb => by kernel_rfl) rfl trivial ?_
   refine WL.done rfl (WX.next ?_)
   refine WC.ret ?_
   injection hf with hf
   subst hf
   exact WX.thenR (WX.ret_ [] (.tuple #[(iv 0), (iv t12.2)]) [] (fun fb => by kernel_rfl) trivial ⟨_, rfl, rfl, hS16.keep⟩)
  refine WC.condF2 (fun fb => by kernel_rfl) h23 ?_
  refine WC.skip (WX.next (WC.seq (WC.region ?_)))
  refine seg 1 [] [2, 10, 12] [(2, (iv p2)), (10, (.pointer none)), (12, (.func (.func 25) #[] #[]))] [] (fun fb => by kernel_rfl) rfl trivial ?_
  refine WL.done rfl (WX.next (WC.seq (WC.region ?_)))
  have hS24 := hS.go w14 [mapN e32 (vI .i64) (none : Option Nat) ([] : List (A8_Int × Int)), blk g9 (.cells #[(sv Ab p3.North cb), (sv Ac p3.East cc), (sv Ad p3.South cd), (sv Ae p3.West ce)] 37 (0, 0))] (hS16.mapnNil e32 (vI .i64))
  refine seg 1 [] [2, 10, 12, 13] [(2, (iv p2)), (10, (.pointer none)), (12, (.func (.func 25) #[] #[])), (13, (.map (none : Option Nat)))] [] (fun fb => by kernel_rfl) rfl trivial ?_
  refine WL.done rfl (WX.next (WC.seq (WC.seq (WC.region ?_))))
  refine seg 2 [] [10, 12, 13, 33, 34] [(10, (.pointer none)), (12, (.func (.func 25) #[] #[])), (13, (.map (none : Option Nat))), e53, (34, (iv 0))] [] (fun fb => by kernel_rfl) rfl trivial ?_
  refine WL.done rfl (WX.next ?_)
  obtain ⟨x25, hx26, hf⟩ := bind_some hf
  refine WC.cutN (T := Unit) (fun t => [(12, (.func (.func 25) #[] #[])), (13, (.map (none : Option Nat)))]) (fun t w1 => St NoS w w1 e16 [mapN e32 (vI .i64) (none : Option Nat) ([] : List (A8_Int × Int))] ∧ x25 = t) (fun Kx25 => ?_) ?_
  ·
   refine WC.block ?_
   refine WC.loop (T := Unit) (fun t => [(10, (.pointer none)), (12, (.func (.func 25) #[] #[])), (13, (.map (none : Option Nat))), e53, (34, (iv 0))]) (fun n t w1 => St NoS w w1 e16 [mapN e32 (vI .i64) (none : Option Nat) ([] : List (A8_Int × Int))] ∧ fill_Count.l0 n p2 = some x25) k () [10, 12, 13, 33, 34] rfl ⟨(hS24.subR [0, 1, 2, 3, 4]).sub [0] (by decide), hx26⟩ ?_
   rintro k27 ⟨⟩ w28 ⟨hS29, hl30⟩
   cases k27 with
   | zero => rw [fill_Count.l0] at hl30; cases hl30
   | succ k27 =>
    rw [fill_Count.l0] at hl30
    refine WC.seq (WC.region ?_)
    refine seg 1 [] [10, 12, 13, 33, 34, 35] [(10, (.pointer none)), (12, (.func (.func 25) #[] #[])), (13, (.map (none : Option Nat))), e53, (34, (iv 0)), (35, (bv (decide (0 < p2))))] [] (fun fb => by kernel_rfl) rfl trivial ?_
    refine WL.done rfl (WX.next (WC.seq ?_))
    rcases br_some hl30 with ⟨h31, hl30⟩ | ⟨h31, hl30⟩
    ·refine WC.condT2 (fun fb => by kernel_rfl) h31 ?_
     refine WC.skip (WX.next (WC.seq (WC.block (WC.seq (WC.region ?_)))))
     refine seg 2 [] [10, 12, 13, 14, 33, 34] [(10, (.pointer none)), (12, (.func (.func 25) #[] #[])), (13, (.map (none : Option Nat))), (14, (iv 0)), e53, (34, (iv 0))] [] (fun fb => by kernel_rfl) rfl trivial ?_
     refine WL.done rfl (WX.next (WC.seq (WC.region ?_)))
     refine WL.new hS29 37 [] (fun g => (.map (some g))) (mapObj e32 (vI .i64) ([] : List (A8_Int × Int))) [] (fun fb g => by kernel_rfl) trivial (fun g32 w33 hS34 => ?_)
     refine ⟨trivial, ?_⟩
     refine seg 2 [] [10, 12, 13, 14, 15, 33, 34] [(10, (.pointer none)), (12, (.func (.func 25) #[] #[])), (13, (.map (none : Option Nat))), (14, (iv 0)), (15, (.map (some g32))), e53, (34, (iv 0))] [] (fun fb => by kernel_rfl) rfl trivial ?_
     refine WL.done rfl (WX.next (WC.seq (WC.seq (WC.region ?_))))
     refine seg 1 [] [10, 12, 13, 14, 15, 33, 34, 38] [(10, (.pointer none)), (12, (.func (.func 25) #[] #[])), (13, (.map (none : Option Nat))), (14, (iv 0)), (15, (.map (some g32))), e53, (34, (iv 0)), (38, (.pointer none))] [] (fun fb => by kernel_rfl) rfl trivial ?_
     cases hl30
    refine WC.condF2 (fun fb => by kernel_rfl) h31 ?_
    refine WC.exit ?_
    injection hl30 with hl30
    exact WX.thenX (WX.thenX (WX.blockHere (WX.to Kx25 () [12, 13] rfl ⟨(hS29.subR [0, 1, 2, 3, 4]).sub [0] (by decide), hl30.symm⟩)))
  rintro y38 w35 ⟨hS36, hq37⟩
  subst hq37
  refine WX.next (WC.seq (WC.region ?_))
  refine seg 1 [] [12, 13, 19] [(12, (.func (.func 25) #[] #[])), (13, (.map (none : Option Nat))), (19, (iv 0))] [] (fun fb => by kernel_rfl) rfl trivial ?_
  refine WL.done rfl (WX.next (WC.seq (WC.seq (WC.region ?_))))
  refine seg 1 [] [12, 19, 74] [(12, (.func (.func 25) #[] #[])), (19, (iv 0)), (74, (.map (none : Option Nat)))] [] (fun fb => by kernel_rfl) rfl trivial ?_
  refine WL.mrange hS36 0 (kT := 64) (eT := 3) (t := 59) (d := 75) rfl (fun fb => by kernel_rfl) (by kernel_rfl) (fun g39 w40 hS41 => ?_)
  refine ⟨trivial, ?_⟩
  refine WL.done rfl (WX.next ?_)
  obtain ⟨x50, hx51, hf⟩ := bind_some hf
  have hO52 := sat_free (step := fun (x49 : Int) (vv46 : Int) => (fill_Count_1 x49 vv46).bind fun t69 => some t69) (by decide) (by decide) (fun a v => rfl) hx51
  let e51 : Nat × Value := (75, (pt g39))
  refine WC.cutN (T := Int) (fun t => [(19, (iv t))]) (fun t w1 => St NoS w w1 e16 [] ∧ x50 = t) (fun Kx50 => ?_) ?_
  ·
   refine WC.block ?_
   refine WC.loop (T := List Nat × Int) (fun t => [(12, (.func (.func 25) #[] #[])), (19, (iv t.2)), e51]) (fun n t w1 => St NoS w w1 e16 [blk g39 (iterOb (none : Option Nat) ([] : List (A8_Int × Int)).length t.1), mapN e32 (vI .i64) (none : Option Nat) ([] : List (A8_Int × Int))] ∧ t.1.Nodup ∧ (∀ x_ ∈ t.1, x_ < ([] : List (A8_Int × Int)).length) ∧ t.1.length + n = ([] : List (A8_Int × Int)).length + 1 ∧ (valsAt ([] : List (A8_Int × Int)) t.1).foldlM (fun (x49 : Int) (vv46 : Int) => (fill_Count_1 x49 vv46).bind fun t69 => some t69) 0 = some t.2) (([] : List (A8_Int × Int)).length + 1) ([], 0) [12, 19, 75] rfl ⟨(hS41.subR [0, 1, 2, 3, 4]).sub [0, 1] (by decide), List.nodup_nil, (fun x_ h_ => by cases h_), Nat.zero_add _, rfl⟩ ?_
   rintro n53 ⟨sn42, x49⟩ w58 ⟨hS59, h54, h55, h56, h57⟩
   have h56 : sn42.length + n53 = ([] : List (A8_Int × Int)).length + 1 := h56
   refine WC.seq (WC.region ?_)
   refine WL.mnext hS59 1 0 (kE := e32) (vE := (vI .i64)) (og := (none : Option Nat)) (l := ([] : List (A8_Int × Int))) rfl rfl (by decide) (d := 76) (fun fb => by kernel_rfl) [1] (by decide) (by decide) (fun hall68 => ?_) (fun q43 hq44 kk45 vv46 hkv47 hqs48 w66 hS67 => ?_)
   ·
    refine ⟨trivial, ?_⟩
    have hc_x50 := h57.symm.trans (hO52.all h54 h55 hall68)
    refine seg 2 [] [12, 19, 75, 77] [(12, (.func (.func 25) #[] #[])), (19, (iv x49)), e51, (77, (bv false))] [] (fun fb => by kernel_rfl) rfl trivial ?_
    refine WL.done rfl (WX.next (WC.seq ?_))
    refine WC.condF (fun fb => by kernel_rfl) ?_
    refine WC.exit ?_
    injection hc_x50 with hc_x50
    exact WX.thenX (WX.thenX (WX.blockHere (WX.to Kx50 x49 [19] rfl ⟨(hS59.subR [0, 1, 2, 3, 4]).sub [] (by decide), hc_x50.symm⟩)))
   refine ⟨trivial, ?_⟩
   obtain ⟨h61, h62, hlt60, c63, hc_x50, h65⟩ := hO52.step h54 h55 hq44 hqs48 hkv47 h57
   refine seg 2 [] [12, 19, 75, 77] [(12, (.func (.func 25) #[] #[])), (19, (iv x49)), e51, (77, (bv true))] [] (fun fb => by kernel_rfl) rfl trivial ?_
   refine WL.done rfl (WX.next (WC.seq ?_))
   refine WC.condT (fun fb => by kernel_rfl) ?_
   refine WC.skip (WX.next (WC.block (WC.seq (WC.region ?_))))
   refine WL.mentry hS67 1 0 (kE := e32) (vE := (vI .i64)) (og := (none : Option Nat)) (l := ([] : List (A8_Int × Int))) hq44 hkv47 rfl rfl (d := 78) (fun fb => by kernel_rfl) ?_
   refine ⟨trivial, ?_⟩
   refine seg 3 [] [12, 19, 21, 75] [(12, (.func (.func 25) #[] #[])), (19, (iv x49)), (21, (iv vv46)), e51] [] (fun fb => by kernel_rfl) rfl trivial ?_
   refine WL.done rfl (WX.next (WC.region ?_))
   refine seg 3 [] [12, 75, 80, 81, 82] [(12, (.func (.func 25) #[] #[])), e51, (80, (.func (.func 25) #[] #[])), (81, (iv x49)), (82, (iv vv46))] [] (fun fb => by kernel_rfl) rfl trivial ?_
   obtain ⟨t69, ht70, hc_x50⟩ := bind_some hc_x50
   refine WL.call (some 83) 25 #[(iv x49), (iv vv46)] (fun fb => by kernel_rfl) (fill_Count_1_calls x49 vv46 t69 _ ht70) (fun v w71 hR72 => ?_)
   obtain ⟨rfl, hk_⟩ := hR72
   have hS73 := hS67.keepN hk_
   refine ⟨trivial, ?_⟩
   refine seg 5 [] [12, 19, 75] [(12, (.func (.func 25) #[] #[])), (19, (iv t69)), e51] [] (fun fb => by kernel_rfl) rfl trivial ?_
   refine WL.done rfl ?_
   injection hc_x50 with hc_x50
   exact WX.blockN (WX.again (n53 - 1) (by omega) ((sn42 ++ [q43]), t69) [12, 19, 75] rfl ⟨(hS73.subR [0, 1, 2, 3, 4]).sub [0, 1] (by decide), h61, h62, (by rw [List.length_append, List.length_singleton]; omega), h65.trans (congrArg some hc_x50.symm)⟩)
  rintro y77 w74 ⟨hS75, hq76⟩
  subst hq76
  refine WX.next (WC.seq (WC.seq (WC.region ?_)))
  refine seg 2 [] [19, 85] [(19, (iv x50)), (85, (bv (decide (x50 > 1152921504606846976))))] [] (fun fb => by kernel_rfl) rfl trivial ?_
  refine WL.done rfl (WX.next ?_)
  rcases br_some hf with ⟨h78, hf⟩ | ⟨h78, hf⟩
  ·refine WC.condT2 (fun fb => by kernel_rfl) h78 ?_
   refine WC.seq (WC.region ?_)
   refine seg 2 [] [8, 9] [(8, (iv 0)), (9, (iv 4))] [] (fun fb => by kernel_rfl) rfl trivial ?_
   refine WL.done rfl (WX.next ?_)
   refine WC.ret ?_
   injection hf with hf
   subst hf
   exact WX.thenR (WX.ret_ [] (.tuple #[(iv 0), (iv 4)]) [] (fun fb => by kernel_rfl) trivial ⟨_, rfl, rfl, hS75.keep⟩)
  refine WC.condF2 (fun fb => by kernel_rfl) h78 ?_
  refine WC.skip (WX.next (WC.seq (WC.region ?_)))
  refine seg 3 [] [8, 9] [(8, (iv x50)), (9, (iv 0))] [] (fun fb => by kernel_rfl) rfl trivial ?_
  refine WL.done rfl (WX.next ?_)
  refine WC.ret ?_
  injection hf with hf
  subst hf
  exact WX.ret_ [] (.tuple #[(iv x50), (iv 0)]) [] (fun fb => by kernel_rfl) trivial ⟨_, rfl, rfl, hS75.keep⟩
 have ho22 : t12.1 = some y21 := ho22
 have hk_ := optS_some ho22 hk_
 have hS16 := hS.go w14 [blk g17 (.cells #[(.slice A18 y21.rows.length c19), (iv y21.width), (iv y21.height), (.slice Ab p3.North.length cb), (.slice Ac p3.East.length cc), (.slice Ad p3.South.length cd), (.slice Ae p3.West.length ce)] 62 (0, 0)), rowO 66 encN_Row A18 c19 (tag H20 y21.rows), poolO [nestO subN_Row H20 y21.rows], blk g9 (.cells #[(.slice Ab p3.North.length cb), (.slice Ac p3.East.length cc), (.slice Ad p3.South.length cd), (.slice Ae p3.West.length ce)] 37 (0, 0))] (hS11.call hk_ [] [0] (fun g hg => hg.elim) (by simp) (by decide))
 refine WL.reE [2, 23, 24, 25, 26, 27] [(2, (iv p2)), (23, (.slice Aa p0.length ca)), (24, (iv p1)), (25, (iv p2)), (26, (.agg #[(.slice Ab p3.North.length cb), (.slice Ac p3.East.length cc), (.slice Ad p3.South.length cd), (.slice Ae p3.West.length ce)])), (27, (.tuple #[(optP t12.1 g17), (iv t12.2)]))] [(2, (iv p2)), (23, (.slice Aa p0.length ca)), (24, (iv p1)), (25, (iv p2)), (26, (.agg #[(.slice Ab p3.North.length cb), (.slice Ac p3.East.length cc), (.slice Ad p3.South.length cd), (.slice Ae p3.West.length ce)])), (27, (.tuple #[(pt g17), (iv t12.2)]))] rfl (by rw [ho22]; rfl) ?_
 refine seg 10 [] [2, 10, 11] [(2, (iv p2)), (10, (pt g17)), (11, (iv t12.2))] [] (fun fb => by kernel_rfl) rfl trivial ?_
 refine WL.done rfl (WX.next (WC.seq (WC.seq (WC.region ?_))))
 refine seg 2 [] [2, 10, 11, 31] [(2, (iv p2)), (10, (pt g17)), (11, (iv t12.2)), (31, (bv (t12.2 != 0)))] [] (fun fb => by kernel_rfl) rfl trivial ?_
 refine WL.done rfl (WX.next ?_)
 rcases br_some hf with ⟨h79, hf⟩ | ⟨h79, hf⟩
 ·refine WC.condT2 (fun fb => by kernel_rfl) h79 ?_
  refine WC.seq (WC.region ?_)
  refine seg 3 [] [8, 9] [(8, (iv 0)), (9, (iv t12.2))] [] (fun fb => by kernel_rfl) rfl trivial ?_
  refine WL.done rfl (WX.next ?_)
  refine WC.ret ?_
  injection hf with hf
  subst hf
  exact WX.thenR (WX.ret_ [] (.tuple #[(iv 0), (iv t12.2)]) [] (fun fb => by kernel_rfl) trivial ⟨_, rfl, rfl, hS16.keep⟩)
 refine WC.condF2 (fun fb => by kernel_rfl) h79 ?_
 refine WC.skip (WX.next (WC.seq (WC.region ?_)))
 refine seg 1 [] [2, 10, 12] [(2, (iv p2)), (10, (pt g17)), (12, (.func (.func 25) #[] #[]))] [] (fun fb => by kernel_rfl) rfl trivial ?_
 refine WL.done rfl (WX.next (WC.seq (WC.region ?_)))
 have hS80 := hS16.go w14 [mapN e32 (vI .i64) (none : Option Nat) ([] : List (A8_Int × Int)), blk g17 (.cells #[(sv A18 y21.rows c19), (iv y21.width), (iv y21.height), (sv Ab p3.North cb), (sv Ac p3.East cc), (sv Ad p3.South cd), (sv Ae p3.West ce)] 62 (0, 0)), rowO 66 encN_Row A18 c19 (tag H20 y21.rows), poolO [nestO subN_Row H20 y21.rows], blk g9 (.cells #[(sv Ab p3.North cb), (sv Ac p3.East cc), (sv Ad p3.South cd), (sv Ae p3.West ce)] 37 (0, 0))] (hS16.mapnNil e32 (vI .i64))
 refine seg 1 [] [2, 10, 12, 13] [(2, (iv p2)), (10, (pt g17)), (12, (.func (.func 25) #[] #[])), (13, (.map (none : Option Nat)))] [] (fun fb => by kernel_rfl) rfl trivial ?_
 refine WL.done rfl (WX.next (WC.seq (WC.seq (WC.region ?_))))
 refine seg 2 [] [10, 12, 13, 33, 34] [(10, (pt g17)), (12, (.func (.func 25) #[] #[])), (13, (.map (none : Option Nat))), e53, (34, (iv 0))] [] (fun fb => by kernel_rfl) rfl trivial ?_
 refine WL.done rfl (WX.next ?_)
 obtain ⟨x85, hx86, hf⟩ := bind_some hf
 let e10 : Array Value := #[(sv A18 y21.rows c19), (iv y21.width), (iv y21.height), (sv Ab p3.North cb), (sv Ac p3.East cc), (sv Ad p3.South cd), (sv Ae p3.West ce)]
 let e11 : List Own := e16
 let e17 : Nat × Value := (41, (sv A18 y21.rows c19))
 let e18 : Nat × Value := (10, (pt g17))
 let e19 : Nat × Value := e53
 let e21 := aggI ints_A8_Int
 let e24 : List Nat := [10, 12, 13, 14, 15, 33, 34, 41, 42, 43]
 let e25 : List Own := [nestO subN_Row H20 y21.rows]
 let e26 : List Nat := [0, 1, 2, 3, 4]
 let e27 : List Nat := [10, 12, 13, 14, 15, 17, 18, 33, 34, 41, 42, 43, 60]
 let e29 : List Nat := [10, 12, 13, 14, 15, 17, 18, 33, 34, 41, 42, 43]
 let e33 := tag H20 y21.rows
 let e52 : List Nat := [10, 12, 13, 33, 34]
 refine WC.cutN (T := (List (A8_Int × Int)) × (Option Nat)) (fun t => [(12, (.func (.func 25) #[] #[])), (13, (.map t.2))]) (fun t w1 => St NoS w w1 e11 [mapN e21 (vI .i64) t.2 t.1] ∧ x85 = t.1) (fun Kx85 => ?_) ?_
 ·
  refine WC.block ?_
  refine WC.loop (T := ((List (A8_Int × Int)) × Int) × (Option Nat)) (fun t => [e18, (12, (.func (.func 25) #[] #[])), (13, (.map t.2)), e19, (34, (iv t.1.2))]) (fun n t w1 => St NoS w w1 e11 [blk g17 (.cells e10 62 (0, 0)), rowO 66 encN_Row A18 c19 e33, poolO e25, mapN e21 (vI .i64) t.2 t.1.1] ∧ fill_Count.l1 n t.1.1 t.1.2 p2 p3 y21 = some x85) k ((([] : List (A8_Int × Int)), 0), (none : Option Nat)) e52 rfl ⟨(hS80.subR e26).sub [1, 2, 3, 0] (by decide), hx86⟩ ?_
  rintro k87 ⟨⟨l82, x83⟩, g81⟩ w88 ⟨hS89, hl90⟩
  let e20 : Nat × Value := (34, (iv x83))
  let e23 : Nat × Value := (14, (iv x83))
  cases k87 with
  | zero => rw [fill_Count.l1] at hl90; cases hl90
  | succ k87 =>
   rw [fill_Count.l1] at hl90
   refine WC.seq (WC.region ?_)
   refine seg 1 [] [10, 12, 13, 33, 34, 35] [e18, (12, (.func (.func 25) #[] #[])), (13, (.map g81)), e19, e20, (35, (bv (decide (x83 < p2))))] [] (fun fb => by kernel_rfl) rfl trivial ?_
   refine WL.done rfl (WX.next (WC.seq ?_))
   rcases br_some hl90 with ⟨h91, hl90⟩ | ⟨h91, hl90⟩
   ·refine WC.condT2 (fun fb => by kernel_rfl) h91 ?_
    refine WC.skip (WX.next (WC.seq (WC.block (WC.seq (WC.region ?_)))))
    refine seg 2 [] [10, 12, 13, 14, 33, 34] [e18, (12, (.func (.func 25) #[] #[])), (13, (.map g81)), e23, e19, e20] [] (fun fb => by kernel_rfl) rfl trivial ?_
    refine WL.done rfl (WX.next (WC.seq (WC.region ?_)))
    refine WL.new hS89 37 [] (fun g => (.map (some g))) (mapObj e21 (vI .i64) ([] : List (A8_Int × Int))) [] (fun fb g => by kernel_rfl) trivial (fun g92 w93 hS94 => ?_)
    refine ⟨trivial, ?_⟩
    refine seg 2 [] [10, 12, 13, 14, 15, 33, 34] [e18, (12, (.func (.func 25) #[] #[])), (13, (.map g81)), e23, (15, (.map (some g92))), e19, e20] [] (fun fb => by kernel_rfl) rfl trivial ?_
    refine WL.done rfl (WX.next (WC.seq (WC.seq (WC.region ?_))))
    refine seg 6 [.v (sv A18 y21.rows c19)] e24 [e18, (12, (.func (.func 25) #[] #[])), (13, (.map g81)), e23, (15, (.map (some g92))), e19, e20, e17, (42, (iv (y21.rows.length : Int))), (43, (iv 0))] [.cell ⟨g17, 0, none⟩ (sv A18 y21.rows c19)] (fun fb => by kernel_rfl) rfl ⟨hS94.cell 1 rfl 0 rfl, trivial⟩ ?_
    refine WL.done rfl (WX.next ?_)
    obtain ⟨x97, hx98, hl90⟩ := bind_some hl90
    let e30 := some g92
    refine WC.cutN (T := (List (A8_Int × Int))) (fun t => [e18, (12, (.func (.func 25) #[] #[])), (15, (.map e30)), e19, e20]) (fun t w1 => St NoS w w1 e11 [blk g17 (.cells e10 62 (0, 0)), rowO 66 encN_Row A18 c19 e33, poolO e25, blk g92 (mapObj e21 (vI .i64) t)] ∧ x97 = t) (fun Kx97 => ?_) ?_
    ·
     refine WC.block ?_
     refine WC.loop (T := (List (A8_Int × Int)) × Int) (fun t => [e18, (12, (.func (.func 25) #[] #[])), (13, (.map g81)), e23, (15, (.map e30)), e19, e20, e17, (42, (iv (y21.rows.length : Int))), (43, (iv t.2))]) (fun n t w1 => St NoS w w1 e11 [blk g17 (.cells e10 62 (0, 0)), rowO 66 encN_Row A18 c19 e33, poolO e25, mapN e21 (vI .i64) g81 l82, blk g92 (mapObj e21 (vI .i64) t.1)] ∧ fill_Count.l2 n t.1 t.2 p3 y21 l82 x83 = some x97) k87 (([] : List (A8_Int × Int)), 0) e24 rfl ⟨(hS94.subR e26).sub [1, 2, 3, 4, 0] (by decide), hx98⟩ ?_
     rintro k99 ⟨l95, x96⟩ w100 ⟨hS101, hl102⟩
     let e8 := rdD y21.rows x96 z_Row
     let e9 : Array Value := #[(sv ((H20 x96.toNat 0).1) (e8.Cells) ((H20 x96.toNat 0).2)), (iv ((e8.South).e0)), (iv ((e8.South).e1)), (iv ((e8.South).e2)), (iv ((e8.South).e3)), (iv ((e8.South).e4)), (iv ((e8.South).e5)), (iv ((e8.South).e6)), (iv ((e8.South).e7)), (iv ((e8.North).e0)), (iv ((e8.North).e1)), (iv ((e8.North).e2)), (iv ((e8.North).e3)), (iv ((e8.North).e4)), (iv ((e8.North).e5)), (iv ((e8.North).e6)), (iv ((e8.North).e7)), (iv (e8.West)), (iv (e8.East))]
     let e13 := e8.North
     let e14 := (adr A18).add ((x96).toNat * 19)
     let e15 := e8.South
     let e22 := sv ((H20 x96.toNat 0).1) (e8.Cells) ((H20 x96.toNat 0).2)
     let e28 : Nat × Value := (43, (iv x96))
     let e31 : Array Value := #[(iv (e13.e0)), (iv (e13.e1)), (iv (e13.e2)), (iv (e13.e3)), (iv (e13.e4)), (iv (e13.e5)), (iv (e13.e6)), (iv (e13.e7))]
     let e34 := iv (e13.e0)
     let e35 := iv (e13.e1)
     let e36 := iv (e13.e2)
     let e37 := iv (e13.e3)
     let e38 := iv (e13.e4)
     let e39 := iv (e13.e5)
     let e40 := iv (e13.e6)
     let e41 := iv (e13.e7)
     let e42 := iv (e15.e0)
     let e43 := iv (e15.e1)
     let e44 := iv (e15.e2)
     let e45 := iv (e15.e3)
     let e46 := iv (e15.e4)
     let e47 := iv (e15.e5)
     let e48 := iv (e15.e6)
     let e49 := iv (e15.e7)
     cases k99 with
     | zero => rw [fill_Count.l2] at hl102; cases hl102
     | succ k99 =>
      rw [fill_Count.l2] at hl102
      refine WC.seq (WC.region ?_)
      refine seg 1 [] [10, 12, 13, 14, 15, 33, 34, 41, 42, 43, 44] [e18, (12, (.func (.func 25) #[] #[])), (13, (.map g81)), e23, (15, (.map e30)), e19, e20, e17, (42, (iv (y21.rows.length : Int))), e28, (44, (bv (decide (x96 < (y21.rows.length : Int)))))] [] (fun fb => by kernel_rfl) rfl trivial ?_
      refine WL.done rfl (WX.next (WC.seq ?_))
      rcases br_some hl102 with ⟨h103, hl102⟩ | ⟨h103, hl102⟩
      ·refine WC.condT2 (fun fb => by kernel_rfl) h103 ?_
       refine WC.skip (WX.next (WC.seq (WC.block (WC.seq (WC.region ?_)))))
       obtain ⟨h104, hl102⟩ := as_some hl102
       refine seg 2 [.v e22, .v e42, .v e43, .v e44, .v e45, .v e46, .v e47, .v e48, .v e49, .v e34, .v e35, .v e36, .v e37, .v e38, .v e39, .v e40, .v e41, .v (iv (e8.West)), .v (iv (e8.East))] [10, 12, 13, 14, 15, 33, 34, 41, 42, 43, 46] [e18, (12, (.func (.func 25) #[] #[])), (13, (.map g81)), e23, (15, (.map e30)), e19, e20, e17, (42, (iv (y21.rows.length : Int))), e28, (46, (.agg e9))] [.idx A18 x96 y21.rows.length, .cell e14 e22, .cell (e14.add 1) e42, .cell (e14.add 2) e43, .cell (e14.add 3) e44, .cell (e14.add 4) e45, .cell (e14.add 5) e46, .cell (e14.add 6) e47, .cell (e14.add 7) e48, .cell (e14.add 8) e49, .cell (e14.add 9) e34, .cell (e14.add 10) e35, .cell (e14.add 11) e36, .cell (e14.add 12) e37, .cell (e14.add 13) e38, .cell (e14.add 14) e39, .cell (e14.add 15) e40, .cell (e14.add 16) e41, .cell (e14.add 17) (iv (e8.West)), .cell (e14.add 18) (iv (e8.East))] (fun fb => by kernel_rfl) rfl ⟨nrow_adr (rowO.rd (hS101.own 1).1) h104.1 h104.2, nrow_cell (rowO.rd (hS101.own 1).1) z_Row h104.1 h104.2 0 rfl, nrow_cell (rowO.rd (hS101.own 1).1) z_Row h104.1 h104.2 1 rfl, nrow_cell (rowO.rd (hS101.own 1).1) z_Row h104.1 h104.2 2 rfl, nrow_cell (rowO.rd (hS101.own 1).1) z_Row h104.1 h104.2 3 rfl, nrow_cell (rowO.rd (hS101.own 1).1) z_Row h104.1 h104.2 4 rfl, nrow_cell (rowO.rd (hS101.own 1).1) z_Row h104.1 h104.2 5 rfl, nrow_cell (rowO.rd (hS101.own 1).1) z_Row h104.1 h104.2 6 rfl, nrow_cell (rowO.rd (hS101.own 1).1) z_Row h104.1 h104.2 7 rfl, nrow_cell (rowO.rd (hS101.own 1).1) z_Row h104.1 h104.2 8 rfl, nrow_cell (rowO.rd (hS101.own 1).1) z_Row h104.1 h104.2 9 rfl, nrow_cell (rowO.rd (hS101.own 1).1) z_Row h104.1 h104.2 10 rfl, nrow_cell (rowO.rd (hS101.own 1).1) z_Row h104.1 h104.2 11 rfl, nrow_cell (rowO.rd (hS101.own 1).1) z_Row h104.1 h104.2 12 rfl, nrow_cell (rowO.rd (hS101.own 1).1) z_Row h104.1 h104.2 13 rfl, nrow_cell (rowO.rd (hS101.own 1).1) z_Row h104.1 h104.2 14 rfl, nrow_cell (rowO.rd (hS101.own 1).1) z_Row h104.1 h104.2 15 rfl, nrow_cell (rowO.rd (hS101.own 1).1) z_Row h104.1 h104.2 16 rfl, nrow_cell (rowO.rd (hS101.own 1).1) z_Row h104.1 h104.2 17 rfl, nrow_cell (rowO.rd (hS101.own 1).1) z_Row h104.1 h104.2 18 rfl, trivial⟩ ?_
       refine WL.new hS101 17 [] (fun g => (pt g)) (.cells #[(.slice none 0 0), (iv 0), (iv 0), (iv 0), (iv 0), (iv 0), (iv 0), (iv 0), (iv 0), (iv 0), (iv 0), (iv 0), (iv 0), (iv 0), (iv 0), (iv 0), (iv 0), (iv 0), (iv 0)] 66 (0, 0)) [] (fun fb g => by kernel_rfl) trivial (fun g105 w106 hS107 => ?_)
       refine ⟨trivial, ?_⟩
       refine WL.store hS107 0 rfl [(0, e22), (1, e42), (2, e43), (3, e44), (4, e45), (5, e46), (6, e47), (7, e48), (8, e49), (9, e34), (10, e35), (11, e36), (12, e37), (13, e38), (14, e39), (15, e40), (16, e41), (17, (iv (e8.West))), (18, (iv (e8.East)))] e9 (fun fb => by kernel_rfl) (by kernel_rfl) (by kernel_rfl) [1, 2, 3, 4, 5] (by decide) (by decide) (fun w108 hS109 => ?_)
       refine ⟨trivial, ?_⟩
       refine WL.done rfl (WX.next (WC.seq (WC.region ?_)))
       refine seg 1 [] e29 [e18, (12, (.func (.func 25) #[] #[])), (13, (.map g81)), e23, (15, (.map e30)), (17, (pt g105)), (18, (iv 1)), e19, e20, e17, (42, (iv (y21.rows.length : Int))), e28] [] (fun fb => by kernel_rfl) rfl trivial ?_
       refine WL.done rfl (WX.next (WC.seq (WC.seq (WC.region ?_))))
       refine seg 2 [] [10, 12, 13, 14, 15, 17, 18, 33, 34, 41, 42, 43, 48] [e18, (12, (.func (.func 25) #[] #[])), (13, (.map g81)), e23, (15, (.map e30)), (17, (pt g105)), (18, (iv 1)), e19, e20, e17, (42, (iv (y21.rows.length : Int))), e28, (48, (bv (decide (x83 > 0))))] [] (fun fb => by kernel_rfl) rfl trivial ?_
       refine WL.done rfl (WX.next ?_)
       obtain ⟨x110, hx111, hl102⟩ := bind_some hl102
       refine WC.cutN (T := Int) (fun t => [e18, (12, (.func (.func 25) #[] #[])), (13, (.map g81)), e23, (15, (.map e30)), (17, (pt g105)), (18, (iv t)), e19, e20, e17, (42, (iv (y21.rows.length : Int))), e28]) (fun t w1 => St NoS w w1 e11 [blk g17 (.cells e10 62 (0, 0)), rowO 66 encN_Row A18 c19 e33, poolO e25, mapN e21 (vI .i64) g81 l82, blk g92 (mapObj e21 (vI .i64) l95), blk g105 (.cells e9 66 (0, 0))] ∧ x110 = t) (fun Kx110 => ?_) ?_
       ·
        rcases br_some hx111 with ⟨h112, hx111⟩ | ⟨h112, hx111⟩
        ·refine WC.condT2 (fun fb => by kernel_rfl) h112 ?_
         refine WC.region ?_
         refine seg 3 [.v e42, .v e43, .v e44, .v e45, .v e46, .v e47, .v e48, .v e49] [10, 12, 13, 14, 15, 17, 33, 34, 41, 42, 43, 49, 51] [e18, (12, (.func (.func 25) #[] #[])), (13, (.map g81)), e23, (15, (.map e30)), (17, (pt g105)), e19, e20, e17, (42, (iv (y21.rows.length : Int))), e28, (49, (.map g81)), (51, (.agg #[e42, e43, e44, e45, e46, e47, e48, e49]))] [.cell ⟨g105, 1, none⟩ e42, .cell ⟨g105, 2, none⟩ e43, .cell ⟨g105, 3, none⟩ e44, .cell ⟨g105, 4, none⟩ e45, .cell ⟨g105, 5, none⟩ e46, .cell ⟨g105, 6, none⟩ e47, .cell ⟨g105, 7, none⟩ e48, .cell ⟨g105, 8, none⟩ e49] (fun fb => by kernel_rfl) rfl ⟨hS109.cell 0 rfl 1 rfl, hS109.cell 0 rfl 2 rfl, hS109.cell 0 rfl 3 rfl, hS109.cell 0 rfl 4 rfl, hS109.cell 0 rfl 5 rfl, hS109.cell 0 rfl 6 rfl, hS109.cell 0 rfl 7 rfl, hS109.cell 0 rfl 8 rfl, trivial⟩ ?_
         refine WL.lookupN (hS109.own 4).1 e15 (d := 52) (c := false) (t := 59) (kT := 64) (eT := 3) (z := 0) (kE := e21) (vE := (vI .i64)) (l := l82) (iv (mget e15 0 l82)) (fun fb => by kernel_rfl) fill_Count_key64 (by kernel_rfl) (fun _ => by kernel_rfl) rfl ?_
         refine ⟨trivial, ?_⟩
         refine seg 5 [] e29 [e18, (12, (.func (.func 25) #[] #[])), (13, (.map g81)), e23, (15, (.map e30)), (17, (pt g105)), (18, (iv (mget e15 0 l82))), e19, e20, e17, (42, (iv (y21.rows.length : Int))), e28] [] (fun fb => by kernel_rfl) rfl trivial ?_
         refine WL.done rfl ?_
         injection hx111 with hx111
         exact WX.to Kx110 (mget e15 0 l82) e29 rfl ⟨(hS109.subR e26).sub [1, 2, 3, 4, 5, 0] (by decide), hx111.symm⟩
        refine WC.condF2 (fun fb => by kernel_rfl) h112 ?_
        refine WC.skip ?_
        injection hx111 with hx111
        exact WX.to Kx110 1 e29 rfl ⟨(hS109.subR e26).sub [1, 2, 3, 4, 5, 0] (by decide), hx111.symm⟩
       rintro y116 w113 ⟨hS114, hq115⟩
       subst hq115
       refine WX.next (WC.seq (WC.region ?_))
       refine seg 3 [] [10, 12, 13, 14, 15, 17, 18, 33, 34, 41, 42, 43, 55] [e18, (12, (.func (.func 25) #[] #[])), (13, (.map g81)), e23, (15, (.map e30)), (17, (pt g105)), (18, (iv x110)), e19, e20, e17, (42, (iv (y21.rows.length : Int))), e28, (55, (bv (decide (x110 > 0))))] [] (fun fb => by kernel_rfl) rfl trivial ?_
       obtain ⟨x117, hx118, hl102⟩ := bind_some hl102
       refine WL.cutW (T := Bool) 8 (fun t => [e18, (12, (.func (.func 25) #[] #[])), (13, (.map g81)), e23, (15, (.map e30)), (17, (pt g105)), (18, (iv x110)), e19, e20, e17, (42, (iv (y21.rows.length : Int))), e28, (60, (bv t))]) (fun t w1 => (St NoS w w1 e11 [blk g17 (.cells e10 62 (0, 0)), rowO 66 encN_Row A18 c19 e33, poolO e25, mapN e21 (vI .i64) g81 l82, blk g92 (mapObj e21 (vI .i64) l95), blk g105 (.cells e9 66 (0, 0))] ∧ x117 = t) ∧ CellsOK [] w1) (fun K => ?_) ?_
       ·
        rcases br_some hx118 with ⟨h119, hx118⟩ | ⟨h119, hx118⟩
        ·
         refine WL.setB 55 h119 rfl ?_
         refine seg 6 [.v e22, .v e42, .v e43, .v e44, .v e45, .v e46, .v e47, .v e48, .v e49, .v e34, .v e35, .v e36, .v e37, .v e38, .v e39, .v e40, .v e41, .v (iv (e8.West)), .v (iv (e8.East))] [10, 12, 13, 14, 15, 17, 18, 33, 34, 41, 42, 43, 55, 56, 57, 58] [e18, (12, (.func (.func 25) #[] #[])), (13, (.map g81)), e23, (15, (.map e30)), (17, (pt g105)), (18, (iv x110)), e19, e20, e17, (42, (iv (y21.rows.length : Int))), e28, (55, (bv true)), (56, (pt g17)), (57, (.agg e9)), (58, (iv x83))] [.cell ⟨g105, 0, none⟩ e22, .cell ⟨g105, 1, none⟩ e42, .cell ⟨g105, 2, none⟩ e43, .cell ⟨g105, 3, none⟩ e44, .cell ⟨g105, 4, none⟩ e45, .cell ⟨g105, 5, none⟩ e46, .cell ⟨g105, 6, none⟩ e47, .cell ⟨g105, 7, none⟩ e48, .cell ⟨g105, 8, none⟩ e49, .cell ⟨g105, 9, none⟩ e34, .cell ⟨g105, 10, none⟩ e35, .cell ⟨g105, 11, none⟩ e36, .cell ⟨g105, 12, none⟩ e37, .cell ⟨g105, 13, none⟩ e38, .cell ⟨g105, 14, none⟩ e39, .cell ⟨g105, 15, none⟩ e40, .cell ⟨g105, 16, none⟩ e41, .cell ⟨g105, 17, none⟩ (iv (e8.West)), .cell ⟨g105, 18, none⟩ (iv (e8.East))] (fun fb => by kernel_rfl) rfl ⟨hS114.cell 5 rfl 0 rfl, hS114.cell 5 rfl 1 rfl, hS114.cell 5 rfl 2 rfl, hS114.cell 5 rfl 3 rfl, hS114.cell 5 rfl 4 rfl, hS114.cell 5 rfl 5 rfl, hS114.cell 5 rfl 6 rfl, hS114.cell 5 rfl 7 rfl, hS114.cell 5 rfl 8 rfl, hS114.cell 5 rfl 9 rfl, hS114.cell 5 rfl 10 rfl, hS114.cell 5 rfl 11 rfl, hS114.cell 5 rfl 12 rfl, hS114.cell 5 rfl 13 rfl, hS114.cell 5 rfl 14 rfl, hS114.cell 5 rfl 15 rfl, hS114.cell 5 rfl 16 rfl, hS114.cell 5 rfl 17 rfl, hS114.cell 5 rfl 18 rfl, trivial⟩ ?_
         obtain ⟨t120, ht121, hx118⟩ := bind_some hx118
         refine WL.call (some 59) 26 #[(pt g17), (.agg e9), (iv x83)] (fun fb => by kernel_rfl) (fill_job_allows_calls _ (Job.mk y21.rows y21.width y21.height p3) e8 x83 g17 A18 c19 H20 Ab cb Ac cc Ad cd Ae ce ((H20 x96.toNat 0).1) ((H20 x96.toNat 0).2) t120 _ (hS114.ow 0) (hS114.ow 1).ofO (poolO.ro (hS114.ow 2) 0) (hS114.rd 1) (hS114.rd 2) (hS114.rd 3) (hS114.rd 4) (nestO.ro (poolO.ro (hS114.ow 2) 0) z_Row h104.1 h104.2) ht121) (fun v w122 hR123 => ?_)
         obtain ⟨rfl, hk_⟩ := hR123
         have hS124 := hS114.keepN hk_
         refine ⟨trivial, ?_⟩
         refine seg 8 [] e27 [e18, (12, (.func (.func 25) #[] #[])), (13, (.map g81)), e23, (15, (.map e30)), (17, (pt g105)), (18, (iv x110)), e19, e20, e17, (42, (iv (y21.rows.length : Int))), e28, (60, (bv t120))] [] (fun fb => by kernel_rfl) rfl trivial ?_
         injection hx118 with hx118
         exact WL.to K t120 e27 rfl ⟨⟨(hS124.subR e26).sub [0, 1, 2, 3, 4, 5] (by decide), hx118.symm⟩, trivial⟩
        refine WL.setB 55 h119 rfl ?_
        refine seg 8 [] e27 [e18, (12, (.func (.func 25) #[] #[])), (13, (.map g81)), e23, (15, (.map e30)), (17, (pt g105)), (18, (iv x110)), e19, e20, e17, (42, (iv (y21.rows.length : Int))), e28, (60, (bv false))] [] (fun fb => by kernel_rfl) rfl trivial ?_
        injection hx118 with hx118
        exact WL.to K false e27 rfl ⟨⟨(hS114.subR e26).sub [0, 1, 2, 3, 4, 5] (by decide), hx118.symm⟩, trivial⟩
       rintro y125 w127 ⟨⟨hS128, hq126⟩, hF129⟩
       subst hq126
       refine WL.done rfl (WX.next ?_)
       obtain ⟨x130, hx131, hl102⟩ := bind_some hl102
       let e12 : List (Nat × Addr × Value) := [(2, ⟨g105, 9, none⟩, e34), (2, ⟨g105, 10, none⟩, e35), (2, ⟨g105, 11, none⟩, e36), (2, ⟨g105, 12, none⟩, e37), (2, ⟨g105, 13, none⟩, e38), (2, ⟨g105, 14, none⟩, e39), (2, ⟨g105, 15, none⟩, e40), (2, ⟨g105, 16, none⟩, e41), (6, ⟨g105, 9, none⟩, e34), (6, ⟨g105, 10, none⟩, e35), (6, ⟨g105, 11, none⟩, e36), (6, ⟨g105, 12, none⟩, e37), (6, ⟨g105, 13, none⟩, e38), (6, ⟨g105, 14, none⟩, e39), (6, ⟨g105, 15, none⟩, e40), (6, ⟨g105, 16, none⟩, e41)]
       refine WC.cutN (T := (List (A8_Int × Int))) (fun t => [e18, (12, (.func (.func 25) #[] #[])), (13, (.map g81)), e23, (15, (.map e30)), e19, e20, e17, (42, (iv (y21.rows.length : Int))), e28]) (fun t w1 => St NoS w w1 e11 [blk g17 (.cells e10 62 (0, 0)), rowO 66 encN_Row A18 c19 e33, poolO e25, mapN e21 (vI .i64) g81 l82, blk g92 (mapObj e21 (vI .i64) t)] ∧ x130 = t) (fun Kx130 => ?_) ?_
       ·
        rcases br_some hx131 with ⟨h132, hx131⟩ | ⟨h132, hx131⟩
        ·refine WC.condT2 (fun fb => by kernel_rfl) h132 ?_
         refine WC.regionD (e12, [0, 1, 2, 3, 4, 5, 6, 8], [[], [], [1], [], [], [], [5], [4, 5, 6], [], [3, 4, 5, 6, 7, 8], [0, 1, 2, 3, 4, 5, 6, 7, 8, 9]]) [[0, 1, 2, 3, 4, 5, 6, 8, 7, 9, 10]] (by kernel_rfl) (by kernel_rfl) (NoPanic.block (NoPanic.seq (NoPanic.seq (NoPanic.block (NoPanic.seq (NoPanic.block (NoPanic.seq (NoPanic.seq (NoPanic.block (NoPanic.seq (NoPanic.body))))))))))) ?_
         have hS134 := hS128.drew
         revert hS134
         generalize World.drew w127 = w133
         intro hS134
         refine ⟨⟨hS134.cell 5 rfl 9 rfl, hS134.cell 5 rfl 10 rfl, hS134.cell 5 rfl 11 rfl, hS134.cell 5 rfl 12 rfl, hS134.cell 5 rfl 13 rfl, hS134.cell 5 rfl 14 rfl, hS134.cell 5 rfl 15 rfl, hS134.cell 5 rfl 16 rfl, hS134.cell 5 rfl 9 rfl, hS134.cell 5 rfl 10 rfl, hS134.cell 5 rfl 11 rfl, hS134.cell 5 rfl 12 rfl, hS134.cell 5 rfl 13 rfl, hS134.cell 5 rfl 14 rfl, hS134.cell 5 rfl 15 rfl, hS134.cell 5 rfl 16 rfl, trivial⟩, forallC ?_ (forallN)⟩
         refine segF 8 [.v e34, .v e35, .v e36, .v e37, .v e38, .v e39, .v e40, .v e41, .v e34, .v e35, .v e36, .v e37, .v e38, .v e39, .v e40, .v e41] [10, 12, 13, 14, 15, 33, 34, 41, 42, 43, 61, 63, 64, 65, 67, 69] [e18, (12, (.func (.func 25) #[] #[])), (13, (.map g81)), e23, (15, (.map e30)), e19, e20, e17, (42, (iv (y21.rows.length : Int))), e28, (61, (.map e30)), (63, (.agg e31)), (64, (.func (.func 25) #[] #[])), (65, (.map e30)), (67, (.agg e31)), (69, (iv x110))] [] [0, 1, 2, 3, 4, 5, 6, 7, 8, 9, 10, 11, 12, 13, 14, 15] e12 (fun fb => by kernel_rfl) rfl trivial rfl ?_
         refine WL.lookup (hS134.own 4).1 e13 (d := 68) (c := false) (t := 59) (kT := 64) (eT := 3) (z := 0) (kE := e21) (vE := (vI .i64)) (l := l95) (iv (mget e13 0 l95)) (fun fb => by kernel_rfl) fill_Count_key64 (by kernel_rfl) (fun _ => by kernel_rfl) rfl ?_
         refine ⟨⟨hS134.cell 5 rfl 9 rfl, hS134.cell 5 rfl 10 rfl, hS134.cell 5 rfl 11 rfl, hS134.cell 5 rfl 12 rfl, hS134.cell 5 rfl 13 rfl, hS134.cell 5 rfl 14 rfl, hS134.cell 5 rfl 15 rfl, hS134.cell 5 rfl 16 rfl, trivial⟩, ?_⟩
         obtain ⟨t135, ht136, hx131⟩ := bind_some hx131
         refine WL.call (some 70) 25 #[(iv (mget e13 0 l95)), (iv x110)] (fun fb => by kernel_rfl) (fill_Count_1_calls (mget e13 0 l95) x110 t135 _ ht136) (fun v w137 hR138 => ?_)
         obtain ⟨rfl, hk_⟩ := hR138
         have hS139 := hS134.keepN hk_
         refine ⟨⟨hS139.cell 5 rfl 9 rfl, hS139.cell 5 rfl 10 rfl, hS139.cell 5 rfl 11 rfl, hS139.cell 5 rfl 12 rfl, hS139.cell 5 rfl 13 rfl, hS139.cell 5 rfl 14 rfl, hS139.cell 5 rfl 15 rfl, hS139.cell 5 rfl 16 rfl, trivial⟩, ?_⟩
         refine WL.mapput hS139 4 (t := 59) (kT := 64) (eT := 3) (kE := e21) (vE := (vI .i64)) (l := l95) rfl e13 t135 (fun fb => by kernel_rfl) fill_Count_key64 (by kernel_rfl) [0, 1, 2, 3, 5] (by decide) (by decide) (fun w140 hS141 => ?_)
         refine ⟨trivial, ?_⟩
         refine WL.done rfl ?_
         injection hx131 with hx131
         exact WX.to Kx130 (mput e13 t135 l95) e24 rfl ⟨(hS141.subR e26).sub [1, 2, 3, 4, 0] (by decide), hx131.symm⟩
        refine WC.condF2 (fun fb => by kernel_rfl) h132 ?_
        refine WC.skip ?_
        injection hx131 with hx131
        exact WX.to Kx130 l95 e24 rfl ⟨(hS128.subR e26).sub e26 (by decide), hx131.symm⟩
       rintro y145 w142 ⟨hS143, hq144⟩
       subst hq144
       refine WX.blockN (WX.next ?_)
       refine WC.region ?_
       refine seg 2 [] e24 [e18, (12, (.func (.func 25) #[] #[])), (13, (.map g81)), e23, (15, (.map e30)), e19, e20, e17, (42, (iv (y21.rows.length : Int))), (43, (iv (w64 (x96 + 1))))] [] (fun fb => by kernel_rfl) rfl trivial ?_
       refine WL.done rfl ?_
       exact WX.again k99 (Nat.lt_succ_self _) (x130, w64 (x96 + 1)) e24 rfl ⟨(hS143.subR e26).sub e26 (by decide), hl102⟩
      refine WC.condF2 (fun fb => by kernel_rfl) h103 ?_
      refine WC.exit ?_
      injection hl102 with hl102
      exact WX.thenX (WX.thenX (WX.blockHere (WX.to Kx97 l95 [10, 12, 15, 33, 34] rfl ⟨(hS101.subR e26).sub [0, 1, 2, 4] (by decide), hl102.symm⟩)))
    rintro y149 w146 ⟨hS147, hq148⟩
    subst hq148
    refine WX.next (WC.region ?_)
    refine seg 2 [] e52 [e18, (12, (.func (.func 25) #[] #[])), (13, (.map e30)), e19, e20] [] (fun fb => by kernel_rfl) rfl trivial ?_
    refine WL.done rfl ?_
    refine WX.blockN (WX.next ?_)
    refine WC.region ?_
    refine seg 2 [] e52 [e18, (12, (.func (.func 25) #[] #[])), (13, (.map e30)), e19, (34, (iv (w64 (x83 + 1))))] [] (fun fb => by kernel_rfl) rfl trivial ?_
    refine WL.done rfl ?_
    have hS150 := hS80.go w146 [mapN e21 (vI .i64) e30 x97, blk g17 (.cells e10 62 (0, 0)), rowO 66 encN_Row A18 c19 e33, poolO e25] (hS147.mapnSome 3 rfl [0, 1, 2] (by decide) (by decide))
    exact WX.again k87 (Nat.lt_succ_self _) ((x97, w64 (x83 + 1)), e30) e52 rfl ⟨(hS150.subR e26).sub [1, 2, 3, 0] (by decide), hl90⟩
   refine WC.condF2 (fun fb => by kernel_rfl) h91 ?_
   refine WC.exit ?_
   injection hl90 with hl90
   exact WX.thenX (WX.thenX (WX.blockHere (WX.to Kx85 (l82, g81) [12, 13] rfl ⟨(hS89.subR e26).sub [3] (by decide), hl90.symm⟩)))
 rintro ⟨y154, g84⟩ w151 ⟨hS152, hq153⟩
 subst hq153
 refine WX.next (WC.seq (WC.region ?_))
 refine seg 1 [] [12, 13, 19] [(12, (.func (.func 25) #[] #[])), (13, (.map g84)), (19, (iv 0))] [] (fun fb => by kernel_rfl) rfl trivial ?_
 refine WL.done rfl (WX.next (WC.seq (WC.seq (WC.region ?_))))
 refine seg 1 [] [12, 19, 74] [(12, (.func (.func 25) #[] #[])), (19, (iv 0)), (74, (.map g84))] [] (fun fb => by kernel_rfl) rfl trivial ?_
 refine WL.mrange hS152 0 (kT := 64) (eT := 3) (t := 59) (d := 75) rfl (fun fb => by kernel_rfl) (by kernel_rfl) (fun g155 w156 hS157 => ?_)
 refine ⟨trivial, ?_⟩
 refine WL.done rfl (WX.next ?_)
 obtain ⟨x166, hx167, hf⟩ := bind_some hf
 have hO168 := sat_free (step := fun (x165 : Int) (vv162 : Int) => (fill_Count_1 x165 vv162).bind fun t184 => some t184) (by decide) (by decide) (fun a v => rfl) hx167
 let e50 : Nat × Value := (75, (pt g155))
 refine WC.cutN (T := Int) (fun t => [(19, (iv t))]) (fun t w1 => St NoS w w1 e11 [] ∧ x166 = t) (fun Kx166 => ?_) ?_
 ·
  refine WC.block ?_
  refine WC.loop (T := List Nat × Int) (fun t => [(12, (.func (.func 25) #[] #[])), (19, (iv t.2)), e50]) (fun n t w1 => St NoS w w1 e11 [blk g155 (iterOb g84 x85.length t.1), mapN e21 (vI .i64) g84 x85] ∧ t.1.Nodup ∧ (∀ x_ ∈ t.1, x_ < x85.length) ∧ t.1.length + n = x85.length + 1 ∧ (valsAt x85 t.1).foldlM (fun (x165 : Int) (vv162 : Int) => (fill_Count_1 x165 vv162).bind fun t184 => some t184) 0 = some t.2) (x85.length + 1) ([], 0) [12, 19, 75] rfl ⟨(hS157.subR e26).sub [0, 1] (by decide), List.nodup_nil, (fun x_ h_ => by cases h_), Nat.zero_add _, rfl⟩ ?_
  rintro n169 ⟨sn158, x165⟩ w174 ⟨hS175, h170, h171, h172, h173⟩
  have h172 : sn158.length + n169 = x85.length + 1 := h172
  refine WC.seq (WC.region ?_)
  refine WL.mnext hS175 1 0 (kE := e21) (vE := (vI .i64)) (og := g84) (l := x85) rfl rfl (by decide) (d := 76) (fun fb => by kernel_rfl) [1] (by decide) (by decide) (fun hall183 => ?_) (fun q159 hq160 kk161 vv162 hkv163 hqs164 w181 hS182 => ?_)
  ·
   refine ⟨trivial, ?_⟩
   have hc_x166 := h173.symm.trans (hO168.all h170 h171 hall183)
   refine seg 2 [] [12, 19, 75, 77] [(12, (.func (.func 25) #[] #[])), (19, (iv x165)), e50, (77, (bv false))] [] (fun fb => by kernel_rfl) rfl trivial ?_
   refine WL.done rfl (WX.next (WC.seq ?_))
   refine WC.condF (fun fb => by kernel_rfl) ?_
   refine WC.exit ?_
   injection hc_x166 with hc_x166
   exact WX.thenX (WX.thenX (WX.blockHere (WX.to Kx166 x165 [19] rfl ⟨(hS175.subR e26).sub [] (by decide), hc_x166.symm⟩)))
  refine ⟨trivial, ?_⟩
  obtain ⟨h177, h178, hlt176, c179, hc_x166, h180⟩ := hO168.step h170 h171 hq160 hqs164 hkv163 h173
  refine seg 2 [] [12, 19, 75, 77] [(12, (.func (.func 25) #[] #[])), (19, (iv x165)), e50, (77, (bv true))] [] (fun fb => by kernel_rfl) rfl trivial ?_
  refine WL.done rfl (WX.next (WC.seq ?_))
  refine WC.condT (fun fb => by kernel_rfl) ?_
  refine WC.skip (WX.next (WC.block (WC.seq (WC.region ?_))))
  refine WL.mentry hS182 1 0 (kE := e21) (vE := (vI .i64)) (og := g84) (l := x85) hq160 hkv163 rfl rfl (d := 78) (fun fb => by kernel_rfl) ?_
  refine ⟨trivial, ?_⟩
  refine seg 3 [] [12, 19, 21, 75] [(12, (.func (.func 25) #[] #[])), (19, (iv x165)), (21, (iv vv162)), e50] [] (fun fb => by kernel_rfl) rfl trivial ?_
  refine WL.done rfl (WX.next (WC.region ?_))
  refine seg 3 [] [12, 75, 80, 81, 82] [(12, (.func (.func 25) #[] #[])), e50, (80, (.func (.func 25) #[] #[])), (81, (iv x165)), (82, (iv vv162))] [] (fun fb => by kernel_rfl) rfl trivial ?_
  obtain ⟨t184, ht185, hc_x166⟩ := bind_some hc_x166
  refine WL.call (some 83) 25 #[(iv x165), (iv vv162)] (fun fb => by kernel_rfl) (fill_Count_1_calls x165 vv162 t184 _ ht185) (fun v w186 hR187 => ?_)
  obtain ⟨rfl, hk_⟩ := hR187
  have hS188 := hS182.keepN hk_
  refine ⟨trivial, ?_⟩
  refine seg 5 [] [12, 19, 75] [(12, (.func (.func 25) #[] #[])), (19, (iv t184)), e50] [] (fun fb => by kernel_rfl) rfl trivial ?_
  refine WL.done rfl ?_
  injection hc_x166 with hc_x166
  exact WX.blockN (WX.again (n169 - 1) (by omega) ((sn158 ++ [q159]), t184) [12, 19, 75] rfl ⟨(hS188.subR [0, 1, 2, 3, 4]).sub [0, 1] (by decide), h177, h178, (by rw [List.length_append, List.length_singleton]; omega), h180.trans (congrArg some hc_x166.symm)⟩)
 rintro y192 w189 ⟨hS190, hq191⟩
 subst hq191
 refine WX.next (WC.seq (WC.seq (WC.region ?_)))
 refine seg 2 [] [19, 85] [(19, (iv x166)), (85, (bv (decide (x166 > 1152921504606846976))))] [] (fun fb => by kernel_rfl) rfl trivial ?_
 refine WL.done rfl (WX.next ?_)
 rcases br_some hf with ⟨h193, hf⟩ | ⟨h193, hf⟩
 ·refine WC.condT2 (fun fb => by kernel_rfl) h193 ?_
  refine WC.seq (WC.region ?_)
  refine seg 2 [] [8, 9] [(8, (iv 0)), (9, (iv 4))] [] (fun fb => by kernel_rfl) rfl trivial ?_
  refine WL.done rfl (WX.next ?_)
  refine WC.ret ?_
  injection hf with hf
  subst hf
  exact WX.thenR (WX.ret_ [] (.tuple #[(iv 0), (iv 4)]) [] (fun fb => by kernel_rfl) trivial ⟨_, rfl, rfl, hS190.keep⟩)
 refine WC.condF2 (fun fb => by kernel_rfl) h193 ?_
 refine WC.skip (WX.next (WC.seq (WC.region ?_)))
 refine seg 3 [] [8, 9] [(8, (iv x166)), (9, (iv 0))] [] (fun fb => by kernel_rfl) rfl trivial ?_
 refine WL.done rfl (WX.next ?_)
 refine WC.ret ?_
 injection hf with hf
 subst hf
 exact WX.ret_ [] (.tuple #[(iv x166), (iv 0)]) [] (fun fb => by kernel_rfl) trivial ⟨_, rfl, rfl, hS190.keep⟩
theorem ref02_Great_calls (k : Nat) (p0 : List Tile) (p1 : Int) (Aa : Option Addr) (ca : Nat) (r : Bool) (w : World) (hR0 : RO NoS w (rowR enc_Tile Aa ca p0)) (hf : ref02_Great k p0 p1 = some r) :
  CallsR Tryz.prog 9 #[(sv Aa p0 ca), (iv p1)] w (fun v w' => v = (bv r) ∧ Keeps NoS w w') := by
 have hS : St NoS w w [rowR enc_Tile Aa ca p0] [] := St.init (ro_cons hR0 (ro_nil _ _))
 refine enter 10 Tryz.func9 rfl Tryz.ntmps9 rfl ?_
 unfold ref02_Great at hf
 refine WC.seq (WC.region ?_)
 refine seg 1 [] [0, 1] [(0, (sv Aa p0 ca)), (1, (iv p1))] [] (fun fb => by kernel_rfl) rfl trivial ?_
 refine WL.done rfl (WX.next (WC.seq (WC.region ?_)))
 refine seg 3 [] [6, 7] [(6, (iv (p0.length : Int))), (7, (iv p1))] [] (fun fb => by kernel_rfl) rfl trivial ?_
 obtain ⟨t3, ht4, hf⟩ := bind_some hf
 refine WL.call (some 8) 14 #[(iv (p0.length : Int)), (iv p1)] (fun fb => by kernel_rfl) (ref02_Power_calls _ (p0.length : Int) p1 t3 _ ht4) (fun v w5 hR6 => ?_)
 obtain ⟨rfl, hk_⟩ := hR6
 have hS7 := hS.keepN hk_
 refine ⟨trivial, ?_⟩
 refine seg 6 [] [4] [(4, (bv (decide (t3 > 5000))))] [] (fun fb => by kernel_rfl) rfl trivial ?_
 refine WL.done rfl (WX.next ?_)
 refine WC.ret ?_
 injection hf with hf
 subst hf
 exact WX.ret_ [] (bv (decide (t3 > 5000))) [] (fun fb => by kernel_rfl) trivial ⟨_, rfl, rfl, hS7.keep⟩
theorem ref04_number_calls (k : Nat) (p0 : List A2_Int) (p1 : A2_Int) (Aa : Option Addr) (ca : Nat) (r : Int × (List A2_Int)) (w : World) (hI : IoOK w [rowO 30 enc_A2_Int Aa ca p0]) (hf : ref04_number k p0 p1 = some r) :
  CallsR Tryz.prog 42 #[(sv Aa p0 ca), (.agg #[(iv p1.e0), (iv p1.e1)])] w (fun v w' => ∃ (A1_ : Option Addr), ∃ (c1_ : Nat), v = (.tuple #[(iv r.1), (sv A1_ r.2 c1_)]) ∧ St (fpL [rowO 30 enc_A2_Int Aa ca p0]) w w' [] [rowO 30 enc_A2_Int A1_ c1_ r.2]) := by
 have hS : St (fpL [rowO 30 enc_A2_Int Aa ca p0]) w w [] [rowO 30 enc_A2_Int Aa ca p0] := St.initIO (ro_nil _ _) hI
 refine enter 27 Tryz.func42 rfl Tryz.ntmps42 rfl ?_
 unfold ref04_number at hf
 refine WC.seq (WC.region ?_)
 refine WL.new hS 3 [] (fun g => (pt g)) (.cells #[(iv p1.e0), (iv p1.e1)] 30 (0, 0)) [] (fun fb g => by kernel_rfl) trivial (fun g3 w5 hS6 => ?_)
 refine ⟨trivial, ?_⟩
 refine seg 3 [] [0, 3] [(0, (sv Aa p0 ca)), (3, (pt g3))] [] (fun fb => by kernel_rfl) rfl trivial ?_
 refine WL.done rfl (WX.next (WC.seq (WC.seq (WC.region ?_))))
 refine seg 1 [] [0, 3, 6] [(0, (sv Aa p0 ca)), (3, (pt g3)), (6, (iv 0))] [] (fun fb => by kernel_rfl) rfl trivial ?_
 refine WL.done rfl (WX.next ?_)
 obtain ⟨x8, hx9, hf⟩ := bind_some hf
 let e3 := sv Aa p0 ca
 refine WC.cutN (T := Unit) (fun t => [(0, e3), (3, (pt g3))]) (fun t w1 => St (fpL [rowO 30 enc_A2_Int Aa ca p0]) w w1 [] [rowO 30 enc_A2_Int Aa ca p0, blk g3 (.cells #[(iv p1.e0), (iv p1.e1)] 30 (0, 0))] ∧ x8 = .inr t) (fun Kx8 => ?_) ?_
 ·
  refine WC.block ?_
  refine WC.loop (T := Int) (fun t => [(0, e3), (3, (pt g3)), (6, (iv t))]) (fun n t w1 => St (fpL [rowO 30 enc_A2_Int Aa ca p0]) w w1 [] [rowO 30 enc_A2_Int Aa ca p0, blk g3 (.cells #[(iv p1.e0), (iv p1.e1)] 30 (0, 0))] ∧ ref04_number.l0 n t p0 p1 = some x8) k 0 [0, 3, 6] rfl ⟨(hS6.subR []).sub [1, 0] (by decide), hx9⟩ ?_
  rintro k10 x7 w11 ⟨hS12, hl13⟩
  let e2 : List (Nat × Addr × Value) := [(3, ((adr Aa).add ((x7).toNat * 2)), (iv ((rdD p0 x7 z_A2_Int).e0))), (3, (((adr Aa).add ((x7).toNat * 2)).add 1), (iv ((rdD p0 x7 z_A2_Int).e1))), (4, ⟨g3, 0, none⟩, (iv p1.e0)), (4, ⟨g3, 1, none⟩, (iv p1.e1))]
  let e4 := rdD p0 x7 z_A2_Int
  cases k10 with
  | zero => rw [ref04_number.l0] at hl13; cases hl13
  | succ k10 =>
   rw [ref04_number.l0] at hl13
   refine WC.seq (WC.seq (WC.region ?_))
   refine seg 4 [] [0, 3, 6, 10] [(0, e3), (3, (pt g3)), (6, (iv x7)), (10, (bv (decide (x7 < (p0.length : Int)))))] [] (fun fb => by kernel_rfl) rfl trivial ?_
   refine WL.done rfl (WX.next ?_)
   rcases br_some hl13 with ⟨h14, hl13⟩ | ⟨h14, hl13⟩
   ·refine WC.condT2 (fun fb => by kernel_rfl) h14 ?_
    refine WC.skip (WX.next (WC.seq (WC.block (WC.seq ?_))))
    obtain ⟨h17, hl13⟩ := as_some hl13
    refine WC.regionD (e2, [0, 1, 2, 3, 4, 5], [[], [], [0, 1], [0, 1, 2], [], [0, 1, 2, 3, 4]]) [[0, 1, 2, 3, 4, 5]] (by kernel_rfl) (by kernel_rfl) (NoPanic.seq (NoPanic.block (NoPanic.seq (NoPanic.seq (NoPanic.block (NoPanic.seq (NoPanic.body))))))) ?_
    have hS16 := hS12.drew
    revert hS16
    generalize World.drew w11 = w15
    intro hS16
    refine ⟨⟨rowR.cell (rowO.rd (hS16.own 0).1) z_A2_Int h17.1 h17.2 0 rfl, rowR.cell (rowO.rd (hS16.own 0).1) z_A2_Int h17.1 h17.2 1 rfl, hS16.cell 1 rfl 0 rfl, hS16.cell 1 rfl 1 rfl, trivial⟩, forallC ?_ (forallN)⟩
    refine segF 6 [.v (iv (e4.e0)), .v (iv (e4.e1)), .v (iv p1.e0), .v (iv p1.e1)] [0, 3, 6, 18] [(0, e3), (3, (pt g3)), (6, (iv x7)), (18, (bv ((e4.e0) == p1.e0 && ((e4.e1) == p1.e1))))] [.idx Aa x7 p0.length] [0, 1, 2, 3] e2 (fun fb => by kernel_rfl) rfl ⟨rowR.adr (rowO.rd (hS16.own 0).1) h17.1 h17.2, trivial⟩ rfl ?_
    refine WL.done rfl (WX.next ?_)
    rcases br_some hl13 with ⟨h18, hl13⟩ | ⟨h18, hl13⟩
    ·refine WC.condT2 (fun fb => by kernel_rfl) h18 ?_
     refine WC.seq (WC.region ?_)
     refine seg 4 [] [4, 5] [(4, (iv x7)), (5, e3)] [] (fun fb => by kernel_rfl) rfl trivial ?_
     refine WL.done rfl (WX.next ?_)
     refine WC.ret ?_
     injection hl13 with hl13
     subst hl13
     injection hf with hf
     subst hf
     exact WX.blockR (WX.thenR (WX.thenR (WX.blockR (WX.thenR (WX.ret_ [] (.tuple #[(iv x7), e3]) [] (fun fb => by kernel_rfl) trivial ⟨_, rfl, Aa, ca, rfl, (hS16.sub [0] (by decide)).noR⟩)))))
    refine WC.condF2 (fun fb => by kernel_rfl) h18 ?_
    refine WC.skip ?_
    refine WX.blockN (WX.next ?_)
    refine WC.region ?_
    refine seg 3 [] [0, 3, 6] [(0, e3), (3, (pt g3)), (6, (iv (w64 (x7 + 1))))] [] (fun fb => by kernel_rfl) rfl trivial ?_
    refine WL.done rfl ?_
    exact WX.again k10 (Nat.lt_succ_self _) (w64 (x7 + 1)) [0, 3, 6] rfl ⟨(hS16.subR []).sub [0, 1] (by decide), hl13⟩
   refine WC.condF2 (fun fb => by kernel_rfl) h14 ?_
   refine WC.exit ?_
   injection hl13 with hl13
   exact WX.thenX (WX.thenX (WX.blockHere (WX.to Kx8 () [0, 3] rfl ⟨(hS12.subR []).sub [0, 1] (by decide), hl13.symm⟩)))
 rintro y22 w19 ⟨hS20, hq21⟩
 subst hq21
 have hf := sum_inr hf
 refine WX.next (WC.seq (WC.region ?_))
 refine seg 4 [.v (iv p1.e0), .v (iv p1.e1)] [22, 23, 24] [(22, (iv (p0.length : Int))), (23, e3), (24, (.agg #[(iv p1.e0), (iv p1.e1)]))] [.cell ⟨g3, 0, none⟩ (iv p1.e0), .cell ⟨g3, 1, none⟩ (iv p1.e1)] (fun fb => by kernel_rfl) rfl ⟨hS20.cell 1 rfl 0 rfl, hS20.cell 1 rfl 1 rfl, trivial⟩ ?_
 refine WL.new hS20 25 [] (fun g => (.slice (some ⟨g, 0, none⟩) 1 1)) (.cells #[(iv p1.e0), (iv p1.e1)] 30 (0, 0)) [] (fun fb g => by kernel_rfl) trivial (fun g23 w24 hS25 => ?_)
 refine ⟨trivial, ?_⟩
 have hS26 := hS.go w24 [rowO 30 enc_A2_Int (some ⟨g23, 0, none⟩) 1 [p1], rowO 30 enc_A2_Int Aa ca p0, blk g3 (.cells #[(iv p1.e0), (iv p1.e1)] 30 (0, 0))] (hS25.map1 0 _ (fun h => rowO.ofBlk h rfl (Nat.le_of_ble_eq_true (by kernel_rfl))) (fun _ h => by obtain ⟨_, h1, h2⟩ := h; injection h1 with h1; subst h1; exact h2) [1, 2] (by decide) (by decide))
 obtain ⟨h27, hf⟩ := as_some hf
 refine WL.append hS26 1 (d := 26) (tS := 26) (z := (.agg #[(iv 0), (iv 0)])) (bytes := 16) (c2 := 1) rfl (fun fb => by kernel_rfl) (rowO.rd (hS26.own 0).1) (by kernel_rfl) (by kernel_rfl) rfl (by decide) h27 (by decide) [0, 2] (by decide) (by decide) (fun A28 c29 w30 hS31 => ?_)
 refine ⟨trivial, ?_⟩
 refine seg 8 [] [4, 5] [(4, (iv (p0.length : Int))), (5, (sv A28 (p0 ++ [p1]) c29))] [] (fun fb => by kernel_rfl) rfl trivial ?_
 refine WL.done rfl (WX.next ?_)
 refine WC.ret ?_
 injection hf with hf
 subst hf
 exact WX.ret_ [] (.tuple #[(iv (p0.length : Int)), (sv A28 (p0 ++ [p1]) c29)]) [] (fun fb => by kernel_rfl) trivial ⟨_, rfl, A28, c29, rfl, (hS31.sub [0] (by decide)).noR⟩
theorem ref04_On_calls (k : Nat) (p0 : List Tile) (p1 : List Tile) (Aa : Option Addr) (ca : Nat) (Ab : Option Addr) (cb : Nat) (r : (List Tile) × (List A2_Int) × Bool) (w : World) (hR0 : RO NoS w (rowR enc_Tile Aa ca p0)) (hR1 : RO NoS w (rowR enc_Tile Ab cb p1)) (hf : ref04_On k p0 p1 = some r) :
  CallsR Tryz.prog 27 #[(sv Aa p0 ca), (sv Ab p1 cb)] w (fun v w' => ∃ (A1_ : Option Addr), ∃ (c1_ : Nat), ∃ (A2_ : Option Addr), ∃ (c2_ : Nat), v = (.tuple #[(sv A1_ r.1 c1_), (sv A2_ r.2.1 c2_), (bv r.2.2)]) ∧ St NoS w w' [] [rowO 32 enc_Tile A1_ c1_ r.1, rowO 30 enc_A2_Int A2_ c2_ r.2.1]) := by
 have hS : St NoS w w [rowR enc_Tile Aa ca p0, rowR enc_Tile Ab cb p1] [] := St.init (ro_cons hR0 (ro_cons hR1 (ro_nil _ _)))
 refine enter 119 Tryz.func27 rfl Tryz.ntmps27 rfl ?_
 unfold ref04_On at hf
 refine WC.seq (WC.region ?_)
 refine seg 3 [] [0, 1] [(0, (sv Aa p0 ca)), (1, (sv Ab p1 cb))] [] (fun fb => by kernel_rfl) rfl trivial ?_
 refine WL.done rfl (WX.next (WC.seq (WC.region ?_)))
 refine seg 1 [] [0, 1, 7] [(0, (sv Aa p0 ca)), (1, (sv Ab p1 cb)), (7, (.slice none 0 0))] [] (fun fb => by kernel_rfl) rfl trivial ?_
 refine WL.done rfl (WX.next (WC.seq (WC.region ?_)))
 refine seg 2 [] [0, 1, 7, 8, 9] [(0, (sv Aa p0 ca)), (1, (sv Ab p1 cb)), (7, (.slice none 0 0)), (8, (.slice none 0 0)), (9, (.slice none 0 0))] [] (fun fb => by kernel_rfl) rfl trivial ?_
 refine WL.done rfl (WX.next (WC.seq (WC.seq (WC.region ?_))))
 refine seg 1 [] [0, 1, 7, 8, 9, 10] [(0, (sv Aa p0 ca)), (1, (sv Ab p1 cb)), (7, (.slice none 0 0)), (8, (.slice none 0 0)), (9, (.slice none 0 0)), (10, (iv 0))] [] (fun fb => by kernel_rfl) rfl trivial ?_
 refine WL.done rfl (WX.next ?_)
 have hS3 := hS.nilrow 32 enc_Tile
 have hS5 := hS3.nilrow 30 enc_A2_Int
 have hS6 := hS5.nilrow 30 enc_A2_Int
 obtain ⟨x21, hx22, hf⟩ := bind_some hf
 let e1 : Nat × Value := (0, (sv Aa p0 ca))
 let e2 : Nat × Value := (1, (sv Ab p1 cb))
 let e4 := [[], [], [], [1, 2], [1, 2, 3], [1, 2, 3, 4], [], [], [6, 7], [6, 7, 8], [6, 7, 8, 9], [1, 2, 3, 4, 5, 6, 7, 8, 9, 10], [0, 1, 2, 3, 4, 5, 6, 7, 8, 9, 10, 11], [0, 1, 2, 3, 4, 5, 6, 7, 8, 9, 10, 11, 12], [0, 1, 2, 3, 4, 5, 6, 7, 8, 9, 10, 11, 12, 13], [0, 1, 2, 3, 4, 5, 6, 7, 8, 9, 10, 11, 12, 13], [0, 1, 2, 3, 4, 5, 6, 7, 8, 9, 10, 11, 12, 13, 14], [0, 1, 2, 3, 4, 5, 6, 7, 8, 9, 10, 11, 12, 13, 14, 16], [0, 1, 2, 3, 4, 5, 6, 7, 8, 9, 10, 11, 12, 13, 14, 15, 16, 17]]
 let e8 : List Own := [rowR enc_Tile Aa ca p0, rowR enc_Tile Ab cb p1]
 let e11 : List Nat := [0, 1, 7, 8, 9, 10, 11, 12, 13, 14]
 let e17 : List Nat := [0, 1, 7, 8, 9, 10, 11]
 let e18 := [[], [0], [0, 1], [0, 1], [0, 1, 2, 3], [0, 1, 2, 3, 4], [0, 1], [0, 1, 2, 3, 4, 5, 6], [0, 1, 2, 3, 4, 5, 6, 7], [0, 1, 2, 3, 4, 5, 6, 7, 8]]
 let e19 : List Nat := [0, 1, 2, 3, 4, 5, 6, 7, 8, 9]
 let e20 := Option Addr
 let e25 := List A2_Int
 let e27 := [[0, 1, 2, 3, 4, 5, 6, 7, 8, 9, 10, 11, 12, 13, 14, 15, 16, 17, 18]]
 let e28 : List Nat := [0, 1, 2, 3, 4, 5, 6, 7, 8, 9, 10]
 let e30 : List Nat := [0, 1, 2, 3, 4, 5, 6, 7, 8, 9, 10, 11, 13, 14, 15, 16, 18]
 refine WC.cutN (T := ((List Tile) × e25) × e20 × Nat × e20 × Nat) (fun t => [(7, (sv t.2.1 t.1.1 t.2.2.1)), (8, (sv t.2.2.2.1 t.1.2 t.2.2.2.2))]) (fun t w1 => St NoS w w1 e8 [rowO 32 enc_Tile t.2.1 t.2.2.1 t.1.1, rowO 30 enc_A2_Int t.2.2.2.1 t.2.2.2.2 t.1.2] ∧ x21 = .inr t.1) (fun Kx21 => ?_) ?_
 ·
  refine WC.block ?_
  refine WC.loop (T := ((List Tile) × e25 × e25 × Int) × e20 × Nat × e20 × Nat × e20 × Nat) (fun t => [e1, e2, (7, (sv t.2.1 t.1.1 t.2.2.1)), (8, (sv t.2.2.2.1 t.1.2.1 t.2.2.2.2.1)), (9, (sv t.2.2.2.2.2.1 t.1.2.2.1 t.2.2.2.2.2.2)), (10, (iv t.1.2.2.2))]) (fun n t w1 => St NoS w w1 e8 [rowO 32 enc_Tile t.2.1 t.2.2.1 t.1.1, rowO 30 enc_A2_Int t.2.2.2.1 t.2.2.2.2.1 t.1.2.1, rowO 30 enc_A2_Int t.2.2.2.2.2.1 t.2.2.2.2.2.2 t.1.2.2.1] ∧ ref04_On.l0 n t.1.1 t.1.2.1 t.1.2.2.1 t.1.2.2.2 p0 p1 = some x21) k ((([] : List Tile), ([] : List A2_Int), ([] : List A2_Int), 0), none, 0, none, 0, none, 0) [0, 1, 7, 8, 9, 10] rfl ⟨(hS6.subR [0, 1]).sub [2, 1, 0] (by decide), hx22⟩ ?_
  rintro k23 ⟨⟨l9, l12, l15, x16⟩, A7, c8, A10, c11, A13, c14⟩ w24 ⟨hS25, hl26⟩
  let e6 : Nat × Value := (10, (iv x16))
  let e12 := (adr Aa).add ((x16).toNat * 4)
  cases k23 with
  | zero => rw [ref04_On.l0] at hl26; cases hl26
  | succ k23 =>
   rw [ref04_On.l0] at hl26
   refine WC.seq (WC.seq (WC.region ?_))
   refine seg 4 [] [0, 1, 7, 8, 9, 10, 18] [e1, e2, (7, (sv A7 l9 c8)), (8, (sv A10 l12 c11)), (9, (sv A13 l15 c14)), e6, (18, (bv (decide (x16 < (p0.length : Int)))))] [] (fun fb => by kernel_rfl) rfl trivial ?_
   refine WL.done rfl (WX.next ?_)
   rcases br_some hl26 with ⟨h28, hl26⟩ | ⟨h28, hl26⟩
   ·refine WC.condT2 (fun fb => by kernel_rfl) h28 ?_
    refine WC.skip (WX.next (WC.seq (WC.block (WC.seq (WC.region ?_)))))
    refine seg 1 [] e17 [e1, e2, (7, (sv A7 l9 c8)), (8, (sv A10 l12 c11)), (9, (sv A13 l15 c14)), e6, (11, (iv 0))] [] (fun fb => by kernel_rfl) rfl trivial ?_
    refine WL.done rfl (WX.next ?_)
    obtain ⟨x45, hx46, hl26⟩ := bind_some hl26
    refine WC.cutN (T := ((List Tile) × e25 × e25) × e20 × Nat × e20 × Nat × e20 × Nat) (fun t => [e1, e2, (7, (sv t.2.1 t.1.1 t.2.2.1)), (8, (sv t.2.2.2.1 t.1.2.1 t.2.2.2.2.1)), (9, (sv t.2.2.2.2.2.1 t.1.2.2 t.2.2.2.2.2.2)), e6]) (fun t w1 => St NoS w w1 e8 [rowO 32 enc_Tile t.2.1 t.2.2.1 t.1.1, rowO 30 enc_A2_Int t.2.2.2.1 t.2.2.2.2.1 t.1.2.1, rowO 30 enc_A2_Int t.2.2.2.2.2.1 t.2.2.2.2.2.2 t.1.2.2] ∧ x45 = .inr t.1) (fun Kx45 => ?_) ?_
    ·
     refine WC.block ?_
     refine WC.loop (T := ((List Tile) × e25 × e25 × Int) × e20 × Nat × e20 × Nat × e20 × Nat) (fun t => [e1, e2, (7, (sv t.2.1 t.1.1 t.2.2.1)), (8, (sv t.2.2.2.1 t.1.2.1 t.2.2.2.2.1)), (9, (sv t.2.2.2.2.2.1 t.1.2.2.1 t.2.2.2.2.2.2)), e6, (11, (iv t.1.2.2.2))]) (fun n t w1 => St NoS w w1 e8 [rowO 32 enc_Tile t.2.1 t.2.2.1 t.1.1, rowO 30 enc_A2_Int t.2.2.2.1 t.2.2.2.2.1 t.1.2.1, rowO 30 enc_A2_Int t.2.2.2.2.2.1 t.2.2.2.2.2.2 t.1.2.2.1] ∧ ref04_On.l1 n t.1.1 t.1.2.1 t.1.2.2.1 t.1.2.2.2 p0 p1 x16 = some x45) k23 ((l9, l12, l15, 0), A7, c8, A10, c11, A13, c14) e17 rfl ⟨(hS25.subR [0, 1]).sub [0, 1, 2] (by decide), hx46⟩ ?_
     rintro k47 ⟨⟨l31, l34, l37, x38⟩, A29, c30, A32, c33, A35, c36⟩ w48 ⟨hS49, hl50⟩
     let e5 : Nat × Value := (8, (sv A32 l34 c33))
     let e7 : Nat × Value := (7, (sv A29 l31 c30))
     let e9 : Nat × Value := (11, (iv x38))
     let e13 := (adr Ab).add ((x38).toNat * 4)
     let e22 := [(A2_Int.mk x16 x38)]
     cases k47 with
     | zero => rw [ref04_On.l1] at hl50; cases hl50
     | succ k47 =>
      rw [ref04_On.l1] at hl50
      refine WC.seq (WC.seq (WC.region ?_))
      refine seg 4 [] [0, 1, 7, 8, 9, 10, 11, 24] [e1, e2, e7, e5, (9, (sv A35 l37 c36)), e6, e9, (24, (bv (decide (x38 < (p1.length : Int)))))] [] (fun fb => by kernel_rfl) rfl trivial ?_
      refine WL.done rfl (WX.next ?_)
      rcases br_some hl50 with ⟨h51, hl50⟩ | ⟨h51, hl50⟩
      ·refine WC.condT2 (fun fb => by kernel_rfl) h51 ?_
       refine WC.skip (WX.next (WC.seq ?_))
       obtain ⟨x58, hx59, hl50⟩ := bind_some hl50
       refine WC.cutN (T := ((List Tile) × e25 × e25) × e20 × Nat × e20 × Nat × e20 × Nat) (fun t => [e1, e2, (7, (sv t.2.1 t.1.1 t.2.2.1)), (8, (sv t.2.2.2.1 t.1.2.1 t.2.2.2.2.1)), (9, (sv t.2.2.2.2.2.1 t.1.2.2 t.2.2.2.2.2.2)), e6, e9]) (fun t w1 => St NoS w w1 e8 [rowO 32 enc_Tile t.2.1 t.2.2.1 t.1.1, rowO 30 enc_A2_Int t.2.2.2.1 t.2.2.2.2.1 t.1.2.1, rowO 30 enc_A2_Int t.2.2.2.2.2.1 t.2.2.2.2.2.2 t.1.2.2] ∧ x58 = .inr t.1) (fun Kx58 => ?_) ?_
       ·
        refine WC.block (WC.seq (WC.seq ?_))
        obtain ⟨h62, hx59⟩ := as_some hx59
        obtain ⟨h63, hx59⟩ := as_some hx59
        refine WC.regionD ([(4, e12, (iv ((rdD p0 x16 z_Tile).N))), (9, (e13.add 2), (iv ((rdD p1 x38 z_Tile).S)))], e28, [[], [], [0, 1], [0, 1, 2], [0, 1, 2, 3], [], [], [5, 6], [5, 6, 7], [5, 6, 7, 8], e19]) [e28] (by kernel_rfl) (by kernel_rfl) (NoPanic.seq (NoPanic.seq (NoPanic.block (NoPanic.seq (NoPanic.seq (NoPanic.block (NoPanic.block (NoPanic.seq (NoPanic.seq (NoPanic.block (NoPanic.seq (NoPanic.body)))))))))))) ?_
        have hS61 := hS49.drew
        revert hS61
        generalize World.drew w48 = w60
        intro hS61
        refine ⟨⟨rowR.cell (hS61.rd 0).1 z_Tile h62.1 h62.2 0 rfl, rowR.cell (hS61.rd 1).1 z_Tile h63.1 h63.2 2 rfl, trivial⟩, forallC ?_ (forallN)⟩
        refine segF 11 [.v (iv ((rdD p0 x16 z_Tile).N)), .v (iv ((rdD p1 x38 z_Tile).S))] [0, 1, 7, 8, 9, 10, 11, 37] [e1, e2, e7, e5, (9, (sv A35 l37 c36)), e6, e9, (37, (bv (((rdD p0 x16 z_Tile).N) != ((rdD p1 x38 z_Tile).S))))] [.idx Aa x16 p0.length, .idx Ab x38 p1.length] [0, 1] [(4, e12, (iv ((rdD p0 x16 z_Tile).N))), (9, (e13.add 2), (iv ((rdD p1 x38 z_Tile).S)))] (fun fb => by kernel_rfl) rfl ⟨rowR.adr (hS61.rd 0).1 h62.1 h62.2, rowR.adr (hS61.rd 1).1 h63.1 h63.2, trivial⟩ rfl ?_
        refine WL.done rfl (WX.next ?_)
        rcases br_some hx59 with ⟨h65, hx59⟩ | ⟨h65, hx59⟩
        ·refine WC.condT2 (fun fb => by kernel_rfl) h65 ?_
         refine WC.exit ?_
         injection hx59 with hx59
         exact WX.thenX (WX.blockHere (WX.to Kx58 ((l31, l34, l37), A29, c30, A32, c33, A35, c36) e17 rfl ⟨(hS61.subR [0, 1]).sub [0, 1, 2] (by decide), hx59.symm⟩))
        refine WC.condF2 (fun fb => by kernel_rfl) h65 ?_
        refine WC.skip (WX.next (WC.seq ?_))
        refine WC.regionD ([(4, e13, (iv ((rdD p1 x38 z_Tile).N))), (9, (e12.add 2), (iv ((rdD p0 x16 z_Tile).S)))], e28, [[], [], [0, 1], [0, 1, 2], [0, 1, 2, 3], [], [], [5, 6], [5, 6, 7], [5, 6, 7, 8], e19, [], [0, 1, 2, 3, 4, 5, 6, 7, 8, 9, 10, 11]]) [[0, 1, 2, 3, 4, 5, 6, 7, 8, 9, 10, 11, 12]] (by kernel_rfl) (by kernel_rfl) (NoPanic.seq (NoPanic.block (NoPanic.seq (NoPanic.seq (NoPanic.block (NoPanic.block (NoPanic.seq (NoPanic.seq (NoPanic.block (NoPanic.seq (NoPanic.body))))))))))) ?_
        have hS67 := hS61.drew
        revert hS67
        generalize World.drew w60 = w66
        intro hS67
        refine ⟨⟨rowR.cell (hS67.rd 1).1 z_Tile h63.1 h63.2 0 rfl, rowR.cell (hS67.rd 0).1 z_Tile h62.1 h62.2 2 rfl, trivial⟩, forallC ?_ (forallN)⟩
        refine segF 11 [.v (iv ((rdD p1 x38 z_Tile).N)), .v (iv ((rdD p0 x16 z_Tile).S))] [0, 1, 7, 8, 9, 10, 11, 48] [e1, e2, e7, e5, (9, (sv A35 l37 c36)), e6, e9, (48, (.agg #[(iv ((rdD p1 x38 z_Tile).N)), (iv 0), (iv ((rdD p0 x16 z_Tile).S)), (iv 0)]))] [.idx Ab x38 p1.length, .idx Aa x16 p0.length] [0, 1] [(4, e13, (iv ((rdD p1 x38 z_Tile).N))), (9, (e12.add 2), (iv ((rdD p0 x16 z_Tile).S)))] (fun fb => by kernel_rfl) rfl ⟨rowR.adr (hS67.rd 1).1 h63.1 h63.2, rowR.adr (hS67.rd 0).1 h62.1 h62.2, trivial⟩ rfl ?_
        refine WL.new hS67 12 [] (fun g => (pt g)) (.cells #[(iv 0), (iv 0), (iv 0), (iv 0)] 32 (0, 0)) [] (fun fb g => by kernel_rfl) trivial (fun g68 w69 hS70 => ?_)
        refine ⟨⟨rowR.cell (hS70.rd 1).1 z_Tile h63.1 h63.2 0 rfl, rowR.cell (hS70.rd 0).1 z_Tile h62.1 h62.2 2 rfl, trivial⟩, ?_⟩
        refine WL.store hS70 0 rfl [(0, (iv ((rdD p1 x38 z_Tile).N))), (1, (iv 0)), (2, (iv ((rdD p0 x16 z_Tile).S))), (3, (iv 0))] #[(iv ((rdD p1 x38 z_Tile).N)), (iv 0), (iv ((rdD p0 x16 z_Tile).S)), (iv 0)] (fun fb => by kernel_rfl) (by kernel_rfl) rfl [1, 2, 3] (by decide) (by decide) (fun w71 hS72 => ?_)
        refine ⟨trivial, ?_⟩
        refine WL.done rfl (WX.next (WC.seq ?_))
        refine WC.regionD ([(5, (e12.add 1), (iv ((rdD p0 x16 z_Tile).E))), (10, (e13.add 1), (iv ((rdD p1 x38 z_Tile).E)))], e30, e4) e27 (by kernel_rfl) (by kernel_rfl) (NoPanic.seq (NoPanic.block (NoPanic.seq (NoPanic.seq (NoPanic.block (NoPanic.block (NoPanic.seq (NoPanic.seq (NoPanic.block (NoPanic.seq (NoPanic.body))))))))))) ?_
        have hS74 := hS72.drew
        revert hS74
        generalize World.drew w71 = w73
        intro hS74
        refine ⟨⟨rowR.cell (hS74.rd 0).1 z_Tile h62.1 h62.2 1 rfl, rowR.cell (hS74.rd 1).1 z_Tile h63.1 h63.2 1 rfl, trivial⟩, forallC ?_ (forallN)⟩
        refine segF 12 [.v (iv ((rdD p0 x16 z_Tile).E)), .v (iv ((rdD p1 x38 z_Tile).E))] [0, 1, 7, 8, 10, 11, 12, 50, 61] [e1, e2, e7, e5, e6, e9, (12, (pt g68)), (50, (sv A35 l37 c36)), (61, (.agg #[(iv ((rdD p0 x16 z_Tile).E)), (iv ((rdD p1 x38 z_Tile).E))]))] [.idx Aa x16 p0.length, .idx Ab x38 p1.length] [0, 1] [(5, (e12.add 1), (iv ((rdD p0 x16 z_Tile).E))), (10, (e13.add 1), (iv ((rdD p1 x38 z_Tile).E)))] (fun fb => by kernel_rfl) rfl ⟨rowR.adr (hS74.rd 0).1 h62.1 h62.2, rowR.adr (hS74.rd 1).1 h63.1 h63.2, trivial⟩ rfl ?_
        obtain ⟨t75, ht76, hx59⟩ := bind_some hx59
        refine WL.call (some 62) 42 #[(sv A35 l37 c36), (.agg #[(iv ((rdD p0 x16 z_Tile).E)), (iv ((rdD p1 x38 z_Tile).E))])] (fun fb => by kernel_rfl) (ref04_number_calls _ l37 (A2_Int.mk ((rdD p0 x16 z_Tile).E) ((rdD p1 x38 z_Tile).E)) A35 c36 t75 _ (hS74.io [3] (by decide)) ht76) (fun v w77 hR78 => ?_)
        obtain ⟨A80, c81, rfl, hk_⟩ := hR78
        have hS79 := hS.go w77 [rowO 30 enc_A2_Int A80 c81 t75.2, blk g68 (.cells #[(iv ((rdD p1 x38 z_Tile).N)), (iv 0), (iv ((rdD p0 x16 z_Tile).S)), (iv 0)] 32 (0, 0)), rowO 32 enc_Tile A29 c30 l31, rowO 30 enc_A2_Int A32 c33 l34] (hS74.call hk_ [3] [0, 1, 2] (fun g hg => fpL_sel g hg) (by decide) (by decide))
        refine ⟨trivial, ?_⟩
        refine seg 17 [] [0, 1, 7, 8, 10, 11, 12, 63, 64, 65] [e1, e2, e7, e5, e6, e9, (12, (pt g68)), (63, (iv t75.1)), (64, (sv A80 t75.2 c81)), (65, (.pointer (some ⟨g68, 1, none⟩)))] [] (fun fb => by kernel_rfl) rfl trivial ?_
        refine WL.store hS79 1 rfl [(1, (iv t75.1))] #[(iv ((rdD p1 x38 z_Tile).N)), (iv t75.1), (iv ((rdD p0 x16 z_Tile).S)), (iv 0)] (fun fb => by kernel_rfl) (by kernel_rfl) rfl [0, 2, 3] (by decide) (by decide) (fun w82 hS83 => ?_)
        refine ⟨trivial, ?_⟩
        refine seg 19 [] [0, 1, 7, 8, 9, 10, 11, 12] [e1, e2, e7, e5, (9, (sv A80 t75.2 c81)), e6, e9, (12, (pt g68))] [] (fun fb => by kernel_rfl) rfl trivial ?_
        refine WL.done rfl (WX.next (WC.seq ?_))
        refine WC.regionD ([(5, (e12.add 3), (iv ((rdD p0 x16 z_Tile).W))), (10, (e13.add 3), (iv ((rdD p1 x38 z_Tile).W)))], e30, e4) e27 (by kernel_rfl) (by kernel_rfl) (NoPanic.seq (NoPanic.block (NoPanic.seq (NoPanic.seq (NoPanic.block (NoPanic.block (NoPanic.seq (NoPanic.seq (NoPanic.block (NoPanic.seq (NoPanic.body))))))))))) ?_
        have hS85 := hS83.drew
        revert hS85
        generalize World.drew w82 = w84
        intro hS85
        refine ⟨⟨rowR.cell (hS85.rd 0).1 z_Tile h62.1 h62.2 3 rfl, rowR.cell (hS85.rd 1).1 z_Tile h63.1 h63.2 3 rfl, trivial⟩, forallC ?_ (forallN)⟩
        refine segF 12 [.v (iv ((rdD p0 x16 z_Tile).W)), .v (iv ((rdD p1 x38 z_Tile).W))] [0, 1, 7, 8, 10, 11, 12, 67, 78] [e1, e2, e7, e5, e6, e9, (12, (pt g68)), (67, (sv A80 t75.2 c81)), (78, (.agg #[(iv ((rdD p0 x16 z_Tile).W)), (iv ((rdD p1 x38 z_Tile).W))]))] [.idx Aa x16 p0.length, .idx Ab x38 p1.length] [0, 1] [(5, (e12.add 3), (iv ((rdD p0 x16 z_Tile).W))), (10, (e13.add 3), (iv ((rdD p1 x38 z_Tile).W)))] (fun fb => by kernel_rfl) rfl ⟨rowR.adr (hS85.rd 0).1 h62.1 h62.2, rowR.adr (hS85.rd 1).1 h63.1 h63.2, trivial⟩ rfl ?_
        obtain ⟨t86, ht87, hx59⟩ := bind_some hx59
        refine WL.call (some 79) 42 #[(sv A80 t75.2 c81), (.agg #[(iv ((rdD p0 x16 z_Tile).W)), (iv ((rdD p1 x38 z_Tile).W))])] (fun fb => by kernel_rfl) (ref04_number_calls _ t75.2 (A2_Int.mk ((rdD p0 x16 z_Tile).W) ((rdD p1 x38 z_Tile).W)) A80 c81 t86 _ (hS85.io [1] (by decide)) ht87) (fun v w88 hR89 => ?_)
        obtain ⟨A91, c92, rfl, hk_⟩ := hR89
        have hS90 := hS79.go w88 [rowO 30 enc_A2_Int A91 c92 t86.2, blk g68 (.cells #[(iv ((rdD p1 x38 z_Tile).N)), (iv t75.1), (iv ((rdD p0 x16 z_Tile).S)), (iv 0)] 32 (0, 0)), rowO 32 enc_Tile A29 c30 l31, rowO 30 enc_A2_Int A32 c33 l34] (hS85.call hk_ [1] [0, 2, 3] (fun g hg => fpL_sel g hg) (by decide) (by decide))
        refine ⟨trivial, ?_⟩
        refine seg 17 [] [0, 1, 7, 8, 10, 11, 12, 80, 81, 82] [e1, e2, e7, e5, e6, e9, (12, (pt g68)), (80, (iv t86.1)), (81, (sv A91 t86.2 c92)), (82, (.pointer (some ⟨g68, 3, none⟩)))] [] (fun fb => by kernel_rfl) rfl trivial ?_
        refine WL.store hS90 1 rfl [(3, (iv t86.1))] #[(iv ((rdD p1 x38 z_Tile).N)), (iv t75.1), (iv ((rdD p0 x16 z_Tile).S)), (iv t86.1)] (fun fb => by kernel_rfl) (by kernel_rfl) rfl [0, 2, 3] (by decide) (by decide) (fun w93 hS94 => ?_)
        refine ⟨trivial, ?_⟩
        refine seg 19 [] [0, 1, 7, 8, 9, 10, 11, 12] [e1, e2, e7, e5, (9, (sv A91 t86.2 c92)), e6, e9, (12, (pt g68))] [] (fun fb => by kernel_rfl) rfl trivial ?_
        refine WL.done rfl (WX.next (WC.seq (WC.region ?_)))
        refine seg 1 [] [0, 1, 7, 8, 9, 10, 11, 12, 13] [e1, e2, e7, e5, (9, (sv A91 t86.2 c92)), e6, e9, (12, (pt g68)), (13, (bv false))] [] (fun fb => by kernel_rfl) rfl trivial ?_
        refine WL.done rfl (WX.next (WC.seq (WC.seq (WC.region ?_))))
        refine seg 1 [] e11 [e1, e2, e7, e5, (9, (sv A91 t86.2 c92)), e6, e9, (12, (pt g68)), (13, (bv false)), (14, (iv 0))] [] (fun fb => by kernel_rfl) rfl trivial ?_
        refine WL.done rfl (WX.next ?_)
        obtain ⟨x97, hx98, hx59⟩ := bind_some hx59
        let e15 : Array Value := #[(iv ((rdD p1 x38 z_Tile).N)), (iv t75.1), (iv ((rdD p0 x16 z_Tile).S)), (iv t86.1)]
        let e16 : Nat × Value := (9, (sv A91 t86.2 c92))
        let e24 : Nat × Value := (12, (pt g68))
        refine WC.cutN (T := Bool) (fun t => [e1, e2, e7, e5, e16, e6, e9, e24, (13, (bv t))]) (fun t w1 => St NoS w w1 e8 [rowO 32 enc_Tile A29 c30 l31, rowO 30 enc_A2_Int A32 c33 l34, rowO 30 enc_A2_Int A91 c92 t86.2, blk g68 (.cells e15 32 (0, 0))] ∧ x97 = t) (fun Kx97 => ?_) ?_
        ·
         refine WC.block ?_
         refine WC.loop (T := Bool × Int) (fun t => [e1, e2, e7, e5, e16, e6, e9, e24, (13, (bv t.1)), (14, (iv t.2))]) (fun n t w1 => St NoS w w1 e8 [rowO 32 enc_Tile A29 c30 l31, rowO 30 enc_A2_Int A32 c33 l34, rowO 30 enc_A2_Int A91 c92 t86.2, blk g68 (.cells e15 32 (0, 0))] ∧ ref04_On.l2 n t.1 t.2 p0 p1 x16 l31 x38 t75 t86 = some x97) k47 (false, 0) e11 rfl ⟨(hS94.subR [0, 1]).sub [2, 3, 1, 0] (by decide), hx98⟩ ?_
         rintro k99 ⟨b95, x96⟩ w100 ⟨hS101, hl102⟩
         let e23 := (adr A29).add ((x96).toNat * 4)
         let e3 : List (Nat × Addr × Value) := [(5, e23, (iv ((rdD l31 x96 z_Tile).N))), (5, (e23.add 1), (iv ((rdD l31 x96 z_Tile).E))), (5, (e23.add 2), (iv ((rdD l31 x96 z_Tile).S))), (5, (e23.add 3), (iv ((rdD l31 x96 z_Tile).W))), (6, ⟨g68, 0, none⟩, (iv ((rdD p1 x38 z_Tile).N))), (6, ⟨g68, 1, none⟩, (iv t75.1)), (6, ⟨g68, 2, none⟩, (iv ((rdD p0 x16 z_Tile).S))), (6, ⟨g68, 3, none⟩, (iv t86.1))]
         let e14 := rdD l31 x96 z_Tile
         let e21 := (e14.N) == ((rdD p1 x38 z_Tile).N) && ((e14.E) == t75.1 && ((e14.S) == ((rdD p0 x16 z_Tile).S) && ((e14.W) == t86.1)))
         cases k99 with
         | zero => rw [ref04_On.l2] at hl102; cases hl102
         | succ k99 =>
          rw [ref04_On.l2] at hl102
          refine WC.seq (WC.seq (WC.region ?_))
          refine seg 4 [] [0, 1, 7, 8, 9, 10, 11, 12, 13, 14, 86] [e1, e2, e7, e5, e16, e6, e9, e24, (13, (bv b95)), (14, (iv x96)), (86, (bv (decide (x96 < (l31.length : Int)))))] [] (fun fb => by kernel_rfl) rfl trivial ?_
          refine WL.done rfl (WX.next ?_)
          rcases br_some hl102 with ⟨h103, hl102⟩ | ⟨h103, hl102⟩
          ·refine WC.condT2 (fun fb => by kernel_rfl) h103 ?_
           refine WC.skip (WX.next (WC.seq (WC.block ?_)))
           obtain ⟨x104, hx105, hl102⟩ := bind_some hl102
           refine WC.cutN (T := Bool) (fun t => [e1, e2, e7, e5, e16, e6, e9, e24, (13, (bv t)), (14, (iv x96))]) (fun t w1 => St NoS w w1 e8 [rowO 32 enc_Tile A29 c30 l31, rowO 30 enc_A2_Int A32 c33 l34, rowO 30 enc_A2_Int A91 c92 t86.2, blk g68 (.cells e15 32 (0, 0))] ∧ x104 = t) (fun Kx104 => ?_) ?_
           ·
            rcases br_some hx105 with ⟨h106, hx105⟩ | ⟨h106, hx105⟩
            ·
             refine WC.regionD ([], e19, e18) [e19] (by kernel_rfl) (by kernel_rfl) (NoPanic.block (NoPanic.seq (NoPanic.seq (NoPanic.block (NoPanic.seq (NoPanic.block (NoPanic.seq (NoPanic.seq (NoPanic.block (NoPanic.block (NoPanic.seq (NoPanic.seq (NoPanic.block (NoPanic.seq (NoPanic.body))))))))))))))) ?_
             have hS108 := hS101.drew
             revert hS108
             generalize World.drew w100 = w107
             intro hS108
             refine ⟨trivial, forallC ?_ (forallN)⟩
             refine seg 2 [] [0, 1, 7, 8, 9, 10, 11, 12, 14, 90] [e1, e2, e7, e5, e16, e6, e9, e24, (14, (iv x96)), (90, (bv b95))] [] (fun fb => by kernel_rfl) rfl trivial ?_
             refine WL.setB 90 h106 rfl ?_
             refine seg 10 [] e11 [e1, e2, e7, e5, e16, e6, e9, e24, (13, (bv true)), (14, (iv x96))] [] (fun fb => by kernel_rfl) rfl trivial ?_
             refine WL.done rfl ?_
             injection hx105 with hx105
             exact WX.to Kx104 true e11 rfl ⟨(hS108.subR [0, 1]).sub [0, 1, 2, 3] (by decide), hx105.symm⟩
            obtain ⟨h111, hx105⟩ := as_some hx105
            refine WC.regionD (e3, e19, e18) [e19] (by kernel_rfl) (by kernel_rfl) (NoPanic.block (NoPanic.seq (NoPanic.seq (NoPanic.block (NoPanic.seq (NoPanic.block (NoPanic.seq (NoPanic.seq (NoPanic.block (NoPanic.block (NoPanic.seq (NoPanic.seq (NoPanic.block (NoPanic.seq (NoPanic.body))))))))))))))) ?_
            have hS110 := hS101.drew
            revert hS110
            generalize World.drew w100 = w109
            intro hS110
            refine ⟨⟨rowR.cell (rowO.rd (hS110.own 0).1) z_Tile h111.1 h111.2 0 rfl, rowR.cell (rowO.rd (hS110.own 0).1) z_Tile h111.1 h111.2 1 rfl, rowR.cell (rowO.rd (hS110.own 0).1) z_Tile h111.1 h111.2 2 rfl, rowR.cell (rowO.rd (hS110.own 0).1) z_Tile h111.1 h111.2 3 rfl, hS110.cell 3 rfl 0 rfl, hS110.cell 3 rfl 1 rfl, hS110.cell 3 rfl 2 rfl, hS110.cell 3 rfl 3 rfl, trivial⟩, forallC ?_ (forallN)⟩
            refine seg 2 [] [0, 1, 7, 8, 9, 10, 11, 12, 14, 90] [e1, e2, e7, e5, e16, e6, e9, e24, (14, (iv x96)), (90, (bv b95))] [] (fun fb => by kernel_rfl) rfl trivial ?_
            refine WL.setB 90 h106 rfl ?_
            refine segF 10 [.v (iv (e14.N)), .v (iv (e14.E)), .v (iv (e14.S)), .v (iv (e14.W)), .v (iv ((rdD p1 x38 z_Tile).N)), .v (iv t75.1), .v (iv ((rdD p0 x16 z_Tile).S)), .v (iv t86.1)] e11 [e1, e2, e7, e5, e16, e6, e9, e24, (13, (bv e21)), (14, (iv x96))] [.idx A29 x96 l31.length] [0, 1, 2, 3, 4, 5, 6, 7] e3 (fun fb => by kernel_rfl) rfl ⟨rowR.adr (rowO.rd (hS110.own 0).1) h111.1 h111.2, trivial⟩ rfl ?_
            refine WL.done rfl ?_
            injection hx105 with hx105
            exact WX.to Kx104 e21 e11 rfl ⟨(hS110.subR [0, 1]).sub [0, 1, 2, 3] (by decide), hx105.symm⟩
           rintro y115 w112 ⟨hS113, hq114⟩
           subst hq114
           refine WX.blockN (WX.next ?_)
           refine WC.region ?_
           refine seg 3 [] e11 [e1, e2, e7, e5, e16, e6, e9, e24, (13, (bv x104)), (14, (iv (w64 (x96 + 1))))] [] (fun fb => by kernel_rfl) rfl trivial ?_
           refine WL.done rfl ?_
           exact WX.again k99 (Nat.lt_succ_self _) (x104, w64 (x96 + 1)) e11 rfl ⟨(hS113.subR [0, 1]).sub [0, 1, 2, 3] (by decide), hl102⟩
          refine WC.condF2 (fun fb => by kernel_rfl) h103 ?_
          refine WC.exit ?_
          injection hl102 with hl102
          exact WX.thenX (WX.thenX (WX.blockHere (WX.to Kx97 b95 [0, 1, 7, 8, 9, 10, 11, 12, 13] rfl ⟨(hS101.subR [0, 1]).sub [0, 1, 2, 3] (by decide), hl102.symm⟩)))
        rintro y119 w116 ⟨hS117, hq118⟩
        subst hq118
        refine WX.next (WC.seq (WC.seq (WC.region ?_)))
        refine seg 1 [] [0, 1, 7, 8, 9, 10, 11, 12, 98] [e1, e2, e7, e5, e16, e6, e9, e24, (98, (bv x97))] [] (fun fb => by kernel_rfl) rfl trivial ?_
        refine WL.done rfl (WX.next ?_)
        rcases br_some hx59 with ⟨h120, hx59⟩ | ⟨h120, hx59⟩
        ·refine WC.condT2 (fun fb => by kernel_rfl) h120 ?_
         refine WC.exit ?_
         injection hx59 with hx59
         exact WX.thenX (WX.blockHere (WX.to Kx58 ((l31, l34, t86.2), A29, c30, A32, c33, A91, c92) e17 rfl ⟨(hS117.subR [0, 1]).sub [0, 1, 2] (by decide), hx59.symm⟩))
        refine WC.condF2 (fun fb => by kernel_rfl) h120 ?_
        refine WC.skip (WX.next (WC.seq (WC.region ?_)))
        refine seg 2 [.v (iv ((rdD p1 x38 z_Tile).N)), .v (iv t75.1), .v (iv ((rdD p0 x16 z_Tile).S)), .v (iv t86.1)] [0, 1, 8, 9, 10, 11, 99, 100] [e1, e2, e5, e16, e6, e9, (99, (sv A29 l31 c30)), (100, (.agg e15))] [.cell ⟨g68, 0, none⟩ (iv ((rdD p1 x38 z_Tile).N)), .cell ⟨g68, 1, none⟩ (iv t75.1), .cell ⟨g68, 2, none⟩ (iv ((rdD p0 x16 z_Tile).S)), .cell ⟨g68, 3, none⟩ (iv t86.1)] (fun fb => by kernel_rfl) rfl ⟨hS117.cell 3 rfl 0 rfl, hS117.cell 3 rfl 1 rfl, hS117.cell 3 rfl 2 rfl, hS117.cell 3 rfl 3 rfl, trivial⟩ ?_
        refine WL.new hS117 101 [] (fun g => (.slice (some ⟨g, 0, none⟩) 1 1)) (.cells e15 32 (0, 0)) [] (fun fb g => by kernel_rfl) trivial (fun g121 w122 hS123 => ?_)
        refine ⟨trivial, ?_⟩
        have hS124 := hS90.go w122 [rowO 32 enc_Tile (some ⟨g121, 0, none⟩) 1 [(Tile.mk ((rdD p1 x38 z_Tile).N) t75.1 ((rdD p0 x16 z_Tile).S) t86.1)], rowO 32 enc_Tile A29 c30 l31, rowO 30 enc_A2_Int A32 c33 l34, rowO 30 enc_A2_Int A91 c92 t86.2, blk g68 (.cells e15 32 (0, 0))] (hS123.map1 0 _ (fun h => rowO.ofBlk h rfl (Nat.le_of_ble_eq_true (by kernel_rfl))) (fun _ h => by obtain ⟨_, h1, h2⟩ := h; injection h1 with h1; subst h1; exact h2) [1, 2, 3, 4] (by decide) (by decide))
        obtain ⟨h125, hx59⟩ := as_some hx59
        refine WL.append hS124 1 (d := 102) (tS := 22) (z := (.agg #[(iv 0), (iv 0), (iv 0), (iv 0)])) (bytes := 32) (c2 := 1) rfl (fun fb => by kernel_rfl) (rowO.rd (hS124.own 0).1) (by kernel_rfl) (by kernel_rfl) rfl (by decide) h125 (by decide) [0, 2, 3, 4] (by decide) (by decide) (fun A126 c127 w128 hS129 => ?_)
        refine ⟨trivial, ?_⟩
        refine seg 8 [] [0, 1, 9, 10, 11, 102, 103, 106] [e1, e2, e16, e6, e9, (102, (sv A126 (l31 ++ [(Tile.mk ((rdD p1 x38 z_Tile).N) t75.1 ((rdD p0 x16 z_Tile).S) t86.1)]) c127)), (103, (sv A32 l34 c33)), (106, (.agg #[(iv x16), (iv x38)]))] [] (fun fb => by kernel_rfl) rfl trivial ?_
        refine WL.new hS129 107 [] (fun g => (.slice (some ⟨g, 0, none⟩) 1 1)) (.cells #[(iv x16), (iv x38)] 30 (0, 0)) [] (fun fb g => by kernel_rfl) trivial (fun g130 w131 hS132 => ?_)
        refine ⟨trivial, ?_⟩
        let e29 := [(Tile.mk ((rdD p1 x38 z_Tile).N) t75.1 ((rdD p0 x16 z_Tile).S) t86.1)]
        have hS133 := hS124.go w131 [rowO 30 enc_A2_Int (some ⟨g130, 0, none⟩) 1 e22, rowO 32 enc_Tile A126 c127 (l31 ++ e29), rowO 32 enc_Tile (some ⟨g121, 0, none⟩) 1 e29, rowO 30 enc_A2_Int A32 c33 l34, rowO 30 enc_A2_Int A91 c92 t86.2, blk g68 (.cells e15 32 (0, 0))] (hS132.map1 0 _ (fun h => rowO.ofBlk h rfl (Nat.le_of_ble_eq_true (by kernel_rfl))) (fun _ h => by obtain ⟨_, h1, h2⟩ := h; injection h1 with h1; subst h1; exact h2) [1, 2, 3, 4, 5] (by decide) (by decide))
        obtain ⟨h134, hx59⟩ := as_some hx59
        refine WL.append hS133 3 (d := 108) (tS := 26) (z := (.agg #[(iv 0), (iv 0)])) (bytes := 16) (c2 := 1) rfl (fun fb => by kernel_rfl) (rowO.rd (hS133.own 0).1) (by kernel_rfl) (by kernel_rfl) rfl (by decide) h134 (by decide) [0, 1, 2, 4, 5] (by decide) (by decide) (fun A135 c136 w137 hS138 => ?_)
        refine ⟨trivial, ?_⟩
        refine seg 12 [] e17 [e1, e2, (7, (sv A126 (l31 ++ e29) c127)), (8, (sv A135 (l34 ++ e22) c136)), e16, e6, e9] [] (fun fb => by kernel_rfl) rfl trivial ?_
        refine WL.done rfl (WX.next (WC.seq (WC.region ?_)))
        let e26 := l31 ++ e29
        refine seg 4 [] [0, 1, 7, 8, 9, 10, 11, 112] [e1, e2, (7, (sv A126 e26 c127)), (8, (sv A135 (l34 ++ e22) c136)), e16, e6, e9, (112, (bv (decide ((e26.length : Int) > 1000))))] [] (fun fb => by kernel_rfl) rfl trivial ?_
        let e10 := l31 ++ e29
        let e31 : Nat × Value := (8, (sv A135 (l34 ++ e22) c136))
        refine WL.cutV (T := Bool) 8 (fun t => [(116, (bv t)), e1, e2, (7, (sv A126 e10 c127)), e31, e16, e6, e9]) (fun t => ((decide ((e10.length : Int) > 1000)) || (decide ((t86.2.length : Int) > 1000))) = t) (fun K => ?_) ?_
        ·
         rcases Bool.eq_false_or_eq_true (decide ((e10.length : Int) > 1000)) with h139 | h139
         ·
          refine WL.setB 112 h139 rfl ?_
          refine seg 8 [] [0, 1, 7, 8, 9, 10, 11, 116] [e1, e2, (7, (sv A126 e10 c127)), e31, e16, e6, e9, (116, (bv true))] [] (fun fb => by kernel_rfl) rfl trivial ?_
          exact WL.toV K true [116, 0, 1, 7, 8, 9, 10, 11] rfl (by first | (rw [h139]; done) | (rw [h139]; rfl))
         refine WL.setB 112 h139 rfl ?_
         refine seg 8 [] [0, 1, 7, 8, 9, 10, 11, 116] [e1, e2, (7, (sv A126 e10 c127)), e31, e16, e6, e9, (116, (bv (decide ((t86.2.length : Int) > 1000))))] [] (fun fb => by kernel_rfl) rfl trivial ?_
         exact WL.toV K (decide ((t86.2.length : Int) > 1000)) [116, 0, 1, 7, 8, 9, 10, 11] rfl (by first | (rw [h139]; done) | (rw [h139]; rfl))
        rintro b140 rfl
        refine WL.done rfl (WX.next ?_)
        rcases br_some hx59 with ⟨h141, hx59⟩ | ⟨h141, hx59⟩
        ·refine WC.condT2 (fun fb => by kernel_rfl) h141 ?_
         refine WC.seq (WC.region ?_)
         refine seg 3 [] [4, 5, 6] [(4, (.slice none 0 0)), (5, (.slice none 0 0)), (6, (bv false))] [] (fun fb => by kernel_rfl) rfl trivial ?_
         refine WL.done rfl (WX.next ?_)
         refine WC.ret ?_
         have hS142 := hS138.nilrow 32 enc_Tile
         have hS143 := hS142.nilrow 30 enc_A2_Int
         injection hx59 with hx59
         subst hx59
         injection hl50 with hl50
         subst hl50
         injection hl26 with hl26
         subst hl26
         injection hf with hf
         subst hf
         exact WX.blockR (WX.thenR (WX.thenR (WX.blockR (WX.blockR (WX.thenR (WX.thenR (WX.blockR (WX.thenR (WX.ret_ [] (.tuple #[(sv none ([] : List Tile) 0), (sv none ([] : List A2_Int) 0), (bv false)]) [] (fun fb => by kernel_rfl) trivial ⟨_, rfl, none, 0, none, 0, rfl, (hS143.sub [1, 0] (by decide)).noR⟩)))))))))
        refine WC.condF2 (fun fb => by kernel_rfl) h141 ?_
        refine WC.skip ?_
        injection hx59 with hx59
        exact WX.blockN (WX.to Kx58 ((l31 ++ e29, l34 ++ e22, t86.2), A126, c127, A135, c136, A91, c92) e17 rfl ⟨(hS138.subR [0, 1]).sub [2, 0, 4] (by decide), hx59.symm⟩)
       rintro ⟨y147, A52, c53, A54, c55, A56, c57⟩ w144 ⟨hS145, hq146⟩
       subst hq146
       have hl50 := sum_inr hl50
       refine WX.next (WC.region ?_)
       refine seg 3 [] e17 [e1, e2, (7, (sv A52 y147.1 c53)), (8, (sv A54 y147.2.1 c55)), (9, (sv A56 y147.2.2 c57)), e6, (11, (iv (w64 (x38 + 1))))] [] (fun fb => by kernel_rfl) rfl trivial ?_
       refine WL.done rfl ?_
       exact WX.again k47 (Nat.lt_succ_self _) ((y147.1, y147.2.1, y147.2.2, w64 (x38 + 1)), A52, c53, A54, c55, A56, c57) e17 rfl ⟨(hS145.subR [0, 1]).sub [0, 1, 2] (by decide), hl50⟩
      refine WC.condF2 (fun fb => by kernel_rfl) h51 ?_
      refine WC.exit ?_
      injection hl50 with hl50
      exact WX.thenX (WX.thenX (WX.blockHere (WX.to Kx45 ((l31, l34, l37), A29, c30, A32, c33, A35, c36) [0, 1, 7, 8, 9, 10] rfl ⟨(hS49.subR [0, 1]).sub [0, 1, 2] (by decide), hl50.symm⟩)))
    rintro ⟨y151, A39, c40, A41, c42, A43, c44⟩ w148 ⟨hS149, hq150⟩
    subst hq150
    have hl26 := sum_inr hl26
    refine WX.blockN (WX.next ?_)
    refine WC.region ?_
    refine seg 3 [] [0, 1, 7, 8, 9, 10] [e1, e2, (7, (sv A39 y151.1 c40)), (8, (sv A41 y151.2.1 c42)), (9, (sv A43 y151.2.2 c44)), (10, (iv (w64 (x16 + 1))))] [] (fun fb => by kernel_rfl) rfl trivial ?_
    refine WL.done rfl ?_
    exact WX.again k23 (Nat.lt_succ_self _) ((y151.1, y151.2.1, y151.2.2, w64 (x16 + 1)), A39, c40, A41, c42, A43, c44) [0, 1, 7, 8, 9, 10] rfl ⟨(hS149.subR [0, 1]).sub [0, 1, 2] (by decide), hl26⟩
   refine WC.condF2 (fun fb => by kernel_rfl) h28 ?_
   refine WC.exit ?_
   injection hl26 with hl26
   exact WX.thenX (WX.thenX (WX.blockHere (WX.to Kx21 ((l9, l12), A7, c8, A10, c11) [7, 8] rfl ⟨(hS25.subR [0, 1]).sub [0, 1] (by decide), hl26.symm⟩)))
 rintro ⟨y155, A17, c18, A19, c20⟩ w152 ⟨hS153, hq154⟩
 subst hq154
 have hf := sum_inr hf
 refine WX.next (WC.seq (WC.region ?_))
 refine seg 5 [] [4, 5, 6] [(4, (sv A17 y155.1 c18)), (5, (sv A19 y155.2 c20)), (6, (bv true))] [] (fun fb => by kernel_rfl) rfl trivial ?_
 refine WL.done rfl (WX.next ?_)
 refine WC.ret ?_
 injection hf with hf
 subst hf
 exact WX.ret_ [] (.tuple #[(sv A17 y155.1 c18), (sv A19 y155.2 c20), (bv true)]) [] (fun fb => by kernel_rfl) trivial ⟨_, rfl, A17, c18, A19, c20, rfl, (hS153.sub [0, 1] (by decide)).noR⟩
theorem law04_distinct_calls (k : Nat) (p0 : List Tile) (Aa : Option Addr) (ca : Nat) (r : Bool) (w : World) (hR0 : RO NoS w (rowR enc_Tile Aa ca p0)) (hf : law04_distinct k p0 = some r) :
  CallsR Tryz.prog 10 #[(sv Aa p0 ca)] w (fun v w' => v = (bv r) ∧ Keeps NoS w w') := by
 have hS : St NoS w w [rowR enc_Tile Aa ca p0] [] := St.init (ro_cons hR0 (ro_nil _ _))
 refine enter 48 Tryz.func10 rfl Tryz.ntmps10 rfl ?_
 unfold law04_distinct at hf
 refine WC.seq (WC.region ?_)
 refine seg 1 [] [0] [(0, (sv Aa p0 ca))] [] (fun fb => by kernel_rfl) rfl trivial ?_
 refine WL.done rfl (WX.next (WC.seq (WC.region ?_)))
 refine seg 1 [] [0, 3] [(0, (sv Aa p0 ca)), (3, (iv 0))] [] (fun fb => by kernel_rfl) rfl trivial ?_
 refine WL.done rfl (WX.next (WC.seq (WC.seq (WC.region ?_))))
 refine seg 1 [] [0, 3, 4] [(0, (sv Aa p0 ca)), (3, (iv 0)), (4, (iv 0))] [] (fun fb => by kernel_rfl) rfl trivial ?_
 refine WL.done rfl (WX.next ?_)
 obtain ⟨x6, hx7, hf⟩ := bind_some hf
 let e1 : Nat × Value := (0, (sv Aa p0 ca))
 let e3 : List Own := [rowR enc_Tile Aa ca p0]
 let e5 : List Nat := [0, 3, 4, 5]
 refine WC.cutN (T := Int) (fun t => [e1, (3, (iv t))]) (fun t w1 => St NoS w w1 e3 [] ∧ x6 = t) (fun Kx6 => ?_) ?_
 ·
  refine WC.block ?_
  refine WC.loop (T := Int × Int) (fun t => [e1, (3, (iv t.1)), (4, (iv t.2))]) (fun n t w1 => St NoS w w1 e3 [] ∧ law04_distinct.l0 n t.1 t.2 p0 = some x6) k (0, 0) [0, 3, 4] rfl ⟨(hS.subR [0]).sub [] (by decide), hx7⟩ ?_
  rintro k8 ⟨x3, x5⟩ w9 ⟨hS11, hl12⟩
  let e4 : Nat × Value := (4, (iv x5))
  cases k8 with
  | zero => rw [law04_distinct.l0] at hl12; cases hl12
  | succ k8 =>
   rw [law04_distinct.l0] at hl12
   refine WC.seq (WC.seq (WC.region ?_))
   refine seg 4 [] [0, 3, 4, 12] [e1, (3, (iv x3)), e4, (12, (bv (decide (x5 < (p0.length : Int)))))] [] (fun fb => by kernel_rfl) rfl trivial ?_
   refine WL.done rfl (WX.next ?_)
   rcases br_some hl12 with ⟨h13, hl12⟩ | ⟨h13, hl12⟩
   ·refine WC.condT2 (fun fb => by kernel_rfl) h13 ?_
    refine WC.skip (WX.next (WC.seq (WC.block (WC.seq (WC.region ?_)))))
    refine seg 1 [] e5 [e1, (3, (iv x3)), e4, (5, (iv 0))] [] (fun fb => by kernel_rfl) rfl trivial ?_
    refine WL.done rfl (WX.next ?_)
    obtain ⟨x16, hx17, hl12⟩ := bind_some hl12
    refine WC.cutN (T := Int) (fun t => [e1, (3, (iv t)), e4]) (fun t w1 => St NoS w w1 e3 [] ∧ x16 = t) (fun Kx16 => ?_) ?_
    ·
     refine WC.block ?_
     refine WC.loop (T := Int × Int) (fun t => [e1, (3, (iv t.1)), e4, (5, (iv t.2))]) (fun n t w1 => St NoS w w1 e3 [] ∧ law04_distinct.l1 n t.1 t.2 p0 x5 = some x16) k8 (x3, 0) e5 rfl ⟨(hS11.subR [0]).sub [] (by decide), hx17⟩ ?_
     rintro k18 ⟨x14, x15⟩ w19 ⟨hS20, hl21⟩
     let e2 : List (Nat × Addr × Value) := [(4, ((adr Aa).add ((x5).toNat * 4)), (iv ((rdD p0 x5 z_Tile).N))), (9, (((adr Aa).add ((x15).toNat * 4)).add 2), (iv ((rdD p0 x15 z_Tile).S)))]
     cases k18 with
     | zero => rw [law04_distinct.l1] at hl21; cases hl21
     | succ k18 =>
      rw [law04_distinct.l1] at hl21
      refine WC.seq (WC.seq (WC.region ?_))
      refine seg 4 [] [0, 3, 4, 5, 18] [e1, (3, (iv x14)), e4, (5, (iv x15)), (18, (bv (decide (x15 < (p0.length : Int)))))] [] (fun fb => by kernel_rfl) rfl trivial ?_
      refine WL.done rfl (WX.next ?_)
      rcases br_some hl21 with ⟨h22, hl21⟩ | ⟨h22, hl21⟩
      ·refine WC.condT2 (fun fb => by kernel_rfl) h22 ?_
       refine WC.skip (WX.next (WC.seq (WC.block (WC.seq ?_))))
       obtain ⟨h25, hl21⟩ := as_some hl21
       obtain ⟨h26, hl21⟩ := as_some hl21
       refine WC.regionD (e2, [0, 1, 2, 3, 4, 5, 6, 7, 8, 9, 10], [[], [], [0, 1], [0, 1, 2], [0, 1, 2, 3], [], [], [5, 6], [5, 6, 7], [5, 6, 7, 8], [0, 1, 2, 3, 4, 5, 6, 7, 8, 9]]) [[0, 1, 2, 3, 4, 5, 6, 7, 8, 9, 10]] (by kernel_rfl) (by kernel_rfl) (NoPanic.seq (NoPanic.block (NoPanic.seq (NoPanic.seq (NoPanic.block (NoPanic.block (NoPanic.seq (NoPanic.seq (NoPanic.block (NoPanic.seq (NoPanic.body))))))))))) ?_
       have hS24 := hS20.drew
       revert hS24
       generalize World.drew w19 = w23
       intro hS24
       refine ⟨⟨rowR.cell (hS24.rd 0).1 z_Tile h25.1 h25.2 0 rfl, rowR.cell (hS24.rd 0).1 z_Tile h26.1 h26.2 2 rfl, trivial⟩, forallC ?_ (forallN)⟩
       refine segF 11 [.v (iv ((rdD p0 x5 z_Tile).N)), .v (iv ((rdD p0 x15 z_Tile).S))] [0, 3, 4, 5, 31] [e1, (3, (iv x14)), e4, (5, (iv x15)), (31, (bv (((rdD p0 x5 z_Tile).N) == ((rdD p0 x15 z_Tile).S))))] [.idx Aa x5 p0.length, .idx Aa x15 p0.length] [0, 1] e2 (fun fb => by kernel_rfl) rfl ⟨rowR.adr (hS24.rd 0).1 h25.1 h25.2, rowR.adr (hS24.rd 0).1 h26.1 h26.2, trivial⟩ rfl ?_
       refine WL.done rfl (WX.next ?_)
       obtain ⟨x27, hx28, hl21⟩ := bind_some hl21
       refine WC.cutN (T := Int) (fun t => [e1, (3, (iv t)), e4, (5, (iv x15))]) (fun t w1 => St NoS w w1 e3 [] ∧ x27 = t) (fun Kx27 => ?_) ?_
       ·
        rcases br_some hx28 with ⟨h29, hx28⟩ | ⟨h29, hx28⟩
        ·refine WC.condT2 (fun fb => by kernel_rfl) h29 ?_
         refine WC.region ?_
         refine seg 3 [] e5 [e1, (3, (iv (w64 (x14 + 1)))), e4, (5, (iv x15))] [] (fun fb => by kernel_rfl) rfl trivial ?_
         refine WL.done rfl ?_
         injection hx28 with hx28
         exact WX.to Kx27 (w64 (x14 + 1)) e5 rfl ⟨(hS24.subR [0]).sub [] (by decide), hx28.symm⟩
        refine WC.condF2 (fun fb => by kernel_rfl) h29 ?_
        refine WC.skip ?_
        injection hx28 with hx28
        exact WX.to Kx27 x14 e5 rfl ⟨(hS24.subR [0]).sub [] (by decide), hx28.symm⟩
       rintro y33 w30 ⟨hS31, hq32⟩
       subst hq32
       refine WX.blockN (WX.next ?_)
       refine WC.region ?_
       refine seg 3 [] e5 [e1, (3, (iv x27)), e4, (5, (iv (w64 (x15 + 1))))] [] (fun fb => by kernel_rfl) rfl trivial ?_
       refine WL.done rfl ?_
       exact WX.again k18 (Nat.lt_succ_self _) (x27, w64 (x15 + 1)) e5 rfl ⟨(hS31.subR [0]).sub [] (by decide), hl21⟩
      refine WC.condF2 (fun fb => by kernel_rfl) h22 ?_
      refine WC.exit ?_
      injection hl21 with hl21
      exact WX.thenX (WX.thenX (WX.blockHere (WX.to Kx16 x14 [0, 3, 4] rfl ⟨(hS20.subR [0]).sub [] (by decide), hl21.symm⟩)))
    rintro y37 w34 ⟨hS35, hq36⟩
    subst hq36
    refine WX.blockN (WX.next ?_)
    refine WC.region ?_
    refine seg 3 [] [0, 3, 4] [e1, (3, (iv x16)), (4, (iv (w64 (x5 + 1))))] [] (fun fb => by kernel_rfl) rfl trivial ?_
    refine WL.done rfl ?_
    exact WX.again k8 (Nat.lt_succ_self _) (x16, w64 (x5 + 1)) [0, 3, 4] rfl ⟨(hS35.subR [0]).sub [] (by decide), hl12⟩
   refine WC.condF2 (fun fb => by kernel_rfl) h13 ?_
   refine WC.exit ?_
   injection hl12 with hl12
   exact WX.thenX (WX.thenX (WX.blockHere (WX.to Kx6 x3 [0, 3] rfl ⟨(hS11.subR [0]).sub [] (by decide), hl12.symm⟩)))
 rintro y41 w38 ⟨hS39, hq40⟩
 subst hq40
 refine WX.next (WC.seq (WC.region ?_))
 refine seg 2 [] [3, 35, 36] [(3, (iv x6)), (35, (sv Aa p0 ca)), (36, (sv Aa p0 ca))] [] (fun fb => by kernel_rfl) rfl trivial ?_
 obtain ⟨t42, ht43, hf⟩ := bind_some hf
 refine WL.call (some 37) 27 #[(sv Aa p0 ca), (sv Aa p0 ca)] (fun fb => by kernel_rfl) (ref04_On_calls _ p0 p0 Aa ca Aa ca t42 _ (hS39.rd 0) (hS39.rd 0) ht43) (fun v w44 hR45 => ?_)
 obtain ⟨A47, c48, A49, c50, rfl, hk_⟩ := hR45
 have hS46 := hS.go w44 [rowO 32 enc_Tile A47 c48 t42.1, rowO 30 enc_A2_Int A49 c50 t42.2.1] (hS39.call hk_ [] [] (fun g hg => hg.elim) (by simp) (by decide))
 refine ⟨trivial, ?_⟩
 refine seg 10 [] [3, 6, 8] [(3, (iv x6)), (6, (sv A47 t42.1 c48)), (8, (bv t42.2.2))] [] (fun fb => by kernel_rfl) rfl trivial ?_
 refine WL.done rfl (WX.next (WC.seq (WC.region ?_)))
 refine seg 2 [] [3, 6, 42] [(3, (iv x6)), (6, (sv A47 t42.1 c48)), (42, (bv t42.2.2))] [] (fun fb => by kernel_rfl) rfl trivial ?_
 refine WL.cutV (T := Bool) 7 (fun t => [(47, (bv t))]) (fun t => (t42.2.2 && ((t42.1.length : Int) == x6)) = t) (fun K => ?_) ?_
 ·
  rcases Bool.eq_false_or_eq_true t42.2.2 with h51 | h51
  ·
   refine WL.setB 42 h51 rfl ?_
   refine seg 7 [] [47] [(47, (bv ((t42.1.length : Int) == x6)))] [] (fun fb => by kernel_rfl) rfl trivial ?_
   exact WL.toV K ((t42.1.length : Int) == x6) [47] rfl (by first | (rw [h51]; done) | (rw [h51]; rfl))
  refine WL.setB 42 h51 rfl ?_
  refine seg 7 [] [47] [(47, (bv false))] [] (fun fb => by kernel_rfl) rfl trivial ?_
  exact WL.toV K false [47] rfl (by first | (rw [h51]; done) | (rw [h51]; rfl))
 rintro b52 rfl
 refine seg 8 [] [2] [(2, (bv (t42.2.2 && ((t42.1.length : Int) == x6))))] [] (fun fb => by kernel_rfl) rfl trivial ?_
 refine WL.done rfl (WX.next ?_)
 refine WC.ret ?_
 injection hf with hf
 subst hf
 exact WX.ret_ [] (bv (t42.2.2 && ((t42.1.length : Int) == x6))) [] (fun fb => by kernel_rfl) trivial ⟨_, rfl, rfl, hS46.keep⟩
theorem ref01_Blank_calls (p0 : Int) (p1 : Int)  (r : Pattern) (w : World)  (hf : ref01_Blank p0 p1 = some r) :
  CallsR Tryz.prog 28 #[(iv p0), (iv p1)] w (fun v w' => ∃ (A1_ : Option Addr), ∃ (c1_ : Nat), v = (.agg #[(iv r.Width), (iv r.Height), (sv A1_ r.Cells c1_)]) ∧ St NoS w w' [] [rowO 3 encInt A1_ c1_ r.Cells]) := by
 have hS : St NoS w w [] [] := St.init (ro_nil _ _)
 refine enter 12 Tryz.func28 rfl Tryz.ntmps28 rfl ?_
 unfold ref01_Blank at hf
 refine WC.seq (WC.region ?_)
 refine WL.new hS 4 [] (fun g => (pt g)) (.cells #[(iv 0), (iv 0), (.slice none 0 0)] 71 (0, 0)) [] (fun fb g => by kernel_rfl) trivial (fun g2 w3 hS4 => ?_)
 refine ⟨trivial, ?_⟩
 refine WL.done rfl (WX.next (WC.seq (WC.region ?_)))
 refine seg 5 [] [4, 5, 6, 9] [(4, (pt g2)), (5, (iv p0)), (6, (iv p1)), (9, (iv (w64 (p0 * p1))))] [] (fun fb => by kernel_rfl) rfl trivial ?_
 obtain ⟨h5, hf⟩ := as_some hf
 refine WL.make hS4 (e := encInt) (T := 3) (tS := 35) (z := (iv 0)) (bytes := 8) (d := 10) (0 : Int) (w64 (p0 * p1)) (fun fb => by kernel_rfl) (by kernel_rfl) (by kernel_rfl) rfl (by decide) h5 (by decide) (fun g6 w7 hS8 => ?_)
 refine ⟨trivial, ?_⟩
 refine seg 7 [] [4, 11] [(4, (pt g2)), (11, (.agg #[(iv p0), (iv p1), (sv (some ⟨g6, 0, none⟩) (List.replicate (w64 (p0 * p1)).toNat (0 : Int)) ((w64 (p0 * p1)).toNat))]))] [] (fun fb => by kernel_rfl) rfl trivial ?_
 let e2 := (sv (some ⟨g6, 0, none⟩) (List.replicate (w64 (p0 * p1)).toNat (0 : Int)) ((w64 (p0 * p1)).toNat))
 refine WL.store hS8 1 rfl [(0, (iv p0)), (1, (iv p1)), (2, e2)] #[(iv p0), (iv p1), e2] (fun fb => by kernel_rfl) (by kernel_rfl) rfl [0] (by decide) (by decide) (fun w9 hS10 => ?_)
 refine ⟨trivial, ?_⟩
 refine WL.done rfl (WX.next ?_)
 refine WC.ret ?_
 injection hf with hf
 subst hf
 let e1 := e2
 exact WX.ret_ [.v (iv p0), .v (iv p1), .v e1] (.agg #[(iv p0), (iv p1), e1]) [.cell ⟨g2, 0, none⟩ (iv p0), .cell ⟨g2, 1, none⟩ (iv p1), .cell ⟨g2, 2, none⟩ e1] (fun fb => by kernel_rfl) ⟨hS10.cell 0 rfl 0 rfl, hS10.cell 0 rfl 1 rfl, hS10.cell 0 rfl 2 rfl, trivial⟩ ⟨_, rfl, (some ⟨g6, 0, none⟩), (w64 (p0 * p1)).toNat, rfl, (hS10.sub [1] (by decide)).noR⟩
theorem tile_Form_calls (p0 : Pattern) (Aa : Option Addr) (ca : Nat) (r : Bool) (w : World) (hR0 : RO NoS w (rowR encInt Aa ca p0.Cells)) (hf : tile_Form p0 = some r) :
  CallsR Tryz.prog 62 #[(.agg #[(iv p0.Width), (iv p0.Height), (sv Aa p0.Cells ca)])] w (fun v w' => v = (bv r) ∧ Keeps NoS w w') := by
 have hS : St NoS w w [rowR encInt Aa ca p0.Cells] [] := St.init (ro_cons hR0 (ro_nil _ _))
 refine enter 40 Tryz.func62 rfl Tryz.ntmps62 rfl ?_
 unfold tile_Form at hf
 refine WC.seq (WC.region ?_)
 refine WL.new hS 1 [] (fun g => (pt g)) (.cells #[(iv p0.Width), (iv p0.Height), (sv Aa p0.Cells ca)] 71 (0, 0)) [] (fun fb g => by kernel_rfl) trivial (fun g1 w2 hS3 => ?_)
 refine ⟨trivial, ?_⟩
 refine seg 2 [] [1] [(1, (pt g1))] [] (fun fb => by kernel_rfl) rfl trivial ?_
 refine WL.done rfl (WX.next (WC.seq (WC.region ?_)))
 refine seg 4 [.v (iv p0.Width)] [1, 6] [(1, (pt g1)), (6, (bv (decide (p0.Width ≥ 1))))] [.cell ⟨g1, 0, none⟩ (iv p0.Width)] (fun fb => by kernel_rfl) rfl ⟨hS3.cell 0 rfl 0 rfl, trivial⟩ ?_
 refine WL.cutV (T := Bool) 8 (fun t => [(10, (bv t)), (1, (pt g1))]) (fun t => ((decide (p0.Width ≥ 1)) && (decide (p0.Height ≥ 1))) = t) (fun K => ?_) ?_
 ·
  rcases Bool.eq_false_or_eq_true (decide (p0.Width ≥ 1)) with h4 | h4
  ·
   refine WL.setB 6 h4 rfl ?_
   refine seg 8 [.v (iv p0.Height)] [1, 10] [(1, (pt g1)), (10, (bv (decide (p0.Height ≥ 1))))] [.cell ⟨g1, 1, none⟩ (iv p0.Height)] (fun fb => by kernel_rfl) rfl ⟨hS3.cell 0 rfl 1 rfl, trivial⟩ ?_
   exact WL.toV K (decide (p0.Height ≥ 1)) [10, 1] rfl (by first | (rw [h4]; done) | (rw [h4]; rfl))
  refine WL.setB 6 h4 rfl ?_
  refine seg 8 [] [1, 10] [(1, (pt g1)), (10, (bv false))] [] (fun fb => by kernel_rfl) rfl trivial ?_
  exact WL.toV K false [10, 1] rfl (by first | (rw [h4]; done) | (rw [h4]; rfl))
 rintro b5 rfl
 refine seg 9 [] [1, 11] [(1, (pt g1)), (11, (bv ((decide (p0.Width ≥ 1)) && (decide (p0.Height ≥ 1)))))] [] (fun fb => by kernel_rfl) rfl trivial ?_
 let e4 := (decide (p0.Width ≥ 1)) && (decide (p0.Height ≥ 1))
 refine WL.cutV (T := Bool) 13 (fun t => [(15, (bv t)), (1, (pt g1))]) (fun t => (e4 && (decide (p0.Width ≤ 40000))) = t) (fun K => ?_) ?_
 ·
  rcases Bool.eq_false_or_eq_true e4 with h6 | h6
  ·
   refine WL.setB 11 h6 rfl ?_
   refine seg 13 [.v (iv p0.Width)] [1, 15] [(1, (pt g1)), (15, (bv (decide (p0.Width ≤ 40000))))] [.cell ⟨g1, 0, none⟩ (iv p0.Width)] (fun fb => by kernel_rfl) rfl ⟨hS3.cell 0 rfl 0 rfl, trivial⟩ ?_
   exact WL.toV K (decide (p0.Width ≤ 40000)) [15, 1] rfl (by first | (rw [h6]; done) | (rw [h6]; rfl))
  refine WL.setB 11 h6 rfl ?_
  refine seg 13 [] [1, 15] [(1, (pt g1)), (15, (bv false))] [] (fun fb => by kernel_rfl) rfl trivial ?_
  exact WL.toV K false [15, 1] rfl (by first | (rw [h6]; done) | (rw [h6]; rfl))
 rintro b7 rfl
 refine seg 14 [] [1, 16] [(1, (pt g1)), (16, (bv (e4 && (decide (p0.Width ≤ 40000)))))] [] (fun fb => by kernel_rfl) rfl trivial ?_
 let e3 := e4 && (decide (p0.Width ≤ 40000))
 refine WL.cutV (T := Bool) 18 (fun t => [(20, (bv t)), (1, (pt g1))]) (fun t => (e3 && (decide (p0.Height ≤ 40000))) = t) (fun K => ?_) ?_
 ·
  rcases Bool.eq_false_or_eq_true e3 with h8 | h8
  ·
   refine WL.setB 16 h8 rfl ?_
   refine seg 18 [.v (iv p0.Height)] [1, 20] [(1, (pt g1)), (20, (bv (decide (p0.Height ≤ 40000))))] [.cell ⟨g1, 1, none⟩ (iv p0.Height)] (fun fb => by kernel_rfl) rfl ⟨hS3.cell 0 rfl 1 rfl, trivial⟩ ?_
   exact WL.toV K (decide (p0.Height ≤ 40000)) [20, 1] rfl (by first | (rw [h8]; done) | (rw [h8]; rfl))
  refine WL.setB 16 h8 rfl ?_
  refine seg 18 [] [1, 20] [(1, (pt g1)), (20, (bv false))] [] (fun fb => by kernel_rfl) rfl trivial ?_
  exact WL.toV K false [20, 1] rfl (by first | (rw [h8]; done) | (rw [h8]; rfl))
 rintro b9 rfl
 refine seg 19 [] [1, 21] [(1, (pt g1)), (21, (bv (e3 && (decide (p0.Height ≤ 40000)))))] [] (fun fb => by kernel_rfl) rfl trivial ?_
 let e2 := e3 && (decide (p0.Height ≤ 40000))
 refine WL.cutV (T := Bool) 26 (fun t => [(28, (bv t)), (1, (pt g1))]) (fun t => (e2 && (decide (w64 (p0.Width * p0.Height) ≤ 40000))) = t) (fun K => ?_) ?_
 ·
  rcases Bool.eq_false_or_eq_true e2 with h10 | h10
  ·
   refine WL.setB 21 h10 rfl ?_
   refine seg 26 [.v (iv p0.Width), .v (iv p0.Height)] [1, 28] [(1, (pt g1)), (28, (bv (decide (w64 (p0.Width * p0.Height) ≤ 40000))))] [.cell ⟨g1, 0, none⟩ (iv p0.Width), .cell ⟨g1, 1, none⟩ (iv p0.Height)] (fun fb => by kernel_rfl) rfl ⟨hS3.cell 0 rfl 0 rfl, hS3.cell 0 rfl 1 rfl, trivial⟩ ?_
   exact WL.toV K (decide (w64 (p0.Width * p0.Height) ≤ 40000)) [28, 1] rfl (by first | (rw [h10]; done) | (rw [h10]; rfl))
  refine WL.setB 21 h10 rfl ?_
  refine seg 26 [] [1, 28] [(1, (pt g1)), (28, (bv false))] [] (fun fb => by kernel_rfl) rfl trivial ?_
  exact WL.toV K false [28, 1] rfl (by first | (rw [h10]; done) | (rw [h10]; rfl))
 rintro b11 rfl
 refine seg 27 [] [1, 29] [(1, (pt g1)), (29, (bv (e2 && (decide (w64 (p0.Width * p0.Height) ≤ 40000)))))] [] (fun fb => by kernel_rfl) rfl trivial ?_
 let e1 := e2 && (decide (w64 (p0.Width * p0.Height) ≤ 40000))
 let e5 := ((p0.Cells.length : Int) == (w64 (p0.Width * p0.Height)))
 refine WL.cutV (T := Bool) 37 (fun t => [(39, (bv t))]) (fun t => (e1 && e5) = t) (fun K => ?_) ?_
 ·
  rcases Bool.eq_false_or_eq_true e1 with h12 | h12
  ·
   refine WL.setB 29 h12 rfl ?_
   refine seg 37 [.v (sv Aa p0.Cells ca), .v (iv p0.Width), .v (iv p0.Height)] [39] [(39, (bv e5))] [.cell ⟨g1, 2, none⟩ (sv Aa p0.Cells ca), .cell ⟨g1, 0, none⟩ (iv p0.Width), .cell ⟨g1, 1, none⟩ (iv p0.Height)] (fun fb => by kernel_rfl) rfl ⟨hS3.cell 0 rfl 2 rfl, hS3.cell 0 rfl 0 rfl, hS3.cell 0 rfl 1 rfl, trivial⟩ ?_
   exact WL.toV K ((p0.Cells.length : Int) == (w64 (p0.Width * p0.Height))) [39] rfl (by first | (rw [h12]; done) | (rw [h12]; rfl))
  refine WL.setB 29 h12 rfl ?_
  refine seg 37 [] [39] [(39, (bv false))] [] (fun fb => by kernel_rfl) rfl trivial ?_
  exact WL.toV K false [39] rfl (by first | (rw [h12]; done) | (rw [h12]; rfl))
 rintro b13 rfl
 refine seg 38 [] [2] [(2, (bv (e1 && e5)))] [] (fun fb => by kernel_rfl) rfl trivial ?_
 refine WL.done rfl (WX.next ?_)
 refine WC.ret ?_
 injection hf with hf
 subst hf
 exact WX.ret_ [] (bv (e1 && e5)) [] (fun fb => by kernel_rfl) trivial ⟨_, rfl, rfl, hS3.keep⟩
theorem tile_of_1_calls (p0 : Int) (f0 : List Tile) (ga : Nat) (Aa : Option Addr) (ca : Nat) (r : Bool) (w : World) (hR0 : RO NoS w (blk ga (.cells #[(sv Aa f0 ca)] 22 (0, 0)))) (hR1 : RO NoS w (rowR enc_Tile Aa ca f0)) (hf : tile_of_1 p0 f0 = some r) :
  CallsR Tryz.prog 63 #[(iv p0), (pt ga)] w (fun v w' => v = (bv r) ∧ Keeps NoS w w') := by
 have hS : St NoS w w [blk ga (.cells #[(sv Aa f0 ca)] 22 (0, 0)), rowR enc_Tile Aa ca f0] [] := St.init (ro_cons hR0 (ro_cons hR1 (ro_nil _ _)))
 refine enter 12 Tryz.func63 rfl Tryz.ntmps63 rfl ?_
 unfold tile_of_1 at hf
 refine WC.seq (WC.region ?_)
 refine seg 1 [] [0, 1] [(0, (iv p0)), (1, (pt ga))] [] (fun fb => by kernel_rfl) rfl trivial ?_
 refine WL.done rfl (WX.next (WC.seq (WC.region ?_)))
 refine seg 3 [] [0, 1, 6] [(0, (iv p0)), (1, (pt ga)), (6, (bv (decide (p0 < 0))))] [] (fun fb => by kernel_rfl) rfl trivial ?_
 refine WL.cutV (T := Bool) 8 (fun t => [(11, (bv t))]) (fun t => ((decide (p0 < 0)) || (decide (p0 ≥ (f0.length : Int)))) = t) (fun K => ?_) ?_
 ·
  rcases Bool.eq_false_or_eq_true (decide (p0 < 0)) with h2 | h2
  ·
   refine WL.setB 6 h2 rfl ?_
   refine seg 8 [] [11] [(11, (bv true))] [] (fun fb => by kernel_rfl) rfl trivial ?_
   exact WL.toV K true [11] rfl (by first | (rw [h2]; done) | (rw [h2]; rfl))
  refine WL.setB 6 h2 rfl ?_
  refine seg 8 [.v (sv Aa f0 ca)] [11] [(11, (bv (decide (p0 ≥ (f0.length : Int)))))] [.cell ⟨ga, 0, none⟩ (sv Aa f0 ca)] (fun fb => by kernel_rfl) rfl ⟨blk_cell (hS.rd 0).1 0 rfl, trivial⟩ ?_
  exact WL.toV K (decide (p0 ≥ (f0.length : Int))) [11] rfl (by first | (rw [h2]; done) | (rw [h2]; rfl))
 rintro b3 rfl
 refine seg 9 [] [3] [(3, (bv ((decide (p0 < 0)) || (decide (p0 ≥ (f0.length : Int))))))] [] (fun fb => by kernel_rfl) rfl trivial ?_
 refine WL.done rfl (WX.next ?_)
 refine WC.ret ?_
 injection hf with hf
 subst hf
 exact WX.ret_ [] (bv ((decide (p0 < 0)) || (decide (p0 ≥ (f0.length : Int))))) [] (fun fb => by kernel_rfl) trivial ⟨_, rfl, rfl, hS.keep⟩
theorem slices_IndexFunc_int_int_with_tile_of_1_calls (k : Nat) (p0 : List Int) (p1_0 : List Tile) (Aa : Option Addr) (ca : Nat) (ga : Nat) (Ab : Option Addr) (cb : Nat) (r : Int) (w : World) (hR0 : RO NoS w (rowR encInt Aa ca p0)) (hR1 : RO NoS w (blk ga (.cells #[(sv Ab p1_0 cb)] 22 (0, 0)))) (hR2 : RO NoS w (rowR enc_Tile Ab cb p1_0)) (hf : slices_IndexFunc_int_int_with_tile_of_1 k p0 p1_0 = some r) :
  CallsR Tryz.prog 76 #[(sv Aa p0 ca), (.func (.func 63) #[] #[(pt ga)])] w (fun v w' => v = (iv r) ∧ Keeps NoS w w') := by
 have hS : St NoS w w [rowR encInt Aa ca p0, blk ga (.cells #[(sv Ab p1_0 cb)] 22 (0, 0)), rowR enc_Tile Ab cb p1_0] [] := St.init (ro_cons hR0 (ro_cons hR1 (ro_cons hR2 (ro_nil _ _))))
 refine enter 19 Tryz.func76 rfl Tryz.ntmps76 rfl ?_
 unfold slices_IndexFunc_int_int_with_tile_of_1 at hf
 refine WC.seq (WC.region ?_)
 refine seg 1 [] [0, 1] [(0, (sv Aa p0 ca)), (1, (.func (.func 63) #[] #[(pt ga)]))] [] (fun fb => by kernel_rfl) rfl trivial ?_
 refine WL.done rfl (WX.next (WC.seq (WC.seq (WC.region ?_))))
 refine seg 3 [] [0, 1, 7, 8] [(0, (sv Aa p0 ca)), (1, (.func (.func 63) #[] #[(pt ga)])), (7, (iv (p0.length : Int))), (8, (iv 0))] [] (fun fb => by kernel_rfl) rfl trivial ?_
 refine WL.done rfl (WX.next ?_)
 obtain ⟨x4, hx5, hf⟩ := bind_some hf
 let e1 : Nat × Value := (7, (iv (p0.length : Int)))
 let e2 : Nat × Value := (0, (sv Aa p0 ca))
 refine WC.cutN (T := Unit) (fun t => []) (fun t w1 => St NoS w w1 [rowR encInt Aa ca p0, blk ga (.cells #[(sv Ab p1_0 cb)] 22 (0, 0)), rowR enc_Tile Ab cb p1_0] [] ∧ x4 = .inr t) (fun Kx4 => ?_) ?_
 ·
  refine WC.block ?_
  refine WC.loop (T := Int) (fun t => [e2, (1, (.func (.func 63) #[] #[(pt ga)])), e1, (8, (iv t))]) (fun n t w1 => St NoS w w1 [rowR encInt Aa ca p0, blk ga (.cells #[(sv Ab p1_0 cb)] 22 (0, 0)), rowR enc_Tile Ab cb p1_0] [] ∧ slices_IndexFunc_int_int_with_tile_of_1.l0 n t p0 p1_0 = some x4) k 0 [0, 1, 7, 8] rfl ⟨(hS.subR [0, 1, 2]).sub [] (by decide), hx5⟩ ?_
  rintro k6 x3 w7 ⟨hS8, hl9⟩
  cases k6 with
  | zero => rw [slices_IndexFunc_int_int_with_tile_of_1.l0] at hl9; cases hl9
  | succ k6 =>
   rw [slices_IndexFunc_int_int_with_tile_of_1.l0] at hl9
   refine WC.seq (WC.region ?_)
   refine seg 1 [] [0, 1, 7, 8, 9] [e2, (1, (.func (.func 63) #[] #[(pt ga)])), e1, (8, (iv x3)), (9, (bv (decide (x3 < (p0.length : Int)))))] [] (fun fb => by kernel_rfl) rfl trivial ?_
   refine WL.done rfl (WX.next (WC.seq ?_))
   rcases br_some hl9 with ⟨h10, hl9⟩ | ⟨h10, hl9⟩
   ·refine WC.condT2 (fun fb => by kernel_rfl) h10 ?_
    refine WC.skip (WX.next (WC.seq (WC.block (WC.seq (WC.region ?_)))))
    refine seg 2 [] [0, 1, 5, 7, 8] [e2, (1, (.func (.func 63) #[] #[(pt ga)])), (5, (iv x3)), e1, (8, (iv x3))] [] (fun fb => by kernel_rfl) rfl trivial ?_
    refine WL.done rfl (WX.next (WC.seq (WC.region ?_)))
    refine seg 3 [] [0, 1, 5, 7, 8, 11, 12, 13] [e2, (1, (.func (.func 63) #[] #[(pt ga)])), (5, (iv x3)), e1, (8, (iv x3)), (11, (.func (.func 63) #[] #[(pt ga)])), (12, (sv Aa p0 ca)), (13, (iv x3))] [] (fun fb => by kernel_rfl) rfl trivial ?_
    obtain ⟨h11, hl9⟩ := as_some hl9
    refine seg 5 [.v (iv (rdD p0 x3 0))] [0, 1, 5, 7, 8, 11, 15] [e2, (1, (.func (.func 63) #[] #[(pt ga)])), (5, (iv x3)), e1, (8, (iv x3)), (11, (.func (.func 63) #[] #[(pt ga)])), (15, (iv (rdD p0 x3 0)))] [.idx Aa x3 p0.length, .cell ((adr Aa).add ((x3).toNat * 1)) (iv (rdD p0 x3 0))] (fun fb => by kernel_rfl) rfl ⟨rowR.adr (hS8.rd 0).1 h11.1 h11.2, rowR.cell (hS8.rd 0).1 0 h11.1 h11.2 0 rfl, trivial⟩ ?_
    obtain ⟨t12, ht13, hl9⟩ := bind_some hl9
    refine WL.call (some 16) 63 #[(iv (rdD p0 x3 0)), (pt ga)] (fun fb => by kernel_rfl) (tile_of_1_calls (rdD p0 x3 0) p1_0 ga Ab cb t12 _ (hS8.rd 1) (hS8.rd 2) ht13) (fun v w14 hR15 => ?_)
    obtain ⟨rfl, hk_⟩ := hR15
    have hS16 := hS8.keepN hk_
    refine ⟨trivial, ?_⟩
    refine WL.done rfl (WX.next ?_)
    rcases br_some hl9 with ⟨h17, hl9⟩ | ⟨h17, hl9⟩
    ·refine WC.condT2 (fun fb => by kernel_rfl) h17 ?_
     refine WC.seq (WC.region ?_)
     refine seg 2 [] [4] [(4, (iv x3))] [] (fun fb => by kernel_rfl) rfl trivial ?_
     refine WL.done rfl (WX.next ?_)
     refine WC.ret ?_
     injection hl9 with hl9
     subst hl9
     injection hf with hf
     subst hf
     exact WX.blockR (WX.thenR (WX.thenR (WX.blockR (WX.thenR (WX.ret_ [] (iv x3) [] (fun fb => by kernel_rfl) trivial ⟨_, rfl, rfl, hS16.keep⟩)))))
    refine WC.condF2 (fun fb => by kernel_rfl) h17 ?_
    refine WC.skip ?_
    refine WX.blockN (WX.next ?_)
    refine WC.region ?_
    refine seg 2 [] [0, 1, 7, 8] [e2, (1, (.func (.func 63) #[] #[(pt ga)])), e1, (8, (iv (w64 (x3 + 1))))] [] (fun fb => by kernel_rfl) rfl trivial ?_
    refine WL.done rfl ?_
    exact WX.again k6 (Nat.lt_succ_self _) (w64 (x3 + 1)) [0, 1, 7, 8] rfl ⟨(hS16.subR [0, 1, 2]).sub [] (by decide), hl9⟩
   refine WC.condF2 (fun fb => by kernel_rfl) h10 ?_
   refine WC.exit ?_
   injection hl9 with hl9
   exact WX.thenX (WX.thenX (WX.blockHere (WX.to Kx4 () [] rfl ⟨(hS8.subR [0, 1, 2]).sub [] (by decide), hl9.symm⟩)))
 rintro y21 w18 ⟨hS19, hq20⟩
 subst hq20
 have hf := sum_inr hf
 refine WX.next (WC.seq (WC.region ?_))
 refine seg 1 [] [4] [(4, (iv (-1)))] [] (fun fb => by kernel_rfl) rfl trivial ?_
 refine WL.done rfl (WX.next ?_)
 refine WC.ret ?_
 injection hf with hf
 subst hf
 exact WX.ret_ [] (iv (-1)) [] (fun fb => by kernel_rfl) trivial ⟨_, rfl, rfl, hS19.keep⟩
theorem slices_ContainsFunc_int_int_with_tile_of_1_calls (k : Nat) (p0 : List Int) (p1_0 : List Tile) (Aa : Option Addr) (ca : Nat) (ga : Nat) (Ab : Option Addr) (cb : Nat) (r : Bool) (w : World) (hR0 : RO NoS w (rowR encInt Aa ca p0)) (hR1 : RO NoS w (blk ga (.cells #[(sv Ab p1_0 cb)] 22 (0, 0)))) (hR2 : RO NoS w (rowR enc_Tile Ab cb p1_0)) (hf : slices_ContainsFunc_int_int_with_tile_of_1 k p0 p1_0 = some r) :
  CallsR Tryz.prog 58 #[(sv Aa p0 ca), (.func (.func 63) #[] #[(pt ga)])] w (fun v w' => v = (bv r) ∧ Keeps NoS w w') := by
 have hS : St NoS w w [rowR encInt Aa ca p0, blk ga (.cells #[(sv Ab p1_0 cb)] 22 (0, 0)), rowR enc_Tile Ab cb p1_0] [] := St.init (ro_cons hR0 (ro_cons hR1 (ro_cons hR2 (ro_nil _ _))))
 refine enter 9 Tryz.func58 rfl Tryz.ntmps58 rfl ?_
 unfold slices_ContainsFunc_int_int_with_tile_of_1 at hf
 refine WC.seq (WC.region ?_)
 refine seg 1 [] [0, 1] [(0, (sv Aa p0 ca)), (1, (.func (.func 63) #[] #[(pt ga)]))] [] (fun fb => by kernel_rfl) rfl trivial ?_
 refine WL.done rfl (WX.next (WC.seq (WC.region ?_)))
 refine seg 2 [] [5, 6] [(5, (sv Aa p0 ca)), (6, (.func (.func 63) #[] #[(pt ga)]))] [] (fun fb => by kernel_rfl) rfl trivial ?_
 obtain ⟨t3, ht4, hf⟩ := bind_some hf
 refine WL.call (some 7) 76 #[(sv Aa p0 ca), (.func (.func 63) #[] #[(pt ga)])] (fun fb => by kernel_rfl) (slices_IndexFunc_int_int_with_tile_of_1_calls _ p0 p1_0 Aa ca ga Ab cb t3 _ (hS.rd 0) (hS.rd 1) (hS.rd 2) ht4) (fun v w5 hR6 => ?_)
 obtain ⟨rfl, hk_⟩ := hR6
 have hS7 := hS.keepN hk_
 refine ⟨trivial, ?_⟩
 refine seg 5 [] [4] [(4, (bv (decide (t3 ≥ 0))))] [] (fun fb => by kernel_rfl) rfl trivial ?_
 refine WL.done rfl (WX.next ?_)
 refine WC.ret ?_
 injection hf with hf
 subst hf
 exact WX.ret_ [] (bv (decide (t3 ≥ 0))) [] (fun fb => by kernel_rfl) trivial ⟨_, rfl, rfl, hS7.keep⟩
theorem tile_of_calls (k : Nat) (p0 : List Tile) (p1 : Pattern) (Aa : Option Addr) (ca : Nat) (Ab : Option Addr) (cb : Nat) (r : Bool) (w : World) (hR0 : RO NoS w (rowR enc_Tile Aa ca p0)) (hR1 : RO NoS w (rowR encInt Ab cb p1.Cells)) (hf : tile_of k p0 p1 = some r) :
  CallsR Tryz.prog 43 #[(sv Aa p0 ca), (.agg #[(iv p1.Width), (iv p1.Height), (sv Ab p1.Cells cb)])] w (fun v w' => v = (bv r) ∧ Keeps NoS w w') := by
 have hS : St NoS w w [rowR enc_Tile Aa ca p0, rowR encInt Ab cb p1.Cells] [] := St.init (ro_cons hR0 (ro_cons hR1 (ro_nil _ _)))
 refine enter 18 Tryz.func43 rfl Tryz.ntmps43 rfl ?_
 unfold tile_of at hf
 refine WC.seq (WC.region ?_)
 refine WL.new hS 2 [] (fun g => (pt g)) (.cells #[(sv Aa p0 ca)] 22 (0, 0)) [] (fun fb g => by kernel_rfl) trivial (fun g2 w3 hS4 => ?_)
 refine ⟨trivial, ?_⟩
 refine WL.new hS4 3 [] (fun g => (pt g)) (.cells #[(iv p1.Width), (iv p1.Height), (sv Ab p1.Cells cb)] 71 (0, 0)) [] (fun fb g => by kernel_rfl) trivial (fun g5 w6 hS7 => ?_)
 refine ⟨trivial, ?_⟩
 refine seg 3 [] [2, 3] [(2, (pt g2)), (3, (pt g5))] [] (fun fb => by kernel_rfl) rfl trivial ?_
 refine WL.done rfl (WX.next (WC.seq (WC.region ?_)))
 refine seg 1 [.v (sv Aa p0 ca)] [2, 3, 5] [(2, (pt g2)), (3, (pt g5)), (5, (sv Aa p0 ca))] [.cell ⟨g2, 0, none⟩ (sv Aa p0 ca)] (fun fb => by kernel_rfl) rfl ⟨hS7.cell 1 rfl 0 rfl, trivial⟩ ?_
 obtain ⟨t8, ht9, hf⟩ := bind_some hf
 refine WL.call (some 6) 22 #[(sv Aa p0 ca)] (fun fb => by kernel_rfl) (tile_Valid_calls _ p0 Aa ca t8 _ (hS7.rd 0) ht9) (fun v w10 hR11 => ?_)
 obtain ⟨rfl, hk_⟩ := hR11
 have hS12 := hS7.keepN hk_
 refine ⟨trivial, ?_⟩
 refine seg 3 [] [2, 3, 7] [(2, (pt g2)), (3, (pt g5)), (7, (bv t8))] [] (fun fb => by kernel_rfl) rfl trivial ?_
 obtain ⟨x13, hx14, hf⟩ := bind_some hf
 let e1 : Array Value := #[(iv p1.Width), (iv p1.Height), (sv Ab p1.Cells cb)]
 refine WL.cutW (T := Bool) 6 (fun t => [(2, (pt g2)), (3, (pt g5)), (10, (bv t))]) (fun t w1 => (St NoS w w1 [rowR enc_Tile Aa ca p0, rowR encInt Ab cb p1.Cells] [blk g2 (.cells #[(sv Aa p0 ca)] 22 (0, 0)), blk g5 (.cells e1 71 (0, 0))] ∧ x13 = t) ∧ CellsOK [] w1) (fun K => ?_) ?_
 ·
  rcases br_some hx14 with ⟨h15, hx14⟩ | ⟨h15, hx14⟩
  ·
   refine WL.setB 7 h15 rfl ?_
   refine seg 4 [.v (iv p1.Width), .v (iv p1.Height), .v (sv Ab p1.Cells cb)] [2, 3, 7, 8] [(2, (pt g2)), (3, (pt g5)), (7, (bv true)), (8, (.agg e1))] [.cell ⟨g5, 0, none⟩ (iv p1.Width), .cell ⟨g5, 1, none⟩ (iv p1.Height), .cell ⟨g5, 2, none⟩ (sv Ab p1.Cells cb)] (fun fb => by kernel_rfl) rfl ⟨hS12.cell 0 rfl 0 rfl, hS12.cell 0 rfl 1 rfl, hS12.cell 0 rfl 2 rfl, trivial⟩ ?_
   obtain ⟨t16, ht17, hx14⟩ := bind_some hx14
   refine WL.call (some 9) 62 #[(.agg e1)] (fun fb => by kernel_rfl) (tile_Form_calls p1 Ab cb t16 _ (hS12.rd 1) ht17) (fun v w18 hR19 => ?_)
   obtain ⟨rfl, hk_⟩ := hR19
   have hS20 := hS12.keepN hk_
   refine ⟨trivial, ?_⟩
   refine seg 6 [] [2, 3, 10] [(2, (pt g2)), (3, (pt g5)), (10, (bv t16))] [] (fun fb => by kernel_rfl) rfl trivial ?_
   injection hx14 with hx14
   exact WL.to K t16 [2, 3, 10] rfl ⟨⟨(hS20.subR [0, 1]).sub [1, 0] (by decide), hx14.symm⟩, trivial⟩
  refine WL.setB 7 h15 rfl ?_
  refine seg 6 [] [2, 3, 10] [(2, (pt g2)), (3, (pt g5)), (10, (bv false))] [] (fun fb => by kernel_rfl) rfl trivial ?_
  injection hx14 with hx14
  exact WL.to K false [2, 3, 10] rfl ⟨⟨(hS12.subR [0, 1]).sub [1, 0] (by decide), hx14.symm⟩, trivial⟩
 rintro y21 w23 ⟨⟨hS24, hq22⟩, hF25⟩
 subst hq22
 refine seg 7 [] [2, 3, 11] [(2, (pt g2)), (3, (pt g5)), (11, (bv x13))] [] (fun fb => by kernel_rfl) rfl trivial ?_
 obtain ⟨x26, hx27, hf⟩ := bind_some hf
 refine WL.cutW (T := Bool) 13 (fun t => [(17, (bv t))]) (fun t w1 => (St NoS w w1 [rowR enc_Tile Aa ca p0, rowR encInt Ab cb p1.Cells] [] ∧ x26 = t) ∧ CellsOK [] w1) (fun K => ?_) ?_
 ·
  rcases br_some hx27 with ⟨h28, hx27⟩ | ⟨h28, hx27⟩
  ·
   refine WL.setB 11 h28 rfl ?_
   refine seg 10 [.v (sv Ab p1.Cells cb)] [11, 13, 14] [(11, (bv true)), (13, (sv Ab p1.Cells cb)), (14, (.func (.func 63) #[] #[(pt g2)]))] [.cell ⟨g5, 2, none⟩ (sv Ab p1.Cells cb)] (fun fb => by kernel_rfl) rfl ⟨hS24.cell 1 rfl 2 rfl, trivial⟩ ?_
   obtain ⟨t29, ht30, hx27⟩ := bind_some hx27
   refine WL.call (some 15) 58 #[(sv Ab p1.Cells cb), (.func (.func 63) #[] #[(pt g2)])] (fun fb => by kernel_rfl) (slices_ContainsFunc_int_int_with_tile_of_1_calls _ p1.Cells p0 Ab cb g2 Aa ca t29 _ (hS24.rd 1) (hS24.ow 0) (hS24.rd 0) ht30) (fun v w31 hR32 => ?_)
   obtain ⟨rfl, hk_⟩ := hR32
   have hS33 := hS24.keepN hk_
   refine ⟨trivial, ?_⟩
   refine seg 13 [] [17] [(17, (bv (!t29)))] [] (fun fb => by kernel_rfl) rfl trivial ?_
   injection hx27 with hx27
   exact WL.to K (!t29) [17] rfl ⟨⟨(hS33.subR [0, 1]).sub [] (by decide), hx27.symm⟩, trivial⟩
  refine WL.setB 11 h28 rfl ?_
  refine seg 13 [] [17] [(17, (bv false))] [] (fun fb => by kernel_rfl) rfl trivial ?_
  injection hx27 with hx27
  exact WL.to K false [17] rfl ⟨⟨(hS24.subR [0, 1]).sub [] (by decide), hx27.symm⟩, trivial⟩
 rintro y34 w36 ⟨⟨hS37, hq35⟩, hF38⟩
 subst hq35
 refine seg 14 [] [4] [(4, (bv x26))] [] (fun fb => by kernel_rfl) rfl trivial ?_
 refine WL.done rfl (WX.next ?_)
 refine WC.ret ?_
 injection hf with hf
 subst hf
 exact WX.ret_ [] (bv x26) [] (fun fb => by kernel_rfl) trivial ⟨_, rfl, rfl, hS37.keep⟩
theorem tile_joins_calls (k : Nat) (p0 : List Tile) (p1 : Pattern) (p2 : Bool) (Aa : Option Addr) (ca : Nat) (Ab : Option Addr) (cb : Nat) (r : Bool) (w : World) (hR0 : RO NoS w (rowR enc_Tile Aa ca p0)) (hR1 : RO NoS w (rowR encInt Ab cb p1.Cells)) (hf : tile_joins k p0 p1 p2 = some r) :
  CallsR Tryz.prog 44 #[(sv Aa p0 ca), (.agg #[(iv p1.Width), (iv p1.Height), (sv Ab p1.Cells cb)]), (bv p2)] w (fun v w' => v = (bv r) ∧ Keeps NoS w w') := by
 have hS : St NoS w w [rowR enc_Tile Aa ca p0, rowR encInt Ab cb p1.Cells] [] := St.init (ro_cons hR0 (ro_cons hR1 (ro_nil _ _)))
 refine enter 92 Tryz.func44 rfl Tryz.ntmps44 rfl ?_
 unfold tile_joins at hf
 refine WC.seq (WC.region ?_)
 refine WL.new hS 4 [] (fun g => (pt g)) (.cells #[(iv p1.Width), (iv p1.Height), (sv Ab p1.Cells cb)] 71 (0, 0)) [] (fun fb g => by kernel_rfl) trivial (fun g3 w4 hS5 => ?_)
 refine ⟨trivial, ?_⟩
 refine seg 2 [] [0, 2, 4] [(0, (sv Aa p0 ca)), (2, (bv p2)), (4, (pt g3))] [] (fun fb => by kernel_rfl) rfl trivial ?_
 refine WL.done rfl (WX.next (WC.seq (WC.seq (WC.region ?_))))
 refine seg 4 [.v (sv Ab p1.Cells cb)] [0, 2, 4, 12, 13, 14] [(0, (sv Aa p0 ca)), (2, (bv p2)), (4, (pt g3)), (12, (sv Ab p1.Cells cb)), (13, (iv (p1.Cells.length : Int))), (14, (iv 0))] [.cell ⟨g3, 2, none⟩ (sv Ab p1.Cells cb)] (fun fb => by kernel_rfl) rfl ⟨hS5.cell 0 rfl 2 rfl, trivial⟩ ?_
 refine WL.done rfl (WX.next ?_)
 obtain ⟨x7, hx8, hf⟩ := bind_some hf
 let e3 : Nat × Value := (13, (iv (p1.Cells.length : Int)))
 let e5 := sv Ab p1.Cells cb
 let e10 : Nat × Value := (0, (sv Aa p0 ca))
 let e11 : List Nat := [0, 1, 2, 3, 4, 5, 6, 7, 8, 9, 10, 11, 12, 13, 14, 15, 16, 17, 18, 19, 20, 21, 22, 23]
 let e12 := iv p1.Width
 let e13 : Nat × Value := (2, (bv p2))
 let e14 : Nat × Value := (4, (pt g3))
 let e16 : List Own := [rowR enc_Tile Aa ca p0, rowR encInt Ab cb p1.Cells]
 let e18 : List Nat := [0, 1, 2, 3, 4, 5, 6, 7, 8, 9, 10, 11, 12, 13, 14, 15, 16, 17, 18, 19, 20, 21, 22]
 let e21 : List Nat := [0, 2, 4, 12, 13, 14]
 let e22 := iv p1.Height
 let e23 : List Nat := [5, 6, 7, 8, 9, 10, 11, 12, 13, 14, 15, 16, 17, 18, 19, 20, 21]
 let e24 : List Nat := [0, 2, 4, 8, 9, 10, 12, 13, 14]
 let e25 : List Nat := [5, 6, 7, 8, 9, 10, 11, 12, 13, 14, 15, 16, 17, 18, 19, 20]
 let e26 : List (Nat × Addr × Value) := [(2, ⟨g3, 0, none⟩, e12), (6, ⟨g3, 0, none⟩, e12)]
 let e27 : List Nat := [5, 6, 7, 8, 9, 10, 11, 12, 13, 14, 15, 16, 17, 18, 19]
 refine WC.cutN (T := Unit) (fun t => []) (fun t w1 => St NoS w w1 e16 [] ∧ x7 = .inr t) (fun Kx7 => ?_) ?_
 ·
  refine WC.block ?_
  refine WC.loop (T := Int) (fun t => [e10, e13, e14, (12, e5), e3, (14, (iv t))]) (fun n t w1 => St NoS w w1 e16 [blk g3 (.cells #[e12, e22, e5] 71 (0, 0))] ∧ tile_joins.l0 n t p0 p1 p2 = some x7) k 0 e21 rfl ⟨(hS5.subR [0, 1]).sub [0] (by decide), hx8⟩ ?_
  rintro k9 x6 w10 ⟨hS11, hl12⟩
  let e4 := rdD p1.Cells x6 0
  let e8 : Nat × Value := (9, (iv (Int.tmod x6 p1.Width)))
  let e9 := Int.tdiv x6 p1.Width
  let e15 : Nat × Value := (14, (iv x6))
  let e17 : Nat × Value := (8, (iv e4))
  let e19 := Int.tmod x6 p1.Width
  let e20 := rdD p0 e4 z_Tile
  cases k9 with
  | zero => rw [tile_joins.l0] at hl12; cases hl12
  | succ k9 =>
   rw [tile_joins.l0] at hl12
   refine WC.seq (WC.region ?_)
   refine seg 1 [] [0, 2, 4, 12, 13, 14, 15] [e10, e13, e14, (12, e5), e3, e15, (15, (bv (decide (x6 < (p1.Cells.length : Int)))))] [] (fun fb => by kernel_rfl) rfl trivial ?_
   refine WL.done rfl (WX.next (WC.seq ?_))
   rcases br_some hl12 with ⟨h13, hl12⟩ | ⟨h13, hl12⟩
   ·refine WC.condT2 (fun fb => by kernel_rfl) h13 ?_
    refine WC.skip (WX.next (WC.seq (WC.block (WC.seq (WC.region ?_)))))
    refine seg 1 [] [0, 2, 4, 12, 13, 14, 16] [e10, e13, e14, (12, e5), e3, e15, (16, (iv x6))] [] (fun fb => by kernel_rfl) rfl trivial ?_
    obtain ⟨h14, hl12⟩ := as_some hl12
    refine seg 5 [.v (iv e4)] [0, 2, 4, 7, 8, 12, 13, 14] [e10, e13, e14, (7, (iv x6)), e17, (12, e5), e3, e15] [.idx Ab x6 p1.Cells.length, .cell ((adr Ab).add ((x6).toNat * 1)) (iv e4)] (fun fb => by kernel_rfl) rfl ⟨rowR.adr (hS11.rd 1).1 h14.1 h14.2, rowR.cell (hS11.rd 1).1 0 h14.1 h14.2 0 rfl, trivial⟩ ?_
    refine WL.done rfl (WX.next (WC.seq ?_))
    obtain ⟨h17, hl12⟩ := as_some hl12
    refine WC.regionD (e26, [0, 1, 2, 3, 4, 5, 6, 7, 8, 9], [[], [], [1], [0, 1, 2], [], [], [5], [4, 5, 6], [0, 1, 2, 3], [0, 1, 2, 3, 4, 5, 6, 7, 8]]) [[0, 1, 2, 3, 4, 5, 6, 7, 8, 9]] (by kernel_rfl) (by kernel_rfl) (NoPanic.seq (NoPanic.block (NoPanic.seq (NoPanic.seq (NoPanic.block (NoPanic.seq (NoPanic.body))))))) ?_
    have hS16 := hS11.drew
    revert hS16
    generalize World.drew w10 = w15
    intro hS16
    refine ⟨⟨hS16.cell 0 rfl 0 rfl, hS16.cell 0 rfl 0 rfl, trivial⟩, forallC ?_ (forallN)⟩
    refine segF 10 [.v e12, .v e12] e24 [e10, e13, e14, e17, e8, (10, (iv (w64 e9))), (12, e5), e3, e15] [.ne p1.Width, .ne p1.Width] [0, 1] e26 (fun fb => by kernel_rfl) rfl ⟨h17, h17, trivial⟩ rfl ?_
    refine WL.done rfl (WX.next (WC.seq (WC.seq (WC.region ?_))))
    refine seg 6 [.v e12] [0, 2, 4, 8, 9, 10, 12, 13, 14, 32] [e10, e13, e14, e17, e8, (10, (iv (w64 e9))), (12, e5), e3, e15, (32, (bv (decide (w64 (e19 + 1) < p1.Width))))] [.cell ⟨g3, 0, none⟩ e12] (fun fb => by kernel_rfl) rfl ⟨hS16.cell 0 rfl 0 rfl, trivial⟩ ?_
    refine WL.cutV (T := Bool) 8 (fun t => [(34, (bv t)), e10, e13, e14, e17, e8, (10, (iv (w64 e9))), (12, e5), e3, e15]) (fun t => ((decide (w64 (e19 + 1) < p1.Width)) || p2) = t) (fun K => ?_) ?_
    ·
     rcases Bool.eq_false_or_eq_true (decide (w64 (e19 + 1) < p1.Width)) with h18 | h18
     ·
      refine WL.setB 32 h18 rfl ?_
      refine seg 8 [] [0, 2, 4, 8, 9, 10, 12, 13, 14, 34] [e10, e13, e14, e17, e8, (10, (iv (w64 e9))), (12, e5), e3, e15, (34, (bv true))] [] (fun fb => by kernel_rfl) rfl trivial ?_
      exact WL.toV K true [34, 0, 2, 4, 8, 9, 10, 12, 13, 14] rfl (by first | (rw [h18]; done) | (rw [h18]; rfl))
     refine WL.setB 32 h18 rfl ?_
     refine seg 8 [] [0, 2, 4, 8, 9, 10, 12, 13, 14, 34] [e10, e13, e14, e17, e8, (10, (iv (w64 e9))), (12, e5), e3, e15, (34, (bv p2))] [] (fun fb => by kernel_rfl) rfl trivial ?_
     exact WL.toV K p2 [34, 0, 2, 4, 8, 9, 10, 12, 13, 14] rfl (by first | (rw [h18]; done) | (rw [h18]; rfl))
    rintro b19 rfl
    refine WL.done rfl (WX.next ?_)
    obtain ⟨x20, hx21, hl12⟩ := bind_some hl12
    let e2 := w64 ((w64 ((w64 e9) * p1.Width)) + (Int.tmod (w64 (e19 + 1)) p1.Width))
    let e6 : List (Nat × Addr × Value) := [(4, (((adr Aa).add ((e4).toNat * 4)).add 1), (iv (e20.E))), (7, ⟨g3, 2, none⟩, e5), (10, ⟨g3, 0, none⟩, e12), (15, ⟨g3, 0, none⟩, e12), (19, ((adr Ab).add (e2.toNat * 1)), (iv (rdD p1.Cells e2 0))), (22, (((adr Aa).add (((rdD p1.Cells e2 0)).toNat * 4)).add 3), (iv ((rdD p0 (rdD p1.Cells e2 0) z_Tile).W)))]
    refine WC.cutN (T := Unit) (fun t => [e10, e13, e14, e17, e8, (10, (iv (w64 e9))), (12, e5), e3, e15]) (fun t w1 => St NoS w w1 e16 [blk g3 (.cells #[e12, e22, e5] 71 (0, 0))] ∧ x20 = .inr t) (fun Kx20 => ?_) ?_
    ·
     rcases br_some hx21 with ⟨h22, hx21⟩ | ⟨h22, hx21⟩
     ·refine WC.condT2 (fun fb => by kernel_rfl) h22 ?_
      refine WC.seq ?_
      obtain ⟨h25, hx21⟩ := as_some hx21
      obtain ⟨h26, hx21⟩ := as_some hx21
      obtain ⟨h27, hx21⟩ := as_some hx21
      refine WC.regionD (e6, e11, [[], [], [0, 1], [0, 1, 2], [0, 1, 2, 3], [], [], [6], [], [], [9], [8, 9, 10], [], [12], [], [14], [12, 13, 14, 15], [8, 9, 10, 11, 12, 13, 14, 15, 16], [6, 7, 8, 9, 10, 11, 12, 13, 14, 15, 16, 17], [6, 7, 8, 9, 10, 11, 12, 13, 14, 15, 16, 17, 18], e27, e25, e23, e18]) [e11] (by kernel_rfl) (by kernel_rfl) (NoPanic.seq (NoPanic.seq (NoPanic.block (NoPanic.seq (NoPanic.seq (NoPanic.block (NoPanic.seq (NoPanic.body)))))))) ?_
      have hS24 := hS16.drew
      revert hS24
      generalize World.drew w15 = w23
      intro hS24
      refine ⟨⟨rowR.cell (hS24.rd 0).1 z_Tile h25.1 h25.2 1 rfl, hS24.cell 0 rfl 2 rfl, hS24.cell 0 rfl 0 rfl, hS24.cell 0 rfl 0 rfl, rowR.cell (hS24.rd 1).1 0 h26.1 h26.2 0 rfl, rowR.cell (hS24.rd 0).1 z_Tile h27.1 h27.2 3 rfl, trivial⟩, forallC ?_ (forallN)⟩
      refine segF 24 [.v (iv (e20.E)), .v e5, .v e12, .v e12, .v (iv (rdD p1.Cells e2 0)), .v (iv ((rdD p0 (rdD p1.Cells e2 0) z_Tile).W))] [0, 2, 4, 8, 9, 10, 12, 13, 14, 58] [e10, e13, e14, e17, e8, (10, (iv (w64 e9))), (12, e5), e3, e15, (58, (bv ((e20.E) != ((rdD p0 (rdD p1.Cells e2 0) z_Tile).W))))] [.idx Aa e4 p0.length, .ne p1.Width, .idx Ab e2 p1.Cells.length, .idx Aa (rdD p1.Cells e2 0) p0.length] [0, 1, 2, 3, 4, 5] e6 (fun fb => by kernel_rfl) rfl ⟨rowR.adr (hS24.rd 0).1 h25.1 h25.2, h17, rowR.adr (hS24.rd 1).1 h26.1 h26.2, rowR.adr (hS24.rd 0).1 h27.1 h27.2, trivial⟩ rfl ?_
      refine WL.done rfl (WX.next ?_)
      rcases br_some hx21 with ⟨h28, hx21⟩ | ⟨h28, hx21⟩
      ·refine WC.condT2 (fun fb => by kernel_rfl) h28 ?_
       refine WC.seq (WC.region ?_)
       refine seg 1 [] [6] [(6, (bv false))] [] (fun fb => by kernel_rfl) rfl trivial ?_
       refine WL.done rfl (WX.next ?_)
       refine WC.ret ?_
       injection hx21 with hx21
       subst hx21
       injection hl12 with hl12
       subst hl12
       injection hf with hf
       subst hf
       exact WX.thenR (WX.blockR (WX.thenR (WX.thenR (WX.blockR (WX.thenR (WX.ret_ [] (bv false) [] (fun fb => by kernel_rfl) trivial ⟨_, rfl, rfl, hS24.keep⟩))))))
      refine WC.condF2 (fun fb => by kernel_rfl) h28 ?_
      refine WC.skip ?_
      injection hx21 with hx21
      exact WX.to Kx20 () e24 rfl ⟨(hS24.subR [0, 1]).sub [0] (by decide), hx21.symm⟩
     refine WC.condF2 (fun fb => by kernel_rfl) h22 ?_
     refine WC.skip ?_
     injection hx21 with hx21
     exact WX.to Kx20 () e24 rfl ⟨(hS16.subR [0, 1]).sub [0] (by decide), hx21.symm⟩
    rintro y32 w29 ⟨hS30, hq31⟩
    subst hq31
    have hl12 := sum_inr hl12
    refine WX.next (WC.seq (WC.region ?_))
    refine seg 6 [.v e22] [0, 2, 4, 8, 9, 10, 12, 13, 14, 64] [e10, e13, e14, e17, e8, (10, (iv (w64 e9))), (12, e5), e3, e15, (64, (bv (decide (w64 ((w64 e9) + 1) < p1.Height))))] [.cell ⟨g3, 1, none⟩ e22] (fun fb => by kernel_rfl) rfl ⟨hS30.cell 0 rfl 1 rfl, trivial⟩ ?_
    refine WL.cutV (T := Bool) 8 (fun t => [(66, (bv t)), e10, e13, e14, e17, e8, (10, (iv (w64 e9))), (12, e5), e3, e15]) (fun t => ((decide (w64 ((w64 e9) + 1) < p1.Height)) || p2) = t) (fun K => ?_) ?_
    ·
     rcases Bool.eq_false_or_eq_true (decide (w64 ((w64 e9) + 1) < p1.Height)) with h33 | h33
     ·
      refine WL.setB 64 h33 rfl ?_
      refine seg 8 [] [0, 2, 4, 8, 9, 10, 12, 13, 14, 66] [e10, e13, e14, e17, e8, (10, (iv (w64 e9))), (12, e5), e3, e15, (66, (bv true))] [] (fun fb => by kernel_rfl) rfl trivial ?_
      exact WL.toV K true [66, 0, 2, 4, 8, 9, 10, 12, 13, 14] rfl (by first | (rw [h33]; done) | (rw [h33]; rfl))
     refine WL.setB 64 h33 rfl ?_
     refine seg 8 [] [0, 2, 4, 8, 9, 10, 12, 13, 14, 66] [e10, e13, e14, e17, e8, (10, (iv (w64 e9))), (12, e5), e3, e15, (66, (bv p2))] [] (fun fb => by kernel_rfl) rfl trivial ?_
     exact WL.toV K p2 [66, 0, 2, 4, 8, 9, 10, 12, 13, 14] rfl (by first | (rw [h33]; done) | (rw [h33]; rfl))
    rintro b34 rfl
    refine WL.done rfl (WX.next ?_)
    obtain ⟨x35, hx36, hl12⟩ := bind_some hl12
    let e1 := w64 ((w64 ((Int.tmod (w64 ((w64 e9) + 1)) p1.Height) * p1.Width)) + e19)
    let e7 : List (Nat × Addr × Value) := [(4, ((adr Aa).add ((e4).toNat * 4)), (iv (e20.N))), (7, ⟨g3, 2, none⟩, e5), (11, ⟨g3, 1, none⟩, e22), (14, ⟨g3, 0, none⟩, e12), (19, ((adr Ab).add (e1.toNat * 1)), (iv (rdD p1.Cells e1 0))), (22, (((adr Aa).add (((rdD p1.Cells e1 0)).toNat * 4)).add 2), (iv ((rdD p0 (rdD p1.Cells e1 0) z_Tile).S)))]
    refine WC.cutN (T := Unit) (fun t => [e10, e13, e14, (12, e5), e3, e15]) (fun t w1 => St NoS w w1 e16 [blk g3 (.cells #[e12, e22, e5] 71 (0, 0))] ∧ x35 = .inr t) (fun Kx35 => ?_) ?_
    ·
     rcases br_some hx36 with ⟨h37, hx36⟩ | ⟨h37, hx36⟩
     ·refine WC.condT2 (fun fb => by kernel_rfl) h37 ?_
      refine WC.seq ?_
      obtain ⟨h40, hx36⟩ := as_some hx36
      obtain ⟨h41, hx36⟩ := as_some hx36
      obtain ⟨h42, hx36⟩ := as_some hx36
      obtain ⟨h43, hx36⟩ := as_some hx36
      refine WC.regionD (e7, e11, [[], [], [0, 1], [0, 1, 2], [0, 1, 2, 3], [], [], [6], [], [8], [], [10], [8, 9, 10, 11], [], [13], [8, 9, 10, 11, 12, 13, 14], [], [8, 9, 10, 11, 12, 13, 14, 15, 16], [6, 7, 8, 9, 10, 11, 12, 13, 14, 15, 16, 17], [6, 7, 8, 9, 10, 11, 12, 13, 14, 15, 16, 17, 18], e27, e25, e23, e18]) [e11] (by kernel_rfl) (by kernel_rfl) (NoPanic.seq (NoPanic.block (NoPanic.seq (NoPanic.seq (NoPanic.block (NoPanic.seq (NoPanic.body))))))) ?_
      have hS39 := hS30.drew
      revert hS39
      generalize World.drew w29 = w38
      intro hS39
      refine ⟨⟨rowR.cell (hS39.rd 0).1 z_Tile h40.1 h40.2 0 rfl, hS39.cell 0 rfl 2 rfl, hS39.cell 0 rfl 1 rfl, hS39.cell 0 rfl 0 rfl, rowR.cell (hS39.rd 1).1 0 h42.1 h42.2 0 rfl, rowR.cell (hS39.rd 0).1 z_Tile h43.1 h43.2 2 rfl, trivial⟩, forallC ?_ (forallN)⟩
      refine segF 24 [.v (iv (e20.N)), .v e5, .v e22, .v e12, .v (iv (rdD p1.Cells e1 0)), .v (iv ((rdD p0 (rdD p1.Cells e1 0) z_Tile).S))] [0, 2, 4, 12, 13, 14, 90] [e10, e13, e14, (12, e5), e3, e15, (90, (bv ((e20.N) != ((rdD p0 (rdD p1.Cells e1 0) z_Tile).S))))] [.idx Aa e4 p0.length, .ne p1.Height, .idx Ab e1 p1.Cells.length, .idx Aa (rdD p1.Cells e1 0) p0.length] [0, 1, 2, 3, 4, 5] e7 (fun fb => by kernel_rfl) rfl ⟨rowR.adr (hS39.rd 0).1 h40.1 h40.2, h41, rowR.adr (hS39.rd 1).1 h42.1 h42.2, rowR.adr (hS39.rd 0).1 h43.1 h43.2, trivial⟩ rfl ?_
      refine WL.done rfl (WX.next ?_)
      rcases br_some hx36 with ⟨h45, hx36⟩ | ⟨h45, hx36⟩
      ·refine WC.condT2 (fun fb => by kernel_rfl) h45 ?_
       refine WC.seq (WC.region ?_)
       refine seg 1 [] [6] [(6, (bv false))] [] (fun fb => by kernel_rfl) rfl trivial ?_
       refine WL.done rfl (WX.next ?_)
       refine WC.ret ?_
       injection hx36 with hx36
       subst hx36
       injection hl12 with hl12
       subst hl12
       injection hf with hf
       subst hf
       exact WX.blockR (WX.thenR (WX.thenR (WX.blockR (WX.thenR (WX.ret_ [] (bv false) [] (fun fb => by kernel_rfl) trivial ⟨_, rfl, rfl, hS39.keep⟩)))))
      refine WC.condF2 (fun fb => by kernel_rfl) h45 ?_
      refine WC.skip ?_
      injection hx36 with hx36
      exact WX.to Kx35 () e21 rfl ⟨(hS39.subR [0, 1]).sub [0] (by decide), hx36.symm⟩
     refine WC.condF2 (fun fb => by kernel_rfl) h37 ?_
     refine WC.skip ?_
     injection hx36 with hx36
     exact WX.to Kx35 () e21 rfl ⟨(hS30.subR [0, 1]).sub [0] (by decide), hx36.symm⟩
    rintro y49 w46 ⟨hS47, hq48⟩
    subst hq48
    have hl12 := sum_inr hl12
    refine WX.blockN (WX.next ?_)
    refine WC.region ?_
    refine seg 2 [] e21 [e10, e13, e14, (12, e5), e3, (14, (iv (w64 (x6 + 1))))] [] (fun fb => by kernel_rfl) rfl trivial ?_
    refine WL.done rfl ?_
    exact WX.again k9 (Nat.lt_succ_self _) (w64 (x6 + 1)) e21 rfl ⟨(hS47.subR [0, 1]).sub [0] (by decide), hl12⟩
   refine WC.condF2 (fun fb => by kernel_rfl) h13 ?_
   refine WC.exit ?_
   injection hl12 with hl12
   exact WX.thenX (WX.thenX (WX.blockHere (WX.to Kx7 () [] rfl ⟨(hS11.subR [0, 1]).sub [] (by decide), hl12.symm⟩)))
 rintro y53 w50 ⟨hS51, hq52⟩
 subst hq52
 have hf := sum_inr hf
 refine WX.next (WC.seq (WC.region ?_))
 refine seg 1 [] [6] [(6, (bv true))] [] (fun fb => by kernel_rfl) rfl trivial ?_
 refine WL.done rfl (WX.next ?_)
 refine WC.ret ?_
 injection hf with hf
 subst hf
 exact WX.ret_ [] (bv true) [] (fun fb => by kernel_rfl) trivial ⟨_, rfl, rfl, hS51.keep⟩
theorem tile_Fits_calls (k : Nat) (p0 : List Tile) (p1 : Pattern) (Aa : Option Addr) (ca : Nat) (Ab : Option Addr) (cb : Nat) (r : Bool) (w : World) (hR0 : RO NoS w (rowR enc_Tile Aa ca p0)) (hR1 : RO NoS w (rowR encInt Ab cb p1.Cells)) (hf : tile_Fits k p0 p1 = some r) :
  CallsR Tryz.prog 29 #[(sv Aa p0 ca), (.agg #[(iv p1.Width), (iv p1.Height), (sv Ab p1.Cells cb)])] w (fun v w' => v = (bv r) ∧ Keeps NoS w w') := by
 have hS : St NoS w w [rowR enc_Tile Aa ca p0, rowR encInt Ab cb p1.Cells] [] := St.init (ro_cons hR0 (ro_cons hR1 (ro_nil _ _)))
 refine enter 13 Tryz.func29 rfl Tryz.ntmps29 rfl ?_
 unfold tile_Fits at hf
 refine WC.seq (WC.region ?_)
 refine WL.new hS 3 [] (fun g => (pt g)) (.cells #[(iv p1.Width), (iv p1.Height), (sv Ab p1.Cells cb)] 71 (0, 0)) [] (fun fb g => by kernel_rfl) trivial (fun g2 w3 hS4 => ?_)
 refine ⟨trivial, ?_⟩
 refine seg 2 [] [0, 3] [(0, (sv Aa p0 ca)), (3, (pt g2))] [] (fun fb => by kernel_rfl) rfl trivial ?_
 refine WL.done rfl (WX.next (WC.seq (WC.region ?_)))
 refine seg 2 [.v (iv p1.Width), .v (iv p1.Height), .v (sv Ab p1.Cells cb)] [0, 3, 5, 6] [(0, (sv Aa p0 ca)), (3, (pt g2)), (5, (sv Aa p0 ca)), (6, (.agg #[(iv p1.Width), (iv p1.Height), (sv Ab p1.Cells cb)]))] [.cell ⟨g2, 0, none⟩ (iv p1.Width), .cell ⟨g2, 1, none⟩ (iv p1.Height), .cell ⟨g2, 2, none⟩ (sv Ab p1.Cells cb)] (fun fb => by kernel_rfl) rfl ⟨hS4.cell 0 rfl 0 rfl, hS4.cell 0 rfl 1 rfl, hS4.cell 0 rfl 2 rfl, trivial⟩ ?_
 obtain ⟨t5, ht6, hf⟩ := bind_some hf
 refine WL.call (some 7) 43 #[(sv Aa p0 ca), (.agg #[(iv p1.Width), (iv p1.Height), (sv Ab p1.Cells cb)])] (fun fb => by kernel_rfl) (tile_of_calls _ p0 p1 Aa ca Ab cb t5 _ (hS4.rd 0) (hS4.rd 1) ht6) (fun v w7 hR8 => ?_)
 obtain ⟨rfl, hk_⟩ := hR8
 have hS9 := hS4.keepN hk_
 refine ⟨trivial, ?_⟩
 refine seg 4 [] [0, 3, 8] [(0, (sv Aa p0 ca)), (3, (pt g2)), (8, (bv t5))] [] (fun fb => by kernel_rfl) rfl trivial ?_
 obtain ⟨x10, hx11, hf⟩ := bind_some hf
 let e1 : Array Value := #[(iv p1.Width), (iv p1.Height), (sv Ab p1.Cells cb)]
 refine WL.cutW (T := Bool) 8 (fun t => [(12, (bv t))]) (fun t w1 => (St NoS w w1 [rowR enc_Tile Aa ca p0, rowR encInt Ab cb p1.Cells] [] ∧ x10 = t) ∧ CellsOK [] w1) (fun K => ?_) ?_
 ·
  rcases br_some hx11 with ⟨h12, hx11⟩ | ⟨h12, hx11⟩
  ·
   refine WL.setB 8 h12 rfl ?_
   refine seg 6 [.v (iv p1.Width), .v (iv p1.Height), .v (sv Ab p1.Cells cb)] [8, 9, 10] [(8, (bv true)), (9, (sv Aa p0 ca)), (10, (.agg e1))] [.cell ⟨g2, 0, none⟩ (iv p1.Width), .cell ⟨g2, 1, none⟩ (iv p1.Height), .cell ⟨g2, 2, none⟩ (sv Ab p1.Cells cb)] (fun fb => by kernel_rfl) rfl ⟨hS9.cell 0 rfl 0 rfl, hS9.cell 0 rfl 1 rfl, hS9.cell 0 rfl 2 rfl, trivial⟩ ?_
   obtain ⟨t13, ht14, hx11⟩ := bind_some hx11
   refine WL.call (some 11) 44 #[(sv Aa p0 ca), (.agg e1), (bv false)] (fun fb => by kernel_rfl) (tile_joins_calls _ p0 p1 false Aa ca Ab cb t13 _ (hS9.rd 0) (hS9.rd 1) ht14) (fun v w15 hR16 => ?_)
   obtain ⟨rfl, hk_⟩ := hR16
   have hS17 := hS9.keepN hk_
   refine ⟨trivial, ?_⟩
   refine seg 8 [] [12] [(12, (bv t13))] [] (fun fb => by kernel_rfl) rfl trivial ?_
   injection hx11 with hx11
   exact WL.to K t13 [12] rfl ⟨⟨(hS17.subR [0, 1]).sub [] (by decide), hx11.symm⟩, trivial⟩
  refine WL.setB 8 h12 rfl ?_
  refine seg 8 [] [12] [(12, (bv false))] [] (fun fb => by kernel_rfl) rfl trivial ?_
  injection hx11 with hx11
  exact WL.to K false [12] rfl ⟨⟨(hS9.subR [0, 1]).sub [] (by decide), hx11.symm⟩, trivial⟩
 rintro y18 w20 ⟨⟨hS21, hq19⟩, hF22⟩
 subst hq19
 refine seg 9 [] [4] [(4, (bv x10))] [] (fun fb => by kernel_rfl) rfl trivial ?_
 refine WL.done rfl (WX.next ?_)
 refine WC.ret ?_
 injection hf with hf
 subst hf
 exact WX.ret_ [] (bv x10) [] (fun fb => by kernel_rfl) trivial ⟨_, rfl, rfl, hS21.keep⟩
theorem law04_path_calls (k : Nat) (p0 : List Tile) (p1 : List Tile) (p2 : List A2_Int) (p3 : Int) (p4 : Int) (p5 : Int) (Aa : Option Addr) (ca : Nat) (Ab : Option Addr) (cb : Nat) (Ac : Option Addr) (cc : Nat) (r : Bool) (w : World) (hR0 : RO NoS w (rowR enc_Tile Aa ca p0)) (hR1 : RO NoS w (rowR enc_Tile Ab cb p1)) (hR2 : RO NoS w (rowR enc_A2_Int Ac cc p2)) (hf : law04_path k p0 p1 p2 p3 p4 p5 = some r) :
  CallsR Tryz.prog 11 #[(sv Aa p0 ca), (sv Ab p1 cb), (sv Ac p2 cc), (iv p3), (iv p4), (iv p5)] w (fun v w' => v = (bv r) ∧ Keeps NoS w w') := by
 have hS : St NoS w w [rowR enc_Tile Aa ca p0, rowR enc_Tile Ab cb p1, rowR enc_A2_Int Ac cc p2] [] := St.init (ro_cons hR0 (ro_cons hR1 (ro_cons hR2 (ro_nil _ _))))
 refine enter 102 Tryz.func11 rfl Tryz.ntmps11 rfl ?_
 unfold law04_path at hf
 refine WC.seq (WC.region ?_)
 refine seg 1 [] [0, 1, 2, 3, 4, 5] [(0, (sv Aa p0 ca)), (1, (sv Ab p1 cb)), (2, (sv Ac p2 cc)), (3, (iv p3)), (4, (iv p4)), (5, (iv p5))] [] (fun fb => by kernel_rfl) rfl trivial ?_
 refine WL.done rfl (WX.next (WC.seq (WC.seq (WC.region ?_))))
 refine seg 3 [] [0, 1, 2, 3, 4, 5, 19] [(0, (sv Aa p0 ca)), (1, (sv Ab p1 cb)), (2, (sv Ac p2 cc)), (3, (iv p3)), (4, (iv p4)), (5, (iv p5)), (19, (bv ((p1.length : Int) == 0)))] [] (fun fb => by kernel_rfl) rfl trivial ?_
 refine WL.done rfl (WX.next ?_)
 rcases br_some hf with ⟨h6, hf⟩ | ⟨h6, hf⟩
 ·refine WC.condT2 (fun fb => by kernel_rfl) h6 ?_
  refine WC.seq (WC.region ?_)
  refine seg 1 [] [12] [(12, (bv true))] [] (fun fb => by kernel_rfl) rfl trivial ?_
  refine WL.done rfl (WX.next ?_)
  refine WC.ret ?_
  injection hf with hf
  subst hf
  exact WX.thenR (WX.ret_ [] (bv true) [] (fun fb => by kernel_rfl) trivial ⟨_, rfl, rfl, hS.keep⟩)
 refine WC.condF2 (fun fb => by kernel_rfl) h6 ?_
 refine WC.skip (WX.next (WC.seq ?_))
 obtain ⟨h9, hf⟩ := as_some hf
 obtain ⟨h10, hf⟩ := as_some hf
 obtain ⟨h12, hf⟩ := as_some hf
 let e15 : List Nat := [0, 1, 2, 3, 4, 5, 6, 7, 8, 9, 10, 11, 12, 13, 14, 15, 16, 17, 18, 19]
 refine WC.regionD ([(8, (((adr Ab).add ((Int.tmod p3 (p1.length : Int)).toNat * 4)).add 3), (iv ((rdD p1 (Int.tmod p3 (p1.length : Int)) z_Tile).W))), (16, (((adr Ab).add ((Int.tmod p4 (p1.length : Int)).toNat * 4)).add 1), (iv ((rdD p1 (Int.tmod p4 (p1.length : Int)) z_Tile).E)))], [0, 1, 2, 3, 4, 5, 6, 7, 8, 9, 10, 11, 12, 13, 14, 15, 16, 17, 19, 20, 21, 22, 23], [[], [], [], [], [3], [2, 3, 4], [1, 2, 3, 4, 5], [1, 2, 3, 4, 5, 6], [1, 2, 3, 4, 5, 6, 7], [], [], [], [11], [10, 11, 12], [9, 10, 11, 12, 13], [9, 10, 11, 12, 13, 14], [9, 10, 11, 12, 13, 14, 15], [], [0, 1, 2, 3, 4, 5, 6, 7, 8, 9, 10, 11, 12, 13, 14, 15, 16, 17], [0, 1, 2, 3, 4, 5, 6, 7, 8, 9, 10, 11, 12, 13, 14, 15, 16, 17, 18], e15, e15, [0, 1, 2, 3, 4, 5, 6, 7, 8, 9, 10, 11, 12, 13, 14, 15, 16, 17, 18, 19, 20], [0, 1, 2, 3, 4, 5, 6, 7, 8, 9, 10, 11, 12, 13, 14, 15, 16, 17, 18, 19, 20, 21, 22]]) [[0, 1, 2, 3, 4, 5, 6, 7, 8, 9, 10, 11, 12, 13, 14, 15, 16, 17, 18, 19, 20, 21, 22, 23]] (by kernel_rfl) (by kernel_rfl) (NoPanic.seq (NoPanic.body)) ?_
 have hS8 := hS.drew
 revert hS8
 generalize World.drew w = w7
 intro hS8
 refine ⟨⟨rowR.cell (hS8.rd 1).1 z_Tile h10.1 h10.2 3 rfl, rowR.cell (hS8.rd 1).1 z_Tile h12.1 h12.2 1 rfl, trivial⟩, forallC ?_ (forallN)⟩
 let e8 := (p1.length : Int)
 let e12 := iv ((rdD p1 (Int.tmod p3 e8) z_Tile).W)
 let e13 := iv ((rdD p1 (Int.tmod p4 e8) z_Tile).E)
 refine segF 18 [.v e12, .v e13] [0, 2, 5, 21, 29, 37, 38] [(0, (sv Aa p0 ca)), (2, (sv Ac p2 cc)), (5, (iv p5)), (21, (sv Ab p1 cb)), (29, e12), (37, e13), (38, (iv p5))] [.ne e8, .idx Ab (Int.tmod p3 e8) p1.length, .ne e8, .idx Ab (Int.tmod p4 e8) p1.length] [0, 1] [(8, (((adr Ab).add ((Int.tmod p3 e8).toNat * 4)).add 3), e12), (16, (((adr Ab).add ((Int.tmod p4 e8).toNat * 4)).add 1), e13)] (fun fb => by kernel_rfl) rfl ⟨h9, rowR.adr (hS8.rd 1).1 h10.1 h10.2, h9, rowR.adr (hS8.rd 1).1 h12.1 h12.2, trivial⟩ rfl ?_
 obtain ⟨t13, ht14, hf⟩ := bind_some hf
 refine WL.call (some 39) 20 #[(sv Ab p1 cb), e12, e13, (iv p5)] (fun fb => by kernel_rfl) (strip_Path_calls _ p1 ((rdD p1 (Int.tmod p3 e8) z_Tile).W) ((rdD p1 (Int.tmod p4 e8) z_Tile).E) p5 Ab cb t13 _ (hS8.rd 1) ht14) (fun v w15 hR16 => ?_)
 obtain ⟨A18, c19, rfl, hk_⟩ := hR16
 have hS17 := hS.go w15 [rowO 3 encInt A18 c19 t13.1] (hS8.call hk_ [] [] (fun g hg => hg.elim) (by simp) (by decide))
 refine ⟨trivial, ?_⟩
 refine seg 24 [] [0, 2, 5, 13, 14] [(0, (sv Aa p0 ca)), (2, (sv Ac p2 cc)), (5, (iv p5)), (13, (sv A18 t13.1 c19)), (14, (iv t13.2))] [] (fun fb => by kernel_rfl) rfl trivial ?_
 refine WL.done rfl (WX.next (WC.seq (WC.seq (WC.region ?_))))
 refine seg 2 [] [0, 2, 5, 13, 14, 43] [(0, (sv Aa p0 ca)), (2, (sv Ac p2 cc)), (5, (iv p5)), (13, (sv A18 t13.1 c19)), (14, (iv t13.2)), (43, (bv (t13.2 != 0)))] [] (fun fb => by kernel_rfl) rfl trivial ?_
 refine WL.done rfl (WX.next ?_)
 rcases br_some hf with ⟨h20, hf⟩ | ⟨h20, hf⟩
 ·refine WC.condT2 (fun fb => by kernel_rfl) h20 ?_
  refine WC.seq (WC.region ?_)
  refine seg 3 [] [12] [(12, (bv (t13.2 == 6)))] [] (fun fb => by kernel_rfl) rfl trivial ?_
  refine WL.done rfl (WX.next ?_)
  refine WC.ret ?_
  injection hf with hf
  subst hf
  exact WX.thenR (WX.ret_ [] (bv (t13.2 == 6)) [] (fun fb => by kernel_rfl) trivial ⟨_, rfl, rfl, hS17.keep⟩)
 refine WC.condF2 (fun fb => by kernel_rfl) h20 ?_
 refine WC.skip (WX.next (WC.seq (WC.region ?_)))
 refine seg 1 [] [0, 2, 5, 13, 46] [(0, (sv Aa p0 ca)), (2, (sv Ac p2 cc)), (5, (iv p5)), (13, (sv A18 t13.1 c19)), (46, (iv p5))] [] (fun fb => by kernel_rfl) rfl trivial ?_
 obtain ⟨t21, ht22, hf⟩ := bind_some hf
 refine WL.call (some 47) 28 #[(iv p5), (iv 2)] (fun fb => by kernel_rfl) (ref01_Blank_calls p5 2 t21 _ ht22) (fun v w23 hR24 => ?_)
 obtain ⟨A26, c27, rfl, hk_⟩ := hR24
 have hS25 := hS17.go w23 [rowO 3 encInt A26 c27 t21.Cells, rowO 3 encInt A18 c19 t13.1] (hS17.call hk_ [] [0] (fun g hg => hg.elim) (by simp) (by decide))
 refine ⟨trivial, ?_⟩
 refine WL.new hS25 15 [] (fun g => (pt g)) (.cells #[(iv 0), (iv 0), (.slice none 0 0)] 71 (0, 0)) [] (fun fb g => by kernel_rfl) trivial (fun g28 w29 hS30 => ?_)
 refine ⟨trivial, ?_⟩
 refine WL.store hS30 0 rfl [(0, (iv t21.Width)), (1, (iv t21.Height)), (2, (sv A26 t21.Cells c27))] #[(iv t21.Width), (iv t21.Height), (sv A26 t21.Cells c27)] (fun fb => by kernel_rfl) (by kernel_rfl) rfl [1, 2] (by decide) (by decide) (fun w31 hS32 => ?_)
 refine ⟨trivial, ?_⟩
 refine WL.done rfl (WX.next (WC.seq (WC.seq (WC.region ?_))))
 refine seg 1 [] [0, 2, 5, 13, 15, 16] [(0, (sv Aa p0 ca)), (2, (sv Ac p2 cc)), (5, (iv p5)), (13, (sv A18 t13.1 c19)), (15, (pt g28)), (16, (iv 0))] [] (fun fb => by kernel_rfl) rfl trivial ?_
 refine WL.done rfl (WX.next ?_)
 obtain ⟨x39, hx40, hf⟩ := bind_some hf
 let e4 : Nat × Value := (13, (sv A18 t13.1 c19))
 let e5 : Nat × Value := (0, (sv Aa p0 ca))
 let e6 : Nat × Value := (2, (sv Ac p2 cc))
 let e7 : Nat × Value := (15, (pt g28))
 let e10 : Nat × Value := (5, (iv p5))
 let e14 : List Own := [rowR enc_Tile Aa ca p0, rowR enc_Tile Ab cb p1, rowR enc_A2_Int Ac cc p2]
 refine WC.cutN (T := (List Int) × (Option Addr) × Nat) (fun t => [e5, e7]) (fun t w1 => St NoS w w1 e14 [blk g28 (.cells #[(iv t21.Width), (iv t21.Height), (sv t.2.1 t.1 t.2.2)] 71 (0, 0)), rowO 3 encInt t.2.1 t.2.2 t.1] ∧ x39 = .inr t.1) (fun Kx39 => ?_) ?_
 ·
  refine WC.block ?_
  refine WC.loop (T := ((List Int) × Int) × (Option Addr) × Nat) (fun t => [e5, e6, e10, e4, e7, (16, (iv t.1.2))]) (fun n t w1 => St NoS w w1 e14 [rowO 3 encInt A18 c19 t13.1, blk g28 (.cells #[(iv t21.Width), (iv t21.Height), (sv t.2.1 t.1.1 t.2.2)] 71 (0, 0)), rowO 3 encInt t.2.1 t.2.2 t.1.1] ∧ law04_path.l0 n t.1.1 t.1.2 p2 p5 t13 = some x39) k ((t21.Cells, 0), A26, c27) [0, 2, 5, 13, 15, 16] rfl ⟨(hS32.subR [0, 1, 2]).sub [2, 0, 1] (by decide), hx40⟩ ?_
  rintro k41 ⟨⟨l35, x36⟩, A33, c34⟩ w42 ⟨hS43, hl44⟩
  let e2 := rdD p2 (rdD t13.1 x36 0) z_A2_Int
  let e3 : List (Nat × Addr × Value) := [(1, ⟨g28, 2, none⟩, (sv A33 l35 c34)), (4, ⟨g28, 2, none⟩, (sv A33 l35 c34)), (12, ((adr A18).add ((x36).toNat * 1)), (iv (rdD t13.1 x36 0))), (15, ((adr Ac).add (((rdD t13.1 x36 0)).toNat * 2)), (iv (e2.e0))), (20, ((adr A18).add ((x36).toNat * 1)), (iv (rdD t13.1 x36 0))), (23, (((adr Ac).add (((rdD t13.1 x36 0)).toNat * 2)).add 1), (iv (e2.e1)))]
  let e9 : Nat × Value := (16, (iv x36))
  let e11 := rdD t13.1 x36 0
  let e16 := w64 (p5 + x36)
  cases k41 with
  | zero => rw [law04_path.l0] at hl44; cases hl44
  | succ k41 =>
   rw [law04_path.l0] at hl44
   refine WC.seq (WC.seq (WC.region ?_))
   refine seg 3 [] [0, 2, 5, 13, 15, 16, 50] [e5, e6, e10, e4, e7, e9, (50, (bv (decide (x36 < p5))))] [] (fun fb => by kernel_rfl) rfl trivial ?_
   refine WL.done rfl (WX.next ?_)
   rcases br_some hl44 with ⟨h45, hl44⟩ | ⟨h45, hl44⟩
   ·refine WC.condT2 (fun fb => by kernel_rfl) h45 ?_
    refine WC.skip (WX.next (WC.seq (WC.block (WC.seq (WC.seq (WC.region ?_))))))
    refine seg 5 [] [0, 2, 5, 13, 15, 16, 57] [e5, e6, e10, e4, e7, e9, (57, (bv ((t13.1.length : Int) != p5)))] [] (fun fb => by kernel_rfl) rfl trivial ?_
    obtain ⟨b46, hv47, hl44⟩ := bind_some hl44
    refine WL.cutV (T := Unit) 11 (fun t => [(63, (bv b46)), e5, e6, e10, e4, e7, e9]) (fun t => True) (fun K => ?_) ?_
    ·
     rcases br_some hv47 with ⟨h48, hv47⟩ | ⟨h48, hv47⟩
     ·
      refine WL.setB 57 h48 rfl ?_
      refine seg 11 [] [0, 2, 5, 13, 15, 16, 63] [e5, e6, e10, e4, e7, e9, (63, (bv true))] [] (fun fb => by kernel_rfl) rfl trivial ?_
      injection hv47 with hv47
      subst hv47
      exact WL.toV K () [63, 0, 2, 5, 13, 15, 16] rfl trivial
     refine WL.setB 57 h48 rfl ?_
     refine seg 7 [] [0, 2, 5, 13, 15, 16, 57, 58, 59] [e5, e6, e10, e4, e7, e9, (57, (bv false)), (58, (sv A18 t13.1 c19)), (59, (iv x36))] [] (fun fb => by kernel_rfl) rfl trivial ?_
     obtain ⟨h49, hv47⟩ := as_some hv47
     refine seg 11 [.v (iv e11)] [0, 2, 5, 13, 15, 16, 63] [e5, e6, e10, e4, e7, e9, (63, (bv (decide (e11 < 0))))] [.idx A18 x36 t13.1.length, .cell ((adr A18).add ((x36).toNat * 1)) (iv e11)] (fun fb => by kernel_rfl) rfl ⟨rowR.adr (rowO.rd (hS43.own 0).1) h49.1 h49.2, rowR.cell (rowO.rd (hS43.own 0).1) 0 h49.1 h49.2 0 rfl, trivial⟩ ?_
     injection hv47 with hv47
     subst hv47
     exact WL.toV K () [63, 0, 2, 5, 13, 15, 16] rfl trivial
    rintro _ _
    refine seg 12 [] [0, 2, 5, 13, 15, 16, 64] [e5, e6, e10, e4, e7, e9, (64, (bv b46))] [] (fun fb => by kernel_rfl) rfl trivial ?_
    obtain ⟨b50, hv51, hl44⟩ := bind_some hl44
    refine WL.cutV (T := Unit) 20 (fun t => [(72, (bv b50)), e5, e6, e10, e4, e7, e9]) (fun t => True) (fun K => ?_) ?_
    ·
     rcases br_some hv51 with ⟨h52, hv51⟩ | ⟨h52, hv51⟩
     ·
      refine WL.setB 64 h52 rfl ?_
      refine seg 20 [] [0, 2, 5, 13, 15, 16, 72] [e5, e6, e10, e4, e7, e9, (72, (bv true))] [] (fun fb => by kernel_rfl) rfl trivial ?_
      injection hv51 with hv51
      subst hv51
      exact WL.toV K () [72, 0, 2, 5, 13, 15, 16] rfl trivial
     refine WL.setB 64 h52 rfl ?_
     refine seg 14 [] [0, 2, 5, 13, 15, 16, 64, 65, 66] [e5, e6, e10, e4, e7, e9, (64, (bv false)), (65, (sv A18 t13.1 c19)), (66, (iv x36))] [] (fun fb => by kernel_rfl) rfl trivial ?_
     obtain ⟨h53, hv51⟩ := as_some hv51
     refine seg 20 [.v (iv e11)] [0, 2, 5, 13, 15, 16, 72] [e5, e6, e10, e4, e7, e9, (72, (bv (decide (e11 ≥ (p2.length : Int)))))] [.idx A18 x36 t13.1.length, .cell ((adr A18).add ((x36).toNat * 1)) (iv e11)] (fun fb => by kernel_rfl) rfl ⟨rowR.adr (rowO.rd (hS43.own 0).1) h53.1 h53.2, rowR.cell (rowO.rd (hS43.own 0).1) 0 h53.1 h53.2 0 rfl, trivial⟩ ?_
     injection hv51 with hv51
     subst hv51
     exact WL.toV K () [72, 0, 2, 5, 13, 15, 16] rfl trivial
    rintro _ _
    refine WL.done rfl (WX.next ?_)
    rcases br_some hl44 with ⟨h54, hl44⟩ | ⟨h54, hl44⟩
    ·refine WC.condT2 (fun fb => by kernel_rfl) h54 ?_
     refine WC.seq (WC.region ?_)
     refine seg 1 [] [12] [(12, (bv false))] [] (fun fb => by kernel_rfl) rfl trivial ?_
     refine WL.done rfl (WX.next ?_)
     refine WC.ret ?_
     injection hl44 with hl44
     subst hl44
     injection hf with hf
     subst hf
     exact WX.thenR (WX.blockR (WX.thenR (WX.thenR (WX.blockR (WX.thenR (WX.ret_ [] (bv false) [] (fun fb => by kernel_rfl) trivial ⟨_, rfl, rfl, hS43.keep⟩))))))
    refine WC.condF2 (fun fb => by kernel_rfl) h54 ?_
    refine WC.skip (WX.next ?_)
    obtain ⟨h57, hl44⟩ := as_some hl44
    obtain ⟨h58, hl44⟩ := as_some hl44
    obtain ⟨h59, hl44⟩ := as_some hl44
    refine WC.regionD (e3, [0, 1, 2, 3, 4, 5, 6, 7, 8, 9, 10, 11, 12, 13, 14, 15, 16, 17, 18, 19, 20, 21, 22, 23, 24, 26], [[], [0], [], [], [3], [], [], [5, 6], [], [], [], [9, 10], [9, 10, 11], [8, 9, 10, 11, 12], [8, 9, 10, 11, 12, 13], [8, 9, 10, 11, 12, 13, 14], [], [], [], [17, 18], [17, 18, 19], [16, 17, 18, 19, 20], [16, 17, 18, 19, 20, 21], [16, 17, 18, 19, 20, 21, 22], [0, 1, 2, 8, 9, 10, 11, 12, 13, 14, 15, 16, 17, 18, 19, 20, 21, 22, 23], [0, 1, 2, 8, 9, 10, 11, 12, 13, 14, 15, 16, 17, 18, 19, 20, 21, 22, 23, 24], [0, 1, 2, 3, 4, 5, 6, 7, 8, 9, 10, 11, 12, 13, 14, 15, 16, 17, 18, 19, 20, 21, 22, 23, 24, 25], [0, 1, 2, 3, 4, 5, 6, 7, 8, 9, 10, 11, 12, 13, 14, 15, 16, 17, 18, 19, 20, 21, 22, 23, 24, 25, 26]]) [[0, 1, 2, 3, 4, 5, 6, 7, 8, 9, 10, 11, 12, 13, 14, 15, 16, 17, 18, 19, 20, 21, 22, 23, 24, 25, 26, 27]] (by kernel_rfl) (by kernel_rfl) (NoPanic.block (NoPanic.seq (NoPanic.seq (NoPanic.block (NoPanic.seq (NoPanic.body)))))) ?_
    have hS56 := hS43.drew
    revert hS56
    generalize World.drew w42 = w55
    intro hS56
    refine ⟨⟨hS56.cell 1 rfl 2 rfl, hS56.cell 1 rfl 2 rfl, rowR.cell (rowO.rd (hS56.own 0).1) 0 h57.1 h57.2 0 rfl, rowR.cell (hS56.rd 2).1 z_A2_Int h58.1 h58.2 0 rfl, rowR.cell (rowO.rd (hS56.own 0).1) 0 h57.1 h57.2 0 rfl, rowR.cell (hS56.rd 2).1 z_A2_Int h58.1 h58.2 1 rfl, trivial⟩, forallC ?_ (forallN)⟩
    refine segF 25 [.v (sv A33 l35 c34), .v (sv A33 l35 c34), .v (iv e11), .v (iv (e2.e0)), .v (iv e11), .v (iv (e2.e1))] [0, 2, 5, 13, 15, 16, 77, 80, 88, 96, 97] [e5, e6, e10, e4, e7, e9, (77, (sv A33 l35 c34)), (80, (iv e16)), (88, (iv (e2.e0))), (96, (iv (e2.e1))), (97, (.pointer (some ((adr A33).add ((x36).toNat * 1)))))] [.idx A18 x36 t13.1.length, .idx Ac e11 p2.length, .idx A18 x36 t13.1.length, .idx Ac e11 p2.length, .idx A33 x36 l35.length] [0, 1, 2, 3, 4, 5] e3 (fun fb => by kernel_rfl) rfl ⟨rowR.adr (rowO.rd (hS56.own 0).1) h57.1 h57.2, rowR.adr (hS56.rd 2).1 h58.1 h58.2, rowR.adr (rowO.rd (hS56.own 0).1) h57.1 h57.2, rowR.adr (hS56.rd 2).1 h58.1 h58.2, rowR.adr (rowO.rd (hS56.own 2).1) h59.1 h59.2, trivial⟩ rfl ?_
    refine WL.storeRow hS56 2 rfl (x36) (e2.e0) (0) [(0, (iv (e2.e0)))] (fun fb => by kernel_rfl) h59.1 h59.2 (by kernel_rfl) rfl [0, 1] (by decide) (by decide) (fun w60 hS61 => ?_)
    refine ⟨⟨hS61.cell 2 rfl 2 rfl, trivial⟩, ?_⟩
    refine WL.reE [0, 2, 5, 13, 15, 16, 77, 80, 96] [(0, (.slice Aa p0.length ca)), (2, (.slice Ac p2.length cc)), (5, (iv p5)), (13, (.slice A18 t13.1.length c19)), (15, (pt g28)), (16, (iv x36)), (77, (.slice A33 l35.length c34)), (80, (iv (w64 (p5 + x36)))), (96, (iv ((rdD p2 (rdD t13.1 x36 0) z_A2_Int).e1)))] [(0, (.slice Aa p0.length ca)), (2, (.slice Ac p2.length cc)), (5, (iv p5)), (13, (.slice A18 t13.1.length c19)), (15, (pt g28)), (16, (iv x36)), (77, (.slice A33 (l35.set (x36).toNat ((rdD p2 (rdD t13.1 x36 0) z_A2_Int).e0)).length c34)), (80, (iv (w64 (p5 + x36)))), (96, (iv ((rdD p2 (rdD t13.1 x36 0) z_A2_Int).e1)))] rfl (by simp only [List.length_set]) ?_
    have hS62 := hS25.go w60 [rowO 3 encInt A33 c34 (l35.set (x36).toNat ((rdD p2 (rdD t13.1 x36 0) z_A2_Int).e0)), rowO 3 encInt A18 c19 t13.1, blk g28 (.cells #[(iv t21.Width), (iv t21.Height), (.slice A33 (l35.set (x36).toNat ((rdD p2 (rdD t13.1 x36 0) z_A2_Int).e0)).length c34)] 71 (0, 0))] (by simpa only [List.length_set] using (show St NoS w w60 [rowR enc_Tile Aa ca p0, rowR enc_Tile Ab cb p1, rowR enc_A2_Int Ac cc p2] [rowO 3 encInt A33 c34 (l35.set (x36).toNat ((rdD p2 (rdD t13.1 x36 0) z_A2_Int).e0)), rowO 3 encInt A18 c19 t13.1, blk g28 (.cells #[(iv t21.Width), (iv t21.Height), (.slice A33 l35.length c34)] 71 (0, 0))] from hS61))
    obtain ⟨h63, hl44⟩ := as_some hl44
    refine seg 27 [] [0, 2, 5, 13, 15, 16, 96, 98] [e5, e6, e10, e4, e7, e9, (96, (iv (e2.e1))), (98, (.pointer (some ((adr A33).add (e16.toNat * 1)))))] [.idx A33 e16 (l35.set (x36).toNat (e2.e0)).length] (fun fb => by kernel_rfl) rfl ⟨rowR.adr (rowO.rd (hS62.own 0).1) h63.1 h63.2, trivial⟩ ?_
    refine WL.storeRow hS62 0 rfl e16 (e2.e1) (0) [(0, (iv (e2.e1)))] (fun fb => by kernel_rfl) h63.1 h63.2 (by kernel_rfl) rfl [1, 2] (by decide) (by decide) (fun w65 hS66 => ?_)
    refine ⟨trivial, ?_⟩
    have hS67 := hS62.go w65 [rowO 3 encInt A33 c34 ((l35.set (x36).toNat ((rdD p2 (rdD t13.1 x36 0) z_A2_Int).e0)).set (w64 (p5 + x36)).toNat ((rdD p2 (rdD t13.1 x36 0) z_A2_Int).e1)), rowO 3 encInt A18 c19 t13.1, blk g28 (.cells #[(iv t21.Width), (iv t21.Height), (.slice A33 ((l35.set (x36).toNat ((rdD p2 (rdD t13.1 x36 0) z_A2_Int).e0)).set (w64 (p5 + x36)).toNat ((rdD p2 (rdD t13.1 x36 0) z_A2_Int).e1)).length c34)] 71 (0, 0))] (by simpa only [List.length_set] using (show St NoS w w65 [rowR enc_Tile Aa ca p0, rowR enc_Tile Ab cb p1, rowR enc_A2_Int Ac cc p2] [rowO 3 encInt A33 c34 ((l35.set (x36).toNat ((rdD p2 (rdD t13.1 x36 0) z_A2_Int).e0)).set (w64 (p5 + x36)).toNat ((rdD p2 (rdD t13.1 x36 0) z_A2_Int).e1)), rowO 3 encInt A18 c19 t13.1, blk g28 (.cells #[(iv t21.Width), (iv t21.Height), (.slice A33 (l35.set (x36).toNat ((rdD p2 (rdD t13.1 x36 0) z_A2_Int).e0)).length c34)] 71 (0, 0))] from hS66))
    refine WL.done rfl ?_
    refine WX.blockN (WX.next ?_)
    refine WC.region ?_
    refine seg 3 [] [0, 2, 5, 13, 15, 16] [e5, e6, e10, e4, e7, (16, (iv (w64 (x36 + 1))))] [] (fun fb => by kernel_rfl) rfl trivial ?_
    refine WL.done rfl ?_
    exact WX.again k41 (Nat.lt_succ_self _) (((l35.set (x36).toNat (e2.e0)).set e16.toNat (e2.e1), w64 (x36 + 1)), A33, c34) [0, 2, 5, 13, 15, 16] rfl ⟨(hS67.subR [0, 1, 2]).sub [1, 2, 0] (by decide), hl44⟩
   refine WC.condF2 (fun fb => by kernel_rfl) h45 ?_
   refine WC.exit ?_
   injection hl44 with hl44
   exact WX.thenX (WX.thenX (WX.blockHere (WX.to Kx39 (l35, A33, c34) [0, 15] rfl ⟨(hS43.subR [0, 1, 2]).sub [1, 2] (by decide), hl44.symm⟩)))
 rintro ⟨y71, A37, c38⟩ w68 ⟨hS69, hq70⟩
 subst hq70
 have hf := sum_inr hf
 refine WX.next (WC.seq (WC.region ?_))
 refine seg 2 [.v (iv t21.Width), .v (iv t21.Height), .v (sv A37 y71 c38)] [99, 100] [(99, (sv Aa p0 ca)), (100, (.agg #[(iv t21.Width), (iv t21.Height), (sv A37 y71 c38)]))] [.cell ⟨g28, 0, none⟩ (iv t21.Width), .cell ⟨g28, 1, none⟩ (iv t21.Height), .cell ⟨g28, 2, none⟩ (sv A37 y71 c38)] (fun fb => by kernel_rfl) rfl ⟨hS69.cell 0 rfl 0 rfl, hS69.cell 0 rfl 1 rfl, hS69.cell 0 rfl 2 rfl, trivial⟩ ?_
 obtain ⟨t72, ht73, hf⟩ := bind_some hf
 refine WL.call (some 101) 29 #[(sv Aa p0 ca), (.agg #[(iv t21.Width), (iv t21.Height), (sv A37 y71 c38)])] (fun fb => by kernel_rfl) (tile_Fits_calls _ p0 (Pattern.mk t21.Width t21.Height y71) Aa ca A37 c38 t72 _ (hS69.rd 0) (hS69.ow 1).ofO ht73) (fun v w74 hR75 => ?_)
 obtain ⟨rfl, hk_⟩ := hR75
 have hS76 := hS69.keepN hk_
 refine ⟨trivial, ?_⟩
 refine seg 4 [] [12] [(12, (bv t72))] [] (fun fb => by kernel_rfl) rfl trivial ?_
 refine WL.done rfl (WX.next ?_)
 refine WC.ret ?_
 injection hf with hf
 subst hf
 exact WX.ret_ [] (bv t72) [] (fun fb => by kernel_rfl) trivial ⟨_, rfl, rfl, hS76.keep⟩
end Gp
