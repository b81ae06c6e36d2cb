/- Walks: each function of the program computes its plain function. -/
import Derived.Test.YtchikbfmbfoaoaaDoorGx2
set_option linter.unusedVariables false
set_option linter.unusedSimpArgs false
set_option maxHeartbeats 4000000
set_option maxRecDepth 8000
namespace Gp
open Go Gw Go.Proofs
theorem fill_First_key95 : KeyK Tryd.prog 95 (aggI ints_A8_Int) := KeyK.array (n := 8) (by kernel_rfl) ints_A8_Int (fun _ => rfl) (fun x y h => by cases x; cases y; simp only [ints_A8_Int, List.cons.injEq, and_true] at h; obtain ⟨rfl, rfl, rfl, rfl, rfl, rfl, rfl, rfl⟩ := h; rfl)
theorem fill_First_calls (k : Nat) (p0 : List Tile) (p1 : Int) (p2 : Int) (p3 : Edges) (Aa : Option Addr) (ca : Nat) (Ab : Option Addr) (cb : Nat) (Ac : Option Addr) (cc : Nat) (Ad : Option Addr) (cd : Nat) (Ae : Option Addr) (ce : Nat) (r : Pattern × Int) (w : World) (hR0 : RO NoS w (rowR enc_Tile Aa ca p0)) (hR1 : RO NoS w (rowR encInt Ab cb p3.North)) (hR2 : RO NoS w (rowR encInt Ac cc p3.East)) (hR3 : RO NoS w (rowR encInt Ad cd p3.South)) (hR4 : RO NoS w (rowR encInt Ae ce p3.West)) (hf : fill_First k p0 p1 p2 p3 = some r) :
  CallsR Tryd.prog 26 #[(sv Aa p0 ca), (iv p1), (iv p2), (.agg #[(sv Ab p3.North cb), (sv Ac p3.East cc), (sv Ad p3.South cd), (sv Ae p3.West ce)])] w (fun v w' => ∃ (A1_ : Option Addr), ∃ (c1_ : Nat), v = (.tuple #[(.agg #[(iv r.1.Width), (iv r.1.Height), (sv A1_ r.1.Cells c1_)]), (iv r.2)]) ∧ St NoS w w' [] [rowO 3 encInt A1_ c1_ r.1.Cells]) := by
 have hS : St NoS w w [rowR enc_Tile Aa ca p0, rowR encInt Ab cb p3.North, rowR encInt Ac cc p3.East, rowR encInt Ad cd p3.South, rowR encInt Ae ce p3.West] [] := St.init (ro_cons hR0 (ro_cons hR1 (ro_cons hR2 (ro_cons hR3 (ro_cons hR4 (ro_nil _ _))))))
 refine enter 153 Tryd.func26 rfl Tryd.ntmps26 rfl ?_
 unfold fill_First at hf
 refine WC.seq (WC.region ?_)
 refine WL.new hS 7 [] (fun g => (pt g)) (.cells #[(sv Ab p3.North cb), (sv Ac p3.East cc), (sv Ad p3.South cd), (sv Ae p3.West ce)] 60 (0, 0)) [] (fun fb g => by kernel_rfl) trivial (fun g9 w10 hS11 => ?_)
 refine ⟨trivial, ?_⟩
 refine WL.new hS11 8 [] (fun g => (pt g)) (.cells #[(iv 0), (iv 0), (.slice none 0 0)] 47 (0, 0)) [] (fun fb g => by kernel_rfl) trivial (fun g12 w13 hS14 => ?_)
 refine ⟨trivial, ?_⟩
 refine seg 3 [] [0, 1, 2, 7, 8] [(0, (sv Aa p0 ca)), (1, (iv p1)), (2, (iv p2)), (7, (pt g9)), (8, (pt g12))] [] (fun fb => by kernel_rfl) rfl trivial ?_
 refine WL.done rfl (WX.next (WC.seq (WC.region ?_)))
 refine seg 4 [.v (sv Ab p3.North cb), .v (sv Ac p3.East cc), .v (sv Ad p3.South cd), .v (sv Ae p3.West ce)] [1, 2, 8, 23, 24, 25, 26] [(1, (iv p1)), (2, (iv p2)), (8, (pt g12)), (23, (sv Aa p0 ca)), (24, (iv p1)), (25, (iv p2)), (26, (.agg #[(sv Ab p3.North cb), (sv Ac p3.East cc), (sv Ad p3.South cd), (sv Ae p3.West ce)]))] [.cell ⟨g9, 0, none⟩ (sv Ab p3.North cb), .cell ⟨g9, 1, none⟩ (sv Ac p3.East cc), .cell ⟨g9, 2, none⟩ (sv Ad p3.South cd), .cell ⟨g9, 3, none⟩ (sv Ae p3.West ce)] (fun fb => by kernel_rfl) rfl ⟨hS14.cell 1 rfl 0 rfl, hS14.cell 1 rfl 1 rfl, hS14.cell 1 rfl 2 rfl, hS14.cell 1 rfl 3 rfl, trivial⟩ ?_
 obtain ⟨t15, ht16, hf⟩ := bind_some hf
 refine WL.call (some 27) 41 #[(sv Aa p0 ca), (iv p1), (iv p2), (.agg #[(sv Ab p3.North cb), (sv Ac p3.East cc), (sv Ad p3.South cd), (sv Ae p3.West ce)])] (fun fb => by kernel_rfl) (fill_begin_calls _ p0 p1 p2 p3 Aa ca Ab cb Ac cc Ad cd Ae ce t15 _ (hS14.rd 0) (hS14.rd 1) (hS14.rd 2) (hS14.rd 3) (hS14.rd 4) ht16) (fun v w17 hR18 => ?_)
 obtain ⟨g20, A21, c22, H23, rfl, hk_⟩ := hR18
 refine ⟨trivial, ?_⟩
 let e42 : List Own := [rowR enc_Tile Aa ca p0, rowR encInt Ab cb p3.North, rowR encInt Ac cc p3.East, rowR encInt Ad cd p3.South, rowR encInt Ae ce p3.West]
 let e60 : Nat × Value := (8, (pt g12))
 let e66 : Nat × Value := (2, (iv p2))
 let e69 := w64 (p2 - 1)
 let e97 : Nat × Value := (1, (iv p1))
 let e118 := aggI ints_A8_Int
 let e134 : Nat × Value := (13, (iv e69))
 let e141 : Nat × Value := (85, (iv p2))
 rcases optM_some hf with ⟨ho25, hf⟩ | ⟨y24, ho25, hf⟩
 ·
  have ho25 : t15.1 = none := ho25
  have hS19 := hS14.keepN (optS_none ho25 hk_)
  refine WL.reE [1, 2, 8, 23, 24, 25, 26, 27] [(1, (iv p1)), (2, (iv p2)), (8, (pt g12)), (23, (.slice Aa p0.length ca)), (24, (iv p1)), (25, (iv p2)), (26, (.agg #[(.slice Ab p3.North.length cb), (.slice Ac p3.East.length cc), (.slice Ad p3.South.length cd), (.slice Ae p3.West.length ce)])), (27, (.tuple #[(optP t15.1 g20), (iv t15.2)]))] [(1, (iv p1)), (2, (iv p2)), (8, (pt g12)), (23, (.slice Aa p0.length ca)), (24, (iv p1)), (25, (iv p2)), (26, (.agg #[(.slice Ab p3.North.length cb), (.slice Ac p3.East.length cc), (.slice Ad p3.South.length cd), (.slice Ae p3.West.length ce)])), (27, (.tuple #[(.pointer none), (iv t15.2)]))] rfl (by rw [ho25]; rfl) ?_
  refine seg 10 [] [1, 2, 8, 10, 11] [e97, e66, e60, (10, (.pointer none)), (11, (iv t15.2))] [] (fun fb => by kernel_rfl) rfl trivial ?_
  refine WL.done rfl (WX.next (WC.seq (WC.seq (WC.region ?_))))
  refine seg 2 [] [1, 2, 8, 10, 11, 31] [e97, e66, e60, (10, (.pointer none)), (11, (iv t15.2)), (31, (bv (t15.2 != 0)))] [] (fun fb => by kernel_rfl) rfl trivial ?_
  refine WL.done rfl (WX.next ?_)
  rcases br_some hf with ⟨h27, hf⟩ | ⟨h27, hf⟩
  ·refine WC.condT2 (fun fb => by kernel_rfl) h27 ?_
   refine WC.seq (WC.region ?_)
   refine seg 2 [] [8, 32, 33] [e60, (32, (.agg #[(iv 0), (iv 0), (.slice none 0 0)])), (33, (iv t15.2))] [] (fun fb => by kernel_rfl) rfl trivial ?_
   refine WL.store hS19 0 rfl [(0, (iv 0)), (1, (iv 0)), (2, (.slice none 0 0))] #[(iv 0), (iv 0), (.slice none 0 0)] (fun fb => by kernel_rfl) (by kernel_rfl) rfl [1] (by decide) (by decide) (fun w28 hS29 => ?_)
   refine ⟨trivial, ?_⟩
   refine seg 4 [] [8, 9] [e60, (9, (iv t15.2))] [] (fun fb => by kernel_rfl) rfl trivial ?_
   refine WL.done rfl (WX.next ?_)
   refine WC.ret ?_
   have hS30 := hS29.nilrow 3 encInt
   injection hf with hf
   subst hf
   exact WX.thenR (WX.ret_ [.v (iv 0), .v (iv 0), .v (.slice none 0 0)] (.tuple #[(.agg #[(iv 0), (iv 0), (sv none ([] : List Int) 0)]), (iv t15.2)]) [.cell ⟨g12, 0, none⟩ (iv 0), .cell ⟨g12, 1, none⟩ (iv 0), .cell ⟨g12, 2, none⟩ (.slice none 0 0)] (fun fb => by kernel_rfl) ⟨hS29.cell 0 rfl 0 rfl, hS29.cell 0 rfl 1 rfl, hS29.cell 0 rfl 2 rfl, trivial⟩ ⟨_, rfl, none, 0, rfl, (hS30.sub [0] (by decide)).noR⟩)
  refine WC.condF2 (fun fb => by kernel_rfl) h27 ?_
  refine WC.skip (WX.next (WC.seq (WC.region ?_)))
  refine seg 1 [] [1, 2, 8, 10, 34] [e97, e66, e60, (10, (.pointer none)), (34, (iv p2))] [] (fun fb => by kernel_rfl) rfl trivial ?_
  obtain ⟨h31, hf⟩ := as_some hf
  refine WL.make hS19 (e := (encMap A8_Int Bool)) (T := 90) (tS := 89) (z := (.map none)) (bytes := 8) (d := 35) ((0, none) : Nat × (Option (List (A8_Int × Bool)))) p2 (fun fb => by kernel_rfl) (by kernel_rfl) (by kernel_rfl) rfl (by decide) h31 (by decide) (fun g32 w33 hS34 => ?_)
  refine ⟨trivial, ?_⟩
  have hS35 := hS.go w33 [rowO 90 (encMap A8_Int Bool) (some ⟨g32, 0, none⟩) p2.toNat (tag g0 (List.replicate p2.toNat (none : Option (List (A8_Int × Bool))))), blk g12 (.cells #[(iv 0), (iv 0), (.slice none 0 0)] 47 (0, 0)), blk g9 (.cells #[(.slice Ab p3.North.length cb), (.slice Ac p3.East.length cc), (.slice Ad p3.South.length cd), (.slice Ae p3.West.length ce)] 60 (0, 0))] (by rw [show tag g0 (List.replicate p2.toNat (none : Option (List (A8_Int × Bool)))) = _ from tag_rep 0 none _]; exact hS34)
  have hS36 := hS35.mapsNil e118 vB g0 p2.toNat
  refine WL.reE [1, 2, 8, 10, 35] [(1, (iv p1)), (2, (iv p2)), (8, (pt g12)), (10, (.pointer none)), (35, (.slice (some ⟨g32, 0, none⟩) (List.replicate p2.toNat ((0, none) : Nat × (Option (List (A8_Int × Bool))))).length p2.toNat))] [(1, (iv p1)), (2, (iv p2)), (8, (pt g12)), (10, (.pointer none)), (35, (.slice (some ⟨g32, 0, none⟩) (List.replicate p2.toNat (none : Option (List (A8_Int × Bool)))).length p2.toNat))] rfl (by simp only [List.length_replicate]) ?_
  refine seg 3 [] [1, 2, 8, 10, 12] [e97, e66, e60, (10, (.pointer none)), (12, (sv (some ⟨g32, 0, none⟩) (List.replicate p2.toNat (none : Option (List (A8_Int × Bool)))) p2.toNat))] [] (fun fb => by kernel_rfl) rfl trivial ?_
  refine WL.done rfl (WX.next (WC.seq (WC.seq (WC.region ?_))))
  refine seg 3 [] [1, 2, 8, 10, 12, 13] [e97, e66, e60, (10, (.pointer none)), (12, (sv (some ⟨g32, 0, none⟩) (List.replicate p2.toNat (none : Option (List (A8_Int × Bool)))) p2.toNat)), e134] [] (fun fb => by kernel_rfl) rfl trivial ?_
  refine WL.done rfl (WX.next ?_)
  obtain ⟨x37, hx38, hf⟩ := bind_some hf
  let e57 := List (A8_Int × Bool)
  refine WC.cutN (T := Unit) (fun t => [e97, e66, e60, (10, (.pointer none)), (12, (sv (some ⟨g32, 0, none⟩) (List.replicate p2.toNat (none : Option e57)) p2.toNat))]) (fun t w1 => St NoS w w1 e42 [blk g12 (.cells #[(iv 0), (iv 0), (.slice none 0 0)] 47 (0, 0)), rowO 90 (encMap A8_Int Bool) (some ⟨g32, 0, none⟩) p2.toNat (tag g0 (List.replicate p2.toNat (none : Option e57))), mapsO e118 vB g0 (List.replicate p2.toNat (none : Option e57))] ∧ x37 = t) (fun Kx37 => ?_) ?_
  ·
   refine WC.block ?_
   refine WC.loop (T := Unit) (fun t => [e97, e66, e60, (10, (.pointer none)), (12, (sv (some ⟨g32, 0, none⟩) (List.replicate p2.toNat (none : Option e57)) p2.toNat)), e134]) (fun n t w1 => St NoS w w1 e42 [blk g12 (.cells #[(iv 0), (iv 0), (.slice none 0 0)] 47 (0, 0)), rowO 90 (encMap A8_Int Bool) (some ⟨g32, 0, none⟩) p2.toNat (tag g0 (List.replicate p2.toNat (none : Option e57))), mapsO e118 vB g0 (List.replicate p2.toNat (none : Option e57))] ∧ fill_First.l0 n p2 = some x37) k () [1, 2, 8, 10, 12, 13] rfl ⟨(hS36.subR [0, 1, 2, 3, 4]).sub [2, 1, 0] (by decide), hx38⟩ ?_
   rintro k39 ⟨⟩ w40 ⟨hS41, hl42⟩
   cases k39 with
   | zero => rw [fill_First.l0] at hl42; cases hl42
   | succ k39 =>
    rw [fill_First.l0] at hl42
    refine WC.seq (WC.seq (WC.region ?_))
    refine seg 2 [] [1, 2, 8, 10, 12, 13, 39] [e97, e66, e60, (10, (.pointer none)), (12, (sv (some ⟨g32, 0, none⟩) (List.replicate p2.toNat (none : Option e57)) p2.toNat)), e134, (39, (bv (decide (w64 (p2 - 1) ≥ 0))))] [] (fun fb => by kernel_rfl) rfl trivial ?_
    refine WL.done rfl (WX.next ?_)
    rcases br_some hl42 with ⟨h43, hl42⟩ | ⟨h43, hl42⟩
    ·refine WC.condT2 (fun fb => by kernel_rfl) h43 ?_
     refine WC.skip (WX.next (WC.seq (WC.block (WC.seq (WC.region ?_)))))
     refine seg 2 [] [1, 2, 8, 10, 12, 13, 42, 43] [e97, e66, e60, (10, (.pointer none)), (12, (sv (some ⟨g32, 0, none⟩) (List.replicate p2.toNat (none : Option e57)) p2.toNat)), e134, (42, (sv (some ⟨g32, 0, none⟩) (List.replicate p2.toNat (none : Option e57)) p2.toNat)), (43, (iv e69))] [] (fun fb => by kernel_rfl) rfl trivial ?_
     refine WL.new hS41 44 [] (fun g => (.map (some g))) (mapObj e118 vB ([] : List (A8_Int × Bool))) [] (fun fb g => by kernel_rfl) trivial (fun g44 w45 hS46 => ?_)
     refine ⟨trivial, ?_⟩
     obtain ⟨h47, hl42⟩ := as_some hl42
     refine seg 4 [] [1, 2, 8, 10, 12, 13, 44, 45] [e97, e66, e60, (10, (.pointer none)), (12, (sv (some ⟨g32, 0, none⟩) (List.replicate p2.toNat (none : Option e57)) p2.toNat)), e134, (44, (.map (some g44))), (45, (.pointer (some ((adr (some ⟨g32, 0, none⟩)).add (e69.toNat * 1)))))] [.idx (some ⟨g32, 0, none⟩) e69 (List.replicate p2.toNat (none : Option e57)).length] (fun fb => by kernel_rfl) rfl ⟨nrow_adr (rowO.rd (hS46.own 2).1) h47.1 h47.2, trivial⟩ ?_
     refine WL.storeRow hS46 2 rfl (w64 (p2 - 1)) (g44, some ([] : List (A8_Int × Bool))) (0, none) [(0, (.map (some g44)))] (fun fb => by kernel_rfl) h47.1 (by rw [tag_length]; exact h47.2) (by kernel_rfl) (by kernel_rfl) [0, 1, 3] (by decide) (by decide) (fun w48 hS49 => ?_)
     have hS50 := hS35.go w48 [rowO 90 (encMap A8_Int Bool) (some ⟨g32, 0, none⟩) p2.toNat (tag (updH g0 (w64 (p2 - 1)).toNat g44) ((List.replicate p2.toNat (none : Option (List (A8_Int × Bool)))).set (w64 (p2 - 1)).toNat (some ([] : List (A8_Int × Bool))))), blk g44 (mapObj (aggI ints_A8_Int) vB ([] : List (A8_Int × Bool))), blk g12 (.cells #[(iv 0), (iv 0), (.slice none 0 0)] 47 (0, 0)), mapsO (aggI ints_A8_Int) vB g0 (List.replicate p2.toNat (none : Option (List (A8_Int × Bool))))] (by rw [tag_set]; exact hS49)
     have hS51 := hS50.go w48 [mapsO e118 vB (updH g0 e69.toNat g44) ((List.replicate p2.toNat (none : Option e57)).set e69.toNat (some ([] : List (A8_Int × Bool)))), rowO 90 (encMap A8_Int Bool) (some ⟨g32, 0, none⟩) p2.toNat (tag (updH g0 e69.toNat g44) ((List.replicate p2.toNat (none : Option e57)).set e69.toNat (some ([] : List (A8_Int × Bool))))), blk g12 (.cells #[(iv 0), (iv 0), (.slice none 0 0)] 47 (0, 0))] (hS50.mapsSet 3 1 rfl rfl (by decide) (e69.toNat) [0, 2] (by decide) (by decide))
     refine ⟨trivial, ?_⟩
     refine WL.reE [1, 2, 8, 10, 12, 13] [(1, (iv p1)), (2, (iv p2)), (8, (pt g12)), (10, (.pointer none)), (12, (.slice (some ⟨g32, 0, none⟩) (List.replicate p2.toNat (none : Option (List (A8_Int × Bool)))).length p2.toNat)), (13, (iv (w64 (p2 - 1))))] [(1, (iv p1)), (2, (iv p2)), (8, (pt g12)), (10, (.pointer none)), (12, (.slice (some ⟨g32, 0, none⟩) ((List.replicate p2.toNat (none : Option (List (A8_Int × Bool)))).set (w64 (p2 - 1)).toNat (some ([] : List (A8_Int × Bool)))).length p2.toNat)), (13, (iv (w64 (p2 - 1))))] rfl (by simp only [List.length_set]) ?_
     refine WL.done rfl (WX.next (WC.seq (WC.region ?_)))
     refine seg 1 [] [1, 2, 8, 10, 12, 13, 46] [e97, e66, e60, (10, (.pointer none)), (12, (sv (some ⟨g32, 0, none⟩) ((List.replicate p2.toNat (none : Option e57)).set e69.toNat (some ([] : List (A8_Int × Bool)))) p2.toNat)), e134, (46, (.pointer none))] [] (fun fb => by kernel_rfl) rfl trivial ?_
     cases hl42
    refine WC.condF2 (fun fb => by kernel_rfl) h43 ?_
    refine WC.exit ?_
    injection hl42 with hl42
    exact WX.thenX (WX.thenX (WX.blockHere (WX.to Kx37 () [1, 2, 8, 10, 12] rfl ⟨(hS41.subR [0, 1, 2, 3, 4]).sub [0, 1, 2] (by decide), hl42.symm⟩)))
  rintro y55 w52 ⟨hS53, hq54⟩
  subst hq54
  refine WX.next (WC.seq (WC.region ?_))
  refine seg 3 [] [2, 8, 10, 12, 84] [e66, e60, (10, (.pointer none)), (12, (sv (some ⟨g32, 0, none⟩) (List.replicate p2.toNat (none : Option e57)) p2.toNat)), (84, (.agg #[(iv p1), (iv p2), (.slice none 0 0)]))] [] (fun fb => by kernel_rfl) rfl trivial ?_
  refine WL.new hS53 16 [] (fun g => (pt g)) (.cells #[(iv 0), (iv 0), (.slice none 0 0)] 47 (0, 0)) [] (fun fb g => by kernel_rfl) trivial (fun g56 w57 hS58 => ?_)
  refine ⟨trivial, ?_⟩
  refine WL.store hS58 0 rfl [(0, (iv p1)), (1, (iv p2)), (2, (.slice none 0 0))] #[(iv p1), (iv p2), (.slice none 0 0)] (fun fb => by kernel_rfl) (by kernel_rfl) rfl [1, 2, 3] (by decide) (by decide) (fun w59 hS60 => ?_)
  refine ⟨trivial, ?_⟩
  refine WL.done rfl (WX.next (WC.seq (WC.region ?_)))
  refine seg 1 [] [2, 8, 10, 12, 16, 17] [e66, e60, (10, (.pointer none)), (12, (sv (some ⟨g32, 0, none⟩) (List.replicate p2.toNat (none : Option e57)) p2.toNat)), (16, (pt g56)), (17, (.pointer none))] [] (fun fb => by kernel_rfl) rfl trivial ?_
  refine WL.done rfl (WX.next (WC.seq (WC.seq (WC.region ?_))))
  refine seg 2 [] [2, 8, 10, 12, 16, 17, 85, 86] [e66, e60, (10, (.pointer none)), (12, (sv (some ⟨g32, 0, none⟩) (List.replicate p2.toNat (none : Option e57)) p2.toNat)), (16, (pt g56)), (17, (.pointer none)), e141, (86, (iv 0))] [] (fun fb => by kernel_rfl) rfl trivial ?_
  refine WL.done rfl (WX.next ?_)
  obtain ⟨x61, hx62, hf⟩ := bind_some hf
  let e135 : Nat × Value := (16, (pt g56))
  refine WC.cutN (T := Unit) (fun t => [e60, e135]) (fun t w1 => St NoS w w1 e42 [blk g12 (.cells #[(iv 0), (iv 0), (.slice none 0 0)] 47 (0, 0)), blk g56 (.cells #[(iv p1), (iv p2), (.slice none 0 0)] 47 (0, 0))] ∧ x61 = t) (fun Kx61 => ?_) ?_
  ·
   refine WC.block ?_
   refine WC.loop (T := Unit) (fun t => [e66, e60, (10, (.pointer none)), (12, (sv (some ⟨g32, 0, none⟩) (List.replicate p2.toNat (none : Option e57)) p2.toNat)), e135, (17, (.pointer none)), e141, (86, (iv 0))]) (fun n t w1 => St NoS w w1 e42 [blk g12 (.cells #[(iv 0), (iv 0), (.slice none 0 0)] 47 (0, 0)), rowO 90 (encMap A8_Int Bool) (some ⟨g32, 0, none⟩) p2.toNat (tag g0 (List.replicate p2.toNat (none : Option e57))), mapsO e118 vB g0 (List.replicate p2.toNat (none : Option e57)), blk g56 (.cells #[(iv p1), (iv p2), (.slice none 0 0)] 47 (0, 0))] ∧ fill_First.l1 n p2 = some x61) k () [2, 8, 10, 12, 16, 17, 85, 86] rfl ⟨(hS60.subR [0, 1, 2, 3, 4]).sub [1, 2, 3, 0] (by decide), hx62⟩ ?_
   rintro k63 ⟨⟩ w65 ⟨hS66, hl67⟩
   cases k63 with
   | zero => rw [fill_First.l1] at hl67; cases hl67
   | succ k63 =>
    rw [fill_First.l1] at hl67
    refine WC.seq (WC.region ?_)
    refine seg 1 [] [2, 8, 10, 12, 16, 17, 85, 86, 87] [e66, e60, (10, (.pointer none)), (12, (sv (some ⟨g32, 0, none⟩) (List.replicate p2.toNat (none : Option e57)) p2.toNat)), e135, (17, (.pointer none)), e141, (86, (iv 0)), (87, (bv (decide (0 < p2))))] [] (fun fb => by kernel_rfl) rfl trivial ?_
    refine WL.done rfl (WX.next (WC.seq ?_))
    rcases br_some hl67 with ⟨h68, hl67⟩ | ⟨h68, hl67⟩
    ·refine WC.condT2 (fun fb => by kernel_rfl) h68 ?_
     refine WC.skip (WX.next (WC.seq (WC.block (WC.seq (WC.region ?_)))))
     refine seg 2 [] [2, 8, 10, 12, 16, 17, 18, 85, 86] [e66, e60, (10, (.pointer none)), (12, (sv (some ⟨g32, 0, none⟩) (List.replicate p2.toNat (none : Option e57)) p2.toNat)), e135, (17, (.pointer none)), (18, (iv 0)), e141, (86, (iv 0))] [] (fun fb => by kernel_rfl) rfl trivial ?_
     refine WL.done rfl (WX.next (WC.seq (WC.region ?_)))
     refine seg 1 [] [2, 8, 10, 12, 16, 17, 18, 19, 85, 86] [e66, e60, (10, (.pointer none)), (12, (sv (some ⟨g32, 0, none⟩) (List.replicate p2.toNat (none : Option e57)) p2.toNat)), e135, (17, (.pointer none)), (18, (iv 0)), (19, (iv (-1))), e141, (86, (iv 0))] [] (fun fb => by kernel_rfl) rfl trivial ?_
     refine WL.done rfl (WX.next (WC.seq (WC.seq (WC.region ?_))))
     refine seg 1 [] [2, 8, 10, 12, 16, 17, 18, 19, 85, 86, 89] [e66, e60, (10, (.pointer none)), (12, (sv (some ⟨g32, 0, none⟩) (List.replicate p2.toNat (none : Option e57)) p2.toNat)), e135, (17, (.pointer none)), (18, (iv 0)), (19, (iv (-1))), e141, (86, (iv 0)), (89, (.pointer none))] [] (fun fb => by kernel_rfl) rfl trivial ?_
     cases hl67
    refine WC.condF2 (fun fb => by kernel_rfl) h68 ?_
    refine WC.exit ?_
    injection hl67 with hl67
    exact WX.thenX (WX.thenX (WX.blockHere (WX.to Kx61 () [8, 16] rfl ⟨(hS66.subR [0, 1, 2, 3, 4]).sub [0, 3] (by decide), hl67.symm⟩)))
  rintro y72 w69 ⟨hS70, hq71⟩
  subst hq71
  refine WX.next (WC.seq (WC.region ?_))
  refine seg 1 [.v (iv p1), .v (iv p2), .v (.slice none 0 0)] [8, 152] [e60, (152, (.agg #[(iv p1), (iv p2), (.slice none 0 0)]))] [.cell ⟨g56, 0, none⟩ (iv p1), .cell ⟨g56, 1, none⟩ (iv p2), .cell ⟨g56, 2, none⟩ (.slice none 0 0)] (fun fb => by kernel_rfl) rfl ⟨hS70.cell 1 rfl 0 rfl, hS70.cell 1 rfl 1 rfl, hS70.cell 1 rfl 2 rfl, trivial⟩ ?_
  refine WL.store hS70 0 rfl [(0, (iv p1)), (1, (iv p2)), (2, (.slice none 0 0))] #[(iv p1), (iv p2), (.slice none 0 0)] (fun fb => by kernel_rfl) (by kernel_rfl) rfl [1] (by decide) (by decide) (fun w73 hS74 => ?_)
  refine ⟨trivial, ?_⟩
  refine seg 3 [] [8, 9] [e60, (9, (iv 0))] [] (fun fb => by kernel_rfl) rfl trivial ?_
  refine WL.done rfl (WX.next ?_)
  refine WC.ret ?_
  have hS75 := hS74.nilrow 3 encInt
  injection hf with hf
  subst hf
  exact WX.ret_ [.v (iv p1), .v (iv p2), .v (.slice none 0 0)] (.tuple #[(.agg #[(iv p1), (iv p2), (sv none ([] : List Int) 0)]), (iv 0)]) [.cell ⟨g12, 0, none⟩ (iv p1), .cell ⟨g12, 1, none⟩ (iv p2), .cell ⟨g12, 2, none⟩ (.slice none 0 0)] (fun fb => by kernel_rfl) ⟨hS74.cell 0 rfl 0 rfl, hS74.cell 0 rfl 1 rfl, hS74.cell 0 rfl 2 rfl, trivial⟩ ⟨_, rfl, none, 0, rfl, (hS75.sub [0] (by decide)).noR⟩
 have ho25 : t15.1 = some y24 := ho25
 have hk_ := optS_some ho25 hk_
 have hS19 := hS.go w17 [blk g20 (.cells #[(.slice A21 y24.rows.length c22), (iv y24.width), (iv y24.height), (.slice Ab p3.North.length cb), (.slice Ac p3.East.length cc), (.slice Ad p3.South.length cd), (.slice Ae p3.West.length ce)] 93 (0, 0)), rowO 97 encN_Row A21 c22 (tag H23 y24.rows), poolO [nestO subN_Row H23 y24.rows], blk g12 (.cells #[(iv 0), (iv 0), (.slice none 0 0)] 47 (0, 0)), blk g9 (.cells #[(.slice Ab p3.North.length cb), (.slice Ac p3.East.length cc), (.slice Ad p3.South.length cd), (.slice Ae p3.West.length ce)] 60 (0, 0))] (hS14.call hk_ [] [0, 1] (fun g hg => hg.elim) (by simp) (by decide))
 refine WL.reE [1, 2, 8, 23, 24, 25, 26, 27] [(1, (iv p1)), (2, (iv p2)), (8, (pt g12)), (23, (.slice Aa p0.length ca)), (24, (iv p1)), (25, (iv p2)), (26, (.agg #[(.slice Ab p3.North.length cb), (.slice Ac p3.East.length cc), (.slice Ad p3.South.length cd), (.slice Ae p3.West.length ce)])), (27, (.tuple #[(optP t15.1 g20), (iv t15.2)]))] [(1, (iv p1)), (2, (iv p2)), (8, (pt g12)), (23, (.slice Aa p0.length ca)), (24, (iv p1)), (25, (iv p2)), (26, (.agg #[(.slice Ab p3.North.length cb), (.slice Ac p3.East.length cc), (.slice Ad p3.South.length cd), (.slice Ae p3.West.length ce)])), (27, (.tuple #[(pt g20), (iv t15.2)]))] rfl (by rw [ho25]; rfl) ?_
 refine seg 10 [] [1, 2, 8, 10, 11] [e97, e66, e60, (10, (pt g20)), (11, (iv t15.2))] [] (fun fb => by kernel_rfl) rfl trivial ?_
 refine WL.done rfl (WX.next (WC.seq (WC.seq (WC.region ?_))))
 refine seg 2 [] [1, 2, 8, 10, 11, 31] [e97, e66, e60, (10, (pt g20)), (11, (iv t15.2)), (31, (bv (t15.2 != 0)))] [] (fun fb => by kernel_rfl) rfl trivial ?_
 refine WL.done rfl (WX.next ?_)
 rcases br_some hf with ⟨h76, hf⟩ | ⟨h76, hf⟩
 ·refine WC.condT2 (fun fb => by kernel_rfl) h76 ?_
  refine WC.seq (WC.region ?_)
  refine seg 2 [] [8, 32, 33] [e60, (32, (.agg #[(iv 0), (iv 0), (.slice none 0 0)])), (33, (iv t15.2))] [] (fun fb => by kernel_rfl) rfl trivial ?_
  refine WL.store hS19 3 rfl [(0, (iv 0)), (1, (iv 0)), (2, (.slice none 0 0))] #[(iv 0), (iv 0), (.slice none 0 0)] (fun fb => by kernel_rfl) (by kernel_rfl) rfl [0, 1, 2, 4] (by decide) (by decide) (fun w77 hS78 => ?_)
  refine ⟨trivial, ?_⟩
  refine seg 4 [] [8, 9] [e60, (9, (iv t15.2))] [] (fun fb => by kernel_rfl) rfl trivial ?_
  refine WL.done rfl (WX.next ?_)
  refine WC.ret ?_
  have hS79 := hS78.nilrow 3 encInt
  injection hf with hf
  subst hf
  exact WX.thenR (WX.ret_ [.v (iv 0), .v (iv 0), .v (.slice none 0 0)] (.tuple #[(.agg #[(iv 0), (iv 0), (sv none ([] : List Int) 0)]), (iv t15.2)]) [.cell ⟨g12, 0, none⟩ (iv 0), .cell ⟨g12, 1, none⟩ (iv 0), .cell ⟨g12, 2, none⟩ (.slice none 0 0)] (fun fb => by kernel_rfl) ⟨hS78.cell 0 rfl 0 rfl, hS78.cell 0 rfl 1 rfl, hS78.cell 0 rfl 2 rfl, trivial⟩ ⟨_, rfl, none, 0, rfl, (hS79.sub [0] (by decide)).noR⟩)
 refine WC.condF2 (fun fb => by kernel_rfl) h76 ?_
 refine WC.skip (WX.next (WC.seq (WC.region ?_)))
 refine seg 1 [] [1, 2, 8, 10, 34] [e97, e66, e60, (10, (pt g20)), (34, (iv p2))] [] (fun fb => by kernel_rfl) rfl trivial ?_
 obtain ⟨h80, hf⟩ := as_some hf
 refine WL.make hS19 (e := (encMap A8_Int Bool)) (T := 90) (tS := 89) (z := (.map none)) (bytes := 8) (d := 35) ((0, none) : Nat × (Option (List (A8_Int × Bool)))) p2 (fun fb => by kernel_rfl) (by kernel_rfl) (by kernel_rfl) rfl (by decide) h80 (by decide) (fun g81 w82 hS83 => ?_)
 refine ⟨trivial, ?_⟩
 have hS84 := hS19.go w82 [rowO 90 (encMap A8_Int Bool) (some ⟨g81, 0, none⟩) p2.toNat (tag g0 (List.replicate p2.toNat (none : Option (List (A8_Int × Bool))))), blk g20 (.cells #[(.slice A21 y24.rows.length c22), (iv y24.width), (iv y24.height), (.slice Ab p3.North.length cb), (.slice Ac p3.East.length cc), (.slice Ad p3.South.length cd), (.slice Ae p3.West.length ce)] 93 (0, 0)), rowO 97 encN_Row A21 c22 (tag H23 y24.rows), poolO [nestO subN_Row H23 y24.rows], blk g12 (.cells #[(iv 0), (iv 0), (.slice none 0 0)] 47 (0, 0)), blk g9 (.cells #[(.slice Ab p3.North.length cb), (.slice Ac p3.East.length cc), (.slice Ad p3.South.length cd), (.slice Ae p3.West.length ce)] 60 (0, 0))] (by rw [show tag g0 (List.replicate p2.toNat (none : Option (List (A8_Int × Bool)))) = _ from tag_rep 0 none _]; exact hS83)
 have hS85 := hS84.mapsNil e118 vB g0 p2.toNat
 refine WL.reE [1, 2, 8, 10, 35] [(1, (iv p1)), (2, (iv p2)), (8, (pt g12)), (10, (pt g20)), (35, (.slice (some ⟨g81, 0, none⟩) (List.replicate p2.toNat ((0, none) : Nat × (Option (List (A8_Int × Bool))))).length p2.toNat))] [(1, (iv p1)), (2, (iv p2)), (8, (pt g12)), (10, (pt g20)), (35, (.slice (some ⟨g81, 0, none⟩) (List.replicate p2.toNat (none : Option (List (A8_Int × Bool)))).length p2.toNat))] rfl (by simp only [List.length_replicate]) ?_
 refine seg 3 [] [1, 2, 8, 10, 12] [e97, e66, e60, (10, (pt g20)), (12, (sv (some ⟨g81, 0, none⟩) (List.replicate p2.toNat (none : Option (List (A8_Int × Bool)))) p2.toNat))] [] (fun fb => by kernel_rfl) rfl trivial ?_
 refine WL.done rfl (WX.next (WC.seq (WC.seq (WC.region ?_))))
 refine seg 3 [] [1, 2, 8, 10, 12, 13] [e97, e66, e60, (10, (pt g20)), (12, (sv (some ⟨g81, 0, none⟩) (List.replicate p2.toNat (none : Option (List (A8_Int × Bool)))) p2.toNat)), e134] [] (fun fb => by kernel_rfl) rfl trivial ?_
 refine WL.done rfl (WX.next ?_)
 obtain ⟨x94, hx96, hf⟩ := bind_some hf
 let e16 : Array Value := #[(sv A21 y24.rows c22), (iv y24.width), (iv y24.height), (sv Ab p3.North cb), (sv Ac p3.East cc), (sv Ad p3.South cd), (sv Ae p3.West ce)]
 let e22 : Nat × Value := (50, (iv (y24.rows.length : Int)))
 let e28 : List Own := e42
 let e33 : Nat × Value := (49, (sv A21 y24.rows c22))
 let e49 : Nat × Value := (10, (pt g20))
 let e52 : Nat × Value := e60
 let e55 : Nat × Value := e97
 let e56 : Nat × Value := e66
 let e63 : List Nat := [1, 2, 8, 10, 12, 13, 15, 49, 50, 51, 74]
 let e64 : List Own := [nestO subN_Row H23 y24.rows]
 let e70 := aggI ints_A8_Int
 let e71 : List Nat := [1, 2, 8, 10, 12, 13, 49, 50, 51]
 let e73 : List Nat := [0, 1, 2, 3, 4]
 let e74 : List Nat := [0, 1, 2, 3, 4, 5, 6, 7, 8, 9, 10, 11, 12, 13, 14, 15, 16, 17, 18]
 let e79 := tag H23 y24.rows
 let e98 : List Nat := [0, 1, 2, 3, 4, 5]
 let e121 := [[0, 1, 2, 3, 4, 5, 6, 7, 8, 9, 10, 11, 12, 13, 15, 16, 14, 17, 18, 19]]
 let e136 : List Nat := [1, 2, 8, 10, 12, 13]
 let e137 : List Nat := [0, 1, 2, 3, 4, 5, 6, 7, 8, 9]
 refine WC.cutN (T := (List (Option (List (A8_Int × Bool)))) × (Option Addr) × Nat × (Nat → Nat)) (fun t => [e55, e56, e52, e49, (12, (sv t.2.1 t.1 t.2.2.1))]) (fun t w1 => St NoS w w1 e28 [blk g12 (.cells #[(iv 0), (iv 0), (.slice none 0 0)] 47 (0, 0)), blk g20 (.cells e16 93 (0, 0)), rowO 97 encN_Row A21 c22 e79, poolO e64, rowO 90 (encMap A8_Int Bool) t.2.1 t.2.2.1 (tag t.2.2.2 t.1), mapsO e70 vB t.2.2.2 t.1] ∧ x94 = t.1) (fun Kx94 => ?_) ?_
 ·
  refine WC.block ?_
  refine WC.loop (T := ((List (Option (List (A8_Int × Bool)))) × Int) × (Option Addr) × Nat × (Nat → Nat)) (fun t => [e55, e56, e52, e49, (12, (sv t.2.1 t.1.1 t.2.2.1)), (13, (iv t.1.2))]) (fun n t w1 => St NoS w w1 e28 [blk g12 (.cells #[(iv 0), (iv 0), (.slice none 0 0)] 47 (0, 0)), blk g20 (.cells e16 93 (0, 0)), rowO 97 encN_Row A21 c22 e79, poolO e64, rowO 90 (encMap A8_Int Bool) t.2.1 t.2.2.1 (tag t.2.2.2 t.1.1), mapsO e70 vB t.2.2.2 t.1.1] ∧ fill_First.l2 n t.1.1 t.1.2 p2 p3 y24 = some x94) k (((List.replicate p2.toNat (none : Option (List (A8_Int × Bool)))), w64 (p2 - 1)), (some ⟨g81, 0, none⟩), p2.toNat, g0) e136 rfl ⟨(hS85.subR e73).sub [5, 2, 3, 4, 1, 0] (by decide), hx96⟩ ?_
  rintro k97 ⟨⟨l88, x90⟩, A86, c87, H89⟩ w98 ⟨hS99, hl100⟩
  let e53 : Nat × Value := (13, (iv x90))
  let e120 := w64 (x90 + 1)
  cases k97 with
  | zero => rw [fill_First.l2] at hl100; cases hl100
  | succ k97 =>
   rw [fill_First.l2] at hl100
   refine WC.seq (WC.seq (WC.region ?_))
   refine seg 2 [] [1, 2, 8, 10, 12, 13, 39] [e55, e56, e52, e49, (12, (sv A86 l88 c87)), e53, (39, (bv (decide (x90 ≥ 0))))] [] (fun fb => by kernel_rfl) rfl trivial ?_
   refine WL.done rfl (WX.next ?_)
   rcases br_some hl100 with ⟨h101, hl100⟩ | ⟨h101, hl100⟩
   ·refine WC.condT2 (fun fb => by kernel_rfl) h101 ?_
    refine WC.skip (WX.next (WC.seq (WC.block (WC.seq (WC.region ?_)))))
    refine seg 2 [] [1, 2, 8, 10, 12, 13, 42, 43] [e55, e56, e52, e49, (12, (sv A86 l88 c87)), e53, (42, (sv A86 l88 c87)), (43, (iv x90))] [] (fun fb => by kernel_rfl) rfl trivial ?_
    refine WL.new hS99 44 [] (fun g => (.map (some g))) (mapObj e70 vB ([] : List (A8_Int × Bool))) [] (fun fb g => by kernel_rfl) trivial (fun g102 w103 hS104 => ?_)
    refine ⟨trivial, ?_⟩
    obtain ⟨h105, hl100⟩ := as_some hl100
    refine seg 4 [] [1, 2, 8, 10, 12, 13, 44, 45] [e55, e56, e52, e49, (12, (sv A86 l88 c87)), e53, (44, (.map (some g102))), (45, (.pointer (some ((adr A86).add ((x90).toNat * 1)))))] [.idx A86 x90 l88.length] (fun fb => by kernel_rfl) rfl ⟨nrow_adr (rowO.rd (hS104.own 5).1) h105.1 h105.2, trivial⟩ ?_
    refine WL.storeRow hS104 5 rfl (x90) (g102, some ([] : List (A8_Int × Bool))) (0, none) [(0, (.map (some g102)))] (fun fb => by kernel_rfl) h105.1 (by rw [tag_length]; exact h105.2) (by kernel_rfl) (by kernel_rfl) [0, 1, 2, 3, 4, 6] (by decide) (by decide) (fun w106 hS107 => ?_)
    have hS108 := hS84.go w106 [rowO 90 (encMap A8_Int Bool) A86 c87 (tag (updH H89 x90.toNat g102) (l88.set x90.toNat (some ([] : List (A8_Int × Bool))))), blk g102 (mapObj (aggI ints_A8_Int) vB ([] : List (A8_Int × Bool))), blk g12 (.cells #[(iv 0), (iv 0), (.slice none 0 0)] 47 (0, 0)), blk g20 (.cells #[(.slice A21 y24.rows.length c22), (iv y24.width), (iv y24.height), (.slice Ab p3.North.length cb), (.slice Ac p3.East.length cc), (.slice Ad p3.South.length cd), (.slice Ae p3.West.length ce)] 93 (0, 0)), rowO 97 encN_Row A21 c22 (tag H23 y24.rows), poolO [nestO subN_Row H23 y24.rows], mapsO (aggI ints_A8_Int) vB H89 l88] (by rw [tag_set]; exact hS107)
    have hS109 := hS108.go w106 [mapsO e70 vB (updH H89 x90.toNat g102) (l88.set x90.toNat (some ([] : List (A8_Int × Bool)))), rowO 90 (encMap A8_Int Bool) A86 c87 (tag (updH H89 x90.toNat g102) (l88.set x90.toNat (some ([] : List (A8_Int × Bool))))), blk g12 (.cells #[(iv 0), (iv 0), (.slice none 0 0)] 47 (0, 0)), blk g20 (.cells e16 93 (0, 0)), rowO 97 encN_Row A21 c22 e79, poolO e64] (hS108.mapsSet 6 1 rfl rfl (by decide) (x90.toNat) [0, 2, 3, 4, 5] (by decide) (by decide))
    refine ⟨trivial, ?_⟩
    refine WL.reE [1, 2, 8, 10, 12, 13] [(1, (iv p1)), (2, (iv p2)), (8, (pt g12)), (10, (pt g20)), (12, (.slice A86 l88.length c87)), (13, (iv x90))] [(1, (iv p1)), (2, (iv p2)), (8, (pt g12)), (10, (pt g20)), (12, (.slice A86 (l88.set x90.toNat (some ([] : List (A8_Int × Bool)))).length c87)), (13, (iv x90))] rfl (by simp only [List.length_set]) ?_
    refine WL.done rfl (WX.next (WC.seq (WC.region ?_)))
    refine seg 6 [.v (sv A21 y24.rows c22)] e71 [e55, e56, e52, e49, (12, (sv A86 (l88.set x90.toNat (some ([] : List (A8_Int × Bool)))) c87)), e53, e33, e22, (51, (iv 0))] [.cell ⟨g20, 0, none⟩ (sv A21 y24.rows c22)] (fun fb => by kernel_rfl) rfl ⟨hS109.cell 3 rfl 0 rfl, trivial⟩ ?_
    refine WL.done rfl (WX.next ?_)
    obtain ⟨x118, hx119, hl100⟩ := bind_some hl100
    refine WC.cutN (T := (List (Option (List (A8_Int × Bool)))) × (Option Addr) × Nat × (Nat → Nat)) (fun t => [e55, e56, e52, e49, (12, (sv t.2.1 t.1 t.2.2.1)), e53]) (fun t w1 => St NoS w w1 e28 [blk g12 (.cells #[(iv 0), (iv 0), (.slice none 0 0)] 47 (0, 0)), blk g20 (.cells e16 93 (0, 0)), rowO 97 encN_Row A21 c22 e79, poolO e64, rowO 90 (encMap A8_Int Bool) t.2.1 t.2.2.1 (tag t.2.2.2 t.1), mapsO e70 vB t.2.2.2 t.1] ∧ x118 = t.1) (fun Kx118 => ?_) ?_
    ·
     refine WC.block ?_
     refine WC.loop (T := ((List (Option (List (A8_Int × Bool)))) × Int) × (Option Addr) × Nat × (Nat → Nat)) (fun t => [e55, e56, e52, e49, (12, (sv t.2.1 t.1.1 t.2.2.1)), e53, e33, e22, (51, (iv t.1.2))]) (fun n t w1 => St NoS w w1 e28 [blk g12 (.cells #[(iv 0), (iv 0), (.slice none 0 0)] 47 (0, 0)), blk g20 (.cells e16 93 (0, 0)), rowO 97 encN_Row A21 c22 e79, poolO e64, rowO 90 (encMap A8_Int Bool) t.2.1 t.2.2.1 (tag t.2.2.2 t.1.1), mapsO e70 vB t.2.2.2 t.1.1] ∧ fill_First.l3 n t.1.1 t.1.2 p2 p3 y24 x90 = some x118) k97 ((l88.set x90.toNat (some ([] : List (A8_Int × Bool))), 0), A86, c87, (updH H89 x90.toNat g102)) e71 rfl ⟨(hS109.subR e73).sub [2, 3, 4, 5, 1, 0] (by decide), hx119⟩ ?_
     rintro k120 ⟨⟨l112, x114⟩, A110, c111, H113⟩ w121 ⟨hS122, hl123⟩
     let e9 := rdD y24.rows x114 z_Row
     let e10 : Array Value := #[(sv ((H23 x114.toNat 0).1) (e9.Cells) ((H23 x114.toNat 0).2)), (iv ((e9.South).e0)), (iv ((e9.South).e1)), (iv ((e9.South).e2)), (iv ((e9.South).e3)), (iv ((e9.South).e4)), (iv ((e9.South).e5)), (iv ((e9.South).e6)), (iv ((e9.South).e7)), (iv ((e9.North).e0)), (iv ((e9.North).e1)), (iv ((e9.North).e2)), (iv ((e9.North).e3)), (iv ((e9.North).e4)), (iv ((e9.North).e5)), (iv ((e9.North).e6)), (iv ((e9.North).e7)), (iv (e9.West)), (iv (e9.East))]
     let e23 := e9.North
     let e29 := e9.South
     let e30 := (adr A21).add ((x114).toNat * 19)
     let e43 : Nat × Value := (12, (sv A110 l112 c111))
     let e45 := sv ((H23 x114.toNat 0).1) (e9.Cells) ((H23 x114.toNat 0).2)
     let e61 : Nat × Value := (51, (iv x114))
     let e76 : Array Value := #[(iv (e23.e0)), (iv (e23.e1)), (iv (e23.e2)), (iv (e23.e3)), (iv (e23.e4)), (iv (e23.e5)), (iv (e23.e6)), (iv (e23.e7))]
     let e80 := iv (e29.e0)
     let e81 := iv (e29.e1)
     let e82 := iv (e29.e2)
     let e83 := iv (e29.e3)
     let e84 := iv (e29.e4)
     let e85 := iv (e29.e5)
     let e86 := iv (e29.e6)
     let e87 := iv (e29.e7)
     let e100 := iv (e23.e0)
     let e101 := iv (e23.e1)
     let e102 := iv (e23.e2)
     let e103 := iv (e23.e3)
     let e104 := iv (e23.e4)
     let e105 := iv (e23.e5)
     let e106 := iv (e23.e6)
     let e107 := iv (e23.e7)
     let e125 := iv (e9.West)
     let e126 := iv (e9.East)
     let e132 := some (H113 x90.toNat)
     cases k120 with
     | zero => rw [fill_First.l3] at hl123; cases hl123
     | succ k120 =>
      rw [fill_First.l3] at hl123
      refine WC.seq (WC.region ?_)
      refine seg 1 [] [1, 2, 8, 10, 12, 13, 49, 50, 51, 52] [e55, e56, e52, e49, e43, e53, e33, e22, e61, (52, (bv (decide (x114 < (y24.rows.length : Int)))))] [] (fun fb => by kernel_rfl) rfl trivial ?_
      refine WL.done rfl (WX.next (WC.seq ?_))
      rcases br_some hl123 with ⟨h124, hl123⟩ | ⟨h124, hl123⟩
      ·refine WC.condT2 (fun fb => by kernel_rfl) h124 ?_
       refine WC.skip (WX.next (WC.seq (WC.block (WC.seq (WC.region ?_)))))
       obtain ⟨h125, hl123⟩ := as_some hl123
       refine seg 2 [.v e45, .v e80, .v e81, .v e82, .v e83, .v e84, .v e85, .v e86, .v e87, .v e100, .v e101, .v e102, .v e103, .v e104, .v e105, .v e106, .v e107, .v e125, .v e126] [1, 2, 8, 10, 12, 13, 49, 50, 51, 54] [e55, e56, e52, e49, e43, e53, e33, e22, e61, (54, (.agg e10))] [.idx A21 x114 y24.rows.length, .cell e30 e45, .cell (e30.add 1) e80, .cell (e30.add 2) e81, .cell (e30.add 3) e82, .cell (e30.add 4) e83, .cell (e30.add 5) e84, .cell (e30.add 6) e85, .cell (e30.add 7) e86, .cell (e30.add 8) e87, .cell (e30.add 9) e100, .cell (e30.add 10) e101, .cell (e30.add 11) e102, .cell (e30.add 12) e103, .cell (e30.add 13) e104, .cell (e30.add 14) e105, .cell (e30.add 15) e106, .cell (e30.add 16) e107, .cell (e30.add 17) e125, .cell (e30.add 18) e126] (fun fb => by kernel_rfl) rfl ⟨nrow_adr (rowO.rd (hS122.own 2).1) h125.1 h125.2, nrow_cell (rowO.rd (hS122.own 2).1) z_Row h125.1 h125.2 0 rfl, nrow_cell (rowO.rd (hS122.own 2).1) z_Row h125.1 h125.2 1 rfl, nrow_cell (rowO.rd (hS122.own 2).1) z_Row h125.1 h125.2 2 rfl, nrow_cell (rowO.rd (hS122.own 2).1) z_Row h125.1 h125.2 3 rfl, nrow_cell (rowO.rd (hS122.own 2).1) z_Row h125.1 h125.2 4 rfl, nrow_cell (rowO.rd (hS122.own 2).1) z_Row h125.1 h125.2 5 rfl, nrow_cell (rowO.rd (hS122.own 2).1) z_Row h125.1 h125.2 6 rfl, nrow_cell (rowO.rd (hS122.own 2).1) z_Row h125.1 h125.2 7 rfl, nrow_cell (rowO.rd (hS122.own 2).1) z_Row h125.1 h125.2 8 rfl, nrow_cell (rowO.rd (hS122.own 2).1) z_Row h125.1 h125.2 9 rfl, nrow_cell (rowO.rd (hS122.own 2).1) z_Row h125.1 h125.2 10 rfl, nrow_cell (rowO.rd (hS122.own 2).1) z_Row h125.1 h125.2 11 rfl, nrow_cell (rowO.rd (hS122.own 2).1) z_Row h125.1 h125.2 12 rfl, nrow_cell (rowO.rd (hS122.own 2).1) z_Row h125.1 h125.2 13 rfl, nrow_cell (rowO.rd (hS122.own 2).1) z_Row h125.1 h125.2 14 rfl, nrow_cell (rowO.rd (hS122.own 2).1) z_Row h125.1 h125.2 15 rfl, nrow_cell (rowO.rd (hS122.own 2).1) z_Row h125.1 h125.2 16 rfl, nrow_cell (rowO.rd (hS122.own 2).1) z_Row h125.1 h125.2 17 rfl, nrow_cell (rowO.rd (hS122.own 2).1) z_Row h125.1 h125.2 18 rfl, trivial⟩ ?_
       refine WL.new hS122 15 [] (fun g => (pt g)) (.cells #[(.slice none 0 0), (iv 0), (iv 0), (iv 0), (iv 0), (iv 0), (iv 0), (iv 0), (iv 0), (iv 0), (iv 0), (iv 0), (iv 0), (iv 0), (iv 0), (iv 0), (iv 0), (iv 0), (iv 0)] 97 (0, 0)) [] (fun fb g => by kernel_rfl) trivial (fun g126 w127 hS128 => ?_)
       refine ⟨trivial, ?_⟩
       refine WL.store hS128 0 rfl [(0, e45), (1, e80), (2, e81), (3, e82), (4, e83), (5, e84), (6, e85), (7, e86), (8, e87), (9, e100), (10, e101), (11, e102), (12, e103), (13, e104), (14, e105), (15, e106), (16, e107), (17, e125), (18, e126)] e10 (fun fb => by kernel_rfl) (by kernel_rfl) (by kernel_rfl) [1, 2, 3, 4, 5, 6] (by decide) (by decide) (fun w129 hS130 => ?_)
       refine ⟨trivial, ?_⟩
       refine WL.done rfl (WX.next (WC.seq ?_))
       obtain ⟨x131, hx132, hl123⟩ := bind_some hl123
       let e14 : List (Nat × Addr × Value) := [(1, ⟨g126, 0, none⟩, e45), (1, ⟨g126, 1, none⟩, e80), (1, ⟨g126, 2, none⟩, e81), (1, ⟨g126, 3, none⟩, e82), (1, ⟨g126, 4, none⟩, e83), (1, ⟨g126, 5, none⟩, e84), (1, ⟨g126, 6, none⟩, e85), (1, ⟨g126, 7, none⟩, e86), (1, ⟨g126, 8, none⟩, e87), (1, ⟨g126, 9, none⟩, e100), (1, ⟨g126, 10, none⟩, e101), (1, ⟨g126, 11, none⟩, e102), (1, ⟨g126, 12, none⟩, e103), (1, ⟨g126, 13, none⟩, e104), (1, ⟨g126, 14, none⟩, e105), (1, ⟨g126, 15, none⟩, e106), (1, ⟨g126, 16, none⟩, e107), (1, ⟨g126, 17, none⟩, e125), (1, ⟨g126, 18, none⟩, e126), (16, ⟨g126, 9, none⟩, e100), (16, ⟨g126, 10, none⟩, e101), (16, ⟨g126, 11, none⟩, e102), (16, ⟨g126, 12, none⟩, e103), (16, ⟨g126, 13, none⟩, e104), (16, ⟨g126, 14, none⟩, e105), (16, ⟨g126, 15, none⟩, e106), (16, ⟨g126, 16, none⟩, e107)]
       let e17 : List (Nat × Addr × Value) := [(1, ⟨g126, 0, none⟩, e45), (1, ⟨g126, 1, none⟩, e80), (1, ⟨g126, 2, none⟩, e81), (1, ⟨g126, 3, none⟩, e82), (1, ⟨g126, 4, none⟩, e83), (1, ⟨g126, 5, none⟩, e84), (1, ⟨g126, 6, none⟩, e85), (1, ⟨g126, 7, none⟩, e86), (1, ⟨g126, 8, none⟩, e87), (1, ⟨g126, 9, none⟩, e100), (1, ⟨g126, 10, none⟩, e101), (1, ⟨g126, 11, none⟩, e102), (1, ⟨g126, 12, none⟩, e103), (1, ⟨g126, 13, none⟩, e104), (1, ⟨g126, 14, none⟩, e105), (1, ⟨g126, 15, none⟩, e106), (1, ⟨g126, 16, none⟩, e107), (1, ⟨g126, 17, none⟩, e125), (1, ⟨g126, 18, none⟩, e126)]
       let e27 := (e14, [0, 1, 2, 4, 5, 6, 7, 8, 9, 10, 11, 12, 13, 15, 16, 18, 19], [[], [], [], [0, 1, 2], [0, 1, 2, 3], e73, e73, [0, 1, 2, 3, 4, 6], [0, 1, 2, 3, 4, 5, 6, 7], [0, 1, 2, 3, 4, 5, 6, 7, 8], e137, e137, [0, 1, 2, 3, 4, 5, 6, 7, 8, 9, 11], [0, 1, 2, 3, 4, 5, 6, 7, 8, 9, 10, 11, 12], [0, 1, 2, 3, 4, 5, 6, 7, 8, 9, 10, 11, 12, 13], e137, [0, 1, 2, 3, 4, 5, 6, 7, 8, 9, 15], [0, 1, 2, 3, 4, 5, 6, 7, 8, 9, 10, 11, 12, 13, 14, 15, 16], [0, 1, 2, 3, 4, 5, 6, 7, 8, 9, 10, 11, 12, 13, 14, 15, 16, 17], e74])
       let e65 : Nat × Value := (15, (pt g126))
       refine WC.cutN (T := Bool) (fun t => [e55, e56, e52, e49, e43, e53, e65, e33, e22, e61, (74, (bv t))]) (fun t w1 => St NoS w w1 e28 [blk g12 (.cells #[(iv 0), (iv 0), (.slice none 0 0)] 47 (0, 0)), blk g20 (.cells e16 93 (0, 0)), rowO 97 encN_Row A21 c22 e79, poolO e64, rowO 90 (encMap A8_Int Bool) A110 c111 (tag H113 l112), mapsO e70 vB H113 l112, blk g126 (.cells e10 97 (0, 0))] ∧ x131 = t) (fun Kx131 => ?_) ?_
       ·
        rcases br_some hx132 with ⟨h133, hx132⟩ | ⟨h133, hx132⟩
        ·
         refine WC.regionD e27 e121 (by kernel_rfl) (by kernel_rfl) (NoPanic.seq (NoPanic.block (NoPanic.seq (NoPanic.seq (NoPanic.block (NoPanic.block (NoPanic.seq (NoPanic.seq (NoPanic.block (NoPanic.seq (NoPanic.body))))))))))) ?_
         have hS135 := hS130.drew
         revert hS135
         generalize World.drew w129 = w134
         intro hS135
         refine ⟨⟨hS135.cell 0 rfl 0 rfl, hS135.cell 0 rfl 1 rfl, hS135.cell 0 rfl 2 rfl, hS135.cell 0 rfl 3 rfl, hS135.cell 0 rfl 4 rfl, hS135.cell 0 rfl 5 rfl, hS135.cell 0 rfl 6 rfl, hS135.cell 0 rfl 7 rfl, hS135.cell 0 rfl 8 rfl, hS135.cell 0 rfl 9 rfl, hS135.cell 0 rfl 10 rfl, hS135.cell 0 rfl 11 rfl, hS135.cell 0 rfl 12 rfl, hS135.cell 0 rfl 13 rfl, hS135.cell 0 rfl 14 rfl, hS135.cell 0 rfl 15 rfl, hS135.cell 0 rfl 16 rfl, hS135.cell 0 rfl 17 rfl, hS135.cell 0 rfl 18 rfl, hS135.cell 0 rfl 9 rfl, hS135.cell 0 rfl 10 rfl, hS135.cell 0 rfl 11 rfl, hS135.cell 0 rfl 12 rfl, hS135.cell 0 rfl 13 rfl, hS135.cell 0 rfl 14 rfl, hS135.cell 0 rfl 15 rfl, hS135.cell 0 rfl 16 rfl, trivial⟩, forallC ?_ (forallN)⟩
         refine segF 3 [.v e45, .v e80, .v e81, .v e82, .v e83, .v e84, .v e85, .v e86, .v e87, .v e100, .v e101, .v e102, .v e103, .v e104, .v e105, .v e106, .v e107, .v e125, .v e126] [1, 2, 8, 10, 12, 13, 15, 49, 50, 51, 55, 56, 57] [e55, e56, e52, e49, e43, e53, e65, e33, e22, e61, (55, (pt g20)), (56, (.agg e10)), (57, (iv x90))] [] e74 e17 (fun fb => by kernel_rfl) rfl trivial rfl ?_
         obtain ⟨t136, ht137, hx132⟩ := bind_some hx132
         refine WL.call (some 58) 42 #[(pt g20), (.agg e10), (iv x90)] (fun fb => by kernel_rfl) (fill_job_allows_calls _ (Job.mk y24.rows y24.width y24.height p3) e9 x90 g20 A21 c22 H23 Ab cb Ac cc Ad cd Ae ce ((H23 x114.toNat 0).1) ((H23 x114.toNat 0).2) t136 _ (hS135.ow 2) (hS135.ow 3).ofO (poolO.ro (hS135.ow 4) 0) (hS135.rd 1) (hS135.rd 2) (hS135.rd 3) (hS135.rd 4) (nestO.ro (poolO.ro (hS135.ow 4) 0) z_Row h125.1 h125.2) ht137) (fun v w138 hR139 => ?_)
         obtain ⟨rfl, hk_⟩ := hR139
         have hS140 := hS135.keepN hk_
         refine ⟨⟨hS140.cell 0 rfl 9 rfl, hS140.cell 0 rfl 10 rfl, hS140.cell 0 rfl 11 rfl, hS140.cell 0 rfl 12 rfl, hS140.cell 0 rfl 13 rfl, hS140.cell 0 rfl 14 rfl, hS140.cell 0 rfl 15 rfl, hS140.cell 0 rfl 16 rfl, trivial⟩, ?_⟩
         refine seg 5 [] [1, 2, 8, 10, 12, 13, 15, 49, 50, 51, 59] [e55, e56, e52, e49, e43, e53, e65, e33, e22, e61, (59, (bv t136))] [] (fun fb => by kernel_rfl) rfl trivial ?_
         refine WL.cutV (T := Bool) 20 (fun t => [(74, (bv t)), e55, e56, e52, e49, e43, e53, e65, e33, e22, e61]) (fun t => t136 = t) (fun K => ?_) ?_
         ·
          rcases Bool.eq_false_or_eq_true t136 with h141 | h141
          ·
           refine WL.setB 59 h141 rfl ?_
           refine seg 10 [] [1, 2, 8, 10, 12, 13, 15, 49, 50, 51, 59, 64] [e55, e56, e52, e49, e43, e53, e65, e33, e22, e61, (59, (bv true)), (64, (bv (x90 == e69)))] [] (fun fb => by kernel_rfl) rfl trivial ?_
           refine WL.setB 64 h133 rfl ?_
           refine seg 20 [] e63 [e55, e56, e52, e49, e43, e53, e65, e33, e22, e61, (74, (bv true))] [] (fun fb => by kernel_rfl) rfl trivial ?_
           exact WL.toV K true [74, 1, 2, 8, 10, 12, 13, 15, 49, 50, 51] rfl (by first | (rw [h141]; done) | (rw [h141]; rfl))
          refine WL.setB 59 h141 rfl ?_
          refine seg 20 [] e63 [e55, e56, e52, e49, e43, e53, e65, e33, e22, e61, (74, (bv false))] [] (fun fb => by kernel_rfl) rfl trivial ?_
          exact WL.toV K false [74, 1, 2, 8, 10, 12, 13, 15, 49, 50, 51] rfl (by first | (rw [h141]; done) | (rw [h141]; rfl))
         rintro b142 rfl
         refine WL.done rfl ?_
         injection hx132 with hx132
         exact WX.to Kx131 t136 e63 rfl ⟨(hS140.subR e73).sub [1, 2, 3, 4, 5, 6, 0] (by decide), hx132.symm⟩
        refine WC.regionD e27 e121 (by kernel_rfl) (by kernel_rfl) (NoPanic.seq (NoPanic.block (NoPanic.seq (NoPanic.seq (NoPanic.block (NoPanic.block (NoPanic.seq (NoPanic.seq (NoPanic.block (NoPanic.seq (NoPanic.body))))))))))) ?_
        have hS144 := hS130.drew
        revert hS144
        generalize World.drew w129 = w143
        intro hS144
        refine ⟨⟨hS144.cell 0 rfl 0 rfl, hS144.cell 0 rfl 1 rfl, hS144.cell 0 rfl 2 rfl, hS144.cell 0 rfl 3 rfl, hS144.cell 0 rfl 4 rfl, hS144.cell 0 rfl 5 rfl, hS144.cell 0 rfl 6 rfl, hS144.cell 0 rfl 7 rfl, hS144.cell 0 rfl 8 rfl, hS144.cell 0 rfl 9 rfl, hS144.cell 0 rfl 10 rfl, hS144.cell 0 rfl 11 rfl, hS144.cell 0 rfl 12 rfl, hS144.cell 0 rfl 13 rfl, hS144.cell 0 rfl 14 rfl, hS144.cell 0 rfl 15 rfl, hS144.cell 0 rfl 16 rfl, hS144.cell 0 rfl 17 rfl, hS144.cell 0 rfl 18 rfl, hS144.cell 0 rfl 9 rfl, hS144.cell 0 rfl 10 rfl, hS144.cell 0 rfl 11 rfl, hS144.cell 0 rfl 12 rfl, hS144.cell 0 rfl 13 rfl, hS144.cell 0 rfl 14 rfl, hS144.cell 0 rfl 15 rfl, hS144.cell 0 rfl 16 rfl, trivial⟩, forallC ?_ (forallN)⟩
        refine segF 3 [.v e45, .v e80, .v e81, .v e82, .v e83, .v e84, .v e85, .v e86, .v e87, .v e100, .v e101, .v e102, .v e103, .v e104, .v e105, .v e106, .v e107, .v e125, .v e126] [1, 2, 8, 10, 12, 13, 15, 49, 50, 51, 55, 56, 57] [e55, e56, e52, e49, e43, e53, e65, e33, e22, e61, (55, (pt g20)), (56, (.agg e10)), (57, (iv x90))] [] e74 e17 (fun fb => by kernel_rfl) rfl trivial rfl ?_
        obtain ⟨t145, ht146, hx132⟩ := bind_some hx132
        refine WL.call (some 58) 42 #[(pt g20), (.agg e10), (iv x90)] (fun fb => by kernel_rfl) (fill_job_allows_calls _ (Job.mk y24.rows y24.width y24.height p3) e9 x90 g20 A21 c22 H23 Ab cb Ac cc Ad cd Ae ce ((H23 x114.toNat 0).1) ((H23 x114.toNat 0).2) t145 _ (hS144.ow 2) (hS144.ow 3).ofO (poolO.ro (hS144.ow 4) 0) (hS144.rd 1) (hS144.rd 2) (hS144.rd 3) (hS144.rd 4) (nestO.ro (poolO.ro (hS144.ow 4) 0) z_Row h125.1 h125.2) ht146) (fun v w147 hR148 => ?_)
        obtain ⟨rfl, hk_⟩ := hR148
        have hS149 := hS144.keepN hk_
        refine ⟨⟨hS149.cell 0 rfl 9 rfl, hS149.cell 0 rfl 10 rfl, hS149.cell 0 rfl 11 rfl, hS149.cell 0 rfl 12 rfl, hS149.cell 0 rfl 13 rfl, hS149.cell 0 rfl 14 rfl, hS149.cell 0 rfl 15 rfl, hS149.cell 0 rfl 16 rfl, trivial⟩, ?_⟩
        refine seg 5 [] [1, 2, 8, 10, 12, 13, 15, 49, 50, 51, 59] [e55, e56, e52, e49, e43, e53, e65, e33, e22, e61, (59, (bv t145))] [] (fun fb => by kernel_rfl) rfl trivial ?_
        obtain ⟨b150, hv151, hx132⟩ := bind_some hx132
        refine WL.cutV (T := Unit) 20 (fun t => [(74, (bv b150)), e55, e56, e52, e49, e43, e53, e65, e33, e22, e61]) (fun t => True) (fun K => ?_) ?_
        ·
         rcases br_some hv151 with ⟨h152, hv151⟩ | ⟨h152, hv151⟩
         ·
          refine WL.setB 59 h152 rfl ?_
          refine seg 10 [] [1, 2, 8, 10, 12, 13, 15, 49, 50, 51, 59, 64] [e55, e56, e52, e49, e43, e53, e65, e33, e22, e61, (59, (bv true)), (64, (bv (x90 == e69)))] [] (fun fb => by kernel_rfl) rfl trivial ?_
          refine WL.setB 64 h133 rfl ?_
          refine seg 13 [] [1, 2, 8, 10, 12, 13, 15, 49, 50, 51, 59, 64, 65, 67] [e55, e56, e52, e49, e43, e53, e65, e33, e22, e61, (59, (bv true)), (64, (bv false)), (65, (sv A110 l112 c111)), (67, (iv e120))] [] (fun fb => by kernel_rfl) rfl trivial ?_
          obtain ⟨h153, hv151⟩ := as_some hv151
          refine segF 16 [.v e100, .v e101, .v e102, .v e103, .v e104, .v e105, .v e106, .v e107] [1, 2, 8, 10, 12, 13, 15, 49, 50, 51, 59, 64, 68, 71] [e55, e56, e52, e49, e43, e53, e65, e33, e22, e61, (59, (bv true)), (64, (bv false)), (68, (.pointer (some ((adr A110).add (e120.toNat * 1))))), (71, (.agg e76))] [.idx A110 e120 l112.length] [19, 20, 21, 22, 23, 24, 25, 26] [(16, ⟨g126, 9, none⟩, e100), (16, ⟨g126, 10, none⟩, e101), (16, ⟨g126, 11, none⟩, e102), (16, ⟨g126, 12, none⟩, e103), (16, ⟨g126, 13, none⟩, e104), (16, ⟨g126, 14, none⟩, e105), (16, ⟨g126, 15, none⟩, e106), (16, ⟨g126, 16, none⟩, e107)] (fun fb => by kernel_rfl) rfl ⟨nrow_adr (rowO.rd (hS149.own 5).1) h153.1 h153.2, trivial⟩ rfl ?_
          obtain ⟨m154, hm155, hv151⟩ := bind_some hv151
          refine seg 17 [.v (.map (some (H113 e120.toNat)))] [1, 2, 8, 10, 12, 13, 15, 49, 50, 51, 59, 64, 69, 71] [e55, e56, e52, e49, e43, e53, e65, e33, e22, e61, (59, (bv true)), (64, (bv false)), (69, (.map (some (H113 e120.toNat)))), (71, (.agg e76))] [.cell ((adr A110).add (e120.toNat * 1)) (.map (some (H113 e120.toNat)))] (fun fb => by kernel_rfl) rfl ⟨nrow_cell (rowO.rd (hS149.own 5).1) none h153.1 h153.2 0 (mapV_some hm155), trivial⟩ ?_
          refine WL.lookup (mapsO.at (hS149.own 6).1 h153.1 h153.2 hm155) e23 (d := 72) (c := false) (t := 90) (kT := 95) (eT := 4) (z := false) (kE := e70) (vE := vB) (l := m154) (bv (mget e23 false m154)) (fun fb => by kernel_rfl) fill_First_key95 (by kernel_rfl) (fun _ => by kernel_rfl) rfl ?_
          refine ⟨trivial, ?_⟩
          refine seg 20 [] e63 [e55, e56, e52, e49, e43, e53, e65, e33, e22, e61, (74, (bv (mget e23 false m154)))] [] (fun fb => by kernel_rfl) rfl trivial ?_
          injection hv151 with hv151
          subst hv151
          exact WL.toV K () [74, 1, 2, 8, 10, 12, 13, 15, 49, 50, 51] rfl trivial
         refine WL.setB 59 h152 rfl ?_
         refine seg 20 [] e63 [e55, e56, e52, e49, e43, e53, e65, e33, e22, e61, (74, (bv false))] [] (fun fb => by kernel_rfl) rfl trivial ?_
         injection hv151 with hv151
         subst hv151
         exact WL.toV K () [74, 1, 2, 8, 10, 12, 13, 15, 49, 50, 51] rfl trivial
        rintro _ _
        refine WL.done rfl ?_
        injection hx132 with hx132
        exact WX.to Kx131 b150 e63 rfl ⟨(hS149.subR e73).sub [1, 2, 3, 4, 5, 6, 0] (by decide), hx132.symm⟩
       rintro y159 w156 ⟨hS157, hq158⟩
       subst hq158
       refine WX.next ?_
       obtain ⟨x163, hx164, hl123⟩ := bind_some hl123
       refine WC.cutN (T := (List (Option (List (A8_Int × Bool)))) × (Option Addr) × Nat × (Nat → Nat)) (fun t => [e55, e56, e52, e49, (12, (sv t.2.1 t.1 t.2.2.1)), e53, e33, e22, e61]) (fun t w1 => St NoS w w1 e28 [blk g12 (.cells #[(iv 0), (iv 0), (.slice none 0 0)] 47 (0, 0)), blk g20 (.cells e16 93 (0, 0)), rowO 97 encN_Row A21 c22 e79, poolO e64, rowO 90 (encMap A8_Int Bool) t.2.1 t.2.2.1 (tag t.2.2.2 t.1), mapsO e70 vB t.2.2.2 t.1] ∧ x163 = t.1) (fun Kx163 => ?_) ?_
       ·
        rcases br_some hx164 with ⟨h165, hx164⟩ | ⟨h165, hx164⟩
        ·refine WC.condT2 (fun fb => by kernel_rfl) h165 ?_
         obtain ⟨h168, hx164⟩ := as_some hx164
         obtain ⟨m169, hm170, hx164⟩ := bind_some hx164
         refine WC.regionD ([(3, ((adr A110).add ((x90).toNat * 1)), (.map e132)), (5, ⟨g126, 1, none⟩, e80), (5, ⟨g126, 2, none⟩, e81), (5, ⟨g126, 3, none⟩, e82), (5, ⟨g126, 4, none⟩, e83), (5, ⟨g126, 5, none⟩, e84), (5, ⟨g126, 6, none⟩, e85), (5, ⟨g126, 7, none⟩, e86), (5, ⟨g126, 8, none⟩, e87)], e98, [[], [], [0, 1], [0, 1, 2], [], [4], e98]) [[0, 1, 2, 3, 4, 5, 6]] (by kernel_rfl) (by kernel_rfl) (NoPanic.block (NoPanic.seq (NoPanic.seq (NoPanic.block (NoPanic.block (NoPanic.seq (NoPanic.seq (NoPanic.block (NoPanic.seq (NoPanic.body)))))))))) ?_
         have hS167 := hS157.drew
         revert hS167
         generalize World.drew w156 = w166
         intro hS167
         refine ⟨⟨nrow_cell (rowO.rd (hS167.own 4).1) none h168.1 h168.2 0 (mapV_some hm170), hS167.cell 6 rfl 1 rfl, hS167.cell 6 rfl 2 rfl, hS167.cell 6 rfl 3 rfl, hS167.cell 6 rfl 4 rfl, hS167.cell 6 rfl 5 rfl, hS167.cell 6 rfl 6 rfl, hS167.cell 6 rfl 7 rfl, hS167.cell 6 rfl 8 rfl, trivial⟩, forallC ?_ (forallN)⟩
         refine segF 6 [.v (.map e132), .v e80, .v e81, .v e82, .v e83, .v e84, .v e85, .v e86, .v e87] [1, 2, 8, 10, 12, 13, 49, 50, 51, 78, 80] [e55, e56, e52, e49, e43, e53, e33, e22, e61, (78, (.map e132)), (80, (.agg #[e80, e81, e82, e83, e84, e85, e86, e87]))] [.idx A110 x90 l112.length] [0, 1, 2, 3, 4, 5, 6, 7, 8] [(3, ((adr A110).add ((x90).toNat * 1)), (.map e132)), (5, ⟨g126, 1, none⟩, e80), (5, ⟨g126, 2, none⟩, e81), (5, ⟨g126, 3, none⟩, e82), (5, ⟨g126, 4, none⟩, e83), (5, ⟨g126, 5, none⟩, e84), (5, ⟨g126, 6, none⟩, e85), (5, ⟨g126, 7, none⟩, e86), (5, ⟨g126, 8, none⟩, e87)] (fun fb => by kernel_rfl) rfl ⟨nrow_adr (rowO.rd (hS167.own 4).1) h168.1 h168.2, trivial⟩ rfl ?_
         refine WL.mapputM hS167 5 (t := 90) (kT := 95) (eT := 4) (kE := e70) (vE := vB) rfl h168.1 h168.2 hm170 e29 true (fun fb => by kernel_rfl) fill_First_key95 (by kernel_rfl) [0, 1, 2, 3, 4, 6] (by decide) (by decide) (fun w171 hS172 => ?_)
         have hS173 := hS109.go w171 [rowO 90 (encMap A8_Int Bool) A110 c111 (tag H113 (l112.set x90.toNat (some (mput e29 true m169)))), mapsO e70 vB H113 (l112.set x90.toNat (some (mput e29 true m169))), blk g12 (.cells #[(iv 0), (iv 0), (.slice none 0 0)] 47 (0, 0)), blk g20 (.cells e16 93 (0, 0)), rowO 97 encN_Row A21 c22 e79, poolO e64, blk g126 (.cells e10 97 (0, 0))] (hS172.mapsRow 5 rfl (by have h_ := rdD_at (d := none) h168.1 h168.2; rwa [hm170] at h_) (mput e29 true m169) [0, 1, 2, 3, 4, 6] (by decide) (by decide))
         refine ⟨trivial, ?_⟩
         refine WL.reE [1, 2, 8, 10, 12, 13, 49, 50, 51] [(1, (iv p1)), (2, (iv p2)), (8, (pt g12)), (10, (pt g20)), (12, (.slice A110 l112.length c111)), (13, (iv x90)), (49, (.slice A21 y24.rows.length c22)), (50, (iv (y24.rows.length : Int))), (51, (iv x114))] [(1, (iv p1)), (2, (iv p2)), (8, (pt g12)), (10, (pt g20)), (12, (.slice A110 (l112.set x90.toNat (some (mput ((rdD y24.rows x114 z_Row).South) true m169))).length c111)), (13, (iv x90)), (49, (.slice A21 y24.rows.length c22)), (50, (iv (y24.rows.length : Int))), (51, (iv x114))] rfl (by simp only [List.length_set]) ?_
         refine WL.done rfl ?_
         injection hx164 with hx164
         exact WX.to Kx163 (l112.set x90.toNat (some (mput e29 true m169)), A110, c111, H113) e71 rfl ⟨(hS173.subR e73).sub [2, 3, 4, 5, 0, 1] (by decide), hx164.symm⟩
        refine WC.condF2 (fun fb => by kernel_rfl) h165 ?_
        refine WC.skip ?_
        injection hx164 with hx164
        exact WX.to Kx163 (l112, A110, c111, H113) e71 rfl ⟨(hS157.subR e73).sub e98 (by decide), hx164.symm⟩
       rintro ⟨y177, A160, c161, H162⟩ w174 ⟨hS175, hq176⟩
       subst hq176
       refine WX.blockN (WX.next ?_)
       refine WC.region ?_
       refine seg 2 [] e71 [e55, e56, e52, e49, (12, (sv A160 x163 c161)), e53, e33, e22, (51, (iv (w64 (x114 + 1))))] [] (fun fb => by kernel_rfl) rfl trivial ?_
       refine WL.done rfl ?_
       exact WX.again k120 (Nat.lt_succ_self _) ((x163, w64 (x114 + 1)), A160, c161, H162) e71 rfl ⟨(hS175.subR e73).sub e98 (by decide), hl123⟩
      refine WC.condF2 (fun fb => by kernel_rfl) h124 ?_
      refine WC.exit ?_
      injection hl123 with hl123
      exact WX.thenX (WX.thenX (WX.blockHere (WX.to Kx118 (l112, A110, c111, H113) e136 rfl ⟨(hS122.subR e73).sub e98 (by decide), hl123.symm⟩)))
    rintro ⟨y181, A115, c116, H117⟩ w178 ⟨hS179, hq180⟩
    subst hq180
    refine WX.blockN (WX.next ?_)
    refine WC.region ?_
    refine seg 3 [] e136 [e55, e56, e52, e49, (12, (sv A115 x118 c116)), (13, (iv (w64 (x90 - 1))))] [] (fun fb => by kernel_rfl) rfl trivial ?_
    refine WL.done rfl ?_
    exact WX.again k97 (Nat.lt_succ_self _) ((x118, w64 (x90 - 1)), A115, c116, H117) e136 rfl ⟨(hS179.subR e73).sub e98 (by decide), hl100⟩
   refine WC.condF2 (fun fb => by kernel_rfl) h101 ?_
   refine WC.exit ?_
   injection hl100 with hl100
   exact WX.thenX (WX.thenX (WX.blockHere (WX.to Kx94 (l88, A86, c87, H89) [1, 2, 8, 10, 12] rfl ⟨(hS99.subR e73).sub e98 (by decide), hl100.symm⟩)))
 rintro ⟨y185, A91, c92, H93⟩ w182 ⟨hS183, hq184⟩
 subst hq184
 refine WX.next (WC.seq (WC.region ?_))
 refine seg 3 [] [2, 8, 10, 12, 84] [e56, e52, e49, (12, (sv A91 x94 c92)), (84, (.agg #[(iv p1), (iv p2), (.slice none 0 0)]))] [] (fun fb => by kernel_rfl) rfl trivial ?_
 refine WL.new hS183 16 [] (fun g => (pt g)) (.cells #[(iv 0), (iv 0), (.slice none 0 0)] 47 (0, 0)) [] (fun fb g => by kernel_rfl) trivial (fun g186 w187 hS188 => ?_)
 refine ⟨trivial, ?_⟩
 refine WL.store hS188 0 rfl [(0, (iv p1)), (1, (iv p2)), (2, (.slice none 0 0))] #[(iv p1), (iv p2), (.slice none 0 0)] (fun fb => by kernel_rfl) (by kernel_rfl) rfl [1, 2, 3, 4, 5, 6] (by decide) (by decide) (fun w189 hS190 => ?_)
 refine ⟨trivial, ?_⟩
 refine WL.done rfl (WX.next (WC.seq (WC.region ?_)))
 refine seg 1 [] [2, 8, 10, 12, 16, 17] [e56, e52, e49, (12, (sv A91 x94 c92)), (16, (pt g186)), (17, (.pointer none))] [] (fun fb => by kernel_rfl) rfl trivial ?_
 refine WL.done rfl (WX.next (WC.seq (WC.seq (WC.region ?_))))
 refine seg 2 [] [2, 8, 10, 12, 16, 17, 85, 86] [e56, e52, e49, (12, (sv A91 x94 c92)), (16, (pt g186)), (17, (.pointer none)), e141, (86, (iv 0))] [] (fun fb => by kernel_rfl) rfl trivial ?_
 refine WL.done rfl (WX.next ?_)
 have hS191 := hS190.nilrow 3 encInt
 obtain ⟨x199, hx200, hf⟩ := bind_some hf
 let e68 : List Nat := [0, 1, 2, 3, 4, 5, 6, 7, 8, 9, 10, 11, 12, 13, 14, 15, 16, 17, 18, 19, 20, 21, 22]
 let e131 : List Nat := [0, 1, 2, 3, 4, 5, 6, 7, 8, 9, 10, 11, 12, 13, 14, 15, 16, 17]
 let e12 := [[], [], [], [0, 1, 2], [0, 1, 2, 3], e73, e98, [0, 1, 2, 3, 4, 5, 6], [0, 1, 2, 3, 4, 5, 6, 7], [0, 1, 2, 3, 4, 5, 6, 7, 8], e137, [0, 1, 2, 3, 4, 5, 6, 7, 8, 9, 10], [0, 1, 2, 3, 4, 5, 6, 7], [0, 1, 2, 3, 4, 5, 6, 7, 12], [0, 1, 2, 3, 4, 5, 6, 7, 8, 9, 10, 11, 12, 13], [0, 1, 2, 3, 4, 5, 6, 7, 8, 9, 10, 11, 12, 13, 14], [0, 1, 2, 3, 4, 5, 6, 7, 8, 9, 10, 11, 12, 13, 14, 15], [0, 1, 2, 3, 4, 5, 6, 7, 8, 9, 10, 11, 12, 13, 14, 15, 16], e131, e131, [0, 1, 2, 3, 4, 5, 6, 7, 8, 9, 10, 11, 12, 13, 14, 15, 16, 17, 19], [0, 1, 2, 3, 4, 5, 6, 7, 8, 9, 10, 11, 12, 13, 14, 15, 16, 17, 18, 19, 20], [0, 1, 2, 3, 4, 5, 6, 7, 8, 9, 10, 11, 12, 13, 14, 15, 16, 17, 18, 19, 20, 21], e68, e68, [0, 1, 2, 3, 4, 5, 6, 7, 8, 9, 10, 11, 12, 13, 14, 15, 16, 17, 18, 19, 20, 21, 22, 24], [0, 1, 2, 3, 4, 5, 6, 7, 8, 9, 10, 11, 12, 13, 14, 15, 16, 17, 18, 19, 20, 21, 22, 23, 24, 25], [0, 1, 2, 3, 4, 5, 6, 7, 8, 9, 10, 11, 12, 13, 14, 15, 16, 17, 18, 19, 20, 21, 22, 23, 24, 25, 26], e68, [0, 1, 2, 3, 4, 5, 6, 7, 8, 9, 10, 11, 12, 13, 14, 15, 16, 17, 18, 19, 20, 21, 22, 28], [0, 1, 2, 3, 4, 5, 6, 7, 8, 9, 10, 11, 12, 13, 14, 15, 16, 17, 18, 19, 20, 21, 22, 23, 24, 25, 26, 27, 28, 29], [0, 1, 2, 3, 4, 5, 6, 7, 8, 9, 10, 11, 12, 13, 14, 15, 16, 17, 18, 19, 20, 21, 22, 23, 24, 25, 26, 27, 28, 29, 30], [0, 1, 2, 3, 4, 5, 6, 7, 8, 9, 10, 11, 12, 13, 14, 15, 16, 17, 18, 19, 20, 21, 22, 23, 24, 25, 26, 27, 28, 29, 30, 31]]
 let e15 : Nat × Value := (93, (iv (y24.rows.length : Int)))
 let e19 : Nat × Value := (12, (sv A91 x94 c92))
 let e20 : Nat × Value := (92, (sv A21 y24.rows c22))
 let e32 : Nat × Value := (16, (pt g186))
 let e35 : Nat × Value := e49
 let e36 : Nat × Value := e52
 let e37 : Nat × Value := e141
 let e40 : Nat × Value := (19, (iv (-1)))
 let e41 : Nat × Value := e56
 let e50 : List Nat := [2, 8, 10, 12, 16, 17, 18, 19, 20, 21, 85, 86, 92, 93, 94, 115]
 let e51 : List Nat := [115, 2, 8, 10, 12, 16, 17, 18, 19, 20, 21, 85, 86, 92, 93, 94]
 let e54 : List Nat := [2, 8, 10, 12, 16, 17, 18, 19, 20, 85, 86, 92, 93, 94, 131]
 let e72 : List Nat := [2, 8, 10, 12, 16, 17, 18, 19, 85, 86, 92, 93, 94]
 let e75 := [[0, 1, 2, 3, 4, 5, 6, 7, 8, 9, 10, 12, 13, 11, 14, 15, 16, 17, 18, 19, 20, 21, 22, 23, 24, 25, 26, 28, 29, 27, 30, 31, 32]]
 let e116 : List Nat := [0, 1, 2, 3, 4, 5, 6, 7]
 let e117 : List Nat := [2, 8, 10, 12, 16, 17, 85, 86]
 let e119 := sv A21 y24.rows c22
 let e122 : List Nat := [2, 8, 10, 12, 16, 17, 18, 19, 20, 21, 85, 86, 92, 93, 94, 99, 100, 101]
 let e123 : List Nat := [2, 8, 10, 12, 16, 17, 18, 19, 20, 21, 85, 86, 92, 93, 94, 103, 104]
 let e124 : List Nat := [2, 8, 10, 12, 16, 17, 18, 19, 20, 21, 85, 86, 92, 93, 94, 116, 121]
 let e129 : List Nat := [2, 8, 10, 12, 16, 17, 18, 19, 20, 21, 85, 86, 92, 93, 94, 103]
 let e130 : List Nat := [2, 8, 10, 12, 16, 17, 18, 19, 20, 21, 85, 86, 92, 93, 94, 116]
 let e133 : List Nat := [131, 2, 8, 10, 12, 16, 17, 18, 19, 20, 85, 86, 92, 93, 94]
 let e138 : List Nat := [2, 8, 10, 12, 16, 19, 85, 86]
 let e139 : Nat × Value := (116, (bv true))
 refine WC.cutN (T := (List Int) × (Option Addr) × Nat) (fun t => [e36, e32]) (fun t w1 => St NoS w w1 e28 [blk g12 (.cells #[(iv 0), (iv 0), (.slice none 0 0)] 47 (0, 0)), blk g186 (.cells #[(iv p1), (iv p2), (sv t.2.1 t.1 t.2.2)] 47 (0, 0)), rowO 3 encInt t.2.1 t.2.2 t.1] ∧ x199 = .inr t.1) (fun Kx199 => ?_) ?_
 ·
  refine WC.block ?_
  refine WC.loop (T := ((List Int) × (Option Int) × Int) × (Option Addr) × Nat) (fun t => [e41, e36, e35, e19, e32, (17, (.pointer (oepV A21 19 t.1.2.1))), e37, (86, (iv t.1.2.2))]) (fun n t w1 => St NoS w w1 e28 [blk g12 (.cells #[(iv 0), (iv 0), (.slice none 0 0)] 47 (0, 0)), blk g20 (.cells e16 93 (0, 0)), rowO 97 encN_Row A21 c22 e79, poolO e64, rowO 90 (encMap A8_Int Bool) A91 c92 (tag H93 x94), mapsO e70 vB H93 x94, blk g186 (.cells #[(iv p1), (iv p2), (sv t.2.1 t.1.1 t.2.2)] 47 (0, 0)), rowO 3 encInt t.2.1 t.2.2 t.1.1] ∧ fill_First.l4 n t.1.1 t.1.2.1 t.1.2.2 p2 p3 y24 x94 = some x199) k ((([] : List Int), none, 0), none, 0) e117 rfl ⟨(hS191.subR e73).sub [2, 3, 4, 5, 6, 7, 1, 0] (by decide), hx200⟩ ?_
  rintro k201 ⟨⟨l194, o195, x196⟩, A192, c193⟩ w202 ⟨hS203, hl204⟩
  let e34 : Nat × Value := (86, (iv x196))
  let e39 : Nat × Value := (18, (iv x196))
  let e96 := sv A192 l194 c193
  let e99 := w64 (x196 + 1)
  cases k201 with
  | zero => rw [fill_First.l4] at hl204; cases hl204
  | succ k201 =>
   rw [fill_First.l4] at hl204
   refine WC.seq (WC.region ?_)
   refine seg 1 [] [2, 8, 10, 12, 16, 17, 85, 86, 87] [e41, e36, e35, e19, e32, (17, (.pointer (oepV A21 19 o195))), e37, e34, (87, (bv (decide (x196 < p2))))] [] (fun fb => by kernel_rfl) rfl trivial ?_
   refine WL.done rfl (WX.next (WC.seq ?_))
   rcases br_some hl204 with ⟨h205, hl204⟩ | ⟨h205, hl204⟩
   ·refine WC.condT2 (fun fb => by kernel_rfl) h205 ?_
    refine WC.skip (WX.next (WC.seq (WC.block (WC.seq (WC.region ?_)))))
    refine seg 2 [] [2, 8, 10, 12, 16, 17, 18, 85, 86] [e41, e36, e35, e19, e32, (17, (.pointer (oepV A21 19 o195))), e39, e37, e34] [] (fun fb => by kernel_rfl) rfl trivial ?_
    refine WL.done rfl (WX.next (WC.seq (WC.region ?_)))
    refine seg 1 [] [2, 8, 10, 12, 16, 17, 18, 19, 85, 86] [e41, e36, e35, e19, e32, (17, (.pointer (oepV A21 19 o195))), e39, e40, e37, e34] [] (fun fb => by kernel_rfl) rfl trivial ?_
    refine WL.done rfl (WX.next (WC.seq (WC.seq (WC.region ?_))))
    refine seg 6 [.v e119] e72 [e41, e36, e35, e19, e32, (17, (.pointer (oepV A21 19 o195))), e39, e40, e37, e34, e20, e15, (94, (iv 0))] [.cell ⟨g20, 0, none⟩ e119] (fun fb => by kernel_rfl) rfl ⟨hS203.cell 1 rfl 0 rfl, trivial⟩ ?_
    refine WL.done rfl (WX.next ?_)
    obtain ⟨x208, hx209, hl204⟩ := bind_some hl204
    refine WC.cutN (T := Int) (fun t => [e41, e36, e35, e19, e32, (19, (iv t)), e37, e34]) (fun t w1 => St NoS w w1 e28 [blk g12 (.cells #[(iv 0), (iv 0), (.slice none 0 0)] 47 (0, 0)), blk g20 (.cells e16 93 (0, 0)), rowO 97 encN_Row A21 c22 e79, poolO e64, rowO 90 (encMap A8_Int Bool) A91 c92 (tag H93 x94), mapsO e70 vB H93 x94, blk g186 (.cells #[(iv p1), (iv p2), e96] 47 (0, 0)), rowO 3 encInt A192 c193 l194] ∧ x208 = t) (fun Kx208 => ?_) ?_
    ·
     refine WC.block ?_
     refine WC.loop (T := (Option Int) × Int) (fun t => [e41, e36, e35, e19, e32, (17, (.pointer (oepV A21 19 t.1))), e39, e40, e37, e34, e20, e15, (94, (iv t.2))]) (fun n t w1 => St NoS w w1 e28 [blk g12 (.cells #[(iv 0), (iv 0), (.slice none 0 0)] 47 (0, 0)), blk g20 (.cells e16 93 (0, 0)), rowO 97 encN_Row A21 c22 e79, poolO e64, rowO 90 (encMap A8_Int Bool) A91 c92 (tag H93 x94), mapsO e70 vB H93 x94, blk g186 (.cells #[(iv p1), (iv p2), e96] 47 (0, 0)), rowO 3 encInt A192 c193 l194] ∧ fill_First.l5 n t.1 t.2 p2 p3 y24 x94 x196 = some x208) k201 (o195, 0) e72 rfl ⟨(hS203.subR e73).sub e116 (by decide), hx209⟩ ?_
     rintro k210 ⟨o206, x207⟩ w211 ⟨hS212, hl213⟩
     let e8 := rdD y24.rows x207 z_Row
     let e11 : Array Value := #[(sv ((H23 x207.toNat 0).1) (e8.Cells) ((H23 x207.toNat 0).2)), (iv ((e8.South).e0)), (iv ((e8.South).e1)), (iv ((e8.South).e2)), (iv ((e8.South).e3)), (iv ((e8.South).e4)), (iv ((e8.South).e5)), (iv ((e8.South).e6)), (iv ((e8.South).e7)), (iv ((e8.North).e0)), (iv ((e8.North).e1)), (iv ((e8.North).e2)), (iv ((e8.North).e3)), (iv ((e8.North).e4)), (iv ((e8.North).e5)), (iv ((e8.North).e6)), (iv ((e8.North).e7)), (iv (e8.West)), (iv (e8.East))]
     let e21 := e8.South
     let e24 := e8.North
     let e31 := (adr A21).add ((x207).toNat * 19)
     let e38 := oepV A21 19 o206
     let e44 : Nat × Value := (94, (iv x207))
     let e46 := sv ((H23 x207.toNat 0).1) (e8.Cells) ((H23 x207.toNat 0).2)
     let e47 : Nat × Value := (20, (iv x207))
     let e77 : Array Value := #[(iv (e24.e0)), (iv (e24.e1)), (iv (e24.e2)), (iv (e24.e3)), (iv (e24.e4)), (iv (e24.e5)), (iv (e24.e6)), (iv (e24.e7))]
     let e88 := iv (e21.e0)
     let e89 := iv (e21.e1)
     let e90 := iv (e21.e2)
     let e91 := iv (e21.e3)
     let e92 := iv (e21.e4)
     let e93 := iv (e21.e5)
     let e94 := iv (e21.e6)
     let e95 := iv (e21.e7)
     let e108 := iv (e24.e0)
     let e109 := iv (e24.e1)
     let e110 := iv (e24.e2)
     let e111 := iv (e24.e3)
     let e112 := iv (e24.e4)
     let e113 := iv (e24.e5)
     let e114 := iv (e24.e6)
     let e115 := iv (e24.e7)
     let e127 := iv (e8.West)
     let e128 := iv (e8.East)
     cases k210 with
     | zero => rw [fill_First.l5] at hl213; cases hl213
     | succ k210 =>
      rw [fill_First.l5] at hl213
      refine WC.seq (WC.region ?_)
      refine seg 1 [] [2, 8, 10, 12, 16, 17, 18, 19, 85, 86, 92, 93, 94, 95] [e41, e36, e35, e19, e32, (17, (.pointer e38)), e39, e40, e37, e34, e20, e15, e44, (95, (bv (decide (x207 < (y24.rows.length : Int)))))] [] (fun fb => by kernel_rfl) rfl trivial ?_
      refine WL.done rfl (WX.next (WC.seq ?_))
      rcases br_some hl213 with ⟨h214, hl213⟩ | ⟨h214, hl213⟩
      ·refine WC.condT2 (fun fb => by kernel_rfl) h214 ?_
       refine WC.skip (WX.next (WC.seq (WC.block (WC.seq (WC.region ?_)))))
       refine seg 1 [] [2, 8, 10, 12, 16, 17, 18, 19, 85, 86, 92, 93, 94, 96] [e41, e36, e35, e19, e32, (17, (.pointer e38)), e39, e40, e37, e34, e20, e15, e44, (96, (iv x207))] [] (fun fb => by kernel_rfl) rfl trivial ?_
       obtain ⟨h215, hl213⟩ := as_some hl213
       refine seg 3 [.v e46, .v e88, .v e89, .v e90, .v e91, .v e92, .v e93, .v e94, .v e95, .v e108, .v e109, .v e110, .v e111, .v e112, .v e113, .v e114, .v e115, .v e127, .v e128] [2, 8, 10, 12, 16, 17, 18, 19, 85, 86, 92, 93, 94, 96, 98] [e41, e36, e35, e19, e32, (17, (.pointer e38)), e39, e40, e37, e34, e20, e15, e44, (96, (iv x207)), (98, (.agg e11))] [.idx A21 x207 y24.rows.length, .cell e31 e46, .cell (e31.add 1) e88, .cell (e31.add 2) e89, .cell (e31.add 3) e90, .cell (e31.add 4) e91, .cell (e31.add 5) e92, .cell (e31.add 6) e93, .cell (e31.add 7) e94, .cell (e31.add 8) e95, .cell (e31.add 9) e108, .cell (e31.add 10) e109, .cell (e31.add 11) e110, .cell (e31.add 12) e111, .cell (e31.add 13) e112, .cell (e31.add 14) e113, .cell (e31.add 15) e114, .cell (e31.add 16) e115, .cell (e31.add 17) e127, .cell (e31.add 18) e128] (fun fb => by kernel_rfl) rfl ⟨nrow_adr (rowO.rd (hS212.own 2).1) h215.1 h215.2, nrow_cell (rowO.rd (hS212.own 2).1) z_Row h215.1 h215.2 0 rfl, nrow_cell (rowO.rd (hS212.own 2).1) z_Row h215.1 h215.2 1 rfl, nrow_cell (rowO.rd (hS212.own 2).1) z_Row h215.1 h215.2 2 rfl, nrow_cell (rowO.rd (hS212.own 2).1) z_Row h215.1 h215.2 3 rfl, nrow_cell (rowO.rd (hS212.own 2).1) z_Row h215.1 h215.2 4 rfl, nrow_cell (rowO.rd (hS212.own 2).1) z_Row h215.1 h215.2 5 rfl, nrow_cell (rowO.rd (hS212.own 2).1) z_Row h215.1 h215.2 6 rfl, nrow_cell (rowO.rd (hS212.own 2).1) z_Row h215.1 h215.2 7 rfl, nrow_cell (rowO.rd (hS212.own 2).1) z_Row h215.1 h215.2 8 rfl, nrow_cell (rowO.rd (hS212.own 2).1) z_Row h215.1 h215.2 9 rfl, nrow_cell (rowO.rd (hS212.own 2).1) z_Row h215.1 h215.2 10 rfl, nrow_cell (rowO.rd (hS212.own 2).1) z_Row h215.1 h215.2 11 rfl, nrow_cell (rowO.rd (hS212.own 2).1) z_Row h215.1 h215.2 12 rfl, nrow_cell (rowO.rd (hS212.own 2).1) z_Row h215.1 h215.2 13 rfl, nrow_cell (rowO.rd (hS212.own 2).1) z_Row h215.1 h215.2 14 rfl, nrow_cell (rowO.rd (hS212.own 2).1) z_Row h215.1 h215.2 15 rfl, nrow_cell (rowO.rd (hS212.own 2).1) z_Row h215.1 h215.2 16 rfl, nrow_cell (rowO.rd (hS212.own 2).1) z_Row h215.1 h215.2 17 rfl, nrow_cell (rowO.rd (hS212.own 2).1) z_Row h215.1 h215.2 18 rfl, trivial⟩ ?_
       refine WL.new hS212 21 [] (fun g => (pt g)) (.cells #[(.slice none 0 0), (iv 0), (iv 0), (iv 0), (iv 0), (iv 0), (iv 0), (iv 0), (iv 0), (iv 0), (iv 0), (iv 0), (iv 0), (iv 0), (iv 0), (iv 0), (iv 0), (iv 0), (iv 0)] 97 (0, 0)) [] (fun fb g => by kernel_rfl) trivial (fun g216 w217 hS218 => ?_)
       refine ⟨trivial, ?_⟩
       refine seg 5 [] [2, 8, 10, 12, 16, 17, 18, 19, 20, 21, 85, 86, 92, 93, 94, 98] [e41, e36, e35, e19, e32, (17, (.pointer e38)), e39, e40, e47, (21, (pt g216)), e37, e34, e20, e15, e44, (98, (.agg e11))] [] (fun fb => by kernel_rfl) rfl trivial ?_
       refine WL.store hS218 0 rfl [(0, e46), (1, e88), (2, e89), (3, e90), (4, e91), (5, e92), (6, e93), (7, e94), (8, e95), (9, e108), (10, e109), (11, e110), (12, e111), (13, e112), (14, e113), (15, e114), (16, e115), (17, e127), (18, e128)] e11 (fun fb => by kernel_rfl) (by kernel_rfl) (by kernel_rfl) [1, 2, 3, 4, 5, 6, 7, 8] (by decide) (by decide) (fun w219 hS220 => ?_)
       refine ⟨trivial, ?_⟩
       refine WL.done rfl (WX.next (WC.seq ?_))
       obtain ⟨x221, hx222, hl213⟩ := bind_some hl213
       let e13 : List (Nat × Addr × Value) := [(1, ⟨g216, 0, none⟩, e46), (1, ⟨g216, 1, none⟩, e88), (1, ⟨g216, 2, none⟩, e89), (1, ⟨g216, 3, none⟩, e90), (1, ⟨g216, 4, none⟩, e91), (1, ⟨g216, 5, none⟩, e92), (1, ⟨g216, 6, none⟩, e93), (1, ⟨g216, 7, none⟩, e94), (1, ⟨g216, 8, none⟩, e95), (1, ⟨g216, 9, none⟩, e108), (1, ⟨g216, 10, none⟩, e109), (1, ⟨g216, 11, none⟩, e110), (1, ⟨g216, 12, none⟩, e111), (1, ⟨g216, 13, none⟩, e112), (1, ⟨g216, 14, none⟩, e113), (1, ⟨g216, 15, none⟩, e114), (1, ⟨g216, 16, none⟩, e115), (1, ⟨g216, 17, none⟩, e127), (1, ⟨g216, 18, none⟩, e128), (13, ⟨g216, 1, none⟩, e88), (13, ⟨g216, 2, none⟩, e89), (13, ⟨g216, 3, none⟩, e90), (13, ⟨g216, 4, none⟩, e91), (13, ⟨g216, 5, none⟩, e92), (13, ⟨g216, 6, none⟩, e93), (13, ⟨g216, 7, none⟩, e94), (13, ⟨g216, 8, none⟩, e95), (29, ⟨g216, 9, none⟩, e108), (29, ⟨g216, 10, none⟩, e109), (29, ⟨g216, 11, none⟩, e110), (29, ⟨g216, 12, none⟩, e111), (29, ⟨g216, 13, none⟩, e112), (29, ⟨g216, 14, none⟩, e113), (29, ⟨g216, 15, none⟩, e114), (29, ⟨g216, 16, none⟩, e115)]
       let e18 : List (Nat × Addr × Value) := [(1, ⟨g216, 0, none⟩, e46), (1, ⟨g216, 1, none⟩, e88), (1, ⟨g216, 2, none⟩, e89), (1, ⟨g216, 3, none⟩, e90), (1, ⟨g216, 4, none⟩, e91), (1, ⟨g216, 5, none⟩, e92), (1, ⟨g216, 6, none⟩, e93), (1, ⟨g216, 7, none⟩, e94), (1, ⟨g216, 8, none⟩, e95), (1, ⟨g216, 9, none⟩, e108), (1, ⟨g216, 10, none⟩, e109), (1, ⟨g216, 11, none⟩, e110), (1, ⟨g216, 12, none⟩, e111), (1, ⟨g216, 13, none⟩, e112), (1, ⟨g216, 14, none⟩, e113), (1, ⟨g216, 15, none⟩, e114), (1, ⟨g216, 16, none⟩, e115), (1, ⟨g216, 17, none⟩, e127), (1, ⟨g216, 18, none⟩, e128)]
       let e48 : List (Nat × Addr × Value) := [(13, ⟨g216, 1, none⟩, e88), (13, ⟨g216, 2, none⟩, e89), (13, ⟨g216, 3, none⟩, e90), (13, ⟨g216, 4, none⟩, e91), (13, ⟨g216, 5, none⟩, e92), (13, ⟨g216, 6, none⟩, e93), (13, ⟨g216, 7, none⟩, e94), (13, ⟨g216, 8, none⟩, e95)]
       let e62 : Nat × Value := (21, (pt g216))
       let e78 := (e13, [0, 1, 2, 4, 5, 6, 7, 8, 9, 10, 12, 13, 14, 15, 16, 17, 18, 19, 20, 21, 22, 23, 24, 25, 26, 28, 29, 31, 32], e12)
       refine WC.cutN (T := Bool) (fun t => [e41, e36, e35, e19, e32, (17, (.pointer e38)), e39, e40, e47, e37, e34, e20, e15, e44, (131, (bv t))]) (fun t w1 => St NoS w w1 e28 [blk g12 (.cells #[(iv 0), (iv 0), (.slice none 0 0)] 47 (0, 0)), blk g20 (.cells e16 93 (0, 0)), rowO 97 encN_Row A21 c22 e79, poolO e64, rowO 90 (encMap A8_Int Bool) A91 c92 (tag H93 x94), mapsO e70 vB H93 x94, blk g186 (.cells #[(iv p1), (iv p2), e96] 47 (0, 0)), rowO 3 encInt A192 c193 l194] ∧ x221 = t) (fun Kx221 => ?_) ?_
       ·
        rcases br_some hx222 with ⟨h223, hx222⟩ | ⟨h223, hx222⟩
        ·
         refine WC.regionD e78 e75 (by kernel_rfl) (by kernel_rfl) (NoPanic.seq (NoPanic.block (NoPanic.seq (NoPanic.seq (NoPanic.block (NoPanic.seq (NoPanic.block (NoPanic.seq (NoPanic.seq (NoPanic.block (NoPanic.seq (NoPanic.body)))))))))))) ?_
         have hS225 := hS220.drew
         revert hS225
         generalize World.drew w219 = w224
         intro hS225
         refine ⟨⟨hS225.cell 0 rfl 0 rfl, hS225.cell 0 rfl 1 rfl, hS225.cell 0 rfl 2 rfl, hS225.cell 0 rfl 3 rfl, hS225.cell 0 rfl 4 rfl, hS225.cell 0 rfl 5 rfl, hS225.cell 0 rfl 6 rfl, hS225.cell 0 rfl 7 rfl, hS225.cell 0 rfl 8 rfl, hS225.cell 0 rfl 9 rfl, hS225.cell 0 rfl 10 rfl, hS225.cell 0 rfl 11 rfl, hS225.cell 0 rfl 12 rfl, hS225.cell 0 rfl 13 rfl, hS225.cell 0 rfl 14 rfl, hS225.cell 0 rfl 15 rfl, hS225.cell 0 rfl 16 rfl, hS225.cell 0 rfl 17 rfl, hS225.cell 0 rfl 18 rfl, hS225.cell 0 rfl 1 rfl, hS225.cell 0 rfl 2 rfl, hS225.cell 0 rfl 3 rfl, hS225.cell 0 rfl 4 rfl, hS225.cell 0 rfl 5 rfl, hS225.cell 0 rfl 6 rfl, hS225.cell 0 rfl 7 rfl, hS225.cell 0 rfl 8 rfl, hS225.cell 0 rfl 9 rfl, hS225.cell 0 rfl 10 rfl, hS225.cell 0 rfl 11 rfl, hS225.cell 0 rfl 12 rfl, hS225.cell 0 rfl 13 rfl, hS225.cell 0 rfl 14 rfl, hS225.cell 0 rfl 15 rfl, hS225.cell 0 rfl 16 rfl, trivial⟩, forallC ?_ (forallN)⟩
         refine segF 3 [.v e46, .v e88, .v e89, .v e90, .v e91, .v e92, .v e93, .v e94, .v e95, .v e108, .v e109, .v e110, .v e111, .v e112, .v e113, .v e114, .v e115, .v e127, .v e128] e122 [e41, e36, e35, e19, e32, (17, (.pointer e38)), e39, e40, e47, e62, e37, e34, e20, e15, e44, (99, (pt g20)), (100, (.agg e11)), (101, (iv x196))] [] e74 e18 (fun fb => by kernel_rfl) rfl trivial rfl ?_
         obtain ⟨t226, ht227, hx222⟩ := bind_some hx222
         refine WL.call (some 102) 42 #[(pt g20), (.agg e11), (iv x196)] (fun fb => by kernel_rfl) (fill_job_allows_calls _ (Job.mk y24.rows y24.width y24.height p3) e8 x196 g20 A21 c22 H23 Ab cb Ac cc Ad cd Ae ce ((H23 x207.toNat 0).1) ((H23 x207.toNat 0).2) t226 _ (hS225.ow 2) (hS225.ow 3).ofO (poolO.ro (hS225.ow 4) 0) (hS225.rd 1) (hS225.rd 2) (hS225.rd 3) (hS225.rd 4) (nestO.ro (poolO.ro (hS225.ow 4) 0) z_Row h215.1 h215.2) ht227) (fun v w228 hR229 => ?_)
         obtain ⟨rfl, hk_⟩ := hR229
         have hS230 := hS225.keepN hk_
         refine ⟨⟨hS230.cell 0 rfl 1 rfl, hS230.cell 0 rfl 2 rfl, hS230.cell 0 rfl 3 rfl, hS230.cell 0 rfl 4 rfl, hS230.cell 0 rfl 5 rfl, hS230.cell 0 rfl 6 rfl, hS230.cell 0 rfl 7 rfl, hS230.cell 0 rfl 8 rfl, hS230.cell 0 rfl 9 rfl, hS230.cell 0 rfl 10 rfl, hS230.cell 0 rfl 11 rfl, hS230.cell 0 rfl 12 rfl, hS230.cell 0 rfl 13 rfl, hS230.cell 0 rfl 14 rfl, hS230.cell 0 rfl 15 rfl, hS230.cell 0 rfl 16 rfl, trivial⟩, ?_⟩
         refine seg 5 [] e129 [e41, e36, e35, e19, e32, (17, (.pointer e38)), e39, e40, e47, e62, e37, e34, e20, e15, e44, (103, (bv t226))] [] (fun fb => by kernel_rfl) rfl trivial ?_
         obtain ⟨b231, hv232, hx222⟩ := bind_some hx222
         refine WL.cutV (T := Unit) 17 (fun t => [(115, (bv b231)), e41, e36, e35, e19, e32, (17, (.pointer e38)), e39, e40, e47, e62, e37, e34, e20, e15, e44]) (fun t => True) (fun K => ?_) ?_
         ·
          rcases br_some hv232 with ⟨h233, hv232⟩ | ⟨h233, hv232⟩
          ·
           refine WL.setB 103 h233 rfl ?_
           refine seg 6 [] e123 [e41, e36, e35, e19, e32, (17, (.pointer e38)), e39, e40, e47, e62, e37, e34, e20, e15, e44, (103, (bv true)), (104, (.pointer e38))] [] (fun fb => by kernel_rfl) rfl trivial ?_
           rcases optM_some hv232 with ⟨ho234, hv232⟩ | ⟨i235, ho234, hv232⟩
           ·
            have ho234 : o206 = none := ho234
            refine WL.reE [2, 8, 10, 12, 16, 17, 18, 19, 20, 21, 85, 86, 92, 93, 94, 103, 104] [(2, (iv p2)), (8, (pt g12)), (10, (pt g20)), (12, (.slice A91 x94.length c92)), (16, (pt g186)), (17, (.pointer (oepV A21 19 o206))), (18, (iv x196)), (19, (iv (-1))), (20, (iv x207)), (21, (pt g216)), (85, (iv p2)), (86, (iv x196)), (92, (.slice A21 y24.rows.length c22)), (93, (iv (y24.rows.length : Int))), (94, (iv x207)), (103, (.bool true)), (104, (.pointer (oepV A21 19 o206)))] [(2, (iv p2)), (8, (pt g12)), (10, (pt g20)), (12, (.slice A91 x94.length c92)), (16, (pt g186)), (17, (.pointer none)), (18, (iv x196)), (19, (iv (-1))), (20, (iv x207)), (21, (pt g216)), (85, (iv p2)), (86, (iv x196)), (92, (.slice A21 y24.rows.length c22)), (93, (iv (y24.rows.length : Int))), (94, (iv x207)), (103, (.bool true)), (104, (.pointer none))] rfl (by rw [ho234]; rfl) ?_
            refine seg 17 [] e50 [e41, e36, e35, e19, e32, (17, (.pointer none)), e39, e40, e47, e62, e37, e34, e20, e15, e44, (115, (bv true))] [] (fun fb => by kernel_rfl) rfl trivial ?_
            refine WL.reE [2, 8, 10, 12, 16, 17, 18, 19, 20, 21, 85, 86, 92, 93, 94, 115] [(2, (iv p2)), (8, (pt g12)), (10, (pt g20)), (12, (.slice A91 x94.length c92)), (16, (pt g186)), (17, (.pointer none)), (18, (iv x196)), (19, (iv (-1))), (20, (iv x207)), (21, (pt g216)), (85, (iv p2)), (86, (iv x196)), (92, (.slice A21 y24.rows.length c22)), (93, (iv (y24.rows.length : Int))), (94, (iv x207)), (115, (.bool true))] [(2, (iv p2)), (8, (pt g12)), (10, (pt g20)), (12, (.slice A91 x94.length c92)), (16, (pt g186)), (17, (.pointer (oepV A21 19 o206))), (18, (iv x196)), (19, (iv (-1))), (20, (iv x207)), (21, (pt g216)), (85, (iv p2)), (86, (iv x196)), (92, (.slice A21 y24.rows.length c22)), (93, (iv (y24.rows.length : Int))), (94, (iv x207)), (115, (.bool true))] rfl (by rw [ho234]; rfl) ?_
            injection hv232 with hv232
            subst hv232
            exact WL.toV K () e51 rfl trivial
           have ho234 : o206 = some i235 := ho234
           refine WL.reE [2, 8, 10, 12, 16, 17, 18, 19, 20, 21, 85, 86, 92, 93, 94, 103, 104] [(2, (iv p2)), (8, (pt g12)), (10, (pt g20)), (12, (.slice A91 x94.length c92)), (16, (pt g186)), (17, (.pointer (oepV A21 19 o206))), (18, (iv x196)), (19, (iv (-1))), (20, (iv x207)), (21, (pt g216)), (85, (iv p2)), (86, (iv x196)), (92, (.slice A21 y24.rows.length c22)), (93, (iv (y24.rows.length : Int))), (94, (iv x207)), (103, (.bool true)), (104, (.pointer (oepV A21 19 o206)))] [(2, (iv p2)), (8, (pt g12)), (10, (pt g20)), (12, (.slice A91 x94.length c92)), (16, (pt g186)), (17, (.pointer (some ((adr A21).add ((i235).toNat * 19))))), (18, (iv x196)), (19, (iv (-1))), (20, (iv x207)), (21, (pt g216)), (85, (iv p2)), (86, (iv x196)), (92, (.slice A21 y24.rows.length c22)), (93, (iv (y24.rows.length : Int))), (94, (iv x207)), (103, (.bool true)), (104, (.pointer (some ((adr A21).add ((i235).toNat * 19)))))] rfl (by rw [ho234]; rfl) ?_
           obtain ⟨h236, hv232⟩ := as_some hv232
           let e26 := (rdD y24.rows i235 z_Row).North
           let e59 := (adr A21).add ((i235).toNat * 19)
           refine segF 17 [.v e88, .v e89, .v e90, .v e91, .v e92, .v e93, .v e94, .v e95, .v (iv (e26.e0)), .v (iv (e26.e1)), .v (iv (e26.e2)), .v (iv (e26.e3)), .v (iv (e26.e4)), .v (iv (e26.e5)), .v (iv (e26.e6)), .v (iv (e26.e7))] e50 [e41, e36, e35, e19, e32, (17, (.pointer (some e59))), e39, e40, e47, e62, e37, e34, e20, e15, e44, (115, (bv ((e26.e0) == (e21.e0) && ((e26.e1) == (e21.e1) && ((e26.e2) == (e21.e2) && ((e26.e3) == (e21.e3) && ((e26.e4) == (e21.e4) && ((e26.e5) == (e21.e5) && ((e26.e6) == (e21.e6) && ((e26.e7) == (e21.e7)))))))))))] [.cell (e59.add 9) (iv (e26.e0)), .cell (e59.add 10) (iv (e26.e1)), .cell (e59.add 11) (iv (e26.e2)), .cell (e59.add 12) (iv (e26.e3)), .cell (e59.add 13) (iv (e26.e4)), .cell (e59.add 14) (iv (e26.e5)), .cell (e59.add 15) (iv (e26.e6)), .cell (e59.add 16) (iv (e26.e7))] [19, 20, 21, 22, 23, 24, 25, 26] e48 (fun fb => by kernel_rfl) rfl ⟨nrow_cell (rowO.rd (hS230.own 3).1) z_Row h236.1 h236.2 9 rfl, nrow_cell (rowO.rd (hS230.own 3).1) z_Row h236.1 h236.2 10 rfl, nrow_cell (rowO.rd (hS230.own 3).1) z_Row h236.1 h236.2 11 rfl, nrow_cell (rowO.rd (hS230.own 3).1) z_Row h236.1 h236.2 12 rfl, nrow_cell (rowO.rd (hS230.own 3).1) z_Row h236.1 h236.2 13 rfl, nrow_cell (rowO.rd (hS230.own 3).1) z_Row h236.1 h236.2 14 rfl, nrow_cell (rowO.rd (hS230.own 3).1) z_Row h236.1 h236.2 15 rfl, nrow_cell (rowO.rd (hS230.own 3).1) z_Row h236.1 h236.2 16 rfl, trivial⟩ rfl ?_
           refine WL.reE [2, 8, 10, 12, 16, 17, 18, 19, 20, 21, 85, 86, 92, 93, 94, 115] [(2, (iv p2)), (8, (pt g12)), (10, (pt g20)), (12, (.slice A91 x94.length c92)), (16, (pt g186)), (17, (.pointer (some ((adr A21).add ((i235).toNat * 19))))), (18, (iv x196)), (19, (iv (-1))), (20, (iv x207)), (21, (pt g216)), (85, (iv p2)), (86, (iv x196)), (92, (.slice A21 y24.rows.length c22)), (93, (iv (y24.rows.length : Int))), (94, (iv x207)), (115, (.bool ((((rdD y24.rows i235 z_Row).North).e0) == (((rdD y24.rows x207 z_Row).South).e0) && ((((rdD y24.rows i235 z_Row).North).e1) == (((rdD y24.rows x207 z_Row).South).e1) && ((((rdD y24.rows i235 z_Row).North).e2) == (((rdD y24.rows x207 z_Row).South).e2) && ((((rdD y24.rows i235 z_Row).North).e3) == (((rdD y24.rows x207 z_Row).South).e3) && ((((rdD y24.rows i235 z_Row).North).e4) == (((rdD y24.rows x207 z_Row).South).e4) && ((((rdD y24.rows i235 z_Row).North).e5) == (((rdD y24.rows x207 z_Row).South).e5) && ((((rdD y24.rows i235 z_Row).North).e6) == (((rdD y24.rows x207 z_Row).South).e6) && ((((rdD y24.rows i235 z_Row).North).e7) == (((rdD y24.rows x207 z_Row).South).e7)))))))))))] [(2, (iv p2)), (8, (pt g12)), (10, (pt g20)), (12, (.slice A91 x94.length c92)), (16, (pt g186)), (17, (.pointer (oepV A21 19 o206))), (18, (iv x196)), (19, (iv (-1))), (20, (iv x207)), (21, (pt g216)), (85, (iv p2)), (86, (iv x196)), (92, (.slice A21 y24.rows.length c22)), (93, (iv (y24.rows.length : Int))), (94, (iv x207)), (115, (.bool ((((rdD y24.rows i235 z_Row).North).e0) == (((rdD y24.rows x207 z_Row).South).e0) && ((((rdD y24.rows i235 z_Row).North).e1) == (((rdD y24.rows x207 z_Row).South).e1) && ((((rdD y24.rows i235 z_Row).North).e2) == (((rdD y24.rows x207 z_Row).South).e2) && ((((rdD y24.rows i235 z_Row).North).e3) == (((rdD y24.rows x207 z_Row).South).e3) && ((((rdD y24.rows i235 z_Row).North).e4) == (((rdD y24.rows x207 z_Row).South).e4) && ((((rdD y24.rows i235 z_Row).North).e5) == (((rdD y24.rows x207 z_Row).South).e5) && ((((rdD y24.rows i235 z_Row).North).e6) == (((rdD y24.rows x207 z_Row).South).e6) && ((((rdD y24.rows i235 z_Row).North).e7) == (((rdD y24.rows x207 z_Row).South).e7)))))))))))] rfl (by rw [ho234]; rfl) ?_
           injection hv232 with hv232
           subst hv232
           exact WL.toV K () e51 rfl trivial
          refine WL.setB 103 h233 rfl ?_
          refine seg 17 [] e50 [e41, e36, e35, e19, e32, (17, (.pointer e38)), e39, e40, e47, e62, e37, e34, e20, e15, e44, (115, (bv false))] [] (fun fb => by kernel_rfl) rfl trivial ?_
          injection hv232 with hv232
          subst hv232
          exact WL.toV K () e51 rfl trivial
         rintro _ _
         refine seg 18 [] e130 [e41, e36, e35, e19, e32, (17, (.pointer e38)), e39, e40, e47, e62, e37, e34, e20, e15, e44, (116, (bv b231))] [] (fun fb => by kernel_rfl) rfl trivial ?_
         refine WL.cutV (T := Bool) 33 (fun t => [(131, (bv t)), e41, e36, e35, e19, e32, (17, (.pointer e38)), e39, e40, e47, e37, e34, e20, e15, e44]) (fun t => b231 = t) (fun K => ?_) ?_
         ·
          rcases Bool.eq_false_or_eq_true b231 with h237 | h237
          ·
           refine WL.setB 116 h237 rfl ?_
           refine seg 23 [] e124 [e41, e36, e35, e19, e32, (17, (.pointer e38)), e39, e40, e47, e62, e37, e34, e20, e15, e44, e139, (121, (bv (x196 == e69)))] [] (fun fb => by kernel_rfl) rfl trivial ?_
           refine WL.setB 121 h223 rfl ?_
           refine seg 33 [] e54 [e41, e36, e35, e19, e32, (17, (.pointer e38)), e39, e40, e47, e37, e34, e20, e15, e44, (131, (bv true))] [] (fun fb => by kernel_rfl) rfl trivial ?_
           exact WL.toV K true [131, 2, 8, 10, 12, 16, 17, 18, 19, 20, 85, 86, 92, 93, 94] rfl (by first | (rw [h237]; done) | (rw [h237]; rfl))
          refine WL.setB 116 h237 rfl ?_
          refine seg 33 [] e54 [e41, e36, e35, e19, e32, (17, (.pointer e38)), e39, e40, e47, e37, e34, e20, e15, e44, (131, (bv false))] [] (fun fb => by kernel_rfl) rfl trivial ?_
          exact WL.toV K false [131, 2, 8, 10, 12, 16, 17, 18, 19, 20, 85, 86, 92, 93, 94] rfl (by first | (rw [h237]; done) | (rw [h237]; rfl))
         rintro b238 rfl
         refine WL.done rfl ?_
         injection hx222 with hx222
         exact WX.to Kx221 b231 e54 rfl ⟨(hS230.subR e73).sub [1, 2, 3, 4, 5, 6, 7, 8] (by decide), hx222.symm⟩
        refine WC.regionD e78 e75 (by kernel_rfl) (by kernel_rfl) (NoPanic.seq (NoPanic.block (NoPanic.seq (NoPanic.seq (NoPanic.block (NoPanic.seq (NoPanic.block (NoPanic.seq (NoPanic.seq (NoPanic.block (NoPanic.seq (NoPanic.body)))))))))))) ?_
        have hS240 := hS220.drew
        revert hS240
        generalize World.drew w219 = w239
        intro hS240
        refine ⟨⟨hS240.cell 0 rfl 0 rfl, hS240.cell 0 rfl 1 rfl, hS240.cell 0 rfl 2 rfl, hS240.cell 0 rfl 3 rfl, hS240.cell 0 rfl 4 rfl, hS240.cell 0 rfl 5 rfl, hS240.cell 0 rfl 6 rfl, hS240.cell 0 rfl 7 rfl, hS240.cell 0 rfl 8 rfl, hS240.cell 0 rfl 9 rfl, hS240.cell 0 rfl 10 rfl, hS240.cell 0 rfl 11 rfl, hS240.cell 0 rfl 12 rfl, hS240.cell 0 rfl 13 rfl, hS240.cell 0 rfl 14 rfl, hS240.cell 0 rfl 15 rfl, hS240.cell 0 rfl 16 rfl, hS240.cell 0 rfl 17 rfl, hS240.cell 0 rfl 18 rfl, hS240.cell 0 rfl 1 rfl, hS240.cell 0 rfl 2 rfl, hS240.cell 0 rfl 3 rfl, hS240.cell 0 rfl 4 rfl, hS240.cell 0 rfl 5 rfl, hS240.cell 0 rfl 6 rfl, hS240.cell 0 rfl 7 rfl, hS240.cell 0 rfl 8 rfl, hS240.cell 0 rfl 9 rfl, hS240.cell 0 rfl 10 rfl, hS240.cell 0 rfl 11 rfl, hS240.cell 0 rfl 12 rfl, hS240.cell 0 rfl 13 rfl, hS240.cell 0 rfl 14 rfl, hS240.cell 0 rfl 15 rfl, hS240.cell 0 rfl 16 rfl, trivial⟩, forallC ?_ (forallN)⟩
        refine segF 3 [.v e46, .v e88, .v e89, .v e90, .v e91, .v e92, .v e93, .v e94, .v e95, .v e108, .v e109, .v e110, .v e111, .v e112, .v e113, .v e114, .v e115, .v e127, .v e128] e122 [e41, e36, e35, e19, e32, (17, (.pointer e38)), e39, e40, e47, e62, e37, e34, e20, e15, e44, (99, (pt g20)), (100, (.agg e11)), (101, (iv x196))] [] e74 e18 (fun fb => by kernel_rfl) rfl trivial rfl ?_
        obtain ⟨t241, ht242, hx222⟩ := bind_some hx222
        refine WL.call (some 102) 42 #[(pt g20), (.agg e11), (iv x196)] (fun fb => by kernel_rfl) (fill_job_allows_calls _ (Job.mk y24.rows y24.width y24.height p3) e8 x196 g20 A21 c22 H23 Ab cb Ac cc Ad cd Ae ce ((H23 x207.toNat 0).1) ((H23 x207.toNat 0).2) t241 _ (hS240.ow 2) (hS240.ow 3).ofO (poolO.ro (hS240.ow 4) 0) (hS240.rd 1) (hS240.rd 2) (hS240.rd 3) (hS240.rd 4) (nestO.ro (poolO.ro (hS240.ow 4) 0) z_Row h215.1 h215.2) ht242) (fun v w243 hR244 => ?_)
        obtain ⟨rfl, hk_⟩ := hR244
        have hS245 := hS240.keepN hk_
        refine ⟨⟨hS245.cell 0 rfl 1 rfl, hS245.cell 0 rfl 2 rfl, hS245.cell 0 rfl 3 rfl, hS245.cell 0 rfl 4 rfl, hS245.cell 0 rfl 5 rfl, hS245.cell 0 rfl 6 rfl, hS245.cell 0 rfl 7 rfl, hS245.cell 0 rfl 8 rfl, hS245.cell 0 rfl 9 rfl, hS245.cell 0 rfl 10 rfl, hS245.cell 0 rfl 11 rfl, hS245.cell 0 rfl 12 rfl, hS245.cell 0 rfl 13 rfl, hS245.cell 0 rfl 14 rfl, hS245.cell 0 rfl 15 rfl, hS245.cell 0 rfl 16 rfl, trivial⟩, ?_⟩
        refine seg 5 [] e129 [e41, e36, e35, e19, e32, (17, (.pointer e38)), e39, e40, e47, e62, e37, e34, e20, e15, e44, (103, (bv t241))] [] (fun fb => by kernel_rfl) rfl trivial ?_
        obtain ⟨b246, hv247, hx222⟩ := bind_some hx222
        refine WL.cutV (T := Unit) 17 (fun t => [(115, (bv b246)), e41, e36, e35, e19, e32, (17, (.pointer e38)), e39, e40, e47, e62, e37, e34, e20, e15, e44]) (fun t => True) (fun K => ?_) ?_
        ·
         rcases br_some hv247 with ⟨h248, hv247⟩ | ⟨h248, hv247⟩
         ·
          refine WL.setB 103 h248 rfl ?_
          refine seg 6 [] e123 [e41, e36, e35, e19, e32, (17, (.pointer e38)), e39, e40, e47, e62, e37, e34, e20, e15, e44, (103, (bv true)), (104, (.pointer e38))] [] (fun fb => by kernel_rfl) rfl trivial ?_
          rcases optM_some hv247 with ⟨ho249, hv247⟩ | ⟨i250, ho249, hv247⟩
          ·
           have ho249 : o206 = none := ho249
           refine WL.reE [2, 8, 10, 12, 16, 17, 18, 19, 20, 21, 85, 86, 92, 93, 94, 103, 104] [(2, (iv p2)), (8, (pt g12)), (10, (pt g20)), (12, (.slice A91 x94.length c92)), (16, (pt g186)), (17, (.pointer (oepV A21 19 o206))), (18, (iv x196)), (19, (iv (-1))), (20, (iv x207)), (21, (pt g216)), (85, (iv p2)), (86, (iv x196)), (92, (.slice A21 y24.rows.length c22)), (93, (iv (y24.rows.length : Int))), (94, (iv x207)), (103, (.bool true)), (104, (.pointer (oepV A21 19 o206)))] [(2, (iv p2)), (8, (pt g12)), (10, (pt g20)), (12, (.slice A91 x94.length c92)), (16, (pt g186)), (17, (.pointer none)), (18, (iv x196)), (19, (iv (-1))), (20, (iv x207)), (21, (pt g216)), (85, (iv p2)), (86, (iv x196)), (92, (.slice A21 y24.rows.length c22)), (93, (iv (y24.rows.length : Int))), (94, (iv x207)), (103, (.bool true)), (104, (.pointer none))] rfl (by rw [ho249]; rfl) ?_
           refine seg 17 [] e50 [e41, e36, e35, e19, e32, (17, (.pointer none)), e39, e40, e47, e62, e37, e34, e20, e15, e44, (115, (bv true))] [] (fun fb => by kernel_rfl) rfl trivial ?_
           refine WL.reE [2, 8, 10, 12, 16, 17, 18, 19, 20, 21, 85, 86, 92, 93, 94, 115] [(2, (iv p2)), (8, (pt g12)), (10, (pt g20)), (12, (.slice A91 x94.length c92)), (16, (pt g186)), (17, (.pointer none)), (18, (iv x196)), (19, (iv (-1))), (20, (iv x207)), (21, (pt g216)), (85, (iv p2)), (86, (iv x196)), (92, (.slice A21 y24.rows.length c22)), (93, (iv (y24.rows.length : Int))), (94, (iv x207)), (115, (.bool true))] [(2, (iv p2)), (8, (pt g12)), (10, (pt g20)), (12, (.slice A91 x94.length c92)), (16, (pt g186)), (17, (.pointer (oepV A21 19 o206))), (18, (iv x196)), (19, (iv (-1))), (20, (iv x207)), (21, (pt g216)), (85, (iv p2)), (86, (iv x196)), (92, (.slice A21 y24.rows.length c22)), (93, (iv (y24.rows.length : Int))), (94, (iv x207)), (115, (.bool true))] rfl (by rw [ho249]; rfl) ?_
           injection hv247 with hv247
           subst hv247
           exact WL.toV K () e51 rfl trivial
          have ho249 : o206 = some i250 := ho249
          refine WL.reE [2, 8, 10, 12, 16, 17, 18, 19, 20, 21, 85, 86, 92, 93, 94, 103, 104] [(2, (iv p2)), (8, (pt g12)), (10, (pt g20)), (12, (.slice A91 x94.length c92)), (16, (pt g186)), (17, (.pointer (oepV A21 19 o206))), (18, (iv x196)), (19, (iv (-1))), (20, (iv x207)), (21, (pt g216)), (85, (iv p2)), (86, (iv x196)), (92, (.slice A21 y24.rows.length c22)), (93, (iv (y24.rows.length : Int))), (94, (iv x207)), (103, (.bool true)), (104, (.pointer (oepV A21 19 o206)))] [(2, (iv p2)), (8, (pt g12)), (10, (pt g20)), (12, (.slice A91 x94.length c92)), (16, (pt g186)), (17, (.pointer (some ((adr A21).add ((i250).toNat * 19))))), (18, (iv x196)), (19, (iv (-1))), (20, (iv x207)), (21, (pt g216)), (85, (iv p2)), (86, (iv x196)), (92, (.slice A21 y24.rows.length c22)), (93, (iv (y24.rows.length : Int))), (94, (iv x207)), (103, (.bool true)), (104, (.pointer (some ((adr A21).add ((i250).toNat * 19)))))] rfl (by rw [ho249]; rfl) ?_
          obtain ⟨h251, hv247⟩ := as_some hv247
          let e25 := (rdD y24.rows i250 z_Row).North
          let e58 := (adr A21).add ((i250).toNat * 19)
          refine segF 17 [.v e88, .v e89, .v e90, .v e91, .v e92, .v e93, .v e94, .v e95, .v (iv (e25.e0)), .v (iv (e25.e1)), .v (iv (e25.e2)), .v (iv (e25.e3)), .v (iv (e25.e4)), .v (iv (e25.e5)), .v (iv (e25.e6)), .v (iv (e25.e7))] e50 [e41, e36, e35, e19, e32, (17, (.pointer (some e58))), e39, e40, e47, e62, e37, e34, e20, e15, e44, (115, (bv ((e25.e0) == (e21.e0) && ((e25.e1) == (e21.e1) && ((e25.e2) == (e21.e2) && ((e25.e3) == (e21.e3) && ((e25.e4) == (e21.e4) && ((e25.e5) == (e21.e5) && ((e25.e6) == (e21.e6) && ((e25.e7) == (e21.e7)))))))))))] [.cell (e58.add 9) (iv (e25.e0)), .cell (e58.add 10) (iv (e25.e1)), .cell (e58.add 11) (iv (e25.e2)), .cell (e58.add 12) (iv (e25.e3)), .cell (e58.add 13) (iv (e25.e4)), .cell (e58.add 14) (iv (e25.e5)), .cell (e58.add 15) (iv (e25.e6)), .cell (e58.add 16) (iv (e25.e7))] [19, 20, 21, 22, 23, 24, 25, 26] e48 (fun fb => by kernel_rfl) rfl ⟨nrow_cell (rowO.rd (hS245.own 3).1) z_Row h251.1 h251.2 9 rfl, nrow_cell (rowO.rd (hS245.own 3).1) z_Row h251.1 h251.2 10 rfl, nrow_cell (rowO.rd (hS245.own 3).1) z_Row h251.1 h251.2 11 rfl, nrow_cell (rowO.rd (hS245.own 3).1) z_Row h251.1 h251.2 12 rfl, nrow_cell (rowO.rd (hS245.own 3).1) z_Row h251.1 h251.2 13 rfl, nrow_cell (rowO.rd (hS245.own 3).1) z_Row h251.1 h251.2 14 rfl, nrow_cell (rowO.rd (hS245.own 3).1) z_Row h251.1 h251.2 15 rfl, nrow_cell (rowO.rd (hS245.own 3).1) z_Row h251.1 h251.2 16 rfl, trivial⟩ rfl ?_
          refine WL.reE [2, 8, 10, 12, 16, 17, 18, 19, 20, 21, 85, 86, 92, 93, 94, 115] [(2, (iv p2)), (8, (pt g12)), (10, (pt g20)), (12, (.slice A91 x94.length c92)), (16, (pt g186)), (17, (.pointer (some ((adr A21).add ((i250).toNat * 19))))), (18, (iv x196)), (19, (iv (-1))), (20, (iv x207)), (21, (pt g216)), (85, (iv p2)), (86, (iv x196)), (92, (.slice A21 y24.rows.length c22)), (93, (iv (y24.rows.length : Int))), (94, (iv x207)), (115, (.bool ((((rdD y24.rows i250 z_Row).North).e0) == (((rdD y24.rows x207 z_Row).South).e0) && ((((rdD y24.rows i250 z_Row).North).e1) == (((rdD y24.rows x207 z_Row).South).e1) && ((((rdD y24.rows i250 z_Row).North).e2) == (((rdD y24.rows x207 z_Row).South).e2) && ((((rdD y24.rows i250 z_Row).North).e3) == (((rdD y24.rows x207 z_Row).South).e3) && ((((rdD y24.rows i250 z_Row).North).e4) == (((rdD y24.rows x207 z_Row).South).e4) && ((((rdD y24.rows i250 z_Row).North).e5) == (((rdD y24.rows x207 z_Row).South).e5) && ((((rdD y24.rows i250 z_Row).North).e6) == (((rdD y24.rows x207 z_Row).South).e6) && ((((rdD y24.rows i250 z_Row).North).e7) == (((rdD y24.rows x207 z_Row).South).e7)))))))))))] [(2, (iv p2)), (8, (pt g12)), (10, (pt g20)), (12, (.slice A91 x94.length c92)), (16, (pt g186)), (17, (.pointer (oepV A21 19 o206))), (18, (iv x196)), (19, (iv (-1))), (20, (iv x207)), (21, (pt g216)), (85, (iv p2)), (86, (iv x196)), (92, (.slice A21 y24.rows.length c22)), (93, (iv (y24.rows.length : Int))), (94, (iv x207)), (115, (.bool ((((rdD y24.rows i250 z_Row).North).e0) == (((rdD y24.rows x207 z_Row).South).e0) && ((((rdD y24.rows i250 z_Row).North).e1) == (((rdD y24.rows x207 z_Row).South).e1) && ((((rdD y24.rows i250 z_Row).North).e2) == (((rdD y24.rows x207 z_Row).South).e2) && ((((rdD y24.rows i250 z_Row).North).e3) == (((rdD y24.rows x207 z_Row).South).e3) && ((((rdD y24.rows i250 z_Row).North).e4) == (((rdD y24.rows x207 z_Row).South).e4) && ((((rdD y24.rows i250 z_Row).North).e5) == (((rdD y24.rows x207 z_Row).South).e5) && ((((rdD y24.rows i250 z_Row).North).e6) == (((rdD y24.rows x207 z_Row).South).e6) && ((((rdD y24.rows i250 z_Row).North).e7) == (((rdD y24.rows x207 z_Row).South).e7)))))))))))] rfl (by rw [ho249]; rfl) ?_
          injection hv247 with hv247
          subst hv247
          exact WL.toV K () e51 rfl trivial
         refine WL.setB 103 h248 rfl ?_
         refine seg 17 [] e50 [e41, e36, e35, e19, e32, (17, (.pointer e38)), e39, e40, e47, e62, e37, e34, e20, e15, e44, (115, (bv false))] [] (fun fb => by kernel_rfl) rfl trivial ?_
         injection hv247 with hv247
         subst hv247
         exact WL.toV K () e51 rfl trivial
        rintro _ _
        refine seg 18 [] e130 [e41, e36, e35, e19, e32, (17, (.pointer e38)), e39, e40, e47, e62, e37, e34, e20, e15, e44, (116, (bv b246))] [] (fun fb => by kernel_rfl) rfl trivial ?_
        obtain ⟨b252, hv253, hx222⟩ := bind_some hx222
        refine WL.cutV (T := Unit) 33 (fun t => [(131, (bv b252)), e41, e36, e35, e19, e32, (17, (.pointer e38)), e39, e40, e47, e37, e34, e20, e15, e44]) (fun t => True) (fun K => ?_) ?_
        ·
         rcases br_some hv253 with ⟨h254, hv253⟩ | ⟨h254, hv253⟩
         ·
          refine WL.setB 116 h254 rfl ?_
          refine seg 23 [] e124 [e41, e36, e35, e19, e32, (17, (.pointer e38)), e39, e40, e47, e62, e37, e34, e20, e15, e44, e139, (121, (bv (x196 == e69)))] [] (fun fb => by kernel_rfl) rfl trivial ?_
          refine WL.setB 121 h223 rfl ?_
          refine seg 26 [] [2, 8, 10, 12, 16, 17, 18, 19, 20, 21, 85, 86, 92, 93, 94, 116, 121, 122, 124] [e41, e36, e35, e19, e32, (17, (.pointer e38)), e39, e40, e47, e62, e37, e34, e20, e15, e44, e139, (121, (bv false)), (122, (sv A91 x94 c92)), (124, (iv e99))] [] (fun fb => by kernel_rfl) rfl trivial ?_
          obtain ⟨h255, hv253⟩ := as_some hv253
          refine segF 29 [.v e108, .v e109, .v e110, .v e111, .v e112, .v e113, .v e114, .v e115] [2, 8, 10, 12, 16, 17, 18, 19, 20, 85, 86, 92, 93, 94, 116, 121, 125, 128] [e41, e36, e35, e19, e32, (17, (.pointer e38)), e39, e40, e47, e37, e34, e20, e15, e44, e139, (121, (bv false)), (125, (.pointer (some ((adr A91).add (e99.toNat * 1))))), (128, (.agg e77))] [.idx A91 e99 x94.length] [27, 28, 29, 30, 31, 32, 33, 34] [(29, ⟨g216, 9, none⟩, e108), (29, ⟨g216, 10, none⟩, e109), (29, ⟨g216, 11, none⟩, e110), (29, ⟨g216, 12, none⟩, e111), (29, ⟨g216, 13, none⟩, e112), (29, ⟨g216, 14, none⟩, e113), (29, ⟨g216, 15, none⟩, e114), (29, ⟨g216, 16, none⟩, e115)] (fun fb => by kernel_rfl) rfl ⟨nrow_adr (rowO.rd (hS245.own 5).1) h255.1 h255.2, trivial⟩ rfl ?_
          obtain ⟨m256, hm257, hv253⟩ := bind_some hv253
          refine seg 30 [.v (.map (some (H93 e99.toNat)))] [2, 8, 10, 12, 16, 17, 18, 19, 20, 85, 86, 92, 93, 94, 116, 121, 126, 128] [e41, e36, e35, e19, e32, (17, (.pointer e38)), e39, e40, e47, e37, e34, e20, e15, e44, e139, (121, (bv false)), (126, (.map (some (H93 e99.toNat)))), (128, (.agg e77))] [.cell ((adr A91).add (e99.toNat * 1)) (.map (some (H93 e99.toNat)))] (fun fb => by kernel_rfl) rfl ⟨nrow_cell (rowO.rd (hS245.own 5).1) none h255.1 h255.2 0 (mapV_some hm257), trivial⟩ ?_
          refine WL.lookup (mapsO.at (hS245.own 6).1 h255.1 h255.2 hm257) e24 (d := 129) (c := false) (t := 90) (kT := 95) (eT := 4) (z := false) (kE := e70) (vE := vB) (l := m256) (bv (mget e24 false m256)) (fun fb => by kernel_rfl) fill_First_key95 (by kernel_rfl) (fun _ => by kernel_rfl) rfl ?_
          refine ⟨trivial, ?_⟩
          refine seg 33 [] e54 [e41, e36, e35, e19, e32, (17, (.pointer e38)), e39, e40, e47, e37, e34, e20, e15, e44, (131, (bv (mget e24 false m256)))] [] (fun fb => by kernel_rfl) rfl trivial ?_
          injection hv253 with hv253
          subst hv253
          exact WL.toV K () e133 rfl trivial
         refine WL.setB 116 h254 rfl ?_
         refine seg 33 [] e54 [e41, e36, e35, e19, e32, (17, (.pointer e38)), e39, e40, e47, e37, e34, e20, e15, e44, (131, (bv false))] [] (fun fb => by kernel_rfl) rfl trivial ?_
         injection hv253 with hv253
         subst hv253
         exact WL.toV K () e133 rfl trivial
        rintro _ _
        refine WL.done rfl ?_
        injection hx222 with hx222
        exact WX.to Kx221 b252 e54 rfl ⟨(hS245.subR e73).sub [1, 2, 3, 4, 5, 6, 7, 8] (by decide), hx222.symm⟩
       rintro y261 w258 ⟨hS259, hq260⟩
       subst hq260
       refine WX.next ?_
       rcases br_some hl213 with ⟨h262, hl213⟩ | ⟨h262, hl213⟩
       ·refine WC.condT2 (fun fb => by kernel_rfl) h262 ?_
        refine WC.seq (WC.region ?_)
        refine seg 2 [] e138 [e41, e36, e35, e19, e32, (19, (iv x207)), e37, e34] [] (fun fb => by kernel_rfl) rfl trivial ?_
        refine WL.done rfl (WX.next ?_)
        refine WC.exit ?_
        injection hl213 with hl213
        exact WX.blockPast (by decide) (WX.thenX (WX.thenX (WX.blockHere (WX.to Kx208 x207 e138 rfl ⟨(hS259.subR e73).sub e116 (by decide), hl213.symm⟩))))
       refine WC.condF2 (fun fb => by kernel_rfl) h262 ?_
       refine WC.skip ?_
       refine WX.blockN (WX.next ?_)
       refine WC.region ?_
       refine seg 2 [] e72 [e41, e36, e35, e19, e32, (17, (.pointer e38)), e39, e40, e37, e34, e20, e15, (94, (iv (w64 (x207 + 1))))] [] (fun fb => by kernel_rfl) rfl trivial ?_
       refine WL.done rfl ?_
       exact WX.again k210 (Nat.lt_succ_self _) (o206, w64 (x207 + 1)) e72 rfl ⟨(hS259.subR e73).sub e116 (by decide), hl213⟩
      refine WC.condF2 (fun fb => by kernel_rfl) h214 ?_
      refine WC.exit ?_
      injection hl213 with hl213
      exact WX.thenX (WX.thenX (WX.blockHere (WX.to Kx208 (-1) e138 rfl ⟨(hS212.subR e73).sub e116 (by decide), hl213.symm⟩)))
    rintro y266 w263 ⟨hS264, hq265⟩
    subst hq265
    refine WX.next (WC.seq (WC.seq (WC.region ?_)))
    refine seg 2 [] [2, 8, 10, 12, 16, 19, 85, 86, 135] [e41, e36, e35, e19, e32, (19, (iv x208)), e37, e34, (135, (bv (decide (x208 < 0))))] [] (fun fb => by kernel_rfl) rfl trivial ?_
    refine WL.done rfl (WX.next ?_)
    rcases br_some hl204 with ⟨h267, hl204⟩ | ⟨h267, hl204⟩
    ·refine WC.condT2 (fun fb => by kernel_rfl) h267 ?_
     refine WC.seq (WC.region ?_)
     refine seg 1 [] [8, 136] [e36, (136, (.agg #[(iv 0), (iv 0), (.slice none 0 0)]))] [] (fun fb => by kernel_rfl) rfl trivial ?_
     refine WL.store hS264 0 rfl [(0, (iv 0)), (1, (iv 0)), (2, (.slice none 0 0))] #[(iv 0), (iv 0), (.slice none 0 0)] (fun fb => by kernel_rfl) (by kernel_rfl) rfl [1, 2, 3, 4, 5, 6, 7] (by decide) (by decide) (fun w268 hS269 => ?_)
     refine ⟨trivial, ?_⟩
     refine seg 3 [] [8, 9] [e36, (9, (iv 6))] [] (fun fb => by kernel_rfl) rfl trivial ?_
     refine WL.done rfl (WX.next ?_)
     refine WC.ret ?_
     have hS270 := hS269.nilrow 3 encInt
     injection hl204 with hl204
     subst hl204
     injection hf with hf
     subst hf
     exact WX.thenR (WX.blockR (WX.thenR (WX.thenR (WX.blockR (WX.thenR (WX.ret_ [.v (iv 0), .v (iv 0), .v (.slice none 0 0)] (.tuple #[(.agg #[(iv 0), (iv 0), (sv none ([] : List Int) 0)]), (iv 6)]) [.cell ⟨g12, 0, none⟩ (iv 0), .cell ⟨g12, 1, none⟩ (iv 0), .cell ⟨g12, 2, none⟩ (.slice none 0 0)] (fun fb => by kernel_rfl) ⟨hS269.cell 0 rfl 0 rfl, hS269.cell 0 rfl 1 rfl, hS269.cell 0 rfl 2 rfl, trivial⟩ ⟨_, rfl, none, 0, rfl, (hS270.sub [0] (by decide)).noR⟩))))))
    refine WC.condF2 (fun fb => by kernel_rfl) h267 ?_
    refine WC.skip (WX.next (WC.seq (WC.region ?_)))
    refine seg 5 [.v e119] [2, 8, 10, 12, 16, 85, 86, 140, 141] [e41, e36, e35, e19, e32, e37, e34, (140, e119), (141, (iv x208))] [.cell ⟨g20, 0, none⟩ e119] (fun fb => by kernel_rfl) rfl ⟨hS264.cell 1 rfl 0 rfl, trivial⟩ ?_
    obtain ⟨h271, hl204⟩ := as_some hl204
    refine seg 7 [] e117 [e41, e36, e35, e19, e32, (17, (.pointer (some ((adr A21).add ((x208).toNat * 19))))), e37, e34] [.idx A21 x208 y24.rows.length] (fun fb => by kernel_rfl) rfl ⟨nrow_adr (rowO.rd (hS264.own 2).1) h271.1 h271.2, trivial⟩ ?_
    refine WL.done rfl (WX.next ?_)
    refine WC.regionD ([(1, ⟨g186, 2, none⟩, e96), (5, ((adr A21).add ((x208).toNat * 19)), (sv ((H23 x208.toNat 0).1) ((rdD y24.rows x208 z_Row).Cells) ((H23 x208.toNat 0).2)))], [0, 1, 2, 3, 4, 5, 7], [[], [0], [], [2], [2, 3], [2, 3, 4], e98, [0, 1, 2, 3, 4, 5, 6], e116]) [[0, 1, 2, 3, 4, 5, 6, 7, 8]] (by kernel_rfl) (by kernel_rfl) (NoPanic.block (NoPanic.seq (NoPanic.seq (NoPanic.block (NoPanic.seq (NoPanic.body)))))) ?_
    have hS273 := hS264.drew
    revert hS273
    generalize World.drew w263 = w272
    intro hS273
    refine ⟨⟨hS273.cell 6 rfl 2 rfl, nrow_cell (rowO.rd (hS273.own 2).1) z_Row h271.1 h271.2 0 rfl, trivial⟩, forallC ?_ (forallN)⟩
    let e67 := sv ((H23 x208.toNat 0).1) ((rdD y24.rows x208 z_Row).Cells) ((H23 x208.toNat 0).2)
    refine segF 6 [.v e96, .v e67] [2, 8, 10, 12, 16, 17, 85, 86, 144, 148] [e41, e36, e35, e19, e32, (17, (.pointer (some ((adr A21).add ((x208).toNat * 19))))), e37, e34, (144, e96), (148, e67)] [] [0, 1] [(1, ⟨g186, 2, none⟩, e96), (5, ((adr A21).add ((x208).toNat * 19)), e67)] (fun fb => by kernel_rfl) rfl trivial rfl ?_
    obtain ⟨h274, hl204⟩ := as_some hl204
    refine WL.append hS273 7 (d := 149) (tS := 25) (z := (iv 0)) (bytes := 8) (c2 := (H23 x208.toNat 0).2) rfl (fun fb => by kernel_rfl) (nestO.at ((hS273.own 3).1 0) z_Row h271.1 h271.2) (by kernel_rfl) (by kernel_rfl) rfl (by decide) h274 (by decide) [0, 1, 2, 3, 4, 5, 6] (by decide) (by decide) (fun A275 c276 w277 hS278 => ?_)
    refine ⟨trivial, ?_⟩
    refine seg 8 [] [2, 8, 10, 12, 16, 17, 85, 86, 149, 150] [e41, e36, e35, e19, e32, (17, (.pointer (some ((adr A21).add ((x208).toNat * 19))))), e37, e34, (149, (sv A275 (l194 ++ ((rdD y24.rows x208 z_Row).Cells)) c276)), (150, (.pointer (some ⟨g186, 2, none⟩)))] [] (fun fb => by kernel_rfl) rfl trivial ?_
    let e140 := sv A275 (l194 ++ ((rdD y24.rows x208 z_Row).Cells)) c276
    refine WL.store hS278 7 rfl [(2, e140)] #[(iv p1), (iv p2), e140] (fun fb => by kernel_rfl) (by kernel_rfl) rfl [0, 1, 2, 3, 4, 5, 6] (by decide) (by decide) (fun w279 hS280 => ?_)
    refine ⟨trivial, ?_⟩
    refine WL.done rfl ?_
    refine WX.blockN (WX.next ?_)
    refine WC.region ?_
    refine seg 2 [] e117 [e41, e36, e35, e19, e32, (17, (.pointer (some ((adr A21).add ((x208).toNat * 19))))), e37, (86, (iv e99))] [] (fun fb => by kernel_rfl) rfl trivial ?_
    refine WL.done rfl ?_
    exact WX.again k201 (Nat.lt_succ_self _) ((l194 ++ ((rdD y24.rows x208 z_Row).Cells), (some x208), w64 (x196 + 1)), A275, c276) e117 rfl ⟨(hS280.subR e73).sub [2, 3, 4, 5, 6, 7, 0, 1] (by decide), hl204⟩
   refine WC.condF2 (fun fb => by kernel_rfl) h205 ?_
   refine WC.exit ?_
   injection hl204 with hl204
   exact WX.thenX (WX.thenX (WX.blockHere (WX.to Kx199 (l194, A192, c193) [8, 16] rfl ⟨(hS203.subR e73).sub [0, 6, 7] (by decide), hl204.symm⟩)))
 rintro ⟨y284, A197, c198⟩ w281 ⟨hS282, hq283⟩
 subst hq283
 have hf := sum_inr hf
 refine WX.next (WC.seq (WC.region ?_))
 refine seg 1 [.v (iv p1), .v (iv p2), .v (sv A197 y284 c198)] [8, 152] [e36, (152, (.agg #[(iv p1), (iv p2), (sv A197 y284 c198)]))] [.cell ⟨g186, 0, none⟩ (iv p1), .cell ⟨g186, 1, none⟩ (iv p2), .cell ⟨g186, 2, none⟩ (sv A197 y284 c198)] (fun fb => by kernel_rfl) rfl ⟨hS282.cell 1 rfl 0 rfl, hS282.cell 1 rfl 1 rfl, hS282.cell 1 rfl 2 rfl, trivial⟩ ?_
 refine WL.store hS282 0 rfl [(0, (iv p1)), (1, (iv p2)), (2, (sv A197 y284 c198))] #[(iv p1), (iv p2), (sv A197 y284 c198)] (fun fb => by kernel_rfl) (by kernel_rfl) rfl [1, 2] (by decide) (by decide) (fun w285 hS286 => ?_)
 refine ⟨trivial, ?_⟩
 refine seg 3 [] [8, 9] [e36, (9, (iv 0))] [] (fun fb => by kernel_rfl) rfl trivial ?_
 refine WL.done rfl (WX.next ?_)
 refine WC.ret ?_
 injection hf with hf
 subst hf
 exact WX.ret_ [.v (iv p1), .v (iv p2), .v (sv A197 y284 c198)] (.tuple #[(.agg #[(iv p1), (iv p2), (sv A197 y284 c198)]), (iv 0)]) [.cell ⟨g12, 0, none⟩ (iv p1), .cell ⟨g12, 1, none⟩ (iv p2), .cell ⟨g12, 2, none⟩ (sv A197 y284 c198)] (fun fb => by kernel_rfl) ⟨hS286.cell 0 rfl 0 rfl, hS286.cell 0 rfl 1 rfl, hS286.cell 0 rfl 2 rfl, trivial⟩ ⟨_, rfl, A197, c198, rfl, (hS286.sub [2] (by decide)).noR⟩
theorem ref02_Power_calls (k : Nat) (p0 : Int) (p1 : Int)  (r : Int) (w : World)  (hf : ref02_Power k p0 p1 = some r) :
  CallsR Tryd.prog 43 #[(iv p0), (iv p1)] w (fun v w' => v = (iv r) ∧ Keeps NoS w w') := by
 have hS : St NoS w w [] [] := St.init (ro_nil _ _)
 refine enter 17 Tryd.func43 rfl Tryd.ntmps43 rfl ?_
 unfold ref02_Power at hf
 refine WC.seq (WC.region ?_)
 refine seg 1 [] [0, 1] [(0, (iv p0)), (1, (iv p1))] [] (fun fb => by kernel_rfl) rfl trivial ?_
 refine WL.done rfl (WX.next (WC.seq (WC.region ?_)))
 refine seg 1 [] [0, 1, 5] [(0, (iv p0)), (1, (iv p1)), (5, (iv 1))] [] (fun fb => by kernel_rfl) rfl trivial ?_
 refine WL.done rfl (WX.next (WC.seq (WC.seq (WC.region ?_))))
 refine seg 1 [] [0, 1, 5, 6] [(0, (iv p0)), (1, (iv p1)), (5, (iv 1)), (6, (iv 0))] [] (fun fb => by kernel_rfl) rfl trivial ?_
 refine WL.done rfl (WX.next ?_)
 obtain ⟨x5, hx6, hf⟩ := bind_some hf
 refine WC.cutN (T := Int) (fun t => [(5, (iv t))]) (fun t w1 => St NoS w w1 [] [] ∧ x5 = t) (fun Kx5 => ?_) ?_
 ·
  refine WC.block ?_
  refine WC.loop (T := Int × Int) (fun t => [(0, (iv p0)), (1, (iv p1)), (5, (iv t.1)), (6, (iv t.2))]) (fun n t w1 => St NoS w w1 [] [] ∧ ref02_Power.l0 n t.1 t.2 p0 p1 = some x5) k (1, 0) [0, 1, 5, 6] rfl ⟨(hS.subR []).sub [] (by decide), hx6⟩ ?_
  rintro k7 ⟨x3, x4⟩ w8 ⟨hS9, hl10⟩
  cases k7 with
  | zero => rw [ref02_Power.l0] at hl10; cases hl10
  | succ k7 =>
   rw [ref02_Power.l0] at hl10
   refine WC.seq (WC.seq (WC.region ?_))
   refine seg 3 [] [0, 1, 5, 6, 9] [(0, (iv p0)), (1, (iv p1)), (5, (iv x3)), (6, (iv x4)), (9, (bv (decide (x4 < p1))))] [] (fun fb => by kernel_rfl) rfl trivial ?_
   refine WL.done rfl (WX.next ?_)
   rcases br_some hl10 with ⟨h11, hl10⟩ | ⟨h11, hl10⟩
   ·refine WC.condT2 (fun fb => by kernel_rfl) h11 ?_
    refine WC.skip (WX.next (WC.seq (WC.block (WC.region ?_))))
    refine seg 5 [] [0, 1, 5, 6] [(0, (iv p0)), (1, (iv p1)), (5, (iv (minI (w64 (x3 * p0)) 1000000))), (6, (iv x4))] [] (fun fb => by kernel_rfl) rfl trivial ?_
    refine WL.done rfl ?_
    refine WX.blockN (WX.next ?_)
    refine WC.region ?_
    refine seg 3 [] [0, 1, 5, 6] [(0, (iv p0)), (1, (iv p1)), (5, (iv (minI (w64 (x3 * p0)) 1000000))), (6, (iv (w64 (x4 + 1))))] [] (fun fb => by kernel_rfl) rfl trivial ?_
    refine WL.done rfl ?_
    exact WX.again k7 (Nat.lt_succ_self _) (minI (w64 (x3 * p0)) 1000000, w64 (x4 + 1)) [0, 1, 5, 6] rfl ⟨(hS9.subR []).sub [] (by decide), hl10⟩
   refine WC.condF2 (fun fb => by kernel_rfl) h11 ?_
   refine WC.exit ?_
   injection hl10 with hl10
   exact WX.thenX (WX.thenX (WX.blockHere (WX.to Kx5 x3 [5] rfl ⟨(hS9.subR []).sub [] (by decide), hl10.symm⟩)))
 rintro y15 w12 ⟨hS13, hq14⟩
 subst hq14
 refine WX.next (WC.seq (WC.region ?_))
 refine seg 2 [] [4] [(4, (iv x5))] [] (fun fb => by kernel_rfl) rfl trivial ?_
 refine WL.done rfl (WX.next ?_)
 refine WC.ret ?_
 injection hf with hf
 subst hf
 exact WX.ret_ [] (iv x5) [] (fun fb => by kernel_rfl) trivial ⟨_, rfl, rfl, hS13.keep⟩
theorem ref02_Great_calls (k : Nat) (p0 : List Tile) (p1 : Int) (Aa : Option Addr) (ca : Nat) (r : Bool) (w : World) (hR0 : RO NoS w (rowR enc_Tile Aa ca p0)) (hf : ref02_Great k p0 p1 = some r) :
  CallsR Tryd.prog 27 #[(sv Aa p0 ca), (iv p1)] w (fun v w' => v = (bv r) ∧ Keeps NoS w w') := by
 have hS : St NoS w w [rowR enc_Tile Aa ca p0] [] := St.init (ro_cons hR0 (ro_nil _ _))
 refine enter 10 Tryd.func27 rfl Tryd.ntmps27 rfl ?_
 unfold ref02_Great at hf
 refine WC.seq (WC.region ?_)
 refine seg 1 [] [0, 1] [(0, (sv Aa p0 ca)), (1, (iv p1))] [] (fun fb => by kernel_rfl) rfl trivial ?_
 refine WL.done rfl (WX.next (WC.seq (WC.region ?_)))
 refine seg 3 [] [6, 7] [(6, (iv (p0.length : Int))), (7, (iv p1))] [] (fun fb => by kernel_rfl) rfl trivial ?_
 obtain ⟨t3, ht4, hf⟩ := bind_some hf
 refine WL.call (some 8) 43 #[(iv (p0.length : Int)), (iv p1)] (fun fb => by kernel_rfl) (ref02_Power_calls _ (p0.length : Int) p1 t3 _ ht4) (fun v w5 hR6 => ?_)
 obtain ⟨rfl, hk_⟩ := hR6
 have hS7 := hS.keepN hk_
 refine ⟨trivial, ?_⟩
 refine seg 6 [] [4] [(4, (bv (decide (t3 > 5000))))] [] (fun fb => by kernel_rfl) rfl trivial ?_
 refine WL.done rfl (WX.next ?_)
 refine WC.ret ?_
 injection hf with hf
 subst hf
 exact WX.ret_ [] (bv (decide (t3 > 5000))) [] (fun fb => by kernel_rfl) trivial ⟨_, rfl, rfl, hS7.keep⟩
theorem law04_StripRows_calls (k : Nat) (p0 : List Tile) (Aa : Option Addr) (ca : Nat) (mG : Glo) (r : Bool) (w : World) (hR0 : RO NoS w (rowR enc_Tile Aa ca p0)) (hR1 : RO NoS w (gloO Tryd.prog 2 5 0 1 mG)) (hf : law04_StripRows k p0 = some r) :
  CallsR Tryd.prog 7 #[(sv Aa p0 ca)] w (fun v w' => v = (bv r) ∧ Keeps NoS w w') := by
 have hS : St NoS w w [rowR enc_Tile Aa ca p0, gloO Tryd.prog 2 5 0 1 mG] [] := St.init (ro_cons hR0 (ro_cons hR1 (ro_nil _ _)))
 refine enter 83 Tryd.func7 rfl Tryd.ntmps7 rfl ?_
 unfold law04_StripRows at hf
 refine WC.seq (WC.region ?_)
 refine seg 1 [] [0] [(0, (sv Aa p0 ca))] [] (fun fb => by kernel_rfl) rfl trivial ?_
 refine WL.done rfl (WX.next (WC.seq (WC.seq (WC.region ?_))))
 refine seg 4 [] [0, 10] [(0, (sv Aa p0 ca)), (10, (bv (decide ((p0.length : Int) > 12))))] [] (fun fb => by kernel_rfl) rfl trivial ?_
 obtain ⟨x3, hx5, hf⟩ := bind_some hf
 refine WL.cutW (T := Bool) 8 (fun t => [(0, (sv Aa p0 ca)), (14, (bv t))]) (fun t w1 => (St NoS w w1 [rowR enc_Tile Aa ca p0, gloO Tryd.prog 2 5 0 1 mG] [] ∧ x3 = t) ∧ CellsOK [] w1) (fun K => ?_) ?_
 ·
  rcases br_some hx5 with ⟨h6, hx5⟩ | ⟨h6, hx5⟩
  ·
   refine WL.setB 10 h6 rfl ?_
   refine seg 8 [] [0, 14] [(0, (sv Aa p0 ca)), (14, (bv true))] [] (fun fb => by kernel_rfl) rfl trivial ?_
   injection hx5 with hx5
   exact WL.to K true [0, 14] rfl ⟨⟨(hS.subR [0, 1]).sub [] (by decide), hx5.symm⟩, trivial⟩
  refine WL.setB 10 h6 rfl ?_
  refine seg 5 [] [0, 10, 11] [(0, (sv Aa p0 ca)), (10, (bv false)), (11, (sv Aa p0 ca))] [] (fun fb => by kernel_rfl) rfl trivial ?_
  obtain ⟨t8, ht9, hx5⟩ := bind_some hx5
  refine WL.call (some 12) 8 #[(sv Aa p0 ca)] (fun fb => by kernel_rfl) (ref01_Valid_calls _ p0 Aa ca t8 _ (hS.rd 0) ht9) (fun v w10 hR11 => ?_)
  obtain ⟨rfl, hk_⟩ := hR11
  have hS12 := hS.keepN hk_
  refine ⟨trivial, ?_⟩
  refine seg 8 [] [0, 14] [(0, (sv Aa p0 ca)), (14, (bv (!t8)))] [] (fun fb => by kernel_rfl) rfl trivial ?_
  injection hx5 with hx5
  exact WL.to K (!t8) [0, 14] rfl ⟨⟨(hS12.subR [0, 1]).sub [] (by decide), hx5.symm⟩, trivial⟩
 rintro y13 w15 ⟨⟨hS16, hq14⟩, hF17⟩
 subst hq14
 refine WL.done rfl (WX.next ?_)
 rcases br_some hf with ⟨h18, hf⟩ | ⟨h18, hf⟩
 ·refine WC.condT2 (fun fb => by kernel_rfl) h18 ?_
  refine WC.seq (WC.region ?_)
  obtain ⟨t19, ht20, hf⟩ := bind_some hf
  refine WL.call (some 15) 9 #[] (fun fb => by kernel_rfl) (law04_awake_calls _ mG t19 _ (hS16.rd 1) ht20) (fun v w21 hR22 => ?_)
  obtain ⟨rfl, hk_⟩ := hR22
  have hS23 := hS16.keepN hk_
  refine ⟨trivial, ?_⟩
  refine seg 2 [] [2] [(2, (bv t19))] [] (fun fb => by kernel_rfl) rfl trivial ?_
  refine WL.done rfl (WX.next ?_)
  refine WC.ret ?_
  injection hf with hf
  subst hf
  exact WX.thenR (WX.ret_ [] (bv t19) [] (fun fb => by kernel_rfl) trivial ⟨_, rfl, rfl, hS23.keep⟩)
 refine WC.condF2 (fun fb => by kernel_rfl) h18 ?_
 refine WC.skip (WX.next (WC.seq (WC.region ?_)))
 refine seg 1 [] [0, 17] [(0, (sv Aa p0 ca)), (17, (sv Aa p0 ca))] [] (fun fb => by kernel_rfl) rfl trivial ?_
 obtain ⟨t24, ht25, hf⟩ := bind_some hf
 refine WL.call (some 18) 11 #[(sv Aa p0 ca)] (fun fb => by kernel_rfl) (strip_Rows_calls _ p0 Aa ca t24 _ (hS16.rd 0) ht25) (fun v w26 hR27 => ?_)
 obtain ⟨rfl, hk_⟩ := hR27
 have hS28 := hS16.keepN hk_
 refine ⟨trivial, ?_⟩
 refine seg 7 [] [0, 3, 4] [(0, (sv Aa p0 ca)), (3, (iv t24.1)), (4, (iv t24.2))] [] (fun fb => by kernel_rfl) rfl trivial ?_
 refine WL.done rfl (WX.next (WC.seq (WC.seq (WC.region ?_))))
 refine seg 2 [] [0, 3, 4, 22] [(0, (sv Aa p0 ca)), (3, (iv t24.1)), (4, (iv t24.2)), (22, (bv (t24.2 == 6)))] [] (fun fb => by kernel_rfl) rfl trivial ?_
 refine WL.done rfl (WX.next ?_)
 rcases br_some hf with ⟨h29, hf⟩ | ⟨h29, hf⟩
 ·refine WC.condT2 (fun fb => by kernel_rfl) h29 ?_
  refine WC.seq (WC.region ?_)
  refine seg 1 [] [23] [(23, (sv Aa p0 ca))] [] (fun fb => by kernel_rfl) rfl trivial ?_
  obtain ⟨t30, ht31, hf⟩ := bind_some hf
  refine WL.call (some 24) 25 #[(sv Aa p0 ca), (iv 13)] (fun fb => by kernel_rfl) (law04_some_calls _ p0 13 Aa ca t30 _ (hS28.rd 0) ht31) (fun v w32 hR33 => ?_)
  obtain ⟨rfl, hk_⟩ := hR33
  have hS34 := hS28.keepN hk_
  refine ⟨trivial, ?_⟩
  refine seg 3 [] [25] [(25, (bv t30))] [] (fun fb => by kernel_rfl) rfl trivial ?_
  obtain ⟨x35, hx36, hf⟩ := bind_some hf
  refine WL.cutW (T := Bool) 5 (fun t => [(27, (bv t))]) (fun t w1 => (St NoS w w1 [rowR enc_Tile Aa ca p0, gloO Tryd.prog 2 5 0 1 mG] [] ∧ x35 = t) ∧ CellsOK [] w1) (fun K => ?_) ?_
  ·
   rcases br_some hx36 with ⟨h37, hx36⟩ | ⟨h37, hx36⟩
   ·
    refine WL.setB 25 h37 rfl ?_
    obtain ⟨t38, ht39, hx36⟩ := bind_some hx36
    refine WL.call (some 26) 9 #[] (fun fb => by kernel_rfl) (law04_awake_calls _ mG t38 _ (hS34.rd 1) ht39) (fun v w40 hR41 => ?_)
    obtain ⟨rfl, hk_⟩ := hR41
    have hS42 := hS34.keepN hk_
    refine ⟨trivial, ?_⟩
    refine seg 5 [] [27] [(27, (bv t38))] [] (fun fb => by kernel_rfl) rfl trivial ?_
    injection hx36 with hx36
    exact WL.to K t38 [27] rfl ⟨⟨(hS42.subR [0, 1]).sub [] (by decide), hx36.symm⟩, trivial⟩
   refine WL.setB 25 h37 rfl ?_
   refine seg 5 [] [27] [(27, (bv false))] [] (fun fb => by kernel_rfl) rfl trivial ?_
   injection hx36 with hx36
   exact WL.to K false [27] rfl ⟨⟨(hS34.subR [0, 1]).sub [] (by decide), hx36.symm⟩, trivial⟩
  rintro y43 w45 ⟨⟨hS46, hq44⟩, hF47⟩
  subst hq44
  refine seg 6 [] [2] [(2, (bv x35))] [] (fun fb => by kernel_rfl) rfl trivial ?_
  refine WL.done rfl (WX.next ?_)
  refine WC.ret ?_
  injection hf with hf
  subst hf
  exact WX.thenR (WX.ret_ [] (bv x35) [] (fun fb => by kernel_rfl) trivial ⟨_, rfl, rfl, hS46.keep⟩)
 refine WC.condF2 (fun fb => by kernel_rfl) h29 ?_
 refine WC.skip (WX.next (WC.seq (WC.seq (WC.region ?_))))
 refine seg 3 [] [0, 3, 30] [(0, (sv Aa p0 ca)), (3, (iv t24.1)), (30, (bv (t24.2 != 0)))] [] (fun fb => by kernel_rfl) rfl trivial ?_
 refine WL.cutV (T := Bool) 6 (fun t => [(33, (bv t)), (0, (sv Aa p0 ca)), (3, (iv t24.1))]) (fun t => ((t24.2 != 0) || (decide (t24.1 < 0))) = t) (fun K => ?_) ?_
 ·
  rcases Bool.eq_false_or_eq_true (t24.2 != 0) with h48 | h48
  ·
   refine WL.setB 30 h48 rfl ?_
   refine seg 6 [] [0, 3, 33] [(0, (sv Aa p0 ca)), (3, (iv t24.1)), (33, (bv true))] [] (fun fb => by kernel_rfl) rfl trivial ?_
   exact WL.toV K true [33, 0, 3] rfl (by first | (rw [h48]; done) | (rw [h48]; rfl))
  refine WL.setB 30 h48 rfl ?_
  refine seg 6 [] [0, 3, 33] [(0, (sv Aa p0 ca)), (3, (iv t24.1)), (33, (bv (decide (t24.1 < 0))))] [] (fun fb => by kernel_rfl) rfl trivial ?_
  exact WL.toV K (decide (t24.1 < 0)) [33, 0, 3] rfl (by first | (rw [h48]; done) | (rw [h48]; rfl))
 rintro b49 rfl
 refine seg 7 [] [0, 3, 34] [(0, (sv Aa p0 ca)), (3, (iv t24.1)), (34, (bv ((t24.2 != 0) || (decide (t24.1 < 0)))))] [] (fun fb => by kernel_rfl) rfl trivial ?_
 refine WL.cutV (T := Bool) 12 (fun t => [(39, (bv t)), (0, (sv Aa p0 ca)), (3, (iv t24.1))]) (fun t => (((t24.2 != 0) || (decide (t24.1 < 0))) || (decide (t24.1 > (p0.length : Int)))) = t) (fun K => ?_) ?_
 ·
  rcases Bool.eq_false_or_eq_true ((t24.2 != 0) || (decide (t24.1 < 0))) with h50 | h50
  ·
   refine WL.setB 34 h50 rfl ?_
   refine seg 12 [] [0, 3, 39] [(0, (sv Aa p0 ca)), (3, (iv t24.1)), (39, (bv true))] [] (fun fb => by kernel_rfl) rfl trivial ?_
   exact WL.toV K true [39, 0, 3] rfl (by first | (rw [h50]; done) | (rw [h50]; rfl))
  refine WL.setB 34 h50 rfl ?_
  refine seg 12 [] [0, 3, 39] [(0, (sv Aa p0 ca)), (3, (iv t24.1)), (39, (bv (decide (t24.1 > (p0.length : Int)))))] [] (fun fb => by kernel_rfl) rfl trivial ?_
  exact WL.toV K (decide (t24.1 > (p0.length : Int))) [39, 0, 3] rfl (by first | (rw [h50]; done) | (rw [h50]; rfl))
 rintro b51 rfl
 refine seg 13 [] [0, 3, 40] [(0, (sv Aa p0 ca)), (3, (iv t24.1)), (40, (bv (((t24.2 != 0) || (decide (t24.1 < 0))) || (decide (t24.1 > (p0.length : Int))))))] [] (fun fb => by kernel_rfl) rfl trivial ?_
 obtain ⟨x52, hx53, hf⟩ := bind_some hf
 refine WL.cutW (T := Bool) 22 (fun t => [(0, (sv Aa p0 ca)), (3, (iv t24.1)), (49, (bv t))]) (fun t w1 => (St NoS w w1 [rowR enc_Tile Aa ca p0, gloO Tryd.prog 2 5 0 1 mG] [] ∧ x52 = t) ∧ CellsOK [] w1) (fun K => ?_) ?_
 ·
  rcases br_some hx53 with ⟨h54, hx53⟩ | ⟨h54, hx53⟩
  ·
   refine WL.setB 40 h54 rfl ?_
   refine seg 22 [] [0, 3, 49] [(0, (sv Aa p0 ca)), (3, (iv t24.1)), (49, (bv true))] [] (fun fb => by kernel_rfl) rfl trivial ?_
   injection hx53 with hx53
   exact WL.to K true [0, 3, 49] rfl ⟨⟨(hS28.subR [0, 1]).sub [] (by decide), hx53.symm⟩, trivial⟩
  refine WL.setB 40 h54 rfl ?_
  refine seg 16 [] [0, 3, 40, 43] [(0, (sv Aa p0 ca)), (3, (iv t24.1)), (40, (bv false)), (43, (bv (decide (t24.1 > 0))))] [] (fun fb => by kernel_rfl) rfl trivial ?_
  obtain ⟨x55, hx56, hx53⟩ := bind_some hx53
  refine WL.cutW (T := Bool) 21 (fun t => [(0, (sv Aa p0 ca)), (3, (iv t24.1)), (40, (bv false)), (48, (bv t))]) (fun t w1 => (St NoS w w1 [rowR enc_Tile Aa ca p0, gloO Tryd.prog 2 5 0 1 mG] [] ∧ x55 = t) ∧ CellsOK [] w1) (fun K => ?_) ?_
  ·
   rcases br_some hx56 with ⟨h57, hx56⟩ | ⟨h57, hx56⟩
   ·
    refine WL.setB 43 h57 rfl ?_
    refine seg 18 [] [0, 3, 40, 43, 44, 45] [(0, (sv Aa p0 ca)), (3, (iv t24.1)), (40, (bv false)), (43, (bv true)), (44, (sv Aa p0 ca)), (45, (iv t24.1))] [] (fun fb => by kernel_rfl) rfl trivial ?_
    obtain ⟨t58, ht59, hx56⟩ := bind_some hx56
    refine WL.call (some 46) 25 #[(sv Aa p0 ca), (iv t24.1)] (fun fb => by kernel_rfl) (law04_some_calls _ p0 t24.1 Aa ca t58 _ (hS28.rd 0) ht59) (fun v w60 hR61 => ?_)
    obtain ⟨rfl, hk_⟩ := hR61
    have hS62 := hS28.keepN hk_
    refine ⟨trivial, ?_⟩
    refine seg 21 [] [0, 3, 40, 48] [(0, (sv Aa p0 ca)), (3, (iv t24.1)), (40, (bv false)), (48, (bv (!t58)))] [] (fun fb => by kernel_rfl) rfl trivial ?_
    injection hx56 with hx56
    exact WL.to K (!t58) [0, 3, 40, 48] rfl ⟨⟨(hS62.subR [0, 1]).sub [] (by decide), hx56.symm⟩, trivial⟩
   refine WL.setB 43 h57 rfl ?_
   refine seg 21 [] [0, 3, 40, 48] [(0, (sv Aa p0 ca)), (3, (iv t24.1)), (40, (bv false)), (48, (bv false))] [] (fun fb => by kernel_rfl) rfl trivial ?_
   injection hx56 with hx56
   exact WL.to K false [0, 3, 40, 48] rfl ⟨⟨(hS28.subR [0, 1]).sub [] (by decide), hx56.symm⟩, trivial⟩
  rintro y63 w66 ⟨⟨hS67, hq65⟩, hF68⟩
  subst hq65
  refine seg 22 [] [0, 3, 49] [(0, (sv Aa p0 ca)), (3, (iv t24.1)), (49, (bv x55))] [] (fun fb => by kernel_rfl) rfl trivial ?_
  injection hx53 with hx53
  exact WL.to K x55 [0, 3, 49] rfl ⟨⟨(hS67.subR [0, 1]).sub [] (by decide), hx53.symm⟩, trivial⟩
 rintro y69 w71 ⟨⟨hS72, hq70⟩, hF73⟩
 subst hq70
 refine seg 23 [] [0, 3, 50] [(0, (sv Aa p0 ca)), (3, (iv t24.1)), (50, (bv x52))] [] (fun fb => by kernel_rfl) rfl trivial ?_
 obtain ⟨x74, hx75, hf⟩ := bind_some hf
 refine WL.cutW (T := Bool) 28 (fun t => [(0, (sv Aa p0 ca)), (3, (iv t24.1)), (55, (bv t))]) (fun t w1 => (St NoS w w1 [rowR enc_Tile Aa ca p0, gloO Tryd.prog 2 5 0 1 mG] [] ∧ x74 = t) ∧ CellsOK [] w1) (fun K => ?_) ?_
 ·
  rcases br_some hx75 with ⟨h76, hx75⟩ | ⟨h76, hx75⟩
  ·
   refine WL.setB 50 h76 rfl ?_
   refine seg 28 [] [0, 3, 55] [(0, (sv Aa p0 ca)), (3, (iv t24.1)), (55, (bv true))] [] (fun fb => by kernel_rfl) rfl trivial ?_
   injection hx75 with hx75
   exact WL.to K true [0, 3, 55] rfl ⟨⟨(hS72.subR [0, 1]).sub [] (by decide), hx75.symm⟩, trivial⟩
  refine WL.setB 50 h76 rfl ?_
  refine seg 26 [] [0, 3, 50, 51, 53] [(0, (sv Aa p0 ca)), (3, (iv t24.1)), (50, (bv false)), (51, (sv Aa p0 ca)), (53, (iv (w64 (t24.1 + 1))))] [] (fun fb => by kernel_rfl) rfl trivial ?_
  obtain ⟨t77, ht78, hx75⟩ := bind_some hx75
  refine WL.call (some 54) 25 #[(sv Aa p0 ca), (iv (w64 (t24.1 + 1)))] (fun fb => by kernel_rfl) (law04_some_calls _ p0 (w64 (t24.1 + 1)) Aa ca t77 _ (hS72.rd 0) ht78) (fun v w79 hR80 => ?_)
  obtain ⟨rfl, hk_⟩ := hR80
  have hS81 := hS72.keepN hk_
  refine ⟨trivial, ?_⟩
  refine seg 28 [] [0, 3, 55] [(0, (sv Aa p0 ca)), (3, (iv t24.1)), (55, (bv t77))] [] (fun fb => by kernel_rfl) rfl trivial ?_
  injection hx75 with hx75
  exact WL.to K t77 [0, 3, 55] rfl ⟨⟨(hS81.subR [0, 1]).sub [] (by decide), hx75.symm⟩, trivial⟩
 rintro y82 w84 ⟨⟨hS85, hq83⟩, hF86⟩
 subst hq83
 refine WL.done rfl (WX.next ?_)
 rcases br_some hf with ⟨h87, hf⟩ | ⟨h87, hf⟩
 ·refine WC.condT2 (fun fb => by kernel_rfl) h87 ?_
  refine WC.seq (WC.region ?_)
  refine seg 1 [] [2] [(2, (bv false))] [] (fun fb => by kernel_rfl) rfl trivial ?_
  refine WL.done rfl (WX.next ?_)
  refine WC.ret ?_
  injection hf with hf
  subst hf
  exact WX.thenR (WX.ret_ [] (bv false) [] (fun fb => by kernel_rfl) trivial ⟨_, rfl, rfl, hS85.keep⟩)
 refine WC.condF2 (fun fb => by kernel_rfl) h87 ?_
 refine WC.skip (WX.next (WC.seq (WC.seq (WC.region ?_))))
 refine seg 3 [] [0, 3, 58] [(0, (sv Aa p0 ca)), (3, (iv t24.1)), (58, (bv (decide (w64 (t24.1 + 1) > 8))))] [] (fun fb => by kernel_rfl) rfl trivial ?_
 refine WL.done rfl (WX.next ?_)
 rcases br_some hf with ⟨h88, hf⟩ | ⟨h88, hf⟩
 ·refine WC.condT2 (fun fb => by kernel_rfl) h88 ?_
  refine WC.seq (WC.region ?_)
  obtain ⟨t89, ht90, hf⟩ := bind_some hf
  refine WL.call (some 59) 9 #[] (fun fb => by kernel_rfl) (law04_awake_calls _ mG t89 _ (hS85.rd 1) ht90) (fun v w91 hR92 => ?_)
  obtain ⟨rfl, hk_⟩ := hR92
  have hS93 := hS85.keepN hk_
  refine ⟨trivial, ?_⟩
  refine seg 2 [] [2] [(2, (bv t89))] [] (fun fb => by kernel_rfl) rfl trivial ?_
  refine WL.done rfl (WX.next ?_)
  refine WC.ret ?_
  injection hf with hf
  subst hf
  exact WX.thenR (WX.ret_ [] (bv t89) [] (fun fb => by kernel_rfl) trivial ⟨_, rfl, rfl, hS93.keep⟩)
 refine WC.condF2 (fun fb => by kernel_rfl) h88 ?_
 refine WC.skip (WX.next (WC.seq (WC.region ?_)))
 refine seg 4 [] [0, 3, 61, 63, 64] [(0, (sv Aa p0 ca)), (3, (iv t24.1)), (61, (sv Aa p0 ca)), (63, (iv (w64 (t24.1 + 1)))), (64, (.agg #[(.slice none 0 0), (.slice none 0 0), (.slice none 0 0), (.slice none 0 0)]))] [] (fun fb => by kernel_rfl) rfl trivial ?_
 obtain ⟨t94, ht95, hf⟩ := bind_some hf
 refine WL.call (some 65) 26 #[(sv Aa p0 ca), (iv (w64 (t24.1 + 1))), (iv 1), (.agg #[(.slice none 0 0), (.slice none 0 0), (.slice none 0 0), (.slice none 0 0)])] (fun fb => by kernel_rfl) (fill_First_calls _ p0 (w64 (t24.1 + 1)) 1 (Edges.mk ([] : List Int) ([] : List Int) ([] : List Int) ([] : List Int)) Aa ca none 0 none 0 none 0 none 0 t94 _ (hS85.rd 0) (RO.nilR _ _ _) (RO.nilR _ _ _) (RO.nilR _ _ _) (RO.nilR _ _ _) ht95) (fun v w96 hR97 => ?_)
 obtain ⟨A99, c100, rfl, hk_⟩ := hR97
 have hS98 := hS.go w96 [rowO 3 encInt A99 c100 t94.1.Cells] (hS85.call hk_ [] [] (fun g hg => hg.elim) (by simp) (by decide))
 refine ⟨trivial, ?_⟩
 refine seg 8 [] [0, 3, 66, 67] [(0, (sv Aa p0 ca)), (3, (iv t24.1)), (66, (.agg #[(iv t94.1.Width), (iv t94.1.Height), (sv A99 t94.1.Cells c100)])), (67, (iv t94.2))] [] (fun fb => by kernel_rfl) rfl trivial ?_
 refine WL.new hS98 5 [] (fun g => (pt g)) (.cells #[(iv 0), (iv 0), (.slice none 0 0)] 47 (0, 0)) [] (fun fb g => by kernel_rfl) trivial (fun g101 w102 hS103 => ?_)
 refine ⟨trivial, ?_⟩
 refine WL.store hS103 0 rfl [(0, (iv t94.1.Width)), (1, (iv t94.1.Height)), (2, (sv A99 t94.1.Cells c100))] #[(iv t94.1.Width), (iv t94.1.Height), (sv A99 t94.1.Cells c100)] (fun fb => by kernel_rfl) (by kernel_rfl) rfl [1] (by decide) (by decide) (fun w104 hS105 => ?_)
 refine ⟨trivial, ?_⟩
 refine seg 11 [] [0, 3, 6] [(0, (sv Aa p0 ca)), (3, (iv t24.1)), (6, (iv t94.2))] [] (fun fb => by kernel_rfl) rfl trivial ?_
 refine WL.done rfl (WX.next (WC.seq (WC.region ?_)))
 refine seg 3 [] [0, 3, 6, 70] [(0, (sv Aa p0 ca)), (3, (iv t24.1)), (6, (iv t94.2)), (70, (bv (t94.2 == 6)))] [] (fun fb => by kernel_rfl) rfl trivial ?_
 obtain ⟨x106, hx107, hf⟩ := bind_some hf
 refine WL.cutW (T := Bool) 12 (fun t => [(79, (bv t))]) (fun t w1 => (St NoS w w1 [rowR enc_Tile Aa ca p0, gloO Tryd.prog 2 5 0 1 mG] [] ∧ x106 = t) ∧ CellsOK [] w1) (fun K => ?_) ?_
 ·
  rcases br_some hx107 with ⟨h108, hx107⟩ | ⟨h108, hx107⟩
  ·
   refine WL.setB 70 h108 rfl ?_
   refine seg 12 [] [79] [(79, (bv true))] [] (fun fb => by kernel_rfl) rfl trivial ?_
   injection hx107 with hx107
   exact WL.to K true [79] rfl ⟨⟨(hS105.subR [0, 1]).sub [] (by decide), hx107.symm⟩, trivial⟩
  refine WL.setB 70 h108 rfl ?_
  refine seg 6 [] [0, 3, 70, 73] [(0, (sv Aa p0 ca)), (3, (iv t24.1)), (70, (bv false)), (73, (bv (t94.2 == 4)))] [] (fun fb => by kernel_rfl) rfl trivial ?_
  obtain ⟨x109, hx110, hx107⟩ := bind_some hx107
  refine WL.cutW (T := Bool) 11 (fun t => [(70, (bv false)), (78, (bv t))]) (fun t w1 => (St NoS w w1 [rowR enc_Tile Aa ca p0, gloO Tryd.prog 2 5 0 1 mG] [] ∧ x109 = t) ∧ CellsOK [] w1) (fun K => ?_) ?_
  ·
   rcases br_some hx110 with ⟨h111, hx110⟩ | ⟨h111, hx110⟩
   ·
    refine WL.setB 73 h111 rfl ?_
    refine seg 9 [] [70, 73, 74, 76] [(70, (bv false)), (73, (bv true)), (74, (sv Aa p0 ca)), (76, (iv (w64 (t24.1 + 1))))] [] (fun fb => by kernel_rfl) rfl trivial ?_
    obtain ⟨t112, ht113, hx110⟩ := bind_some hx110
    refine WL.call (some 77) 27 #[(sv Aa p0 ca), (iv (w64 (t24.1 + 1)))] (fun fb => by kernel_rfl) (ref02_Great_calls _ p0 (w64 (t24.1 + 1)) Aa ca t112 _ (hS105.rd 0) ht113) (fun v w114 hR115 => ?_)
    obtain ⟨rfl, hk_⟩ := hR115
    have hS116 := hS105.keepN hk_
    refine ⟨trivial, ?_⟩
    refine seg 11 [] [70, 78] [(70, (bv false)), (78, (bv t112))] [] (fun fb => by kernel_rfl) rfl trivial ?_
    injection hx110 with hx110
    exact WL.to K t112 [70, 78] rfl ⟨⟨(hS116.subR [0, 1]).sub [] (by decide), hx110.symm⟩, trivial⟩
   refine WL.setB 73 h111 rfl ?_
   refine seg 11 [] [70, 78] [(70, (bv false)), (78, (bv false))] [] (fun fb => by kernel_rfl) rfl trivial ?_
   injection hx110 with hx110
   exact WL.to K false [70, 78] rfl ⟨⟨(hS105.subR [0, 1]).sub [] (by decide), hx110.symm⟩, trivial⟩
  rintro y117 w119 ⟨⟨hS120, hq118⟩, hF121⟩
  subst hq118
  refine seg 12 [] [79] [(79, (bv x109))] [] (fun fb => by kernel_rfl) rfl trivial ?_
  injection hx107 with hx107
  exact WL.to K x109 [79] rfl ⟨⟨(hS120.subR [0, 1]).sub [] (by decide), hx107.symm⟩, trivial⟩
 rintro y122 w124 ⟨⟨hS125, hq123⟩, hF126⟩
 subst hq123
 refine seg 13 [] [80] [(80, (bv x106))] [] (fun fb => by kernel_rfl) rfl trivial ?_
 obtain ⟨x127, hx128, hf⟩ := bind_some hf
 refine WL.cutW (T := Bool) 15 (fun t => [(82, (bv t))]) (fun t w1 => (St NoS w w1 [rowR enc_Tile Aa ca p0, gloO Tryd.prog 2 5 0 1 mG] [] ∧ x127 = t) ∧ CellsOK [] w1) (fun K => ?_) ?_
 ·
  rcases br_some hx128 with ⟨h129, hx128⟩ | ⟨h129, hx128⟩
  ·
   refine WL.setB 80 h129 rfl ?_
   obtain ⟨t130, ht131, hx128⟩ := bind_some hx128
   refine WL.call (some 81) 9 #[] (fun fb => by kernel_rfl) (law04_awake_calls _ mG t130 _ (hS125.rd 1) ht131) (fun v w132 hR133 => ?_)
   obtain ⟨rfl, hk_⟩ := hR133
   have hS134 := hS125.keepN hk_
   refine ⟨trivial, ?_⟩
   refine seg 15 [] [82] [(82, (bv t130))] [] (fun fb => by kernel_rfl) rfl trivial ?_
   injection hx128 with hx128
   exact WL.to K t130 [82] rfl ⟨⟨(hS134.subR [0, 1]).sub [] (by decide), hx128.symm⟩, trivial⟩
  refine WL.setB 80 h129 rfl ?_
  refine seg 15 [] [82] [(82, (bv false))] [] (fun fb => by kernel_rfl) rfl trivial ?_
  injection hx128 with hx128
  exact WL.to K false [82] rfl ⟨⟨(hS125.subR [0, 1]).sub [] (by decide), hx128.symm⟩, trivial⟩
 rintro y135 w137 ⟨⟨hS138, hq136⟩, hF139⟩
 subst hq136
 refine seg 16 [] [2] [(2, (bv x127))] [] (fun fb => by kernel_rfl) rfl trivial ?_
 refine WL.done rfl (WX.next ?_)
 refine WC.ret ?_
 injection hf with hf
 subst hf
 exact WX.ret_ [] (bv x127) [] (fun fb => by kernel_rfl) trivial ⟨_, rfl, rfl, hS138.keep⟩
end Gp
