/- Walks: each function of the program computes its plain function. -/
import Derived.Test.YtjfmjfheeijfiaaDoorGx1
set_option linter.unusedVariables false
set_option linter.unusedSimpArgs false
set_option maxHeartbeats 4000000
namespace Gp
open Go Gw Go.Proofs
theorem fill_First_key83 : KeyK Tryd.prog 83 (aggI ints_A8_Int) := KeyK.array (n := 8) (by kernel_rfl) ints_A8_Int (fun _ => rfl) (fun x y h => by cases x; cases y; simp only [ints_A8_Int, List.cons.injEq, and_true] at h; obtain ⟨rfl, rfl, rfl, rfl, rfl, rfl, rfl, rfl⟩ := h; rfl)
theorem fill_First_calls (k : Nat) (p0 : List Tile) (p1 : Int) (p2 : Int) (p3 : Edges) (A_p0 : Option Addr) (c_p0 : Nat) (A_p3_North : Option Addr) (c_p3_North : Nat) (A_p3_East : Option Addr) (c_p3_East : Nat) (A_p3_South : Option Addr) (c_p3_South : Nat) (A_p3_West : Option Addr) (c_p3_West : Nat) (r : Pattern × Int) (w : World) (hR0 : RO NoS w (rowR enc_Tile A_p0 c_p0 p0)) (hR1 : RO NoS w (rowR encInt A_p3_North c_p3_North p3.North)) (hR2 : RO NoS w (rowR encInt A_p3_East c_p3_East p3.East)) (hR3 : RO NoS w (rowR encInt A_p3_South c_p3_South p3.South)) (hR4 : RO NoS w (rowR encInt A_p3_West c_p3_West p3.West)) (hf : fill_First k p0 p1 p2 p3 = some r) :
  CallsR Tryd.prog 31 #[(sv A_p0 p0 c_p0), (iv p1), (iv p2), (.agg #[(sv A_p3_North p3.North c_p3_North), (sv A_p3_East p3.East c_p3_East), (sv A_p3_South p3.South c_p3_South), (sv A_p3_West p3.West c_p3_West)])] w (fun v w' => ∃ (A1_ : Option Addr), ∃ (c1_ : Nat), v = (.tuple #[(.agg #[(iv r.1.Width), (iv r.1.Height), (sv A1_ r.1.Cells c1_)]), (iv r.2)]) ∧ St NoS w w' [] [rowO 3 encInt A1_ c1_ r.1.Cells]) := by
 have hS : St NoS w w [rowR enc_Tile A_p0 c_p0 p0, rowR encInt A_p3_North c_p3_North p3.North, rowR encInt A_p3_East c_p3_East p3.East, rowR encInt A_p3_South c_p3_South p3.South, rowR encInt A_p3_West c_p3_West p3.West] [] := St.init (ro_cons hR0 (ro_cons hR1 (ro_cons hR2 (ro_cons hR3 (ro_cons hR4 (ro_nil _ _))))))
 refine enter 153 Tryd.func31 rfl Tryd.ntmps31 rfl ?_
 unfold fill_First at hf
 refine WC.seq ?_
 refine WC.region ?_
 refine WL.new hS 7 [] (fun g => (pt g)) (.cells #[(sv A_p3_North p3.North c_p3_North), (sv A_p3_East p3.East c_p3_East), (sv A_p3_South p3.South c_p3_South), (sv A_p3_West p3.West c_p3_West)] 44 (0, 0)) [] (fun fb g => by kernel_rfl) trivial (fun g9 w10 hS11 => ?_)
 refine ⟨trivial, ?_⟩
 refine WL.new hS11 8 [] (fun g => (pt g)) (.cells #[(iv 0), (iv 0), (.slice none 0 0)] 27 (0, 0)) [] (fun fb g => by kernel_rfl) trivial (fun g12 w13 hS14 => ?_)
 refine ⟨trivial, ?_⟩
 refine seg 3 [] [0, 1, 2, 7, 8] [(0, (sv A_p0 p0 c_p0)), (1, (iv p1)), (2, (iv p2)), (7, (pt g9)), (8, (pt g12))] [] (fun fb => by kernel_rfl) rfl trivial ?_
 refine WL.done rfl ?_
 refine WX.next ?_
 refine WC.seq ?_
 refine WC.region ?_
 refine seg 4 [.v (sv A_p3_North p3.North c_p3_North), .v (sv A_p3_East p3.East c_p3_East), .v (sv A_p3_South p3.South c_p3_South), .v (sv A_p3_West p3.West c_p3_West)] [1, 2, 8, 23, 24, 25, 26] [(1, (iv p1)), (2, (iv p2)), (8, (pt g12)), (23, (sv A_p0 p0 c_p0)), (24, (iv p1)), (25, (iv p2)), (26, (.agg #[(sv A_p3_North p3.North c_p3_North), (sv A_p3_East p3.East c_p3_East), (sv A_p3_South p3.South c_p3_South), (sv A_p3_West p3.West c_p3_West)]))] [.cell ⟨g9, 0, none⟩ (sv A_p3_North p3.North c_p3_North), .cell ⟨g9, 1, none⟩ (sv A_p3_East p3.East c_p3_East), .cell ⟨g9, 2, none⟩ (sv A_p3_South p3.South c_p3_South), .cell ⟨g9, 3, none⟩ (sv A_p3_West p3.West c_p3_West)] (fun fb => by kernel_rfl) rfl ⟨hS14.cell 1 rfl 0 rfl, hS14.cell 1 rfl 1 rfl, hS14.cell 1 rfl 2 rfl, hS14.cell 1 rfl 3 rfl, trivial⟩ ?_
 obtain ⟨t15, ht16, hf⟩ := bind_some hf
 refine WL.call (some 27) 58 #[(sv A_p0 p0 c_p0), (iv p1), (iv p2), (.agg #[(sv A_p3_North p3.North c_p3_North), (sv A_p3_East p3.East c_p3_East), (sv A_p3_South p3.South c_p3_South), (sv A_p3_West p3.West c_p3_West)])] (fun fb => by kernel_rfl) (fill_begin_calls _ p0 p1 p2 p3 A_p0 c_p0 A_p3_North c_p3_North A_p3_East c_p3_East A_p3_South c_p3_South A_p3_West c_p3_West t15 _ (hS14.rd 0) (hS14.rd 1) (hS14.rd 2) (hS14.rd 3) (hS14.rd 4) ht16) (fun v w17 hR18 => ?_)
 obtain ⟨g20, A21, c22, H23, rfl, hk_⟩ := hR18
 refine ⟨trivial, ?_⟩
 rcases optM_some hf with ⟨ho25, hf⟩ | ⟨y24, ho25, hf⟩
 ·
  have ho25 : t15.1 = none := ho25
  have hS19 := hS14.keepN (optS_none ho25 hk_)
  refine WL.reE [1, 2, 8, 23, 24, 25, 26, 27] [(1, (iv p1)), (2, (iv p2)), (8, (pt g12)), (23, (.slice A_p0 p0.length c_p0)), (24, (iv p1)), (25, (iv p2)), (26, (.agg #[(.slice A_p3_North p3.North.length c_p3_North), (.slice A_p3_East p3.East.length c_p3_East), (.slice A_p3_South p3.South.length c_p3_South), (.slice A_p3_West p3.West.length c_p3_West)])), (27, (.tuple #[(optP t15.1 g20), (iv t15.2)]))] [(1, (iv p1)), (2, (iv p2)), (8, (pt g12)), (23, (.slice A_p0 p0.length c_p0)), (24, (iv p1)), (25, (iv p2)), (26, (.agg #[(.slice A_p3_North p3.North.length c_p3_North), (.slice A_p3_East p3.East.length c_p3_East), (.slice A_p3_South p3.South.length c_p3_South), (.slice A_p3_West p3.West.length c_p3_West)])), (27, (.tuple #[(.pointer none), (iv t15.2)]))] rfl (by rw [ho25]; rfl) ?_
  refine seg 10 [] [1, 2, 8, 10, 11] [(1, (iv p1)), (2, (iv p2)), (8, (pt g12)), (10, (.pointer none)), (11, (iv t15.2))] [] (fun fb => by kernel_rfl) rfl trivial ?_
  refine WL.done rfl ?_
  refine WX.next ?_
  refine WC.seq ?_
  refine WC.seq ?_
  refine WC.region ?_
  refine seg 2 [] [1, 2, 8, 10, 11, 31] [(1, (iv p1)), (2, (iv p2)), (8, (pt g12)), (10, (.pointer none)), (11, (iv t15.2)), (31, (bv (t15.2 != 0)))] [] (fun fb => by kernel_rfl) rfl trivial ?_
  refine WL.done rfl ?_
  refine WX.next ?_
  rcases br_some hf with ⟨h26, hf⟩ | ⟨h26, hf⟩
  ·refine WC.condT2 (fun fb => by kernel_rfl) h26 ?_
   refine WC.seq ?_
   refine WC.region ?_
   refine seg 2 [] [8, 32, 33] [(8, (pt g12)), (32, (.agg #[(iv 0), (iv 0), (.slice none 0 0)])), (33, (iv t15.2))] [] (fun fb => by kernel_rfl) rfl trivial ?_
   refine WL.store hS19 0 rfl [(0, (iv 0)), (1, (iv 0)), (2, (.slice none 0 0))] #[(iv 0), (iv 0), (.slice none 0 0)] (fun fb => by kernel_rfl) (by kernel_rfl) rfl [1] (by decide) (by decide) (fun w27 hS28 => ?_)
   refine ⟨trivial, ?_⟩
   refine seg 4 [] [8, 9] [(8, (pt g12)), (9, (iv t15.2))] [] (fun fb => by kernel_rfl) rfl trivial ?_
   refine WL.done rfl ?_
   refine WX.next ?_
   refine WC.ret ?_
   have hS29 := hS28.nilrow 3 encInt
   injection hf with hf
   subst hf
   exact WX.thenR (WX.ret_ [.v (iv 0), .v (iv 0), .v (.slice none 0 0)] (.tuple #[(.agg #[(iv 0), (iv 0), (sv none ([] : List Int) 0)]), (iv t15.2)]) [.cell ⟨g12, 0, none⟩ (iv 0), .cell ⟨g12, 1, none⟩ (iv 0), .cell ⟨g12, 2, none⟩ (.slice none 0 0)] (fun fb => by kernel_rfl) ⟨hS28.cell 0 rfl 0 rfl, hS28.cell 0 rfl 1 rfl, hS28.cell 0 rfl 2 rfl, trivial⟩ ⟨_, rfl, none, 0, rfl, (hS29.sub [0] (by decide)).noR⟩)
  refine WC.condF2 (fun fb => by kernel_rfl) h26 ?_
  refine WC.skip ?_
  refine WX.next ?_
  refine WC.seq ?_
  refine WC.region ?_
  refine seg 1 [] [1, 2, 8, 10, 34] [(1, (iv p1)), (2, (iv p2)), (8, (pt g12)), (10, (.pointer none)), (34, (iv p2))] [] (fun fb => by kernel_rfl) rfl trivial ?_
  obtain ⟨h30, hf⟩ := as_some hf
  refine WL.make hS19 (e := (encMap A8_Int Bool)) (T := 91) (tS := 90) (z := (.map none)) (bytes := 8) (d := 35) ((0, none) : Nat × (Option (List (A8_Int × Bool)))) p2 (fun fb => by kernel_rfl) (by kernel_rfl) (by kernel_rfl) rfl (by decide) h30 (by decide) (fun g32 w33 hS34 => ?_)
  refine ⟨trivial, ?_⟩
  have hS35 : St NoS w w33 [rowR enc_Tile A_p0 c_p0 p0, rowR encInt A_p3_North c_p3_North p3.North, rowR encInt A_p3_East c_p3_East p3.East, rowR encInt A_p3_South c_p3_South p3.South, rowR encInt A_p3_West c_p3_West p3.West] [rowO 91 (encMap A8_Int Bool) (some ⟨g32, 0, none⟩) p2.toNat (tag g0 (List.replicate p2.toNat (none : Option (List (A8_Int × Bool))))), blk g12 (.cells #[(iv 0), (iv 0), (.slice none 0 0)] 27 (0, 0)), blk g9 (.cells #[(.slice A_p3_North p3.North.length c_p3_North), (.slice A_p3_East p3.East.length c_p3_East), (.slice A_p3_South p3.South.length c_p3_South), (.slice A_p3_West p3.West.length c_p3_West)] 44 (0, 0))] := by rw [show tag g0 (List.replicate p2.toNat (none : Option (List (A8_Int × Bool)))) = _ from tag_rep 0 none _]; exact hS34
  have hS36 := hS35.mapsNil (aggI ints_A8_Int) vB g0 p2.toNat
  refine WL.reE [1, 2, 8, 10, 35] [(1, (iv p1)), (2, (iv p2)), (8, (pt g12)), (10, (.pointer none)), (35, (.slice (some ⟨g32, 0, none⟩) (List.replicate p2.toNat ((0, none) : Nat × (Option (List (A8_Int × Bool))))).length p2.toNat))] [(1, (iv p1)), (2, (iv p2)), (8, (pt g12)), (10, (.pointer none)), (35, (.slice (some ⟨g32, 0, none⟩) (List.replicate p2.toNat (none : Option (List (A8_Int × Bool)))).length p2.toNat))] rfl (by simp only [List.length_replicate]) ?_
  refine seg 3 [] [1, 2, 8, 10, 12] [(1, (iv p1)), (2, (iv p2)), (8, (pt g12)), (10, (.pointer none)), (12, (sv (some ⟨g32, 0, none⟩) (List.replicate p2.toNat (none : Option (List (A8_Int × Bool)))) p2.toNat))] [] (fun fb => by kernel_rfl) rfl trivial ?_
  refine WL.done rfl ?_
  refine WX.next ?_
  refine WC.seq ?_
  refine WC.seq ?_
  refine WC.region ?_
  refine seg 3 [] [1, 2, 8, 10, 12, 13] [(1, (iv p1)), (2, (iv p2)), (8, (pt g12)), (10, (.pointer none)), (12, (sv (some ⟨g32, 0, none⟩) (List.replicate p2.toNat (none : Option (List (A8_Int × Bool)))) p2.toNat)), (13, (iv (w64 (p2 - 1))))] [] (fun fb => by kernel_rfl) rfl trivial ?_
  refine WL.done rfl ?_
  refine WX.next ?_
  obtain ⟨x37, hx38, hf⟩ := bind_some hf
  refine WC.cutN (T := Unit) (fun t => [(1, (iv p1)), (2, (iv p2)), (8, (pt g12)), (10, (.pointer none)), (12, (sv (some ⟨g32, 0, none⟩) (List.replicate p2.toNat (none : Option (List (A8_Int × Bool)))) p2.toNat))]) (fun t w1 => St NoS w w1 [rowR enc_Tile A_p0 c_p0 p0, rowR encInt A_p3_North c_p3_North p3.North, rowR encInt A_p3_East c_p3_East p3.East, rowR encInt A_p3_South c_p3_South p3.South, rowR encInt A_p3_West c_p3_West p3.West] [blk g12 (.cells #[(iv 0), (iv 0), (.slice none 0 0)] 27 (0, 0)), rowO 91 (encMap A8_Int Bool) (some ⟨g32, 0, none⟩) p2.toNat (tag g0 (List.replicate p2.toNat (none : Option (List (A8_Int × Bool))))), mapsO (aggI ints_A8_Int) vB g0 (List.replicate p2.toNat (none : Option (List (A8_Int × Bool))))] ∧ x37 = t) (fun Kx37 => ?_) ?_
  ·
   refine WC.block ?_
   refine WC.loop (T := Unit) (fun t => [(1, (iv p1)), (2, (iv p2)), (8, (pt g12)), (10, (.pointer none)), (12, (sv (some ⟨g32, 0, none⟩) (List.replicate p2.toNat (none : Option (List (A8_Int × Bool)))) p2.toNat)), (13, (iv (w64 (p2 - 1))))]) (fun n t w1 => St NoS w w1 [rowR enc_Tile A_p0 c_p0 p0, rowR encInt A_p3_North c_p3_North p3.North, rowR encInt A_p3_East c_p3_East p3.East, rowR encInt A_p3_South c_p3_South p3.South, rowR encInt A_p3_West c_p3_West p3.West] [blk g12 (.cells #[(iv 0), (iv 0), (.slice none 0 0)] 27 (0, 0)), rowO 91 (encMap A8_Int Bool) (some ⟨g32, 0, none⟩) p2.toNat (tag g0 (List.replicate p2.toNat (none : Option (List (A8_Int × Bool))))), mapsO (aggI ints_A8_Int) vB g0 (List.replicate p2.toNat (none : Option (List (A8_Int × Bool))))] ∧ fill_First.l0 n p2 = some x37) k () [1, 2, 8, 10, 12, 13] rfl ⟨(hS36.subR [0, 1, 2, 3, 4]).sub [2, 1, 0] (by decide), hx38⟩ ?_
   rintro k39 ⟨⟩ w40 ⟨hS41, hl42⟩
   cases k39 with
   | zero => rw [fill_First.l0] at hl42; cases hl42
   | succ k39 =>
    rw [fill_First.l0] at hl42
    refine WC.seq ?_
    refine WC.seq ?_
    refine WC.region ?_
    refine seg 2 [] [1, 2, 8, 10, 12, 13, 39] [(1, (iv p1)), (2, (iv p2)), (8, (pt g12)), (10, (.pointer none)), (12, (sv (some ⟨g32, 0, none⟩) (List.replicate p2.toNat (none : Option (List (A8_Int × Bool)))) p2.toNat)), (13, (iv (w64 (p2 - 1)))), (39, (bv (decide (w64 (p2 - 1) ≥ 0))))] [] (fun fb => by kernel_rfl) rfl trivial ?_
    refine WL.done rfl ?_
    refine WX.next ?_
    rcases br_some hl42 with ⟨h43, hl42⟩ | ⟨h43, hl42⟩
    ·refine WC.condT2 (fun fb => by kernel_rfl) h43 ?_
     refine WC.skip ?_
     refine WX.next ?_
     refine WC.seq ?_
     refine WC.block ?_
     refine WC.seq ?_
     refine WC.region ?_
     refine seg 2 [] [1, 2, 8, 10, 12, 13, 42, 43] [(1, (iv p1)), (2, (iv p2)), (8, (pt g12)), (10, (.pointer none)), (12, (sv (some ⟨g32, 0, none⟩) (List.replicate p2.toNat (none : Option (List (A8_Int × Bool)))) p2.toNat)), (13, (iv (w64 (p2 - 1)))), (42, (sv (some ⟨g32, 0, none⟩) (List.replicate p2.toNat (none : Option (List (A8_Int × Bool)))) p2.toNat)), (43, (iv (w64 (p2 - 1))))] [] (fun fb => by kernel_rfl) rfl trivial ?_
     refine WL.new hS41 44 [] (fun g => (.map (some g))) (mapObj (aggI ints_A8_Int) vB ([] : List (A8_Int × Bool))) [] (fun fb g => by kernel_rfl) trivial (fun g44 w45 hS46 => ?_)
     refine ⟨trivial, ?_⟩
     obtain ⟨h47, hl42⟩ := as_some hl42
     refine seg 4 [] [1, 2, 8, 10, 12, 13, 44, 45] [(1, (iv p1)), (2, (iv p2)), (8, (pt g12)), (10, (.pointer none)), (12, (sv (some ⟨g32, 0, none⟩) (List.replicate p2.toNat (none : Option (List (A8_Int × Bool)))) p2.toNat)), (13, (iv (w64 (p2 - 1)))), (44, (.map (some g44))), (45, (.pointer (some ((adr (some ⟨g32, 0, none⟩)).add ((w64 (p2 - 1)).toNat * 1)))))] [.idx (some ⟨g32, 0, none⟩) (w64 (p2 - 1)) (List.replicate p2.toNat (none : Option (List (A8_Int × Bool)))).length] (fun fb => by kernel_rfl) rfl ⟨nrow_adr (rowO.rd (hS46.own 2).1) h47.1 h47.2, trivial⟩ ?_
     refine WL.storeRow hS46 2 rfl (w64 (p2 - 1)) (g44, some ([] : List (A8_Int × Bool))) (0, none) [(0, (.map (some g44)))] (fun fb => by kernel_rfl) h47.1 (by rw [tag_length]; exact h47.2) (by kernel_rfl) (by kernel_rfl) [0, 1, 3] (by decide) (by decide) (fun w48 hS49 => ?_)
     have hS50 : St NoS w w48 [rowR enc_Tile A_p0 c_p0 p0, rowR encInt A_p3_North c_p3_North p3.North, rowR encInt A_p3_East c_p3_East p3.East, rowR encInt A_p3_South c_p3_South p3.South, rowR encInt A_p3_West c_p3_West p3.West] [rowO 91 (encMap A8_Int Bool) (some ⟨g32, 0, none⟩) p2.toNat (tag (updH g0 (w64 (p2 - 1)).toNat g44) ((List.replicate p2.toNat (none : Option (List (A8_Int × Bool)))).set (w64 (p2 - 1)).toNat (some ([] : List (A8_Int × Bool))))), blk g44 (mapObj (aggI ints_A8_Int) vB ([] : List (A8_Int × Bool))), blk g12 (.cells #[(iv 0), (iv 0), (.slice none 0 0)] 27 (0, 0)), mapsO (aggI ints_A8_Int) vB g0 (List.replicate p2.toNat (none : Option (List (A8_Int × Bool))))] := by rw [tag_set]; exact hS49
     have hS51 : St NoS w w48 [rowR enc_Tile A_p0 c_p0 p0, rowR encInt A_p3_North c_p3_North p3.North, rowR encInt A_p3_East c_p3_East p3.East, rowR encInt A_p3_South c_p3_South p3.South, rowR encInt A_p3_West c_p3_West p3.West] [mapsO (aggI ints_A8_Int) vB (updH g0 (w64 (p2 - 1)).toNat g44) ((List.replicate p2.toNat (none : Option (List (A8_Int × Bool)))).set (w64 (p2 - 1)).toNat (some ([] : List (A8_Int × Bool)))), rowO 91 (encMap A8_Int Bool) (some ⟨g32, 0, none⟩) p2.toNat (tag (updH g0 (w64 (p2 - 1)).toNat g44) ((List.replicate p2.toNat (none : Option (List (A8_Int × Bool)))).set (w64 (p2 - 1)).toNat (some ([] : List (A8_Int × Bool))))), blk g12 (.cells #[(iv 0), (iv 0), (.slice none 0 0)] 27 (0, 0))] := hS50.mapsSet 3 1 rfl rfl (by decide) ((w64 (p2 - 1)).toNat) [0, 2] (by decide) (by decide)
     refine ⟨trivial, ?_⟩
     refine WL.reE [1, 2, 8, 10, 12, 13] [(1, (iv p1)), (2, (iv p2)), (8, (pt g12)), (10, (.pointer none)), (12, (.slice (some ⟨g32, 0, none⟩) (List.replicate p2.toNat (none : Option (List (A8_Int × Bool)))).length p2.toNat)), (13, (iv (w64 (p2 - 1))))] [(1, (iv p1)), (2, (iv p2)), (8, (pt g12)), (10, (.pointer none)), (12, (.slice (some ⟨g32, 0, none⟩) ((List.replicate p2.toNat (none : Option (List (A8_Int × Bool)))).set (w64 (p2 - 1)).toNat (some ([] : List (A8_Int × Bool)))).length p2.toNat)), (13, (iv (w64 (p2 - 1))))] rfl (by simp only [List.length_set]) ?_
     refine WL.done rfl ?_
     refine WX.next ?_
     refine WC.seq ?_
     refine WC.region ?_
     refine seg 1 [] [1, 2, 8, 10, 12, 13, 46] [(1, (iv p1)), (2, (iv p2)), (8, (pt g12)), (10, (.pointer none)), (12, (sv (some ⟨g32, 0, none⟩) ((List.replicate p2.toNat (none : Option (List (A8_Int × Bool)))).set (w64 (p2 - 1)).toNat (some ([] : List (A8_Int × Bool)))) p2.toNat)), (13, (iv (w64 (p2 - 1)))), (46, (.pointer none))] [] (fun fb => by kernel_rfl) rfl trivial ?_
     cases hl42
    refine WC.condF2 (fun fb => by kernel_rfl) h43 ?_
    refine WC.exit ?_
    injection hl42 with hl42
    exact WX.thenX (WX.thenX (WX.blockHere (WX.to Kx37 () [1, 2, 8, 10, 12] rfl ⟨(hS41.subR [0, 1, 2, 3, 4]).sub [0, 1, 2] (by decide), hl42.symm⟩)))
  rintro y55 w52 ⟨hS53, hq54⟩
  subst hq54
  refine WX.next ?_
  refine WC.seq ?_
  refine WC.region ?_
  refine seg 3 [] [2, 8, 10, 12, 84] [(2, (iv p2)), (8, (pt g12)), (10, (.pointer none)), (12, (sv (some ⟨g32, 0, none⟩) (List.replicate p2.toNat (none : Option (List (A8_Int × Bool)))) p2.toNat)), (84, (.agg #[(iv p1), (iv p2), (.slice none 0 0)]))] [] (fun fb => by kernel_rfl) rfl trivial ?_
  refine WL.new hS53 16 [] (fun g => (pt g)) (.cells #[(iv 0), (iv 0), (.slice none 0 0)] 27 (0, 0)) [] (fun fb g => by kernel_rfl) trivial (fun g56 w57 hS58 => ?_)
  refine ⟨trivial, ?_⟩
  refine WL.store hS58 0 rfl [(0, (iv p1)), (1, (iv p2)), (2, (.slice none 0 0))] #[(iv p1), (iv p2), (.slice none 0 0)] (fun fb => by kernel_rfl) (by kernel_rfl) rfl [1, 2, 3] (by decide) (by decide) (fun w59 hS60 => ?_)
  refine ⟨trivial, ?_⟩
  refine WL.done rfl ?_
  refine WX.next ?_
  refine WC.seq ?_
  refine WC.region ?_
  refine seg 1 [] [2, 8, 10, 12, 16, 17] [(2, (iv p2)), (8, (pt g12)), (10, (.pointer none)), (12, (sv (some ⟨g32, 0, none⟩) (List.replicate p2.toNat (none : Option (List (A8_Int × Bool)))) p2.toNat)), (16, (pt g56)), (17, (.pointer none))] [] (fun fb => by kernel_rfl) rfl trivial ?_
  refine WL.done rfl ?_
  refine WX.next ?_
  refine WC.seq ?_
  refine WC.seq ?_
  refine WC.region ?_
  refine seg 2 [] [2, 8, 10, 12, 16, 17, 85, 86] [(2, (iv p2)), (8, (pt g12)), (10, (.pointer none)), (12, (sv (some ⟨g32, 0, none⟩) (List.replicate p2.toNat (none : Option (List (A8_Int × Bool)))) p2.toNat)), (16, (pt g56)), (17, (.pointer none)), (85, (iv p2)), (86, (iv 0))] [] (fun fb => by kernel_rfl) rfl trivial ?_
  refine WL.done rfl ?_
  refine WX.next ?_
  obtain ⟨x61, hx62, hf⟩ := bind_some hf
  refine WC.cutN (T := Unit) (fun t => [(8, (pt g12)), (16, (pt g56))]) (fun t w1 => St NoS w w1 [rowR enc_Tile A_p0 c_p0 p0, rowR encInt A_p3_North c_p3_North p3.North, rowR encInt A_p3_East c_p3_East p3.East, rowR encInt A_p3_South c_p3_South p3.South, rowR encInt A_p3_West c_p3_West p3.West] [blk g12 (.cells #[(iv 0), (iv 0), (.slice none 0 0)] 27 (0, 0)), blk g56 (.cells #[(iv p1), (iv p2), (.slice none 0 0)] 27 (0, 0))] ∧ x61 = t) (fun Kx61 => ?_) ?_
  ·
   refine WC.block ?_
   refine WC.loop (T := Unit) (fun t => [(2, (iv p2)), (8, (pt g12)), (10, (.pointer none)), (12, (sv (some ⟨g32, 0, none⟩) (List.replicate p2.toNat (none : Option (List (A8_Int × Bool)))) p2.toNat)), (16, (pt g56)), (17, (.pointer none)), (85, (iv p2)), (86, (iv 0))]) (fun n t w1 => St NoS w w1 [rowR enc_Tile A_p0 c_p0 p0, rowR encInt A_p3_North c_p3_North p3.North, rowR encInt A_p3_East c_p3_East p3.East, rowR encInt A_p3_South c_p3_South p3.South, rowR encInt A_p3_West c_p3_West p3.West] [blk g12 (.cells #[(iv 0), (iv 0), (.slice none 0 0)] 27 (0, 0)), rowO 91 (encMap A8_Int Bool) (some ⟨g32, 0, none⟩) p2.toNat (tag g0 (List.replicate p2.toNat (none : Option (List (A8_Int × Bool))))), mapsO (aggI ints_A8_Int) vB g0 (List.replicate p2.toNat (none : Option (List (A8_Int × Bool)))), blk g56 (.cells #[(iv p1), (iv p2), (.slice none 0 0)] 27 (0, 0))] ∧ fill_First.l1 n p2 = some x61) k () [2, 8, 10, 12, 16, 17, 85, 86] rfl ⟨(hS60.subR [0, 1, 2, 3, 4]).sub [1, 2, 3, 0] (by decide), hx62⟩ ?_
   rintro k63 ⟨⟩ w65 ⟨hS66, hl67⟩
   cases k63 with
   | zero => rw [fill_First.l1] at hl67; cases hl67
   | succ k63 =>
    rw [fill_First.l1] at hl67
    refine WC.seq ?_
    refine WC.region ?_
    refine seg 1 [] [2, 8, 10, 12, 16, 17, 85, 86, 87] [(2, (iv p2)), (8, (pt g12)), (10, (.pointer none)), (12, (sv (some ⟨g32, 0, none⟩) (List.replicate p2.toNat (none : Option (List (A8_Int × Bool)))) p2.toNat)), (16, (pt g56)), (17, (.pointer none)), (85, (iv p2)), (86, (iv 0)), (87, (bv (decide (0 < p2))))] [] (fun fb => by kernel_rfl) rfl trivial ?_
    refine WL.done rfl ?_
    refine WX.next ?_
    refine WC.seq ?_
    rcases br_some hl67 with ⟨h68, hl67⟩ | ⟨h68, hl67⟩
    ·refine WC.condT2 (fun fb => by kernel_rfl) h68 ?_
     refine WC.skip ?_
     refine WX.next ?_
     refine WC.seq ?_
     refine WC.block ?_
     refine WC.seq ?_
     refine WC.region ?_
     refine seg 2 [] [2, 8, 10, 12, 16, 17, 18, 85, 86] [(2, (iv p2)), (8, (pt g12)), (10, (.pointer none)), (12, (sv (some ⟨g32, 0, none⟩) (List.replicate p2.toNat (none : Option (List (A8_Int × Bool)))) p2.toNat)), (16, (pt g56)), (17, (.pointer none)), (18, (iv 0)), (85, (iv p2)), (86, (iv 0))] [] (fun fb => by kernel_rfl) rfl trivial ?_
     refine WL.done rfl ?_
     refine WX.next ?_
     refine WC.seq ?_
     refine WC.region ?_
     refine seg 1 [] [2, 8, 10, 12, 16, 17, 18, 19, 85, 86] [(2, (iv p2)), (8, (pt g12)), (10, (.pointer none)), (12, (sv (some ⟨g32, 0, none⟩) (List.replicate p2.toNat (none : Option (List (A8_Int × Bool)))) p2.toNat)), (16, (pt g56)), (17, (.pointer none)), (18, (iv 0)), (19, (iv (-1))), (85, (iv p2)), (86, (iv 0))] [] (fun fb => by kernel_rfl) rfl trivial ?_
     refine WL.done rfl ?_
     refine WX.next ?_
     refine WC.seq ?_
     refine WC.seq ?_
     refine WC.region ?_
     refine seg 1 [] [2, 8, 10, 12, 16, 17, 18, 19, 85, 86, 89] [(2, (iv p2)), (8, (pt g12)), (10, (.pointer none)), (12, (sv (some ⟨g32, 0, none⟩) (List.replicate p2.toNat (none : Option (List (A8_Int × Bool)))) p2.toNat)), (16, (pt g56)), (17, (.pointer none)), (18, (iv 0)), (19, (iv (-1))), (85, (iv p2)), (86, (iv 0)), (89, (.pointer none))] [] (fun fb => by kernel_rfl) rfl trivial ?_
     cases hl67
    refine WC.condF2 (fun fb => by kernel_rfl) h68 ?_
    refine WC.exit ?_
    injection hl67 with hl67
    exact WX.thenX (WX.thenX (WX.blockHere (WX.to Kx61 () [8, 16] rfl ⟨(hS66.subR [0, 1, 2, 3, 4]).sub [0, 3] (by decide), hl67.symm⟩)))
  rintro y72 w69 ⟨hS70, hq71⟩
  subst hq71
  refine WX.next ?_
  refine WC.seq ?_
  refine WC.region ?_
  refine seg 1 [.v (iv p1), .v (iv p2), .v (.slice none 0 0)] [8, 152] [(8, (pt g12)), (152, (.agg #[(iv p1), (iv p2), (.slice none 0 0)]))] [.cell ⟨g56, 0, none⟩ (iv p1), .cell ⟨g56, 1, none⟩ (iv p2), .cell ⟨g56, 2, none⟩ (.slice none 0 0)] (fun fb => by kernel_rfl) rfl ⟨hS70.cell 1 rfl 0 rfl, hS70.cell 1 rfl 1 rfl, hS70.cell 1 rfl 2 rfl, trivial⟩ ?_
  refine WL.store hS70 0 rfl [(0, (iv p1)), (1, (iv p2)), (2, (.slice none 0 0))] #[(iv p1), (iv p2), (.slice none 0 0)] (fun fb => by kernel_rfl) (by kernel_rfl) rfl [1] (by decide) (by decide) (fun w73 hS74 => ?_)
  refine ⟨trivial, ?_⟩
  refine seg 3 [] [8, 9] [(8, (pt g12)), (9, (iv 0))] [] (fun fb => by kernel_rfl) rfl trivial ?_
  refine WL.done rfl ?_
  refine WX.next ?_
  refine WC.ret ?_
  have hS75 := hS74.nilrow 3 encInt
  injection hf with hf
  subst hf
  exact WX.ret_ [.v (iv p1), .v (iv p2), .v (.slice none 0 0)] (.tuple #[(.agg #[(iv p1), (iv p2), (sv none ([] : List Int) 0)]), (iv 0)]) [.cell ⟨g12, 0, none⟩ (iv p1), .cell ⟨g12, 1, none⟩ (iv p2), .cell ⟨g12, 2, none⟩ (.slice none 0 0)] (fun fb => by kernel_rfl) ⟨hS74.cell 0 rfl 0 rfl, hS74.cell 0 rfl 1 rfl, hS74.cell 0 rfl 2 rfl, trivial⟩ ⟨_, rfl, none, 0, rfl, (hS75.sub [0] (by decide)).noR⟩
 have ho25 : t15.1 = some y24 := ho25
 have hk_ := optS_some ho25 hk_
 have hS19 : St NoS w w17 [rowR enc_Tile A_p0 c_p0 p0, rowR encInt A_p3_North c_p3_North p3.North, rowR encInt A_p3_East c_p3_East p3.East, rowR encInt A_p3_South c_p3_South p3.South, rowR encInt A_p3_West c_p3_West p3.West] [blk g20 (.cells #[(.slice A21 y24.rows.length c22), (iv y24.width), (iv y24.height), (.slice A_p3_North p3.North.length c_p3_North), (.slice A_p3_East p3.East.length c_p3_East), (.slice A_p3_South p3.South.length c_p3_South), (.slice A_p3_West p3.West.length c_p3_West)] 81 (0, 0)), rowO 85 encN_Row A21 c22 (tag H23 y24.rows), poolO [nestO subN_Row H23 y24.rows], blk g12 (.cells #[(iv 0), (iv 0), (.slice none 0 0)] 27 (0, 0)), blk g9 (.cells #[(.slice A_p3_North p3.North.length c_p3_North), (.slice A_p3_East p3.East.length c_p3_East), (.slice A_p3_South p3.South.length c_p3_South), (.slice A_p3_West p3.West.length c_p3_West)] 44 (0, 0))] := hS14.call hk_ [] [0, 1] (fun g hg => hg.elim) (by simp) (by decide)
 refine WL.reE [1, 2, 8, 23, 24, 25, 26, 27] [(1, (iv p1)), (2, (iv p2)), (8, (pt g12)), (23, (.slice A_p0 p0.length c_p0)), (24, (iv p1)), (25, (iv p2)), (26, (.agg #[(.slice A_p3_North p3.North.length c_p3_North), (.slice A_p3_East p3.East.length c_p3_East), (.slice A_p3_South p3.South.length c_p3_South), (.slice A_p3_West p3.West.length c_p3_West)])), (27, (.tuple #[(optP t15.1 g20), (iv t15.2)]))] [(1, (iv p1)), (2, (iv p2)), (8, (pt g12)), (23, (.slice A_p0 p0.length c_p0)), (24, (iv p1)), (25, (iv p2)), (26, (.agg #[(.slice A_p3_North p3.North.length c_p3_North), (.slice A_p3_East p3.East.length c_p3_East), (.slice A_p3_South p3.South.length c_p3_South), (.slice A_p3_West p3.West.length c_p3_West)])), (27, (.tuple #[(pt g20), (iv t15.2)]))] rfl (by rw [ho25]; rfl) ?_
 refine seg 10 [] [1, 2, 8, 10, 11] [(1, (iv p1)), (2, (iv p2)), (8, (pt g12)), (10, (pt g20)), (11, (iv t15.2))] [] (fun fb => by kernel_rfl) rfl trivial ?_
 refine WL.done rfl ?_
 refine WX.next ?_
 refine WC.seq ?_
 refine WC.seq ?_
 refine WC.region ?_
 refine seg 2 [] [1, 2, 8, 10, 11, 31] [(1, (iv p1)), (2, (iv p2)), (8, (pt g12)), (10, (pt g20)), (11, (iv t15.2)), (31, (bv (t15.2 != 0)))] [] (fun fb => by kernel_rfl) rfl trivial ?_
 refine WL.done rfl ?_
 refine WX.next ?_
 rcases br_some hf with ⟨h76, hf⟩ | ⟨h76, hf⟩
 ·refine WC.condT2 (fun fb => by kernel_rfl) h76 ?_
  refine WC.seq ?_
  refine WC.region ?_
  refine seg 2 [] [8, 32, 33] [(8, (pt g12)), (32, (.agg #[(iv 0), (iv 0), (.slice none 0 0)])), (33, (iv t15.2))] [] (fun fb => by kernel_rfl) rfl trivial ?_
  refine WL.store hS19 3 rfl [(0, (iv 0)), (1, (iv 0)), (2, (.slice none 0 0))] #[(iv 0), (iv 0), (.slice none 0 0)] (fun fb => by kernel_rfl) (by kernel_rfl) rfl [0, 1, 2, 4] (by decide) (by decide) (fun w77 hS78 => ?_)
  refine ⟨trivial, ?_⟩
  refine seg 4 [] [8, 9] [(8, (pt g12)), (9, (iv t15.2))] [] (fun fb => by kernel_rfl) rfl trivial ?_
  refine WL.done rfl ?_
  refine WX.next ?_
  refine WC.ret ?_
  have hS79 := hS78.nilrow 3 encInt
  injection hf with hf
  subst hf
  exact WX.thenR (WX.ret_ [.v (iv 0), .v (iv 0), .v (.slice none 0 0)] (.tuple #[(.agg #[(iv 0), (iv 0), (sv none ([] : List Int) 0)]), (iv t15.2)]) [.cell ⟨g12, 0, none⟩ (iv 0), .cell ⟨g12, 1, none⟩ (iv 0), .cell ⟨g12, 2, none⟩ (.slice none 0 0)] (fun fb => by kernel_rfl) ⟨hS78.cell 0 rfl 0 rfl, hS78.cell 0 rfl 1 rfl, hS78.cell 0 rfl 2 rfl, trivial⟩ ⟨_, rfl, none, 0, rfl, (hS79.sub [0] (by decide)).noR⟩)
 refine WC.condF2 (fun fb => by kernel_rfl) h76 ?_
 refine WC.skip ?_
 refine WX.next ?_
 refine WC.seq ?_
 refine WC.region ?_
 refine seg 1 [] [1, 2, 8, 10, 34] [(1, (iv p1)), (2, (iv p2)), (8, (pt g12)), (10, (pt g20)), (34, (iv p2))] [] (fun fb => by kernel_rfl) rfl trivial ?_
 obtain ⟨h80, hf⟩ := as_some hf
 refine WL.make hS19 (e := (encMap A8_Int Bool)) (T := 91) (tS := 90) (z := (.map none)) (bytes := 8) (d := 35) ((0, none) : Nat × (Option (List (A8_Int × Bool)))) p2 (fun fb => by kernel_rfl) (by kernel_rfl) (by kernel_rfl) rfl (by decide) h80 (by decide) (fun g81 w82 hS84 => ?_)
 refine ⟨trivial, ?_⟩
 have hS85 : St NoS w w82 [rowR enc_Tile A_p0 c_p0 p0, rowR encInt A_p3_North c_p3_North p3.North, rowR encInt A_p3_East c_p3_East p3.East, rowR encInt A_p3_South c_p3_South p3.South, rowR encInt A_p3_West c_p3_West p3.West] [rowO 91 (encMap A8_Int Bool) (some ⟨g81, 0, none⟩) p2.toNat (tag g0 (List.replicate p2.toNat (none : Option (List (A8_Int × Bool))))), blk g20 (.cells #[(.slice A21 y24.rows.length c22), (iv y24.width), (iv y24.height), (.slice A_p3_North p3.North.length c_p3_North), (.slice A_p3_East p3.East.length c_p3_East), (.slice A_p3_South p3.South.length c_p3_South), (.slice A_p3_West p3.West.length c_p3_West)] 81 (0, 0)), rowO 85 encN_Row A21 c22 (tag H23 y24.rows), poolO [nestO subN_Row H23 y24.rows], blk g12 (.cells #[(iv 0), (iv 0), (.slice none 0 0)] 27 (0, 0)), blk g9 (.cells #[(.slice A_p3_North p3.North.length c_p3_North), (.slice A_p3_East p3.East.length c_p3_East), (.slice A_p3_South p3.South.length c_p3_South), (.slice A_p3_West p3.West.length c_p3_West)] 44 (0, 0))] := by rw [show tag g0 (List.replicate p2.toNat (none : Option (List (A8_Int × Bool)))) = _ from tag_rep 0 none _]; exact hS84
 have hS86 := hS85.mapsNil (aggI ints_A8_Int) vB g0 p2.toNat
 refine WL.reE [1, 2, 8, 10, 35] [(1, (iv p1)), (2, (iv p2)), (8, (pt g12)), (10, (pt g20)), (35, (.slice (some ⟨g81, 0, none⟩) (List.replicate p2.toNat ((0, none) : Nat × (Option (List (A8_Int × Bool))))).length p2.toNat))] [(1, (iv p1)), (2, (iv p2)), (8, (pt g12)), (10, (pt g20)), (35, (.slice (some ⟨g81, 0, none⟩) (List.replicate p2.toNat (none : Option (List (A8_Int × Bool)))).length p2.toNat))] rfl (by simp only [List.length_replicate]) ?_
 refine seg 3 [] [1, 2, 8, 10, 12] [(1, (iv p1)), (2, (iv p2)), (8, (pt g12)), (10, (pt g20)), (12, (sv (some ⟨g81, 0, none⟩) (List.replicate p2.toNat (none : Option (List (A8_Int × Bool)))) p2.toNat))] [] (fun fb => by kernel_rfl) rfl trivial ?_
 refine WL.done rfl ?_
 refine WX.next ?_
 refine WC.seq ?_
 refine WC.seq ?_
 refine WC.region ?_
 refine seg 3 [] [1, 2, 8, 10, 12, 13] [(1, (iv p1)), (2, (iv p2)), (8, (pt g12)), (10, (pt g20)), (12, (sv (some ⟨g81, 0, none⟩) (List.replicate p2.toNat (none : Option (List (A8_Int × Bool)))) p2.toNat)), (13, (iv (w64 (p2 - 1))))] [] (fun fb => by kernel_rfl) rfl trivial ?_
 refine WL.done rfl ?_
 refine WX.next ?_
 obtain ⟨x95, hx96, hf⟩ := bind_some hf
 refine WC.cutN (T := (List (Option (List (A8_Int × Bool)))) × (Option Addr) × Nat × (Nat → Nat)) (fun t => [(1, (iv p1)), (2, (iv p2)), (8, (pt g12)), (10, (pt g20)), (12, (sv t.2.1 t.1 t.2.2.1))]) (fun t w1 => St NoS w w1 [rowR enc_Tile A_p0 c_p0 p0, rowR encInt A_p3_North c_p3_North p3.North, rowR encInt A_p3_East c_p3_East p3.East, rowR encInt A_p3_South c_p3_South p3.South, rowR encInt A_p3_West c_p3_West p3.West] [blk g12 (.cells #[(iv 0), (iv 0), (.slice none 0 0)] 27 (0, 0)), blk g20 (.cells #[(sv A21 y24.rows c22), (iv y24.width), (iv y24.height), (sv A_p3_North p3.North c_p3_North), (sv A_p3_East p3.East c_p3_East), (sv A_p3_South p3.South c_p3_South), (sv A_p3_West p3.West c_p3_West)] 81 (0, 0)), rowO 85 encN_Row A21 c22 (tag H23 y24.rows), poolO [nestO subN_Row H23 y24.rows], rowO 91 (encMap A8_Int Bool) t.2.1 t.2.2.1 (tag t.2.2.2 t.1), mapsO (aggI ints_A8_Int) vB t.2.2.2 t.1] ∧ x95 = t.1) (fun Kx95 => ?_) ?_
 ·
  refine WC.block ?_
  refine WC.loop (T := ((List (Option (List (A8_Int × Bool)))) × Int) × (Option Addr) × Nat × (Nat → Nat)) (fun t => [(1, (iv p1)), (2, (iv p2)), (8, (pt g12)), (10, (pt g20)), (12, (sv t.2.1 t.1.1 t.2.2.1)), (13, (iv t.1.2))]) (fun n t w1 => St NoS w w1 [rowR enc_Tile A_p0 c_p0 p0, rowR encInt A_p3_North c_p3_North p3.North, rowR encInt A_p3_East c_p3_East p3.East, rowR encInt A_p3_South c_p3_South p3.South, rowR encInt A_p3_West c_p3_West p3.West] [blk g12 (.cells #[(iv 0), (iv 0), (.slice none 0 0)] 27 (0, 0)), blk g20 (.cells #[(sv A21 y24.rows c22), (iv y24.width), (iv y24.height), (sv A_p3_North p3.North c_p3_North), (sv A_p3_East p3.East c_p3_East), (sv A_p3_South p3.South c_p3_South), (sv A_p3_West p3.West c_p3_West)] 81 (0, 0)), rowO 85 encN_Row A21 c22 (tag H23 y24.rows), poolO [nestO subN_Row H23 y24.rows], rowO 91 (encMap A8_Int Bool) t.2.1 t.2.2.1 (tag t.2.2.2 t.1.1), mapsO (aggI ints_A8_Int) vB t.2.2.2 t.1.1] ∧ fill_First.l2 n t.1.1 t.1.2 p2 p3 y24 = some x95) k (((List.replicate p2.toNat (none : Option (List (A8_Int × Bool)))), w64 (p2 - 1)), (some ⟨g81, 0, none⟩), p2.toNat, g0) [1, 2, 8, 10, 12, 13] rfl ⟨(hS86.subR [0, 1, 2, 3, 4]).sub [5, 2, 3, 4, 1, 0] (by decide), hx96⟩ ?_
  rintro k97 ⟨⟨l89, x91⟩, A87, c88, H90⟩ w98 ⟨hS99, hl100⟩
  cases k97 with
  | zero => rw [fill_First.l2] at hl100; cases hl100
  | succ k97 =>
   rw [fill_First.l2] at hl100
   refine WC.seq ?_
   refine WC.seq ?_
   refine WC.region ?_
   refine seg 2 [] [1, 2, 8, 10, 12, 13, 39] [(1, (iv p1)), (2, (iv p2)), (8, (pt g12)), (10, (pt g20)), (12, (sv A87 l89 c88)), (13, (iv x91)), (39, (bv (decide (x91 ≥ 0))))] [] (fun fb => by kernel_rfl) rfl trivial ?_
   refine WL.done rfl ?_
   refine WX.next ?_
   rcases br_some hl100 with ⟨h101, hl100⟩ | ⟨h101, hl100⟩
   ·refine WC.condT2 (fun fb => by kernel_rfl) h101 ?_
    refine WC.skip ?_
    refine WX.next ?_
    refine WC.seq ?_
    refine WC.block ?_
    refine WC.seq ?_
    refine WC.region ?_
    refine seg 2 [] [1, 2, 8, 10, 12, 13, 42, 43] [(1, (iv p1)), (2, (iv p2)), (8, (pt g12)), (10, (pt g20)), (12, (sv A87 l89 c88)), (13, (iv x91)), (42, (sv A87 l89 c88)), (43, (iv x91))] [] (fun fb => by kernel_rfl) rfl trivial ?_
    refine WL.new hS99 44 [] (fun g => (.map (some g))) (mapObj (aggI ints_A8_Int) vB ([] : List (A8_Int × Bool))) [] (fun fb g => by kernel_rfl) trivial (fun g102 w103 hS104 => ?_)
    refine ⟨trivial, ?_⟩
    obtain ⟨h105, hl100⟩ := as_some hl100
    refine seg 4 [] [1, 2, 8, 10, 12, 13, 44, 45] [(1, (iv p1)), (2, (iv p2)), (8, (pt g12)), (10, (pt g20)), (12, (sv A87 l89 c88)), (13, (iv x91)), (44, (.map (some g102))), (45, (.pointer (some ((adr A87).add ((x91).toNat * 1)))))] [.idx A87 x91 l89.length] (fun fb => by kernel_rfl) rfl ⟨nrow_adr (rowO.rd (hS104.own 5).1) h105.1 h105.2, trivial⟩ ?_
    refine WL.storeRow hS104 5 rfl (x91) (g102, some ([] : List (A8_Int × Bool))) (0, none) [(0, (.map (some g102)))] (fun fb => by kernel_rfl) h105.1 (by rw [tag_length]; exact h105.2) (by kernel_rfl) (by kernel_rfl) [0, 1, 2, 3, 4, 6] (by decide) (by decide) (fun w106 hS107 => ?_)
    have hS108 : St NoS w w106 [rowR enc_Tile A_p0 c_p0 p0, rowR encInt A_p3_North c_p3_North p3.North, rowR encInt A_p3_East c_p3_East p3.East, rowR encInt A_p3_South c_p3_South p3.South, rowR encInt A_p3_West c_p3_West p3.West] [rowO 91 (encMap A8_Int Bool) A87 c88 (tag (updH H90 x91.toNat g102) (l89.set x91.toNat (some ([] : List (A8_Int × Bool))))), blk g102 (mapObj (aggI ints_A8_Int) vB ([] : List (A8_Int × Bool))), blk g12 (.cells #[(iv 0), (iv 0), (.slice none 0 0)] 27 (0, 0)), blk g20 (.cells #[(.slice A21 y24.rows.length c22), (iv y24.width), (iv y24.height), (.slice A_p3_North p3.North.length c_p3_North), (.slice A_p3_East p3.East.length c_p3_East), (.slice A_p3_South p3.South.length c_p3_South), (.slice A_p3_West p3.West.length c_p3_West)] 81 (0, 0)), rowO 85 encN_Row A21 c22 (tag H23 y24.rows), poolO [nestO subN_Row H23 y24.rows], mapsO (aggI ints_A8_Int) vB H90 l89] := by rw [tag_set]; exact hS107
    have hS109 : St NoS w w106 [rowR enc_Tile A_p0 c_p0 p0, rowR encInt A_p3_North c_p3_North p3.North, rowR encInt A_p3_East c_p3_East p3.East, rowR encInt A_p3_South c_p3_South p3.South, rowR encInt A_p3_West c_p3_West p3.West] [mapsO (aggI ints_A8_Int) vB (updH H90 x91.toNat g102) (l89.set x91.toNat (some ([] : List (A8_Int × Bool)))), rowO 91 (encMap A8_Int Bool) A87 c88 (tag (updH H90 x91.toNat g102) (l89.set x91.toNat (some ([] : List (A8_Int × Bool))))), blk g12 (.cells #[(iv 0), (iv 0), (.slice none 0 0)] 27 (0, 0)), blk g20 (.cells #[(sv A21 y24.rows c22), (iv y24.width), (iv y24.height), (sv A_p3_North p3.North c_p3_North), (sv A_p3_East p3.East c_p3_East), (sv A_p3_South p3.South c_p3_South), (sv A_p3_West p3.West c_p3_West)] 81 (0, 0)), rowO 85 encN_Row A21 c22 (tag H23 y24.rows), poolO [nestO subN_Row H23 y24.rows]] := hS108.mapsSet 6 1 rfl rfl (by decide) (x91.toNat) [0, 2, 3, 4, 5] (by decide) (by decide)
    refine ⟨trivial, ?_⟩
    refine WL.reE [1, 2, 8, 10, 12, 13] [(1, (iv p1)), (2, (iv p2)), (8, (pt g12)), (10, (pt g20)), (12, (.slice A87 l89.length c88)), (13, (iv x91))] [(1, (iv p1)), (2, (iv p2)), (8, (pt g12)), (10, (pt g20)), (12, (.slice A87 (l89.set x91.toNat (some ([] : List (A8_Int × Bool)))).length c88)), (13, (iv x91))] rfl (by simp only [List.length_set]) ?_
    refine WL.done rfl ?_
    refine WX.next ?_
    refine WC.seq ?_
    refine WC.region ?_
    refine seg 6 [.v (sv A21 y24.rows c22)] [1, 2, 8, 10, 12, 13, 49, 50, 51] [(1, (iv p1)), (2, (iv p2)), (8, (pt g12)), (10, (pt g20)), (12, (sv A87 (l89.set x91.toNat (some ([] : List (A8_Int × Bool)))) c88)), (13, (iv x91)), (49, (sv A21 y24.rows c22)), (50, (iv (y24.rows.length : Int))), (51, (iv 0))] [.cell ⟨g20, 0, none⟩ (sv A21 y24.rows c22)] (fun fb => by kernel_rfl) rfl ⟨hS109.cell 3 rfl 0 rfl, trivial⟩ ?_
    refine WL.done rfl ?_
    refine WX.next ?_
    obtain ⟨x118, hx119, hl100⟩ := bind_some hl100
    refine WC.cutN (T := (List (Option (List (A8_Int × Bool)))) × (Option Addr) × Nat × (Nat → Nat)) (fun t => [(1, (iv p1)), (2, (iv p2)), (8, (pt g12)), (10, (pt g20)), (12, (sv t.2.1 t.1 t.2.2.1)), (13, (iv x91))]) (fun t w1 => St NoS w w1 [rowR enc_Tile A_p0 c_p0 p0, rowR encInt A_p3_North c_p3_North p3.North, rowR encInt A_p3_East c_p3_East p3.East, rowR encInt A_p3_South c_p3_South p3.South, rowR encInt A_p3_West c_p3_West p3.West] [blk g12 (.cells #[(iv 0), (iv 0), (.slice none 0 0)] 27 (0, 0)), blk g20 (.cells #[(sv A21 y24.rows c22), (iv y24.width), (iv y24.height), (sv A_p3_North p3.North c_p3_North), (sv A_p3_East p3.East c_p3_East), (sv A_p3_South p3.South c_p3_South), (sv A_p3_West p3.West c_p3_West)] 81 (0, 0)), rowO 85 encN_Row A21 c22 (tag H23 y24.rows), poolO [nestO subN_Row H23 y24.rows], rowO 91 (encMap A8_Int Bool) t.2.1 t.2.2.1 (tag t.2.2.2 t.1), mapsO (aggI ints_A8_Int) vB t.2.2.2 t.1] ∧ x118 = t.1) (fun Kx118 => ?_) ?_
    ·
     refine WC.block ?_
     refine WC.loop (T := ((List (Option (List (A8_Int × Bool)))) × Int) × (Option Addr) × Nat × (Nat → Nat)) (fun t => [(1, (iv p1)), (2, (iv p2)), (8, (pt g12)), (10, (pt g20)), (12, (sv t.2.1 t.1.1 t.2.2.1)), (13, (iv x91)), (49, (sv A21 y24.rows c22)), (50, (iv (y24.rows.length : Int))), (51, (iv t.1.2))]) (fun n t w1 => St NoS w w1 [rowR enc_Tile A_p0 c_p0 p0, rowR encInt A_p3_North c_p3_North p3.North, rowR encInt A_p3_East c_p3_East p3.East, rowR encInt A_p3_South c_p3_South p3.South, rowR encInt A_p3_West c_p3_West p3.West] [blk g12 (.cells #[(iv 0), (iv 0), (.slice none 0 0)] 27 (0, 0)), blk g20 (.cells #[(sv A21 y24.rows c22), (iv y24.width), (iv y24.height), (sv A_p3_North p3.North c_p3_North), (sv A_p3_East p3.East c_p3_East), (sv A_p3_South p3.South c_p3_South), (sv A_p3_West p3.West c_p3_West)] 81 (0, 0)), rowO 85 encN_Row A21 c22 (tag H23 y24.rows), poolO [nestO subN_Row H23 y24.rows], rowO 91 (encMap A8_Int Bool) t.2.1 t.2.2.1 (tag t.2.2.2 t.1.1), mapsO (aggI ints_A8_Int) vB t.2.2.2 t.1.1] ∧ fill_First.l3 n t.1.1 t.1.2 p2 p3 y24 x91 = some x118) k97 ((l89.set x91.toNat (some ([] : List (A8_Int × Bool))), 0), A87, c88, (updH H90 x91.toNat g102)) [1, 2, 8, 10, 12, 13, 49, 50, 51] rfl ⟨(hS109.subR [0, 1, 2, 3, 4]).sub [2, 3, 4, 5, 1, 0] (by decide), hx119⟩ ?_
     rintro k120 ⟨⟨l112, x114⟩, A110, c111, H113⟩ w121 ⟨hS122, hl123⟩
     cases k120 with
     | zero => rw [fill_First.l3] at hl123; cases hl123
     | succ k120 =>
      rw [fill_First.l3] at hl123
      refine WC.seq ?_
      refine WC.region ?_
      refine seg 1 [] [1, 2, 8, 10, 12, 13, 49, 50, 51, 52] [(1, (iv p1)), (2, (iv p2)), (8, (pt g12)), (10, (pt g20)), (12, (sv A110 l112 c111)), (13, (iv x91)), (49, (sv A21 y24.rows c22)), (50, (iv (y24.rows.length : Int))), (51, (iv x114)), (52, (bv (decide (x114 < (y24.rows.length : Int)))))] [] (fun fb => by kernel_rfl) rfl trivial ?_
      refine WL.done rfl ?_
      refine WX.next ?_
      refine WC.seq ?_
      rcases br_some hl123 with ⟨h124, hl123⟩ | ⟨h124, hl123⟩
      ·refine WC.condT2 (fun fb => by kernel_rfl) h124 ?_
       refine WC.skip ?_
       refine WX.next ?_
       refine WC.seq ?_
       refine WC.block ?_
       refine WC.seq ?_
       refine WC.region ?_
       obtain ⟨h125, hl123⟩ := as_some hl123
       refine seg 2 [.v (sv ((H23 x114.toNat 0).1) ((rdD y24.rows x114 z_Row).Cells) ((H23 x114.toNat 0).2)), .v (iv (((rdD y24.rows x114 z_Row).South).e0)), .v (iv (((rdD y24.rows x114 z_Row).South).e1)), .v (iv (((rdD y24.rows x114 z_Row).South).e2)), .v (iv (((rdD y24.rows x114 z_Row).South).e3)), .v (iv (((rdD y24.rows x114 z_Row).South).e4)), .v (iv (((rdD y24.rows x114 z_Row).South).e5)), .v (iv (((rdD y24.rows x114 z_Row).South).e6)), .v (iv (((rdD y24.rows x114 z_Row).South).e7)), .v (iv (((rdD y24.rows x114 z_Row).North).e0)), .v (iv (((rdD y24.rows x114 z_Row).North).e1)), .v (iv (((rdD y24.rows x114 z_Row).North).e2)), .v (iv (((rdD y24.rows x114 z_Row).North).e3)), .v (iv (((rdD y24.rows x114 z_Row).North).e4)), .v (iv (((rdD y24.rows x114 z_Row).North).e5)), .v (iv (((rdD y24.rows x114 z_Row).North).e6)), .v (iv (((rdD y24.rows x114 z_Row).North).e7)), .v (iv ((rdD y24.rows x114 z_Row).West)), .v (iv ((rdD y24.rows x114 z_Row).East))] [1, 2, 8, 10, 12, 13, 49, 50, 51, 54] [(1, (iv p1)), (2, (iv p2)), (8, (pt g12)), (10, (pt g20)), (12, (sv A110 l112 c111)), (13, (iv x91)), (49, (sv A21 y24.rows c22)), (50, (iv (y24.rows.length : Int))), (51, (iv x114)), (54, (.agg #[(sv ((H23 x114.toNat 0).1) ((rdD y24.rows x114 z_Row).Cells) ((H23 x114.toNat 0).2)), (iv (((rdD y24.rows x114 z_Row).South).e0)), (iv (((rdD y24.rows x114 z_Row).South).e1)), (iv (((rdD y24.rows x114 z_Row).South).e2)), (iv (((rdD y24.rows x114 z_Row).South).e3)), (iv (((rdD y24.rows x114 z_Row).South).e4)), (iv (((rdD y24.rows x114 z_Row).South).e5)), (iv (((rdD y24.rows x114 z_Row).South).e6)), (iv (((rdD y24.rows x114 z_Row).South).e7)), (iv (((rdD y24.rows x114 z_Row).North).e0)), (iv (((rdD y24.rows x114 z_Row).North).e1)), (iv (((rdD y24.rows x114 z_Row).North).e2)), (iv (((rdD y24.rows x114 z_Row).North).e3)), (iv (((rdD y24.rows x114 z_Row).North).e4)), (iv (((rdD y24.rows x114 z_Row).North).e5)), (iv (((rdD y24.rows x114 z_Row).North).e6)), (iv (((rdD y24.rows x114 z_Row).North).e7)), (iv ((rdD y24.rows x114 z_Row).West)), (iv ((rdD y24.rows x114 z_Row).East))]))] [.idx A21 x114 y24.rows.length, .cell ((adr A21).add ((x114).toNat * 19)) (sv ((H23 x114.toNat 0).1) ((rdD y24.rows x114 z_Row).Cells) ((H23 x114.toNat 0).2)), .cell (((adr A21).add ((x114).toNat * 19)).add 1) (iv (((rdD y24.rows x114 z_Row).South).e0)), .cell (((adr A21).add ((x114).toNat * 19)).add 2) (iv (((rdD y24.rows x114 z_Row).South).e1)), .cell (((adr A21).add ((x114).toNat * 19)).add 3) (iv (((rdD y24.rows x114 z_Row).South).e2)), .cell (((adr A21).add ((x114).toNat * 19)).add 4) (iv (((rdD y24.rows x114 z_Row).South).e3)), .cell (((adr A21).add ((x114).toNat * 19)).add 5) (iv (((rdD y24.rows x114 z_Row).South).e4)), .cell (((adr A21).add ((x114).toNat * 19)).add 6) (iv (((rdD y24.rows x114 z_Row).South).e5)), .cell (((adr A21).add ((x114).toNat * 19)).add 7) (iv (((rdD y24.rows x114 z_Row).South).e6)), .cell (((adr A21).add ((x114).toNat * 19)).add 8) (iv (((rdD y24.rows x114 z_Row).South).e7)), .cell (((adr A21).add ((x114).toNat * 19)).add 9) (iv (((rdD y24.rows x114 z_Row).North).e0)), .cell (((adr A21).add ((x114).toNat * 19)).add 10) (iv (((rdD y24.rows x114 z_Row).North).e1)), .cell (((adr A21).add ((x114).toNat * 19)).add 11) (iv (((rdD y24.rows x114 z_Row).North).e2)), .cell (((adr A21).add ((x114).toNat * 19)).add 12) (iv (((rdD y24.rows x114 z_Row).North).e3)), .cell (((adr A21).add ((x114).toNat * 19)).add 13) (iv (((rdD y24.rows x114 z_Row).North).e4)), .cell (((adr A21).add ((x114).toNat * 19)).add 14) (iv (((rdD y24.rows x114 z_Row).North).e5)), .cell (((adr A21).add ((x114).toNat * 19)).add 15) (iv (((rdD y24.rows x114 z_Row).North).e6)), .cell (((adr A21).add ((x114).toNat * 19)).add 16) (iv (((rdD y24.rows x114 z_Row).North).e7)), .cell (((adr A21).add ((x114).toNat * 19)).add 17) (iv ((rdD y24.rows x114 z_Row).West)), .cell (((adr A21).add ((x114).toNat * 19)).add 18) (iv ((rdD y24.rows x114 z_Row).East))] (fun fb => by kernel_rfl) rfl ⟨nrow_adr (rowO.rd (hS122.own 2).1) h125.1 h125.2, nrow_cell (rowO.rd (hS122.own 2).1) z_Row h125.1 h125.2 0 rfl, nrow_cell (rowO.rd (hS122.own 2).1) z_Row h125.1 h125.2 1 rfl, nrow_cell (rowO.rd (hS122.own 2).1) z_Row h125.1 h125.2 2 rfl, nrow_cell (rowO.rd (hS122.own 2).1) z_Row h125.1 h125.2 3 rfl, nrow_cell (rowO.rd (hS122.own 2).1) z_Row h125.1 h125.2 4 rfl, nrow_cell (rowO.rd (hS122.own 2).1) z_Row h125.1 h125.2 5 rfl, nrow_cell (rowO.rd (hS122.own 2).1) z_Row h125.1 h125.2 6 rfl, nrow_cell (rowO.rd (hS122.own 2).1) z_Row h125.1 h125.2 7 rfl, nrow_cell (rowO.rd (hS122.own 2).1) z_Row h125.1 h125.2 8 rfl, nrow_cell (rowO.rd (hS122.own 2).1) z_Row h125.1 h125.2 9 rfl, nrow_cell (rowO.rd (hS122.own 2).1) z_Row h125.1 h125.2 10 rfl, nrow_cell (rowO.rd (hS122.own 2).1) z_Row h125.1 h125.2 11 rfl, nrow_cell (rowO.rd (hS122.own 2).1) z_Row h125.1 h125.2 12 rfl, nrow_cell (rowO.rd (hS122.own 2).1) z_Row h125.1 h125.2 13 rfl, nrow_cell (rowO.rd (hS122.own 2).1) z_Row h125.1 h125.2 14 rfl, nrow_cell (rowO.rd (hS122.own 2).1) z_Row h125.1 h125.2 15 rfl, nrow_cell (rowO.rd (hS122.own 2).1) z_Row h125.1 h125.2 16 rfl, nrow_cell (rowO.rd (hS122.own 2).1) z_Row h125.1 h125.2 17 rfl, nrow_cell (rowO.rd (hS122.own 2).1) z_Row h125.1 h125.2 18 rfl, trivial⟩ ?_
       refine WL.new hS122 15 [] (fun g => (pt g)) (.cells #[(.slice none 0 0), (iv 0), (iv 0), (iv 0), (iv 0), (iv 0), (iv 0), (iv 0), (iv 0), (iv 0), (iv 0), (iv 0), (iv 0), (iv 0), (iv 0), (iv 0), (iv 0), (iv 0), (iv 0)] 85 (0, 0)) [] (fun fb g => by kernel_rfl) trivial (fun g126 w127 hS128 => ?_)
       refine ⟨trivial, ?_⟩
       refine WL.store hS128 0 rfl [(0, (sv ((H23 x114.toNat 0).1) ((rdD y24.rows x114 z_Row).Cells) ((H23 x114.toNat 0).2))), (1, (iv (((rdD y24.rows x114 z_Row).South).e0))), (2, (iv (((rdD y24.rows x114 z_Row).South).e1))), (3, (iv (((rdD y24.rows x114 z_Row).South).e2))), (4, (iv (((rdD y24.rows x114 z_Row).South).e3))), (5, (iv (((rdD y24.rows x114 z_Row).South).e4))), (6, (iv (((rdD y24.rows x114 z_Row).South).e5))), (7, (iv (((rdD y24.rows x114 z_Row).South).e6))), (8, (iv (((rdD y24.rows x114 z_Row).South).e7))), (9, (iv (((rdD y24.rows x114 z_Row).North).e0))), (10, (iv (((rdD y24.rows x114 z_Row).North).e1))), (11, (iv (((rdD y24.rows x114 z_Row).North).e2))), (12, (iv (((rdD y24.rows x114 z_Row).North).e3))), (13, (iv (((rdD y24.rows x114 z_Row).North).e4))), (14, (iv (((rdD y24.rows x114 z_Row).North).e5))), (15, (iv (((rdD y24.rows x114 z_Row).North).e6))), (16, (iv (((rdD y24.rows x114 z_Row).North).e7))), (17, (iv ((rdD y24.rows x114 z_Row).West))), (18, (iv ((rdD y24.rows x114 z_Row).East)))] #[(sv ((H23 x114.toNat 0).1) ((rdD y24.rows x114 z_Row).Cells) ((H23 x114.toNat 0).2)), (iv (((rdD y24.rows x114 z_Row).South).e0)), (iv (((rdD y24.rows x114 z_Row).South).e1)), (iv (((rdD y24.rows x114 z_Row).South).e2)), (iv (((rdD y24.rows x114 z_Row).South).e3)), (iv (((rdD y24.rows x114 z_Row).South).e4)), (iv (((rdD y24.rows x114 z_Row).South).e5)), (iv (((rdD y24.rows x114 z_Row).South).e6)), (iv (((rdD y24.rows x114 z_Row).South).e7)), (iv (((rdD y24.rows x114 z_Row).North).e0)), (iv (((rdD y24.rows x114 z_Row).North).e1)), (iv (((rdD y24.rows x114 z_Row).North).e2)), (iv (((rdD y24.rows x114 z_Row).North).e3)), (iv (((rdD y24.rows x114 z_Row).North).e4)), (iv (((rdD y24.rows x114 z_Row).North).e5)), (iv (((rdD y24.rows x114 z_Row).North).e6)), (iv (((rdD y24.rows x114 z_Row).North).e7)), (iv ((rdD y24.rows x114 z_Row).West)), (iv ((rdD y24.rows x114 z_Row).East))] (fun fb => by kernel_rfl) (by kernel_rfl) (by kernel_rfl) [1, 2, 3, 4, 5, 6] (by decide) (by decide) (fun w129 hS130 => ?_)
       refine ⟨trivial, ?_⟩
       refine WL.done rfl ?_
       refine WX.next ?_
       refine WC.seq ?_
       obtain ⟨x131, hx132, hl123⟩ := bind_some hl123
       refine WC.cutN (T := Bool) (fun t => [(1, (iv p1)), (2, (iv p2)), (8, (pt g12)), (10, (pt g20)), (12, (sv A110 l112 c111)), (13, (iv x91)), (15, (pt g126)), (49, (sv A21 y24.rows c22)), (50, (iv (y24.rows.length : Int))), (51, (iv x114)), (74, (bv t))]) (fun t w1 => St NoS w w1 [rowR enc_Tile A_p0 c_p0 p0, rowR encInt A_p3_North c_p3_North p3.North, rowR encInt A_p3_East c_p3_East p3.East, rowR encInt A_p3_South c_p3_South p3.South, rowR encInt A_p3_West c_p3_West p3.West] [blk g12 (.cells #[(iv 0), (iv 0), (.slice none 0 0)] 27 (0, 0)), blk g20 (.cells #[(sv A21 y24.rows c22), (iv y24.width), (iv y24.height), (sv A_p3_North p3.North c_p3_North), (sv A_p3_East p3.East c_p3_East), (sv A_p3_South p3.South c_p3_South), (sv A_p3_West p3.West c_p3_West)] 81 (0, 0)), rowO 85 encN_Row A21 c22 (tag H23 y24.rows), poolO [nestO subN_Row H23 y24.rows], rowO 91 (encMap A8_Int Bool) A110 c111 (tag H113 l112), mapsO (aggI ints_A8_Int) vB H113 l112, blk g126 (.cells #[(sv ((H23 x114.toNat 0).1) ((rdD y24.rows x114 z_Row).Cells) ((H23 x114.toNat 0).2)), (iv (((rdD y24.rows x114 z_Row).South).e0)), (iv (((rdD y24.rows x114 z_Row).South).e1)), (iv (((rdD y24.rows x114 z_Row).South).e2)), (iv (((rdD y24.rows x114 z_Row).South).e3)), (iv (((rdD y24.rows x114 z_Row).South).e4)), (iv (((rdD y24.rows x114 z_Row).South).e5)), (iv (((rdD y24.rows x114 z_Row).South).e6)), (iv (((rdD y24.rows x114 z_Row).South).e7)), (iv (((rdD y24.rows x114 z_Row).North).e0)), (iv (((rdD y24.rows x114 z_Row).North).e1)), (iv (((rdD y24.rows x114 z_Row).North).e2)), (iv (((rdD y24.rows x114 z_Row).North).e3)), (iv (((rdD y24.rows x114 z_Row).North).e4)), (iv (((rdD y24.rows x114 z_Row).North).e5)), (iv (((rdD y24.rows x114 z_Row).North).e6)), (iv (((rdD y24.rows x114 z_Row).North).e7)), (iv ((rdD y24.rows x114 z_Row).West)), (iv ((rdD y24.rows x114 z_Row).East))] 85 (0, 0))] ∧ x131 = t) (fun Kx131 => ?_) ?_
       ·
        rcases br_some hx132 with ⟨h133, hx132⟩ | ⟨h133, hx132⟩
        ·
         refine WC.regionD ([(1, ⟨g126, 0, none⟩, (sv ((H23 x114.toNat 0).1) ((rdD y24.rows x114 z_Row).Cells) ((H23 x114.toNat 0).2))), (1, ⟨g126, 1, none⟩, (iv (((rdD y24.rows x114 z_Row).South).e0))), (1, ⟨g126, 2, none⟩, (iv (((rdD y24.rows x114 z_Row).South).e1))), (1, ⟨g126, 3, none⟩, (iv (((rdD y24.rows x114 z_Row).South).e2))), (1, ⟨g126, 4, none⟩, (iv (((rdD y24.rows x114 z_Row).South).e3))), (1, ⟨g126, 5, none⟩, (iv (((rdD y24.rows x114 z_Row).South).e4))), (1, ⟨g126, 6, none⟩, (iv (((rdD y24.rows x114 z_Row).South).e5))), (1, ⟨g126, 7, none⟩, (iv (((rdD y24.rows x114 z_Row).South).e6))), (1, ⟨g126, 8, none⟩, (iv (((rdD y24.rows x114 z_Row).South).e7))), (1, ⟨g126, 9, none⟩, (iv (((rdD y24.rows x114 z_Row).North).e0))), (1, ⟨g126, 10, none⟩, (iv (((rdD y24.rows x114 z_Row).North).e1))), (1, ⟨g126, 11, none⟩, (iv (((rdD y24.rows x114 z_Row).North).e2))), (1, ⟨g126, 12, none⟩, (iv (((rdD y24.rows x114 z_Row).North).e3))), (1, ⟨g126, 13, none⟩, (iv (((rdD y24.rows x114 z_Row).North).e4))), (1, ⟨g126, 14, none⟩, (iv (((rdD y24.rows x114 z_Row).North).e5))), (1, ⟨g126, 15, none⟩, (iv (((rdD y24.rows x114 z_Row).North).e6))), (1, ⟨g126, 16, none⟩, (iv (((rdD y24.rows x114 z_Row).North).e7))), (1, ⟨g126, 17, none⟩, (iv ((rdD y24.rows x114 z_Row).West))), (1, ⟨g126, 18, none⟩, (iv ((rdD y24.rows x114 z_Row).East))), (16, ⟨g126, 9, none⟩, (iv (((rdD y24.rows x114 z_Row).North).e0))), (16, ⟨g126, 10, none⟩, (iv (((rdD y24.rows x114 z_Row).North).e1))), (16, ⟨g126, 11, none⟩, (iv (((rdD y24.rows x114 z_Row).North).e2))), (16, ⟨g126, 12, none⟩, (iv (((rdD y24.rows x114 z_Row).North).e3))), (16, ⟨g126, 13, none⟩, (iv (((rdD y24.rows x114 z_Row).North).e4))), (16, ⟨g126, 14, none⟩, (iv (((rdD y24.rows x114 z_Row).North).e5))), (16, ⟨g126, 15, none⟩, (iv (((rdD y24.rows x114 z_Row).North).e6))), (16, ⟨g126, 16, none⟩, (iv (((rdD y24.rows x114 z_Row).North).e7)))], [0, 1, 2, 4, 5, 6, 7, 8, 9, 10, 11, 12, 13, 15, 16, 18, 19], [[], [], [], [0, 1, 2], [0, 1, 2, 3], [0, 1, 2, 3, 4], [0, 1, 2, 3, 4], [0, 1, 2, 3, 4, 6], [0, 1, 2, 3, 4, 5, 6, 7], [0, 1, 2, 3, 4, 5, 6, 7, 8], [0, 1, 2, 3, 4, 5, 6, 7, 8, 9], [0, 1, 2, 3, 4, 5, 6, 7, 8, 9], [0, 1, 2, 3, 4, 5, 6, 7, 8, 9, 11], [0, 1, 2, 3, 4, 5, 6, 7, 8, 9, 10, 11, 12], [0, 1, 2, 3, 4, 5, 6, 7, 8, 9, 10, 11, 12, 13], [0, 1, 2, 3, 4, 5, 6, 7, 8, 9], [0, 1, 2, 3, 4, 5, 6, 7, 8, 9, 15], [0, 1, 2, 3, 4, 5, 6, 7, 8, 9, 10, 11, 12, 13, 14, 15, 16], [0, 1, 2, 3, 4, 5, 6, 7, 8, 9, 10, 11, 12, 13, 14, 15, 16, 17], [0, 1, 2, 3, 4, 5, 6, 7, 8, 9, 10, 11, 12, 13, 14, 15, 16, 17, 18]]) [[0, 1, 2, 3, 4, 5, 6, 7, 8, 9, 10, 11, 12, 13, 15, 16, 14, 17, 18, 19]] (by kernel_rfl) (by kernel_rfl) (NoPanic.seq (NoPanic.block (NoPanic.seq (NoPanic.seq (NoPanic.block (NoPanic.block (NoPanic.seq (NoPanic.seq (NoPanic.block (NoPanic.seq (NoPanic.body))))))))))) ?_
         have hS135 := hS130.drew
         revert hS135
         generalize World.drew w129 = w134
         intro hS135
         refine ⟨⟨hS135.cell 0 rfl 0 rfl, hS135.cell 0 rfl 1 rfl, hS135.cell 0 rfl 2 rfl, hS135.cell 0 rfl 3 rfl, hS135.cell 0 rfl 4 rfl, hS135.cell 0 rfl 5 rfl, hS135.cell 0 rfl 6 rfl, hS135.cell 0 rfl 7 rfl, hS135.cell 0 rfl 8 rfl, hS135.cell 0 rfl 9 rfl, hS135.cell 0 rfl 10 rfl, hS135.cell 0 rfl 11 rfl, hS135.cell 0 rfl 12 rfl, hS135.cell 0 rfl 13 rfl, hS135.cell 0 rfl 14 rfl, hS135.cell 0 rfl 15 rfl, hS135.cell 0 rfl 16 rfl, hS135.cell 0 rfl 17 rfl, hS135.cell 0 rfl 18 rfl, hS135.cell 0 rfl 9 rfl, hS135.cell 0 rfl 10 rfl, hS135.cell 0 rfl 11 rfl, hS135.cell 0 rfl 12 rfl, hS135.cell 0 rfl 13 rfl, hS135.cell 0 rfl 14 rfl, hS135.cell 0 rfl 15 rfl, hS135.cell 0 rfl 16 rfl, trivial⟩, forallC ?_ (forallN)⟩
         refine segF 3 [.v (sv ((H23 x114.toNat 0).1) ((rdD y24.rows x114 z_Row).Cells) ((H23 x114.toNat 0).2)), .v (iv (((rdD y24.rows x114 z_Row).South).e0)), .v (iv (((rdD y24.rows x114 z_Row).South).e1)), .v (iv (((rdD y24.rows x114 z_Row).South).e2)), .v (iv (((rdD y24.rows x114 z_Row).South).e3)), .v (iv (((rdD y24.rows x114 z_Row).South).e4)), .v (iv (((rdD y24.rows x114 z_Row).South).e5)), .v (iv (((rdD y24.rows x114 z_Row).South).e6)), .v (iv (((rdD y24.rows x114 z_Row).South).e7)), .v (iv (((rdD y24.rows x114 z_Row).North).e0)), .v (iv (((rdD y24.rows x114 z_Row).North).e1)), .v (iv (((rdD y24.rows x114 z_Row).North).e2)), .v (iv (((rdD y24.rows x114 z_Row).North).e3)), .v (iv (((rdD y24.rows x114 z_Row).North).e4)), .v (iv (((rdD y24.rows x114 z_Row).North).e5)), .v (iv (((rdD y24.rows x114 z_Row).North).e6)), .v (iv (((rdD y24.rows x114 z_Row).North).e7)), .v (iv ((rdD y24.rows x114 z_Row).West)), .v (iv ((rdD y24.rows x114 z_Row).East))] [1, 2, 8, 10, 12, 13, 15, 49, 50, 51, 55, 56, 57] [(1, (iv p1)), (2, (iv p2)), (8, (pt g12)), (10, (pt g20)), (12, (sv A110 l112 c111)), (13, (iv x91)), (15, (pt g126)), (49, (sv A21 y24.rows c22)), (50, (iv (y24.rows.length : Int))), (51, (iv x114)), (55, (pt g20)), (56, (.agg #[(sv ((H23 x114.toNat 0).1) ((rdD y24.rows x114 z_Row).Cells) ((H23 x114.toNat 0).2)), (iv (((rdD y24.rows x114 z_Row).South).e0)), (iv (((rdD y24.rows x114 z_Row).South).e1)), (iv (((rdD y24.rows x114 z_Row).South).e2)), (iv (((rdD y24.rows x114 z_Row).South).e3)), (iv (((rdD y24.rows x114 z_Row).South).e4)), (iv (((rdD y24.rows x114 z_Row).South).e5)), (iv (((rdD y24.rows x114 z_Row).South).e6)), (iv (((rdD y24.rows x114 z_Row).South).e7)), (iv (((rdD y24.rows x114 z_Row).North).e0)), (iv (((rdD y24.rows x114 z_Row).North).e1)), (iv (((rdD y24.rows x114 z_Row).North).e2)), (iv (((rdD y24.rows x114 z_Row).North).e3)), (iv (((rdD y24.rows x114 z_Row).North).e4)), (iv (((rdD y24.rows x114 z_Row).North).e5)), (iv (((rdD y24.rows x114 z_Row).North).e6)), (iv (((rdD y24.rows x114 z_Row).North).e7)), (iv ((rdD y24.rows x114 z_Row).West)), (iv ((rdD y24.rows x114 z_Row).East))])), (57, (iv x91))] [] [0, 1, 2, 3, 4, 5, 6, 7, 8, 9, 10, 11, 12, 13, 14, 15, 16, 17, 18] [(1, ⟨g126, 0, none⟩, (sv ((H23 x114.toNat 0).1) ((rdD y24.rows x114 z_Row).Cells) ((H23 x114.toNat 0).2))), (1, ⟨g126, 1, none⟩, (iv (((rdD y24.rows x114 z_Row).South).e0))), (1, ⟨g126, 2, none⟩, (iv (((rdD y24.rows x114 z_Row).South).e1))), (1, ⟨g126, 3, none⟩, (iv (((rdD y24.rows x114 z_Row).South).e2))), (1, ⟨g126, 4, none⟩, (iv (((rdD y24.rows x114 z_Row).South).e3))), (1, ⟨g126, 5, none⟩, (iv (((rdD y24.rows x114 z_Row).South).e4))), (1, ⟨g126, 6, none⟩, (iv (((rdD y24.rows x114 z_Row).South).e5))), (1, ⟨g126, 7, none⟩, (iv (((rdD y24.rows x114 z_Row).South).e6))), (1, ⟨g126, 8, none⟩, (iv (((rdD y24.rows x114 z_Row).South).e7))), (1, ⟨g126, 9, none⟩, (iv (((rdD y24.rows x114 z_Row).North).e0))), (1, ⟨g126, 10, none⟩, (iv (((rdD y24.rows x114 z_Row).North).e1))), (1, ⟨g126, 11, none⟩, (iv (((rdD y24.rows x114 z_Row).North).e2))), (1, ⟨g126, 12, none⟩, (iv (((rdD y24.rows x114 z_Row).North).e3))), (1, ⟨g126, 13, none⟩, (iv (((rdD y24.rows x114 z_Row).North).e4))), (1, ⟨g126, 14, none⟩, (iv (((rdD y24.rows x114 z_Row).North).e5))), (1, ⟨g126, 15, none⟩, (iv (((rdD y24.rows x114 z_Row).North).e6))), (1, ⟨g126, 16, none⟩, (iv (((rdD y24.rows x114 z_Row).North).e7))), (1, ⟨g126, 17, none⟩, (iv ((rdD y24.rows x114 z_Row).West))), (1, ⟨g126, 18, none⟩, (iv ((rdD y24.rows x114 z_Row).East)))] (fun fb => by kernel_rfl) rfl trivial rfl ?_
         obtain ⟨t136, ht137, hx132⟩ := bind_some hx132
         refine WL.call (some 58) 60 #[(pt g20), (.agg #[(sv ((H23 x114.toNat 0).1) ((rdD y24.rows x114 z_Row).Cells) ((H23 x114.toNat 0).2)), (iv (((rdD y24.rows x114 z_Row).South).e0)), (iv (((rdD y24.rows x114 z_Row).South).e1)), (iv (((rdD y24.rows x114 z_Row).South).e2)), (iv (((rdD y24.rows x114 z_Row).South).e3)), (iv (((rdD y24.rows x114 z_Row).South).e4)), (iv (((rdD y24.rows x114 z_Row).South).e5)), (iv (((rdD y24.rows x114 z_Row).South).e6)), (iv (((rdD y24.rows x114 z_Row).South).e7)), (iv (((rdD y24.rows x114 z_Row).North).e0)), (iv (((rdD y24.rows x114 z_Row).North).e1)), (iv (((rdD y24.rows x114 z_Row).North).e2)), (iv (((rdD y24.rows x114 z_Row).North).e3)), (iv (((rdD y24.rows x114 z_Row).North).e4)), (iv (((rdD y24.rows x114 z_Row).North).e5)), (iv (((rdD y24.rows x114 z_Row).North).e6)), (iv (((rdD y24.rows x114 z_Row).North).e7)), (iv ((rdD y24.rows x114 z_Row).West)), (iv ((rdD y24.rows x114 z_Row).East))]), (iv x91)] (fun fb => by kernel_rfl) (fill_job_allows_calls _ (Job.mk y24.rows y24.width y24.height p3) (rdD y24.rows x114 z_Row) x91 g20 A21 c22 H23 A_p3_North c_p3_North A_p3_East c_p3_East A_p3_South c_p3_South A_p3_West c_p3_West ((H23 x114.toNat 0).1) ((H23 x114.toNat 0).2) t136 _ (hS135.ow 2) (hS135.ow 3).ofO (poolO.ro (hS135.ow 4) 0) (hS135.rd 1) (hS135.rd 2) (hS135.rd 3) (hS135.rd 4) (nestO.ro (poolO.ro (hS135.ow 4) 0) z_Row h125.1 h125.2) ht137) (fun v w138 hR139 => ?_)
         obtain ⟨rfl, hk_⟩ := hR139
         have hS140 := hS135.keepN hk_
         refine ⟨⟨hS140.cell 0 rfl 9 rfl, hS140.cell 0 rfl 10 rfl, hS140.cell 0 rfl 11 rfl, hS140.cell 0 rfl 12 rfl, hS140.cell 0 rfl 13 rfl, hS140.cell 0 rfl 14 rfl, hS140.cell 0 rfl 15 rfl, hS140.cell 0 rfl 16 rfl, trivial⟩, ?_⟩
         refine seg 5 [] [1, 2, 8, 10, 12, 13, 15, 49, 50, 51, 59] [(1, (iv p1)), (2, (iv p2)), (8, (pt g12)), (10, (pt g20)), (12, (sv A110 l112 c111)), (13, (iv x91)), (15, (pt g126)), (49, (sv A21 y24.rows c22)), (50, (iv (y24.rows.length : Int))), (51, (iv x114)), (59, (bv t136))] [] (fun fb => by kernel_rfl) rfl trivial ?_
         refine WL.cutV (T := Bool) 20 (fun t => [(74, (bv t)), (1, (iv p1)), (2, (iv p2)), (8, (pt g12)), (10, (pt g20)), (12, (sv A110 l112 c111)), (13, (iv x91)), (15, (pt g126)), (49, (sv A21 y24.rows c22)), (50, (iv (y24.rows.length : Int))), (51, (iv x114))]) (fun t => t136 = t) (fun K => ?_) ?_
         ·
          rcases Bool.eq_false_or_eq_true t136 with h141 | h141
          ·
           refine WL.setB 59 h141 rfl ?_
           refine seg 10 [] [1, 2, 8, 10, 12, 13, 15, 49, 50, 51, 59, 64] [(1, (iv p1)), (2, (iv p2)), (8, (pt g12)), (10, (pt g20)), (12, (sv A110 l112 c111)), (13, (iv x91)), (15, (pt g126)), (49, (sv A21 y24.rows c22)), (50, (iv (y24.rows.length : Int))), (51, (iv x114)), (59, (bv true)), (64, (bv (x91 == (w64 (p2 - 1)))))] [] (fun fb => by kernel_rfl) rfl trivial ?_
           refine WL.setB 64 h133 rfl ?_
           refine seg 20 [] [1, 2, 8, 10, 12, 13, 15, 49, 50, 51, 74] [(1, (iv p1)), (2, (iv p2)), (8, (pt g12)), (10, (pt g20)), (12, (sv A110 l112 c111)), (13, (iv x91)), (15, (pt g126)), (49, (sv A21 y24.rows c22)), (50, (iv (y24.rows.length : Int))), (51, (iv x114)), (74, (bv true))] [] (fun fb => by kernel_rfl) rfl trivial ?_
           exact WL.toV K true [74, 1, 2, 8, 10, 12, 13, 15, 49, 50, 51] rfl (by first | (rw [h141]; done) | (rw [h141]; rfl))
          refine WL.setB 59 h141 rfl ?_
          refine seg 20 [] [1, 2, 8, 10, 12, 13, 15, 49, 50, 51, 74] [(1, (iv p1)), (2, (iv p2)), (8, (pt g12)), (10, (pt g20)), (12, (sv A110 l112 c111)), (13, (iv x91)), (15, (pt g126)), (49, (sv A21 y24.rows c22)), (50, (iv (y24.rows.length : Int))), (51, (iv x114)), (74, (bv false))] [] (fun fb => by kernel_rfl) rfl trivial ?_
          exact WL.toV K false [74, 1, 2, 8, 10, 12, 13, 15, 49, 50, 51] rfl (by first | (rw [h141]; done) | (rw [h141]; rfl))
         rintro b142 rfl
         refine WL.done rfl ?_
         injection hx132 with hx132
         exact WX.to Kx131 t136 [1, 2, 8, 10, 12, 13, 15, 49, 50, 51, 74] rfl ⟨(hS140.subR [0, 1, 2, 3, 4]).sub [1, 2, 3, 4, 5, 6, 0] (by decide), hx132.symm⟩
        refine WC.regionD ([(1, ⟨g126, 0, none⟩, (sv ((H23 x114.toNat 0).1) ((rdD y24.rows x114 z_Row).Cells) ((H23 x114.toNat 0).2))), (1, ⟨g126, 1, none⟩, (iv (((rdD y24.rows x114 z_Row).South).e0))), (1, ⟨g126, 2, none⟩, (iv (((rdD y24.rows x114 z_Row).South).e1))), (1, ⟨g126, 3, none⟩, (iv (((rdD y24.rows x114 z_Row).South).e2))), (1, ⟨g126, 4, none⟩, (iv (((rdD y24.rows x114 z_Row).South).e3))), (1, ⟨g126, 5, none⟩, (iv (((rdD y24.rows x114 z_Row).South).e4))), (1, ⟨g126, 6, none⟩, (iv (((rdD y24.rows x114 z_Row).South).e5))), (1, ⟨g126, 7, none⟩, (iv (((rdD y24.rows x114 z_Row).South).e6))), (1, ⟨g126, 8, none⟩, (iv (((rdD y24.rows x114 z_Row).South).e7))), (1, ⟨g126, 9, none⟩, (iv (((rdD y24.rows x114 z_Row).North).e0))), (1, ⟨g126, 10, none⟩, (iv (((rdD y24.rows x114 z_Row).North).e1))), (1, ⟨g126, 11, none⟩, (iv (((rdD y24.rows x114 z_Row).North).e2))), (1, ⟨g126, 12, none⟩, (iv (((rdD y24.rows x114 z_Row).North).e3))), (1, ⟨g126, 13, none⟩, (iv (((rdD y24.rows x114 z_Row).North).e4))), (1, ⟨g126, 14, none⟩, (iv (((rdD y24.rows x114 z_Row).North).e5))), (1, ⟨g126, 15, none⟩, (iv (((rdD y24.rows x114 z_Row).North).e6))), (1, ⟨g126, 16, none⟩, (iv (((rdD y24.rows x114 z_Row).North).e7))), (1, ⟨g126, 17, none⟩, (iv ((rdD y24.rows x114 z_Row).West))), (1, ⟨g126, 18, none⟩, (iv ((rdD y24.rows x114 z_Row).East))), (16, ⟨g126, 9, none⟩, (iv (((rdD y24.rows x114 z_Row).North).e0))), (16, ⟨g126, 10, none⟩, (iv (((rdD y24.rows x114 z_Row).North).e1))), (16, ⟨g126, 11, none⟩, (iv (((rdD y24.rows x114 z_Row).North).e2))), (16, ⟨g126, 12, none⟩, (iv (((rdD y24.rows x114 z_Row).North).e3))), (16, ⟨g126, 13, none⟩, (iv (((rdD y24.rows x114 z_Row).North).e4))), (16, ⟨g126, 14, none⟩, (iv (((rdD y24.rows x114 z_Row).North).e5))), (16, ⟨g126, 15, none⟩, (iv (((rdD y24.rows x114 z_Row).North).e6))), (16, ⟨g126, 16, none⟩, (iv (((rdD y24.rows x114 z_Row).North).e7)))], [0, 1, 2, 4, 5, 6, 7, 8, 9, 10, 11, 12, 13, 15, 16, 18, 19], [[], [], [], [0, 1, 2], [0, 1, 2, 3], [0, 1, 2, 3, 4], [0, 1, 2, 3, 4], [0, 1, 2, 3, 4, 6], [0, 1, 2, 3, 4, 5, 6, 7], [0, 1, 2, 3, 4, 5, 6, 7, 8], [0, 1, 2, 3, 4, 5, 6, 7, 8, 9], [0, 1, 2, 3, 4, 5, 6, 7, 8, 9], [0, 1, 2, 3, 4, 5, 6, 7, 8, 9, 11], [0, 1, 2, 3, 4, 5, 6, 7, 8, 9, 10, 11, 12], [0, 1, 2, 3, 4, 5, 6, 7, 8, 9, 10, 11, 12, 13], [0, 1, 2, 3, 4, 5, 6, 7, 8, 9], [0, 1, 2, 3, 4, 5, 6, 7, 8, 9, 15], [0, 1, 2, 3, 4, 5, 6, 7, 8, 9, 10, 11, 12, 13, 14, 15, 16], [0, 1, 2, 3, 4, 5, 6, 7, 8, 9, 10, 11, 12, 13, 14, 15, 16, 17], [0, 1, 2, 3, 4, 5, 6, 7, 8, 9, 10, 11, 12, 13, 14, 15, 16, 17, 18]]) [[0, 1, 2, 3, 4, 5, 6, 7, 8, 9, 10, 11, 12, 13, 15, 16, 14, 17, 18, 19]] (by kernel_rfl) (by kernel_rfl) (NoPanic.seq (NoPanic.block (NoPanic.seq (NoPanic.seq (NoPanic.block (NoPanic.block (NoPanic.seq (NoPanic.seq (NoPanic.block (NoPanic.seq (NoPanic.body))))))))))) ?_
        have hS144 := hS130.drew
        revert hS144
        generalize World.drew w129 = w143
        intro hS144
        refine ⟨⟨hS144.cell 0 rfl 0 rfl, hS144.cell 0 rfl 1 rfl, hS144.cell 0 rfl 2 rfl, hS144.cell 0 rfl 3 rfl, hS144.cell 0 rfl 4 rfl, hS144.cell 0 rfl 5 rfl, hS144.cell 0 rfl 6 rfl, hS144.cell 0 rfl 7 rfl, hS144.cell 0 rfl 8 rfl, hS144.cell 0 rfl 9 rfl, hS144.cell 0 rfl 10 rfl, hS144.cell 0 rfl 11 rfl, hS144.cell 0 rfl 12 rfl, hS144.cell 0 rfl 13 rfl, hS144.cell 0 rfl 14 rfl, hS144.cell 0 rfl 15 rfl, hS144.cell 0 rfl 16 rfl, hS144.cell 0 rfl 17 rfl, hS144.cell 0 rfl 18 rfl, hS144.cell 0 rfl 9 rfl, hS144.cell 0 rfl 10 rfl, hS144.cell 0 rfl 11 rfl, hS144.cell 0 rfl 12 rfl, hS144.cell 0 rfl 13 rfl, hS144.cell 0 rfl 14 rfl, hS144.cell 0 rfl 15 rfl, hS144.cell 0 rfl 16 rfl, trivial⟩, forallC ?_ (forallN)⟩
        refine segF 3 [.v (sv ((H23 x114.toNat 0).1) ((rdD y24.rows x114 z_Row).Cells) ((H23 x114.toNat 0).2)), .v (iv (((rdD y24.rows x114 z_Row).South).e0)), .v (iv (((rdD y24.rows x114 z_Row).South).e1)), .v (iv (((rdD y24.rows x114 z_Row).South).e2)), .v (iv (((rdD y24.rows x114 z_Row).South).e3)), .v (iv (((rdD y24.rows x114 z_Row).South).e4)), .v (iv (((rdD y24.rows x114 z_Row).South).e5)), .v (iv (((rdD y24.rows x114 z_Row).South).e6)), .v (iv (((rdD y24.rows x114 z_Row).South).e7)), .v (iv (((rdD y24.rows x114 z_Row).North).e0)), .v (iv (((rdD y24.rows x114 z_Row).North).e1)), .v (iv (((rdD y24.rows x114 z_Row).North).e2)), .v (iv (((rdD y24.rows x114 z_Row).North).e3)), .v (iv (((rdD y24.rows x114 z_Row).North).e4)), .v (iv (((rdD y24.rows x114 z_Row).North).e5)), .v (iv (((rdD y24.rows x114 z_Row).North).e6)), .v (iv (((rdD y24.rows x114 z_Row).North).e7)), .v (iv ((rdD y24.rows x114 z_Row).West)), .v (iv ((rdD y24.rows x114 z_Row).East))] [1, 2, 8, 10, 12, 13, 15, 49, 50, 51, 55, 56, 57] [(1, (iv p1)), (2, (iv p2)), (8, (pt g12)), (10, (pt g20)), (12, (sv A110 l112 c111)), (13, (iv x91)), (15, (pt g126)), (49, (sv A21 y24.rows c22)), (50, (iv (y24.rows.length : Int))), (51, (iv x114)), (55, (pt g20)), (56, (.agg #[(sv ((H23 x114.toNat 0).1) ((rdD y24.rows x114 z_Row).Cells) ((H23 x114.toNat 0).2)), (iv (((rdD y24.rows x114 z_Row).South).e0)), (iv (((rdD y24.rows x114 z_Row).South).e1)), (iv (((rdD y24.rows x114 z_Row).South).e2)), (iv (((rdD y24.rows x114 z_Row).South).e3)), (iv (((rdD y24.rows x114 z_Row).South).e4)), (iv (((rdD y24.rows x114 z_Row).South).e5)), (iv (((rdD y24.rows x114 z_Row).South).e6)), (iv (((rdD y24.rows x114 z_Row).South).e7)), (iv (((rdD y24.rows x114 z_Row).North).e0)), (iv (((rdD y24.rows x114 z_Row).North).e1)), (iv (((rdD y24.rows x114 z_Row).North).e2)), (iv (((rdD y24.rows x114 z_Row).North).e3)), (iv (((rdD y24.rows x114 z_Row).North).e4)), (iv (((rdD y24.rows x114 z_Row).North).e5)), (iv (((rdD y24.rows x114 z_Row).North).e6)), (iv (((rdD y24.rows x114 z_Row).North).e7)), (iv ((rdD y24.rows x114 z_Row).West)), (iv ((rdD y24.rows x114 z_Row).East))])), (57, (iv x91))] [] [0, 1, 2, 3, 4, 5, 6, 7, 8, 9, 10, 11, 12, 13, 14, 15, 16, 17, 18] [(1, ⟨g126, 0, none⟩, (sv ((H23 x114.toNat 0).1) ((rdD y24.rows x114 z_Row).Cells) ((H23 x114.toNat 0).2))), (1, ⟨g126, 1, none⟩, (iv (((rdD y24.rows x114 z_Row).South).e0))), (1, ⟨g126, 2, none⟩, (iv (((rdD y24.rows x114 z_Row).South).e1))), (1, ⟨g126, 3, none⟩, (iv (((rdD y24.rows x114 z_Row).South).e2))), (1, ⟨g126, 4, none⟩, (iv (((rdD y24.rows x114 z_Row).South).e3))), (1, ⟨g126, 5, none⟩, (iv (((rdD y24.rows x114 z_Row).South).e4))), (1, ⟨g126, 6, none⟩, (iv (((rdD y24.rows x114 z_Row).South).e5))), (1, ⟨g126, 7, none⟩, (iv (((rdD y24.rows x114 z_Row).South).e6))), (1, ⟨g126, 8, none⟩, (iv (((rdD y24.rows x114 z_Row).South).e7))), (1, ⟨g126, 9, none⟩, (iv (((rdD y24.rows x114 z_Row).North).e0))), (1, ⟨g126, 10, none⟩, (iv (((rdD y24.rows x114 z_Row).North).e1))), (1, ⟨g126, 11, none⟩, (iv (((rdD y24.rows x114 z_Row).North).e2))), (1, ⟨g126, 12, none⟩, (iv (((rdD y24.rows x114 z_Row).North).e3))), (1, ⟨g126, 13, none⟩, (iv (((rdD y24.rows x114 z_Row).North).e4))), (1, ⟨g126, 14, none⟩, (iv (((rdD y24.rows x114 z_Row).North).e5))), (1, ⟨g126, 15, none⟩, (iv (((rdD y24.rows x114 z_Row).North).e6))), (1, ⟨g126, 16, none⟩, (iv (((rdD y24.rows x114 z_Row).North).e7))), (1, ⟨g126, 17, none⟩, (iv ((rdD y24.rows x114 z_Row).West))), (1, ⟨g126, 18, none⟩, (iv ((rdD y24.rows x114 z_Row).East)))] (fun fb => by kernel_rfl) rfl trivial rfl ?_
        obtain ⟨t145, ht146, hx132⟩ := bind_some hx132
        refine WL.call (some 58) 60 #[(pt g20), (.agg #[(sv ((H23 x114.toNat 0).1) ((rdD y24.rows x114 z_Row).Cells) ((H23 x114.toNat 0).2)), (iv (((rdD y24.rows x114 z_Row).South).e0)), (iv (((rdD y24.rows x114 z_Row).South).e1)), (iv (((rdD y24.rows x114 z_Row).South).e2)), (iv (((rdD y24.rows x114 z_Row).South).e3)), (iv (((rdD y24.rows x114 z_Row).South).e4)), (iv (((rdD y24.rows x114 z_Row).South).e5)), (iv (((rdD y24.rows x114 z_Row).South).e6)), (iv (((rdD y24.rows x114 z_Row).South).e7)), (iv (((rdD y24.rows x114 z_Row).North).e0)), (iv (((rdD y24.rows x114 z_Row).North).e1)), (iv (((rdD y24.rows x114 z_Row).North).e2)), (iv (((rdD y24.rows x114 z_Row).North).e3)), (iv (((rdD y24.rows x114 z_Row).North).e4)), (iv (((rdD y24.rows x114 z_Row).North).e5)), (iv (((rdD y24.rows x114 z_Row).North).e6)), (iv (((rdD y24.rows x114 z_Row).North).e7)), (iv ((rdD y24.rows x114 z_Row).West)), (iv ((rdD y24.rows x114 z_Row).East))]), (iv x91)] (fun fb => by kernel_rfl) (fill_job_allows_calls _ (Job.mk y24.rows y24.width y24.height p3) (rdD y24.rows x114 z_Row) x91 g20 A21 c22 H23 A_p3_North c_p3_North A_p3_East c_p3_East A_p3_South c_p3_South A_p3_West c_p3_West ((H23 x114.toNat 0).1) ((H23 x114.toNat 0).2) t145 _ (hS144.ow 2) (hS144.ow 3).ofO (poolO.ro (hS144.ow 4) 0) (hS144.rd 1) (hS144.rd 2) (hS144.rd 3) (hS144.rd 4) (nestO.ro (poolO.ro (hS144.ow 4) 0) z_Row h125.1 h125.2) ht146) (fun v w147 hR148 => ?_)
        obtain ⟨rfl, hk_⟩ := hR148
        have hS149 := hS144.keepN hk_
        refine ⟨⟨hS149.cell 0 rfl 9 rfl, hS149.cell 0 rfl 10 rfl, hS149.cell 0 rfl 11 rfl, hS149.cell 0 rfl 12 rfl, hS149.cell 0 rfl 13 rfl, hS149.cell 0 rfl 14 rfl, hS149.cell 0 rfl 15 rfl, hS149.cell 0 rfl 16 rfl, trivial⟩, ?_⟩
        refine seg 5 [] [1, 2, 8, 10, 12, 13, 15, 49, 50, 51, 59] [(1, (iv p1)), (2, (iv p2)), (8, (pt g12)), (10, (pt g20)), (12, (sv A110 l112 c111)), (13, (iv x91)), (15, (pt g126)), (49, (sv A21 y24.rows c22)), (50, (iv (y24.rows.length : Int))), (51, (iv x114)), (59, (bv t145))] [] (fun fb => by kernel_rfl) rfl trivial ?_
        obtain ⟨b150, hv151, hx132⟩ := bind_some hx132
        refine WL.cutV (T := Unit) 20 (fun t => [(74, (bv b150)), (1, (iv p1)), (2, (iv p2)), (8, (pt g12)), (10, (pt g20)), (12, (sv A110 l112 c111)), (13, (iv x91)), (15, (pt g126)), (49, (sv A21 y24.rows c22)), (50, (iv (y24.rows.length : Int))), (51, (iv x114))]) (fun t => True) (fun K => ?_) ?_
        ·
         rcases br_some hv151 with ⟨h152, hv151⟩ | ⟨h152, hv151⟩
         ·
          refine WL.setB 59 h152 rfl ?_
          refine seg 10 [] [1, 2, 8, 10, 12, 13, 15, 49, 50, 51, 59, 64] [(1, (iv p1)), (2, (iv p2)), (8, (pt g12)), (10, (pt g20)), (12, (sv A110 l112 c111)), (13, (iv x91)), (15, (pt g126)), (49, (sv A21 y24.rows c22)), (50, (iv (y24.rows.length : Int))), (51, (iv x114)), (59, (bv true)), (64, (bv (x91 == (w64 (p2 - 1)))))] [] (fun fb => by kernel_rfl) rfl trivial ?_
          refine WL.setB 64 h133 rfl ?_
          refine seg 13 [] [1, 2, 8, 10, 12, 13, 15, 49, 50, 51, 59, 64, 65, 67] [(1, (iv p1)), (2, (iv p2)), (8, (pt g12)), (10, (pt g20)), (12, (sv A110 l112 c111)), (13, (iv x91)), (15, (pt g126)), (49, (sv A21 y24.rows c22)), (50, (iv (y24.rows.length : Int))), (51, (iv x114)), (59, (bv true)), (64, (bv false)), (65, (sv A110 l112 c111)), (67, (iv (w64 (x91 + 1))))] [] (fun fb => by kernel_rfl) rfl trivial ?_
          obtain ⟨h153, hv151⟩ := as_some hv151
          refine segF 16 [.v (iv (((rdD y24.rows x114 z_Row).North).e0)), .v (iv (((rdD y24.rows x114 z_Row).North).e1)), .v (iv (((rdD y24.rows x114 z_Row).North).e2)), .v (iv (((rdD y24.rows x114 z_Row).North).e3)), .v (iv (((rdD y24.rows x114 z_Row).North).e4)), .v (iv (((rdD y24.rows x114 z_Row).North).e5)), .v (iv (((rdD y24.rows x114 z_Row).North).e6)), .v (iv (((rdD y24.rows x114 z_Row).North).e7))] [1, 2, 8, 10, 12, 13, 15, 49, 50, 51, 59, 64, 68, 71] [(1, (iv p1)), (2, (iv p2)), (8, (pt g12)), (10, (pt g20)), (12, (sv A110 l112 c111)), (13, (iv x91)), (15, (pt g126)), (49, (sv A21 y24.rows c22)), (50, (iv (y24.rows.length : Int))), (51, (iv x114)), (59, (bv true)), (64, (bv false)), (68, (.pointer (some ((adr A110).add ((w64 (x91 + 1)).toNat * 1))))), (71, (.agg #[(iv (((rdD y24.rows x114 z_Row).North).e0)), (iv (((rdD y24.rows x114 z_Row).North).e1)), (iv (((rdD y24.rows x114 z_Row).North).e2)), (iv (((rdD y24.rows x114 z_Row).North).e3)), (iv (((rdD y24.rows x114 z_Row).North).e4)), (iv (((rdD y24.rows x114 z_Row).North).e5)), (iv (((rdD y24.rows x114 z_Row).North).e6)), (iv (((rdD y24.rows x114 z_Row).North).e7))]))] [.idx A110 (w64 (x91 + 1)) l112.length] [19, 20, 21, 22, 23, 24, 25, 26] [(16, ⟨g126, 9, none⟩, (iv (((rdD y24.rows x114 z_Row).North).e0))), (16, ⟨g126, 10, none⟩, (iv (((rdD y24.rows x114 z_Row).North).e1))), (16, ⟨g126, 11, none⟩, (iv (((rdD y24.rows x114 z_Row).North).e2))), (16, ⟨g126, 12, none⟩, (iv (((rdD y24.rows x114 z_Row).North).e3))), (16, ⟨g126, 13, none⟩, (iv (((rdD y24.rows x114 z_Row).North).e4))), (16, ⟨g126, 14, none⟩, (iv (((rdD y24.rows x114 z_Row).North).e5))), (16, ⟨g126, 15, none⟩, (iv (((rdD y24.rows x114 z_Row).North).e6))), (16, ⟨g126, 16, none⟩, (iv (((rdD y24.rows x114 z_Row).North).e7)))] (fun fb => by kernel_rfl) rfl ⟨nrow_adr (rowO.rd (hS149.own 5).1) h153.1 h153.2, trivial⟩ rfl ?_
          obtain ⟨m154, hm155, hv151⟩ := bind_some hv151
          refine seg 17 [.v (.map (some (H113 (w64 (x91 + 1)).toNat)))] [1, 2, 8, 10, 12, 13, 15, 49, 50, 51, 59, 64, 69, 71] [(1, (iv p1)), (2, (iv p2)), (8, (pt g12)), (10, (pt g20)), (12, (sv A110 l112 c111)), (13, (iv x91)), (15, (pt g126)), (49, (sv A21 y24.rows c22)), (50, (iv (y24.rows.length : Int))), (51, (iv x114)), (59, (bv true)), (64, (bv false)), (69, (.map (some (H113 (w64 (x91 + 1)).toNat)))), (71, (.agg #[(iv (((rdD y24.rows x114 z_Row).North).e0)), (iv (((rdD y24.rows x114 z_Row).North).e1)), (iv (((rdD y24.rows x114 z_Row).North).e2)), (iv (((rdD y24.rows x114 z_Row).North).e3)), (iv (((rdD y24.rows x114 z_Row).North).e4)), (iv (((rdD y24.rows x114 z_Row).North).e5)), (iv (((rdD y24.rows x114 z_Row).North).e6)), (iv (((rdD y24.rows x114 z_Row).North).e7))]))] [.cell ((adr A110).add ((w64 (x91 + 1)).toNat * 1)) (.map (some (H113 (w64 (x91 + 1)).toNat)))] (fun fb => by kernel_rfl) rfl ⟨nrow_cell (rowO.rd (hS149.own 5).1) none h153.1 h153.2 0 (mapV_some hm155), trivial⟩ ?_
          refine WL.lookup (mapsO.at (hS149.own 6).1 h153.1 h153.2 hm155) ((rdD y24.rows x114 z_Row).North) (d := 72) (c := false) (t := 91) (kT := 83) (eT := 4) (z := false) (kE := (aggI ints_A8_Int)) (vE := vB) (l := m154) (bv (mget ((rdD y24.rows x114 z_Row).North) false m154)) (fun fb => by kernel_rfl) fill_First_key83 (by kernel_rfl) (fun _ => by kernel_rfl) rfl ?_
          refine ⟨trivial, ?_⟩
          refine seg 20 [] [1, 2, 8, 10, 12, 13, 15, 49, 50, 51, 74] [(1, (iv p1)), (2, (iv p2)), (8, (pt g12)), (10, (pt g20)), (12, (sv A110 l112 c111)), (13, (iv x91)), (15, (pt g126)), (49, (sv A21 y24.rows c22)), (50, (iv (y24.rows.length : Int))), (51, (iv x114)), (74, (bv (mget ((rdD y24.rows x114 z_Row).North) false m154)))] [] (fun fb => by kernel_rfl) rfl trivial ?_
          injection hv151 with hv151
          subst hv151
          exact WL.toV K () [74, 1, 2, 8, 10, 12, 13, 15, 49, 50, 51] rfl trivial
         refine WL.setB 59 h152 rfl ?_
         refine seg 20 [] [1, 2, 8, 10, 12, 13, 15, 49, 50, 51, 74] [(1, (iv p1)), (2, (iv p2)), (8, (pt g12)), (10, (pt g20)), (12, (sv A110 l112 c111)), (13, (iv x91)), (15, (pt g126)), (49, (sv A21 y24.rows c22)), (50, (iv (y24.rows.length : Int))), (51, (iv x114)), (74, (bv false))] [] (fun fb => by kernel_rfl) rfl trivial ?_
         injection hv151 with hv151
         subst hv151
         exact WL.toV K () [74, 1, 2, 8, 10, 12, 13, 15, 49, 50, 51] rfl trivial
        rintro _ _
        refine WL.done rfl ?_
        injection hx132 with hx132
        exact WX.to Kx131 b150 [1, 2, 8, 10, 12, 13, 15, 49, 50, 51, 74] rfl ⟨(hS149.subR [0, 1, 2, 3, 4]).sub [1, 2, 3, 4, 5, 6, 0] (by decide), hx132.symm⟩
       rintro y159 w156 ⟨hS157, hq158⟩
       subst hq158
       refine WX.next ?_
       obtain ⟨x163, hx164, hl123⟩ := bind_some hl123
       refine WC.cutN (T := (List (Option (List (A8_Int × Bool)))) × (Option Addr) × Nat × (Nat → Nat)) (fun t => [(1, (iv p1)), (2, (iv p2)), (8, (pt g12)), (10, (pt g20)), (12, (sv t.2.1 t.1 t.2.2.1)), (13, (iv x91)), (49, (sv A21 y24.rows c22)), (50, (iv (y24.rows.length : Int))), (51, (iv x114))]) (fun t w1 => St NoS w w1 [rowR enc_Tile A_p0 c_p0 p0, rowR encInt A_p3_North c_p3_North p3.North, rowR encInt A_p3_East c_p3_East p3.East, rowR encInt A_p3_South c_p3_South p3.South, rowR encInt A_p3_West c_p3_West p3.West] [blk g12 (.cells #[(iv 0), (iv 0), (.slice none 0 0)] 27 (0, 0)), blk g20 (.cells #[(sv A21 y24.rows c22), (iv y24.width), (iv y24.height), (sv A_p3_North p3.North c_p3_North), (sv A_p3_East p3.East c_p3_East), (sv A_p3_South p3.South c_p3_South), (sv A_p3_West p3.West c_p3_West)] 81 (0, 0)), rowO 85 encN_Row A21 c22 (tag H23 y24.rows), poolO [nestO subN_Row H23 y24.rows], rowO 91 (encMap A8_Int Bool) t.2.1 t.2.2.1 (tag t.2.2.2 t.1), mapsO (aggI ints_A8_Int) vB t.2.2.2 t.1] ∧ x163 = t.1) (fun Kx163 => ?_) ?_
       ·
        rcases br_some hx164 with ⟨h165, hx164⟩ | ⟨h165, hx164⟩
        ·refine WC.condT2 (fun fb => by kernel_rfl) h165 ?_
         obtain ⟨h168, hx164⟩ := as_some hx164
         obtain ⟨m169, hm170, hx164⟩ := bind_some hx164
         refine WC.regionD ([(3, ((adr A110).add ((x91).toNat * 1)), (.map (some (H113 x91.toNat)))), (5, ⟨g126, 1, none⟩, (iv (((rdD y24.rows x114 z_Row).South).e0))), (5, ⟨g126, 2, none⟩, (iv (((rdD y24.rows x114 z_Row).South).e1))), (5, ⟨g126, 3, none⟩, (iv (((rdD y24.rows x114 z_Row).South).e2))), (5, ⟨g126, 4, none⟩, (iv (((rdD y24.rows x114 z_Row).South).e3))), (5, ⟨g126, 5, none⟩, (iv (((rdD y24.rows x114 z_Row).South).e4))), (5, ⟨g126, 6, none⟩, (iv (((rdD y24.rows x114 z_Row).South).e5))), (5, ⟨g126, 7, none⟩, (iv (((rdD y24.rows x114 z_Row).South).e6))), (5, ⟨g126, 8, none⟩, (iv (((rdD y24.rows x114 z_Row).South).e7)))], [0, 1, 2, 3, 4, 5], [[], [], [0, 1], [0, 1, 2], [], [4], [0, 1, 2, 3, 4, 5]]) [[0, 1, 2, 3, 4, 5, 6]] (by kernel_rfl) (by kernel_rfl) (NoPanic.block (NoPanic.seq (NoPanic.seq (NoPanic.block (NoPanic.block (NoPanic.seq (NoPanic.seq (NoPanic.block (NoPanic.seq (NoPanic.body)))))))))) ?_
         have hS167 := hS157.drew
         revert hS167
         generalize World.drew w156 = w166
         intro hS167
         refine ⟨⟨nrow_cell (rowO.rd (hS167.own 4).1) none h168.1 h168.2 0 (mapV_some hm170), hS167.cell 6 rfl 1 rfl, hS167.cell 6 rfl 2 rfl, hS167.cell 6 rfl 3 rfl, hS167.cell 6 rfl 4 rfl, hS167.cell 6 rfl 5 rfl, hS167.cell 6 rfl 6 rfl, hS167.cell 6 rfl 7 rfl, hS167.cell 6 rfl 8 rfl, trivial⟩, forallC ?_ (forallN)⟩
         refine segF 6 [.v (.map (some (H113 x91.toNat))), .v (iv (((rdD y24.rows x114 z_Row).South).e0)), .v (iv (((rdD y24.rows x114 z_Row).South).e1)), .v (iv (((rdD y24.rows x114 z_Row).South).e2)), .v (iv (((rdD y24.rows x114 z_Row).South).e3)), .v (iv (((rdD y24.rows x114 z_Row).South).e4)), .v (iv (((rdD y24.rows x114 z_Row).South).e5)), .v (iv (((rdD y24.rows x114 z_Row).South).e6)), .v (iv (((rdD y24.rows x114 z_Row).South).e7))] [1, 2, 8, 10, 12, 13, 49, 50, 51, 78, 80] [(1, (iv p1)), (2, (iv p2)), (8, (pt g12)), (10, (pt g20)), (12, (sv A110 l112 c111)), (13, (iv x91)), (49, (sv A21 y24.rows c22)), (50, (iv (y24.rows.length : Int))), (51, (iv x114)), (78, (.map (some (H113 x91.toNat)))), (80, (.agg #[(iv (((rdD y24.rows x114 z_Row).South).e0)), (iv (((rdD y24.rows x114 z_Row).South).e1)), (iv (((rdD y24.rows x114 z_Row).South).e2)), (iv (((rdD y24.rows x114 z_Row).South).e3)), (iv (((rdD y24.rows x114 z_Row).South).e4)), (iv (((rdD y24.rows x114 z_Row).South).e5)), (iv (((rdD y24.rows x114 z_Row).South).e6)), (iv (((rdD y24.rows x114 z_Row).South).e7))]))] [.idx A110 x91 l112.length] [0, 1, 2, 3, 4, 5, 6, 7, 8] [(3, ((adr A110).add ((x91).toNat * 1)), (.map (some (H113 x91.toNat)))), (5, ⟨g126, 1, none⟩, (iv (((rdD y24.rows x114 z_Row).South).e0))), (5, ⟨g126, 2, none⟩, (iv (((rdD y24.rows x114 z_Row).South).e1))), (5, ⟨g126, 3, none⟩, (iv (((rdD y24.rows x114 z_Row).South).e2))), (5, ⟨g126, 4, none⟩, (iv (((rdD y24.rows x114 z_Row).South).e3))), (5, ⟨g126, 5, none⟩, (iv (((rdD y24.rows x114 z_Row).South).e4))), (5, ⟨g126, 6, none⟩, (iv (((rdD y24.rows x114 z_Row).South).e5))), (5, ⟨g126, 7, none⟩, (iv (((rdD y24.rows x114 z_Row).South).e6))), (5, ⟨g126, 8, none⟩, (iv (((rdD y24.rows x114 z_Row).South).e7)))] (fun fb => by kernel_rfl) rfl ⟨nrow_adr (rowO.rd (hS167.own 4).1) h168.1 h168.2, trivial⟩ rfl ?_
         refine WL.mapputM hS167 5 (t := 91) (kT := 83) (eT := 4) (kE := (aggI ints_A8_Int)) (vE := vB) rfl h168.1 h168.2 hm170 ((rdD y24.rows x114 z_Row).South) true (fun fb => by kernel_rfl) fill_First_key83 (by kernel_rfl) [0, 1, 2, 3, 4, 6] (by decide) (by decide) (fun w171 hS172 => ?_)
         have hS173 : St NoS w w171 [rowR enc_Tile A_p0 c_p0 p0, rowR encInt A_p3_North c_p3_North p3.North, rowR encInt A_p3_East c_p3_East p3.East, rowR encInt A_p3_South c_p3_South p3.South, rowR encInt A_p3_West c_p3_West p3.West] [rowO 91 (encMap A8_Int Bool) A110 c111 (tag H113 (l112.set x91.toNat (some (mput ((rdD y24.rows x114 z_Row).South) true m169)))), mapsO (aggI ints_A8_Int) vB H113 (l112.set x91.toNat (some (mput ((rdD y24.rows x114 z_Row).South) true m169))), blk g12 (.cells #[(iv 0), (iv 0), (.slice none 0 0)] 27 (0, 0)), blk g20 (.cells #[(sv A21 y24.rows c22), (iv y24.width), (iv y24.height), (sv A_p3_North p3.North c_p3_North), (sv A_p3_East p3.East c_p3_East), (sv A_p3_South p3.South c_p3_South), (sv A_p3_West p3.West c_p3_West)] 81 (0, 0)), rowO 85 encN_Row A21 c22 (tag H23 y24.rows), poolO [nestO subN_Row H23 y24.rows], blk g126 (.cells #[(sv ((H23 x114.toNat 0).1) ((rdD y24.rows x114 z_Row).Cells) ((H23 x114.toNat 0).2)), (iv (((rdD y24.rows x114 z_Row).South).e0)), (iv (((rdD y24.rows x114 z_Row).South).e1)), (iv (((rdD y24.rows x114 z_Row).South).e2)), (iv (((rdD y24.rows x114 z_Row).South).e3)), (iv (((rdD y24.rows x114 z_Row).South).e4)), (iv (((rdD y24.rows x114 z_Row).South).e5)), (iv (((rdD y24.rows x114 z_Row).South).e6)), (iv (((rdD y24.rows x114 z_Row).South).e7)), (iv (((rdD y24.rows x114 z_Row).North).e0)), (iv (((rdD y24.rows x114 z_Row).North).e1)), (iv (((rdD y24.rows x114 z_Row).North).e2)), (iv (((rdD y24.rows x114 z_Row).North).e3)), (iv (((rdD y24.rows x114 z_Row).North).e4)), (iv (((rdD y24.rows x114 z_Row).North).e5)), (iv (((rdD y24.rows x114 z_Row).North).e6)), (iv (((rdD y24.rows x114 z_Row).North).e7)), (iv ((rdD y24.rows x114 z_Row).West)), (iv ((rdD y24.rows x114 z_Row).East))] 85 (0, 0))] := hS172.mapsRow 5 rfl (by have h_ := rdD_at (d := none) h168.1 h168.2; rwa [hm170] at h_) (mput ((rdD y24.rows x114 z_Row).South) true m169) [0, 1, 2, 3, 4, 6] (by decide) (by decide)
         refine ⟨trivial, ?_⟩
         refine WL.reE [1, 2, 8, 10, 12, 13, 49, 50, 51] [(1, (iv p1)), (2, (iv p2)), (8, (pt g12)), (10, (pt g20)), (12, (.slice A110 l112.length c111)), (13, (iv x91)), (49, (.slice A21 y24.rows.length c22)), (50, (iv (y24.rows.length : Int))), (51, (iv x114))] [(1, (iv p1)), (2, (iv p2)), (8, (pt g12)), (10, (pt g20)), (12, (.slice A110 (l112.set x91.toNat (some (mput ((rdD y24.rows x114 z_Row).South) true m169))).length c111)), (13, (iv x91)), (49, (.slice A21 y24.rows.length c22)), (50, (iv (y24.rows.length : Int))), (51, (iv x114))] rfl (by simp only [List.length_set]) ?_
         refine WL.done rfl ?_
         injection hx164 with hx164
         exact WX.to Kx163 (l112.set x91.toNat (some (mput ((rdD y24.rows x114 z_Row).South) true m169)), A110, c111, H113) [1, 2, 8, 10, 12, 13, 49, 50, 51] rfl ⟨(hS173.subR [0, 1, 2, 3, 4]).sub [2, 3, 4, 5, 0, 1] (by decide), hx164.symm⟩
        refine WC.condF2 (fun fb => by kernel_rfl) h165 ?_
        refine WC.skip ?_
        injection hx164 with hx164
        exact WX.to Kx163 (l112, A110, c111, H113) [1, 2, 8, 10, 12, 13, 49, 50, 51] rfl ⟨(hS157.subR [0, 1, 2, 3, 4]).sub [0, 1, 2, 3, 4, 5] (by decide), hx164.symm⟩
       rintro ⟨y177, A160, c161, H162⟩ w174 ⟨hS175, hq176⟩
       subst hq176
       refine WX.blockN (WX.next ?_)
       refine WC.region ?_
       refine seg 2 [] [1, 2, 8, 10, 12, 13, 49, 50, 51] [(1, (iv p1)), (2, (iv p2)), (8, (pt g12)), (10, (pt g20)), (12, (sv A160 x163 c161)), (13, (iv x91)), (49, (sv A21 y24.rows c22)), (50, (iv (y24.rows.length : Int))), (51, (iv (w64 (x114 + 1))))] [] (fun fb => by kernel_rfl) rfl trivial ?_
       refine WL.done rfl ?_
       exact WX.again k120 (Nat.lt_succ_self _) ((x163, w64 (x114 + 1)), A160, c161, H162) [1, 2, 8, 10, 12, 13, 49, 50, 51] rfl ⟨(hS175.subR [0, 1, 2, 3, 4]).sub [0, 1, 2, 3, 4, 5] (by decide), hl123⟩
      refine WC.condF2 (fun fb => by kernel_rfl) h124 ?_
      refine WC.exit ?_
      injection hl123 with hl123
      exact WX.thenX (WX.thenX (WX.blockHere (WX.to Kx118 (l112, A110, c111, H113) [1, 2, 8, 10, 12, 13] rfl ⟨(hS122.subR [0, 1, 2, 3, 4]).sub [0, 1, 2, 3, 4, 5] (by decide), hl123.symm⟩)))
    rintro ⟨y181, A115, c116, H117⟩ w178 ⟨hS179, hq180⟩
    subst hq180
    refine WX.blockN (WX.next ?_)
    refine WC.region ?_
    refine seg 3 [] [1, 2, 8, 10, 12, 13] [(1, (iv p1)), (2, (iv p2)), (8, (pt g12)), (10, (pt g20)), (12, (sv A115 x118 c116)), (13, (iv (w64 (x91 - 1))))] [] (fun fb => by kernel_rfl) rfl trivial ?_
    refine WL.done rfl ?_
    exact WX.again k97 (Nat.lt_succ_self _) ((x118, w64 (x91 - 1)), A115, c116, H117) [1, 2, 8, 10, 12, 13] rfl ⟨(hS179.subR [0, 1, 2, 3, 4]).sub [0, 1, 2, 3, 4, 5] (by decide), hl100⟩
   refine WC.condF2 (fun fb => by kernel_rfl) h101 ?_
   refine WC.exit ?_
   injection hl100 with hl100
   exact WX.thenX (WX.thenX (WX.blockHere (WX.to Kx95 (l89, A87, c88, H90) [1, 2, 8, 10, 12] rfl ⟨(hS99.subR [0, 1, 2, 3, 4]).sub [0, 1, 2, 3, 4, 5] (by decide), hl100.symm⟩)))
 rintro ⟨y185, A92, c93, H94⟩ w182 ⟨hS183, hq184⟩
 subst hq184
 refine WX.next ?_
 refine WC.seq ?_
 refine WC.region ?_
 refine seg 3 [] [2, 8, 10, 12, 84] [(2, (iv p2)), (8, (pt g12)), (10, (pt g20)), (12, (sv A92 x95 c93)), (84, (.agg #[(iv p1), (iv p2), (.slice none 0 0)]))] [] (fun fb => by kernel_rfl) rfl trivial ?_
 refine WL.new hS183 16 [] (fun g => (pt g)) (.cells #[(iv 0), (iv 0), (.slice none 0 0)] 27 (0, 0)) [] (fun fb g => by kernel_rfl) trivial (fun g186 w187 hS188 => ?_)
 refine ⟨trivial, ?_⟩
 refine WL.store hS188 0 rfl [(0, (iv p1)), (1, (iv p2)), (2, (.slice none 0 0))] #[(iv p1), (iv p2), (.slice none 0 0)] (fun fb => by kernel_rfl) (by kernel_rfl) rfl [1, 2, 3, 4, 5, 6] (by decide) (by decide) (fun w189 hS190 => ?_)
 refine ⟨trivial, ?_⟩
 refine WL.done rfl ?_
 refine WX.next ?_
 refine WC.seq ?_
 refine WC.region ?_
 refine seg 1 [] [2, 8, 10, 12, 16, 17] [(2, (iv p2)), (8, (pt g12)), (10, (pt g20)), (12, (sv A92 x95 c93)), (16, (pt g186)), (17, (.pointer none))] [] (fun fb => by kernel_rfl) rfl trivial ?_
 refine WL.done rfl ?_
 refine WX.next ?_
 refine WC.seq ?_
 refine WC.seq ?_
 refine WC.region ?_
 refine seg 2 [] [2, 8, 10, 12, 16, 17, 85, 86] [(2, (iv p2)), (8, (pt g12)), (10, (pt g20)), (12, (sv A92 x95 c93)), (16, (pt g186)), (17, (.pointer none)), (85, (iv p2)), (86, (iv 0))] [] (fun fb => by kernel_rfl) rfl trivial ?_
 refine WL.done rfl ?_
 refine WX.next ?_
 have hS191 := hS190.nilrow 3 encInt
 obtain ⟨x199, hx200, hf⟩ := bind_some hf
 refine WC.cutN (T := (List Int) × (Option Addr) × Nat) (fun t => [(8, (pt g12)), (16, (pt g186))]) (fun t w1 => St NoS w w1 [rowR enc_Tile A_p0 c_p0 p0, rowR encInt A_p3_North c_p3_North p3.North, rowR encInt A_p3_East c_p3_East p3.East, rowR encInt A_p3_South c_p3_South p3.South, rowR encInt A_p3_West c_p3_West p3.West] [blk g12 (.cells #[(iv 0), (iv 0), (.slice none 0 0)] 27 (0, 0)), blk g186 (.cells #[(iv p1), (iv p2), (sv t.2.1 t.1 t.2.2)] 27 (0, 0)), rowO 3 encInt t.2.1 t.2.2 t.1] ∧ x199 = .inr t.1) (fun Kx199 => ?_) ?_
 ·
  refine WC.block ?_
  refine WC.loop (T := ((List Int) × (Option Int) × Int) × (Option Addr) × Nat) (fun t => [(2, (iv p2)), (8, (pt g12)), (10, (pt g20)), (12, (sv A92 x95 c93)), (16, (pt g186)), (17, (.pointer (oepV A21 19 t.1.2.1))), (85, (iv p2)), (86, (iv t.1.2.2))]) (fun n t w1 => St NoS w w1 [rowR enc_Tile A_p0 c_p0 p0, rowR encInt A_p3_North c_p3_North p3.North, rowR encInt A_p3_East c_p3_East p3.East, rowR encInt A_p3_South c_p3_South p3.South, rowR encInt A_p3_West c_p3_West p3.West] [blk g12 (.cells #[(iv 0), (iv 0), (.slice none 0 0)] 27 (0, 0)), blk g20 (.cells #[(sv A21 y24.rows c22), (iv y24.width), (iv y24.height), (sv A_p3_North p3.North c_p3_North), (sv A_p3_East p3.East c_p3_East), (sv A_p3_South p3.South c_p3_South), (sv A_p3_West p3.West c_p3_West)] 81 (0, 0)), rowO 85 encN_Row A21 c22 (tag H23 y24.rows), poolO [nestO subN_Row H23 y24.rows], rowO 91 (encMap A8_Int Bool) A92 c93 (tag H94 x95), mapsO (aggI ints_A8_Int) vB H94 x95, blk g186 (.cells #[(iv p1), (iv p2), (sv t.2.1 t.1.1 t.2.2)] 27 (0, 0)), rowO 3 encInt t.2.1 t.2.2 t.1.1] ∧ fill_First.l4 n t.1.1 t.1.2.1 t.1.2.2 p2 p3 y24 x95 = some x199) k ((([] : List Int), none, 0), none, 0) [2, 8, 10, 12, 16, 17, 85, 86] rfl ⟨(hS191.subR [0, 1, 2, 3, 4]).sub [2, 3, 4, 5, 6, 7, 1, 0] (by decide), hx200⟩ ?_
  rintro k201 ⟨⟨l194, o195, x196⟩, A192, c193⟩ w202 ⟨hS203, hl204⟩
  cases k201 with
  | zero => rw [fill_First.l4] at hl204; cases hl204
  | succ k201 =>
   rw [fill_First.l4] at hl204
   refine WC.seq ?_
   refine WC.region ?_
   refine seg 1 [] [2, 8, 10, 12, 16, 17, 85, 86, 87] [(2, (iv p2)), (8, (pt g12)), (10, (pt g20)), (12, (sv A92 x95 c93)), (16, (pt g186)), (17, (.pointer (oepV A21 19 o195))), (85, (iv p2)), (86, (iv x196)), (87, (bv (decide (x196 < p2))))] [] (fun fb => by kernel_rfl) rfl trivial ?_
   refine WL.done rfl ?_
   refine WX.next ?_
   refine WC.seq ?_
   rcases br_some hl204 with ⟨h205, hl204⟩ | ⟨h205, hl204⟩
   ·refine WC.condT2 (fun fb => by kernel_rfl) h205 ?_
    refine WC.skip ?_
    refine WX.next ?_
    refine WC.seq ?_
    refine WC.block ?_
    refine WC.seq ?_
    refine WC.region ?_
    refine seg 2 [] [2, 8, 10, 12, 16, 17, 18, 85, 86] [(2, (iv p2)), (8, (pt g12)), (10, (pt g20)), (12, (sv A92 x95 c93)), (16, (pt g186)), (17, (.pointer (oepV A21 19 o195))), (18, (iv x196)), (85, (iv p2)), (86, (iv x196))] [] (fun fb => by kernel_rfl) rfl trivial ?_
    refine WL.done rfl ?_
    refine WX.next ?_
    refine WC.seq ?_
    refine WC.region ?_
    refine seg 1 [] [2, 8, 10, 12, 16, 17, 18, 19, 85, 86] [(2, (iv p2)), (8, (pt g12)), (10, (pt g20)), (12, (sv A92 x95 c93)), (16, (pt g186)), (17, (.pointer (oepV A21 19 o195))), (18, (iv x196)), (19, (iv (-1))), (85, (iv p2)), (86, (iv x196))] [] (fun fb => by kernel_rfl) rfl trivial ?_
    refine WL.done rfl ?_
    refine WX.next ?_
    refine WC.seq ?_
    refine WC.seq ?_
    refine WC.region ?_
    refine seg 6 [.v (sv A21 y24.rows c22)] [2, 8, 10, 12, 16, 17, 18, 19, 85, 86, 92, 93, 94] [(2, (iv p2)), (8, (pt g12)), (10, (pt g20)), (12, (sv A92 x95 c93)), (16, (pt g186)), (17, (.pointer (oepV A21 19 o195))), (18, (iv x196)), (19, (iv (-1))), (85, (iv p2)), (86, (iv x196)), (92, (sv A21 y24.rows c22)), (93, (iv (y24.rows.length : Int))), (94, (iv 0))] [.cell ⟨g20, 0, none⟩ (sv A21 y24.rows c22)] (fun fb => by kernel_rfl) rfl ⟨hS203.cell 1 rfl 0 rfl, trivial⟩ ?_
    refine WL.done rfl ?_
    refine WX.next ?_
    obtain ⟨x208, hx209, hl204⟩ := bind_some hl204
    refine WC.cutN (T := Int) (fun t => [(2, (iv p2)), (8, (pt g12)), (10, (pt g20)), (12, (sv A92 x95 c93)), (16, (pt g186)), (19, (iv t)), (85, (iv p2)), (86, (iv x196))]) (fun t w1 => St NoS w w1 [rowR enc_Tile A_p0 c_p0 p0, rowR encInt A_p3_North c_p3_North p3.North, rowR encInt A_p3_East c_p3_East p3.East, rowR encInt A_p3_South c_p3_South p3.South, rowR encInt A_p3_West c_p3_West p3.West] [blk g12 (.cells #[(iv 0), (iv 0), (.slice none 0 0)] 27 (0, 0)), blk g20 (.cells #[(sv A21 y24.rows c22), (iv y24.width), (iv y24.height), (sv A_p3_North p3.North c_p3_North), (sv A_p3_East p3.East c_p3_East), (sv A_p3_South p3.South c_p3_South), (sv A_p3_West p3.West c_p3_West)] 81 (0, 0)), rowO 85 encN_Row A21 c22 (tag H23 y24.rows), poolO [nestO subN_Row H23 y24.rows], rowO 91 (encMap A8_Int Bool) A92 c93 (tag H94 x95), mapsO (aggI ints_A8_Int) vB H94 x95, blk g186 (.cells #[(iv p1), (iv p2), (sv A192 l194 c193)] 27 (0, 0)), rowO 3 encInt A192 c193 l194] ∧ x208 = t) (fun Kx208 => ?_) ?_
    ·
     refine WC.block ?_
     refine WC.loop (T := (Option Int) × Int) (fun t => [(2, (iv p2)), (8, (pt g12)), (10, (pt g20)), (12, (sv A92 x95 c93)), (16, (pt g186)), (17, (.pointer (oepV A21 19 t.1))), (18, (iv x196)), (19, (iv (-1))), (85, (iv p2)), (86, (iv x196)), (92, (sv A21 y24.rows c22)), (93, (iv (y24.rows.length : Int))), (94, (iv t.2))]) (fun n t w1 => St NoS w w1 [rowR enc_Tile A_p0 c_p0 p0, rowR encInt A_p3_North c_p3_North p3.North, rowR encInt A_p3_East c_p3_East p3.East, rowR encInt A_p3_South c_p3_South p3.South, rowR encInt A_p3_West c_p3_West p3.West] [blk g12 (.cells #[(iv 0), (iv 0), (.slice none 0 0)] 27 (0, 0)), blk g20 (.cells #[(sv A21 y24.rows c22), (iv y24.width), (iv y24.height), (sv A_p3_North p3.North c_p3_North), (sv A_p3_East p3.East c_p3_East), (sv A_p3_South p3.South c_p3_South), (sv A_p3_West p3.West c_p3_West)] 81 (0, 0)), rowO 85 encN_Row A21 c22 (tag H23 y24.rows), poolO [nestO subN_Row H23 y24.rows], rowO 91 (encMap A8_Int Bool) A92 c93 (tag H94 x95), mapsO (aggI ints_A8_Int) vB H94 x95, blk g186 (.cells #[(iv p1), (iv p2), (sv A192 l194 c193)] 27 (0, 0)), rowO 3 encInt A192 c193 l194] ∧ fill_First.l5 n t.1 t.2 p2 p3 y24 x95 x196 = some x208) k201 (o195, 0) [2, 8, 10, 12, 16, 17, 18, 19, 85, 86, 92, 93, 94] rfl ⟨(hS203.subR [0, 1, 2, 3, 4]).sub [0, 1, 2, 3, 4, 5, 6, 7] (by decide), hx209⟩ ?_
     rintro k210 ⟨o206, x207⟩ w211 ⟨hS212, hl213⟩
     cases k210 with
     | zero => rw [fill_First.l5] at hl213; cases hl213
     | succ k210 =>
      rw [fill_First.l5] at hl213
      refine WC.seq ?_
      refine WC.region ?_
      refine seg 1 [] [2, 8, 10, 12, 16, 17, 18, 19, 85, 86, 92, 93, 94, 95] [(2, (iv p2)), (8, (pt g12)), (10, (pt g20)), (12, (sv A92 x95 c93)), (16, (pt g186)), (17, (.pointer (oepV A21 19 o206))), (18, (iv x196)), (19, (iv (-1))), (85, (iv p2)), (86, (iv x196)), (92, (sv A21 y24.rows c22)), (93, (iv (y24.rows.length : Int))), (94, (iv x207)), (95, (bv (decide (x207 < (y24.rows.length : Int)))))] [] (fun fb => by kernel_rfl) rfl trivial ?_
      refine WL.done rfl ?_
      refine WX.next ?_
      refine WC.seq ?_
      rcases br_some hl213 with ⟨h214, hl213⟩ | ⟨h214, hl213⟩
      ·refine WC.condT2 (fun fb => by kernel_rfl) h214 ?_
       refine WC.skip ?_
       refine WX.next ?_
       refine WC.seq ?_
       refine WC.block ?_
       refine WC.seq ?_
       refine WC.region ?_
       refine seg 1 [] [2, 8, 10, 12, 16, 17, 18, 19, 85, 86, 92, 93, 94, 96] [(2, (iv p2)), (8, (pt g12)), (10, (pt g20)), (12, (sv A92 x95 c93)), (16, (pt g186)), (17, (.pointer (oepV A21 19 o206))), (18, (iv x196)), (19, (iv (-1))), (85, (iv p2)), (86, (iv x196)), (92, (sv A21 y24.rows c22)), (93, (iv (y24.rows.length : Int))), (94, (iv x207)), (96, (iv x207))] [] (fun fb => by kernel_rfl) rfl trivial ?_
       obtain ⟨h215, hl213⟩ := as_some hl213
       refine seg 3 [.v (sv ((H23 x207.toNat 0).1) ((rdD y24.rows x207 z_Row).Cells) ((H23 x207.toNat 0).2)), .v (iv (((rdD y24.rows x207 z_Row).South).e0)), .v (iv (((rdD y24.rows x207 z_Row).South).e1)), .v (iv (((rdD y24.rows x207 z_Row).South).e2)), .v (iv (((rdD y24.rows x207 z_Row).South).e3)), .v (iv (((rdD y24.rows x207 z_Row).South).e4)), .v (iv (((rdD y24.rows x207 z_Row).South).e5)), .v (iv (((rdD y24.rows x207 z_Row).South).e6)), .v (iv (((rdD y24.rows x207 z_Row).South).e7)), .v (iv (((rdD y24.rows x207 z_Row).North).e0)), .v (iv (((rdD y24.rows x207 z_Row).North).e1)), .v (iv (((rdD y24.rows x207 z_Row).North).e2)), .v (iv (((rdD y24.rows x207 z_Row).North).e3)), .v (iv (((rdD y24.rows x207 z_Row).North).e4)), .v (iv (((rdD y24.rows x207 z_Row).North).e5)), .v (iv (((rdD y24.rows x207 z_Row).North).e6)), .v (iv (((rdD y24.rows x207 z_Row).North).e7)), .v (iv ((rdD y24.rows x207 z_Row).West)), .v (iv ((rdD y24.rows x207 z_Row).East))] [2, 8, 10, 12, 16, 17, 18, 19, 85, 86, 92, 93, 94, 96, 98] [(2, (iv p2)), (8, (pt g12)), (10, (pt g20)), (12, (sv A92 x95 c93)), (16, (pt g186)), (17, (.pointer (oepV A21 19 o206))), (18, (iv x196)), (19, (iv (-1))), (85, (iv p2)), (86, (iv x196)), (92, (sv A21 y24.rows c22)), (93, (iv (y24.rows.length : Int))), (94, (iv x207)), (96, (iv x207)), (98, (.agg #[(sv ((H23 x207.toNat 0).1) ((rdD y24.rows x207 z_Row).Cells) ((H23 x207.toNat 0).2)), (iv (((rdD y24.rows x207 z_Row).South).e0)), (iv (((rdD y24.rows x207 z_Row).South).e1)), (iv (((rdD y24.rows x207 z_Row).South).e2)), (iv (((rdD y24.rows x207 z_Row).South).e3)), (iv (((rdD y24.rows x207 z_Row).South).e4)), (iv (((rdD y24.rows x207 z_Row).South).e5)), (iv (((rdD y24.rows x207 z_Row).South).e6)), (iv (((rdD y24.rows x207 z_Row).South).e7)), (iv (((rdD y24.rows x207 z_Row).North).e0)), (iv (((rdD y24.rows x207 z_Row).North).e1)), (iv (((rdD y24.rows x207 z_Row).North).e2)), (iv (((rdD y24.rows x207 z_Row).North).e3)), (iv (((rdD y24.rows x207 z_Row).North).e4)), (iv (((rdD y24.rows x207 z_Row).North).e5)), (iv (((rdD y24.rows x207 z_Row).North).e6)), (iv (((rdD y24.rows x207 z_Row).North).e7)), (iv ((rdD y24.rows x207 z_Row).West)), (iv ((rdD y24.rows x207 z_Row).East))]))] [.idx A21 x207 y24.rows.length, .cell ((adr A21).add ((x207).toNat * 19)) (sv ((H23 x207.toNat 0).1) ((rdD y24.rows x207 z_Row).Cells) ((H23 x207.toNat 0).2)), .cell (((adr A21).add ((x207).toNat * 19)).add 1) (iv (((rdD y24.rows x207 z_Row).South).e0)), .cell (((adr A21).add ((x207).toNat * 19)).add 2) (iv (((rdD y24.rows x207 z_Row).South).e1)), .cell (((adr A21).add ((x207).toNat * 19)).add 3) (iv (((rdD y24.rows x207 z_Row).South).e2)), .cell (((adr A21).add ((x207).toNat * 19)).add 4) (iv (((rdD y24.rows x207 z_Row).South).e3)), .cell (((adr A21).add ((x207).toNat * 19)).add 5) (iv (((rdD y24.rows x207 z_Row).South).e4)), .cell (((adr A21).add ((x207).toNat * 19)).add 6) (iv (((rdD y24.rows x207 z_Row).South).e5)), .cell (((adr A21).add ((x207).toNat * 19)).add 7) (iv (((rdD y24.rows x207 z_Row).South).e6)), .cell (((adr A21).add ((x207).toNat * 19)).add 8) (iv (((rdD y24.rows x207 z_Row).South).e7)), .cell (((adr A21).add ((x207).toNat * 19)).add 9) (iv (((rdD y24.rows x207 z_Row).North).e0)), .cell (((adr A21).add ((x207).toNat * 19)).add 10) (iv (((rdD y24.rows x207 z_Row).North).e1)), .cell (((adr A21).add ((x207).toNat * 19)).add 11) (iv (((rdD y24.rows x207 z_Row).North).e2)), .cell (((adr A21).add ((x207).toNat * 19)).add 12) (iv (((rdD y24.rows x207 z_Row).North).e3)), .cell (((adr A21).add ((x207).toNat * 19)).add 13) (iv (((rdD y24.rows x207 z_Row).North).e4)), .cell (((adr A21).add ((x207).toNat * 19)).add 14) (iv (((rdD y24.rows x207 z_Row).North).e5)), .cell (((adr A21).add ((x207).toNat * 19)).add 15) (iv (((rdD y24.rows x207 z_Row).North).e6)), .cell (((adr A21).add ((x207).toNat * 19)).add 16) (iv (((rdD y24.rows x207 z_Row).North).e7)), .cell (((adr A21).add ((x207).toNat * 19)).add 17) (iv ((rdD y24.rows x207 z_Row).West)), .cell (((adr A21).add ((x207).toNat * 19)).add 18) (iv ((rdD y24.rows x207 z_Row).East))] (fun fb => by kernel_rfl) rfl ⟨nrow_adr (rowO.rd (hS212.own 2).1) h215.1 h215.2, nrow_cell (rowO.rd (hS212.own 2).1) z_Row h215.1 h215.2 0 rfl, nrow_cell (rowO.rd (hS212.own 2).1) z_Row h215.1 h215.2 1 rfl, nrow_cell (rowO.rd (hS212.own 2).1) z_Row h215.1 h215.2 2 rfl, nrow_cell (rowO.rd (hS212.own 2).1) z_Row h215.1 h215.2 3 rfl, nrow_cell (rowO.rd (hS212.own 2).1) z_Row h215.1 h215.2 4 rfl, nrow_cell (rowO.rd (hS212.own 2).1) z_Row h215.1 h215.2 5 rfl, nrow_cell (rowO.rd (hS212.own 2).1) z_Row h215.1 h215.2 6 rfl, nrow_cell (rowO.rd (hS212.own 2).1) z_Row h215.1 h215.2 7 rfl, nrow_cell (rowO.rd (hS212.own 2).1) z_Row h215.1 h215.2 8 rfl, nrow_cell (rowO.rd (hS212.own 2).1) z_Row h215.1 h215.2 9 rfl, nrow_cell (rowO.rd (hS212.own 2).1) z_Row h215.1 h215.2 10 rfl, nrow_cell (rowO.rd (hS212.own 2).1) z_Row h215.1 h215.2 11 rfl, nrow_cell (rowO.rd (hS212.own 2).1) z_Row h215.1 h215.2 12 rfl, nrow_cell (rowO.rd (hS212.own 2).1) z_Row h215.1 h215.2 13 rfl, nrow_cell (rowO.rd (hS212.own 2).1) z_Row h215.1 h215.2 14 rfl, nrow_cell (rowO.rd (hS212.own 2).1) z_Row h215.1 h215.2 15 rfl, nrow_cell (rowO.rd (hS212.own 2).1) z_Row h215.1 h215.2 16 rfl, nrow_cell (rowO.rd (hS212.own 2).1) z_Row h215.1 h215.2 17 rfl, nrow_cell (rowO.rd (hS212.own 2).1) z_Row h215.1 h215.2 18 rfl, trivial⟩ ?_
       refine WL.new hS212 21 [] (fun g => (pt g)) (.cells #[(.slice none 0 0), (iv 0), (iv 0), (iv 0), (iv 0), (iv 0), (iv 0), (iv 0), (iv 0), (iv 0), (iv 0), (iv 0), (iv 0), (iv 0), (iv 0), (iv 0), (iv 0), (iv 0), (iv 0)] 85 (0, 0)) [] (fun fb g => by kernel_rfl) trivial (fun g216 w217 hS218 => ?_)
       refine ⟨trivial, ?_⟩
       refine seg 5 [] [2, 8, 10, 12, 16, 17, 18, 19, 20, 21, 85, 86, 92, 93, 94, 98] [(2, (iv p2)), (8, (pt g12)), (10, (pt g20)), (12, (sv A92 x95 c93)), (16, (pt g186)), (17, (.pointer (oepV A21 19 o206))), (18, (iv x196)), (19, (iv (-1))), (20, (iv x207)), (21, (pt g216)), (85, (iv p2)), (86, (iv x196)), (92, (sv A21 y24.rows c22)), (93, (iv (y24.rows.length : Int))), (94, (iv x207)), (98, (.agg #[(sv ((H23 x207.toNat 0).1) ((rdD y24.rows x207 z_Row).Cells) ((H23 x207.toNat 0).2)), (iv (((rdD y24.rows x207 z_Row).South).e0)), (iv (((rdD y24.rows x207 z_Row).South).e1)), (iv (((rdD y24.rows x207 z_Row).South).e2)), (iv (((rdD y24.rows x207 z_Row).South).e3)), (iv (((rdD y24.rows x207 z_Row).South).e4)), (iv (((rdD y24.rows x207 z_Row).South).e5)), (iv (((rdD y24.rows x207 z_Row).South).e6)), (iv (((rdD y24.rows x207 z_Row).South).e7)), (iv (((rdD y24.rows x207 z_Row).North).e0)), (iv (((rdD y24.rows x207 z_Row).North).e1)), (iv (((rdD y24.rows x207 z_Row).North).e2)), (iv (((rdD y24.rows x207 z_Row).North).e3)), (iv (((rdD y24.rows x207 z_Row).North).e4)), (iv (((rdD y24.rows x207 z_Row).North).e5)), (iv (((rdD y24.rows x207 z_Row).North).e6)), (iv (((rdD y24.rows x207 z_Row).North).e7)), (iv ((rdD y24.rows x207 z_Row).West)), (iv ((rdD y24.rows x207 z_Row).East))]))] [] (fun fb => by kernel_rfl) rfl trivial ?_
       refine WL.store hS218 0 rfl [(0, (sv ((H23 x207.toNat 0).1) ((rdD y24.rows x207 z_Row).Cells) ((H23 x207.toNat 0).2))), (1, (iv (((rdD y24.rows x207 z_Row).South).e0))), (2, (iv (((rdD y24.rows x207 z_Row).South).e1))), (3, (iv (((rdD y24.rows x207 z_Row).South).e2))), (4, (iv (((rdD y24.rows x207 z_Row).South).e3))), (5, (iv (((rdD y24.rows x207 z_Row).South).e4))), (6, (iv (((rdD y24.rows x207 z_Row).South).e5))), (7, (iv (((rdD y24.rows x207 z_Row).South).e6))), (8, (iv (((rdD y24.rows x207 z_Row).South).e7))), (9, (iv (((rdD y24.rows x207 z_Row).North).e0))), (10, (iv (((rdD y24.rows x207 z_Row).North).e1))), (11, (iv (((rdD y24.rows x207 z_Row).North).e2))), (12, (iv (((rdD y24.rows x207 z_Row).North).e3))), (13, (iv (((rdD y24.rows x207 z_Row).North).e4))), (14, (iv (((rdD y24.rows x207 z_Row).North).e5))), (15, (iv (((rdD y24.rows x207 z_Row).North).e6))), (16, (iv (((rdD y24.rows x207 z_Row).North).e7))), (17, (iv ((rdD y24.rows x207 z_Row).West))), (18, (iv ((rdD y24.rows x207 z_Row).East)))] #[(sv ((H23 x207.toNat 0).1) ((rdD y24.rows x207 z_Row).Cells) ((H23 x207.toNat 0).2)), (iv (((rdD y24.rows x207 z_Row).South).e0)), (iv (((rdD y24.rows x207 z_Row).South).e1)), (iv (((rdD y24.rows x207 z_Row).South).e2)), (iv (((rdD y24.rows x207 z_Row).South).e3)), (iv (((rdD y24.rows x207 z_Row).South).e4)), (iv (((rdD y24.rows x207 z_Row).South).e5)), (iv (((rdD y24.rows x207 z_Row).South).e6)), (iv (((rdD y24.rows x207 z_Row).South).e7)), (iv (((rdD y24.rows x207 z_Row).North).e0)), (iv (((rdD y24.rows x207 z_Row).North).e1)), (iv (((rdD y24.rows x207 z_Row).North).e2)), (iv (((rdD y24.rows x207 z_Row).North).e3)), (iv (((rdD y24.rows x207 z_Row).North).e4)), (iv (((rdD y24.rows x207 z_Row).North).e5)), (iv (((rdD y24.rows x207 z_Row).North).e6)), (iv (((rdD y24.rows x207 z_Row).North).e7)), (iv ((rdD y24.rows x207 z_Row).West)), (iv ((rdD y24.rows x207 z_Row).East))] (fun fb => by kernel_rfl) (by kernel_rfl) (by kernel_rfl) [1, 2, 3, 4, 5, 6, 7, 8] (by decide) (by decide) (fun w219 hS220 => ?_)
       refine ⟨trivial, ?_⟩
       refine WL.done rfl ?_
       refine WX.next ?_
       refine WC.seq ?_
       obtain ⟨x221, hx222, hl213⟩ := bind_some hl213
       refine WC.cutN (T := Bool) (fun t => [(2, (iv p2)), (8, (pt g12)), (10, (pt g20)), (12, (sv A92 x95 c93)), (16, (pt g186)), (17, (.pointer (oepV A21 19 o206))), (18, (iv x196)), (19, (iv (-1))), (20, (iv x207)), (85, (iv p2)), (86, (iv x196)), (92, (sv A21 y24.rows c22)), (93, (iv (y24.rows.length : Int))), (94, (iv x207)), (131, (bv t))]) (fun t w1 => St NoS w w1 [rowR enc_Tile A_p0 c_p0 p0, rowR encInt A_p3_North c_p3_North p3.North, rowR encInt A_p3_East c_p3_East p3.East, rowR encInt A_p3_South c_p3_South p3.South, rowR encInt A_p3_West c_p3_West p3.West] [blk g12 (.cells #[(iv 0), (iv 0), (.slice none 0 0)] 27 (0, 0)), blk g20 (.cells #[(sv A21 y24.rows c22), (iv y24.width), (iv y24.height), (sv A_p3_North p3.North c_p3_North), (sv A_p3_East p3.East c_p3_East), (sv A_p3_South p3.South c_p3_South), (sv A_p3_West p3.West c_p3_West)] 81 (0, 0)), rowO 85 encN_Row A21 c22 (tag H23 y24.rows), poolO [nestO subN_Row H23 y24.rows], rowO 91 (encMap A8_Int Bool) A92 c93 (tag H94 x95), mapsO (aggI ints_A8_Int) vB H94 x95, blk g186 (.cells #[(iv p1), (iv p2), (sv A192 l194 c193)] 27 (0, 0)), rowO 3 encInt A192 c193 l194] ∧ x221 = t) (fun Kx221 => ?_) ?_
       ·
        rcases br_some hx222 with ⟨h223, hx222⟩ | ⟨h223, hx222⟩
        ·
         refine WC.regionD ([(1, ⟨g216, 0, none⟩, (sv ((H23 x207.toNat 0).1) ((rdD y24.rows x207 z_Row).Cells) ((H23 x207.toNat 0).2))), (1, ⟨g216, 1, none⟩, (iv (((rdD y24.rows x207 z_Row).South).e0))), (1, ⟨g216, 2, none⟩, (iv (((rdD y24.rows x207 z_Row).South).e1))), (1, ⟨g216, 3, none⟩, (iv (((rdD y24.rows x207 z_Row).South).e2))), (1, ⟨g216, 4, none⟩, (iv (((rdD y24.rows x207 z_Row).South).e3))), (1, ⟨g216, 5, none⟩, (iv (((rdD y24.rows x207 z_Row).South).e4))), (1, ⟨g216, 6, none⟩, (iv (((rdD y24.rows x207 z_Row).South).e5))), (1, ⟨g216, 7, none⟩, (iv (((rdD y24.rows x207 z_Row).South).e6))), (1, ⟨g216, 8, none⟩, (iv (((rdD y24.rows x207 z_Row).South).e7))), (1, ⟨g216, 9, none⟩, (iv (((rdD y24.rows x207 z_Row).North).e0))), (1, ⟨g216, 10, none⟩, (iv (((rdD y24.rows x207 z_Row).North).e1))), (1, ⟨g216, 11, none⟩, (iv (((rdD y24.rows x207 z_Row).North).e2))), (1, ⟨g216, 12, none⟩, (iv (((rdD y24.rows x207 z_Row).North).e3))), (1, ⟨g216, 13, none⟩, (iv (((rdD y24.rows x207 z_Row).North).e4))), (1, ⟨g216, 14, none⟩, (iv (((rdD y24.rows x207 z_Row).North).e5))), (1, ⟨g216, 15, none⟩, (iv (((rdD y24.rows x207 z_Row).North).e6))), (1, ⟨g216, 16, none⟩, (iv (((rdD y24.rows x207 z_Row).North).e7))), (1, ⟨g216, 17, none⟩, (iv ((rdD y24.rows x207 z_Row).West))), (1, ⟨g216, 18, none⟩, (iv ((rdD y24.rows x207 z_Row).East))), (13, ⟨g216, 1, none⟩, (iv (((rdD y24.rows x207 z_Row).South).e0))), (13, ⟨g216, 2, none⟩, (iv (((rdD y24.rows x207 z_Row).South).e1))), (13, ⟨g216, 3, none⟩, (iv (((rdD y24.rows x207 z_Row).South).e2))), (13, ⟨g216, 4, none⟩, (iv (((rdD y24.rows x207 z_Row).South).e3))), (13, ⟨g216, 5, none⟩, (iv (((rdD y24.rows x207 z_Row).South).e4))), (13, ⟨g216, 6, none⟩, (iv (((rdD y24.rows x207 z_Row).South).e5))), (13, ⟨g216, 7, none⟩, (iv (((rdD y24.rows x207 z_Row).South).e6))), (13, ⟨g216, 8, none⟩, (iv (((rdD y24.rows x207 z_Row).South).e7))), (29, ⟨g216, 9, none⟩, (iv (((rdD y24.rows x207 z_Row).North).e0))), (29, ⟨g216, 10, none⟩, (iv (((rdD y24.rows x207 z_Row).North).e1))), (29, ⟨g216, 11, none⟩, (iv (((rdD y24.rows x207 z_Row).North).e2))), (29, ⟨g216, 12, none⟩, (iv (((rdD y24.rows x207 z_Row).North).e3))), (29, ⟨g216, 13, none⟩, (iv (((rdD y24.rows x207 z_Row).North).e4))), (29, ⟨g216, 14, none⟩, (iv (((rdD y24.rows x207 z_Row).North).e5))), (29, ⟨g216, 15, none⟩, (iv (((rdD y24.rows x207 z_Row).North).e6))), (29, ⟨g216, 16, none⟩, (iv (((rdD y24.rows x207 z_Row).North).e7)))], [0, 1, 2, 4, 5, 6, 7, 8, 9, 10, 12, 13, 14, 15, 16, 17, 18, 19, 20, 21, 22, 23, 24, 25, 26, 28, 29, 31, 32], [[], [], [], [0, 1, 2], [0, 1, 2, 3], [0, 1, 2, 3, 4], [0, 1, 2, 3, 4, 5], [0, 1, 2, 3, 4, 5, 6], [0, 1, 2, 3, 4, 5, 6, 7], [0, 1, 2, 3, 4, 5, 6, 7, 8], [0, 1, 2, 3, 4, 5, 6, 7, 8, 9], [0, 1, 2, 3, 4, 5, 6, 7, 8, 9, 10], [0, 1, 2, 3, 4, 5, 6, 7], [0, 1, 2, 3, 4, 5, 6, 7, 12], [0, 1, 2, 3, 4, 5, 6, 7, 8, 9, 10, 11, 12, 13], [0, 1, 2, 3, 4, 5, 6, 7, 8, 9, 10, 11, 12, 13, 14], [0, 1, 2, 3, 4, 5, 6, 7, 8, 9, 10, 11, 12, 13, 14, 15], [0, 1, 2, 3, 4, 5, 6, 7, 8, 9, 10, 11, 12, 13, 14, 15, 16], [0, 1, 2, 3, 4, 5, 6, 7, 8, 9, 10, 11, 12, 13, 14, 15, 16, 17], [0, 1, 2, 3, 4, 5, 6, 7, 8, 9, 10, 11, 12, 13, 14, 15, 16, 17], [0, 1, 2, 3, 4, 5, 6, 7, 8, 9, 10, 11, 12, 13, 14, 15, 16, 17, 19], [0, 1, 2, 3, 4, 5, 6, 7, 8, 9, 10, 11, 12, 13, 14, 15, 16, 17, 18, 19, 20], [0, 1, 2, 3, 4, 5, 6, 7, 8, 9, 10, 11, 12, 13, 14, 15, 16, 17, 18, 19, 20, 21], [0, 1, 2, 3, 4, 5, 6, 7, 8, 9, 10, 11, 12, 13, 14, 15, 16, 17, 18, 19, 20, 21, 22], [0, 1, 2, 3, 4, 5, 6, 7, 8, 9, 10, 11, 12, 13, 14, 15, 16, 17, 18, 19, 20, 21, 22], [0, 1, 2, 3, 4, 5, 6, 7, 8, 9, 10, 11, 12, 13, 14, 15, 16, 17, 18, 19, 20, 21, 22, 24], [0, 1, 2, 3, 4, 5, 6, 7, 8, 9, 10, 11, 12, 13, 14, 15, 16, 17, 18, 19, 20, 21, 22, 23, 24, 25], [0, 1, 2, 3, 4, 5, 6, 7, 8, 9, 10, 11, 12, 13, 14, 15, 16, 17, 18, 19, 20, 21, 22, 23, 24, 25, 26], [0, 1, 2, 3, 4, 5, 6, 7, 8, 9, 10, 11, 12, 13, 14, 15, 16, 17, 18, 19, 20, 21, 22], [0, 1, 2, 3, 4, 5, 6, 7, 8, 9, 10, 11, 12, 13, 14, 15, 16, 17, 18, 19, 20, 21, 22, 28], [0, 1, 2, 3, 4, 5, 6, 7, 8, 9, 10, 11, 12, 13, 14, 15, 16, 17, 18, 19, 20, 21, 22, 23, 24, 25, 26, 27, 28, 29], [0, 1, 2, 3, 4, 5, 6, 7, 8, 9, 10, 11, 12, 13, 14, 15, 16, 17, 18, 19, 20, 21, 22, 23, 24, 25, 26, 27, 28, 29, 30], [0, 1, 2, 3, 4, 5, 6, 7, 8, 9, 10, 11, 12, 13, 14, 15, 16, 17, 18, 19, 20, 21, 22, 23, 24, 25, 26, 27, 28, 29, 30, 31]]) [[0, 1, 2, 3, 4, 5, 6, 7, 8, 9, 10, 12, 13, 11, 14, 15, 16, 17, 18, 19, 20, 21, 22, 23, 24, 25, 26, 28, 29, 27, 30, 31, 32]] (by kernel_rfl) (by kernel_rfl) (NoPanic.seq (NoPanic.block (NoPanic.seq (NoPanic.seq (NoPanic.block (NoPanic.seq (NoPanic.block (NoPanic.seq (NoPanic.seq (NoPanic.block (NoPanic.seq (NoPanic.body)))))))))))) ?_
         have hS225 := hS220.drew
         revert hS225
         generalize World.drew w219 = w224
         intro hS225
         refine ⟨⟨hS225.cell 0 rfl 0 rfl, hS225.cell 0 rfl 1 rfl, hS225.cell 0 rfl 2 rfl, hS225.cell 0 rfl 3 rfl, hS225.cell 0 rfl 4 rfl, hS225.cell 0 rfl 5 rfl, hS225.cell 0 rfl 6 rfl, hS225.cell 0 rfl 7 rfl, hS225.cell 0 rfl 8 rfl, hS225.cell 0 rfl 9 rfl, hS225.cell 0 rfl 10 rfl, hS225.cell 0 rfl 11 rfl, hS225.cell 0 rfl 12 rfl, hS225.cell 0 rfl 13 rfl, hS225.cell 0 rfl 14 rfl, hS225.cell 0 rfl 15 rfl, hS225.cell 0 rfl 16 rfl, hS225.cell 0 rfl 17 rfl, hS225.cell 0 rfl 18 rfl, hS225.cell 0 rfl 1 rfl, hS225.cell 0 rfl 2 rfl, hS225.cell 0 rfl 3 rfl, hS225.cell 0 rfl 4 rfl, hS225.cell 0 rfl 5 rfl, hS225.cell 0 rfl 6 rfl, hS225.cell 0 rfl 7 rfl, hS225.cell 0 rfl 8 rfl, hS225.cell 0 rfl 9 rfl, hS225.cell 0 rfl 10 rfl, hS225.cell 0 rfl 11 rfl, hS225.cell 0 rfl 12 rfl, hS225.cell 0 rfl 13 rfl, hS225.cell 0 rfl 14 rfl, hS225.cell 0 rfl 15 rfl, hS225.cell 0 rfl 16 rfl, trivial⟩, forallC ?_ (forallN)⟩
         refine segF 3 [.v (sv ((H23 x207.toNat 0).1) ((rdD y24.rows x207 z_Row).Cells) ((H23 x207.toNat 0).2)), .v (iv (((rdD y24.rows x207 z_Row).South).e0)), .v (iv (((rdD y24.rows x207 z_Row).South).e1)), .v (iv (((rdD y24.rows x207 z_Row).South).e2)), .v (iv (((rdD y24.rows x207 z_Row).South).e3)), .v (iv (((rdD y24.rows x207 z_Row).South).e4)), .v (iv (((rdD y24.rows x207 z_Row).South).e5)), .v (iv (((rdD y24.rows x207 z_Row).South).e6)), .v (iv (((rdD y24.rows x207 z_Row).South).e7)), .v (iv (((rdD y24.rows x207 z_Row).North).e0)), .v (iv (((rdD y24.rows x207 z_Row).North).e1)), .v (iv (((rdD y24.rows x207 z_Row).North).e2)), .v (iv (((rdD y24.rows x207 z_Row).North).e3)), .v (iv (((rdD y24.rows x207 z_Row).North).e4)), .v (iv (((rdD y24.rows x207 z_Row).North).e5)), .v (iv (((rdD y24.rows x207 z_Row).North).e6)), .v (iv (((rdD y24.rows x207 z_Row).North).e7)), .v (iv ((rdD y24.rows x207 z_Row).West)), .v (iv ((rdD y24.rows x207 z_Row).East))] [2, 8, 10, 12, 16, 17, 18, 19, 20, 21, 85, 86, 92, 93, 94, 99, 100, 101] [(2, (iv p2)), (8, (pt g12)), (10, (pt g20)), (12, (sv A92 x95 c93)), (16, (pt g186)), (17, (.pointer (oepV A21 19 o206))), (18, (iv x196)), (19, (iv (-1))), (20, (iv x207)), (21, (pt g216)), (85, (iv p2)), (86, (iv x196)), (92, (sv A21 y24.rows c22)), (93, (iv (y24.rows.length : Int))), (94, (iv x207)), (99, (pt g20)), (100, (.agg #[(sv ((H23 x207.toNat 0).1) ((rdD y24.rows x207 z_Row).Cells) ((H23 x207.toNat 0).2)), (iv (((rdD y24.rows x207 z_Row).South).e0)), (iv (((rdD y24.rows x207 z_Row).South).e1)), (iv (((rdD y24.rows x207 z_Row).South).e2)), (iv (((rdD y24.rows x207 z_Row).South).e3)), (iv (((rdD y24.rows x207 z_Row).South).e4)), (iv (((rdD y24.rows x207 z_Row).South).e5)), (iv (((rdD y24.rows x207 z_Row).South).e6)), (iv (((rdD y24.rows x207 z_Row).South).e7)), (iv (((rdD y24.rows x207 z_Row).North).e0)), (iv (((rdD y24.rows x207 z_Row).North).e1)), (iv (((rdD y24.rows x207 z_Row).North).e2)), (iv (((rdD y24.rows x207 z_Row).North).e3)), (iv (((rdD y24.rows x207 z_Row).North).e4)), (iv (((rdD y24.rows x207 z_Row).North).e5)), (iv (((rdD y24.rows x207 z_Row).North).e6)), (iv (((rdD y24.rows x207 z_Row).North).e7)), (iv ((rdD y24.rows x207 z_Row).West)), (iv ((rdD y24.rows x207 z_Row).East))])), (101, (iv x196))] [] [0, 1, 2, 3, 4, 5, 6, 7, 8, 9, 10, 11, 12, 13, 14, 15, 16, 17, 18] [(1, ⟨g216, 0, none⟩, (sv ((H23 x207.toNat 0).1) ((rdD y24.rows x207 z_Row).Cells) ((H23 x207.toNat 0).2))), (1, ⟨g216, 1, none⟩, (iv (((rdD y24.rows x207 z_Row).South).e0))), (1, ⟨g216, 2, none⟩, (iv (((rdD y24.rows x207 z_Row).South).e1))), (1, ⟨g216, 3, none⟩, (iv (((rdD y24.rows x207 z_Row).South).e2))), (1, ⟨g216, 4, none⟩, (iv (((rdD y24.rows x207 z_Row).South).e3))), (1, ⟨g216, 5, none⟩, (iv (((rdD y24.rows x207 z_Row).South).e4))), (1, ⟨g216, 6, none⟩, (iv (((rdD y24.rows x207 z_Row).South).e5))), (1, ⟨g216, 7, none⟩, (iv (((rdD y24.rows x207 z_Row).South).e6))), (1, ⟨g216, 8, none⟩, (iv (((rdD y24.rows x207 z_Row).South).e7))), (1, ⟨g216, 9, none⟩, (iv (((rdD y24.rows x207 z_Row).North).e0))), (1, ⟨g216, 10, none⟩, (iv (((rdD y24.rows x207 z_Row).North).e1))), (1, ⟨g216, 11, none⟩, (iv (((rdD y24.rows x207 z_Row).North).e2))), (1, ⟨g216, 12, none⟩, (iv (((rdD y24.rows x207 z_Row).North).e3))), (1, ⟨g216, 13, none⟩, (iv (((rdD y24.rows x207 z_Row).North).e4))), (1, ⟨g216, 14, none⟩, (iv (((rdD y24.rows x207 z_Row).North).e5))), (1, ⟨g216, 15, none⟩, (iv (((rdD y24.rows x207 z_Row).North).e6))), (1, ⟨g216, 16, none⟩, (iv (((rdD y24.rows x207 z_Row).North).e7))), (1, ⟨g216, 17, none⟩, (iv ((rdD y24.rows x207 z_Row).West))), (1, ⟨g216, 18, none⟩, (iv ((rdD y24.rows x207 z_Row).East)))] (fun fb => by kernel_rfl) rfl trivial rfl ?_
         obtain ⟨t226, ht227, hx222⟩ := bind_some hx222
         refine WL.call (some 102) 60 #[(pt g20), (.agg #[(sv ((H23 x207.toNat 0).1) ((rdD y24.rows x207 z_Row).Cells) ((H23 x207.toNat 0).2)), (iv (((rdD y24.rows x207 z_Row).South).e0)), (iv (((rdD y24.rows x207 z_Row).South).e1)), (iv (((rdD y24.rows x207 z_Row).South).e2)), (iv (((rdD y24.rows x207 z_Row).South).e3)), (iv (((rdD y24.rows x207 z_Row).South).e4)), (iv (((rdD y24.rows x207 z_Row).South).e5)), (iv (((rdD y24.rows x207 z_Row).South).e6)), (iv (((rdD y24.rows x207 z_Row).South).e7)), (iv (((rdD y24.rows x207 z_Row).North).e0)), (iv (((rdD y24.rows x207 z_Row).North).e1)), (iv (((rdD y24.rows x207 z_Row).North).e2)), (iv (((rdD y24.rows x207 z_Row).North).e3)), (iv (((rdD y24.rows x207 z_Row).North).e4)), (iv (((rdD y24.rows x207 z_Row).North).e5)), (iv (((rdD y24.rows x207 z_Row).North).e6)), (iv (((rdD y24.rows x207 z_Row).North).e7)), (iv ((rdD y24.rows x207 z_Row).West)), (iv ((rdD y24.rows x207 z_Row).East))]), (iv x196)] (fun fb => by kernel_rfl) (fill_job_allows_calls _ (Job.mk y24.rows y24.width y24.height p3) (rdD y24.rows x207 z_Row) x196 g20 A21 c22 H23 A_p3_North c_p3_North A_p3_East c_p3_East A_p3_South c_p3_South A_p3_West c_p3_West ((H23 x207.toNat 0).1) ((H23 x207.toNat 0).2) t226 _ (hS225.ow 2) (hS225.ow 3).ofO (poolO.ro (hS225.ow 4) 0) (hS225.rd 1) (hS225.rd 2) (hS225.rd 3) (hS225.rd 4) (nestO.ro (poolO.ro (hS225.ow 4) 0) z_Row h215.1 h215.2) ht227) (fun v w228 hR229 => ?_)
         obtain ⟨rfl, hk_⟩ := hR229
         have hS230 := hS225.keepN hk_
         refine ⟨⟨hS230.cell 0 rfl 1 rfl, hS230.cell 0 rfl 2 rfl, hS230.cell 0 rfl 3 rfl, hS230.cell 0 rfl 4 rfl, hS230.cell 0 rfl 5 rfl, hS230.cell 0 rfl 6 rfl, hS230.cell 0 rfl 7 rfl, hS230.cell 0 rfl 8 rfl, hS230.cell 0 rfl 9 rfl, hS230.cell 0 rfl 10 rfl, hS230.cell 0 rfl 11 rfl, hS230.cell 0 rfl 12 rfl, hS230.cell 0 rfl 13 rfl, hS230.cell 0 rfl 14 rfl, hS230.cell 0 rfl 15 rfl, hS230.cell 0 rfl 16 rfl, trivial⟩, ?_⟩
         refine seg 5 [] [2, 8, 10, 12, 16, 17, 18, 19, 20, 21, 85, 86, 92, 93, 94, 103] [(2, (iv p2)), (8, (pt g12)), (10, (pt g20)), (12, (sv A92 x95 c93)), (16, (pt g186)), (17, (.pointer (oepV A21 19 o206))), (18, (iv x196)), (19, (iv (-1))), (20, (iv x207)), (21, (pt g216)), (85, (iv p2)), (86, (iv x196)), (92, (sv A21 y24.rows c22)), (93, (iv (y24.rows.length : Int))), (94, (iv x207)), (103, (bv t226))] [] (fun fb => by kernel_rfl) rfl trivial ?_
         obtain ⟨b231, hv232, hx222⟩ := bind_some hx222
         refine WL.cutV (T := Unit) 17 (fun t => [(115, (bv b231)), (2, (iv p2)), (8, (pt g12)), (10, (pt g20)), (12, (sv A92 x95 c93)), (16, (pt g186)), (17, (.pointer (oepV A21 19 o206))), (18, (iv x196)), (19, (iv (-1))), (20, (iv x207)), (21, (pt g216)), (85, (iv p2)), (86, (iv x196)), (92, (sv A21 y24.rows c22)), (93, (iv (y24.rows.length : Int))), (94, (iv x207))]) (fun t => True) (fun K => ?_) ?_
         ·
          rcases br_some hv232 with ⟨h233, hv232⟩ | ⟨h233, hv232⟩
          ·
           refine WL.setB 103 h233 rfl ?_
           refine seg 6 [] [2, 8, 10, 12, 16, 17, 18, 19, 20, 21, 85, 86, 92, 93, 94, 103, 104] [(2, (iv p2)), (8, (pt g12)), (10, (pt g20)), (12, (sv A92 x95 c93)), (16, (pt g186)), (17, (.pointer (oepV A21 19 o206))), (18, (iv x196)), (19, (iv (-1))), (20, (iv x207)), (21, (pt g216)), (85, (iv p2)), (86, (iv x196)), (92, (sv A21 y24.rows c22)), (93, (iv (y24.rows.length : Int))), (94, (iv x207)), (103, (bv true)), (104, (.pointer (oepV A21 19 o206)))] [] (fun fb => by kernel_rfl) rfl trivial ?_
           rcases optM_some hv232 with ⟨ho234, hv232⟩ | ⟨i235, ho234, hv232⟩
           ·
            have ho234 : o206 = none := ho234
            refine WL.reE [2, 8, 10, 12, 16, 17, 18, 19, 20, 21, 85, 86, 92, 93, 94, 103, 104] [(2, (iv p2)), (8, (pt g12)), (10, (pt g20)), (12, (.slice A92 x95.length c93)), (16, (pt g186)), (17, (.pointer (oepV A21 19 o206))), (18, (iv x196)), (19, (iv (-1))), (20, (iv x207)), (21, (pt g216)), (85, (iv p2)), (86, (iv x196)), (92, (.slice A21 y24.rows.length c22)), (93, (iv (y24.rows.length : Int))), (94, (iv x207)), (103, (.bool true)), (104, (.pointer (oepV A21 19 o206)))] [(2, (iv p2)), (8, (pt g12)), (10, (pt g20)), (12, (.slice A92 x95.length c93)), (16, (pt g186)), (17, (.pointer none)), (18, (iv x196)), (19, (iv (-1))), (20, (iv x207)), (21, (pt g216)), (85, (iv p2)), (86, (iv x196)), (92, (.slice A21 y24.rows.length c22)), (93, (iv (y24.rows.length : Int))), (94, (iv x207)), (103, (.bool true)), (104, (.pointer none))] rfl (by rw [ho234]; rfl) ?_
            refine seg 17 [] [2, 8, 10, 12, 16, 17, 18, 19, 20, 21, 85, 86, 92, 93, 94, 115] [(2, (iv p2)), (8, (pt g12)), (10, (pt g20)), (12, (sv A92 x95 c93)), (16, (pt g186)), (17, (.pointer none)), (18, (iv x196)), (19, (iv (-1))), (20, (iv x207)), (21, (pt g216)), (85, (iv p2)), (86, (iv x196)), (92, (sv A21 y24.rows c22)), (93, (iv (y24.rows.length : Int))), (94, (iv x207)), (115, (bv true))] [] (fun fb => by kernel_rfl) rfl trivial ?_
            refine WL.reE [2, 8, 10, 12, 16, 17, 18, 19, 20, 21, 85, 86, 92, 93, 94, 115] [(2, (iv p2)), (8, (pt g12)), (10, (pt g20)), (12, (.slice A92 x95.length c93)), (16, (pt g186)), (17, (.pointer none)), (18, (iv x196)), (19, (iv (-1))), (20, (iv x207)), (21, (pt g216)), (85, (iv p2)), (86, (iv x196)), (92, (.slice A21 y24.rows.length c22)), (93, (iv (y24.rows.length : Int))), (94, (iv x207)), (115, (.bool true))] [(2, (iv p2)), (8, (pt g12)), (10, (pt g20)), (12, (.slice A92 x95.length c93)), (16, (pt g186)), (17, (.pointer (oepV A21 19 o206))), (18, (iv x196)), (19, (iv (-1))), (20, (iv x207)), (21, (pt g216)), (85, (iv p2)), (86, (iv x196)), (92, (.slice A21 y24.rows.length c22)), (93, (iv (y24.rows.length : Int))), (94, (iv x207)), (115, (.bool true))] rfl (by rw [ho234]; rfl) ?_
            injection hv232 with hv232
            subst hv232
            exact WL.toV K () [115, 2, 8, 10, 12, 16, 17, 18, 19, 20, 21, 85, 86, 92, 93, 94] rfl trivial
           have ho234 : o206 = some i235 := ho234
           refine WL.reE [2, 8, 10, 12, 16, 17, 18, 19, 20, 21, 85, 86, 92, 93, 94, 103, 104] [(2, (iv p2)), (8, (pt g12)), (10, (pt g20)), (12, (.slice A92 x95.length c93)), (16, (pt g186)), (17, (.pointer (oepV A21 19 o206))), (18, (iv x196)), (19, (iv (-1))), (20, (iv x207)), (21, (pt g216)), (85, (iv p2)), (86, (iv x196)), (92, (.slice A21 y24.rows.length c22)), (93, (iv (y24.rows.length : Int))), (94, (iv x207)), (103, (.bool true)), (104, (.pointer (oepV A21 19 o206)))] [(2, (iv p2)), (8, (pt g12)), (10, (pt g20)), (12, (.slice A92 x95.length c93)), (16, (pt g186)), (17, (.pointer (some ((adr A21).add ((i235).toNat * 19))))), (18, (iv x196)), (19, (iv (-1))), (20, (iv x207)), (21, (pt g216)), (85, (iv p2)), (86, (iv x196)), (92, (.slice A21 y24.rows.length c22)), (93, (iv (y24.rows.length : Int))), (94, (iv x207)), (103, (.bool true)), (104, (.pointer (some ((adr A21).add ((i235).toNat * 19)))))] rfl (by rw [ho234]; rfl) ?_
           obtain ⟨h236, hv232⟩ := as_some hv232
           refine segF 17 [.v (iv (((rdD y24.rows x207 z_Row).South).e0)), .v (iv (((rdD y24.rows x207 z_Row).South).e1)), .v (iv (((rdD y24.rows x207 z_Row).South).e2)), .v (iv (((rdD y24.rows x207 z_Row).South).e3)), .v (iv (((rdD y24.rows x207 z_Row).South).e4)), .v (iv (((rdD y24.rows x207 z_Row).South).e5)), .v (iv (((rdD y24.rows x207 z_Row).South).e6)), .v (iv (((rdD y24.rows x207 z_Row).South).e7)), .v (iv (((rdD y24.rows i235 z_Row).North).e0)), .v (iv (((rdD y24.rows i235 z_Row).North).e1)), .v (iv (((rdD y24.rows i235 z_Row).North).e2)), .v (iv (((rdD y24.rows i235 z_Row).North).e3)), .v (iv (((rdD y24.rows i235 z_Row).North).e4)), .v (iv (((rdD y24.rows i235 z_Row).North).e5)), .v (iv (((rdD y24.rows i235 z_Row).North).e6)), .v (iv (((rdD y24.rows i235 z_Row).North).e7))] [2, 8, 10, 12, 16, 17, 18, 19, 20, 21, 85, 86, 92, 93, 94, 115] [(2, (iv p2)), (8, (pt g12)), (10, (pt g20)), (12, (sv A92 x95 c93)), (16, (pt g186)), (17, (.pointer (some ((adr A21).add ((i235).toNat * 19))))), (18, (iv x196)), (19, (iv (-1))), (20, (iv x207)), (21, (pt g216)), (85, (iv p2)), (86, (iv x196)), (92, (sv A21 y24.rows c22)), (93, (iv (y24.rows.length : Int))), (94, (iv x207)), (115, (bv ((((rdD y24.rows i235 z_Row).North).e0) == (((rdD y24.rows x207 z_Row).South).e0) && ((((rdD y24.rows i235 z_Row).North).e1) == (((rdD y24.rows x207 z_Row).South).e1) && ((((rdD y24.rows i235 z_Row).North).e2) == (((rdD y24.rows x207 z_Row).South).e2) && ((((rdD y24.rows i235 z_Row).North).e3) == (((rdD y24.rows x207 z_Row).South).e3) && ((((rdD y24.rows i235 z_Row).North).e4) == (((rdD y24.rows x207 z_Row).South).e4) && ((((rdD y24.rows i235 z_Row).North).e5) == (((rdD y24.rows x207 z_Row).South).e5) && ((((rdD y24.rows i235 z_Row).North).e6) == (((rdD y24.rows x207 z_Row).South).e6) && ((((rdD y24.rows i235 z_Row).North).e7) == (((rdD y24.rows x207 z_Row).South).e7)))))))))))] [.cell (((adr A21).add ((i235).toNat * 19)).add 9) (iv (((rdD y24.rows i235 z_Row).North).e0)), .cell (((adr A21).add ((i235).toNat * 19)).add 10) (iv (((rdD y24.rows i235 z_Row).North).e1)), .cell (((adr A21).add ((i235).toNat * 19)).add 11) (iv (((rdD y24.rows i235 z_Row).North).e2)), .cell (((adr A21).add ((i235).toNat * 19)).add 12) (iv (((rdD y24.rows i235 z_Row).North).e3)), .cell (((adr A21).add ((i235).toNat * 19)).add 13) (iv (((rdD y24.rows i235 z_Row).North).e4)), .cell (((adr A21).add ((i235).toNat * 19)).add 14) (iv (((rdD y24.rows i235 z_Row).North).e5)), .cell (((adr A21).add ((i235).toNat * 19)).add 15) (iv (((rdD y24.rows i235 z_Row).North).e6)), .cell (((adr A21).add ((i235).toNat * 19)).add 16) (iv (((rdD y24.rows i235 z_Row).North).e7))] [19, 20, 21, 22, 23, 24, 25, 26] [(13, ⟨g216, 1, none⟩, (iv (((rdD y24.rows x207 z_Row).South).e0))), (13, ⟨g216, 2, none⟩, (iv (((rdD y24.rows x207 z_Row).South).e1))), (13, ⟨g216, 3, none⟩, (iv (((rdD y24.rows x207 z_Row).South).e2))), (13, ⟨g216, 4, none⟩, (iv (((rdD y24.rows x207 z_Row).South).e3))), (13, ⟨g216, 5, none⟩, (iv (((rdD y24.rows x207 z_Row).South).e4))), (13, ⟨g216, 6, none⟩, (iv (((rdD y24.rows x207 z_Row).South).e5))), (13, ⟨g216, 7, none⟩, (iv (((rdD y24.rows x207 z_Row).South).e6))), (13, ⟨g216, 8, none⟩, (iv (((rdD y24.rows x207 z_Row).South).e7)))] (fun fb => by kernel_rfl) rfl ⟨nrow_cell (rowO.rd (hS230.own 3).1) z_Row h236.1 h236.2 9 rfl, nrow_cell (rowO.rd (hS230.own 3).1) z_Row h236.1 h236.2 10 rfl, nrow_cell (rowO.rd (hS230.own 3).1) z_Row h236.1 h236.2 11 rfl, nrow_cell (rowO.rd (hS230.own 3).1) z_Row h236.1 h236.2 12 rfl, nrow_cell (rowO.rd (hS230.own 3).1) z_Row h236.1 h236.2 13 rfl, nrow_cell (rowO.rd (hS230.own 3).1) z_Row h236.1 h236.2 14 rfl, nrow_cell (rowO.rd (hS230.own 3).1) z_Row h236.1 h236.2 15 rfl, nrow_cell (rowO.rd (hS230.own 3).1) z_Row h236.1 h236.2 16 rfl, trivial⟩ rfl ?_
           refine WL.reE [2, 8, 10, 12, 16, 17, 18, 19, 20, 21, 85, 86, 92, 93, 94, 115] [(2, (iv p2)), (8, (pt g12)), (10, (pt g20)), (12, (.slice A92 x95.length c93)), (16, (pt g186)), (17, (.pointer (some ((adr A21).add ((i235).toNat * 19))))), (18, (iv x196)), (19, (iv (-1))), (20, (iv x207)), (21, (pt g216)), (85, (iv p2)), (86, (iv x196)), (92, (.slice A21 y24.rows.length c22)), (93, (iv (y24.rows.length : Int))), (94, (iv x207)), (115, (.bool ((((rdD y24.rows i235 z_Row).North).e0) == (((rdD y24.rows x207 z_Row).South).e0) && ((((rdD y24.rows i235 z_Row).North).e1) == (((rdD y24.rows x207 z_Row).South).e1) && ((((rdD y24.rows i235 z_Row).North).e2) == (((rdD y24.rows x207 z_Row).South).e2) && ((((rdD y24.rows i235 z_Row).North).e3) == (((rdD y24.rows x207 z_Row).South).e3) && ((((rdD y24.rows i235 z_Row).North).e4) == (((rdD y24.rows x207 z_Row).South).e4) && ((((rdD y24.rows i235 z_Row).North).e5) == (((rdD y24.rows x207 z_Row).South).e5) && ((((rdD y24.rows i235 z_Row).North).e6) == (((rdD y24.rows x207 z_Row).South).e6) && ((((rdD y24.rows i235 z_Row).North).e7) == (((rdD y24.rows x207 z_Row).South).e7)))))))))))] [(2, (iv p2)), (8, (pt g12)), (10, (pt g20)), (12, (.slice A92 x95.length c93)), (16, (pt g186)), (17, (.pointer (oepV A21 19 o206))), (18, (iv x196)), (19, (iv (-1))), (20, (iv x207)), (21, (pt g216)), (85, (iv p2)), (86, (iv x196)), (92, (.slice A21 y24.rows.length c22)), (93, (iv (y24.rows.length : Int))), (94, (iv x207)), (115, (.bool ((((rdD y24.rows i235 z_Row).North).e0) == (((rdD y24.rows x207 z_Row).South).e0) && ((((rdD y24.rows i235 z_Row).North).e1) == (((rdD y24.rows x207 z_Row).South).e1) && ((((rdD y24.rows i235 z_Row).North).e2) == (((rdD y24.rows x207 z_Row).South).e2) && ((((rdD y24.rows i235 z_Row).North).e3) == (((rdD y24.rows x207 z_Row).South).e3) && ((((rdD y24.rows i235 z_Row).North).e4) == (((rdD y24.rows x207 z_Row).South).e4) && ((((rdD y24.rows i235 z_Row).North).e5) == (((rdD y24.rows x207 z_Row).South).e5) && ((((rdD y24.rows i235 z_Row).North).e6) == (((rdD y24.rows x207 z_Row).South).e6) && ((((rdD y24.rows i235 z_Row).North).e7) == (((rdD y24.rows x207 z_Row).South).e7)))))))))))] rfl (by rw [ho234]; rfl) ?_
           injection hv232 with hv232
           subst hv232
           exact WL.toV K () [115, 2, 8, 10, 12, 16, 17, 18, 19, 20, 21, 85, 86, 92, 93, 94] rfl trivial
          refine WL.setB 103 h233 rfl ?_
          refine seg 17 [] [2, 8, 10, 12, 16, 17, 18, 19, 20, 21, 85, 86, 92, 93, 94, 115] [(2, (iv p2)), (8, (pt g12)), (10, (pt g20)), (12, (sv A92 x95 c93)), (16, (pt g186)), (17, (.pointer (oepV A21 19 o206))), (18, (iv x196)), (19, (iv (-1))), (20, (iv x207)), (21, (pt g216)), (85, (iv p2)), (86, (iv x196)), (92, (sv A21 y24.rows c22)), (93, (iv (y24.rows.length : Int))), (94, (iv x207)), (115, (bv false))] [] (fun fb => by kernel_rfl) rfl trivial ?_
          injection hv232 with hv232
          subst hv232
          exact WL.toV K () [115, 2, 8, 10, 12, 16, 17, 18, 19, 20, 21, 85, 86, 92, 93, 94] rfl trivial
         rintro _ _
         refine seg 18 [] [2, 8, 10, 12, 16, 17, 18, 19, 20, 21, 85, 86, 92, 93, 94, 116] [(2, (iv p2)), (8, (pt g12)), (10, (pt g20)), (12, (sv A92 x95 c93)), (16, (pt g186)), (17, (.pointer (oepV A21 19 o206))), (18, (iv x196)), (19, (iv (-1))), (20, (iv x207)), (21, (pt g216)), (85, (iv p2)), (86, (iv x196)), (92, (sv A21 y24.rows c22)), (93, (iv (y24.rows.length : Int))), (94, (iv x207)), (116, (bv b231))] [] (fun fb => by kernel_rfl) rfl trivial ?_
         refine WL.cutV (T := Bool) 33 (fun t => [(131, (bv t)), (2, (iv p2)), (8, (pt g12)), (10, (pt g20)), (12, (sv A92 x95 c93)), (16, (pt g186)), (17, (.pointer (oepV A21 19 o206))), (18, (iv x196)), (19, (iv (-1))), (20, (iv x207)), (85, (iv p2)), (86, (iv x196)), (92, (sv A21 y24.rows c22)), (93, (iv (y24.rows.length : Int))), (94, (iv x207))]) (fun t => b231 = t) (fun K => ?_) ?_
         ·
          rcases Bool.eq_false_or_eq_true b231 with h237 | h237
          ·
           refine WL.setB 116 h237 rfl ?_
           refine seg 23 [] [2, 8, 10, 12, 16, 17, 18, 19, 20, 21, 85, 86, 92, 93, 94, 116, 121] [(2, (iv p2)), (8, (pt g12)), (10, (pt g20)), (12, (sv A92 x95 c93)), (16, (pt g186)), (17, (.pointer (oepV A21 19 o206))), (18, (iv x196)), (19, (iv (-1))), (20, (iv x207)), (21, (pt g216)), (85, (iv p2)), (86, (iv x196)), (92, (sv A21 y24.rows c22)), (93, (iv (y24.rows.length : Int))), (94, (iv x207)), (116, (bv true)), (121, (bv (x196 == (w64 (p2 - 1)))))] [] (fun fb => by kernel_rfl) rfl trivial ?_
           refine WL.setB 121 h223 rfl ?_
           refine seg 33 [] [2, 8, 10, 12, 16, 17, 18, 19, 20, 85, 86, 92, 93, 94, 131] [(2, (iv p2)), (8, (pt g12)), (10, (pt g20)), (12, (sv A92 x95 c93)), (16, (pt g186)), (17, (.pointer (oepV A21 19 o206))), (18, (iv x196)), (19, (iv (-1))), (20, (iv x207)), (85, (iv p2)), (86, (iv x196)), (92, (sv A21 y24.rows c22)), (93, (iv (y24.rows.length : Int))), (94, (iv x207)), (131, (bv true))] [] (fun fb => by kernel_rfl) rfl trivial ?_
           exact WL.toV K true [131, 2, 8, 10, 12, 16, 17, 18, 19, 20, 85, 86, 92, 93, 94] rfl (by first | (rw [h237]; done) | (rw [h237]; rfl))
          refine WL.setB 116 h237 rfl ?_
          refine seg 33 [] [2, 8, 10, 12, 16, 17, 18, 19, 20, 85, 86, 92, 93, 94, 131] [(2, (iv p2)), (8, (pt g12)), (10, (pt g20)), (12, (sv A92 x95 c93)), (16, (pt g186)), (17, (.pointer (oepV A21 19 o206))), (18, (iv x196)), (19, (iv (-1))), (20, (iv x207)), (85, (iv p2)), (86, (iv x196)), (92, (sv A21 y24.rows c22)), (93, (iv (y24.rows.length : Int))), (94, (iv x207)), (131, (bv false))] [] (fun fb => by kernel_rfl) rfl trivial ?_
          exact WL.toV K false [131, 2, 8, 10, 12, 16, 17, 18, 19, 20, 85, 86, 92, 93, 94] rfl (by first | (rw [h237]; done) | (rw [h237]; rfl))
         rintro b238 rfl
         refine WL.done rfl ?_
         injection hx222 with hx222
         exact WX.to Kx221 b231 [2, 8, 10, 12, 16, 17, 18, 19, 20, 85, 86, 92, 93, 94, 131] rfl ⟨(hS230.subR [0, 1, 2, 3, 4]).sub [1, 2, 3, 4, 5, 6, 7, 8] (by decide), hx222.symm⟩
        refine WC.regionD ([(1, ⟨g216, 0, none⟩, (sv ((H23 x207.toNat 0).1) ((rdD y24.rows x207 z_Row).Cells) ((H23 x207.toNat 0).2))), (1, ⟨g216, 1, none⟩, (iv (((rdD y24.rows x207 z_Row).South).e0))), (1, ⟨g216, 2, none⟩, (iv (((rdD y24.rows x207 z_Row).South).e1))), (1, ⟨g216, 3, none⟩, (iv (((rdD y24.rows x207 z_Row).South).e2))), (1, ⟨g216, 4, none⟩, (iv (((rdD y24.rows x207 z_Row).South).e3))), (1, ⟨g216, 5, none⟩, (iv (((rdD y24.rows x207 z_Row).South).e4))), (1, ⟨g216, 6, none⟩, (iv (((rdD y24.rows x207 z_Row).South).e5))), (1, ⟨g216, 7, none⟩, (iv (((rdD y24.rows x207 z_Row).South).e6))), (1, ⟨g216, 8, none⟩, (iv (((rdD y24.rows x207 z_Row).South).e7))), (1, ⟨g216, 9, none⟩, (iv (((rdD y24.rows x207 z_Row).North).e0))), (1, ⟨g216, 10, none⟩, (iv (((rdD y24.rows x207 z_Row).North).e1))), (1, ⟨g216, 11, none⟩, (iv (((rdD y24.rows x207 z_Row).North).e2))), (1, ⟨g216, 12, none⟩, (iv (((rdD y24.rows x207 z_Row).North).e3))), (1, ⟨g216, 13, none⟩, (iv (((rdD y24.rows x207 z_Row).North).e4))), (1, ⟨g216, 14, none⟩, (iv (((rdD y24.rows x207 z_Row).North).e5))), (1, ⟨g216, 15, none⟩, (iv (((rdD y24.rows x207 z_Row).North).e6))), (1, ⟨g216, 16, none⟩, (iv (((rdD y24.rows x207 z_Row).North).e7))), (1, ⟨g216, 17, none⟩, (iv ((rdD y24.rows x207 z_Row).West))), (1, ⟨g216, 18, none⟩, (iv ((rdD y24.rows x207 z_Row).East))), (13, ⟨g216, 1, none⟩, (iv (((rdD y24.rows x207 z_Row).South).e0))), (13, ⟨g216, 2, none⟩, (iv (((rdD y24.rows x207 z_Row).South).e1))), (13, ⟨g216, 3, none⟩, (iv (((rdD y24.rows x207 z_Row).South).e2))), (13, ⟨g216, 4, none⟩, (iv (((rdD y24.rows x207 z_Row).South).e3))), (13, ⟨g216, 5, none⟩, (iv (((rdD y24.rows x207 z_Row).South).e4))), (13, ⟨g216, 6, none⟩, (iv (((rdD y24.rows x207 z_Row).South).e5))), (13, ⟨g216, 7, none⟩, (iv (((rdD y24.rows x207 z_Row).South).e6))), (13, ⟨g216, 8, none⟩, (iv (((rdD y24.rows x207 z_Row).South).e7))), (29, ⟨g216, 9, none⟩, (iv (((rdD y24.rows x207 z_Row).North).e0))), (29, ⟨g216, 10, none⟩, (iv (((rdD y24.rows x207 z_Row).North).e1))), (29, ⟨g216, 11, none⟩, (iv (((rdD y24.rows x207 z_Row).North).e2))), (29, ⟨g216, 12, none⟩, (iv (((rdD y24.rows x207 z_Row).North).e3))), (29, ⟨g216, 13, none⟩, (iv (((rdD y24.rows x207 z_Row).North).e4))), (29, ⟨g216, 14, none⟩, (iv (((rdD y24.rows x207 z_Row).North).e5))), (29, ⟨g216, 15, none⟩, (iv (((rdD y24.rows x207 z_Row).North).e6))), (29, ⟨g216, 16, none⟩, (iv (((rdD y24.rows x207 z_Row).North).e7)))], [0, 1, 2, 4, 5, 6, 7, 8, 9, 10, 12, 13, 14, 15, 16, 17, 18, 19, 20, 21, 22, 23, 24, 25, 26, 28, 29, 31, 32], [[], [], [], [0, 1, 2], [0, 1, 2, 3], [0, 1, 2, 3, 4], [0, 1, 2, 3, 4, 5], [0, 1, 2, 3, 4, 5, 6], [0, 1, 2, 3, 4, 5, 6, 7], [0, 1, 2, 3, 4, 5, 6, 7, 8], [0, 1, 2, 3, 4, 5, 6, 7, 8, 9], [0, 1, 2, 3, 4, 5, 6, 7, 8, 9, 10], [0, 1, 2, 3, 4, 5, 6, 7], [0, 1, 2, 3, 4, 5, 6, 7, 12], [0, 1, 2, 3, 4, 5, 6, 7, 8, 9, 10, 11, 12, 13], [0, 1, 2, 3, 4, 5, 6, 7, 8, 9, 10, 11, 12, 13, 14], [0, 1, 2, 3, 4, 5, 6, 7, 8, 9, 10, 11, 12, 13, 14, 15], [0, 1, 2, 3, 4, 5, 6, 7, 8, 9, 10, 11, 12, 13, 14, 15, 16], [0, 1, 2, 3, 4, 5, 6, 7, 8, 9, 10, 11, 12, 13, 14, 15, 16, 17], [0, 1, 2, 3, 4, 5, 6, 7, 8, 9, 10, 11, 12, 13, 14, 15, 16, 17], [0, 1, 2, 3, 4, 5, 6, 7, 8, 9, 10, 11, 12, 13, 14, 15, 16, 17, 19], [0, 1, 2, 3, 4, 5, 6, 7, 8, 9, 10, 11, 12, 13, 14, 15, 16, 17, 18, 19, 20], [0, 1, 2, 3, 4, 5, 6, 7, 8, 9, 10, 11, 12, 13, 14, 15, 16, 17, 18, 19, 20, 21], [0, 1, 2, 3, 4, 5, 6, 7, 8, 9, 10, 11, 12, 13, 14, 15, 16, 17, 18, 19, 20, 21, 22], [0, 1, 2, 3, 4, 5, 6, 7, 8, 9, 10, 11, 12, 13, 14, 15, 16, 17, 18, 19, 20, 21, 22], [0, 1, 2, 3, 4, 5, 6, 7, 8, 9, 10, 11, 12, 13, 14, 15, 16, 17, 18, 19, 20, 21, 22, 24], [0, 1, 2, 3, 4, 5, 6, 7, 8, 9, 10, 11, 12, 13, 14, 15, 16, 17, 18, 19, 20, 21, 22, 23, 24, 25], [0, 1, 2, 3, 4, 5, 6, 7, 8, 9, 10, 11, 12, 13, 14, 15, 16, 17, 18, 19, 20, 21, 22, 23, 24, 25, 26], [0, 1, 2, 3, 4, 5, 6, 7, 8, 9, 10, 11, 12, 13, 14, 15, 16, 17, 18, 19, 20, 21, 22], [0, 1, 2, 3, 4, 5, 6, 7, 8, 9, 10, 11, 12, 13, 14, 15, 16, 17, 18, 19, 20, 21, 22, 28], [0, 1, 2, 3, 4, 5, 6, 7, 8, 9, 10, 11, 12, 13, 14, 15, 16, 17, 18, 19, 20, 21, 22, 23, 24, 25, 26, 27, 28, 29], [0, 1, 2, 3, 4, 5, 6, 7, 8, 9, 10, 11, 12, 13, 14, 15, 16, 17, 18, 19, 20, 21, 22, 23, 24, 25, 26, 27, 28, 29, 30], [0, 1, 2, 3, 4, 5, 6, 7, 8, 9, 10, 11, 12, 13, 14, 15, 16, 17, 18, 19, 20, 21, 22, 23, 24, 25, 26, 27, 28, 29, 30, 31]]) [[0, 1, 2, 3, 4, 5, 6, 7, 8, 9, 10, 12, 13, 11, 14, 15, 16, 17, 18, 19, 20, 21, 22, 23, 24, 25, 26, 28, 29, 27, 30, 31, 32]] (by kernel_rfl) (by kernel_rfl) (NoPanic.seq (NoPanic.block (NoPanic.seq (NoPanic.seq (NoPanic.block (NoPanic.seq (NoPanic.block (NoPanic.seq (NoPanic.seq (NoPanic.block (NoPanic.seq (NoPanic.body)))))))))))) ?_
        have hS240 := hS220.drew
        revert hS240
        generalize World.drew w219 = w239
        intro hS240
        refine ⟨⟨hS240.cell 0 rfl 0 rfl, hS240.cell 0 rfl 1 rfl, hS240.cell 0 rfl 2 rfl, hS240.cell 0 rfl 3 rfl, hS240.cell 0 rfl 4 rfl, hS240.cell 0 rfl 5 rfl, hS240.cell 0 rfl 6 rfl, hS240.cell 0 rfl 7 rfl, hS240.cell 0 rfl 8 rfl, hS240.cell 0 rfl 9 rfl, hS240.cell 0 rfl 10 rfl, hS240.cell 0 rfl 11 rfl, hS240.cell 0 rfl 12 rfl, hS240.cell 0 rfl 13 rfl, hS240.cell 0 rfl 14 rfl, hS240.cell 0 rfl 15 rfl, hS240.cell 0 rfl 16 rfl, hS240.cell 0 rfl 17 rfl, hS240.cell 0 rfl 18 rfl, hS240.cell 0 rfl 1 rfl, hS240.cell 0 rfl 2 rfl, hS240.cell 0 rfl 3 rfl, hS240.cell 0 rfl 4 rfl, hS240.cell 0 rfl 5 rfl, hS240.cell 0 rfl 6 rfl, hS240.cell 0 rfl 7 rfl, hS240.cell 0 rfl 8 rfl, hS240.cell 0 rfl 9 rfl, hS240.cell 0 rfl 10 rfl, hS240.cell 0 rfl 11 rfl, hS240.cell 0 rfl 12 rfl, hS240.cell 0 rfl 13 rfl, hS240.cell 0 rfl 14 rfl, hS240.cell 0 rfl 15 rfl, hS240.cell 0 rfl 16 rfl, trivial⟩, forallC ?_ (forallN)⟩
        refine segF 3 [.v (sv ((H23 x207.toNat 0).1) ((rdD y24.rows x207 z_Row).Cells) ((H23 x207.toNat 0).2)), .v (iv (((rdD y24.rows x207 z_Row).South).e0)), .v (iv (((rdD y24.rows x207 z_Row).South).e1)), .v (iv (((rdD y24.rows x207 z_Row).South).e2)), .v (iv (((rdD y24.rows x207 z_Row).South).e3)), .v (iv (((rdD y24.rows x207 z_Row).South).e4)), .v (iv (((rdD y24.rows x207 z_Row).South).e5)), .v (iv (((rdD y24.rows x207 z_Row).South).e6)), .v (iv (((rdD y24.rows x207 z_Row).South).e7)), .v (iv (((rdD y24.rows x207 z_Row).North).e0)), .v (iv (((rdD y24.rows x207 z_Row).North).e1)), .v (iv (((rdD y24.rows x207 z_Row).North).e2)), .v (iv (((rdD y24.rows x207 z_Row).North).e3)), .v (iv (((rdD y24.rows x207 z_Row).North).e4)), .v (iv (((rdD y24.rows x207 z_Row).North).e5)), .v (iv (((rdD y24.rows x207 z_Row).North).e6)), .v (iv (((rdD y24.rows x207 z_Row).North).e7)), .v (iv ((rdD y24.rows x207 z_Row).West)), .v (iv ((rdD y24.rows x207 z_Row).East))] [2, 8, 10, 12, 16, 17, 18, 19, 20, 21, 85, 86, 92, 93, 94, 99, 100, 101] [(2, (iv p2)), (8, (pt g12)), (10, (pt g20)), (12, (sv A92 x95 c93)), (16, (pt g186)), (17, (.pointer (oepV A21 19 o206))), (18, (iv x196)), (19, (iv (-1))), (20, (iv x207)), (21, (pt g216)), (85, (iv p2)), (86, (iv x196)), (92, (sv A21 y24.rows c22)), (93, (iv (y24.rows.length : Int))), (94, (iv x207)), (99, (pt g20)), (100, (.agg #[(sv ((H23 x207.toNat 0).1) ((rdD y24.rows x207 z_Row).Cells) ((H23 x207.toNat 0).2)), (iv (((rdD y24.rows x207 z_Row).South).e0)), (iv (((rdD y24.rows x207 z_Row).South).e1)), (iv (((rdD y24.rows x207 z_Row).South).e2)), (iv (((rdD y24.rows x207 z_Row).South).e3)), (iv (((rdD y24.rows x207 z_Row).South).e4)), (iv (((rdD y24.rows x207 z_Row).South).e5)), (iv (((rdD y24.rows x207 z_Row).South).e6)), (iv (((rdD y24.rows x207 z_Row).South).e7)), (iv (((rdD y24.rows x207 z_Row).North).e0)), (iv (((rdD y24.rows x207 z_Row).North).e1)), (iv (((rdD y24.rows x207 z_Row).North).e2)), (iv (((rdD y24.rows x207 z_Row).North).e3)), (iv (((rdD y24.rows x207 z_Row).North).e4)), (iv (((rdD y24.rows x207 z_Row).North).e5)), (iv (((rdD y24.rows x207 z_Row).North).e6)), (iv (((rdD y24.rows x207 z_Row).North).e7)), (iv ((rdD y24.rows x207 z_Row).West)), (iv ((rdD y24.rows x207 z_Row).East))])), (101, (iv x196))] [] [0, 1, 2, 3, 4, 5, 6, 7, 8, 9, 10, 11, 12, 13, 14, 15, 16, 17, 18] [(1, ⟨g216, 0, none⟩, (sv ((H23 x207.toNat 0).1) ((rdD y24.rows x207 z_Row).Cells) ((H23 x207.toNat 0).2))), (1, ⟨g216, 1, none⟩, (iv (((rdD y24.rows x207 z_Row).South).e0))), (1, ⟨g216, 2, none⟩, (iv (((rdD y24.rows x207 z_Row).South).e1))), (1, ⟨g216, 3, none⟩, (iv (((rdD y24.rows x207 z_Row).South).e2))), (1, ⟨g216, 4, none⟩, (iv (((rdD y24.rows x207 z_Row).South).e3))), (1, ⟨g216, 5, none⟩, (iv (((rdD y24.rows x207 z_Row).South).e4))), (1, ⟨g216, 6, none⟩, (iv (((rdD y24.rows x207 z_Row).South).e5))), (1, ⟨g216, 7, none⟩, (iv (((rdD y24.rows x207 z_Row).South).e6))), (1, ⟨g216, 8, none⟩, (iv (((rdD y24.rows x207 z_Row).South).e7))), (1, ⟨g216, 9, none⟩, (iv (((rdD y24.rows x207 z_Row).North).e0))), (1, ⟨g216, 10, none⟩, (iv (((rdD y24.rows x207 z_Row).North).e1))), (1, ⟨g216, 11, none⟩, (iv (((rdD y24.rows x207 z_Row).North).e2))), (1, ⟨g216, 12, none⟩, (iv (((rdD y24.rows x207 z_Row).North).e3))), (1, ⟨g216, 13, none⟩, (iv (((rdD y24.rows x207 z_Row).North).e4))), (1, ⟨g216, 14, none⟩, (iv (((rdD y24.rows x207 z_Row).North).e5))), (1, ⟨g216, 15, none⟩, (iv (((rdD y24.rows x207 z_Row).North).e6))), (1, ⟨g216, 16, none⟩, (iv (((rdD y24.rows x207 z_Row).North).e7))), (1, ⟨g216, 17, none⟩, (iv ((rdD y24.rows x207 z_Row).West))), (1, ⟨g216, 18, none⟩, (iv ((rdD y24.rows x207 z_Row).East)))] (fun fb => by kernel_rfl) rfl trivial rfl ?_
        obtain ⟨t241, ht242, hx222⟩ := bind_some hx222
        refine WL.call (some 102) 60 #[(pt g20), (.agg #[(sv ((H23 x207.toNat 0).1) ((rdD y24.rows x207 z_Row).Cells) ((H23 x207.toNat 0).2)), (iv (((rdD y24.rows x207 z_Row).South).e0)), (iv (((rdD y24.rows x207 z_Row).South).e1)), (iv (((rdD y24.rows x207 z_Row).South).e2)), (iv (((rdD y24.rows x207 z_Row).South).e3)), (iv (((rdD y24.rows x207 z_Row).South).e4)), (iv (((rdD y24.rows x207 z_Row).South).e5)), (iv (((rdD y24.rows x207 z_Row).South).e6)), (iv (((rdD y24.rows x207 z_Row).South).e7)), (iv (((rdD y24.rows x207 z_Row).North).e0)), (iv (((rdD y24.rows x207 z_Row).North).e1)), (iv (((rdD y24.rows x207 z_Row).North).e2)), (iv (((rdD y24.rows x207 z_Row).North).e3)), (iv (((rdD y24.rows x207 z_Row).North).e4)), (iv (((rdD y24.rows x207 z_Row).North).e5)), (iv (((rdD y24.rows x207 z_Row).North).e6)), (iv (((rdD y24.rows x207 z_Row).North).e7)), (iv ((rdD y24.rows x207 z_Row).West)), (iv ((rdD y24.rows x207 z_Row).East))]), (iv x196)] (fun fb => by kernel_rfl) (fill_job_allows_calls _ (Job.mk y24.rows y24.width y24.height p3) (rdD y24.rows x207 z_Row) x196 g20 A21 c22 H23 A_p3_North c_p3_North A_p3_East c_p3_East A_p3_South c_p3_South A_p3_West c_p3_West ((H23 x207.toNat 0).1) ((H23 x207.toNat 0).2) t241 _ (hS240.ow 2) (hS240.ow 3).ofO (poolO.ro (hS240.ow 4) 0) (hS240.rd 1) (hS240.rd 2) (hS240.rd 3) (hS240.rd 4) (nestO.ro (poolO.ro (hS240.ow 4) 0) z_Row h215.1 h215.2) ht242) (fun v w243 hR244 => ?_)
        obtain ⟨rfl, hk_⟩ := hR244
        have hS245 := hS240.keepN hk_
        refine ⟨⟨hS245.cell 0 rfl 1 rfl, hS245.cell 0 rfl 2 rfl, hS245.cell 0 rfl 3 rfl, hS245.cell 0 rfl 4 rfl, hS245.cell 0 rfl 5 rfl, hS245.cell 0 rfl 6 rfl, hS245.cell 0 rfl 7 rfl, hS245.cell 0 rfl 8 rfl, hS245.cell 0 rfl 9 rfl, hS245.cell 0 rfl 10 rfl, hS245.cell 0 rfl 11 rfl, hS245.cell 0 rfl 12 rfl, hS245.cell 0 rfl 13 rfl, hS245.cell 0 rfl 14 rfl, hS245.cell 0 rfl 15 rfl, hS245.cell 0 rfl 16 rfl, trivial⟩, ?_⟩
        refine seg 5 [] [2, 8, 10, 12, 16, 17, 18, 19, 20, 21, 85, 86, 92, 93, 94, 103] [(2, (iv p2)), (8, (pt g12)), (10, (pt g20)), (12, (sv A92 x95 c93)), (16, (pt g186)), (17, (.pointer (oepV A21 19 o206))), (18, (iv x196)), (19, (iv (-1))), (20, (iv x207)), (21, (pt g216)), (85, (iv p2)), (86, (iv x196)), (92, (sv A21 y24.rows c22)), (93, (iv (y24.rows.length : Int))), (94, (iv x207)), (103, (bv t241))] [] (fun fb => by kernel_rfl) rfl trivial ?_
        obtain ⟨b246, hv247, hx222⟩ := bind_some hx222
        refine WL.cutV (T := Unit) 17 (fun t => [(115, (bv b246)), (2, (iv p2)), (8, (pt g12)), (10, (pt g20)), (12, (sv A92 x95 c93)), (16, (pt g186)), (17, (.pointer (oepV A21 19 o206))), (18, (iv x196)), (19, (iv (-1))), (20, (iv x207)), (21, (pt g216)), (85, (iv p2)), (86, (iv x196)), (92, (sv A21 y24.rows c22)), (93, (iv (y24.rows.length : Int))), (94, (iv x207))]) (fun t => True) (fun K => ?_) ?_
        ·
         rcases br_some hv247 with ⟨h248, hv247⟩ | ⟨h248, hv247⟩
         ·
          refine WL.setB 103 h248 rfl ?_
          refine seg 6 [] [2, 8, 10, 12, 16, 17, 18, 19, 20, 21, 85, 86, 92, 93, 94, 103, 104] [(2, (iv p2)), (8, (pt g12)), (10, (pt g20)), (12, (sv A92 x95 c93)), (16, (pt g186)), (17, (.pointer (oepV A21 19 o206))), (18, (iv x196)), (19, (iv (-1))), (20, (iv x207)), (21, (pt g216)), (85, (iv p2)), (86, (iv x196)), (92, (sv A21 y24.rows c22)), (93, (iv (y24.rows.length : Int))), (94, (iv x207)), (103, (bv true)), (104, (.pointer (oepV A21 19 o206)))] [] (fun fb => by kernel_rfl) rfl trivial ?_
          rcases optM_some hv247 with ⟨ho249, hv247⟩ | ⟨i250, ho249, hv247⟩
          ·
           have ho249 : o206 = none := ho249
           refine WL.reE [2, 8, 10, 12, 16, 17, 18, 19, 20, 21, 85, 86, 92, 93, 94, 103, 104] [(2, (iv p2)), (8, (pt g12)), (10, (pt g20)), (12, (.slice A92 x95.length c93)), (16, (pt g186)), (17, (.pointer (oepV A21 19 o206))), (18, (iv x196)), (19, (iv (-1))), (20, (iv x207)), (21, (pt g216)), (85, (iv p2)), (86, (iv x196)), (92, (.slice A21 y24.rows.length c22)), (93, (iv (y24.rows.length : Int))), (94, (iv x207)), (103, (.bool true)), (104, (.pointer (oepV A21 19 o206)))] [(2, (iv p2)), (8, (pt g12)), (10, (pt g20)), (12, (.slice A92 x95.length c93)), (16, (pt g186)), (17, (.pointer none)), (18, (iv x196)), (19, (iv (-1))), (20, (iv x207)), (21, (pt g216)), (85, (iv p2)), (86, (iv x196)), (92, (.slice A21 y24.rows.length c22)), (93, (iv (y24.rows.length : Int))), (94, (iv x207)), (103, (.bool true)), (104, (.pointer none))] rfl (by rw [ho249]; rfl) ?_
           refine seg 17 [] [2, 8, 10, 12, 16, 17, 18, 19, 20, 21, 85, 86, 92, 93, 94, 115] [(2, (iv p2)), (8, (pt g12)), (10, (pt g20)), (12, (sv A92 x95 c93)), (16, (pt g186)), (17, (.pointer none)), (18, (iv x196)), (19, (iv (-1))), (20, (iv x207)), (21, (pt g216)), (85, (iv p2)), (86, (iv x196)), (92, (sv A21 y24.rows c22)), (93, (iv (y24.rows.length : Int))), (94, (iv x207)), (115, (bv true))] [] (fun fb => by kernel_rfl) rfl trivial ?_
           refine WL.reE [2, 8, 10, 12, 16, 17, 18, 19, 20, 21, 85, 86, 92, 93, 94, 115] [(2, (iv p2)), (8, (pt g12)), (10, (pt g20)), (12, (.slice A92 x95.length c93)), (16, (pt g186)), (17, (.pointer none)), (18, (iv x196)), (19, (iv (-1))), (20, (iv x207)), (21, (pt g216)), (85, (iv p2)), (86, (iv x196)), (92, (.slice A21 y24.rows.length c22)), (93, (iv (y24.rows.length : Int))), (94, (iv x207)), (115, (.bool true))] [(2, (iv p2)), (8, (pt g12)), (10, (pt g20)), (12, (.slice A92 x95.length c93)), (16, (pt g186)), (17, (.pointer (oepV A21 19 o206))), (18, (iv x196)), (19, (iv (-1))), (20, (iv x207)), (21, (pt g216)), (85, (iv p2)), (86, (iv x196)), (92, (.slice A21 y24.rows.length c22)), (93, (iv (y24.rows.length : Int))), (94, (iv x207)), (115, (.bool true))] rfl (by rw [ho249]; rfl) ?_
           injection hv247 with hv247
           subst hv247
           exact WL.toV K () [115, 2, 8, 10, 12, 16, 17, 18, 19, 20, 21, 85, 86, 92, 93, 94] rfl trivial
          have ho249 : o206 = some i250 := ho249
          refine WL.reE [2, 8, 10, 12, 16, 17, 18, 19, 20, 21, 85, 86, 92, 93, 94, 103, 104] [(2, (iv p2)), (8, (pt g12)), (10, (pt g20)), (12, (.slice A92 x95.length c93)), (16, (pt g186)), (17, (.pointer (oepV A21 19 o206))), (18, (iv x196)), (19, (iv (-1))), (20, (iv x207)), (21, (pt g216)), (85, (iv p2)), (86, (iv x196)), (92, (.slice A21 y24.rows.length c22)), (93, (iv (y24.rows.length : Int))), (94, (iv x207)), (103, (.bool true)), (104, (.pointer (oepV A21 19 o206)))] [(2, (iv p2)), (8, (pt g12)), (10, (pt g20)), (12, (.slice A92 x95.length c93)), (16, (pt g186)), (17, (.pointer (some ((adr A21).add ((i250).toNat * 19))))), (18, (iv x196)), (19, (iv (-1))), (20, (iv x207)), (21, (pt g216)), (85, (iv p2)), (86, (iv x196)), (92, (.slice A21 y24.rows.length c22)), (93, (iv (y24.rows.length : Int))), (94, (iv x207)), (103, (.bool true)), (104, (.pointer (some ((adr A21).add ((i250).toNat * 19)))))] rfl (by rw [ho249]; rfl) ?_
          obtain ⟨h251, hv247⟩ := as_some hv247
          refine segF 17 [.v (iv (((rdD y24.rows x207 z_Row).South).e0)), .v (iv (((rdD y24.rows x207 z_Row).South).e1)), .v (iv (((rdD y24.rows x207 z_Row).South).e2)), .v (iv (((rdD y24.rows x207 z_Row).South).e3)), .v (iv (((rdD y24.rows x207 z_Row).South).e4)), .v (iv (((rdD y24.rows x207 z_Row).South).e5)), .v (iv (((rdD y24.rows x207 z_Row).South).e6)), .v (iv (((rdD y24.rows x207 z_Row).South).e7)), .v (iv (((rdD y24.rows i250 z_Row).North).e0)), .v (iv (((rdD y24.rows i250 z_Row).North).e1)), .v (iv (((rdD y24.rows i250 z_Row).North).e2)), .v (iv (((rdD y24.rows i250 z_Row).North).e3)), .v (iv (((rdD y24.rows i250 z_Row).North).e4)), .v (iv (((rdD y24.rows i250 z_Row).North).e5)), .v (iv (((rdD y24.rows i250 z_Row).North).e6)), .v (iv (((rdD y24.rows i250 z_Row).North).e7))] [2, 8, 10, 12, 16, 17, 18, 19, 20, 21, 85, 86, 92, 93, 94, 115] [(2, (iv p2)), (8, (pt g12)), (10, (pt g20)), (12, (sv A92 x95 c93)), (16, (pt g186)), (17, (.pointer (some ((adr A21).add ((i250).toNat * 19))))), (18, (iv x196)), (19, (iv (-1))), (20, (iv x207)), (21, (pt g216)), (85, (iv p2)), (86, (iv x196)), (92, (sv A21 y24.rows c22)), (93, (iv (y24.rows.length : Int))), (94, (iv x207)), (115, (bv ((((rdD y24.rows i250 z_Row).North).e0) == (((rdD y24.rows x207 z_Row).South).e0) && ((((rdD y24.rows i250 z_Row).North).e1) == (((rdD y24.rows x207 z_Row).South).e1) && ((((rdD y24.rows i250 z_Row).North).e2) == (((rdD y24.rows x207 z_Row).South).e2) && ((((rdD y24.rows i250 z_Row).North).e3) == (((rdD y24.rows x207 z_Row).South).e3) && ((((rdD y24.rows i250 z_Row).North).e4) == (((rdD y24.rows x207 z_Row).South).e4) && ((((rdD y24.rows i250 z_Row).North).e5) == (((rdD y24.rows x207 z_Row).South).e5) && ((((rdD y24.rows i250 z_Row).North).e6) == (((rdD y24.rows x207 z_Row).South).e6) && ((((rdD y24.rows i250 z_Row).North).e7) == (((rdD y24.rows x207 z_Row).South).e7)))))))))))] [.cell (((adr A21).add ((i250).toNat * 19)).add 9) (iv (((rdD y24.rows i250 z_Row).North).e0)), .cell (((adr A21).add ((i250).toNat * 19)).add 10) (iv (((rdD y24.rows i250 z_Row).North).e1)), .cell (((adr A21).add ((i250).toNat * 19)).add 11) (iv (((rdD y24.rows i250 z_Row).North).e2)), .cell (((adr A21).add ((i250).toNat * 19)).add 12) (iv (((rdD y24.rows i250 z_Row).North).e3)), .cell (((adr A21).add ((i250).toNat * 19)).add 13) (iv (((rdD y24.rows i250 z_Row).North).e4)), .cell (((adr A21).add ((i250).toNat * 19)).add 14) (iv (((rdD y24.rows i250 z_Row).North).e5)), .cell (((adr A21).add ((i250).toNat * 19)).add 15) (iv (((rdD y24.rows i250 z_Row).North).e6)), .cell (((adr A21).add ((i250).toNat * 19)).add 16) (iv (((rdD y24.rows i250 z_Row).North).e7))] [19, 20, 21, 22, 23, 24, 25, 26] [(13, ⟨g216, 1, none⟩, (iv (((rdD y24.rows x207 z_Row).South).e0))), (13, ⟨g216, 2, none⟩, (iv (((rdD y24.rows x207 z_Row).South).e1))), (13, ⟨g216, 3, none⟩, (iv (((rdD y24.rows x207 z_Row).South).e2))), (13, ⟨g216, 4, none⟩, (iv (((rdD y24.rows x207 z_Row).South).e3))), (13, ⟨g216, 5, none⟩, (iv (((rdD y24.rows x207 z_Row).South).e4))), (13, ⟨g216, 6, none⟩, (iv (((rdD y24.rows x207 z_Row).South).e5))), (13, ⟨g216, 7, none⟩, (iv (((rdD y24.rows x207 z_Row).South).e6))), (13, ⟨g216, 8, none⟩, (iv (((rdD y24.rows x207 z_Row).South).e7)))] (fun fb => by kernel_rfl) rfl ⟨nrow_cell (rowO.rd (hS245.own 3).1) z_Row h251.1 h251.2 9 rfl, nrow_cell (rowO.rd (hS245.own 3).1) z_Row h251.1 h251.2 10 rfl, nrow_cell (rowO.rd (hS245.own 3).1) z_Row h251.1 h251.2 11 rfl, nrow_cell (rowO.rd (hS245.own 3).1) z_Row h251.1 h251.2 12 rfl, nrow_cell (rowO.rd (hS245.own 3).1) z_Row h251.1 h251.2 13 rfl, nrow_cell (rowO.rd (hS245.own 3).1) z_Row h251.1 h251.2 14 rfl, nrow_cell (rowO.rd (hS245.own 3).1) z_Row h251.1 h251.2 15 rfl, nrow_cell (rowO.rd (hS245.own 3).1) z_Row h251.1 h251.2 16 rfl, trivial⟩ rfl ?_
          refine WL.reE [2, 8, 10, 12, 16, 17, 18, 19, 20, 21, 85, 86, 92, 93, 94, 115] [(2, (iv p2)), (8, (pt g12)), (10, (pt g20)), (12, (.slice A92 x95.length c93)), (16, (pt g186)), (17, (.pointer (some ((adr A21).add ((i250).toNat * 19))))), (18, (iv x196)), (19, (iv (-1))), (20, (iv x207)), (21, (pt g216)), (85, (iv p2)), (86, (iv x196)), (92, (.slice A21 y24.rows.length c22)), (93, (iv (y24.rows.length : Int))), (94, (iv x207)), (115, (.bool ((((rdD y24.rows i250 z_Row).North).e0) == (((rdD y24.rows x207 z_Row).South).e0) && ((((rdD y24.rows i250 z_Row).North).e1) == (((rdD y24.rows x207 z_Row).South).e1) && ((((rdD y24.rows i250 z_Row).North).e2) == (((rdD y24.rows x207 z_Row).South).e2) && ((((rdD y24.rows i250 z_Row).North).e3) == (((rdD y24.rows x207 z_Row).South).e3) && ((((rdD y24.rows i250 z_Row).North).e4) == (((rdD y24.rows x207 z_Row).South).e4) && ((((rdD y24.rows i250 z_Row).North).e5) == (((rdD y24.rows x207 z_Row).South).e5) && ((((rdD y24.rows i250 z_Row).North).e6) == (((rdD y24.rows x207 z_Row).South).e6) && ((((rdD y24.rows i250 z_Row).North).e7) == (((rdD y24.rows x207 z_Row).South).e7)))))))))))] [(2, (iv p2)), (8, (pt g12)), (10, (pt g20)), (12, (.slice A92 x95.length c93)), (16, (pt g186)), (17, (.pointer (oepV A21 19 o206))), (18, (iv x196)), (19, (iv (-1))), (20, (iv x207)), (21, (pt g216)), (85, (iv p2)), (86, (iv x196)), (92, (.slice A21 y24.rows.length c22)), (93, (iv (y24.rows.length : Int))), (94, (iv x207)), (115, (.bool ((((rdD y24.rows i250 z_Row).North).e0) == (((rdD y24.rows x207 z_Row).South).e0) && ((((rdD y24.rows i250 z_Row).North).e1) == (((rdD y24.rows x207 z_Row).South).e1) && ((((rdD y24.rows i250 z_Row).North).e2) == (((rdD y24.rows x207 z_Row).South).e2) && ((((rdD y24.rows i250 z_Row).North).e3) == (((rdD y24.rows x207 z_Row).South).e3) && ((((rdD y24.rows i250 z_Row).North).e4) == (((rdD y24.rows x207 z_Row).South).e4) && ((((rdD y24.rows i250 z_Row).North).e5) == (((rdD y24.rows x207 z_Row).South).e5) && ((((rdD y24.rows i250 z_Row).North).e6) == (((rdD y24.rows x207 z_Row).South).e6) && ((((rdD y24.rows i250 z_Row).North).e7) == (((rdD y24.rows x207 z_Row).South).e7)))))))))))] rfl (by rw [ho249]; rfl) ?_
          injection hv247 with hv247
          subst hv247
          exact WL.toV K () [115, 2, 8, 10, 12, 16, 17, 18, 19, 20, 21, 85, 86, 92, 93, 94] rfl trivial
         refine WL.setB 103 h248 rfl ?_
         refine seg 17 [] [2, 8, 10, 12, 16, 17, 18, 19, 20, 21, 85, 86, 92, 93, 94, 115] [(2, (iv p2)), (8, (pt g12)), (10, (pt g20)), (12, (sv A92 x95 c93)), (16, (pt g186)), (17, (.pointer (oepV A21 19 o206))), (18, (iv x196)), (19, (iv (-1))), (20, (iv x207)), (21, (pt g216)), (85, (iv p2)), (86, (iv x196)), (92, (sv A21 y24.rows c22)), (93, (iv (y24.rows.length : Int))), (94, (iv x207)), (115, (bv false))] [] (fun fb => by kernel_rfl) rfl trivial ?_
         injection hv247 with hv247
         subst hv247
         exact WL.toV K () [115, 2, 8, 10, 12, 16, 17, 18, 19, 20, 21, 85, 86, 92, 93, 94] rfl trivial
        rintro _ _
        refine seg 18 [] [2, 8, 10, 12, 16, 17, 18, 19, 20, 21, 85, 86, 92, 93, 94, 116] [(2, (iv p2)), (8, (pt g12)), (10, (pt g20)), (12, (sv A92 x95 c93)), (16, (pt g186)), (17, (.pointer (oepV A21 19 o206))), (18, (iv x196)), (19, (iv (-1))), (20, (iv x207)), (21, (pt g216)), (85, (iv p2)), (86, (iv x196)), (92, (sv A21 y24.rows c22)), (93, (iv (y24.rows.length : Int))), (94, (iv x207)), (116, (bv b246))] [] (fun fb => by kernel_rfl) rfl trivial ?_
        obtain ⟨b252, hv253, hx222⟩ := bind_some hx222
        refine WL.cutV (T := Unit) 33 (fun t => [(131, (bv b252)), (2, (iv p2)), (8, (pt g12)), (10, (pt g20)), (12, (sv A92 x95 c93)), (16, (pt g186)), (17, (.pointer (oepV A21 19 o206))), (18, (iv x196)), (19, (iv (-1))), (20, (iv x207)), (85, (iv p2)), (86, (iv x196)), (92, (sv A21 y24.rows c22)), (93, (iv (y24.rows.length : Int))), (94, (iv x207))]) (fun t => True) (fun K => ?_) ?_
        ·
         rcases br_some hv253 with ⟨h254, hv253⟩ | ⟨h254, hv253⟩
         ·
          refine WL.setB 116 h254 rfl ?_
          refine seg 23 [] [2, 8, 10, 12, 16, 17, 18, 19, 20, 21, 85, 86, 92, 93, 94, 116, 121] [(2, (iv p2)), (8, (pt g12)), (10, (pt g20)), (12, (sv A92 x95 c93)), (16, (pt g186)), (17, (.pointer (oepV A21 19 o206))), (18, (iv x196)), (19, (iv (-1))), (20, (iv x207)), (21, (pt g216)), (85, (iv p2)), (86, (iv x196)), (92, (sv A21 y24.rows c22)), (93, (iv (y24.rows.length : Int))), (94, (iv x207)), (116, (bv true)), (121, (bv (x196 == (w64 (p2 - 1)))))] [] (fun fb => by kernel_rfl) rfl trivial ?_
          refine WL.setB 121 h223 rfl ?_
          refine seg 26 [] [2, 8, 10, 12, 16, 17, 18, 19, 20, 21, 85, 86, 92, 93, 94, 116, 121, 122, 124] [(2, (iv p2)), (8, (pt g12)), (10, (pt g20)), (12, (sv A92 x95 c93)), (16, (pt g186)), (17, (.pointer (oepV A21 19 o206))), (18, (iv x196)), (19, (iv (-1))), (20, (iv x207)), (21, (pt g216)), (85, (iv p2)), (86, (iv x196)), (92, (sv A21 y24.rows c22)), (93, (iv (y24.rows.length : Int))), (94, (iv x207)), (116, (bv true)), (121, (bv false)), (122, (sv A92 x95 c93)), (124, (iv (w64 (x196 + 1))))] [] (fun fb => by kernel_rfl) rfl trivial ?_
          obtain ⟨h255, hv253⟩ := as_some hv253
          refine segF 29 [.v (iv (((rdD y24.rows x207 z_Row).North).e0)), .v (iv (((rdD y24.rows x207 z_Row).North).e1)), .v (iv (((rdD y24.rows x207 z_Row).North).e2)), .v (iv (((rdD y24.rows x207 z_Row).North).e3)), .v (iv (((rdD y24.rows x207 z_Row).North).e4)), .v (iv (((rdD y24.rows x207 z_Row).North).e5)), .v (iv (((rdD y24.rows x207 z_Row).North).e6)), .v (iv (((rdD y24.rows x207 z_Row).North).e7))] [2, 8, 10, 12, 16, 17, 18, 19, 20, 85, 86, 92, 93, 94, 116, 121, 125, 128] [(2, (iv p2)), (8, (pt g12)), (10, (pt g20)), (12, (sv A92 x95 c93)), (16, (pt g186)), (17, (.pointer (oepV A21 19 o206))), (18, (iv x196)), (19, (iv (-1))), (20, (iv x207)), (85, (iv p2)), (86, (iv x196)), (92, (sv A21 y24.rows c22)), (93, (iv (y24.rows.length : Int))), (94, (iv x207)), (116, (bv true)), (121, (bv false)), (125, (.pointer (some ((adr A92).add ((w64 (x196 + 1)).toNat * 1))))), (128, (.agg #[(iv (((rdD y24.rows x207 z_Row).North).e0)), (iv (((rdD y24.rows x207 z_Row).North).e1)), (iv (((rdD y24.rows x207 z_Row).North).e2)), (iv (((rdD y24.rows x207 z_Row).North).e3)), (iv (((rdD y24.rows x207 z_Row).North).e4)), (iv (((rdD y24.rows x207 z_Row).North).e5)), (iv (((rdD y24.rows x207 z_Row).North).e6)), (iv (((rdD y24.rows x207 z_Row).North).e7))]))] [.idx A92 (w64 (x196 + 1)) x95.length] [27, 28, 29, 30, 31, 32, 33, 34] [(29, ⟨g216, 9, none⟩, (iv (((rdD y24.rows x207 z_Row).North).e0))), (29, ⟨g216, 10, none⟩, (iv (((rdD y24.rows x207 z_Row).North).e1))), (29, ⟨g216, 11, none⟩, (iv (((rdD y24.rows x207 z_Row).North).e2))), (29, ⟨g216, 12, none⟩, (iv (((rdD y24.rows x207 z_Row).North).e3))), (29, ⟨g216, 13, none⟩, (iv (((rdD y24.rows x207 z_Row).North).e4))), (29, ⟨g216, 14, none⟩, (iv (((rdD y24.rows x207 z_Row).North).e5))), (29, ⟨g216, 15, none⟩, (iv (((rdD y24.rows x207 z_Row).North).e6))), (29, ⟨g216, 16, none⟩, (iv (((rdD y24.rows x207 z_Row).North).e7)))] (fun fb => by kernel_rfl) rfl ⟨nrow_adr (rowO.rd (hS245.own 5).1) h255.1 h255.2, trivial⟩ rfl ?_
          obtain ⟨m256, hm257, hv253⟩ := bind_some hv253
          refine seg 30 [.v (.map (some (H94 (w64 (x196 + 1)).toNat)))] [2, 8, 10, 12, 16, 17, 18, 19, 20, 85, 86, 92, 93, 94, 116, 121, 126, 128] [(2, (iv p2)), (8, (pt g12)), (10, (pt g20)), (12, (sv A92 x95 c93)), (16, (pt g186)), (17, (.pointer (oepV A21 19 o206))), (18, (iv x196)), (19, (iv (-1))), (20, (iv x207)), (85, (iv p2)), (86, (iv x196)), (92, (sv A21 y24.rows c22)), (93, (iv (y24.rows.length : Int))), (94, (iv x207)), (116, (bv true)), (121, (bv false)), (126, (.map (some (H94 (w64 (x196 + 1)).toNat)))), (128, (.agg #[(iv (((rdD y24.rows x207 z_Row).North).e0)), (iv (((rdD y24.rows x207 z_Row).North).e1)), (iv (((rdD y24.rows x207 z_Row).North).e2)), (iv (((rdD y24.rows x207 z_Row).North).e3)), (iv (((rdD y24.rows x207 z_Row).North).e4)), (iv (((rdD y24.rows x207 z_Row).North).e5)), (iv (((rdD y24.rows x207 z_Row).North).e6)), (iv (((rdD y24.rows x207 z_Row).North).e7))]))] [.cell ((adr A92).add ((w64 (x196 + 1)).toNat * 1)) (.map (some (H94 (w64 (x196 + 1)).toNat)))] (fun fb => by kernel_rfl) rfl ⟨nrow_cell (rowO.rd (hS245.own 5).1) none h255.1 h255.2 0 (mapV_some hm257), trivial⟩ ?_
          refine WL.lookup (mapsO.at (hS245.own 6).1 h255.1 h255.2 hm257) ((rdD y24.rows x207 z_Row).North) (d := 129) (c := false) (t := 91) (kT := 83) (eT := 4) (z := false) (kE := (aggI ints_A8_Int)) (vE := vB) (l := m256) (bv (mget ((rdD y24.rows x207 z_Row).North) false m256)) (fun fb => by kernel_rfl) fill_First_key83 (by kernel_rfl) (fun _ => by kernel_rfl) rfl ?_
          refine ⟨trivial, ?_⟩
          refine seg 33 [] [2, 8, 10, 12, 16, 17, 18, 19, 20, 85, 86, 92, 93, 94, 131] [(2, (iv p2)), (8, (pt g12)), (10, (pt g20)), (12, (sv A92 x95 c93)), (16, (pt g186)), (17, (.pointer (oepV A21 19 o206))), (18, (iv x196)), (19, (iv (-1))), (20, (iv x207)), (85, (iv p2)), (86, (iv x196)), (92, (sv A21 y24.rows c22)), (93, (iv (y24.rows.length : Int))), (94, (iv x207)), (131, (bv (mget ((rdD y24.rows x207 z_Row).North) false m256)))] [] (fun fb => by kernel_rfl) rfl trivial ?_
          injection hv253 with hv253
          subst hv253
          exact WL.toV K () [131, 2, 8, 10, 12, 16, 17, 18, 19, 20, 85, 86, 92, 93, 94] rfl trivial
         refine WL.setB 116 h254 rfl ?_
         refine seg 33 [] [2, 8, 10, 12, 16, 17, 18, 19, 20, 85, 86, 92, 93, 94, 131] [(2, (iv p2)), (8, (pt g12)), (10, (pt g20)), (12, (sv A92 x95 c93)), (16, (pt g186)), (17, (.pointer (oepV A21 19 o206))), (18, (iv x196)), (19, (iv (-1))), (20, (iv x207)), (85, (iv p2)), (86, (iv x196)), (92, (sv A21 y24.rows c22)), (93, (iv (y24.rows.length : Int))), (94, (iv x207)), (131, (bv false))] [] (fun fb => by kernel_rfl) rfl trivial ?_
         injection hv253 with hv253
         subst hv253
         exact WL.toV K () [131, 2, 8, 10, 12, 16, 17, 18, 19, 20, 85, 86, 92, 93, 94] rfl trivial
        rintro _ _
        refine WL.done rfl ?_
        injection hx222 with hx222
        exact WX.to Kx221 b252 [2, 8, 10, 12, 16, 17, 18, 19, 20, 85, 86, 92, 93, 94, 131] rfl ⟨(hS245.subR [0, 1, 2, 3, 4]).sub [1, 2, 3, 4, 5, 6, 7, 8] (by decide), hx222.symm⟩
       rintro y261 w258 ⟨hS259, hq260⟩
       subst hq260
       refine WX.next ?_
       rcases br_some hl213 with ⟨h262, hl213⟩ | ⟨h262, hl213⟩
       ·refine WC.condT2 (fun fb => by kernel_rfl) h262 ?_
        refine WC.seq ?_
        refine WC.region ?_
        refine seg 2 [] [2, 8, 10, 12, 16, 19, 85, 86] [(2, (iv p2)), (8, (pt g12)), (10, (pt g20)), (12, (sv A92 x95 c93)), (16, (pt g186)), (19, (iv x207)), (85, (iv p2)), (86, (iv x196))] [] (fun fb => by kernel_rfl) rfl trivial ?_
        refine WL.done rfl ?_
        refine WX.next ?_
        refine WC.exit ?_
        injection hl213 with hl213
        exact WX.blockPast (by decide) (WX.thenX (WX.thenX (WX.blockHere (WX.to Kx208 x207 [2, 8, 10, 12, 16, 19, 85, 86] rfl ⟨(hS259.subR [0, 1, 2, 3, 4]).sub [0, 1, 2, 3, 4, 5, 6, 7] (by decide), hl213.symm⟩))))
       refine WC.condF2 (fun fb => by kernel_rfl) h262 ?_
       refine WC.skip ?_
       refine WX.blockN (WX.next ?_)
       refine WC.region ?_
       refine seg 2 [] [2, 8, 10, 12, 16, 17, 18, 19, 85, 86, 92, 93, 94] [(2, (iv p2)), (8, (pt g12)), (10, (pt g20)), (12, (sv A92 x95 c93)), (16, (pt g186)), (17, (.pointer (oepV A21 19 o206))), (18, (iv x196)), (19, (iv (-1))), (85, (iv p2)), (86, (iv x196)), (92, (sv A21 y24.rows c22)), (93, (iv (y24.rows.length : Int))), (94, (iv (w64 (x207 + 1))))] [] (fun fb => by kernel_rfl) rfl trivial ?_
       refine WL.done rfl ?_
       exact WX.again k210 (Nat.lt_succ_self _) (o206, w64 (x207 + 1)) [2, 8, 10, 12, 16, 17, 18, 19, 85, 86, 92, 93, 94] rfl ⟨(hS259.subR [0, 1, 2, 3, 4]).sub [0, 1, 2, 3, 4, 5, 6, 7] (by decide), hl213⟩
      refine WC.condF2 (fun fb => by kernel_rfl) h214 ?_
      refine WC.exit ?_
      injection hl213 with hl213
      exact WX.thenX (WX.thenX (WX.blockHere (WX.to Kx208 (-1) [2, 8, 10, 12, 16, 19, 85, 86] rfl ⟨(hS212.subR [0, 1, 2, 3, 4]).sub [0, 1, 2, 3, 4, 5, 6, 7] (by decide), hl213.symm⟩)))
    rintro y266 w263 ⟨hS264, hq265⟩
    subst hq265
    refine WX.next ?_
    refine WC.seq ?_
    refine WC.seq ?_
    refine WC.region ?_
    refine seg 2 [] [2, 8, 10, 12, 16, 19, 85, 86, 135] [(2, (iv p2)), (8, (pt g12)), (10, (pt g20)), (12, (sv A92 x95 c93)), (16, (pt g186)), (19, (iv x208)), (85, (iv p2)), (86, (iv x196)), (135, (bv (decide (x208 < 0))))] [] (fun fb => by kernel_rfl) rfl trivial ?_
    refine WL.done rfl ?_
    refine WX.next ?_
    rcases br_some hl204 with ⟨h267, hl204⟩ | ⟨h267, hl204⟩
    ·refine WC.condT2 (fun fb => by kernel_rfl) h267 ?_
     refine WC.seq ?_
     refine WC.region ?_
     refine seg 1 [] [8, 136] [(8, (pt g12)), (136, (.agg #[(iv 0), (iv 0), (.slice none 0 0)]))] [] (fun fb => by kernel_rfl) rfl trivial ?_
     refine WL.store hS264 0 rfl [(0, (iv 0)), (1, (iv 0)), (2, (.slice none 0 0))] #[(iv 0), (iv 0), (.slice none 0 0)] (fun fb => by kernel_rfl) (by kernel_rfl) rfl [1, 2, 3, 4, 5, 6, 7] (by decide) (by decide) (fun w268 hS269 => ?_)
     refine ⟨trivial, ?_⟩
     refine seg 3 [] [8, 9] [(8, (pt g12)), (9, (iv 6))] [] (fun fb => by kernel_rfl) rfl trivial ?_
     refine WL.done rfl ?_
     refine WX.next ?_
     refine WC.ret ?_
     have hS270 := hS269.nilrow 3 encInt
     injection hl204 with hl204
     subst hl204
     injection hf with hf
     subst hf
     exact WX.thenR (WX.blockR (WX.thenR (WX.thenR (WX.blockR (WX.thenR (WX.ret_ [.v (iv 0), .v (iv 0), .v (.slice none 0 0)] (.tuple #[(.agg #[(iv 0), (iv 0), (sv none ([] : List Int) 0)]), (iv 6)]) [.cell ⟨g12, 0, none⟩ (iv 0), .cell ⟨g12, 1, none⟩ (iv 0), .cell ⟨g12, 2, none⟩ (.slice none 0 0)] (fun fb => by kernel_rfl) ⟨hS269.cell 0 rfl 0 rfl, hS269.cell 0 rfl 1 rfl, hS269.cell 0 rfl 2 rfl, trivial⟩ ⟨_, rfl, none, 0, rfl, (hS270.sub [0] (by decide)).noR⟩))))))
    refine WC.condF2 (fun fb => by kernel_rfl) h267 ?_
    refine WC.skip ?_
    refine WX.next ?_
    refine WC.seq ?_
    refine WC.region ?_
    refine seg 5 [.v (sv A21 y24.rows c22)] [2, 8, 10, 12, 16, 85, 86, 140, 141] [(2, (iv p2)), (8, (pt g12)), (10, (pt g20)), (12, (sv A92 x95 c93)), (16, (pt g186)), (85, (iv p2)), (86, (iv x196)), (140, (sv A21 y24.rows c22)), (141, (iv x208))] [.cell ⟨g20, 0, none⟩ (sv A21 y24.rows c22)] (fun fb => by kernel_rfl) rfl ⟨hS264.cell 1 rfl 0 rfl, trivial⟩ ?_
    obtain ⟨h271, hl204⟩ := as_some hl204
    refine seg 7 [] [2, 8, 10, 12, 16, 17, 85, 86] [(2, (iv p2)), (8, (pt g12)), (10, (pt g20)), (12, (sv A92 x95 c93)), (16, (pt g186)), (17, (.pointer (some ((adr A21).add ((x208).toNat * 19))))), (85, (iv p2)), (86, (iv x196))] [.idx A21 x208 y24.rows.length] (fun fb => by kernel_rfl) rfl ⟨nrow_adr (rowO.rd (hS264.own 2).1) h271.1 h271.2, trivial⟩ ?_
    refine WL.done rfl ?_
    refine WX.next ?_
    refine WC.regionD ([(1, ⟨g186, 2, none⟩, (sv A192 l194 c193)), (5, ((adr A21).add ((x208).toNat * 19)), (sv ((H23 x208.toNat 0).1) ((rdD y24.rows x208 z_Row).Cells) ((H23 x208.toNat 0).2)))], [0, 1, 2, 3, 4, 5, 7], [[], [0], [], [2], [2, 3], [2, 3, 4], [0, 1, 2, 3, 4, 5], [0, 1, 2, 3, 4, 5, 6], [0, 1, 2, 3, 4, 5, 6, 7]]) [[0, 1, 2, 3, 4, 5, 6, 7, 8]] (by kernel_rfl) (by kernel_rfl) (NoPanic.block (NoPanic.seq (NoPanic.seq (NoPanic.block (NoPanic.seq (NoPanic.body)))))) ?_
    have hS273 := hS264.drew
    revert hS273
    generalize World.drew w263 = w272
    intro hS273
    refine ⟨⟨hS273.cell 6 rfl 2 rfl, nrow_cell (rowO.rd (hS273.own 2).1) z_Row h271.1 h271.2 0 rfl, trivial⟩, forallC ?_ (forallN)⟩
    refine segF 6 [.v (sv A192 l194 c193), .v (sv ((H23 x208.toNat 0).1) ((rdD y24.rows x208 z_Row).Cells) ((H23 x208.toNat 0).2))] [2, 8, 10, 12, 16, 17, 85, 86, 144, 148] [(2, (iv p2)), (8, (pt g12)), (10, (pt g20)), (12, (sv A92 x95 c93)), (16, (pt g186)), (17, (.pointer (some ((adr A21).add ((x208).toNat * 19))))), (85, (iv p2)), (86, (iv x196)), (144, (sv A192 l194 c193)), (148, (sv ((H23 x208.toNat 0).1) ((rdD y24.rows x208 z_Row).Cells) ((H23 x208.toNat 0).2)))] [] [0, 1] [(1, ⟨g186, 2, none⟩, (sv A192 l194 c193)), (5, ((adr A21).add ((x208).toNat * 19)), (sv ((H23 x208.toNat 0).1) ((rdD y24.rows x208 z_Row).Cells) ((H23 x208.toNat 0).2)))] (fun fb => by kernel_rfl) rfl trivial rfl ?_
    obtain ⟨h274, hl204⟩ := as_some hl204
    refine WL.append hS273 7 (d := 149) (tS := 25) (z := (iv 0)) (bytes := 8) (c2 := (H23 x208.toNat 0).2) rfl (fun fb => by kernel_rfl) (nestO.at ((hS273.own 3).1 0) z_Row h271.1 h271.2) (by kernel_rfl) (by kernel_rfl) rfl (by decide) h274 (by decide) [0, 1, 2, 3, 4, 5, 6] (by decide) (by decide) (fun A275 c276 w277 hS278 => ?_)
    refine ⟨trivial, ?_⟩
    refine seg 8 [] [2, 8, 10, 12, 16, 17, 85, 86, 149, 150] [(2, (iv p2)), (8, (pt g12)), (10, (pt g20)), (12, (sv A92 x95 c93)), (16, (pt g186)), (17, (.pointer (some ((adr A21).add ((x208).toNat * 19))))), (85, (iv p2)), (86, (iv x196)), (149, (sv A275 (l194 ++ ((rdD y24.rows x208 z_Row).Cells)) c276)), (150, (.pointer (some ⟨g186, 2, none⟩)))] [] (fun fb => by kernel_rfl) rfl trivial ?_
    refine WL.store hS278 7 rfl [(2, (sv A275 (l194 ++ ((rdD y24.rows x208 z_Row).Cells)) c276))] #[(iv p1), (iv p2), (sv A275 (l194 ++ ((rdD y24.rows x208 z_Row).Cells)) c276)] (fun fb => by kernel_rfl) (by kernel_rfl) rfl [0, 1, 2, 3, 4, 5, 6] (by decide) (by decide) (fun w279 hS280 => ?_)
    refine ⟨trivial, ?_⟩
    refine WL.done rfl ?_
    refine WX.blockN (WX.next ?_)
    refine WC.region ?_
    refine seg 2 [] [2, 8, 10, 12, 16, 17, 85, 86] [(2, (iv p2)), (8, (pt g12)), (10, (pt g20)), (12, (sv A92 x95 c93)), (16, (pt g186)), (17, (.pointer (some ((adr A21).add ((x208).toNat * 19))))), (85, (iv p2)), (86, (iv (w64 (x196 + 1))))] [] (fun fb => by kernel_rfl) rfl trivial ?_
    refine WL.done rfl ?_
    exact WX.again k201 (Nat.lt_succ_self _) ((l194 ++ ((rdD y24.rows x208 z_Row).Cells), (some x208), w64 (x196 + 1)), A275, c276) [2, 8, 10, 12, 16, 17, 85, 86] rfl ⟨(hS280.subR [0, 1, 2, 3, 4]).sub [2, 3, 4, 5, 6, 7, 0, 1] (by decide), hl204⟩
   refine WC.condF2 (fun fb => by kernel_rfl) h205 ?_
   refine WC.exit ?_
   injection hl204 with hl204
   exact WX.thenX (WX.thenX (WX.blockHere (WX.to Kx199 (l194, A192, c193) [8, 16] rfl ⟨(hS203.subR [0, 1, 2, 3, 4]).sub [0, 6, 7] (by decide), hl204.symm⟩)))
 rintro ⟨y284, A197, c198⟩ w281 ⟨hS282, hq283⟩
 subst hq283
 have hf := sum_inr hf
 refine WX.next ?_
 refine WC.seq ?_
 refine WC.region ?_
 refine seg 1 [.v (iv p1), .v (iv p2), .v (sv A197 y284 c198)] [8, 152] [(8, (pt g12)), (152, (.agg #[(iv p1), (iv p2), (sv A197 y284 c198)]))] [.cell ⟨g186, 0, none⟩ (iv p1), .cell ⟨g186, 1, none⟩ (iv p2), .cell ⟨g186, 2, none⟩ (sv A197 y284 c198)] (fun fb => by kernel_rfl) rfl ⟨hS282.cell 1 rfl 0 rfl, hS282.cell 1 rfl 1 rfl, hS282.cell 1 rfl 2 rfl, trivial⟩ ?_
 refine WL.store hS282 0 rfl [(0, (iv p1)), (1, (iv p2)), (2, (sv A197 y284 c198))] #[(iv p1), (iv p2), (sv A197 y284 c198)] (fun fb => by kernel_rfl) (by kernel_rfl) rfl [1, 2] (by decide) (by decide) (fun w285 hS286 => ?_)
 refine ⟨trivial, ?_⟩
 refine seg 3 [] [8, 9] [(8, (pt g12)), (9, (iv 0))] [] (fun fb => by kernel_rfl) rfl trivial ?_
 refine WL.done rfl ?_
 refine WX.next ?_
 refine WC.ret ?_
 injection hf with hf
 subst hf
 exact WX.ret_ [.v (iv p1), .v (iv p2), .v (sv A197 y284 c198)] (.tuple #[(.agg #[(iv p1), (iv p2), (sv A197 y284 c198)]), (iv 0)]) [.cell ⟨g12, 0, none⟩ (iv p1), .cell ⟨g12, 1, none⟩ (iv p2), .cell ⟨g12, 2, none⟩ (sv A197 y284 c198)] (fun fb => by kernel_rfl) ⟨hS286.cell 0 rfl 0 rfl, hS286.cell 0 rfl 1 rfl, hS286.cell 0 rfl 2 rfl, trivial⟩ ⟨_, rfl, A197, c198, rfl, (hS286.sub [2] (by decide)).noR⟩
theorem square_exists_calls (k : Nat) (p0 : List Tile) (p1 : Int) (A_p0 : Option Addr) (c_p0 : Nat) (r : Bool) (w : World) (hR0 : RO NoS w (rowR enc_Tile A_p0 c_p0 p0)) (hf : square_exists k p0 p1 = some r) :
  CallsR Tryd.prog 71 #[(sv A_p0 p0 c_p0), (iv p1)] w (fun v w' => v = (bv r) ∧ Keeps NoS w w') := by
 have hS : St NoS w w [rowR enc_Tile A_p0 c_p0 p0] [] := St.init (ro_cons hR0 (ro_nil _ _))
 refine enter 17 Tryd.func71 rfl Tryd.ntmps71 rfl ?_
 unfold square_exists at hf
 refine WC.seq ?_
 refine WC.region ?_
 refine seg 1 [] [0, 1] [(0, (sv A_p0 p0 c_p0)), (1, (iv p1))] [] (fun fb => by kernel_rfl) rfl trivial ?_
 refine WL.done rfl ?_
 refine WX.next ?_
 refine WC.seq ?_
 refine WC.region ?_
 refine seg 4 [] [8, 9, 10, 11] [(8, (sv A_p0 p0 c_p0)), (9, (iv p1)), (10, (iv p1)), (11, (.agg #[(.slice none 0 0), (.slice none 0 0), (.slice none 0 0), (.slice none 0 0)]))] [] (fun fb => by kernel_rfl) rfl trivial ?_
 obtain ⟨t2, ht3, hf⟩ := bind_some hf
 refine WL.call (some 12) 31 #[(sv A_p0 p0 c_p0), (iv p1), (iv p1), (.agg #[(.slice none 0 0), (.slice none 0 0), (.slice none 0 0), (.slice none 0 0)])] (fun fb => by kernel_rfl) (fill_First_calls _ p0 p1 p1 (Edges.mk ([] : List Int) ([] : List Int) ([] : List Int) ([] : List Int)) A_p0 c_p0 none 0 none 0 none 0 none 0 t2 _ (hS.rd 0) (RO.nilR _ _ _) (RO.nilR _ _ _) (RO.nilR _ _ _) (RO.nilR _ _ _) ht3) (fun v w4 hR5 => ?_)
 obtain ⟨A7, c8, rfl, hk_⟩ := hR5
 have hS6 : St NoS w w4 [rowR enc_Tile A_p0 c_p0 p0] [rowO 3 encInt A7 c8 t2.1.Cells] := hS.call hk_ [] [] (fun g hg => hg.elim) (by simp) (by decide)
 refine ⟨trivial, ?_⟩
 refine seg 8 [] [13, 14] [(13, (.agg #[(iv t2.1.Width), (iv t2.1.Height), (sv A7 t2.1.Cells c8)])), (14, (iv t2.2))] [] (fun fb => by kernel_rfl) rfl trivial ?_
 refine WL.new hS6 5 [] (fun g => (pt g)) (.cells #[(iv 0), (iv 0), (.slice none 0 0)] 27 (0, 0)) [] (fun fb g => by kernel_rfl) trivial (fun g9 w10 hS11 => ?_)
 refine ⟨trivial, ?_⟩
 refine WL.store hS11 0 rfl [(0, (iv t2.1.Width)), (1, (iv t2.1.Height)), (2, (sv A7 t2.1.Cells c8))] #[(iv t2.1.Width), (iv t2.1.Height), (sv A7 t2.1.Cells c8)] (fun fb => by kernel_rfl) (by kernel_rfl) rfl [1] (by decide) (by decide) (fun w12 hS13 => ?_)
 refine ⟨trivial, ?_⟩
 refine seg 11 [] [6] [(6, (iv t2.2))] [] (fun fb => by kernel_rfl) rfl trivial ?_
 refine WL.done rfl ?_
 refine WX.next ?_
 refine WC.seq ?_
 refine WC.region ?_
 refine seg 3 [] [4] [(4, (bv (t2.2 == 0)))] [] (fun fb => by kernel_rfl) rfl trivial ?_
 refine WL.done rfl ?_
 refine WX.next ?_
 refine WC.ret ?_
 injection hf with hf
 subst hf
 exact WX.ret_ [] (bv (t2.2 == 0)) [] (fun fb => by kernel_rfl) trivial ⟨_, rfl, rfl, hS13.keep⟩
theorem square_filled_1_y_calls {σ τ : Type} (k : Nat) (f0 : Int) (f1 : List Tile) (yf : Int → σ → Option (σ × Bool)) (sY : σ) (g_f0 : Nat) (g_f1 : Nat) (A_f1 : Option Addr) (c_f1 : Nat) (yv : Value) (Y : σ → τ → Own) (tY : τ) (Rd : Own) (r : σ) (w : World) (hR0 : RO (fpL [Y sY tY]) w (Rd)) (hR1 : RO (fpL [Y sY tY]) w (blk g_f0 (.cells #[(iv f0)] 3 (0, 0)))) (hR2 : RO (fpL [Y sY tY]) w (blk g_f1 (.cells #[(sv A_f1 f1 c_f1)] 22 (0, 0)))) (hR3 : RO (fpL [Y sY tY]) w (rowR enc_Tile A_f1 c_f1 f1)) (hI : IoOK w [Y sY tY]) (hY : ∀ (x0_ : Int) (s_ : σ) (t_ : τ) (r_ : σ × Bool) (w_ : World), RO (fpL [Y s_ t_]) w_ Rd → IoOK w_ [Y s_ t_] → yf x0_ s_ = some r_ → YieldR Tryd.prog yv #[(iv x0_)] w_ (fun v_ w' => ∃ t1_, v_ = .bool r_.2 ∧ St (fpL [Y s_ t_]) w_ w' [] [Y r_.1 t1_])) (hf : square_filled_1_y k f0 f1 yf sY = some r) :
  CallsR Tryd.prog 88 #[yv, (pt g_f0), (pt g_f1)] w (fun v w' => ∃ (t1_ : τ), v = (.tuple #[]) ∧ St (fpL [Y sY tY]) w w' [] [Y r t1_]) := by
 have hS : St (fpL [Y sY tY]) w w [Rd, blk g_f0 (.cells #[(iv f0)] 3 (0, 0)), blk g_f1 (.cells #[(sv A_f1 f1 c_f1)] 22 (0, 0)), rowR enc_Tile A_f1 c_f1 f1] [Y sY tY] := St.initIO (ro_cons hR0 (ro_cons hR1 (ro_cons hR2 (ro_cons hR3 (ro_nil _ _))))) hI
 refine enter 19 Tryd.func88 rfl Tryd.ntmps88 rfl ?_
 unfold square_filled_1_y at hf
 refine WC.seq ?_
 refine WC.region ?_
 refine seg 1 [] [0, 1, 2, 4] [(0, yv), (1, (pt g_f0)), (2, (pt g_f1)), (4, (iv 1))] [] (fun fb => by kernel_rfl) rfl trivial ?_
 refine WL.done rfl ?_
 refine WX.next ?_
 obtain ⟨x8, hx9, hf⟩ := bind_some hf
 refine WC.cutN (T := σ × τ) (fun t => []) (fun t w1 => St (fpL [Y sY tY]) w w1 [Rd, blk g_f0 (.cells #[(iv f0)] 3 (0, 0)), blk g_f1 (.cells #[(sv A_f1 f1 c_f1)] 22 (0, 0)), rowR enc_Tile A_f1 c_f1 f1] [Y t.1 t.2] ∧ x8 = .inr t.1) (fun Kx8 => ?_) ?_
 ·
  refine WC.block ?_
  refine WC.loop (T := (Int × σ) × τ) (fun t => [(0, yv), (1, (pt g_f0)), (2, (pt g_f1)), (4, (iv t.1.1))]) (fun n t w1 => St (fpL [Y sY tY]) w w1 [Rd, blk g_f0 (.cells #[(iv f0)] 3 (0, 0)), blk g_f1 (.cells #[(sv A_f1 f1 c_f1)] 22 (0, 0)), rowR enc_Tile A_f1 c_f1 f1] [Y t.1.2 t.2] ∧ square_filled_1_y.l0 n t.1.1 t.1.2 f0 f1 yf = some x8) k ((1, sY), tY) [0, 1, 2, 4] rfl ⟨(hS.subR [0, 1, 2, 3]).sub [0] (by decide), hx9⟩ ?_
  rintro k10 ⟨⟨x4, s5⟩, tt6⟩ w11 ⟨hS12, hl13⟩
  cases k10 with
  | zero => rw [square_filled_1_y.l0] at hl13; cases hl13
  | succ k10 =>
   rw [square_filled_1_y.l0] at hl13
   refine WC.seq ?_
   refine WC.seq ?_
   refine WC.region ?_
   refine seg 4 [.v (iv f0)] [0, 1, 2, 4, 8] [(0, yv), (1, (pt g_f0)), (2, (pt g_f1)), (4, (iv x4)), (8, (bv (decide (x4 ≤ f0))))] [.cell ⟨g_f0, 0, none⟩ (iv f0)] (fun fb => by kernel_rfl) rfl ⟨blk_cell (hS12.rd 1).1 0 rfl, trivial⟩ ?_
   obtain ⟨x14, hx15, hl13⟩ := bind_some hl13
   refine WL.cutW (T := Bool) 8 (fun t => [(0, yv), (1, (pt g_f0)), (2, (pt g_f1)), (4, (iv x4)), (12, (bv t))]) (fun t w1 => (St (fpL [Y sY tY]) w w1 [Rd, blk g_f0 (.cells #[(iv f0)] 3 (0, 0)), blk g_f1 (.cells #[(sv A_f1 f1 c_f1)] 22 (0, 0)), rowR enc_Tile A_f1 c_f1 f1] [Y s5 tt6] ∧ x14 = t) ∧ CellsOK [] w1) (fun K => ?_) ?_
   ·
    rcases br_some hx15 with ⟨h16, hx15⟩ | ⟨h16, hx15⟩
    ·
     refine WL.setB 8 h16 rfl ?_
     refine seg 6 [.v (sv A_f1 f1 c_f1)] [0, 1, 2, 4, 8, 9, 10] [(0, yv), (1, (pt g_f0)), (2, (pt g_f1)), (4, (iv x4)), (8, (bv true)), (9, (sv A_f1 f1 c_f1)), (10, (iv x4))] [.cell ⟨g_f1, 0, none⟩ (sv A_f1 f1 c_f1)] (fun fb => by kernel_rfl) rfl ⟨blk_cell (hS12.rd 2).1 0 rfl, trivial⟩ ?_
     obtain ⟨t17, ht18, hx15⟩ := bind_some hx15
     refine WL.call (some 11) 71 #[(sv A_f1 f1 c_f1), (iv x4)] (fun fb => by kernel_rfl) (square_exists_calls _ f1 x4 A_f1 c_f1 t17 _ (hS12.rd 3) ht18) (fun v w19 hR20 => ?_)
     obtain ⟨rfl, hk_⟩ := hR20
     have hS21 := hS12.keepN hk_
     refine ⟨trivial, ?_⟩
     refine seg 8 [] [0, 1, 2, 4, 12] [(0, yv), (1, (pt g_f0)), (2, (pt g_f1)), (4, (iv x4)), (12, (bv t17))] [] (fun fb => by kernel_rfl) rfl trivial ?_
     injection hx15 with hx15
     exact WL.to K t17 [0, 1, 2, 4, 12] rfl ⟨⟨(hS21.subR [0, 1, 2, 3]).sub [0] (by decide), hx15.symm⟩, trivial⟩
    refine WL.setB 8 h16 rfl ?_
    refine seg 8 [] [0, 1, 2, 4, 12] [(0, yv), (1, (pt g_f0)), (2, (pt g_f1)), (4, (iv x4)), (12, (bv false))] [] (fun fb => by kernel_rfl) rfl trivial ?_
    injection hx15 with hx15
    exact WL.to K false [0, 1, 2, 4, 12] rfl ⟨⟨(hS12.subR [0, 1, 2, 3]).sub [0] (by decide), hx15.symm⟩, trivial⟩
   rintro y22 w24 ⟨⟨hS25, hq23⟩, hF26⟩
   subst hq23
   refine WL.done rfl ?_
   refine WX.next ?_
   rcases br_some hl13 with ⟨h27, hl13⟩ | ⟨h27, hl13⟩
   ·refine WC.condT2 (fun fb => by kernel_rfl) h27 ?_
    refine WC.skip ?_
    refine WX.next ?_
    refine WC.seq ?_
    refine WC.block ?_
    refine WC.seq ?_
    refine WC.region ?_
    refine seg 2 [] [0, 1, 2, 4, 15, 16] [(0, yv), (1, (pt g_f0)), (2, (pt g_f1)), (4, (iv x4)), (15, yv), (16, (iv x4))] [] (fun fb => by kernel_rfl) rfl trivial ?_
    obtain ⟨t28, ht29, hl13⟩ := bind_some hl13
    refine WL.yield (some 17) yv #[(iv x4)] (fun fb => by kernel_rfl) (hY x4 s5 tt6 t28 _  (hS25.rdT [0] 0) (hS25.io [0] (by decide)) ht29) (fun v w30 hR31 => ?_)
    obtain ⟨tt33, rfl, hk_⟩ := hR31
    have hS32 : St (fpL [Y sY tY]) w w30 [Rd, blk g_f0 (.cells #[(iv f0)] 3 (0, 0)), blk g_f1 (.cells #[(sv A_f1 f1 c_f1)] 22 (0, 0)), rowR enc_Tile A_f1 c_f1 f1] [Y t28.1 tt33] := hS25.call hk_ [0] [] (fun g hg => fpL_sel g hg) (by decide) (by decide)
    refine ⟨trivial, ?_⟩
    refine seg 4 [] [0, 1, 2, 4, 18] [(0, yv), (1, (pt g_f0)), (2, (pt g_f1)), (4, (iv x4)), (18, (bv (!t28.2)))] [] (fun fb => by kernel_rfl) rfl trivial ?_
    refine WL.done rfl ?_
    refine WX.next ?_
    rcases br_some hl13 with ⟨h34, hl13⟩ | ⟨h34, hl13⟩
    ·refine WC.condT2 (fun fb => by kernel_rfl) h34 ?_
     refine WC.ret ?_
     injection hl13 with hl13
     subst hl13
     injection hf with hf
     subst hf
     exact WX.blockR (WX.thenR (WX.thenR (WX.blockR (WX.ret_ [] (.tuple #[]) [] (fun fb => by kernel_rfl) trivial ⟨_, rfl, tt33, rfl, (hS32.sub [0] (by decide)).noR⟩))))
    refine WC.condF2 (fun fb => by kernel_rfl) h34 ?_
    refine WC.skip ?_
    refine WX.blockN (WX.next ?_)
    refine WC.region ?_
    refine seg 3 [] [0, 1, 2, 4] [(0, yv), (1, (pt g_f0)), (2, (pt g_f1)), (4, (iv (w64 (x4 + 1))))] [] (fun fb => by kernel_rfl) rfl trivial ?_
    refine WL.done rfl ?_
    exact WX.again k10 (Nat.lt_succ_self _) ((w64 (x4 + 1), t28.1), tt33) [0, 1, 2, 4] rfl ⟨(hS32.subR [0, 1, 2, 3]).sub [0] (by decide), hl13⟩
   refine WC.condF2 (fun fb => by kernel_rfl) h27 ?_
   refine WC.exit ?_
   injection hl13 with hl13
   exact WX.thenX (WX.thenX (WX.blockHere (WX.to Kx8 (s5, tt6) [] rfl ⟨(hS25.subR [0, 1, 2, 3]).sub [0] (by decide), hl13.symm⟩)))
 rintro ⟨y38, tt7⟩ w35 ⟨hS36, hq37⟩
 subst hq37
 have hf := sum_inr hf
 injection hf with hf
 subst hf
 exact WX.end_ [] (.tuple #[]) [] (fun fb => by kernel_rfl) trivial ⟨_, rfl, tt7, rfl, (hS36.sub [0] (by decide)).noR⟩
theorem square_Largest_calls (k : Nat) (p0 : List Tile) (p1 : Int) (A_p0 : Option Addr) (c_p0 : Nat) (r : Int × Int) (w : World) (hR0 : RO NoS w (rowR enc_Tile A_p0 c_p0 p0)) (hf : square_Largest k p0 p1 = some r) :
  CallsR Tryd.prog 45 #[(sv A_p0 p0 c_p0), (iv p1)] w (fun v w' => v = (.tuple #[(iv r.1), (iv r.2)]) ∧ Keeps NoS w w') := by
 have hS : St NoS w w [rowR enc_Tile A_p0 c_p0 p0] [] := St.init (ro_cons hR0 (ro_nil _ _))
 refine enter 24 Tryd.func45 rfl Tryd.ntmps45 rfl ?_
 unfold square_Largest at hf
 refine WC.seq ?_
 refine WC.region ?_
 refine seg 2 [] [0, 1] [(0, (sv A_p0 p0 c_p0)), (1, (iv p1))] [] (fun fb => by kernel_rfl) rfl trivial ?_
 refine WL.done rfl ?_
 refine WX.next ?_
 refine WC.seq ?_
 refine WC.seq ?_
 refine WC.region ?_
 refine seg 2 [] [0, 1, 9, 10] [(0, (sv A_p0 p0 c_p0)), (1, (iv p1)), (9, (sv A_p0 p0 c_p0)), (10, (iv p1))] [] (fun fb => by kernel_rfl) rfl trivial ?_
 obtain ⟨t3, ht4, hf⟩ := bind_some hf
 refine WL.call (some 11) 70 #[(sv A_p0 p0 c_p0), (iv p1)] (fun fb => by kernel_rfl) (square_check_calls _ p0 p1 A_p0 c_p0 t3 _ (hS.rd 0) ht4) (fun v w5 hR6 => ?_)
 obtain ⟨rfl, hk_⟩ := hR6
 have hS7 := hS.keepN hk_
 refine ⟨trivial, ?_⟩
 refine seg 4 [] [0, 1, 6] [(0, (sv A_p0 p0 c_p0)), (1, (iv p1)), (6, (iv t3))] [] (fun fb => by kernel_rfl) rfl trivial ?_
 refine WL.done rfl ?_
 refine WX.next ?_
 refine WC.seq ?_
 refine WC.region ?_
 refine seg 2 [] [0, 1, 6, 13] [(0, (sv A_p0 p0 c_p0)), (1, (iv p1)), (6, (iv t3)), (13, (bv (t3 != 0)))] [] (fun fb => by kernel_rfl) rfl trivial ?_
 refine WL.done rfl ?_
 refine WX.next ?_
 rcases br_some hf with ⟨h8, hf⟩ | ⟨h8, hf⟩
 ·refine WC.condT2 (fun fb => by kernel_rfl) h8 ?_
  refine WC.seq ?_
  refine WC.region ?_
  refine seg 3 [] [4, 5] [(4, (iv 0)), (5, (iv t3))] [] (fun fb => by kernel_rfl) rfl trivial ?_
  refine WL.done rfl ?_
  refine WX.next ?_
  refine WC.ret ?_
  injection hf with hf
  subst hf
  exact WX.thenR (WX.ret_ [] (.tuple #[(iv 0), (iv t3)]) [] (fun fb => by kernel_rfl) trivial ⟨_, rfl, rfl, hS7.keep⟩)
 refine WC.condF2 (fun fb => by kernel_rfl) h8 ?_
 refine WC.skip ?_
 refine WX.next ?_
 refine WC.seq ?_
 refine WC.region ?_
 refine WL.new hS7 7 [] (fun g => (pt g)) (.cells #[(iv 0)] 3 (0, 0)) [] (fun fb g => by kernel_rfl) trivial (fun g9 w10 hS11 => ?_)
 refine ⟨trivial, ?_⟩
 refine WL.store hS11 0 rfl [(0, (iv 0))] #[(iv 0)] (fun fb => by kernel_rfl) (by kernel_rfl) rfl [] (by decide) (by decide) (fun w12 hS13 => ?_)
 refine ⟨trivial, ?_⟩
 refine WL.done rfl ?_
 refine WX.next ?_
 refine WC.seq ?_
 refine WC.seq ?_
 refine WC.region ?_
 refine seg 2 [] [1, 7, 15, 16] [(1, (iv p1)), (7, (pt g9)), (15, (sv A_p0 p0 c_p0)), (16, (iv p1))] [] (fun fb => by kernel_rfl) rfl trivial ?_
 obtain ⟨t14, ht15, hf⟩ := bind_some hf
 refine WL.call (some 17) 72 #[(sv A_p0 p0 c_p0), (iv p1)] (fun fb => by kernel_rfl) (square_filled_calls p0 p1 A_p0 c_p0 t14 _ (hS13.rd 0) ht15) (fun v w16 hR17 => ?_)
 obtain ⟨g19, g20, rfl, hk_⟩ := hR17
 have hS18 : St NoS w w16 [rowR enc_Tile A_p0 c_p0 p0] [blk g19 (.cells #[(iv p1)] 3 (0, 0)), blk g20 (.cells #[(.slice A_p0 p0.length c_p0)] 22 (0, 0)), blk g9 (.cells #[(iv 0)] 3 (0, 0))] := hS13.call hk_ [] [0] (fun g hg => hg.elim) (by simp) (by decide)
 refine ⟨trivial, ?_⟩
 refine WL.done rfl ?_
 refine WX.next ?_
 refine WC.block ?_
 refine WC.rangeO hS18 (fun _ _ h => h) rfl (gf := 88) (lb := [(pt g19), (pt g20)]) (fun fb => by kernel_rfl) (fun _ => by kernel_rfl) (fun LO22 LB23 LX24 l25 D26 w27 hK28 hS29 => ?_)
 have hS30 : St NoS w w27 [rowR enc_Tile A_p0 c_p0 p0] [(fun (s_ : Int × Int) (t_ : Unit) => sepO (blk l25 (LO22 (pendN [] s_.2)) :: [blk g9 (.cells #[(iv s_.1)] 3 (0, 0))])) (0, (0 : Int)) (), blk D26 (.deferred (some [])), blk g19 (.cells #[(iv p1)] 3 (0, 0)), blk g20 (.cells #[(sv A_p0 p0 c_p0)] 22 (0, 0))] := hS29.pack [0, 4] [1, 2, 3] (by decide) (by decide) (by decide)
 have hY32 : ∀ (x0_ : Int) (s_ : Int × Int) (t_ : Unit) (r_ : (Int × Int) × Bool) (w_ : World), RO (fpL [(fun (s_ : Int × Int) (t_ : Unit) => sepO (blk l25 (LO22 (pendN [] s_.2)) :: [blk g9 (.cells #[(iv s_.1)] 3 (0, 0))])) s_ t_]) w_ (poolO [rowR enc_Tile A_p0 c_p0 p0]) → IoOK w_ [(fun (s_ : Int × Int) (t_ : Unit) => sepO (blk l25 (LO22 (pendN [] s_.2)) :: [blk g9 (.cells #[(iv s_.1)] 3 (0, 0))])) s_ t_] → square_Largest.b1 k  x0_ s_ = some r_ → YieldR Tryd.prog (.func (.yield l25) #[] #[]) #[(iv x0_)] w_ (fun v_ w' => ∃ t1_, v_ = .bool r_.2 ∧ St (fpL [(fun (s_ : Int × Int) (t_ : Unit) => sepO (blk l25 (LO22 (pendN [] s_.2)) :: [blk g9 (.cells #[(iv s_.1)] 3 (0, 0))])) s_ t_]) w_ w' [] [(fun (s_ : Int × Int) (t_ : Unit) => sepO (blk l25 (LO22 (pendN [] s_.2)) :: [blk g9 (.cells #[(iv s_.1)] 3 (0, 0))])) r_.1 t1_]) := by
  rintro x31 ⟨x21, j33⟩ ⟨⟩ r34 w35 hRd36 hI37 hf38
  rw [square_Largest.b1] at hf38
  obtain ⟨hj40, hf38⟩ := as_some hf38
  subst hj40
  have hRo41 := hRd36.openSep
  have hS39 : St (fpL [blk l25 (LO22 none), blk g9 (.cells #[(iv x21)] 3 (0, 0))]) w35 w35 [rowR enc_Tile A_p0 c_p0 p0] [blk l25 (LO22 none), blk g9 (.cells #[(iv x21)] 3 (0, 0))] := St.initIO (ro_cons (poolO.ro hRo41 0) (ro_nil _ _)) hI37.openSep
  refine YieldR.of_loop hK28 (hS39.blkAt 0 rfl) [(iv x31)] [1, 7] [(1, (iv p1)), (7, (pt g9))] [(18, (iv x31)), (1, (iv p1)), (7, (pt g9))] rfl rfl rfl rfl rfl ?_
  refine WC.region ?_
  refine seg 1 [] [1, 7, 8] [(1, (iv p1)), (7, (pt g9)), (8, (iv x31))] [] (fun fb => by kernel_rfl) rfl trivial ?_
  refine WL.done rfl ?_
  refine WX.begin' hK28 (hS39.blkAt 0 rfl) ?_
  have hS42 := hS39.putO 0 rfl LB23 [1] (by decide) (by decide)
  revert hS42
  generalize World.putObj _ _ _ = w43
  intro hS42
  have hS44 : St (fpL [blk l25 (LO22 none), blk g9 (.cells #[(iv x21)] 3 (0, 0))]) w35 w43 [rowR enc_Tile A_p0 c_p0 p0] [blk l25 LB23, blk g9 (.cells #[(iv x21)] 3 (0, 0))] := hS42
  refine WC.block ?_
  refine WC.region ?_
  refine seg 1 [] [1, 7, 19] [(1, (iv p1)), (7, (pt g9)), (19, (iv x31))] [] (fun fb => by kernel_rfl) rfl trivial ?_
  refine WL.store hS44 1 rfl [(0, (iv x31))] #[(iv x31)] (fun fb => by kernel_rfl) (by kernel_rfl) rfl [0] (by decide) (by decide) (fun w46 hS47 => ?_)
  refine ⟨trivial, ?_⟩
  refine WL.done rfl ?_
  injection hf38 with hf38
  subst hf38
  exact WX.blockN (WX.roundN' hK28 (hS47.blkAt 1 rfl) ⟨(), rfl, ((hS47.putO 1 rfl (LO22 none) [0] (by decide) (by decide)).sub [0, 1] (by decide)).noR.closeSep⟩)
 obtain ⟨t48, ht49, hf⟩ := bind_some hf
 refine (square_filled_1_y_calls _ p1 p0 (square_Largest.b1 k ) (0, (0 : Int)) g19 g20 A_p0 c_p0 (.func (.yield l25) #[] #[]) (fun (s_ : Int × Int) (t_ : Unit) => sepO (blk l25 (LO22 (pendN [] s_.2)) :: [blk g9 (.cells #[(iv s_.1)] 3 (0, 0))])) () (poolO [rowR enc_Tile A_p0 c_p0 p0]) t48 _ (hS30.rdP [0]) (hS30.owT [0] 2 (by decide)) (hS30.owT [0] 3 (by decide)) (hS30.rdT [0] 0) (hS30.io [0] (by decide)) hY32 ht49).post (fun v w50 hR51 => ?_)
 obtain ⟨tt53, rfl, hk_⟩ := hR51
 have hS52 : St NoS w w50 [rowR enc_Tile A_p0 c_p0 p0] [(fun (s_ : Int × Int) (t_ : Unit) => sepO (blk l25 (LO22 (pendN [] s_.2)) :: [blk g9 (.cells #[(iv s_.1)] 3 (0, 0))])) t48 tt53, blk D26 (.deferred (some [])), blk g19 (.cells #[(iv p1)] 3 (0, 0)), blk g20 (.cells #[(sv A_p0 p0 c_p0)] 22 (0, 0))] := hS30.call hk_ [0] [1, 2, 3] (fun g hg => fpL_sel g hg) (by decide) (by decide)
 have hS54 : St NoS w w50 [rowR enc_Tile A_p0 c_p0 p0] [blk l25 (LO22 (pendN [] t48.2)), blk g9 (.cells #[(iv t48.1)] 3 (0, 0)), blk D26 (.deferred (some [])), blk g19 (.cells #[(iv p1)] 3 (0, 0)), blk g20 (.cells #[(sv A_p0 p0 c_p0)] 22 (0, 0))] := hS52.unpack 0 rfl [1, 2, 3] (by decide) (by decide)
 refine ⟨_, hS54.blkAt 0 rfl, ?_⟩
 have hS55 := (hS54.putO 0 rfl (LX24 (pendN [] t48.2)) [1, 2, 3, 4] (by decide) (by decide)).tail
 revert hS55
 generalize World.putObj _ _ _ = w56
 intro hS55
 have hS57 : St NoS w w56 [rowR enc_Tile A_p0 c_p0 p0] [blk g9 (.cells #[(iv t48.1)] 3 (0, 0)), blk D26 (.deferred (some [])), blk g19 (.cells #[(iv p1)] 3 (0, 0)), blk g20 (.cells #[(sv A_p0 p0 c_p0)] 22 (0, 0))] := hS55
 obtain ⟨h58, hf⟩ := as_some hf
 rw [h58]
 refine WX.keep [1, 7, 4294967295] [(1, (iv p1)), (7, (pt g9)), (4294967295, (.func (.yield D26) #[] #[]))] rfl ?_
 refine WX.blockN (WX.next ?_)
 refine WC.seq ?_
 refine WC.seq ?_
 refine WC.region ?_
 refine seg 3 [.v (iv t48.1)] [7, 22, 4294967295] [(7, (pt g9)), (22, (bv (t48.1 == p1))), (4294967295, (.func (.yield D26) #[] #[]))] [.cell ⟨g9, 0, none⟩ (iv t48.1)] (fun fb => by kernel_rfl) rfl ⟨hS57.cell 0 rfl 0 rfl, trivial⟩ ?_
 refine WL.done rfl ?_
 refine WX.next ?_
 rcases br_some hf with ⟨h59, hf⟩ | ⟨h59, hf⟩
 ·refine WC.condT2 (fun fb => by kernel_rfl) h59 ?_
  refine WC.seq ?_
  refine WC.region ?_
  refine seg 2 [] [4, 5, 4294967295] [(4, (iv 0)), (5, (iv 6)), (4294967295, (.func (.yield D26) #[] #[]))] [] (fun fb => by kernel_rfl) rfl trivial ?_
  refine WL.done rfl ?_
  refine WX.next ?_
  refine WC.ret ?_
  injection hf with hf
  subst hf
  exact WX.thenR (WX.retM hS57 1 rfl rfl [0, 2, 3] (by decide) (by decide) [] (.tuple #[(iv 0), (iv 6)]) [] (fun fb => by kernel_rfl) (fun w61 hS60 => ⟨trivial, ⟨rfl, hS60.keep⟩⟩))
 refine WC.condF2 (fun fb => by kernel_rfl) h59 ?_
 refine WC.skip ?_
 refine WX.next ?_
 refine WC.seq ?_
 refine WC.region ?_
 refine seg 3 [.v (iv t48.1)] [4, 5, 4294967295] [(4, (iv t48.1)), (5, (iv 0)), (4294967295, (.func (.yield D26) #[] #[]))] [.cell ⟨g9, 0, none⟩ (iv t48.1)] (fun fb => by kernel_rfl) rfl ⟨hS57.cell 0 rfl 0 rfl, trivial⟩ ?_
 refine WL.done rfl ?_
 refine WX.next ?_
 refine WC.ret ?_
 injection hf with hf
 subst hf
 exact WX.retM hS57 1 rfl rfl [0, 2, 3] (by decide) (by decide) [] (.tuple #[(iv t48.1), (iv 0)]) [] (fun fb => by kernel_rfl) (fun w63 hS62 => ⟨trivial, ⟨rfl, hS62.keep⟩⟩)
theorem square_Exists_calls (k : Nat) (p0 : List Tile) (p1 : Int) (A_p0 : Option Addr) (c_p0 : Nat) (r : Bool × Int) (w : World) (hR0 : RO NoS w (rowR enc_Tile A_p0 c_p0 p0)) (hf : square_Exists k p0 p1 = some r) :
  CallsR Tryd.prog 44 #[(sv A_p0 p0 c_p0), (iv p1)] w (fun v w' => v = (.tuple #[(bv r.1), (iv r.2)]) ∧ Keeps NoS w w') := by
 have hS : St NoS w w [rowR enc_Tile A_p0 c_p0 p0] [] := St.init (ro_cons hR0 (ro_nil _ _))
 refine enter 16 Tryd.func44 rfl Tryd.ntmps44 rfl ?_
 unfold square_Exists at hf
 refine WC.seq ?_
 refine WC.region ?_
 refine seg 2 [] [0, 1] [(0, (sv A_p0 p0 c_p0)), (1, (iv p1))] [] (fun fb => by kernel_rfl) rfl trivial ?_
 refine WL.done rfl ?_
 refine WX.next ?_
 refine WC.seq ?_
 refine WC.seq ?_
 refine WC.region ?_
 refine seg 2 [] [0, 1, 7, 8] [(0, (sv A_p0 p0 c_p0)), (1, (iv p1)), (7, (sv A_p0 p0 c_p0)), (8, (iv p1))] [] (fun fb => by kernel_rfl) rfl trivial ?_
 obtain ⟨t3, ht4, hf⟩ := bind_some hf
 refine WL.call (some 9) 70 #[(sv A_p0 p0 c_p0), (iv p1)] (fun fb => by kernel_rfl) (square_check_calls _ p0 p1 A_p0 c_p0 t3 _ (hS.rd 0) ht4) (fun v w5 hR6 => ?_)
 obtain ⟨rfl, hk_⟩ := hR6
 have hS7 := hS.keepN hk_
 refine ⟨trivial, ?_⟩
 refine seg 4 [] [0, 1, 6] [(0, (sv A_p0 p0 c_p0)), (1, (iv p1)), (6, (iv t3))] [] (fun fb => by kernel_rfl) rfl trivial ?_
 refine WL.done rfl ?_
 refine WX.next ?_
 refine WC.seq ?_
 refine WC.region ?_
 refine seg 2 [] [0, 1, 6, 11] [(0, (sv A_p0 p0 c_p0)), (1, (iv p1)), (6, (iv t3)), (11, (bv (t3 != 0)))] [] (fun fb => by kernel_rfl) rfl trivial ?_
 refine WL.done rfl ?_
 refine WX.next ?_
 rcases br_some hf with ⟨h8, hf⟩ | ⟨h8, hf⟩
 ·refine WC.condT2 (fun fb => by kernel_rfl) h8 ?_
  refine WC.seq ?_
  refine WC.region ?_
  refine seg 3 [] [4, 5] [(4, (bv false)), (5, (iv t3))] [] (fun fb => by kernel_rfl) rfl trivial ?_
  refine WL.done rfl ?_
  refine WX.next ?_
  refine WC.ret ?_
  injection hf with hf
  subst hf
  exact WX.thenR (WX.ret_ [] (.tuple #[(bv false), (iv t3)]) [] (fun fb => by kernel_rfl) trivial ⟨_, rfl, rfl, hS7.keep⟩)
 refine WC.condF2 (fun fb => by kernel_rfl) h8 ?_
 refine WC.skip ?_
 refine WX.next ?_
 refine WC.seq ?_
 refine WC.region ?_
 refine seg 2 [] [13, 14] [(13, (sv A_p0 p0 c_p0)), (14, (iv p1))] [] (fun fb => by kernel_rfl) rfl trivial ?_
 obtain ⟨t9, ht10, hf⟩ := bind_some hf
 refine WL.call (some 15) 71 #[(sv A_p0 p0 c_p0), (iv p1)] (fun fb => by kernel_rfl) (square_exists_calls _ p0 p1 A_p0 c_p0 t9 _ (hS7.rd 0) ht10) (fun v w11 hR12 => ?_)
 obtain ⟨rfl, hk_⟩ := hR12
 have hS13 := hS7.keepN hk_
 refine ⟨trivial, ?_⟩
 refine seg 5 [] [4, 5] [(4, (bv t9)), (5, (iv 0))] [] (fun fb => by kernel_rfl) rfl trivial ?_
 refine WL.done rfl ?_
 refine WX.next ?_
 refine WC.ret ?_
 injection hf with hf
 subst hf
 exact WX.ret_ [] (.tuple #[(bv t9), (iv 0)]) [] (fun fb => by kernel_rfl) trivial ⟨_, rfl, rfl, hS13.keep⟩
end Gp
