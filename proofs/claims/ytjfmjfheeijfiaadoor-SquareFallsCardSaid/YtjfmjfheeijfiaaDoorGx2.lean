/- Walks: each function of the program computes its plain function. -/
import Derived.Test.YtjfmjfheeijfiaaDoorGx1
set_option linter.unusedVariables false
set_option linter.unusedSimpArgs false
set_option maxHeartbeats 4000000
namespace Gp
open Go Gw Go.Proofs
theorem fill_First_key83 : KeyK Tryd.prog 83 (aggI ints_A8_Int) := KeyK.array (n := 8) (by kernel_rfl) ints_A8_Int (fun _ => rfl) (fun x y h => by cases x; cases y; simp only [ints_A8_Int, List.cons.injEq, and_true] at h; obtain ⟨rfl, rfl, rfl, rfl, rfl, rfl, rfl, rfl⟩ := h; rfl)
theorem fill_First_calls (k : Nat) (p0 : List Tile) (p1 : Int) (p2 : Int) (p3 : Edges) (A_p0 : Option Addr) (c_p0 : Nat) (A_p3_North : Option Addr) (c_p3_North : Nat) (A_p3_East : Option Addr) (c_p3_East : Nat) (A_p3_South : Option Addr) (c_p3_South : Nat) (A_p3_West : Option Addr) (c_p3_West : Nat) (r : Pattern × Int) (w : World) (hR0 : RO NoS w (rowR enc_Tile A_p0 c_p0 p0)) (hR1 : RO NoS w (rowR encInt A_p3_North c_p3_North p3.North)) (hR2 : RO NoS w (rowR encInt A_p3_East c_p3_East p3.East)) (hR3 : RO NoS w (rowR encInt A_p3_South c_p3_South p3.South)) (hR4 : RO NoS w (rowR encInt A_p3_West c_p3_West p3.West)) (hf : fill_First k p0 p1 p2 p3 = some r) :
  CallsR Tryd.prog 31 #[(.slice A_p0 p0.length c_p0), (iv p1), (iv p2), (.agg #[(.slice A_p3_North p3.North.length c_p3_North), (.slice A_p3_East p3.East.length c_p3_East), (.slice A_p3_South p3.South.length c_p3_South), (.slice A_p3_West p3.West.length c_p3_West)])] w (fun v w' => ∃ (A1_ : Option Addr), ∃ (c1_ : Nat), v = (.tuple #[(.agg #[(iv r.1.Width), (iv r.1.Height), (.slice A1_ r.1.Cells.length c1_)]), (iv r.2)]) ∧ St NoS w w' [] [rowO 3 encInt A1_ c1_ r.1.Cells]) := by
 have hS : St NoS w w [rowR enc_Tile A_p0 c_p0 p0, rowR encInt A_p3_North c_p3_North p3.North, rowR encInt A_p3_East c_p3_East p3.East, rowR encInt A_p3_South c_p3_South p3.South, rowR encInt A_p3_West c_p3_West p3.West] [] := St.init (ro_cons hR0 (ro_cons hR1 (ro_cons hR2 (ro_cons hR3 (ro_cons hR4 (ro_nil _ _))))))
 refine enter 153 Tryd.func31 rfl Tryd.ntmps31 rfl ?_
 unfold fill_First at hf
 refine WC.seq ?_
 refine WC.region ?_
 refine WL.new hS 7 [] (fun g => (.pointer (some ⟨g, 0, none⟩))) (.cells #[(.slice A_p3_North p3.North.length c_p3_North), (.slice A_p3_East p3.East.length c_p3_East), (.slice A_p3_South p3.South.length c_p3_South), (.slice A_p3_West p3.West.length c_p3_West)] 44 (0, 0)) [] (fun fb g => by kernel_rfl) trivial (fun g2261 w2262 hS2263 => ?_)
 refine ⟨trivial, ?_⟩
 refine WL.new hS2263 8 [] (fun g => (.pointer (some ⟨g, 0, none⟩))) (.cells #[(iv 0), (iv 0), (.slice none 0 0)] 27 (0, 0)) [] (fun fb g => by kernel_rfl) trivial (fun g2265 w2266 hS2267 => ?_)
 refine ⟨trivial, ?_⟩
 refine seg 3 [] [0, 1, 2, 7, 8] [(0, (.slice A_p0 p0.length c_p0)), (1, (iv p1)), (2, (iv p2)), (7, (pt g2261)), (8, (pt g2265))] [] (fun fb => by kernel_rfl) rfl trivial ?_
 refine WL.done rfl ?_
 refine WX.next ?_
 refine WC.seq ?_
 refine WC.region ?_
 refine seg 4 [.v (.slice A_p3_North p3.North.length c_p3_North), .v (.slice A_p3_East p3.East.length c_p3_East), .v (.slice A_p3_South p3.South.length c_p3_South), .v (.slice A_p3_West p3.West.length c_p3_West)] [1, 2, 8, 23, 24, 25, 26] [(1, (iv p1)), (2, (iv p2)), (8, (pt g2265)), (23, (.slice A_p0 p0.length c_p0)), (24, (iv p1)), (25, (iv p2)), (26, (.agg #[(.slice A_p3_North p3.North.length c_p3_North), (.slice A_p3_East p3.East.length c_p3_East), (.slice A_p3_South p3.South.length c_p3_South), (.slice A_p3_West p3.West.length c_p3_West)]))] [.cell ⟨g2261, 0, none⟩ (.slice A_p3_North p3.North.length c_p3_North), .cell ⟨g2261, 1, none⟩ (.slice A_p3_East p3.East.length c_p3_East), .cell ⟨g2261, 2, none⟩ (.slice A_p3_South p3.South.length c_p3_South), .cell ⟨g2261, 3, none⟩ (.slice A_p3_West p3.West.length c_p3_West)] (fun fb => by kernel_rfl) rfl ⟨hS2267.cell 1 rfl 0 rfl, hS2267.cell 1 rfl 1 rfl, hS2267.cell 1 rfl 2 rfl, hS2267.cell 1 rfl 3 rfl, trivial⟩ ?_
 obtain ⟨t3161, ht3162, hf⟩ := bind_some hf
 refine WL.call (some 27) 58 #[(.slice A_p0 p0.length c_p0), (iv p1), (iv p2), (.agg #[(.slice A_p3_North p3.North.length c_p3_North), (.slice A_p3_East p3.East.length c_p3_East), (.slice A_p3_South p3.South.length c_p3_South), (.slice A_p3_West p3.West.length c_p3_West)])] (fun fb => by kernel_rfl) (fill_begin_calls _ p0 p1 p2 p3 A_p0 c_p0 A_p3_North c_p3_North A_p3_East c_p3_East A_p3_South c_p3_South A_p3_West c_p3_West t3161 _ (hS2267.rd 0) (hS2267.rd 1) (hS2267.rd 2) (hS2267.rd 3) (hS2267.rd 4) ht3162) (fun v w3163 hR3164 => ?_)
 obtain ⟨g3166, A3167, c3168, H3169, rfl, hk_⟩ := hR3164
 refine ⟨trivial, ?_⟩
 rcases optM_some hf with ⟨ho3171, hf⟩ | ⟨y3170, ho3171, hf⟩
 ·
  have ho3171 : t3161.1 = none := ho3171
  have hS3165 := hS2267.keepN (optS_none ho3171 hk_)
  refine WL.reE [1, 2, 8, 23, 24, 25, 26, 27] [(1, (iv p1)), (2, (iv p2)), (8, (pt g2265)), (23, (.slice A_p0 p0.length c_p0)), (24, (iv p1)), (25, (iv p2)), (26, (.agg #[(.slice A_p3_North p3.North.length c_p3_North), (.slice A_p3_East p3.East.length c_p3_East), (.slice A_p3_South p3.South.length c_p3_South), (.slice A_p3_West p3.West.length c_p3_West)])), (27, (.tuple #[(optP t3161.1 g3166), (iv t3161.2)]))] [(1, (iv p1)), (2, (iv p2)), (8, (pt g2265)), (23, (.slice A_p0 p0.length c_p0)), (24, (iv p1)), (25, (iv p2)), (26, (.agg #[(.slice A_p3_North p3.North.length c_p3_North), (.slice A_p3_East p3.East.length c_p3_East), (.slice A_p3_South p3.South.length c_p3_South), (.slice A_p3_West p3.West.length c_p3_West)])), (27, (.tuple #[(.pointer none), (iv t3161.2)]))] rfl (by rw [ho3171]; rfl) ?_
  refine seg 10 [] [1, 2, 8, 10, 11] [(1, (iv p1)), (2, (iv p2)), (8, (pt g2265)), (10, (.pointer none)), (11, (iv t3161.2))] [] (fun fb => by kernel_rfl) rfl trivial ?_
  refine WL.done rfl ?_
  refine WX.next ?_
  refine WC.seq ?_
  refine WC.seq ?_
  refine WC.region ?_
  refine seg 2 [] [1, 2, 8, 10, 11, 31] [(1, (iv p1)), (2, (iv p2)), (8, (pt g2265)), (10, (.pointer none)), (11, (iv t3161.2)), (31, (.bool (t3161.2 != 0)))] [] (fun fb => by kernel_rfl) rfl trivial ?_
  refine WL.done rfl ?_
  refine WX.next ?_
  rcases br_some hf with ⟨h3172, hf⟩ | ⟨h3172, hf⟩
  ·refine WC.condT2 (fun fb => by kernel_rfl) h3172 ?_
   refine WC.seq ?_
   refine WC.region ?_
   refine seg 2 [] [8, 32, 33] [(8, (pt g2265)), (32, (.agg #[(iv 0), (iv 0), (.slice none 0 0)])), (33, (iv t3161.2))] [] (fun fb => by kernel_rfl) rfl trivial ?_
   refine WL.store hS3165 0 rfl [(0, (iv 0)), (1, (iv 0)), (2, (.slice none 0 0))] #[(iv 0), (iv 0), (.slice none 0 0)] (fun fb => by kernel_rfl) (by kernel_rfl) rfl [1] (by decide) (by decide) (fun w3173 hS3174 => ?_)
   refine ⟨trivial, ?_⟩
   refine seg 4 [] [8, 9] [(8, (pt g2265)), (9, (iv t3161.2))] [] (fun fb => by kernel_rfl) rfl trivial ?_
   refine WL.done rfl ?_
   refine WX.next ?_
   refine WC.ret ?_
   have hS3175 := hS3174.nilrow 3 encInt
   injection hf with hf
   subst hf
   exact WX.thenR (WX.ret_ [.v (iv 0), .v (iv 0), .v (.slice none 0 0)] (.tuple #[(.agg #[(iv 0), (iv 0), (.slice none ([] : List Int).length 0)]), (iv t3161.2)]) [.cell ⟨g2265, 0, none⟩ (iv 0), .cell ⟨g2265, 1, none⟩ (iv 0), .cell ⟨g2265, 2, none⟩ (.slice none 0 0)] (fun fb => by kernel_rfl) ⟨hS3174.cell 0 rfl 0 rfl, hS3174.cell 0 rfl 1 rfl, hS3174.cell 0 rfl 2 rfl, trivial⟩ ⟨_, rfl, none, 0, rfl, (hS3175.sub [0] (by decide)).noR⟩)
  refine WC.condF2 (fun fb => by kernel_rfl) h3172 ?_
  refine WC.skip ?_
  refine WX.next ?_
  refine WC.seq ?_
  refine WC.region ?_
  refine seg 1 [] [1, 2, 8, 10, 34] [(1, (iv p1)), (2, (iv p2)), (8, (pt g2265)), (10, (.pointer none)), (34, (iv p2))] [] (fun fb => by kernel_rfl) rfl trivial ?_
  obtain ⟨h3176, hf⟩ := as_some hf
  refine WL.make hS3165 (e := (encMap A8_Int Bool)) (T := 91) (tS := 90) (z := (.map none)) (bytes := 8) (d := 35) ((0, none) : Nat × (Option (List (A8_Int × Bool)))) p2 (fun fb => by kernel_rfl) (by kernel_rfl) (by kernel_rfl) rfl (by decide) h3176 (by decide) (fun g3177 w3178 hS3179 => ?_)
  refine ⟨trivial, ?_⟩
  have hS3180 : St NoS w w3178 [rowR enc_Tile A_p0 c_p0 p0, rowR encInt A_p3_North c_p3_North p3.North, rowR encInt A_p3_East c_p3_East p3.East, rowR encInt A_p3_South c_p3_South p3.South, rowR encInt A_p3_West c_p3_West p3.West] [rowO 91 (encMap A8_Int Bool) (some ⟨g3177, 0, none⟩) p2.toNat (tag g0 (List.replicate p2.toNat (none : Option (List (A8_Int × Bool))))), blk g2265 (.cells #[(iv 0), (iv 0), (.slice none 0 0)] 27 (0, 0)), blk g2261 (.cells #[(.slice A_p3_North p3.North.length c_p3_North), (.slice A_p3_East p3.East.length c_p3_East), (.slice A_p3_South p3.South.length c_p3_South), (.slice A_p3_West p3.West.length c_p3_West)] 44 (0, 0))] := by rw [show tag g0 (List.replicate p2.toNat (none : Option (List (A8_Int × Bool)))) = _ from tag_rep 0 none _]; exact hS3179
  have hS3181 := hS3180.mapsNil (aggI ints_A8_Int) vB g0 p2.toNat
  refine WL.reE [1, 2, 8, 10, 35] [(1, (iv p1)), (2, (iv p2)), (8, (pt g2265)), (10, (.pointer none)), (35, (.slice (some ⟨g3177, 0, none⟩) (List.replicate p2.toNat ((0, none) : Nat × (Option (List (A8_Int × Bool))))).length p2.toNat))] [(1, (iv p1)), (2, (iv p2)), (8, (pt g2265)), (10, (.pointer none)), (35, (.slice (some ⟨g3177, 0, none⟩) (List.replicate p2.toNat (none : Option (List (A8_Int × Bool)))).length p2.toNat))] rfl (by simp only [List.length_replicate]) ?_
  refine seg 3 [] [1, 2, 8, 10, 12] [(1, (iv p1)), (2, (iv p2)), (8, (pt g2265)), (10, (.pointer none)), (12, (.slice (some ⟨g3177, 0, none⟩) (List.replicate p2.toNat (none : Option (List (A8_Int × Bool)))).length p2.toNat))] [] (fun fb => by kernel_rfl) rfl trivial ?_
  refine WL.done rfl ?_
  refine WX.next ?_
  refine WC.seq ?_
  refine WC.seq ?_
  refine WC.region ?_
  refine seg 3 [] [1, 2, 8, 10, 12, 13] [(1, (iv p1)), (2, (iv p2)), (8, (pt g2265)), (10, (.pointer none)), (12, (.slice (some ⟨g3177, 0, none⟩) (List.replicate p2.toNat (none : Option (List (A8_Int × Bool)))).length p2.toNat)), (13, (iv (w64 (p2 - 1))))] [] (fun fb => by kernel_rfl) rfl trivial ?_
  refine WL.done rfl ?_
  refine WX.next ?_
  obtain ⟨x3191, hx3192, hf⟩ := bind_some hf
  refine WC.cutN (T := Unit) (fun t => [(1, (iv p1)), (2, (iv p2)), (8, (pt g2265)), (10, (.pointer none)), (12, (.slice (some ⟨g3177, 0, none⟩) (List.replicate p2.toNat (none : Option (List (A8_Int × Bool)))).length p2.toNat))]) (fun t w1 => St NoS w w1 [rowR enc_Tile A_p0 c_p0 p0, rowR encInt A_p3_North c_p3_North p3.North, rowR encInt A_p3_East c_p3_East p3.East, rowR encInt A_p3_South c_p3_South p3.South, rowR encInt A_p3_West c_p3_West p3.West] [blk g2265 (.cells #[(iv 0), (iv 0), (.slice none 0 0)] 27 (0, 0)), rowO 91 (encMap A8_Int Bool) (some ⟨g3177, 0, none⟩) p2.toNat (tag g0 (List.replicate p2.toNat (none : Option (List (A8_Int × Bool))))), mapsO (aggI ints_A8_Int) vB g0 (List.replicate p2.toNat (none : Option (List (A8_Int × Bool))))] ∧ x3191 = t) (fun Kx3191 => ?_) ?_
  ·
   refine WC.block ?_
   refine WC.loop (T := Unit) (fun t => [(1, (iv p1)), (2, (iv p2)), (8, (pt g2265)), (10, (.pointer none)), (12, (.slice (some ⟨g3177, 0, none⟩) (List.replicate p2.toNat (none : Option (List (A8_Int × Bool)))).length p2.toNat)), (13, (iv (w64 (p2 - 1))))]) (fun n t w1 => St NoS w w1 [rowR enc_Tile A_p0 c_p0 p0, rowR encInt A_p3_North c_p3_North p3.North, rowR encInt A_p3_East c_p3_East p3.East, rowR encInt A_p3_South c_p3_South p3.South, rowR encInt A_p3_West c_p3_West p3.West] [blk g2265 (.cells #[(iv 0), (iv 0), (.slice none 0 0)] 27 (0, 0)), rowO 91 (encMap A8_Int Bool) (some ⟨g3177, 0, none⟩) p2.toNat (tag g0 (List.replicate p2.toNat (none : Option (List (A8_Int × Bool))))), mapsO (aggI ints_A8_Int) vB g0 (List.replicate p2.toNat (none : Option (List (A8_Int × Bool))))] ∧ fill_First.l0 n p2 = some x3191) k () [1, 2, 8, 10, 12, 13] rfl ⟨(hS3181.subR [0, 1, 2, 3, 4]).sub [2, 1, 0] (by decide), hx3192⟩ ?_
   rintro k3193 ⟨⟩ w3194 ⟨hS3195, hl3196⟩
   cases k3193 with
   | zero => rw [fill_First.l0] at hl3196; cases hl3196
   | succ k3193 =>
    rw [fill_First.l0] at hl3196
    refine WC.seq ?_
    refine WC.seq ?_
    refine WC.region ?_
    refine seg 2 [] [1, 2, 8, 10, 12, 13, 39] [(1, (iv p1)), (2, (iv p2)), (8, (pt g2265)), (10, (.pointer none)), (12, (.slice (some ⟨g3177, 0, none⟩) (List.replicate p2.toNat (none : Option (List (A8_Int × Bool)))).length p2.toNat)), (13, (iv (w64 (p2 - 1)))), (39, (.bool (decide (w64 (p2 - 1) ≥ 0))))] [] (fun fb => by kernel_rfl) rfl trivial ?_
    refine WL.done rfl ?_
    refine WX.next ?_
    rcases br_some hl3196 with ⟨h3197, hl3196⟩ | ⟨h3197, hl3196⟩
    ·refine WC.condT2 (fun fb => by kernel_rfl) h3197 ?_
     refine WC.skip ?_
     refine WX.next ?_
     refine WC.seq ?_
     refine WC.block ?_
     refine WC.seq ?_
     refine WC.region ?_
     refine seg 2 [] [1, 2, 8, 10, 12, 13, 42, 43] [(1, (iv p1)), (2, (iv p2)), (8, (pt g2265)), (10, (.pointer none)), (12, (.slice (some ⟨g3177, 0, none⟩) (List.replicate p2.toNat (none : Option (List (A8_Int × Bool)))).length p2.toNat)), (13, (iv (w64 (p2 - 1)))), (42, (.slice (some ⟨g3177, 0, none⟩) (List.replicate p2.toNat (none : Option (List (A8_Int × Bool)))).length p2.toNat)), (43, (iv (w64 (p2 - 1))))] [] (fun fb => by kernel_rfl) rfl trivial ?_
     refine WL.new hS3195 44 [] (fun g => (.map (some g))) (mapObj (aggI ints_A8_Int) vB ([] : List (A8_Int × Bool))) [] (fun fb g => by kernel_rfl) trivial (fun g3198 w3199 hS3200 => ?_)
     refine ⟨trivial, ?_⟩
     obtain ⟨h3201, hl3196⟩ := as_some hl3196
     refine seg 4 [] [1, 2, 8, 10, 12, 13, 44, 45] [(1, (iv p1)), (2, (iv p2)), (8, (pt g2265)), (10, (.pointer none)), (12, (.slice (some ⟨g3177, 0, none⟩) (List.replicate p2.toNat (none : Option (List (A8_Int × Bool)))).length p2.toNat)), (13, (iv (w64 (p2 - 1)))), (44, (.map (some g3198))), (45, (.pointer (some ((adr (some ⟨g3177, 0, none⟩)).add ((w64 (p2 - 1)).toNat * 1)))))] [.idx (some ⟨g3177, 0, none⟩) (w64 (p2 - 1)) (List.replicate p2.toNat (none : Option (List (A8_Int × Bool)))).length] (fun fb => by kernel_rfl) rfl ⟨nrow_adr (rowO.rd (hS3200.own 2).1) h3201.1 h3201.2, trivial⟩ ?_
     refine WL.storeRow hS3200 2 rfl (w64 (p2 - 1)) (g3198, some ([] : List (A8_Int × Bool))) (0, none) [(0, (.map (some g3198)))] (fun fb => by kernel_rfl) h3201.1 (by rw [tag_length]; exact h3201.2) (by kernel_rfl) (by kernel_rfl) [0, 1, 3] (by decide) (by decide) (fun w3202 hS3203 => ?_)
     have hS3204 : St NoS w w3202 [rowR enc_Tile A_p0 c_p0 p0, rowR encInt A_p3_North c_p3_North p3.North, rowR encInt A_p3_East c_p3_East p3.East, rowR encInt A_p3_South c_p3_South p3.South, rowR encInt A_p3_West c_p3_West p3.West] [rowO 91 (encMap A8_Int Bool) (some ⟨g3177, 0, none⟩) p2.toNat (tag (updH g0 (w64 (p2 - 1)).toNat g3198) ((List.replicate p2.toNat (none : Option (List (A8_Int × Bool)))).set (w64 (p2 - 1)).toNat (some ([] : List (A8_Int × Bool))))), blk g3198 (mapObj (aggI ints_A8_Int) vB ([] : List (A8_Int × Bool))), blk g2265 (.cells #[(iv 0), (iv 0), (.slice none 0 0)] 27 (0, 0)), mapsO (aggI ints_A8_Int) vB g0 (List.replicate p2.toNat (none : Option (List (A8_Int × Bool))))] := by rw [tag_set]; exact hS3203
     have hS3205 : St NoS w w3202 [rowR enc_Tile A_p0 c_p0 p0, rowR encInt A_p3_North c_p3_North p3.North, rowR encInt A_p3_East c_p3_East p3.East, rowR encInt A_p3_South c_p3_South p3.South, rowR encInt A_p3_West c_p3_West p3.West] [mapsO (aggI ints_A8_Int) vB (updH g0 (w64 (p2 - 1)).toNat g3198) ((List.replicate p2.toNat (none : Option (List (A8_Int × Bool)))).set (w64 (p2 - 1)).toNat (some ([] : List (A8_Int × Bool)))), rowO 91 (encMap A8_Int Bool) (some ⟨g3177, 0, none⟩) p2.toNat (tag (updH g0 (w64 (p2 - 1)).toNat g3198) ((List.replicate p2.toNat (none : Option (List (A8_Int × Bool)))).set (w64 (p2 - 1)).toNat (some ([] : List (A8_Int × Bool))))), blk g2265 (.cells #[(iv 0), (iv 0), (.slice none 0 0)] 27 (0, 0))] := hS3204.mapsSet 3 1 rfl rfl (by decide) ((w64 (p2 - 1)).toNat) [0, 2] (by decide) (by decide)
     refine ⟨trivial, ?_⟩
     refine WL.reE [1, 2, 8, 10, 12, 13] [(1, (iv p1)), (2, (iv p2)), (8, (pt g2265)), (10, (.pointer none)), (12, (.slice (some ⟨g3177, 0, none⟩) (List.replicate p2.toNat (none : Option (List (A8_Int × Bool)))).length p2.toNat)), (13, (iv (w64 (p2 - 1))))] [(1, (iv p1)), (2, (iv p2)), (8, (pt g2265)), (10, (.pointer none)), (12, (.slice (some ⟨g3177, 0, none⟩) ((List.replicate p2.toNat (none : Option (List (A8_Int × Bool)))).set (w64 (p2 - 1)).toNat (some ([] : List (A8_Int × Bool)))).length p2.toNat)), (13, (iv (w64 (p2 - 1))))] rfl (by simp only [List.length_set]) ?_
     refine WL.done rfl ?_
     refine WX.next ?_
     refine WC.seq ?_
     refine WC.region ?_
     refine seg 1 [] [1, 2, 8, 10, 12, 13, 46] [(1, (iv p1)), (2, (iv p2)), (8, (pt g2265)), (10, (.pointer none)), (12, (.slice (some ⟨g3177, 0, none⟩) ((List.replicate p2.toNat (none : Option (List (A8_Int × Bool)))).set (w64 (p2 - 1)).toNat (some ([] : List (A8_Int × Bool)))).length p2.toNat)), (13, (iv (w64 (p2 - 1)))), (46, (.pointer none))] [] (fun fb => by kernel_rfl) rfl trivial ?_
     cases hl3196
    refine WC.condF2 (fun fb => by kernel_rfl) h3197 ?_
    refine WC.exit ?_
    injection hl3196 with hl3196
    exact WX.thenX (WX.thenX (WX.blockHere (WX.to Kx3191 () [1, 2, 8, 10, 12] rfl ⟨(hS3195.subR [0, 1, 2, 3, 4]).sub [0, 1, 2] (by decide), hl3196.symm⟩)))
  rintro y3209 w3206 ⟨hS3207, hq3208⟩
  subst hq3208
  refine WX.next ?_
  refine WC.seq ?_
  refine WC.region ?_
  refine seg 3 [] [2, 8, 10, 12, 84] [(2, (iv p2)), (8, (pt g2265)), (10, (.pointer none)), (12, (.slice (some ⟨g3177, 0, none⟩) (List.replicate p2.toNat (none : Option (List (A8_Int × Bool)))).length p2.toNat)), (84, (.agg #[(iv p1), (iv p2), (.slice none 0 0)]))] [] (fun fb => by kernel_rfl) rfl trivial ?_
  refine WL.new hS3207 16 [] (fun g => (.pointer (some ⟨g, 0, none⟩))) (.cells #[(iv 0), (iv 0), (.slice none 0 0)] 27 (0, 0)) [] (fun fb g => by kernel_rfl) trivial (fun g3210 w3211 hS3212 => ?_)
  refine ⟨trivial, ?_⟩
  refine WL.store hS3212 0 rfl [(0, (iv p1)), (1, (iv p2)), (2, (.slice none 0 0))] #[(iv p1), (iv p2), (.slice none 0 0)] (fun fb => by kernel_rfl) (by kernel_rfl) rfl [1, 2, 3] (by decide) (by decide) (fun w3214 hS3215 => ?_)
  refine ⟨trivial, ?_⟩
  refine WL.done rfl ?_
  refine WX.next ?_
  refine WC.seq ?_
  refine WC.region ?_
  refine seg 1 [] [2, 8, 10, 12, 16, 17] [(2, (iv p2)), (8, (pt g2265)), (10, (.pointer none)), (12, (.slice (some ⟨g3177, 0, none⟩) (List.replicate p2.toNat (none : Option (List (A8_Int × Bool)))).length p2.toNat)), (16, (pt g3210)), (17, (.pointer none))] [] (fun fb => by kernel_rfl) rfl trivial ?_
  refine WL.done rfl ?_
  refine WX.next ?_
  refine WC.seq ?_
  refine WC.seq ?_
  refine WC.region ?_
  refine seg 2 [] [2, 8, 10, 12, 16, 17, 85, 86] [(2, (iv p2)), (8, (pt g2265)), (10, (.pointer none)), (12, (.slice (some ⟨g3177, 0, none⟩) (List.replicate p2.toNat (none : Option (List (A8_Int × Bool)))).length p2.toNat)), (16, (pt g3210)), (17, (.pointer none)), (85, (iv p2)), (86, (iv 0))] [] (fun fb => by kernel_rfl) rfl trivial ?_
  refine WL.done rfl ?_
  refine WX.next ?_
  obtain ⟨x3217, hx3218, hf⟩ := bind_some hf
  refine WC.cutN (T := Unit) (fun t => [(8, (pt g2265)), (16, (pt g3210))]) (fun t w1 => St NoS w w1 [rowR enc_Tile A_p0 c_p0 p0, rowR encInt A_p3_North c_p3_North p3.North, rowR encInt A_p3_East c_p3_East p3.East, rowR encInt A_p3_South c_p3_South p3.South, rowR encInt A_p3_West c_p3_West p3.West] [blk g2265 (.cells #[(iv 0), (iv 0), (.slice none 0 0)] 27 (0, 0)), blk g3210 (.cells #[(iv p1), (iv p2), (.slice none 0 0)] 27 (0, 0))] ∧ x3217 = t) (fun Kx3217 => ?_) ?_
  ·
   refine WC.block ?_
   refine WC.loop (T := Unit) (fun t => [(2, (iv p2)), (8, (pt g2265)), (10, (.pointer none)), (12, (.slice (some ⟨g3177, 0, none⟩) (List.replicate p2.toNat (none : Option (List (A8_Int × Bool)))).length p2.toNat)), (16, (pt g3210)), (17, (.pointer none)), (85, (iv p2)), (86, (iv 0))]) (fun n t w1 => St NoS w w1 [rowR enc_Tile A_p0 c_p0 p0, rowR encInt A_p3_North c_p3_North p3.North, rowR encInt A_p3_East c_p3_East p3.East, rowR encInt A_p3_South c_p3_South p3.South, rowR encInt A_p3_West c_p3_West p3.West] [blk g2265 (.cells #[(iv 0), (iv 0), (.slice none 0 0)] 27 (0, 0)), rowO 91 (encMap A8_Int Bool) (some ⟨g3177, 0, none⟩) p2.toNat (tag g0 (List.replicate p2.toNat (none : Option (List (A8_Int × Bool))))), mapsO (aggI ints_A8_Int) vB g0 (List.replicate p2.toNat (none : Option (List (A8_Int × Bool)))), blk g3210 (.cells #[(iv p1), (iv p2), (.slice none 0 0)] 27 (0, 0))] ∧ fill_First.l1 n p2 = some x3217) k () [2, 8, 10, 12, 16, 17, 85, 86] rfl ⟨(hS3215.subR [0, 1, 2, 3, 4]).sub [1, 2, 3, 0] (by decide), hx3218⟩ ?_
   rintro k3219 ⟨⟩ w3220 ⟨hS3221, hl3222⟩
   cases k3219 with
   | zero => rw [fill_First.l1] at hl3222; cases hl3222
   | succ k3219 =>
    rw [fill_First.l1] at hl3222
    refine WC.seq ?_
    refine WC.region ?_
    refine seg 1 [] [2, 8, 10, 12, 16, 17, 85, 86, 87] [(2, (iv p2)), (8, (pt g2265)), (10, (.pointer none)), (12, (.slice (some ⟨g3177, 0, none⟩) (List.replicate p2.toNat (none : Option (List (A8_Int × Bool)))).length p2.toNat)), (16, (pt g3210)), (17, (.pointer none)), (85, (iv p2)), (86, (iv 0)), (87, (.bool (decide (0 < p2))))] [] (fun fb => by kernel_rfl) rfl trivial ?_
    refine WL.done rfl ?_
    refine WX.next ?_
    refine WC.seq ?_
    rcases br_some hl3222 with ⟨h3223, hl3222⟩ | ⟨h3223, hl3222⟩
    ·refine WC.condT2 (fun fb => by kernel_rfl) h3223 ?_
     refine WC.skip ?_
     refine WX.next ?_
     refine WC.seq ?_
     refine WC.block ?_
     refine WC.seq ?_
     refine WC.region ?_
     refine seg 2 [] [2, 8, 10, 12, 16, 17, 18, 85, 86] [(2, (iv p2)), (8, (pt g2265)), (10, (.pointer none)), (12, (.slice (some ⟨g3177, 0, none⟩) (List.replicate p2.toNat (none : Option (List (A8_Int × Bool)))).length p2.toNat)), (16, (pt g3210)), (17, (.pointer none)), (18, (iv 0)), (85, (iv p2)), (86, (iv 0))] [] (fun fb => by kernel_rfl) rfl trivial ?_
     refine WL.done rfl ?_
     refine WX.next ?_
     refine WC.seq ?_
     refine WC.region ?_
     refine seg 1 [] [2, 8, 10, 12, 16, 17, 18, 19, 85, 86] [(2, (iv p2)), (8, (pt g2265)), (10, (.pointer none)), (12, (.slice (some ⟨g3177, 0, none⟩) (List.replicate p2.toNat (none : Option (List (A8_Int × Bool)))).length p2.toNat)), (16, (pt g3210)), (17, (.pointer none)), (18, (iv 0)), (19, (iv (-1))), (85, (iv p2)), (86, (iv 0))] [] (fun fb => by kernel_rfl) rfl trivial ?_
     refine WL.done rfl ?_
     refine WX.next ?_
     refine WC.seq ?_
     refine WC.seq ?_
     refine WC.region ?_
     refine seg 1 [] [2, 8, 10, 12, 16, 17, 18, 19, 85, 86, 89] [(2, (iv p2)), (8, (pt g2265)), (10, (.pointer none)), (12, (.slice (some ⟨g3177, 0, none⟩) (List.replicate p2.toNat (none : Option (List (A8_Int × Bool)))).length p2.toNat)), (16, (pt g3210)), (17, (.pointer none)), (18, (iv 0)), (19, (iv (-1))), (85, (iv p2)), (86, (iv 0)), (89, (.pointer none))] [] (fun fb => by kernel_rfl) rfl trivial ?_
     cases hl3222
    refine WC.condF2 (fun fb => by kernel_rfl) h3223 ?_
    refine WC.exit ?_
    injection hl3222 with hl3222
    exact WX.thenX (WX.thenX (WX.blockHere (WX.to Kx3217 () [8, 16] rfl ⟨(hS3221.subR [0, 1, 2, 3, 4]).sub [0, 3] (by decide), hl3222.symm⟩)))
  rintro y3227 w3224 ⟨hS3225, hq3226⟩
  subst hq3226
  refine WX.next ?_
  refine WC.seq ?_
  refine WC.region ?_
  refine seg 1 [.v (iv p1), .v (iv p2), .v (.slice none 0 0)] [8, 152] [(8, (pt g2265)), (152, (.agg #[(iv p1), (iv p2), (.slice none 0 0)]))] [.cell ⟨g3210, 0, none⟩ (iv p1), .cell ⟨g3210, 1, none⟩ (iv p2), .cell ⟨g3210, 2, none⟩ (.slice none 0 0)] (fun fb => by kernel_rfl) rfl ⟨hS3225.cell 1 rfl 0 rfl, hS3225.cell 1 rfl 1 rfl, hS3225.cell 1 rfl 2 rfl, trivial⟩ ?_
  refine WL.store hS3225 0 rfl [(0, (iv p1)), (1, (iv p2)), (2, (.slice none 0 0))] #[(iv p1), (iv p2), (.slice none 0 0)] (fun fb => by kernel_rfl) (by kernel_rfl) rfl [1] (by decide) (by decide) (fun w3228 hS3229 => ?_)
  refine ⟨trivial, ?_⟩
  refine seg 3 [] [8, 9] [(8, (pt g2265)), (9, (iv 0))] [] (fun fb => by kernel_rfl) rfl trivial ?_
  refine WL.done rfl ?_
  refine WX.next ?_
  refine WC.ret ?_
  have hS3230 := hS3229.nilrow 3 encInt
  injection hf with hf
  subst hf
  exact WX.ret_ [.v (iv p1), .v (iv p2), .v (.slice none 0 0)] (.tuple #[(.agg #[(iv p1), (iv p2), (.slice none ([] : List Int).length 0)]), (iv 0)]) [.cell ⟨g2265, 0, none⟩ (iv p1), .cell ⟨g2265, 1, none⟩ (iv p2), .cell ⟨g2265, 2, none⟩ (.slice none 0 0)] (fun fb => by kernel_rfl) ⟨hS3229.cell 0 rfl 0 rfl, hS3229.cell 0 rfl 1 rfl, hS3229.cell 0 rfl 2 rfl, trivial⟩ ⟨_, rfl, none, 0, rfl, (hS3230.sub [0] (by decide)).noR⟩
 have ho3171 : t3161.1 = some y3170 := ho3171
 have hk_ := optS_some ho3171 hk_
 have hS3165 : St NoS w w3163 [rowR enc_Tile A_p0 c_p0 p0, rowR encInt A_p3_North c_p3_North p3.North, rowR encInt A_p3_East c_p3_East p3.East, rowR encInt A_p3_South c_p3_South p3.South, rowR encInt A_p3_West c_p3_West p3.West] [blk g3166 (.cells #[(.slice A3167 y3170.rows.length c3168), (iv y3170.width), (iv y3170.height), (.slice A_p3_North p3.North.length c_p3_North), (.slice A_p3_East p3.East.length c_p3_East), (.slice A_p3_South p3.South.length c_p3_South), (.slice A_p3_West p3.West.length c_p3_West)] 81 (0, 0)), rowO 85 encN_Row A3167 c3168 (tag H3169 y3170.rows), poolO [nestO subN_Row H3169 y3170.rows], blk g2265 (.cells #[(iv 0), (iv 0), (.slice none 0 0)] 27 (0, 0)), blk g2261 (.cells #[(.slice A_p3_North p3.North.length c_p3_North), (.slice A_p3_East p3.East.length c_p3_East), (.slice A_p3_South p3.South.length c_p3_South), (.slice A_p3_West p3.West.length c_p3_West)] 44 (0, 0))] := hS2267.call hk_ [] [0, 1] (fun g hg => hg.elim) (by simp) (by decide)
 refine WL.reE [1, 2, 8, 23, 24, 25, 26, 27] [(1, (iv p1)), (2, (iv p2)), (8, (pt g2265)), (23, (.slice A_p0 p0.length c_p0)), (24, (iv p1)), (25, (iv p2)), (26, (.agg #[(.slice A_p3_North p3.North.length c_p3_North), (.slice A_p3_East p3.East.length c_p3_East), (.slice A_p3_South p3.South.length c_p3_South), (.slice A_p3_West p3.West.length c_p3_West)])), (27, (.tuple #[(optP t3161.1 g3166), (iv t3161.2)]))] [(1, (iv p1)), (2, (iv p2)), (8, (pt g2265)), (23, (.slice A_p0 p0.length c_p0)), (24, (iv p1)), (25, (iv p2)), (26, (.agg #[(.slice A_p3_North p3.North.length c_p3_North), (.slice A_p3_East p3.East.length c_p3_East), (.slice A_p3_South p3.South.length c_p3_South), (.slice A_p3_West p3.West.length c_p3_West)])), (27, (.tuple #[(pt g3166), (iv t3161.2)]))] rfl (by rw [ho3171]; rfl) ?_
 refine seg 10 [] [1, 2, 8, 10, 11] [(1, (iv p1)), (2, (iv p2)), (8, (pt g2265)), (10, (pt g3166)), (11, (iv t3161.2))] [] (fun fb => by kernel_rfl) rfl trivial ?_
 refine WL.done rfl ?_
 refine WX.next ?_
 refine WC.seq ?_
 refine WC.seq ?_
 refine WC.region ?_
 refine seg 2 [] [1, 2, 8, 10, 11, 31] [(1, (iv p1)), (2, (iv p2)), (8, (pt g2265)), (10, (pt g3166)), (11, (iv t3161.2)), (31, (.bool (t3161.2 != 0)))] [] (fun fb => by kernel_rfl) rfl trivial ?_
 refine WL.done rfl ?_
 refine WX.next ?_
 rcases br_some hf with ⟨h3231, hf⟩ | ⟨h3231, hf⟩
 ·refine WC.condT2 (fun fb => by kernel_rfl) h3231 ?_
  refine WC.seq ?_
  refine WC.region ?_
  refine seg 2 [] [8, 32, 33] [(8, (pt g2265)), (32, (.agg #[(iv 0), (iv 0), (.slice none 0 0)])), (33, (iv t3161.2))] [] (fun fb => by kernel_rfl) rfl trivial ?_
  refine WL.store hS3165 3 rfl [(0, (iv 0)), (1, (iv 0)), (2, (.slice none 0 0))] #[(iv 0), (iv 0), (.slice none 0 0)] (fun fb => by kernel_rfl) (by kernel_rfl) rfl [0, 1, 2, 4] (by decide) (by decide) (fun w3232 hS3233 => ?_)
  refine ⟨trivial, ?_⟩
  refine seg 4 [] [8, 9] [(8, (pt g2265)), (9, (iv t3161.2))] [] (fun fb => by kernel_rfl) rfl trivial ?_
  refine WL.done rfl ?_
  refine WX.next ?_
  refine WC.ret ?_
  have hS3234 := hS3233.nilrow 3 encInt
  injection hf with hf
  subst hf
  exact WX.thenR (WX.ret_ [.v (iv 0), .v (iv 0), .v (.slice none 0 0)] (.tuple #[(.agg #[(iv 0), (iv 0), (.slice none ([] : List Int).length 0)]), (iv t3161.2)]) [.cell ⟨g2265, 0, none⟩ (iv 0), .cell ⟨g2265, 1, none⟩ (iv 0), .cell ⟨g2265, 2, none⟩ (.slice none 0 0)] (fun fb => by kernel_rfl) ⟨hS3233.cell 0 rfl 0 rfl, hS3233.cell 0 rfl 1 rfl, hS3233.cell 0 rfl 2 rfl, trivial⟩ ⟨_, rfl, none, 0, rfl, (hS3234.sub [0] (by decide)).noR⟩)
 refine WC.condF2 (fun fb => by kernel_rfl) h3231 ?_
 refine WC.skip ?_
 refine WX.next ?_
 refine WC.seq ?_
 refine WC.region ?_
 refine seg 1 [] [1, 2, 8, 10, 34] [(1, (iv p1)), (2, (iv p2)), (8, (pt g2265)), (10, (pt g3166)), (34, (iv p2))] [] (fun fb => by kernel_rfl) rfl trivial ?_
 obtain ⟨h3235, hf⟩ := as_some hf
 refine WL.make hS3165 (e := (encMap A8_Int Bool)) (T := 91) (tS := 90) (z := (.map none)) (bytes := 8) (d := 35) ((0, none) : Nat × (Option (List (A8_Int × Bool)))) p2 (fun fb => by kernel_rfl) (by kernel_rfl) (by kernel_rfl) rfl (by decide) h3235 (by decide) (fun g3236 w3237 hS3238 => ?_)
 refine ⟨trivial, ?_⟩
 have hS3239 : St NoS w w3237 [rowR enc_Tile A_p0 c_p0 p0, rowR encInt A_p3_North c_p3_North p3.North, rowR encInt A_p3_East c_p3_East p3.East, rowR encInt A_p3_South c_p3_South p3.South, rowR encInt A_p3_West c_p3_West p3.West] [rowO 91 (encMap A8_Int Bool) (some ⟨g3236, 0, none⟩) p2.toNat (tag g0 (List.replicate p2.toNat (none : Option (List (A8_Int × Bool))))), blk g3166 (.cells #[(.slice A3167 y3170.rows.length c3168), (iv y3170.width), (iv y3170.height), (.slice A_p3_North p3.North.length c_p3_North), (.slice A_p3_East p3.East.length c_p3_East), (.slice A_p3_South p3.South.length c_p3_South), (.slice A_p3_West p3.West.length c_p3_West)] 81 (0, 0)), rowO 85 encN_Row A3167 c3168 (tag H3169 y3170.rows), poolO [nestO subN_Row H3169 y3170.rows], blk g2265 (.cells #[(iv 0), (iv 0), (.slice none 0 0)] 27 (0, 0)), blk g2261 (.cells #[(.slice A_p3_North p3.North.length c_p3_North), (.slice A_p3_East p3.East.length c_p3_East), (.slice A_p3_South p3.South.length c_p3_South), (.slice A_p3_West p3.West.length c_p3_West)] 44 (0, 0))] := by rw [show tag g0 (List.replicate p2.toNat (none : Option (List (A8_Int × Bool)))) = _ from tag_rep 0 none _]; exact hS3238
 have hS3240 := hS3239.mapsNil (aggI ints_A8_Int) vB g0 p2.toNat
 refine WL.reE [1, 2, 8, 10, 35] [(1, (iv p1)), (2, (iv p2)), (8, (pt g2265)), (10, (pt g3166)), (35, (.slice (some ⟨g3236, 0, none⟩) (List.replicate p2.toNat ((0, none) : Nat × (Option (List (A8_Int × Bool))))).length p2.toNat))] [(1, (iv p1)), (2, (iv p2)), (8, (pt g2265)), (10, (pt g3166)), (35, (.slice (some ⟨g3236, 0, none⟩) (List.replicate p2.toNat (none : Option (List (A8_Int × Bool)))).length p2.toNat))] rfl (by simp only [List.length_replicate]) ?_
 refine seg 3 [] [1, 2, 8, 10, 12] [(1, (iv p1)), (2, (iv p2)), (8, (pt g2265)), (10, (pt g3166)), (12, (.slice (some ⟨g3236, 0, none⟩) (List.replicate p2.toNat (none : Option (List (A8_Int × Bool)))).length p2.toNat))] [] (fun fb => by kernel_rfl) rfl trivial ?_
 refine WL.done rfl ?_
 refine WX.next ?_
 refine WC.seq ?_
 refine WC.seq ?_
 refine WC.region ?_
 refine seg 3 [] [1, 2, 8, 10, 12, 13] [(1, (iv p1)), (2, (iv p2)), (8, (pt g2265)), (10, (pt g3166)), (12, (.slice (some ⟨g3236, 0, none⟩) (List.replicate p2.toNat (none : Option (List (A8_Int × Bool)))).length p2.toNat)), (13, (iv (w64 (p2 - 1))))] [] (fun fb => by kernel_rfl) rfl trivial ?_
 refine WL.done rfl ?_
 refine WX.next ?_
 obtain ⟨x5249, hx5250, hf⟩ := bind_some hf
 refine WC.cutN (T := (List (Option (List (A8_Int × Bool)))) × (Option Addr) × Nat × (Nat → Nat)) (fun t => [(1, (iv p1)), (2, (iv p2)), (8, (pt g2265)), (10, (pt g3166)), (12, (.slice t.2.1 t.1.length t.2.2.1))]) (fun t w1 => St NoS w w1 [rowR enc_Tile A_p0 c_p0 p0, rowR encInt A_p3_North c_p3_North p3.North, rowR encInt A_p3_East c_p3_East p3.East, rowR encInt A_p3_South c_p3_South p3.South, rowR encInt A_p3_West c_p3_West p3.West] [blk g2265 (.cells #[(iv 0), (iv 0), (.slice none 0 0)] 27 (0, 0)), blk g3166 (.cells #[(.slice A3167 y3170.rows.length c3168), (iv y3170.width), (iv y3170.height), (.slice A_p3_North p3.North.length c_p3_North), (.slice A_p3_East p3.East.length c_p3_East), (.slice A_p3_South p3.South.length c_p3_South), (.slice A_p3_West p3.West.length c_p3_West)] 81 (0, 0)), rowO 85 encN_Row A3167 c3168 (tag H3169 y3170.rows), poolO [nestO subN_Row H3169 y3170.rows], rowO 91 (encMap A8_Int Bool) t.2.1 t.2.2.1 (tag t.2.2.2 t.1), mapsO (aggI ints_A8_Int) vB t.2.2.2 t.1] ∧ x5249 = t.1) (fun Kx5249 => ?_) ?_
 ·
  refine WC.block ?_
  refine WC.loop (T := ((List (Option (List (A8_Int × Bool)))) × Int) × (Option Addr) × Nat × (Nat → Nat)) (fun t => [(1, (iv p1)), (2, (iv p2)), (8, (pt g2265)), (10, (pt g3166)), (12, (.slice t.2.1 t.1.1.length t.2.2.1)), (13, (iv t.1.2))]) (fun n t w1 => St NoS w w1 [rowR enc_Tile A_p0 c_p0 p0, rowR encInt A_p3_North c_p3_North p3.North, rowR encInt A_p3_East c_p3_East p3.East, rowR encInt A_p3_South c_p3_South p3.South, rowR encInt A_p3_West c_p3_West p3.West] [blk g2265 (.cells #[(iv 0), (iv 0), (.slice none 0 0)] 27 (0, 0)), blk g3166 (.cells #[(.slice A3167 y3170.rows.length c3168), (iv y3170.width), (iv y3170.height), (.slice A_p3_North p3.North.length c_p3_North), (.slice A_p3_East p3.East.length c_p3_East), (.slice A_p3_South p3.South.length c_p3_South), (.slice A_p3_West p3.West.length c_p3_West)] 81 (0, 0)), rowO 85 encN_Row A3167 c3168 (tag H3169 y3170.rows), poolO [nestO subN_Row H3169 y3170.rows], rowO 91 (encMap A8_Int Bool) t.2.1 t.2.2.1 (tag t.2.2.2 t.1.1), mapsO (aggI ints_A8_Int) vB t.2.2.2 t.1.1] ∧ fill_First.l2 n t.1.1 t.1.2 p2 p3 y3170 = some x5249) k (((List.replicate p2.toNat (none : Option (List (A8_Int × Bool)))), w64 (p2 - 1)), (some ⟨g3236, 0, none⟩), p2.toNat, g0) [1, 2, 8, 10, 12, 13] rfl ⟨(hS3240.subR [0, 1, 2, 3, 4]).sub [5, 2, 3, 4, 1, 0] (by decide), hx5250⟩ ?_
  rintro k5251 ⟨⟨l5242, x5244⟩, A5240, c5241, H5243⟩ w5252 ⟨hS5253, hl5254⟩
  cases k5251 with
  | zero => rw [fill_First.l2] at hl5254; cases hl5254
  | succ k5251 =>
   rw [fill_First.l2] at hl5254
   refine WC.seq ?_
   refine WC.seq ?_
   refine WC.region ?_
   refine seg 2 [] [1, 2, 8, 10, 12, 13, 39] [(1, (iv p1)), (2, (iv p2)), (8, (pt g2265)), (10, (pt g3166)), (12, (.slice A5240 l5242.length c5241)), (13, (iv x5244)), (39, (.bool (decide (x5244 ≥ 0))))] [] (fun fb => by kernel_rfl) rfl trivial ?_
   refine WL.done rfl ?_
   refine WX.next ?_
   rcases br_some hl5254 with ⟨h5255, hl5254⟩ | ⟨h5255, hl5254⟩
   ·refine WC.condT2 (fun fb => by kernel_rfl) h5255 ?_
    refine WC.skip ?_
    refine WX.next ?_
    refine WC.seq ?_
    refine WC.block ?_
    refine WC.seq ?_
    refine WC.region ?_
    refine seg 2 [] [1, 2, 8, 10, 12, 13, 42, 43] [(1, (iv p1)), (2, (iv p2)), (8, (pt g2265)), (10, (pt g3166)), (12, (.slice A5240 l5242.length c5241)), (13, (iv x5244)), (42, (.slice A5240 l5242.length c5241)), (43, (iv x5244))] [] (fun fb => by kernel_rfl) rfl trivial ?_
    refine WL.new hS5253 44 [] (fun g => (.map (some g))) (mapObj (aggI ints_A8_Int) vB ([] : List (A8_Int × Bool))) [] (fun fb g => by kernel_rfl) trivial (fun g5256 w5257 hS5258 => ?_)
    refine ⟨trivial, ?_⟩
    obtain ⟨h5259, hl5254⟩ := as_some hl5254
    refine seg 4 [] [1, 2, 8, 10, 12, 13, 44, 45] [(1, (iv p1)), (2, (iv p2)), (8, (pt g2265)), (10, (pt g3166)), (12, (.slice A5240 l5242.length c5241)), (13, (iv x5244)), (44, (.map (some g5256))), (45, (.pointer (some ((adr A5240).add ((x5244).toNat * 1)))))] [.idx A5240 x5244 l5242.length] (fun fb => by kernel_rfl) rfl ⟨nrow_adr (rowO.rd (hS5258.own 5).1) h5259.1 h5259.2, trivial⟩ ?_
    refine WL.storeRow hS5258 5 rfl (x5244) (g5256, some ([] : List (A8_Int × Bool))) (0, none) [(0, (.map (some g5256)))] (fun fb => by kernel_rfl) h5259.1 (by rw [tag_length]; exact h5259.2) (by kernel_rfl) (by kernel_rfl) [0, 1, 2, 3, 4, 6] (by decide) (by decide) (fun w5260 hS5261 => ?_)
    have hS5262 : St NoS w w5260 [rowR enc_Tile A_p0 c_p0 p0, rowR encInt A_p3_North c_p3_North p3.North, rowR encInt A_p3_East c_p3_East p3.East, rowR encInt A_p3_South c_p3_South p3.South, rowR encInt A_p3_West c_p3_West p3.West] [rowO 91 (encMap A8_Int Bool) A5240 c5241 (tag (updH H5243 x5244.toNat g5256) (l5242.set x5244.toNat (some ([] : List (A8_Int × Bool))))), blk g5256 (mapObj (aggI ints_A8_Int) vB ([] : List (A8_Int × Bool))), blk g2265 (.cells #[(iv 0), (iv 0), (.slice none 0 0)] 27 (0, 0)), blk g3166 (.cells #[(.slice A3167 y3170.rows.length c3168), (iv y3170.width), (iv y3170.height), (.slice A_p3_North p3.North.length c_p3_North), (.slice A_p3_East p3.East.length c_p3_East), (.slice A_p3_South p3.South.length c_p3_South), (.slice A_p3_West p3.West.length c_p3_West)] 81 (0, 0)), rowO 85 encN_Row A3167 c3168 (tag H3169 y3170.rows), poolO [nestO subN_Row H3169 y3170.rows], mapsO (aggI ints_A8_Int) vB H5243 l5242] := by rw [tag_set]; exact hS5261
    have hS5263 : St NoS w w5260 [rowR enc_Tile A_p0 c_p0 p0, rowR encInt A_p3_North c_p3_North p3.North, rowR encInt A_p3_East c_p3_East p3.East, rowR encInt A_p3_South c_p3_South p3.South, rowR encInt A_p3_West c_p3_West p3.West] [mapsO (aggI ints_A8_Int) vB (updH H5243 x5244.toNat g5256) (l5242.set x5244.toNat (some ([] : List (A8_Int × Bool)))), rowO 91 (encMap A8_Int Bool) A5240 c5241 (tag (updH H5243 x5244.toNat g5256) (l5242.set x5244.toNat (some ([] : List (A8_Int × Bool))))), blk g2265 (.cells #[(iv 0), (iv 0), (.slice none 0 0)] 27 (0, 0)), blk g3166 (.cells #[(.slice A3167 y3170.rows.length c3168), (iv y3170.width), (iv y3170.height), (.slice A_p3_North p3.North.length c_p3_North), (.slice A_p3_East p3.East.length c_p3_East), (.slice A_p3_South p3.South.length c_p3_South), (.slice A_p3_West p3.West.length c_p3_West)] 81 (0, 0)), rowO 85 encN_Row A3167 c3168 (tag H3169 y3170.rows), poolO [nestO subN_Row H3169 y3170.rows]] := hS5262.mapsSet 6 1 rfl rfl (by decide) (x5244.toNat) [0, 2, 3, 4, 5] (by decide) (by decide)
    refine ⟨trivial, ?_⟩
    refine WL.reE [1, 2, 8, 10, 12, 13] [(1, (iv p1)), (2, (iv p2)), (8, (pt g2265)), (10, (pt g3166)), (12, (.slice A5240 l5242.length c5241)), (13, (iv x5244))] [(1, (iv p1)), (2, (iv p2)), (8, (pt g2265)), (10, (pt g3166)), (12, (.slice A5240 (l5242.set x5244.toNat (some ([] : List (A8_Int × Bool)))).length c5241)), (13, (iv x5244))] rfl (by simp only [List.length_set]) ?_
    refine WL.done rfl ?_
    refine WX.next ?_
    refine WC.seq ?_
    refine WC.region ?_
    refine seg 6 [.v (.slice A3167 y3170.rows.length c3168)] [1, 2, 8, 10, 12, 13, 49, 50, 51] [(1, (iv p1)), (2, (iv p2)), (8, (pt g2265)), (10, (pt g3166)), (12, (.slice A5240 (l5242.set x5244.toNat (some ([] : List (A8_Int × Bool)))).length c5241)), (13, (iv x5244)), (49, (.slice A3167 y3170.rows.length c3168)), (50, (iv (y3170.rows.length : Int))), (51, (iv 0))] [.cell ⟨g3166, 0, none⟩ (.slice A3167 y3170.rows.length c3168)] (fun fb => by kernel_rfl) rfl ⟨hS5263.cell 3 rfl 0 rfl, trivial⟩ ?_
    refine WL.done rfl ?_
    refine WX.next ?_
    obtain ⟨x5626, hx5627, hl5254⟩ := bind_some hl5254
    refine WC.cutN (T := (List (Option (List (A8_Int × Bool)))) × (Option Addr) × Nat × (Nat → Nat)) (fun t => [(1, (iv p1)), (2, (iv p2)), (8, (pt g2265)), (10, (pt g3166)), (12, (.slice t.2.1 t.1.length t.2.2.1)), (13, (iv x5244))]) (fun t w1 => St NoS w w1 [rowR enc_Tile A_p0 c_p0 p0, rowR encInt A_p3_North c_p3_North p3.North, rowR encInt A_p3_East c_p3_East p3.East, rowR encInt A_p3_South c_p3_South p3.South, rowR encInt A_p3_West c_p3_West p3.West] [blk g2265 (.cells #[(iv 0), (iv 0), (.slice none 0 0)] 27 (0, 0)), blk g3166 (.cells #[(.slice A3167 y3170.rows.length c3168), (iv y3170.width), (iv y3170.height), (.slice A_p3_North p3.North.length c_p3_North), (.slice A_p3_East p3.East.length c_p3_East), (.slice A_p3_South p3.South.length c_p3_South), (.slice A_p3_West p3.West.length c_p3_West)] 81 (0, 0)), rowO 85 encN_Row A3167 c3168 (tag H3169 y3170.rows), poolO [nestO subN_Row H3169 y3170.rows], rowO 91 (encMap A8_Int Bool) t.2.1 t.2.2.1 (tag t.2.2.2 t.1), mapsO (aggI ints_A8_Int) vB t.2.2.2 t.1] ∧ x5626 = t.1) (fun Kx5626 => ?_) ?_
    ·
     refine WC.block ?_
     refine WC.loop (T := ((List (Option (List (A8_Int × Bool)))) × Int) × (Option Addr) × Nat × (Nat → Nat)) (fun t => [(1, (iv p1)), (2, (iv p2)), (8, (pt g2265)), (10, (pt g3166)), (12, (.slice t.2.1 t.1.1.length t.2.2.1)), (13, (iv x5244)), (49, (.slice A3167 y3170.rows.length c3168)), (50, (iv (y3170.rows.length : Int))), (51, (iv t.1.2))]) (fun n t w1 => St NoS w w1 [rowR enc_Tile A_p0 c_p0 p0, rowR encInt A_p3_North c_p3_North p3.North, rowR encInt A_p3_East c_p3_East p3.East, rowR encInt A_p3_South c_p3_South p3.South, rowR encInt A_p3_West c_p3_West p3.West] [blk g2265 (.cells #[(iv 0), (iv 0), (.slice none 0 0)] 27 (0, 0)), blk g3166 (.cells #[(.slice A3167 y3170.rows.length c3168), (iv y3170.width), (iv y3170.height), (.slice A_p3_North p3.North.length c_p3_North), (.slice A_p3_East p3.East.length c_p3_East), (.slice A_p3_South p3.South.length c_p3_South), (.slice A_p3_West p3.West.length c_p3_West)] 81 (0, 0)), rowO 85 encN_Row A3167 c3168 (tag H3169 y3170.rows), poolO [nestO subN_Row H3169 y3170.rows], rowO 91 (encMap A8_Int Bool) t.2.1 t.2.2.1 (tag t.2.2.2 t.1.1), mapsO (aggI ints_A8_Int) vB t.2.2.2 t.1.1] ∧ fill_First.l3 n t.1.1 t.1.2 p2 p3 y3170 x5244 = some x5626) k5251 ((l5242.set x5244.toNat (some ([] : List (A8_Int × Bool))), 0), A5240, c5241, (updH H5243 x5244.toNat g5256)) [1, 2, 8, 10, 12, 13, 49, 50, 51] rfl ⟨(hS5263.subR [0, 1, 2, 3, 4]).sub [2, 3, 4, 5, 1, 0] (by decide), hx5627⟩ ?_
     rintro k5628 ⟨⟨l5619, x5621⟩, A5617, c5618, H5620⟩ w5629 ⟨hS5630, hl5631⟩
     cases k5628 with
     | zero => rw [fill_First.l3] at hl5631; cases hl5631
     | succ k5628 =>
      rw [fill_First.l3] at hl5631
      refine WC.seq ?_
      refine WC.region ?_
      refine seg 1 [] [1, 2, 8, 10, 12, 13, 49, 50, 51, 52] [(1, (iv p1)), (2, (iv p2)), (8, (pt g2265)), (10, (pt g3166)), (12, (.slice A5617 l5619.length c5618)), (13, (iv x5244)), (49, (.slice A3167 y3170.rows.length c3168)), (50, (iv (y3170.rows.length : Int))), (51, (iv x5621)), (52, (.bool (decide (x5621 < (y3170.rows.length : Int)))))] [] (fun fb => by kernel_rfl) rfl trivial ?_
      refine WL.done rfl ?_
      refine WX.next ?_
      refine WC.seq ?_
      rcases br_some hl5631 with ⟨h5632, hl5631⟩ | ⟨h5632, hl5631⟩
      ·refine WC.condT2 (fun fb => by kernel_rfl) h5632 ?_
       refine WC.skip ?_
       refine WX.next ?_
       refine WC.seq ?_
       refine WC.block ?_
       refine WC.seq ?_
       refine WC.region ?_
       obtain ⟨h5633, hl5631⟩ := as_some hl5631
       refine seg 2 [.v (.slice ((H3169 x5621.toNat 0).1) ((rdD y3170.rows x5621 z_Row).Cells).length ((H3169 x5621.toNat 0).2)), .v (iv (((rdD y3170.rows x5621 z_Row).South).e0)), .v (iv (((rdD y3170.rows x5621 z_Row).South).e1)), .v (iv (((rdD y3170.rows x5621 z_Row).South).e2)), .v (iv (((rdD y3170.rows x5621 z_Row).South).e3)), .v (iv (((rdD y3170.rows x5621 z_Row).South).e4)), .v (iv (((rdD y3170.rows x5621 z_Row).South).e5)), .v (iv (((rdD y3170.rows x5621 z_Row).South).e6)), .v (iv (((rdD y3170.rows x5621 z_Row).South).e7)), .v (iv (((rdD y3170.rows x5621 z_Row).North).e0)), .v (iv (((rdD y3170.rows x5621 z_Row).North).e1)), .v (iv (((rdD y3170.rows x5621 z_Row).North).e2)), .v (iv (((rdD y3170.rows x5621 z_Row).North).e3)), .v (iv (((rdD y3170.rows x5621 z_Row).North).e4)), .v (iv (((rdD y3170.rows x5621 z_Row).North).e5)), .v (iv (((rdD y3170.rows x5621 z_Row).North).e6)), .v (iv (((rdD y3170.rows x5621 z_Row).North).e7)), .v (iv ((rdD y3170.rows x5621 z_Row).West)), .v (iv ((rdD y3170.rows x5621 z_Row).East))] [1, 2, 8, 10, 12, 13, 49, 50, 51, 54] [(1, (iv p1)), (2, (iv p2)), (8, (pt g2265)), (10, (pt g3166)), (12, (.slice A5617 l5619.length c5618)), (13, (iv x5244)), (49, (.slice A3167 y3170.rows.length c3168)), (50, (iv (y3170.rows.length : Int))), (51, (iv x5621)), (54, (.agg #[(.slice ((H3169 x5621.toNat 0).1) ((rdD y3170.rows x5621 z_Row).Cells).length ((H3169 x5621.toNat 0).2)), (iv (((rdD y3170.rows x5621 z_Row).South).e0)), (iv (((rdD y3170.rows x5621 z_Row).South).e1)), (iv (((rdD y3170.rows x5621 z_Row).South).e2)), (iv (((rdD y3170.rows x5621 z_Row).South).e3)), (iv (((rdD y3170.rows x5621 z_Row).South).e4)), (iv (((rdD y3170.rows x5621 z_Row).South).e5)), (iv (((rdD y3170.rows x5621 z_Row).South).e6)), (iv (((rdD y3170.rows x5621 z_Row).South).e7)), (iv (((rdD y3170.rows x5621 z_Row).North).e0)), (iv (((rdD y3170.rows x5621 z_Row).North).e1)), (iv (((rdD y3170.rows x5621 z_Row).North).e2)), (iv (((rdD y3170.rows x5621 z_Row).North).e3)), (iv (((rdD y3170.rows x5621 z_Row).North).e4)), (iv (((rdD y3170.rows x5621 z_Row).North).e5)), (iv (((rdD y3170.rows x5621 z_Row).North).e6)), (iv (((rdD y3170.rows x5621 z_Row).North).e7)), (iv ((rdD y3170.rows x5621 z_Row).West)), (iv ((rdD y3170.rows x5621 z_Row).East))]))] [.idx A3167 x5621 y3170.rows.length, .cell ((adr A3167).add ((x5621).toNat * 19)) (.slice ((H3169 x5621.toNat 0).1) ((rdD y3170.rows x5621 z_Row).Cells).length ((H3169 x5621.toNat 0).2)), .cell (((adr A3167).add ((x5621).toNat * 19)).add 1) (iv (((rdD y3170.rows x5621 z_Row).South).e0)), .cell (((adr A3167).add ((x5621).toNat * 19)).add 2) (iv (((rdD y3170.rows x5621 z_Row).South).e1)), .cell (((adr A3167).add ((x5621).toNat * 19)).add 3) (iv (((rdD y3170.rows x5621 z_Row).South).e2)), .cell (((adr A3167).add ((x5621).toNat * 19)).add 4) (iv (((rdD y3170.rows x5621 z_Row).South).e3)), .cell (((adr A3167).add ((x5621).toNat * 19)).add 5) (iv (((rdD y3170.rows x5621 z_Row).South).e4)), .cell (((adr A3167).add ((x5621).toNat * 19)).add 6) (iv (((rdD y3170.rows x5621 z_Row).South).e5)), .cell (((adr A3167).add ((x5621).toNat * 19)).add 7) (iv (((rdD y3170.rows x5621 z_Row).South).e6)), .cell (((adr A3167).add ((x5621).toNat * 19)).add 8) (iv (((rdD y3170.rows x5621 z_Row).South).e7)), .cell (((adr A3167).add ((x5621).toNat * 19)).add 9) (iv (((rdD y3170.rows x5621 z_Row).North).e0)), .cell (((adr A3167).add ((x5621).toNat * 19)).add 10) (iv (((rdD y3170.rows x5621 z_Row).North).e1)), .cell (((adr A3167).add ((x5621).toNat * 19)).add 11) (iv (((rdD y3170.rows x5621 z_Row).North).e2)), .cell (((adr A3167).add ((x5621).toNat * 19)).add 12) (iv (((rdD y3170.rows x5621 z_Row).North).e3)), .cell (((adr A3167).add ((x5621).toNat * 19)).add 13) (iv (((rdD y3170.rows x5621 z_Row).North).e4)), .cell (((adr A3167).add ((x5621).toNat * 19)).add 14) (iv (((rdD y3170.rows x5621 z_Row).North).e5)), .cell (((adr A3167).add ((x5621).toNat * 19)).add 15) (iv (((rdD y3170.rows x5621 z_Row).North).e6)), .cell (((adr A3167).add ((x5621).toNat * 19)).add 16) (iv (((rdD y3170.rows x5621 z_Row).North).e7)), .cell (((adr A3167).add ((x5621).toNat * 19)).add 17) (iv ((rdD y3170.rows x5621 z_Row).West)), .cell (((adr A3167).add ((x5621).toNat * 19)).add 18) (iv ((rdD y3170.rows x5621 z_Row).East))] (fun fb => by kernel_rfl) rfl ⟨nrow_adr (rowO.rd (hS5630.own 2).1) h5633.1 h5633.2, nrow_cell (rowO.rd (hS5630.own 2).1) z_Row h5633.1 h5633.2 0 rfl, nrow_cell (rowO.rd (hS5630.own 2).1) z_Row h5633.1 h5633.2 1 rfl, nrow_cell (rowO.rd (hS5630.own 2).1) z_Row h5633.1 h5633.2 2 rfl, nrow_cell (rowO.rd (hS5630.own 2).1) z_Row h5633.1 h5633.2 3 rfl, nrow_cell (rowO.rd (hS5630.own 2).1) z_Row h5633.1 h5633.2 4 rfl, nrow_cell (rowO.rd (hS5630.own 2).1) z_Row h5633.1 h5633.2 5 rfl, nrow_cell (rowO.rd (hS5630.own 2).1) z_Row h5633.1 h5633.2 6 rfl, nrow_cell (rowO.rd (hS5630.own 2).1) z_Row h5633.1 h5633.2 7 rfl, nrow_cell (rowO.rd (hS5630.own 2).1) z_Row h5633.1 h5633.2 8 rfl, nrow_cell (rowO.rd (hS5630.own 2).1) z_Row h5633.1 h5633.2 9 rfl, nrow_cell (rowO.rd (hS5630.own 2).1) z_Row h5633.1 h5633.2 10 rfl, nrow_cell (rowO.rd (hS5630.own 2).1) z_Row h5633.1 h5633.2 11 rfl, nrow_cell (rowO.rd (hS5630.own 2).1) z_Row h5633.1 h5633.2 12 rfl, nrow_cell (rowO.rd (hS5630.own 2).1) z_Row h5633.1 h5633.2 13 rfl, nrow_cell (rowO.rd (hS5630.own 2).1) z_Row h5633.1 h5633.2 14 rfl, nrow_cell (rowO.rd (hS5630.own 2).1) z_Row h5633.1 h5633.2 15 rfl, nrow_cell (rowO.rd (hS5630.own 2).1) z_Row h5633.1 h5633.2 16 rfl, nrow_cell (rowO.rd (hS5630.own 2).1) z_Row h5633.1 h5633.2 17 rfl, nrow_cell (rowO.rd (hS5630.own 2).1) z_Row h5633.1 h5633.2 18 rfl, trivial⟩ ?_
       refine WL.new hS5630 15 [] (fun g => (.pointer (some ⟨g, 0, none⟩))) (.cells #[(.slice none 0 0), (iv 0), (iv 0), (iv 0), (iv 0), (iv 0), (iv 0), (iv 0), (iv 0), (iv 0), (iv 0), (iv 0), (iv 0), (iv 0), (iv 0), (iv 0), (iv 0), (iv 0), (iv 0)] 85 (0, 0)) [] (fun fb g => by kernel_rfl) trivial (fun g5634 w5635 hS5636 => ?_)
       refine ⟨trivial, ?_⟩
       refine WL.store hS5636 0 rfl [(0, (.slice ((H3169 x5621.toNat 0).1) ((rdD y3170.rows x5621 z_Row).Cells).length ((H3169 x5621.toNat 0).2))), (1, (iv (((rdD y3170.rows x5621 z_Row).South).e0))), (2, (iv (((rdD y3170.rows x5621 z_Row).South).e1))), (3, (iv (((rdD y3170.rows x5621 z_Row).South).e2))), (4, (iv (((rdD y3170.rows x5621 z_Row).South).e3))), (5, (iv (((rdD y3170.rows x5621 z_Row).South).e4))), (6, (iv (((rdD y3170.rows x5621 z_Row).South).e5))), (7, (iv (((rdD y3170.rows x5621 z_Row).South).e6))), (8, (iv (((rdD y3170.rows x5621 z_Row).South).e7))), (9, (iv (((rdD y3170.rows x5621 z_Row).North).e0))), (10, (iv (((rdD y3170.rows x5621 z_Row).North).e1))), (11, (iv (((rdD y3170.rows x5621 z_Row).North).e2))), (12, (iv (((rdD y3170.rows x5621 z_Row).North).e3))), (13, (iv (((rdD y3170.rows x5621 z_Row).North).e4))), (14, (iv (((rdD y3170.rows x5621 z_Row).North).e5))), (15, (iv (((rdD y3170.rows x5621 z_Row).North).e6))), (16, (iv (((rdD y3170.rows x5621 z_Row).North).e7))), (17, (iv ((rdD y3170.rows x5621 z_Row).West))), (18, (iv ((rdD y3170.rows x5621 z_Row).East)))] #[(.slice ((H3169 x5621.toNat 0).1) ((rdD y3170.rows x5621 z_Row).Cells).length ((H3169 x5621.toNat 0).2)), (iv (((rdD y3170.rows x5621 z_Row).South).e0)), (iv (((rdD y3170.rows x5621 z_Row).South).e1)), (iv (((rdD y3170.rows x5621 z_Row).South).e2)), (iv (((rdD y3170.rows x5621 z_Row).South).e3)), (iv (((rdD y3170.rows x5621 z_Row).South).e4)), (iv (((rdD y3170.rows x5621 z_Row).South).e5)), (iv (((rdD y3170.rows x5621 z_Row).South).e6)), (iv (((rdD y3170.rows x5621 z_Row).South).e7)), (iv (((rdD y3170.rows x5621 z_Row).North).e0)), (iv (((rdD y3170.rows x5621 z_Row).North).e1)), (iv (((rdD y3170.rows x5621 z_Row).North).e2)), (iv (((rdD y3170.rows x5621 z_Row).North).e3)), (iv (((rdD y3170.rows x5621 z_Row).North).e4)), (iv (((rdD y3170.rows x5621 z_Row).North).e5)), (iv (((rdD y3170.rows x5621 z_Row).North).e6)), (iv (((rdD y3170.rows x5621 z_Row).North).e7)), (iv ((rdD y3170.rows x5621 z_Row).West)), (iv ((rdD y3170.rows x5621 z_Row).East))] (fun fb => by kernel_rfl) (by kernel_rfl) (by kernel_rfl) [1, 2, 3, 4, 5, 6] (by decide) (by decide) (fun w5638 hS5639 => ?_)
       refine ⟨trivial, ?_⟩
       refine WL.done rfl ?_
       refine WX.next ?_
       refine WC.seq ?_
       obtain ⟨x5700, hx5701, hl5631⟩ := bind_some hl5631
       refine WC.cutN (T := Bool) (fun t => [(1, (iv p1)), (2, (iv p2)), (8, (pt g2265)), (10, (pt g3166)), (12, (.slice A5617 l5619.length c5618)), (13, (iv x5244)), (15, (pt g5634)), (49, (.slice A3167 y3170.rows.length c3168)), (50, (iv (y3170.rows.length : Int))), (51, (iv x5621)), (74, (.bool t))]) (fun t w1 => St NoS w w1 [rowR enc_Tile A_p0 c_p0 p0, rowR encInt A_p3_North c_p3_North p3.North, rowR encInt A_p3_East c_p3_East p3.East, rowR encInt A_p3_South c_p3_South p3.South, rowR encInt A_p3_West c_p3_West p3.West] [blk g2265 (.cells #[(iv 0), (iv 0), (.slice none 0 0)] 27 (0, 0)), blk g3166 (.cells #[(.slice A3167 y3170.rows.length c3168), (iv y3170.width), (iv y3170.height), (.slice A_p3_North p3.North.length c_p3_North), (.slice A_p3_East p3.East.length c_p3_East), (.slice A_p3_South p3.South.length c_p3_South), (.slice A_p3_West p3.West.length c_p3_West)] 81 (0, 0)), rowO 85 encN_Row A3167 c3168 (tag H3169 y3170.rows), poolO [nestO subN_Row H3169 y3170.rows], rowO 91 (encMap A8_Int Bool) A5617 c5618 (tag H5620 l5619), mapsO (aggI ints_A8_Int) vB H5620 l5619, blk g5634 (.cells #[(.slice ((H3169 x5621.toNat 0).1) ((rdD y3170.rows x5621 z_Row).Cells).length ((H3169 x5621.toNat 0).2)), (iv (((rdD y3170.rows x5621 z_Row).South).e0)), (iv (((rdD y3170.rows x5621 z_Row).South).e1)), (iv (((rdD y3170.rows x5621 z_Row).South).e2)), (iv (((rdD y3170.rows x5621 z_Row).South).e3)), (iv (((rdD y3170.rows x5621 z_Row).South).e4)), (iv (((rdD y3170.rows x5621 z_Row).South).e5)), (iv (((rdD y3170.rows x5621 z_Row).South).e6)), (iv (((rdD y3170.rows x5621 z_Row).South).e7)), (iv (((rdD y3170.rows x5621 z_Row).North).e0)), (iv (((rdD y3170.rows x5621 z_Row).North).e1)), (iv (((rdD y3170.rows x5621 z_Row).North).e2)), (iv (((rdD y3170.rows x5621 z_Row).North).e3)), (iv (((rdD y3170.rows x5621 z_Row).North).e4)), (iv (((rdD y3170.rows x5621 z_Row).North).e5)), (iv (((rdD y3170.rows x5621 z_Row).North).e6)), (iv (((rdD y3170.rows x5621 z_Row).North).e7)), (iv ((rdD y3170.rows x5621 z_Row).West)), (iv ((rdD y3170.rows x5621 z_Row).East))] 85 (0, 0))] ∧ x5700 = t) (fun Kx5700 => ?_) ?_
       ·
        rcases br_some hx5701 with ⟨h5707, hx5701⟩ | ⟨h5707, hx5701⟩
        ·
         refine WC.regionD ([(1, ⟨g5634, 0, none⟩, (.slice ((H3169 x5621.toNat 0).1) ((rdD y3170.rows x5621 z_Row).Cells).length ((H3169 x5621.toNat 0).2))), (1, ⟨g5634, 1, none⟩, (iv (((rdD y3170.rows x5621 z_Row).South).e0))), (1, ⟨g5634, 2, none⟩, (iv (((rdD y3170.rows x5621 z_Row).South).e1))), (1, ⟨g5634, 3, none⟩, (iv (((rdD y3170.rows x5621 z_Row).South).e2))), (1, ⟨g5634, 4, none⟩, (iv (((rdD y3170.rows x5621 z_Row).South).e3))), (1, ⟨g5634, 5, none⟩, (iv (((rdD y3170.rows x5621 z_Row).South).e4))), (1, ⟨g5634, 6, none⟩, (iv (((rdD y3170.rows x5621 z_Row).South).e5))), (1, ⟨g5634, 7, none⟩, (iv (((rdD y3170.rows x5621 z_Row).South).e6))), (1, ⟨g5634, 8, none⟩, (iv (((rdD y3170.rows x5621 z_Row).South).e7))), (1, ⟨g5634, 9, none⟩, (iv (((rdD y3170.rows x5621 z_Row).North).e0))), (1, ⟨g5634, 10, none⟩, (iv (((rdD y3170.rows x5621 z_Row).North).e1))), (1, ⟨g5634, 11, none⟩, (iv (((rdD y3170.rows x5621 z_Row).North).e2))), (1, ⟨g5634, 12, none⟩, (iv (((rdD y3170.rows x5621 z_Row).North).e3))), (1, ⟨g5634, 13, none⟩, (iv (((rdD y3170.rows x5621 z_Row).North).e4))), (1, ⟨g5634, 14, none⟩, (iv (((rdD y3170.rows x5621 z_Row).North).e5))), (1, ⟨g5634, 15, none⟩, (iv (((rdD y3170.rows x5621 z_Row).North).e6))), (1, ⟨g5634, 16, none⟩, (iv (((rdD y3170.rows x5621 z_Row).North).e7))), (1, ⟨g5634, 17, none⟩, (iv ((rdD y3170.rows x5621 z_Row).West))), (1, ⟨g5634, 18, none⟩, (iv ((rdD y3170.rows x5621 z_Row).East))), (16, ⟨g5634, 9, none⟩, (iv (((rdD y3170.rows x5621 z_Row).North).e0))), (16, ⟨g5634, 10, none⟩, (iv (((rdD y3170.rows x5621 z_Row).North).e1))), (16, ⟨g5634, 11, none⟩, (iv (((rdD y3170.rows x5621 z_Row).North).e2))), (16, ⟨g5634, 12, none⟩, (iv (((rdD y3170.rows x5621 z_Row).North).e3))), (16, ⟨g5634, 13, none⟩, (iv (((rdD y3170.rows x5621 z_Row).North).e4))), (16, ⟨g5634, 14, none⟩, (iv (((rdD y3170.rows x5621 z_Row).North).e5))), (16, ⟨g5634, 15, none⟩, (iv (((rdD y3170.rows x5621 z_Row).North).e6))), (16, ⟨g5634, 16, none⟩, (iv (((rdD y3170.rows x5621 z_Row).North).e7)))], [0, 1, 2, 4, 5, 6, 7, 8, 9, 10, 11, 12, 13, 15, 16, 18, 19], [[], [], [], [0, 1, 2], [0, 1, 2, 3], [0, 1, 2, 3, 4], [0, 1, 2, 3, 4], [0, 1, 2, 3, 4, 6], [0, 1, 2, 3, 4, 5, 6, 7], [0, 1, 2, 3, 4, 5, 6, 7, 8], [0, 1, 2, 3, 4, 5, 6, 7, 8, 9], [0, 1, 2, 3, 4, 5, 6, 7, 8, 9], [0, 1, 2, 3, 4, 5, 6, 7, 8, 9, 11], [0, 1, 2, 3, 4, 5, 6, 7, 8, 9, 10, 11, 12], [0, 1, 2, 3, 4, 5, 6, 7, 8, 9, 10, 11, 12, 13], [0, 1, 2, 3, 4, 5, 6, 7, 8, 9], [0, 1, 2, 3, 4, 5, 6, 7, 8, 9, 15], [0, 1, 2, 3, 4, 5, 6, 7, 8, 9, 10, 11, 12, 13, 14, 15, 16], [0, 1, 2, 3, 4, 5, 6, 7, 8, 9, 10, 11, 12, 13, 14, 15, 16, 17], [0, 1, 2, 3, 4, 5, 6, 7, 8, 9, 10, 11, 12, 13, 14, 15, 16, 17, 18]]) [[0, 1, 2, 3, 4, 5, 6, 7, 8, 9, 10, 11, 12, 13, 15, 16, 14, 17, 18, 19]] (by kernel_rfl) (by kernel_rfl) (NoPanic.seq (NoPanic.block (NoPanic.seq (NoPanic.seq (NoPanic.block (NoPanic.block (NoPanic.seq (NoPanic.seq (NoPanic.block (NoPanic.seq (NoPanic.body))))))))))) ?_
         have hS5716 := hS5639.drew
         revert hS5716
         generalize World.drew w5638 = w5715
         intro hS5716
         refine ⟨⟨hS5716.cell 0 rfl 0 rfl, hS5716.cell 0 rfl 1 rfl, hS5716.cell 0 rfl 2 rfl, hS5716.cell 0 rfl 3 rfl, hS5716.cell 0 rfl 4 rfl, hS5716.cell 0 rfl 5 rfl, hS5716.cell 0 rfl 6 rfl, hS5716.cell 0 rfl 7 rfl, hS5716.cell 0 rfl 8 rfl, hS5716.cell 0 rfl 9 rfl, hS5716.cell 0 rfl 10 rfl, hS5716.cell 0 rfl 11 rfl, hS5716.cell 0 rfl 12 rfl, hS5716.cell 0 rfl 13 rfl, hS5716.cell 0 rfl 14 rfl, hS5716.cell 0 rfl 15 rfl, hS5716.cell 0 rfl 16 rfl, hS5716.cell 0 rfl 17 rfl, hS5716.cell 0 rfl 18 rfl, hS5716.cell 0 rfl 9 rfl, hS5716.cell 0 rfl 10 rfl, hS5716.cell 0 rfl 11 rfl, hS5716.cell 0 rfl 12 rfl, hS5716.cell 0 rfl 13 rfl, hS5716.cell 0 rfl 14 rfl, hS5716.cell 0 rfl 15 rfl, hS5716.cell 0 rfl 16 rfl, trivial⟩, forallC ?_ (forallN)⟩
         refine segF 3 [.v (.slice ((H3169 x5621.toNat 0).1) ((rdD y3170.rows x5621 z_Row).Cells).length ((H3169 x5621.toNat 0).2)), .v (iv (((rdD y3170.rows x5621 z_Row).South).e0)), .v (iv (((rdD y3170.rows x5621 z_Row).South).e1)), .v (iv (((rdD y3170.rows x5621 z_Row).South).e2)), .v (iv (((rdD y3170.rows x5621 z_Row).South).e3)), .v (iv (((rdD y3170.rows x5621 z_Row).South).e4)), .v (iv (((rdD y3170.rows x5621 z_Row).South).e5)), .v (iv (((rdD y3170.rows x5621 z_Row).South).e6)), .v (iv (((rdD y3170.rows x5621 z_Row).South).e7)), .v (iv (((rdD y3170.rows x5621 z_Row).North).e0)), .v (iv (((rdD y3170.rows x5621 z_Row).North).e1)), .v (iv (((rdD y3170.rows x5621 z_Row).North).e2)), .v (iv (((rdD y3170.rows x5621 z_Row).North).e3)), .v (iv (((rdD y3170.rows x5621 z_Row).North).e4)), .v (iv (((rdD y3170.rows x5621 z_Row).North).e5)), .v (iv (((rdD y3170.rows x5621 z_Row).North).e6)), .v (iv (((rdD y3170.rows x5621 z_Row).North).e7)), .v (iv ((rdD y3170.rows x5621 z_Row).West)), .v (iv ((rdD y3170.rows x5621 z_Row).East))] [1, 2, 8, 10, 12, 13, 15, 49, 50, 51, 55, 56, 57] [(1, (iv p1)), (2, (iv p2)), (8, (pt g2265)), (10, (pt g3166)), (12, (.slice A5617 l5619.length c5618)), (13, (iv x5244)), (15, (pt g5634)), (49, (.slice A3167 y3170.rows.length c3168)), (50, (iv (y3170.rows.length : Int))), (51, (iv x5621)), (55, (pt g3166)), (56, (.agg #[(.slice ((H3169 x5621.toNat 0).1) ((rdD y3170.rows x5621 z_Row).Cells).length ((H3169 x5621.toNat 0).2)), (iv (((rdD y3170.rows x5621 z_Row).South).e0)), (iv (((rdD y3170.rows x5621 z_Row).South).e1)), (iv (((rdD y3170.rows x5621 z_Row).South).e2)), (iv (((rdD y3170.rows x5621 z_Row).South).e3)), (iv (((rdD y3170.rows x5621 z_Row).South).e4)), (iv (((rdD y3170.rows x5621 z_Row).South).e5)), (iv (((rdD y3170.rows x5621 z_Row).South).e6)), (iv (((rdD y3170.rows x5621 z_Row).South).e7)), (iv (((rdD y3170.rows x5621 z_Row).North).e0)), (iv (((rdD y3170.rows x5621 z_Row).North).e1)), (iv (((rdD y3170.rows x5621 z_Row).North).e2)), (iv (((rdD y3170.rows x5621 z_Row).North).e3)), (iv (((rdD y3170.rows x5621 z_Row).North).e4)), (iv (((rdD y3170.rows x5621 z_Row).North).e5)), (iv (((rdD y3170.rows x5621 z_Row).North).e6)), (iv (((rdD y3170.rows x5621 z_Row).North).e7)), (iv ((rdD y3170.rows x5621 z_Row).West)), (iv ((rdD y3170.rows x5621 z_Row).East))])), (57, (iv x5244))] [] [0, 1, 2, 3, 4, 5, 6, 7, 8, 9, 10, 11, 12, 13, 14, 15, 16, 17, 18] [(1, ⟨g5634, 0, none⟩, (.slice ((H3169 x5621.toNat 0).1) ((rdD y3170.rows x5621 z_Row).Cells).length ((H3169 x5621.toNat 0).2))), (1, ⟨g5634, 1, none⟩, (iv (((rdD y3170.rows x5621 z_Row).South).e0))), (1, ⟨g5634, 2, none⟩, (iv (((rdD y3170.rows x5621 z_Row).South).e1))), (1, ⟨g5634, 3, none⟩, (iv (((rdD y3170.rows x5621 z_Row).South).e2))), (1, ⟨g5634, 4, none⟩, (iv (((rdD y3170.rows x5621 z_Row).South).e3))), (1, ⟨g5634, 5, none⟩, (iv (((rdD y3170.rows x5621 z_Row).South).e4))), (1, ⟨g5634, 6, none⟩, (iv (((rdD y3170.rows x5621 z_Row).South).e5))), (1, ⟨g5634, 7, none⟩, (iv (((rdD y3170.rows x5621 z_Row).South).e6))), (1, ⟨g5634, 8, none⟩, (iv (((rdD y3170.rows x5621 z_Row).South).e7))), (1, ⟨g5634, 9, none⟩, (iv (((rdD y3170.rows x5621 z_Row).North).e0))), (1, ⟨g5634, 10, none⟩, (iv (((rdD y3170.rows x5621 z_Row).North).e1))), (1, ⟨g5634, 11, none⟩, (iv (((rdD y3170.rows x5621 z_Row).North).e2))), (1, ⟨g5634, 12, none⟩, (iv (((rdD y3170.rows x5621 z_Row).North).e3))), (1, ⟨g5634, 13, none⟩, (iv (((rdD y3170.rows x5621 z_Row).North).e4))), (1, ⟨g5634, 14, none⟩, (iv (((rdD y3170.rows x5621 z_Row).North).e5))), (1, ⟨g5634, 15, none⟩, (iv (((rdD y3170.rows x5621 z_Row).North).e6))), (1, ⟨g5634, 16, none⟩, (iv (((rdD y3170.rows x5621 z_Row).North).e7))), (1, ⟨g5634, 17, none⟩, (iv ((rdD y3170.rows x5621 z_Row).West))), (1, ⟨g5634, 18, none⟩, (iv ((rdD y3170.rows x5621 z_Row).East)))] (fun fb => by kernel_rfl) rfl trivial rfl ?_
         obtain ⟨t5718, ht5719, hx5701⟩ := bind_some hx5701
         refine WL.call (some 58) 60 #[(pt g3166), (.agg #[(.slice ((H3169 x5621.toNat 0).1) ((rdD y3170.rows x5621 z_Row).Cells).length ((H3169 x5621.toNat 0).2)), (iv (((rdD y3170.rows x5621 z_Row).South).e0)), (iv (((rdD y3170.rows x5621 z_Row).South).e1)), (iv (((rdD y3170.rows x5621 z_Row).South).e2)), (iv (((rdD y3170.rows x5621 z_Row).South).e3)), (iv (((rdD y3170.rows x5621 z_Row).South).e4)), (iv (((rdD y3170.rows x5621 z_Row).South).e5)), (iv (((rdD y3170.rows x5621 z_Row).South).e6)), (iv (((rdD y3170.rows x5621 z_Row).South).e7)), (iv (((rdD y3170.rows x5621 z_Row).North).e0)), (iv (((rdD y3170.rows x5621 z_Row).North).e1)), (iv (((rdD y3170.rows x5621 z_Row).North).e2)), (iv (((rdD y3170.rows x5621 z_Row).North).e3)), (iv (((rdD y3170.rows x5621 z_Row).North).e4)), (iv (((rdD y3170.rows x5621 z_Row).North).e5)), (iv (((rdD y3170.rows x5621 z_Row).North).e6)), (iv (((rdD y3170.rows x5621 z_Row).North).e7)), (iv ((rdD y3170.rows x5621 z_Row).West)), (iv ((rdD y3170.rows x5621 z_Row).East))]), (iv x5244)] (fun fb => by kernel_rfl) (fill_job_allows_calls _ (Job.mk y3170.rows y3170.width y3170.height p3) (rdD y3170.rows x5621 z_Row) x5244 g3166 A3167 c3168 H3169 A_p3_North c_p3_North A_p3_East c_p3_East A_p3_South c_p3_South A_p3_West c_p3_West ((H3169 x5621.toNat 0).1) ((H3169 x5621.toNat 0).2) t5718 _ (hS5716.ow 2) (hS5716.ow 3).ofO (poolO.ro (hS5716.ow 4) 0) (hS5716.rd 1) (hS5716.rd 2) (hS5716.rd 3) (hS5716.rd 4) (nestO.ro (poolO.ro (hS5716.ow 4) 0) z_Row h5633.1 h5633.2) ht5719) (fun v w5720 hR5721 => ?_)
         obtain ⟨rfl, hk_⟩ := hR5721
         have hS5722 := hS5716.keepN hk_
         refine ⟨⟨hS5722.cell 0 rfl 9 rfl, hS5722.cell 0 rfl 10 rfl, hS5722.cell 0 rfl 11 rfl, hS5722.cell 0 rfl 12 rfl, hS5722.cell 0 rfl 13 rfl, hS5722.cell 0 rfl 14 rfl, hS5722.cell 0 rfl 15 rfl, hS5722.cell 0 rfl 16 rfl, trivial⟩, ?_⟩
         refine seg 5 [] [1, 2, 8, 10, 12, 13, 15, 49, 50, 51, 59] [(1, (iv p1)), (2, (iv p2)), (8, (pt g2265)), (10, (pt g3166)), (12, (.slice A5617 l5619.length c5618)), (13, (iv x5244)), (15, (pt g5634)), (49, (.slice A3167 y3170.rows.length c3168)), (50, (iv (y3170.rows.length : Int))), (51, (iv x5621)), (59, (.bool t5718))] [] (fun fb => by kernel_rfl) rfl trivial ?_
         refine WL.cutV (T := Bool) 20 (fun t => [(74, (.bool t)), (1, (iv p1)), (2, (iv p2)), (8, (pt g2265)), (10, (pt g3166)), (12, (.slice A5617 l5619.length c5618)), (13, (iv x5244)), (15, (pt g5634)), (49, (.slice A3167 y3170.rows.length c3168)), (50, (iv (y3170.rows.length : Int))), (51, (iv x5621))]) (fun t => t5718 = t) (fun K => ?_) ?_
         ·
          rcases Bool.eq_false_or_eq_true t5718 with h5723 | h5723
          ·
           refine WL.setB 59 h5723 rfl ?_
           refine seg 10 [] [1, 2, 8, 10, 12, 13, 15, 49, 50, 51, 59, 64] [(1, (iv p1)), (2, (iv p2)), (8, (pt g2265)), (10, (pt g3166)), (12, (.slice A5617 l5619.length c5618)), (13, (iv x5244)), (15, (pt g5634)), (49, (.slice A3167 y3170.rows.length c3168)), (50, (iv (y3170.rows.length : Int))), (51, (iv x5621)), (59, (.bool true)), (64, (.bool (x5244 == (w64 (p2 - 1)))))] [] (fun fb => by kernel_rfl) rfl trivial ?_
           refine WL.setB 64 h5707 rfl ?_
           refine seg 20 [] [1, 2, 8, 10, 12, 13, 15, 49, 50, 51, 74] [(1, (iv p1)), (2, (iv p2)), (8, (pt g2265)), (10, (pt g3166)), (12, (.slice A5617 l5619.length c5618)), (13, (iv x5244)), (15, (pt g5634)), (49, (.slice A3167 y3170.rows.length c3168)), (50, (iv (y3170.rows.length : Int))), (51, (iv x5621)), (74, (.bool true))] [] (fun fb => by kernel_rfl) rfl trivial ?_
           exact WL.toV K true [74, 1, 2, 8, 10, 12, 13, 15, 49, 50, 51] rfl (by first | (rw [h5723]; done) | (rw [h5723]; rfl))
          refine WL.setB 59 h5723 rfl ?_
          refine seg 20 [] [1, 2, 8, 10, 12, 13, 15, 49, 50, 51, 74] [(1, (iv p1)), (2, (iv p2)), (8, (pt g2265)), (10, (pt g3166)), (12, (.slice A5617 l5619.length c5618)), (13, (iv x5244)), (15, (pt g5634)), (49, (.slice A3167 y3170.rows.length c3168)), (50, (iv (y3170.rows.length : Int))), (51, (iv x5621)), (74, (.bool false))] [] (fun fb => by kernel_rfl) rfl trivial ?_
          exact WL.toV K false [74, 1, 2, 8, 10, 12, 13, 15, 49, 50, 51] rfl (by first | (rw [h5723]; done) | (rw [h5723]; rfl))
         rintro b5724 rfl
         refine WL.done rfl ?_
         injection hx5701 with hx5701
         exact WX.to Kx5700 t5718 [1, 2, 8, 10, 12, 13, 15, 49, 50, 51, 74] rfl ⟨(hS5722.subR [0, 1, 2, 3, 4]).sub [1, 2, 3, 4, 5, 6, 0] (by decide), hx5701.symm⟩
        refine WC.regionD ([(1, ⟨g5634, 0, none⟩, (.slice ((H3169 x5621.toNat 0).1) ((rdD y3170.rows x5621 z_Row).Cells).length ((H3169 x5621.toNat 0).2))), (1, ⟨g5634, 1, none⟩, (iv (((rdD y3170.rows x5621 z_Row).South).e0))), (1, ⟨g5634, 2, none⟩, (iv (((rdD y3170.rows x5621 z_Row).South).e1))), (1, ⟨g5634, 3, none⟩, (iv (((rdD y3170.rows x5621 z_Row).South).e2))), (1, ⟨g5634, 4, none⟩, (iv (((rdD y3170.rows x5621 z_Row).South).e3))), (1, ⟨g5634, 5, none⟩, (iv (((rdD y3170.rows x5621 z_Row).South).e4))), (1, ⟨g5634, 6, none⟩, (iv (((rdD y3170.rows x5621 z_Row).South).e5))), (1, ⟨g5634, 7, none⟩, (iv (((rdD y3170.rows x5621 z_Row).South).e6))), (1, ⟨g5634, 8, none⟩, (iv (((rdD y3170.rows x5621 z_Row).South).e7))), (1, ⟨g5634, 9, none⟩, (iv (((rdD y3170.rows x5621 z_Row).North).e0))), (1, ⟨g5634, 10, none⟩, (iv (((rdD y3170.rows x5621 z_Row).North).e1))), (1, ⟨g5634, 11, none⟩, (iv (((rdD y3170.rows x5621 z_Row).North).e2))), (1, ⟨g5634, 12, none⟩, (iv (((rdD y3170.rows x5621 z_Row).North).e3))), (1, ⟨g5634, 13, none⟩, (iv (((rdD y3170.rows x5621 z_Row).North).e4))), (1, ⟨g5634, 14, none⟩, (iv (((rdD y3170.rows x5621 z_Row).North).e5))), (1, ⟨g5634, 15, none⟩, (iv (((rdD y3170.rows x5621 z_Row).North).e6))), (1, ⟨g5634, 16, none⟩, (iv (((rdD y3170.rows x5621 z_Row).North).e7))), (1, ⟨g5634, 17, none⟩, (iv ((rdD y3170.rows x5621 z_Row).West))), (1, ⟨g5634, 18, none⟩, (iv ((rdD y3170.rows x5621 z_Row).East))), (16, ⟨g5634, 9, none⟩, (iv (((rdD y3170.rows x5621 z_Row).North).e0))), (16, ⟨g5634, 10, none⟩, (iv (((rdD y3170.rows x5621 z_Row).North).e1))), (16, ⟨g5634, 11, none⟩, (iv (((rdD y3170.rows x5621 z_Row).North).e2))), (16, ⟨g5634, 12, none⟩, (iv (((rdD y3170.rows x5621 z_Row).North).e3))), (16, ⟨g5634, 13, none⟩, (iv (((rdD y3170.rows x5621 z_Row).North).e4))), (16, ⟨g5634, 14, none⟩, (iv (((rdD y3170.rows x5621 z_Row).North).e5))), (16, ⟨g5634, 15, none⟩, (iv (((rdD y3170.rows x5621 z_Row).North).e6))), (16, ⟨g5634, 16, none⟩, (iv (((rdD y3170.rows x5621 z_Row).North).e7)))], [0, 1, 2, 4, 5, 6, 7, 8, 9, 10, 11, 12, 13, 15, 16, 18, 19], [[], [], [], [0, 1, 2], [0, 1, 2, 3], [0, 1, 2, 3, 4], [0, 1, 2, 3, 4], [0, 1, 2, 3, 4, 6], [0, 1, 2, 3, 4, 5, 6, 7], [0, 1, 2, 3, 4, 5, 6, 7, 8], [0, 1, 2, 3, 4, 5, 6, 7, 8, 9], [0, 1, 2, 3, 4, 5, 6, 7, 8, 9], [0, 1, 2, 3, 4, 5, 6, 7, 8, 9, 11], [0, 1, 2, 3, 4, 5, 6, 7, 8, 9, 10, 11, 12], [0, 1, 2, 3, 4, 5, 6, 7, 8, 9, 10, 11, 12, 13], [0, 1, 2, 3, 4, 5, 6, 7, 8, 9], [0, 1, 2, 3, 4, 5, 6, 7, 8, 9, 15], [0, 1, 2, 3, 4, 5, 6, 7, 8, 9, 10, 11, 12, 13, 14, 15, 16], [0, 1, 2, 3, 4, 5, 6, 7, 8, 9, 10, 11, 12, 13, 14, 15, 16, 17], [0, 1, 2, 3, 4, 5, 6, 7, 8, 9, 10, 11, 12, 13, 14, 15, 16, 17, 18]]) [[0, 1, 2, 3, 4, 5, 6, 7, 8, 9, 10, 11, 12, 13, 15, 16, 14, 17, 18, 19]] (by kernel_rfl) (by kernel_rfl) (NoPanic.seq (NoPanic.block (NoPanic.seq (NoPanic.seq (NoPanic.block (NoPanic.block (NoPanic.seq (NoPanic.seq (NoPanic.block (NoPanic.seq (NoPanic.body))))))))))) ?_
        have hS5740 := hS5639.drew
        revert hS5740
        generalize World.drew w5638 = w5739
        intro hS5740
        refine ⟨⟨hS5740.cell 0 rfl 0 rfl, hS5740.cell 0 rfl 1 rfl, hS5740.cell 0 rfl 2 rfl, hS5740.cell 0 rfl 3 rfl, hS5740.cell 0 rfl 4 rfl, hS5740.cell 0 rfl 5 rfl, hS5740.cell 0 rfl 6 rfl, hS5740.cell 0 rfl 7 rfl, hS5740.cell 0 rfl 8 rfl, hS5740.cell 0 rfl 9 rfl, hS5740.cell 0 rfl 10 rfl, hS5740.cell 0 rfl 11 rfl, hS5740.cell 0 rfl 12 rfl, hS5740.cell 0 rfl 13 rfl, hS5740.cell 0 rfl 14 rfl, hS5740.cell 0 rfl 15 rfl, hS5740.cell 0 rfl 16 rfl, hS5740.cell 0 rfl 17 rfl, hS5740.cell 0 rfl 18 rfl, hS5740.cell 0 rfl 9 rfl, hS5740.cell 0 rfl 10 rfl, hS5740.cell 0 rfl 11 rfl, hS5740.cell 0 rfl 12 rfl, hS5740.cell 0 rfl 13 rfl, hS5740.cell 0 rfl 14 rfl, hS5740.cell 0 rfl 15 rfl, hS5740.cell 0 rfl 16 rfl, trivial⟩, forallC ?_ (forallN)⟩
        refine segF 3 [.v (.slice ((H3169 x5621.toNat 0).1) ((rdD y3170.rows x5621 z_Row).Cells).length ((H3169 x5621.toNat 0).2)), .v (iv (((rdD y3170.rows x5621 z_Row).South).e0)), .v (iv (((rdD y3170.rows x5621 z_Row).South).e1)), .v (iv (((rdD y3170.rows x5621 z_Row).South).e2)), .v (iv (((rdD y3170.rows x5621 z_Row).South).e3)), .v (iv (((rdD y3170.rows x5621 z_Row).South).e4)), .v (iv (((rdD y3170.rows x5621 z_Row).South).e5)), .v (iv (((rdD y3170.rows x5621 z_Row).South).e6)), .v (iv (((rdD y3170.rows x5621 z_Row).South).e7)), .v (iv (((rdD y3170.rows x5621 z_Row).North).e0)), .v (iv (((rdD y3170.rows x5621 z_Row).North).e1)), .v (iv (((rdD y3170.rows x5621 z_Row).North).e2)), .v (iv (((rdD y3170.rows x5621 z_Row).North).e3)), .v (iv (((rdD y3170.rows x5621 z_Row).North).e4)), .v (iv (((rdD y3170.rows x5621 z_Row).North).e5)), .v (iv (((rdD y3170.rows x5621 z_Row).North).e6)), .v (iv (((rdD y3170.rows x5621 z_Row).North).e7)), .v (iv ((rdD y3170.rows x5621 z_Row).West)), .v (iv ((rdD y3170.rows x5621 z_Row).East))] [1, 2, 8, 10, 12, 13, 15, 49, 50, 51, 55, 56, 57] [(1, (iv p1)), (2, (iv p2)), (8, (pt g2265)), (10, (pt g3166)), (12, (.slice A5617 l5619.length c5618)), (13, (iv x5244)), (15, (pt g5634)), (49, (.slice A3167 y3170.rows.length c3168)), (50, (iv (y3170.rows.length : Int))), (51, (iv x5621)), (55, (pt g3166)), (56, (.agg #[(.slice ((H3169 x5621.toNat 0).1) ((rdD y3170.rows x5621 z_Row).Cells).length ((H3169 x5621.toNat 0).2)), (iv (((rdD y3170.rows x5621 z_Row).South).e0)), (iv (((rdD y3170.rows x5621 z_Row).South).e1)), (iv (((rdD y3170.rows x5621 z_Row).South).e2)), (iv (((rdD y3170.rows x5621 z_Row).South).e3)), (iv (((rdD y3170.rows x5621 z_Row).South).e4)), (iv (((rdD y3170.rows x5621 z_Row).South).e5)), (iv (((rdD y3170.rows x5621 z_Row).South).e6)), (iv (((rdD y3170.rows x5621 z_Row).South).e7)), (iv (((rdD y3170.rows x5621 z_Row).North).e0)), (iv (((rdD y3170.rows x5621 z_Row).North).e1)), (iv (((rdD y3170.rows x5621 z_Row).North).e2)), (iv (((rdD y3170.rows x5621 z_Row).North).e3)), (iv (((rdD y3170.rows x5621 z_Row).North).e4)), (iv (((rdD y3170.rows x5621 z_Row).North).e5)), (iv (((rdD y3170.rows x5621 z_Row).North).e6)), (iv (((rdD y3170.rows x5621 z_Row).North).e7)), (iv ((rdD y3170.rows x5621 z_Row).West)), (iv ((rdD y3170.rows x5621 z_Row).East))])), (57, (iv x5244))] [] [0, 1, 2, 3, 4, 5, 6, 7, 8, 9, 10, 11, 12, 13, 14, 15, 16, 17, 18] [(1, ⟨g5634, 0, none⟩, (.slice ((H3169 x5621.toNat 0).1) ((rdD y3170.rows x5621 z_Row).Cells).length ((H3169 x5621.toNat 0).2))), (1, ⟨g5634, 1, none⟩, (iv (((rdD y3170.rows x5621 z_Row).South).e0))), (1, ⟨g5634, 2, none⟩, (iv (((rdD y3170.rows x5621 z_Row).South).e1))), (1, ⟨g5634, 3, none⟩, (iv (((rdD y3170.rows x5621 z_Row).South).e2))), (1, ⟨g5634, 4, none⟩, (iv (((rdD y3170.rows x5621 z_Row).South).e3))), (1, ⟨g5634, 5, none⟩, (iv (((rdD y3170.rows x5621 z_Row).South).e4))), (1, ⟨g5634, 6, none⟩, (iv (((rdD y3170.rows x5621 z_Row).South).e5))), (1, ⟨g5634, 7, none⟩, (iv (((rdD y3170.rows x5621 z_Row).South).e6))), (1, ⟨g5634, 8, none⟩, (iv (((rdD y3170.rows x5621 z_Row).South).e7))), (1, ⟨g5634, 9, none⟩, (iv (((rdD y3170.rows x5621 z_Row).North).e0))), (1, ⟨g5634, 10, none⟩, (iv (((rdD y3170.rows x5621 z_Row).North).e1))), (1, ⟨g5634, 11, none⟩, (iv (((rdD y3170.rows x5621 z_Row).North).e2))), (1, ⟨g5634, 12, none⟩, (iv (((rdD y3170.rows x5621 z_Row).North).e3))), (1, ⟨g5634, 13, none⟩, (iv (((rdD y3170.rows x5621 z_Row).North).e4))), (1, ⟨g5634, 14, none⟩, (iv (((rdD y3170.rows x5621 z_Row).North).e5))), (1, ⟨g5634, 15, none⟩, (iv (((rdD y3170.rows x5621 z_Row).North).e6))), (1, ⟨g5634, 16, none⟩, (iv (((rdD y3170.rows x5621 z_Row).North).e7))), (1, ⟨g5634, 17, none⟩, (iv ((rdD y3170.rows x5621 z_Row).West))), (1, ⟨g5634, 18, none⟩, (iv ((rdD y3170.rows x5621 z_Row).East)))] (fun fb => by kernel_rfl) rfl trivial rfl ?_
        obtain ⟨t5742, ht5743, hx5701⟩ := bind_some hx5701
        refine WL.call (some 58) 60 #[(pt g3166), (.agg #[(.slice ((H3169 x5621.toNat 0).1) ((rdD y3170.rows x5621 z_Row).Cells).length ((H3169 x5621.toNat 0).2)), (iv (((rdD y3170.rows x5621 z_Row).South).e0)), (iv (((rdD y3170.rows x5621 z_Row).South).e1)), (iv (((rdD y3170.rows x5621 z_Row).South).e2)), (iv (((rdD y3170.rows x5621 z_Row).South).e3)), (iv (((rdD y3170.rows x5621 z_Row).South).e4)), (iv (((rdD y3170.rows x5621 z_Row).South).e5)), (iv (((rdD y3170.rows x5621 z_Row).South).e6)), (iv (((rdD y3170.rows x5621 z_Row).South).e7)), (iv (((rdD y3170.rows x5621 z_Row).North).e0)), (iv (((rdD y3170.rows x5621 z_Row).North).e1)), (iv (((rdD y3170.rows x5621 z_Row).North).e2)), (iv (((rdD y3170.rows x5621 z_Row).North).e3)), (iv (((rdD y3170.rows x5621 z_Row).North).e4)), (iv (((rdD y3170.rows x5621 z_Row).North).e5)), (iv (((rdD y3170.rows x5621 z_Row).North).e6)), (iv (((rdD y3170.rows x5621 z_Row).North).e7)), (iv ((rdD y3170.rows x5621 z_Row).West)), (iv ((rdD y3170.rows x5621 z_Row).East))]), (iv x5244)] (fun fb => by kernel_rfl) (fill_job_allows_calls _ (Job.mk y3170.rows y3170.width y3170.height p3) (rdD y3170.rows x5621 z_Row) x5244 g3166 A3167 c3168 H3169 A_p3_North c_p3_North A_p3_East c_p3_East A_p3_South c_p3_South A_p3_West c_p3_West ((H3169 x5621.toNat 0).1) ((H3169 x5621.toNat 0).2) t5742 _ (hS5740.ow 2) (hS5740.ow 3).ofO (poolO.ro (hS5740.ow 4) 0) (hS5740.rd 1) (hS5740.rd 2) (hS5740.rd 3) (hS5740.rd 4) (nestO.ro (poolO.ro (hS5740.ow 4) 0) z_Row h5633.1 h5633.2) ht5743) (fun v w5744 hR5745 => ?_)
        obtain ⟨rfl, hk_⟩ := hR5745
        have hS5746 := hS5740.keepN hk_
        refine ⟨⟨hS5746.cell 0 rfl 9 rfl, hS5746.cell 0 rfl 10 rfl, hS5746.cell 0 rfl 11 rfl, hS5746.cell 0 rfl 12 rfl, hS5746.cell 0 rfl 13 rfl, hS5746.cell 0 rfl 14 rfl, hS5746.cell 0 rfl 15 rfl, hS5746.cell 0 rfl 16 rfl, trivial⟩, ?_⟩
        refine seg 5 [] [1, 2, 8, 10, 12, 13, 15, 49, 50, 51, 59] [(1, (iv p1)), (2, (iv p2)), (8, (pt g2265)), (10, (pt g3166)), (12, (.slice A5617 l5619.length c5618)), (13, (iv x5244)), (15, (pt g5634)), (49, (.slice A3167 y3170.rows.length c3168)), (50, (iv (y3170.rows.length : Int))), (51, (iv x5621)), (59, (.bool t5742))] [] (fun fb => by kernel_rfl) rfl trivial ?_
        obtain ⟨b5750, hv5751, hx5701⟩ := bind_some hx5701
        refine WL.cutV (T := Unit) 20 (fun t => [(74, (.bool b5750)), (1, (iv p1)), (2, (iv p2)), (8, (pt g2265)), (10, (pt g3166)), (12, (.slice A5617 l5619.length c5618)), (13, (iv x5244)), (15, (pt g5634)), (49, (.slice A3167 y3170.rows.length c3168)), (50, (iv (y3170.rows.length : Int))), (51, (iv x5621))]) (fun t => True) (fun K => ?_) ?_
        ·
         rcases br_some hv5751 with ⟨h5752, hv5751⟩ | ⟨h5752, hv5751⟩
         ·
          refine WL.setB 59 h5752 rfl ?_
          refine seg 10 [] [1, 2, 8, 10, 12, 13, 15, 49, 50, 51, 59, 64] [(1, (iv p1)), (2, (iv p2)), (8, (pt g2265)), (10, (pt g3166)), (12, (.slice A5617 l5619.length c5618)), (13, (iv x5244)), (15, (pt g5634)), (49, (.slice A3167 y3170.rows.length c3168)), (50, (iv (y3170.rows.length : Int))), (51, (iv x5621)), (59, (.bool true)), (64, (.bool (x5244 == (w64 (p2 - 1)))))] [] (fun fb => by kernel_rfl) rfl trivial ?_
          refine WL.setB 64 h5707 rfl ?_
          refine seg 13 [] [1, 2, 8, 10, 12, 13, 15, 49, 50, 51, 59, 64, 65, 67] [(1, (iv p1)), (2, (iv p2)), (8, (pt g2265)), (10, (pt g3166)), (12, (.slice A5617 l5619.length c5618)), (13, (iv x5244)), (15, (pt g5634)), (49, (.slice A3167 y3170.rows.length c3168)), (50, (iv (y3170.rows.length : Int))), (51, (iv x5621)), (59, (.bool true)), (64, (.bool false)), (65, (.slice A5617 l5619.length c5618)), (67, (iv (w64 (x5244 + 1))))] [] (fun fb => by kernel_rfl) rfl trivial ?_
          obtain ⟨h5753, hv5751⟩ := as_some hv5751
          refine segF 16 [.v (iv (((rdD y3170.rows x5621 z_Row).North).e0)), .v (iv (((rdD y3170.rows x5621 z_Row).North).e1)), .v (iv (((rdD y3170.rows x5621 z_Row).North).e2)), .v (iv (((rdD y3170.rows x5621 z_Row).North).e3)), .v (iv (((rdD y3170.rows x5621 z_Row).North).e4)), .v (iv (((rdD y3170.rows x5621 z_Row).North).e5)), .v (iv (((rdD y3170.rows x5621 z_Row).North).e6)), .v (iv (((rdD y3170.rows x5621 z_Row).North).e7))] [1, 2, 8, 10, 12, 13, 15, 49, 50, 51, 59, 64, 68, 71] [(1, (iv p1)), (2, (iv p2)), (8, (pt g2265)), (10, (pt g3166)), (12, (.slice A5617 l5619.length c5618)), (13, (iv x5244)), (15, (pt g5634)), (49, (.slice A3167 y3170.rows.length c3168)), (50, (iv (y3170.rows.length : Int))), (51, (iv x5621)), (59, (.bool true)), (64, (.bool false)), (68, (.pointer (some ((adr A5617).add ((w64 (x5244 + 1)).toNat * 1))))), (71, (.agg #[(iv (((rdD y3170.rows x5621 z_Row).North).e0)), (iv (((rdD y3170.rows x5621 z_Row).North).e1)), (iv (((rdD y3170.rows x5621 z_Row).North).e2)), (iv (((rdD y3170.rows x5621 z_Row).North).e3)), (iv (((rdD y3170.rows x5621 z_Row).North).e4)), (iv (((rdD y3170.rows x5621 z_Row).North).e5)), (iv (((rdD y3170.rows x5621 z_Row).North).e6)), (iv (((rdD y3170.rows x5621 z_Row).North).e7))]))] [.idx A5617 (w64 (x5244 + 1)) l5619.length] [19, 20, 21, 22, 23, 24, 25, 26] [(16, ⟨g5634, 9, none⟩, (iv (((rdD y3170.rows x5621 z_Row).North).e0))), (16, ⟨g5634, 10, none⟩, (iv (((rdD y3170.rows x5621 z_Row).North).e1))), (16, ⟨g5634, 11, none⟩, (iv (((rdD y3170.rows x5621 z_Row).North).e2))), (16, ⟨g5634, 12, none⟩, (iv (((rdD y3170.rows x5621 z_Row).North).e3))), (16, ⟨g5634, 13, none⟩, (iv (((rdD y3170.rows x5621 z_Row).North).e4))), (16, ⟨g5634, 14, none⟩, (iv (((rdD y3170.rows x5621 z_Row).North).e5))), (16, ⟨g5634, 15, none⟩, (iv (((rdD y3170.rows x5621 z_Row).North).e6))), (16, ⟨g5634, 16, none⟩, (iv (((rdD y3170.rows x5621 z_Row).North).e7)))] (fun fb => by kernel_rfl) rfl ⟨nrow_adr (rowO.rd (hS5746.own 5).1) h5753.1 h5753.2, trivial⟩ rfl ?_
          obtain ⟨m5754, hm5755, hv5751⟩ := bind_some hv5751
          refine seg 17 [.v (.map (some (H5620 (w64 (x5244 + 1)).toNat)))] [1, 2, 8, 10, 12, 13, 15, 49, 50, 51, 59, 64, 69, 71] [(1, (iv p1)), (2, (iv p2)), (8, (pt g2265)), (10, (pt g3166)), (12, (.slice A5617 l5619.length c5618)), (13, (iv x5244)), (15, (pt g5634)), (49, (.slice A3167 y3170.rows.length c3168)), (50, (iv (y3170.rows.length : Int))), (51, (iv x5621)), (59, (.bool true)), (64, (.bool false)), (69, (.map (some (H5620 (w64 (x5244 + 1)).toNat)))), (71, (.agg #[(iv (((rdD y3170.rows x5621 z_Row).North).e0)), (iv (((rdD y3170.rows x5621 z_Row).North).e1)), (iv (((rdD y3170.rows x5621 z_Row).North).e2)), (iv (((rdD y3170.rows x5621 z_Row).North).e3)), (iv (((rdD y3170.rows x5621 z_Row).North).e4)), (iv (((rdD y3170.rows x5621 z_Row).North).e5)), (iv (((rdD y3170.rows x5621 z_Row).North).e6)), (iv (((rdD y3170.rows x5621 z_Row).North).e7))]))] [.cell ((adr A5617).add ((w64 (x5244 + 1)).toNat * 1)) (.map (some (H5620 (w64 (x5244 + 1)).toNat)))] (fun fb => by kernel_rfl) rfl ⟨nrow_cell (rowO.rd (hS5746.own 5).1) none h5753.1 h5753.2 0 (mapV_some hm5755), trivial⟩ ?_
          refine WL.lookup (mapsO.at (hS5746.own 6).1 h5753.1 h5753.2 hm5755) ((rdD y3170.rows x5621 z_Row).North) (d := 72) (c := false) (t := 91) (kT := 83) (eT := 4) (z := false) (kE := (aggI ints_A8_Int)) (vE := vB) (l := m5754) (.bool (mget ((rdD y3170.rows x5621 z_Row).North) false m5754)) (fun fb => by kernel_rfl) fill_First_key83 (by kernel_rfl) (fun _ => by kernel_rfl) rfl ?_
          refine ⟨trivial, ?_⟩
          refine seg 20 [] [1, 2, 8, 10, 12, 13, 15, 49, 50, 51, 74] [(1, (iv p1)), (2, (iv p2)), (8, (pt g2265)), (10, (pt g3166)), (12, (.slice A5617 l5619.length c5618)), (13, (iv x5244)), (15, (pt g5634)), (49, (.slice A3167 y3170.rows.length c3168)), (50, (iv (y3170.rows.length : Int))), (51, (iv x5621)), (74, (.bool (mget ((rdD y3170.rows x5621 z_Row).North) false m5754)))] [] (fun fb => by kernel_rfl) rfl trivial ?_
          injection hv5751 with hv5751
          subst hv5751
          exact WL.toV K () [74, 1, 2, 8, 10, 12, 13, 15, 49, 50, 51] rfl trivial
         refine WL.setB 59 h5752 rfl ?_
         refine seg 20 [] [1, 2, 8, 10, 12, 13, 15, 49, 50, 51, 74] [(1, (iv p1)), (2, (iv p2)), (8, (pt g2265)), (10, (pt g3166)), (12, (.slice A5617 l5619.length c5618)), (13, (iv x5244)), (15, (pt g5634)), (49, (.slice A3167 y3170.rows.length c3168)), (50, (iv (y3170.rows.length : Int))), (51, (iv x5621)), (74, (.bool false))] [] (fun fb => by kernel_rfl) rfl trivial ?_
         injection hv5751 with hv5751
         subst hv5751
         exact WL.toV K () [74, 1, 2, 8, 10, 12, 13, 15, 49, 50, 51] rfl trivial
        rintro _ _
        refine WL.done rfl ?_
        injection hx5701 with hx5701
        exact WX.to Kx5700 b5750 [1, 2, 8, 10, 12, 13, 15, 49, 50, 51, 74] rfl ⟨(hS5746.subR [0, 1, 2, 3, 4]).sub [1, 2, 3, 4, 5, 6, 0] (by decide), hx5701.symm⟩
       rintro y5759 w5756 ⟨hS5757, hq5758⟩
       subst hq5758
       refine WX.next ?_
       obtain ⟨x5782, hx5783, hl5631⟩ := bind_some hl5631
       refine WC.cutN (T := (List (Option (List (A8_Int × Bool)))) × (Option Addr) × Nat × (Nat → Nat)) (fun t => [(1, (iv p1)), (2, (iv p2)), (8, (pt g2265)), (10, (pt g3166)), (12, (.slice t.2.1 t.1.length t.2.2.1)), (13, (iv x5244)), (49, (.slice A3167 y3170.rows.length c3168)), (50, (iv (y3170.rows.length : Int))), (51, (iv x5621))]) (fun t w1 => St NoS w w1 [rowR enc_Tile A_p0 c_p0 p0, rowR encInt A_p3_North c_p3_North p3.North, rowR encInt A_p3_East c_p3_East p3.East, rowR encInt A_p3_South c_p3_South p3.South, rowR encInt A_p3_West c_p3_West p3.West] [blk g2265 (.cells #[(iv 0), (iv 0), (.slice none 0 0)] 27 (0, 0)), blk g3166 (.cells #[(.slice A3167 y3170.rows.length c3168), (iv y3170.width), (iv y3170.height), (.slice A_p3_North p3.North.length c_p3_North), (.slice A_p3_East p3.East.length c_p3_East), (.slice A_p3_South p3.South.length c_p3_South), (.slice A_p3_West p3.West.length c_p3_West)] 81 (0, 0)), rowO 85 encN_Row A3167 c3168 (tag H3169 y3170.rows), poolO [nestO subN_Row H3169 y3170.rows], rowO 91 (encMap A8_Int Bool) t.2.1 t.2.2.1 (tag t.2.2.2 t.1), mapsO (aggI ints_A8_Int) vB t.2.2.2 t.1] ∧ x5782 = t.1) (fun Kx5782 => ?_) ?_
       ·
        rcases br_some hx5783 with ⟨h5784, hx5783⟩ | ⟨h5784, hx5783⟩
        ·refine WC.condT2 (fun fb => by kernel_rfl) h5784 ?_
         obtain ⟨h5796, hx5783⟩ := as_some hx5783
         obtain ⟨m5797, hm5798, hx5783⟩ := bind_some hx5783
         refine WC.regionD ([(3, ((adr A5617).add ((x5244).toNat * 1)), (.map (some (H5620 x5244.toNat)))), (5, ⟨g5634, 1, none⟩, (iv (((rdD y3170.rows x5621 z_Row).South).e0))), (5, ⟨g5634, 2, none⟩, (iv (((rdD y3170.rows x5621 z_Row).South).e1))), (5, ⟨g5634, 3, none⟩, (iv (((rdD y3170.rows x5621 z_Row).South).e2))), (5, ⟨g5634, 4, none⟩, (iv (((rdD y3170.rows x5621 z_Row).South).e3))), (5, ⟨g5634, 5, none⟩, (iv (((rdD y3170.rows x5621 z_Row).South).e4))), (5, ⟨g5634, 6, none⟩, (iv (((rdD y3170.rows x5621 z_Row).South).e5))), (5, ⟨g5634, 7, none⟩, (iv (((rdD y3170.rows x5621 z_Row).South).e6))), (5, ⟨g5634, 8, none⟩, (iv (((rdD y3170.rows x5621 z_Row).South).e7)))], [0, 1, 2, 3, 4, 5], [[], [], [0, 1], [0, 1, 2], [], [4], [0, 1, 2, 3, 4, 5]]) [[0, 1, 2, 3, 4, 5, 6]] (by kernel_rfl) (by kernel_rfl) (NoPanic.block (NoPanic.seq (NoPanic.seq (NoPanic.block (NoPanic.block (NoPanic.seq (NoPanic.seq (NoPanic.block (NoPanic.seq (NoPanic.body)))))))))) ?_
         have hS5792 := hS5757.drew
         revert hS5792
         generalize World.drew w5756 = w5791
         intro hS5792
         refine ⟨⟨nrow_cell (rowO.rd (hS5792.own 4).1) none h5796.1 h5796.2 0 (mapV_some hm5798), hS5792.cell 6 rfl 1 rfl, hS5792.cell 6 rfl 2 rfl, hS5792.cell 6 rfl 3 rfl, hS5792.cell 6 rfl 4 rfl, hS5792.cell 6 rfl 5 rfl, hS5792.cell 6 rfl 6 rfl, hS5792.cell 6 rfl 7 rfl, hS5792.cell 6 rfl 8 rfl, trivial⟩, forallC ?_ (forallN)⟩
         refine segF 6 [.v (.map (some (H5620 x5244.toNat))), .v (iv (((rdD y3170.rows x5621 z_Row).South).e0)), .v (iv (((rdD y3170.rows x5621 z_Row).South).e1)), .v (iv (((rdD y3170.rows x5621 z_Row).South).e2)), .v (iv (((rdD y3170.rows x5621 z_Row).South).e3)), .v (iv (((rdD y3170.rows x5621 z_Row).South).e4)), .v (iv (((rdD y3170.rows x5621 z_Row).South).e5)), .v (iv (((rdD y3170.rows x5621 z_Row).South).e6)), .v (iv (((rdD y3170.rows x5621 z_Row).South).e7))] [1, 2, 8, 10, 12, 13, 49, 50, 51, 78, 80] [(1, (iv p1)), (2, (iv p2)), (8, (pt g2265)), (10, (pt g3166)), (12, (.slice A5617 l5619.length c5618)), (13, (iv x5244)), (49, (.slice A3167 y3170.rows.length c3168)), (50, (iv (y3170.rows.length : Int))), (51, (iv x5621)), (78, (.map (some (H5620 x5244.toNat)))), (80, (.agg #[(iv (((rdD y3170.rows x5621 z_Row).South).e0)), (iv (((rdD y3170.rows x5621 z_Row).South).e1)), (iv (((rdD y3170.rows x5621 z_Row).South).e2)), (iv (((rdD y3170.rows x5621 z_Row).South).e3)), (iv (((rdD y3170.rows x5621 z_Row).South).e4)), (iv (((rdD y3170.rows x5621 z_Row).South).e5)), (iv (((rdD y3170.rows x5621 z_Row).South).e6)), (iv (((rdD y3170.rows x5621 z_Row).South).e7))]))] [.idx A5617 x5244 l5619.length] [0, 1, 2, 3, 4, 5, 6, 7, 8] [(3, ((adr A5617).add ((x5244).toNat * 1)), (.map (some (H5620 x5244.toNat)))), (5, ⟨g5634, 1, none⟩, (iv (((rdD y3170.rows x5621 z_Row).South).e0))), (5, ⟨g5634, 2, none⟩, (iv (((rdD y3170.rows x5621 z_Row).South).e1))), (5, ⟨g5634, 3, none⟩, (iv (((rdD y3170.rows x5621 z_Row).South).e2))), (5, ⟨g5634, 4, none⟩, (iv (((rdD y3170.rows x5621 z_Row).South).e3))), (5, ⟨g5634, 5, none⟩, (iv (((rdD y3170.rows x5621 z_Row).South).e4))), (5, ⟨g5634, 6, none⟩, (iv (((rdD y3170.rows x5621 z_Row).South).e5))), (5, ⟨g5634, 7, none⟩, (iv (((rdD y3170.rows x5621 z_Row).South).e6))), (5, ⟨g5634, 8, none⟩, (iv (((rdD y3170.rows x5621 z_Row).South).e7)))] (fun fb => by kernel_rfl) rfl ⟨nrow_adr (rowO.rd (hS5792.own 4).1) h5796.1 h5796.2, trivial⟩ rfl ?_
         refine WL.mapputM hS5792 5 (t := 91) (kT := 83) (eT := 4) (kE := (aggI ints_A8_Int)) (vE := vB) rfl h5796.1 h5796.2 hm5798 ((rdD y3170.rows x5621 z_Row).South) true (fun fb => by kernel_rfl) fill_First_key83 (by kernel_rfl) [0, 1, 2, 3, 4, 6] (by decide) (by decide) (fun w5799 hS5800 => ?_)
         have hS5801 : St NoS w w5799 [rowR enc_Tile A_p0 c_p0 p0, rowR encInt A_p3_North c_p3_North p3.North, rowR encInt A_p3_East c_p3_East p3.East, rowR encInt A_p3_South c_p3_South p3.South, rowR encInt A_p3_West c_p3_West p3.West] [rowO 91 (encMap A8_Int Bool) A5617 c5618 (tag H5620 (l5619.set x5244.toNat (some (mput ((rdD y3170.rows x5621 z_Row).South) true m5797)))), mapsO (aggI ints_A8_Int) vB H5620 (l5619.set x5244.toNat (some (mput ((rdD y3170.rows x5621 z_Row).South) true m5797))), blk g2265 (.cells #[(iv 0), (iv 0), (.slice none 0 0)] 27 (0, 0)), blk g3166 (.cells #[(.slice A3167 y3170.rows.length c3168), (iv y3170.width), (iv y3170.height), (.slice A_p3_North p3.North.length c_p3_North), (.slice A_p3_East p3.East.length c_p3_East), (.slice A_p3_South p3.South.length c_p3_South), (.slice A_p3_West p3.West.length c_p3_West)] 81 (0, 0)), rowO 85 encN_Row A3167 c3168 (tag H3169 y3170.rows), poolO [nestO subN_Row H3169 y3170.rows], blk g5634 (.cells #[(.slice ((H3169 x5621.toNat 0).1) ((rdD y3170.rows x5621 z_Row).Cells).length ((H3169 x5621.toNat 0).2)), (iv (((rdD y3170.rows x5621 z_Row).South).e0)), (iv (((rdD y3170.rows x5621 z_Row).South).e1)), (iv (((rdD y3170.rows x5621 z_Row).South).e2)), (iv (((rdD y3170.rows x5621 z_Row).South).e3)), (iv (((rdD y3170.rows x5621 z_Row).South).e4)), (iv (((rdD y3170.rows x5621 z_Row).South).e5)), (iv (((rdD y3170.rows x5621 z_Row).South).e6)), (iv (((rdD y3170.rows x5621 z_Row).South).e7)), (iv (((rdD y3170.rows x5621 z_Row).North).e0)), (iv (((rdD y3170.rows x5621 z_Row).North).e1)), (iv (((rdD y3170.rows x5621 z_Row).North).e2)), (iv (((rdD y3170.rows x5621 z_Row).North).e3)), (iv (((rdD y3170.rows x5621 z_Row).North).e4)), (iv (((rdD y3170.rows x5621 z_Row).North).e5)), (iv (((rdD y3170.rows x5621 z_Row).North).e6)), (iv (((rdD y3170.rows x5621 z_Row).North).e7)), (iv ((rdD y3170.rows x5621 z_Row).West)), (iv ((rdD y3170.rows x5621 z_Row).East))] 85 (0, 0))] := hS5800.mapsRow 5 rfl (by have h_ := rdD_at (d := none) h5796.1 h5796.2; rwa [hm5798] at h_) (mput ((rdD y3170.rows x5621 z_Row).South) true m5797) [0, 1, 2, 3, 4, 6] (by decide) (by decide)
         refine ⟨trivial, ?_⟩
         refine WL.reE [1, 2, 8, 10, 12, 13, 49, 50, 51] [(1, (iv p1)), (2, (iv p2)), (8, (pt g2265)), (10, (pt g3166)), (12, (.slice A5617 l5619.length c5618)), (13, (iv x5244)), (49, (.slice A3167 y3170.rows.length c3168)), (50, (iv (y3170.rows.length : Int))), (51, (iv x5621))] [(1, (iv p1)), (2, (iv p2)), (8, (pt g2265)), (10, (pt g3166)), (12, (.slice A5617 (l5619.set x5244.toNat (some (mput ((rdD y3170.rows x5621 z_Row).South) true m5797))).length c5618)), (13, (iv x5244)), (49, (.slice A3167 y3170.rows.length c3168)), (50, (iv (y3170.rows.length : Int))), (51, (iv x5621))] rfl (by simp only [List.length_set]) ?_
         refine WL.done rfl ?_
         injection hx5783 with hx5783
         exact WX.to Kx5782 (l5619.set x5244.toNat (some (mput ((rdD y3170.rows x5621 z_Row).South) true m5797)), A5617, c5618, H5620) [1, 2, 8, 10, 12, 13, 49, 50, 51] rfl ⟨(hS5801.subR [0, 1, 2, 3, 4]).sub [2, 3, 4, 5, 0, 1] (by decide), hx5783.symm⟩
        refine WC.condF2 (fun fb => by kernel_rfl) h5784 ?_
        refine WC.skip ?_
        injection hx5783 with hx5783
        exact WX.to Kx5782 (l5619, A5617, c5618, H5620) [1, 2, 8, 10, 12, 13, 49, 50, 51] rfl ⟨(hS5757.subR [0, 1, 2, 3, 4]).sub [0, 1, 2, 3, 4, 5] (by decide), hx5783.symm⟩
       rintro ⟨y5805, A5778, c5779, H5781⟩ w5802 ⟨hS5803, hq5804⟩
       subst hq5804
       refine WX.blockN (WX.next ?_)
       refine WC.region ?_
       refine seg 2 [] [1, 2, 8, 10, 12, 13, 49, 50, 51] [(1, (iv p1)), (2, (iv p2)), (8, (pt g2265)), (10, (pt g3166)), (12, (.slice A5778 x5782.length c5779)), (13, (iv x5244)), (49, (.slice A3167 y3170.rows.length c3168)), (50, (iv (y3170.rows.length : Int))), (51, (iv (w64 (x5621 + 1))))] [] (fun fb => by kernel_rfl) rfl trivial ?_
       refine WL.done rfl ?_
       exact WX.again k5628 (Nat.lt_succ_self _) ((x5782, w64 (x5621 + 1)), A5778, c5779, H5781) [1, 2, 8, 10, 12, 13, 49, 50, 51] rfl ⟨(hS5803.subR [0, 1, 2, 3, 4]).sub [0, 1, 2, 3, 4, 5] (by decide), hl5631⟩
      refine WC.condF2 (fun fb => by kernel_rfl) h5632 ?_
      refine WC.exit ?_
      injection hl5631 with hl5631
      exact WX.thenX (WX.thenX (WX.blockHere (WX.to Kx5626 (l5619, A5617, c5618, H5620) [1, 2, 8, 10, 12, 13] rfl ⟨(hS5630.subR [0, 1, 2, 3, 4]).sub [0, 1, 2, 3, 4, 5] (by decide), hl5631.symm⟩)))
    rintro ⟨y5809, A5622, c5623, H5625⟩ w5806 ⟨hS5807, hq5808⟩
    subst hq5808
    refine WX.blockN (WX.next ?_)
    refine WC.region ?_
    refine seg 3 [] [1, 2, 8, 10, 12, 13] [(1, (iv p1)), (2, (iv p2)), (8, (pt g2265)), (10, (pt g3166)), (12, (.slice A5622 x5626.length c5623)), (13, (iv (w64 (x5244 - 1))))] [] (fun fb => by kernel_rfl) rfl trivial ?_
    refine WL.done rfl ?_
    exact WX.again k5251 (Nat.lt_succ_self _) ((x5626, w64 (x5244 - 1)), A5622, c5623, H5625) [1, 2, 8, 10, 12, 13] rfl ⟨(hS5807.subR [0, 1, 2, 3, 4]).sub [0, 1, 2, 3, 4, 5] (by decide), hl5254⟩
   refine WC.condF2 (fun fb => by kernel_rfl) h5255 ?_
   refine WC.exit ?_
   injection hl5254 with hl5254
   exact WX.thenX (WX.thenX (WX.blockHere (WX.to Kx5249 (l5242, A5240, c5241, H5243) [1, 2, 8, 10, 12] rfl ⟨(hS5253.subR [0, 1, 2, 3, 4]).sub [0, 1, 2, 3, 4, 5] (by decide), hl5254.symm⟩)))
 rintro ⟨y5813, A5245, c5246, H5248⟩ w5810 ⟨hS5811, hq5812⟩
 subst hq5812
 refine WX.next ?_
 refine WC.seq ?_
 refine WC.region ?_
 refine seg 3 [] [2, 8, 10, 12, 84] [(2, (iv p2)), (8, (pt g2265)), (10, (pt g3166)), (12, (.slice A5245 x5249.length c5246)), (84, (.agg #[(iv p1), (iv p2), (.slice none 0 0)]))] [] (fun fb => by kernel_rfl) rfl trivial ?_
 refine WL.new hS5811 16 [] (fun g => (.pointer (some ⟨g, 0, none⟩))) (.cells #[(iv 0), (iv 0), (.slice none 0 0)] 27 (0, 0)) [] (fun fb g => by kernel_rfl) trivial (fun g5814 w5815 hS5816 => ?_)
 refine ⟨trivial, ?_⟩
 refine WL.store hS5816 0 rfl [(0, (iv p1)), (1, (iv p2)), (2, (.slice none 0 0))] #[(iv p1), (iv p2), (.slice none 0 0)] (fun fb => by kernel_rfl) (by kernel_rfl) rfl [1, 2, 3, 4, 5, 6] (by decide) (by decide) (fun w5818 hS5819 => ?_)
 refine ⟨trivial, ?_⟩
 refine WL.done rfl ?_
 refine WX.next ?_
 refine WC.seq ?_
 refine WC.region ?_
 refine seg 1 [] [2, 8, 10, 12, 16, 17] [(2, (iv p2)), (8, (pt g2265)), (10, (pt g3166)), (12, (.slice A5245 x5249.length c5246)), (16, (pt g5814)), (17, (.pointer none))] [] (fun fb => by kernel_rfl) rfl trivial ?_
 refine WL.done rfl ?_
 refine WX.next ?_
 refine WC.seq ?_
 refine WC.seq ?_
 refine WC.region ?_
 refine seg 2 [] [2, 8, 10, 12, 16, 17, 85, 86] [(2, (iv p2)), (8, (pt g2265)), (10, (pt g3166)), (12, (.slice A5245 x5249.length c5246)), (16, (pt g5814)), (17, (.pointer none)), (85, (iv p2)), (86, (iv 0))] [] (fun fb => by kernel_rfl) rfl trivial ?_
 refine WL.done rfl ?_
 refine WX.next ?_
 have hS7037 := hS5819.nilrow 3 encInt
 obtain ⟨x7046, hx7047, hf⟩ := bind_some hf
 refine WC.cutN (T := (List Int) × (Option Addr) × Nat) (fun t => [(8, (pt g2265)), (16, (pt g5814))]) (fun t w1 => St NoS w w1 [rowR enc_Tile A_p0 c_p0 p0, rowR encInt A_p3_North c_p3_North p3.North, rowR encInt A_p3_East c_p3_East p3.East, rowR encInt A_p3_South c_p3_South p3.South, rowR encInt A_p3_West c_p3_West p3.West] [blk g2265 (.cells #[(iv 0), (iv 0), (.slice none 0 0)] 27 (0, 0)), blk g5814 (.cells #[(iv p1), (iv p2), (.slice t.2.1 t.1.length t.2.2)] 27 (0, 0)), rowO 3 encInt t.2.1 t.2.2 t.1] ∧ x7046 = .inr t.1) (fun Kx7046 => ?_) ?_
 ·
  refine WC.block ?_
  refine WC.loop (T := ((List Int) × (Option Int) × Int) × (Option Addr) × Nat) (fun t => [(2, (iv p2)), (8, (pt g2265)), (10, (pt g3166)), (12, (.slice A5245 x5249.length c5246)), (16, (pt g5814)), (17, (.pointer (oepV A3167 19 t.1.2.1))), (85, (iv p2)), (86, (iv t.1.2.2))]) (fun n t w1 => St NoS w w1 [rowR enc_Tile A_p0 c_p0 p0, rowR encInt A_p3_North c_p3_North p3.North, rowR encInt A_p3_East c_p3_East p3.East, rowR encInt A_p3_South c_p3_South p3.South, rowR encInt A_p3_West c_p3_West p3.West] [blk g2265 (.cells #[(iv 0), (iv 0), (.slice none 0 0)] 27 (0, 0)), blk g3166 (.cells #[(.slice A3167 y3170.rows.length c3168), (iv y3170.width), (iv y3170.height), (.slice A_p3_North p3.North.length c_p3_North), (.slice A_p3_East p3.East.length c_p3_East), (.slice A_p3_South p3.South.length c_p3_South), (.slice A_p3_West p3.West.length c_p3_West)] 81 (0, 0)), rowO 85 encN_Row A3167 c3168 (tag H3169 y3170.rows), poolO [nestO subN_Row H3169 y3170.rows], rowO 91 (encMap A8_Int Bool) A5245 c5246 (tag H5248 x5249), mapsO (aggI ints_A8_Int) vB H5248 x5249, blk g5814 (.cells #[(iv p1), (iv p2), (.slice t.2.1 t.1.1.length t.2.2)] 27 (0, 0)), rowO 3 encInt t.2.1 t.2.2 t.1.1] ∧ fill_First.l4 n t.1.1 t.1.2.1 t.1.2.2 p2 p3 y3170 x5249 = some x7046) k ((([] : List Int), none, 0), none, 0) [2, 8, 10, 12, 16, 17, 85, 86] rfl ⟨(hS7037.subR [0, 1, 2, 3, 4]).sub [2, 3, 4, 5, 6, 7, 1, 0] (by decide), hx7047⟩ ?_
  rintro k7048 ⟨⟨l7040, o7041, x7042⟩, A7038, c7039⟩ w7049 ⟨hS7050, hl7051⟩
  cases k7048 with
  | zero => rw [fill_First.l4] at hl7051; cases hl7051
  | succ k7048 =>
   rw [fill_First.l4] at hl7051
   refine WC.seq ?_
   refine WC.region ?_
   refine seg 1 [] [2, 8, 10, 12, 16, 17, 85, 86, 87] [(2, (iv p2)), (8, (pt g2265)), (10, (pt g3166)), (12, (.slice A5245 x5249.length c5246)), (16, (pt g5814)), (17, (.pointer (oepV A3167 19 o7041))), (85, (iv p2)), (86, (iv x7042)), (87, (.bool (decide (x7042 < p2))))] [] (fun fb => by kernel_rfl) rfl trivial ?_
   refine WL.done rfl ?_
   refine WX.next ?_
   refine WC.seq ?_
   rcases br_some hl7051 with ⟨h7052, hl7051⟩ | ⟨h7052, hl7051⟩
   ·refine WC.condT2 (fun fb => by kernel_rfl) h7052 ?_
    refine WC.skip ?_
    refine WX.next ?_
    refine WC.seq ?_
    refine WC.block ?_
    refine WC.seq ?_
    refine WC.region ?_
    refine seg 2 [] [2, 8, 10, 12, 16, 17, 18, 85, 86] [(2, (iv p2)), (8, (pt g2265)), (10, (pt g3166)), (12, (.slice A5245 x5249.length c5246)), (16, (pt g5814)), (17, (.pointer (oepV A3167 19 o7041))), (18, (iv x7042)), (85, (iv p2)), (86, (iv x7042))] [] (fun fb => by kernel_rfl) rfl trivial ?_
    refine WL.done rfl ?_
    refine WX.next ?_
    refine WC.seq ?_
    refine WC.region ?_
    refine seg 1 [] [2, 8, 10, 12, 16, 17, 18, 19, 85, 86] [(2, (iv p2)), (8, (pt g2265)), (10, (pt g3166)), (12, (.slice A5245 x5249.length c5246)), (16, (pt g5814)), (17, (.pointer (oepV A3167 19 o7041))), (18, (iv x7042)), (19, (iv (-1))), (85, (iv p2)), (86, (iv x7042))] [] (fun fb => by kernel_rfl) rfl trivial ?_
    refine WL.done rfl ?_
    refine WX.next ?_
    refine WC.seq ?_
    refine WC.seq ?_
    refine WC.region ?_
    refine seg 6 [.v (.slice A3167 y3170.rows.length c3168)] [2, 8, 10, 12, 16, 17, 18, 19, 85, 86, 92, 93, 94] [(2, (iv p2)), (8, (pt g2265)), (10, (pt g3166)), (12, (.slice A5245 x5249.length c5246)), (16, (pt g5814)), (17, (.pointer (oepV A3167 19 o7041))), (18, (iv x7042)), (19, (iv (-1))), (85, (iv p2)), (86, (iv x7042)), (92, (.slice A3167 y3170.rows.length c3168)), (93, (iv (y3170.rows.length : Int))), (94, (iv 0))] [.cell ⟨g3166, 0, none⟩ (.slice A3167 y3170.rows.length c3168)] (fun fb => by kernel_rfl) rfl ⟨hS7050.cell 1 rfl 0 rfl, trivial⟩ ?_
    refine WL.done rfl ?_
    refine WX.next ?_
    obtain ⟨x7514, hx7515, hl7051⟩ := bind_some hl7051
    refine WC.cutN (T := Int) (fun t => [(2, (iv p2)), (8, (pt g2265)), (10, (pt g3166)), (12, (.slice A5245 x5249.length c5246)), (16, (pt g5814)), (19, (iv t)), (85, (iv p2)), (86, (iv x7042))]) (fun t w1 => St NoS w w1 [rowR enc_Tile A_p0 c_p0 p0, rowR encInt A_p3_North c_p3_North p3.North, rowR encInt A_p3_East c_p3_East p3.East, rowR encInt A_p3_South c_p3_South p3.South, rowR encInt A_p3_West c_p3_West p3.West] [blk g2265 (.cells #[(iv 0), (iv 0), (.slice none 0 0)] 27 (0, 0)), blk g3166 (.cells #[(.slice A3167 y3170.rows.length c3168), (iv y3170.width), (iv y3170.height), (.slice A_p3_North p3.North.length c_p3_North), (.slice A_p3_East p3.East.length c_p3_East), (.slice A_p3_South p3.South.length c_p3_South), (.slice A_p3_West p3.West.length c_p3_West)] 81 (0, 0)), rowO 85 encN_Row A3167 c3168 (tag H3169 y3170.rows), poolO [nestO subN_Row H3169 y3170.rows], rowO 91 (encMap A8_Int Bool) A5245 c5246 (tag H5248 x5249), mapsO (aggI ints_A8_Int) vB H5248 x5249, blk g5814 (.cells #[(iv p1), (iv p2), (.slice A7038 l7040.length c7039)] 27 (0, 0)), rowO 3 encInt A7038 c7039 l7040] ∧ x7514 = t) (fun Kx7514 => ?_) ?_
    ·
     refine WC.block ?_
     refine WC.loop (T := (Option Int) × Int) (fun t => [(2, (iv p2)), (8, (pt g2265)), (10, (pt g3166)), (12, (.slice A5245 x5249.length c5246)), (16, (pt g5814)), (17, (.pointer (oepV A3167 19 t.1))), (18, (iv x7042)), (19, (iv (-1))), (85, (iv p2)), (86, (iv x7042)), (92, (.slice A3167 y3170.rows.length c3168)), (93, (iv (y3170.rows.length : Int))), (94, (iv t.2))]) (fun n t w1 => St NoS w w1 [rowR enc_Tile A_p0 c_p0 p0, rowR encInt A_p3_North c_p3_North p3.North, rowR encInt A_p3_East c_p3_East p3.East, rowR encInt A_p3_South c_p3_South p3.South, rowR encInt A_p3_West c_p3_West p3.West] [blk g2265 (.cells #[(iv 0), (iv 0), (.slice none 0 0)] 27 (0, 0)), blk g3166 (.cells #[(.slice A3167 y3170.rows.length c3168), (iv y3170.width), (iv y3170.height), (.slice A_p3_North p3.North.length c_p3_North), (.slice A_p3_East p3.East.length c_p3_East), (.slice A_p3_South p3.South.length c_p3_South), (.slice A_p3_West p3.West.length c_p3_West)] 81 (0, 0)), rowO 85 encN_Row A3167 c3168 (tag H3169 y3170.rows), poolO [nestO subN_Row H3169 y3170.rows], rowO 91 (encMap A8_Int Bool) A5245 c5246 (tag H5248 x5249), mapsO (aggI ints_A8_Int) vB H5248 x5249, blk g5814 (.cells #[(iv p1), (iv p2), (.slice A7038 l7040.length c7039)] 27 (0, 0)), rowO 3 encInt A7038 c7039 l7040] ∧ fill_First.l5 n t.1 t.2 p2 p3 y3170 x5249 x7042 = some x7514) k7048 (o7041, 0) [2, 8, 10, 12, 16, 17, 18, 19, 85, 86, 92, 93, 94] rfl ⟨(hS7050.subR [0, 1, 2, 3, 4]).sub [0, 1, 2, 3, 4, 5, 6, 7] (by decide), hx7515⟩ ?_
     rintro k7516 ⟨o7511, x7512⟩ w7517 ⟨hS7518, hl7519⟩
     cases k7516 with
     | zero => rw [fill_First.l5] at hl7519; cases hl7519
     | succ k7516 =>
      rw [fill_First.l5] at hl7519
      refine WC.seq ?_
      refine WC.region ?_
      refine seg 1 [] [2, 8, 10, 12, 16, 17, 18, 19, 85, 86, 92, 93, 94, 95] [(2, (iv p2)), (8, (pt g2265)), (10, (pt g3166)), (12, (.slice A5245 x5249.length c5246)), (16, (pt g5814)), (17, (.pointer (oepV A3167 19 o7511))), (18, (iv x7042)), (19, (iv (-1))), (85, (iv p2)), (86, (iv x7042)), (92, (.slice A3167 y3170.rows.length c3168)), (93, (iv (y3170.rows.length : Int))), (94, (iv x7512)), (95, (.bool (decide (x7512 < (y3170.rows.length : Int)))))] [] (fun fb => by kernel_rfl) rfl trivial ?_
      refine WL.done rfl ?_
      refine WX.next ?_
      refine WC.seq ?_
      rcases br_some hl7519 with ⟨h7520, hl7519⟩ | ⟨h7520, hl7519⟩
      ·refine WC.condT2 (fun fb => by kernel_rfl) h7520 ?_
       refine WC.skip ?_
       refine WX.next ?_
       refine WC.seq ?_
       refine WC.block ?_
       refine WC.seq ?_
       refine WC.region ?_
       refine seg 1 [] [2, 8, 10, 12, 16, 17, 18, 19, 85, 86, 92, 93, 94, 96] [(2, (iv p2)), (8, (pt g2265)), (10, (pt g3166)), (12, (.slice A5245 x5249.length c5246)), (16, (pt g5814)), (17, (.pointer (oepV A3167 19 o7511))), (18, (iv x7042)), (19, (iv (-1))), (85, (iv p2)), (86, (iv x7042)), (92, (.slice A3167 y3170.rows.length c3168)), (93, (iv (y3170.rows.length : Int))), (94, (iv x7512)), (96, (iv x7512))] [] (fun fb => by kernel_rfl) rfl trivial ?_
       obtain ⟨h7521, hl7519⟩ := as_some hl7519
       refine seg 3 [.v (.slice ((H3169 x7512.toNat 0).1) ((rdD y3170.rows x7512 z_Row).Cells).length ((H3169 x7512.toNat 0).2)), .v (iv (((rdD y3170.rows x7512 z_Row).South).e0)), .v (iv (((rdD y3170.rows x7512 z_Row).South).e1)), .v (iv (((rdD y3170.rows x7512 z_Row).South).e2)), .v (iv (((rdD y3170.rows x7512 z_Row).South).e3)), .v (iv (((rdD y3170.rows x7512 z_Row).South).e4)), .v (iv (((rdD y3170.rows x7512 z_Row).South).e5)), .v (iv (((rdD y3170.rows x7512 z_Row).South).e6)), .v (iv (((rdD y3170.rows x7512 z_Row).South).e7)), .v (iv (((rdD y3170.rows x7512 z_Row).North).e0)), .v (iv (((rdD y3170.rows x7512 z_Row).North).e1)), .v (iv (((rdD y3170.rows x7512 z_Row).North).e2)), .v (iv (((rdD y3170.rows x7512 z_Row).North).e3)), .v (iv (((rdD y3170.rows x7512 z_Row).North).e4)), .v (iv (((rdD y3170.rows x7512 z_Row).North).e5)), .v (iv (((rdD y3170.rows x7512 z_Row).North).e6)), .v (iv (((rdD y3170.rows x7512 z_Row).North).e7)), .v (iv ((rdD y3170.rows x7512 z_Row).West)), .v (iv ((rdD y3170.rows x7512 z_Row).East))] [2, 8, 10, 12, 16, 17, 18, 19, 85, 86, 92, 93, 94, 96, 98] [(2, (iv p2)), (8, (pt g2265)), (10, (pt g3166)), (12, (.slice A5245 x5249.length c5246)), (16, (pt g5814)), (17, (.pointer (oepV A3167 19 o7511))), (18, (iv x7042)), (19, (iv (-1))), (85, (iv p2)), (86, (iv x7042)), (92, (.slice A3167 y3170.rows.length c3168)), (93, (iv (y3170.rows.length : Int))), (94, (iv x7512)), (96, (iv x7512)), (98, (.agg #[(.slice ((H3169 x7512.toNat 0).1) ((rdD y3170.rows x7512 z_Row).Cells).length ((H3169 x7512.toNat 0).2)), (iv (((rdD y3170.rows x7512 z_Row).South).e0)), (iv (((rdD y3170.rows x7512 z_Row).South).e1)), (iv (((rdD y3170.rows x7512 z_Row).South).e2)), (iv (((rdD y3170.rows x7512 z_Row).South).e3)), (iv (((rdD y3170.rows x7512 z_Row).South).e4)), (iv (((rdD y3170.rows x7512 z_Row).South).e5)), (iv (((rdD y3170.rows x7512 z_Row).South).e6)), (iv (((rdD y3170.rows x7512 z_Row).South).e7)), (iv (((rdD y3170.rows x7512 z_Row).North).e0)), (iv (((rdD y3170.rows x7512 z_Row).North).e1)), (iv (((rdD y3170.rows x7512 z_Row).North).e2)), (iv (((rdD y3170.rows x7512 z_Row).North).e3)), (iv (((rdD y3170.rows x7512 z_Row).North).e4)), (iv (((rdD y3170.rows x7512 z_Row).North).e5)), (iv (((rdD y3170.rows x7512 z_Row).North).e6)), (iv (((rdD y3170.rows x7512 z_Row).North).e7)), (iv ((rdD y3170.rows x7512 z_Row).West)), (iv ((rdD y3170.rows x7512 z_Row).East))]))] [.idx A3167 x7512 y3170.rows.length, .cell ((adr A3167).add ((x7512).toNat * 19)) (.slice ((H3169 x7512.toNat 0).1) ((rdD y3170.rows x7512 z_Row).Cells).length ((H3169 x7512.toNat 0).2)), .cell (((adr A3167).add ((x7512).toNat * 19)).add 1) (iv (((rdD y3170.rows x7512 z_Row).South).e0)), .cell (((adr A3167).add ((x7512).toNat * 19)).add 2) (iv (((rdD y3170.rows x7512 z_Row).South).e1)), .cell (((adr A3167).add ((x7512).toNat * 19)).add 3) (iv (((rdD y3170.rows x7512 z_Row).South).e2)), .cell (((adr A3167).add ((x7512).toNat * 19)).add 4) (iv (((rdD y3170.rows x7512 z_Row).South).e3)), .cell (((adr A3167).add ((x7512).toNat * 19)).add 5) (iv (((rdD y3170.rows x7512 z_Row).South).e4)), .cell (((adr A3167).add ((x7512).toNat * 19)).add 6) (iv (((rdD y3170.rows x7512 z_Row).South).e5)), .cell (((adr A3167).add ((x7512).toNat * 19)).add 7) (iv (((rdD y3170.rows x7512 z_Row).South).e6)), .cell (((adr A3167).add ((x7512).toNat * 19)).add 8) (iv (((rdD y3170.rows x7512 z_Row).South).e7)), .cell (((adr A3167).add ((x7512).toNat * 19)).add 9) (iv (((rdD y3170.rows x7512 z_Row).North).e0)), .cell (((adr A3167).add ((x7512).toNat * 19)).add 10) (iv (((rdD y3170.rows x7512 z_Row).North).e1)), .cell (((adr A3167).add ((x7512).toNat * 19)).add 11) (iv (((rdD y3170.rows x7512 z_Row).North).e2)), .cell (((adr A3167).add ((x7512).toNat * 19)).add 12) (iv (((rdD y3170.rows x7512 z_Row).North).e3)), .cell (((adr A3167).add ((x7512).toNat * 19)).add 13) (iv (((rdD y3170.rows x7512 z_Row).North).e4)), .cell (((adr A3167).add ((x7512).toNat * 19)).add 14) (iv (((rdD y3170.rows x7512 z_Row).North).e5)), .cell (((adr A3167).add ((x7512).toNat * 19)).add 15) (iv (((rdD y3170.rows x7512 z_Row).North).e6)), .cell (((adr A3167).add ((x7512).toNat * 19)).add 16) (iv (((rdD y3170.rows x7512 z_Row).North).e7)), .cell (((adr A3167).add ((x7512).toNat * 19)).add 17) (iv ((rdD y3170.rows x7512 z_Row).West)), .cell (((adr A3167).add ((x7512).toNat * 19)).add 18) (iv ((rdD y3170.rows x7512 z_Row).East))] (fun fb => by kernel_rfl) rfl ⟨nrow_adr (rowO.rd (hS7518.own 2).1) h7521.1 h7521.2, nrow_cell (rowO.rd (hS7518.own 2).1) z_Row h7521.1 h7521.2 0 rfl, nrow_cell (rowO.rd (hS7518.own 2).1) z_Row h7521.1 h7521.2 1 rfl, nrow_cell (rowO.rd (hS7518.own 2).1) z_Row h7521.1 h7521.2 2 rfl, nrow_cell (rowO.rd (hS7518.own 2).1) z_Row h7521.1 h7521.2 3 rfl, nrow_cell (rowO.rd (hS7518.own 2).1) z_Row h7521.1 h7521.2 4 rfl, nrow_cell (rowO.rd (hS7518.own 2).1) z_Row h7521.1 h7521.2 5 rfl, nrow_cell (rowO.rd (hS7518.own 2).1) z_Row h7521.1 h7521.2 6 rfl, nrow_cell (rowO.rd (hS7518.own 2).1) z_Row h7521.1 h7521.2 7 rfl, nrow_cell (rowO.rd (hS7518.own 2).1) z_Row h7521.1 h7521.2 8 rfl, nrow_cell (rowO.rd (hS7518.own 2).1) z_Row h7521.1 h7521.2 9 rfl, nrow_cell (rowO.rd (hS7518.own 2).1) z_Row h7521.1 h7521.2 10 rfl, nrow_cell (rowO.rd (hS7518.own 2).1) z_Row h7521.1 h7521.2 11 rfl, nrow_cell (rowO.rd (hS7518.own 2).1) z_Row h7521.1 h7521.2 12 rfl, nrow_cell (rowO.rd (hS7518.own 2).1) z_Row h7521.1 h7521.2 13 rfl, nrow_cell (rowO.rd (hS7518.own 2).1) z_Row h7521.1 h7521.2 14 rfl, nrow_cell (rowO.rd (hS7518.own 2).1) z_Row h7521.1 h7521.2 15 rfl, nrow_cell (rowO.rd (hS7518.own 2).1) z_Row h7521.1 h7521.2 16 rfl, nrow_cell (rowO.rd (hS7518.own 2).1) z_Row h7521.1 h7521.2 17 rfl, nrow_cell (rowO.rd (hS7518.own 2).1) z_Row h7521.1 h7521.2 18 rfl, trivial⟩ ?_
       refine WL.new hS7518 21 [] (fun g => (.pointer (some ⟨g, 0, none⟩))) (.cells #[(.slice none 0 0), (iv 0), (iv 0), (iv 0), (iv 0), (iv 0), (iv 0), (iv 0), (iv 0), (iv 0), (iv 0), (iv 0), (iv 0), (iv 0), (iv 0), (iv 0), (iv 0), (iv 0), (iv 0)] 85 (0, 0)) [] (fun fb g => by kernel_rfl) trivial (fun g7522 w7523 hS7524 => ?_)
       refine ⟨trivial, ?_⟩
       refine seg 5 [] [2, 8, 10, 12, 16, 17, 18, 19, 20, 21, 85, 86, 92, 93, 94, 98] [(2, (iv p2)), (8, (pt g2265)), (10, (pt g3166)), (12, (.slice A5245 x5249.length c5246)), (16, (pt g5814)), (17, (.pointer (oepV A3167 19 o7511))), (18, (iv x7042)), (19, (iv (-1))), (20, (iv x7512)), (21, (pt g7522)), (85, (iv p2)), (86, (iv x7042)), (92, (.slice A3167 y3170.rows.length c3168)), (93, (iv (y3170.rows.length : Int))), (94, (iv x7512)), (98, (.agg #[(.slice ((H3169 x7512.toNat 0).1) ((rdD y3170.rows x7512 z_Row).Cells).length ((H3169 x7512.toNat 0).2)), (iv (((rdD y3170.rows x7512 z_Row).South).e0)), (iv (((rdD y3170.rows x7512 z_Row).South).e1)), (iv (((rdD y3170.rows x7512 z_Row).South).e2)), (iv (((rdD y3170.rows x7512 z_Row).South).e3)), (iv (((rdD y3170.rows x7512 z_Row).South).e4)), (iv (((rdD y3170.rows x7512 z_Row).South).e5)), (iv (((rdD y3170.rows x7512 z_Row).South).e6)), (iv (((rdD y3170.rows x7512 z_Row).South).e7)), (iv (((rdD y3170.rows x7512 z_Row).North).e0)), (iv (((rdD y3170.rows x7512 z_Row).North).e1)), (iv (((rdD y3170.rows x7512 z_Row).North).e2)), (iv (((rdD y3170.rows x7512 z_Row).North).e3)), (iv (((rdD y3170.rows x7512 z_Row).North).e4)), (iv (((rdD y3170.rows x7512 z_Row).North).e5)), (iv (((rdD y3170.rows x7512 z_Row).North).e6)), (iv (((rdD y3170.rows x7512 z_Row).North).e7)), (iv ((rdD y3170.rows x7512 z_Row).West)), (iv ((rdD y3170.rows x7512 z_Row).East))]))] [] (fun fb => by kernel_rfl) rfl trivial ?_
       refine WL.store hS7524 0 rfl [(0, (.slice ((H3169 x7512.toNat 0).1) ((rdD y3170.rows x7512 z_Row).Cells).length ((H3169 x7512.toNat 0).2))), (1, (iv (((rdD y3170.rows x7512 z_Row).South).e0))), (2, (iv (((rdD y3170.rows x7512 z_Row).South).e1))), (3, (iv (((rdD y3170.rows x7512 z_Row).South).e2))), (4, (iv (((rdD y3170.rows x7512 z_Row).South).e3))), (5, (iv (((rdD y3170.rows x7512 z_Row).South).e4))), (6, (iv (((rdD y3170.rows x7512 z_Row).South).e5))), (7, (iv (((rdD y3170.rows x7512 z_Row).South).e6))), (8, (iv (((rdD y3170.rows x7512 z_Row).South).e7))), (9, (iv (((rdD y3170.rows x7512 z_Row).North).e0))), (10, (iv (((rdD y3170.rows x7512 z_Row).North).e1))), (11, (iv (((rdD y3170.rows x7512 z_Row).North).e2))), (12, (iv (((rdD y3170.rows x7512 z_Row).North).e3))), (13, (iv (((rdD y3170.rows x7512 z_Row).North).e4))), (14, (iv (((rdD y3170.rows x7512 z_Row).North).e5))), (15, (iv (((rdD y3170.rows x7512 z_Row).North).e6))), (16, (iv (((rdD y3170.rows x7512 z_Row).North).e7))), (17, (iv ((rdD y3170.rows x7512 z_Row).West))), (18, (iv ((rdD y3170.rows x7512 z_Row).East)))] #[(.slice ((H3169 x7512.toNat 0).1) ((rdD y3170.rows x7512 z_Row).Cells).length ((H3169 x7512.toNat 0).2)), (iv (((rdD y3170.rows x7512 z_Row).South).e0)), (iv (((rdD y3170.rows x7512 z_Row).South).e1)), (iv (((rdD y3170.rows x7512 z_Row).South).e2)), (iv (((rdD y3170.rows x7512 z_Row).South).e3)), (iv (((rdD y3170.rows x7512 z_Row).South).e4)), (iv (((rdD y3170.rows x7512 z_Row).South).e5)), (iv (((rdD y3170.rows x7512 z_Row).South).e6)), (iv (((rdD y3170.rows x7512 z_Row).South).e7)), (iv (((rdD y3170.rows x7512 z_Row).North).e0)), (iv (((rdD y3170.rows x7512 z_Row).North).e1)), (iv (((rdD y3170.rows x7512 z_Row).North).e2)), (iv (((rdD y3170.rows x7512 z_Row).North).e3)), (iv (((rdD y3170.rows x7512 z_Row).North).e4)), (iv (((rdD y3170.rows x7512 z_Row).North).e5)), (iv (((rdD y3170.rows x7512 z_Row).North).e6)), (iv (((rdD y3170.rows x7512 z_Row).North).e7)), (iv ((rdD y3170.rows x7512 z_Row).West)), (iv ((rdD y3170.rows x7512 z_Row).East))] (fun fb => by kernel_rfl) (by kernel_rfl) (by kernel_rfl) [1, 2, 3, 4, 5, 6, 7, 8] (by decide) (by decide) (fun w7526 hS7527 => ?_)
       refine ⟨trivial, ?_⟩
       refine WL.done rfl ?_
       refine WX.next ?_
       refine WC.seq ?_
       obtain ⟨x7642, hx7643, hl7519⟩ := bind_some hl7519
       refine WC.cutN (T := Bool) (fun t => [(2, (iv p2)), (8, (pt g2265)), (10, (pt g3166)), (12, (.slice A5245 x5249.length c5246)), (16, (pt g5814)), (17, (.pointer (oepV A3167 19 o7511))), (18, (iv x7042)), (19, (iv (-1))), (20, (iv x7512)), (85, (iv p2)), (86, (iv x7042)), (92, (.slice A3167 y3170.rows.length c3168)), (93, (iv (y3170.rows.length : Int))), (94, (iv x7512)), (131, (.bool t))]) (fun t w1 => St NoS w w1 [rowR enc_Tile A_p0 c_p0 p0, rowR encInt A_p3_North c_p3_North p3.North, rowR encInt A_p3_East c_p3_East p3.East, rowR encInt A_p3_South c_p3_South p3.South, rowR encInt A_p3_West c_p3_West p3.West] [blk g2265 (.cells #[(iv 0), (iv 0), (.slice none 0 0)] 27 (0, 0)), blk g3166 (.cells #[(.slice A3167 y3170.rows.length c3168), (iv y3170.width), (iv y3170.height), (.slice A_p3_North p3.North.length c_p3_North), (.slice A_p3_East p3.East.length c_p3_East), (.slice A_p3_South p3.South.length c_p3_South), (.slice A_p3_West p3.West.length c_p3_West)] 81 (0, 0)), rowO 85 encN_Row A3167 c3168 (tag H3169 y3170.rows), poolO [nestO subN_Row H3169 y3170.rows], rowO 91 (encMap A8_Int Bool) A5245 c5246 (tag H5248 x5249), mapsO (aggI ints_A8_Int) vB H5248 x5249, blk g5814 (.cells #[(iv p1), (iv p2), (.slice A7038 l7040.length c7039)] 27 (0, 0)), rowO 3 encInt A7038 c7039 l7040] ∧ x7642 = t) (fun Kx7642 => ?_) ?_
       ·
        rcases br_some hx7643 with ⟨h7658, hx7643⟩ | ⟨h7658, hx7643⟩
        ·
         refine WC.regionD ([(1, ⟨g7522, 0, none⟩, (.slice ((H3169 x7512.toNat 0).1) ((rdD y3170.rows x7512 z_Row).Cells).length ((H3169 x7512.toNat 0).2))), (1, ⟨g7522, 1, none⟩, (iv (((rdD y3170.rows x7512 z_Row).South).e0))), (1, ⟨g7522, 2, none⟩, (iv (((rdD y3170.rows x7512 z_Row).South).e1))), (1, ⟨g7522, 3, none⟩, (iv (((rdD y3170.rows x7512 z_Row).South).e2))), (1, ⟨g7522, 4, none⟩, (iv (((rdD y3170.rows x7512 z_Row).South).e3))), (1, ⟨g7522, 5, none⟩, (iv (((rdD y3170.rows x7512 z_Row).South).e4))), (1, ⟨g7522, 6, none⟩, (iv (((rdD y3170.rows x7512 z_Row).South).e5))), (1, ⟨g7522, 7, none⟩, (iv (((rdD y3170.rows x7512 z_Row).South).e6))), (1, ⟨g7522, 8, none⟩, (iv (((rdD y3170.rows x7512 z_Row).South).e7))), (1, ⟨g7522, 9, none⟩, (iv (((rdD y3170.rows x7512 z_Row).North).e0))), (1, ⟨g7522, 10, none⟩, (iv (((rdD y3170.rows x7512 z_Row).North).e1))), (1, ⟨g7522, 11, none⟩, (iv (((rdD y3170.rows x7512 z_Row).North).e2))), (1, ⟨g7522, 12, none⟩, (iv (((rdD y3170.rows x7512 z_Row).North).e3))), (1, ⟨g7522, 13, none⟩, (iv (((rdD y3170.rows x7512 z_Row).North).e4))), (1, ⟨g7522, 14, none⟩, (iv (((rdD y3170.rows x7512 z_Row).North).e5))), (1, ⟨g7522, 15, none⟩, (iv (((rdD y3170.rows x7512 z_Row).North).e6))), (1, ⟨g7522, 16, none⟩, (iv (((rdD y3170.rows x7512 z_Row).North).e7))), (1, ⟨g7522, 17, none⟩, (iv ((rdD y3170.rows x7512 z_Row).West))), (1, ⟨g7522, 18, none⟩, (iv ((rdD y3170.rows x7512 z_Row).East))), (13, ⟨g7522, 1, none⟩, (iv (((rdD y3170.rows x7512 z_Row).South).e0))), (13, ⟨g7522, 2, none⟩, (iv (((rdD y3170.rows x7512 z_Row).South).e1))), (13, ⟨g7522, 3, none⟩, (iv (((rdD y3170.rows x7512 z_Row).South).e2))), (13, ⟨g7522, 4, none⟩, (iv (((rdD y3170.rows x7512 z_Row).South).e3))), (13, ⟨g7522, 5, none⟩, (iv (((rdD y3170.rows x7512 z_Row).South).e4))), (13, ⟨g7522, 6, none⟩, (iv (((rdD y3170.rows x7512 z_Row).South).e5))), (13, ⟨g7522, 7, none⟩, (iv (((rdD y3170.rows x7512 z_Row).South).e6))), (13, ⟨g7522, 8, none⟩, (iv (((rdD y3170.rows x7512 z_Row).South).e7))), (29, ⟨g7522, 9, none⟩, (iv (((rdD y3170.rows x7512 z_Row).North).e0))), (29, ⟨g7522, 10, none⟩, (iv (((rdD y3170.rows x7512 z_Row).North).e1))), (29, ⟨g7522, 11, none⟩, (iv (((rdD y3170.rows x7512 z_Row).North).e2))), (29, ⟨g7522, 12, none⟩, (iv (((rdD y3170.rows x7512 z_Row).North).e3))), (29, ⟨g7522, 13, none⟩, (iv (((rdD y3170.rows x7512 z_Row).North).e4))), (29, ⟨g7522, 14, none⟩, (iv (((rdD y3170.rows x7512 z_Row).North).e5))), (29, ⟨g7522, 15, none⟩, (iv (((rdD y3170.rows x7512 z_Row).North).e6))), (29, ⟨g7522, 16, none⟩, (iv (((rdD y3170.rows x7512 z_Row).North).e7)))], [0, 1, 2, 4, 5, 6, 7, 8, 9, 10, 12, 13, 14, 15, 16, 17, 18, 19, 20, 21, 22, 23, 24, 25, 26, 28, 29, 31, 32], [[], [], [], [0, 1, 2], [0, 1, 2, 3], [0, 1, 2, 3, 4], [0, 1, 2, 3, 4, 5], [0, 1, 2, 3, 4, 5, 6], [0, 1, 2, 3, 4, 5, 6, 7], [0, 1, 2, 3, 4, 5, 6, 7, 8], [0, 1, 2, 3, 4, 5, 6, 7, 8, 9], [0, 1, 2, 3, 4, 5, 6, 7, 8, 9, 10], [0, 1, 2, 3, 4, 5, 6, 7], [0, 1, 2, 3, 4, 5, 6, 7, 12], [0, 1, 2, 3, 4, 5, 6, 7, 8, 9, 10, 11, 12, 13], [0, 1, 2, 3, 4, 5, 6, 7, 8, 9, 10, 11, 12, 13, 14], [0, 1, 2, 3, 4, 5, 6, 7, 8, 9, 10, 11, 12, 13, 14, 15], [0, 1, 2, 3, 4, 5, 6, 7, 8, 9, 10, 11, 12, 13, 14, 15, 16], [0, 1, 2, 3, 4, 5, 6, 7, 8, 9, 10, 11, 12, 13, 14, 15, 16, 17], [0, 1, 2, 3, 4, 5, 6, 7, 8, 9, 10, 11, 12, 13, 14, 15, 16, 17], [0, 1, 2, 3, 4, 5, 6, 7, 8, 9, 10, 11, 12, 13, 14, 15, 16, 17, 19], [0, 1, 2, 3, 4, 5, 6, 7, 8, 9, 10, 11, 12, 13, 14, 15, 16, 17, 18, 19, 20], [0, 1, 2, 3, 4, 5, 6, 7, 8, 9, 10, 11, 12, 13, 14, 15, 16, 17, 18, 19, 20, 21], [0, 1, 2, 3, 4, 5, 6, 7, 8, 9, 10, 11, 12, 13, 14, 15, 16, 17, 18, 19, 20, 21, 22], [0, 1, 2, 3, 4, 5, 6, 7, 8, 9, 10, 11, 12, 13, 14, 15, 16, 17, 18, 19, 20, 21, 22], [0, 1, 2, 3, 4, 5, 6, 7, 8, 9, 10, 11, 12, 13, 14, 15, 16, 17, 18, 19, 20, 21, 22, 24], [0, 1, 2, 3, 4, 5, 6, 7, 8, 9, 10, 11, 12, 13, 14, 15, 16, 17, 18, 19, 20, 21, 22, 23, 24, 25], [0, 1, 2, 3, 4, 5, 6, 7, 8, 9, 10, 11, 12, 13, 14, 15, 16, 17, 18, 19, 20, 21, 22, 23, 24, 25, 26], [0, 1, 2, 3, 4, 5, 6, 7, 8, 9, 10, 11, 12, 13, 14, 15, 16, 17, 18, 19, 20, 21, 22], [0, 1, 2, 3, 4, 5, 6, 7, 8, 9, 10, 11, 12, 13, 14, 15, 16, 17, 18, 19, 20, 21, 22, 28], [0, 1, 2, 3, 4, 5, 6, 7, 8, 9, 10, 11, 12, 13, 14, 15, 16, 17, 18, 19, 20, 21, 22, 23, 24, 25, 26, 27, 28, 29], [0, 1, 2, 3, 4, 5, 6, 7, 8, 9, 10, 11, 12, 13, 14, 15, 16, 17, 18, 19, 20, 21, 22, 23, 24, 25, 26, 27, 28, 29, 30], [0, 1, 2, 3, 4, 5, 6, 7, 8, 9, 10, 11, 12, 13, 14, 15, 16, 17, 18, 19, 20, 21, 22, 23, 24, 25, 26, 27, 28, 29, 30, 31]]) [[0, 1, 2, 3, 4, 5, 6, 7, 8, 9, 10, 12, 13, 11, 14, 15, 16, 17, 18, 19, 20, 21, 22, 23, 24, 25, 26, 28, 29, 27, 30, 31, 32]] (by kernel_rfl) (by kernel_rfl) (NoPanic.seq (NoPanic.block (NoPanic.seq (NoPanic.seq (NoPanic.block (NoPanic.seq (NoPanic.block (NoPanic.seq (NoPanic.seq (NoPanic.block (NoPanic.seq (NoPanic.body)))))))))))) ?_
         have hS7676 := hS7527.drew
         revert hS7676
         generalize World.drew w7526 = w7675
         intro hS7676
         refine ⟨⟨hS7676.cell 0 rfl 0 rfl, hS7676.cell 0 rfl 1 rfl, hS7676.cell 0 rfl 2 rfl, hS7676.cell 0 rfl 3 rfl, hS7676.cell 0 rfl 4 rfl, hS7676.cell 0 rfl 5 rfl, hS7676.cell 0 rfl 6 rfl, hS7676.cell 0 rfl 7 rfl, hS7676.cell 0 rfl 8 rfl, hS7676.cell 0 rfl 9 rfl, hS7676.cell 0 rfl 10 rfl, hS7676.cell 0 rfl 11 rfl, hS7676.cell 0 rfl 12 rfl, hS7676.cell 0 rfl 13 rfl, hS7676.cell 0 rfl 14 rfl, hS7676.cell 0 rfl 15 rfl, hS7676.cell 0 rfl 16 rfl, hS7676.cell 0 rfl 17 rfl, hS7676.cell 0 rfl 18 rfl, hS7676.cell 0 rfl 1 rfl, hS7676.cell 0 rfl 2 rfl, hS7676.cell 0 rfl 3 rfl, hS7676.cell 0 rfl 4 rfl, hS7676.cell 0 rfl 5 rfl, hS7676.cell 0 rfl 6 rfl, hS7676.cell 0 rfl 7 rfl, hS7676.cell 0 rfl 8 rfl, hS7676.cell 0 rfl 9 rfl, hS7676.cell 0 rfl 10 rfl, hS7676.cell 0 rfl 11 rfl, hS7676.cell 0 rfl 12 rfl, hS7676.cell 0 rfl 13 rfl, hS7676.cell 0 rfl 14 rfl, hS7676.cell 0 rfl 15 rfl, hS7676.cell 0 rfl 16 rfl, trivial⟩, forallC ?_ (forallN)⟩
         refine segF 3 [.v (.slice ((H3169 x7512.toNat 0).1) ((rdD y3170.rows x7512 z_Row).Cells).length ((H3169 x7512.toNat 0).2)), .v (iv (((rdD y3170.rows x7512 z_Row).South).e0)), .v (iv (((rdD y3170.rows x7512 z_Row).South).e1)), .v (iv (((rdD y3170.rows x7512 z_Row).South).e2)), .v (iv (((rdD y3170.rows x7512 z_Row).South).e3)), .v (iv (((rdD y3170.rows x7512 z_Row).South).e4)), .v (iv (((rdD y3170.rows x7512 z_Row).South).e5)), .v (iv (((rdD y3170.rows x7512 z_Row).South).e6)), .v (iv (((rdD y3170.rows x7512 z_Row).South).e7)), .v (iv (((rdD y3170.rows x7512 z_Row).North).e0)), .v (iv (((rdD y3170.rows x7512 z_Row).North).e1)), .v (iv (((rdD y3170.rows x7512 z_Row).North).e2)), .v (iv (((rdD y3170.rows x7512 z_Row).North).e3)), .v (iv (((rdD y3170.rows x7512 z_Row).North).e4)), .v (iv (((rdD y3170.rows x7512 z_Row).North).e5)), .v (iv (((rdD y3170.rows x7512 z_Row).North).e6)), .v (iv (((rdD y3170.rows x7512 z_Row).North).e7)), .v (iv ((rdD y3170.rows x7512 z_Row).West)), .v (iv ((rdD y3170.rows x7512 z_Row).East))] [2, 8, 10, 12, 16, 17, 18, 19, 20, 21, 85, 86, 92, 93, 94, 99, 100, 101] [(2, (iv p2)), (8, (pt g2265)), (10, (pt g3166)), (12, (.slice A5245 x5249.length c5246)), (16, (pt g5814)), (17, (.pointer (oepV A3167 19 o7511))), (18, (iv x7042)), (19, (iv (-1))), (20, (iv x7512)), (21, (pt g7522)), (85, (iv p2)), (86, (iv x7042)), (92, (.slice A3167 y3170.rows.length c3168)), (93, (iv (y3170.rows.length : Int))), (94, (iv x7512)), (99, (pt g3166)), (100, (.agg #[(.slice ((H3169 x7512.toNat 0).1) ((rdD y3170.rows x7512 z_Row).Cells).length ((H3169 x7512.toNat 0).2)), (iv (((rdD y3170.rows x7512 z_Row).South).e0)), (iv (((rdD y3170.rows x7512 z_Row).South).e1)), (iv (((rdD y3170.rows x7512 z_Row).South).e2)), (iv (((rdD y3170.rows x7512 z_Row).South).e3)), (iv (((rdD y3170.rows x7512 z_Row).South).e4)), (iv (((rdD y3170.rows x7512 z_Row).South).e5)), (iv (((rdD y3170.rows x7512 z_Row).South).e6)), (iv (((rdD y3170.rows x7512 z_Row).South).e7)), (iv (((rdD y3170.rows x7512 z_Row).North).e0)), (iv (((rdD y3170.rows x7512 z_Row).North).e1)), (iv (((rdD y3170.rows x7512 z_Row).North).e2)), (iv (((rdD y3170.rows x7512 z_Row).North).e3)), (iv (((rdD y3170.rows x7512 z_Row).North).e4)), (iv (((rdD y3170.rows x7512 z_Row).North).e5)), (iv (((rdD y3170.rows x7512 z_Row).North).e6)), (iv (((rdD y3170.rows x7512 z_Row).North).e7)), (iv ((rdD y3170.rows x7512 z_Row).West)), (iv ((rdD y3170.rows x7512 z_Row).East))])), (101, (iv x7042))] [] [0, 1, 2, 3, 4, 5, 6, 7, 8, 9, 10, 11, 12, 13, 14, 15, 16, 17, 18] [(1, ⟨g7522, 0, none⟩, (.slice ((H3169 x7512.toNat 0).1) ((rdD y3170.rows x7512 z_Row).Cells).length ((H3169 x7512.toNat 0).2))), (1, ⟨g7522, 1, none⟩, (iv (((rdD y3170.rows x7512 z_Row).South).e0))), (1, ⟨g7522, 2, none⟩, (iv (((rdD y3170.rows x7512 z_Row).South).e1))), (1, ⟨g7522, 3, none⟩, (iv (((rdD y3170.rows x7512 z_Row).South).e2))), (1, ⟨g7522, 4, none⟩, (iv (((rdD y3170.rows x7512 z_Row).South).e3))), (1, ⟨g7522, 5, none⟩, (iv (((rdD y3170.rows x7512 z_Row).South).e4))), (1, ⟨g7522, 6, none⟩, (iv (((rdD y3170.rows x7512 z_Row).South).e5))), (1, ⟨g7522, 7, none⟩, (iv (((rdD y3170.rows x7512 z_Row).South).e6))), (1, ⟨g7522, 8, none⟩, (iv (((rdD y3170.rows x7512 z_Row).South).e7))), (1, ⟨g7522, 9, none⟩, (iv (((rdD y3170.rows x7512 z_Row).North).e0))), (1, ⟨g7522, 10, none⟩, (iv (((rdD y3170.rows x7512 z_Row).North).e1))), (1, ⟨g7522, 11, none⟩, (iv (((rdD y3170.rows x7512 z_Row).North).e2))), (1, ⟨g7522, 12, none⟩, (iv (((rdD y3170.rows x7512 z_Row).North).e3))), (1, ⟨g7522, 13, none⟩, (iv (((rdD y3170.rows x7512 z_Row).North).e4))), (1, ⟨g7522, 14, none⟩, (iv (((rdD y3170.rows x7512 z_Row).North).e5))), (1, ⟨g7522, 15, none⟩, (iv (((rdD y3170.rows x7512 z_Row).North).e6))), (1, ⟨g7522, 16, none⟩, (iv (((rdD y3170.rows x7512 z_Row).North).e7))), (1, ⟨g7522, 17, none⟩, (iv ((rdD y3170.rows x7512 z_Row).West))), (1, ⟨g7522, 18, none⟩, (iv ((rdD y3170.rows x7512 z_Row).East)))] (fun fb => by kernel_rfl) rfl trivial rfl ?_
         obtain ⟨t7678, ht7679, hx7643⟩ := bind_some hx7643
         refine WL.call (some 102) 60 #[(pt g3166), (.agg #[(.slice ((H3169 x7512.toNat 0).1) ((rdD y3170.rows x7512 z_Row).Cells).length ((H3169 x7512.toNat 0).2)), (iv (((rdD y3170.rows x7512 z_Row).South).e0)), (iv (((rdD y3170.rows x7512 z_Row).South).e1)), (iv (((rdD y3170.rows x7512 z_Row).South).e2)), (iv (((rdD y3170.rows x7512 z_Row).South).e3)), (iv (((rdD y3170.rows x7512 z_Row).South).e4)), (iv (((rdD y3170.rows x7512 z_Row).South).e5)), (iv (((rdD y3170.rows x7512 z_Row).South).e6)), (iv (((rdD y3170.rows x7512 z_Row).South).e7)), (iv (((rdD y3170.rows x7512 z_Row).North).e0)), (iv (((rdD y3170.rows x7512 z_Row).North).e1)), (iv (((rdD y3170.rows x7512 z_Row).North).e2)), (iv (((rdD y3170.rows x7512 z_Row).North).e3)), (iv (((rdD y3170.rows x7512 z_Row).North).e4)), (iv (((rdD y3170.rows x7512 z_Row).North).e5)), (iv (((rdD y3170.rows x7512 z_Row).North).e6)), (iv (((rdD y3170.rows x7512 z_Row).North).e7)), (iv ((rdD y3170.rows x7512 z_Row).West)), (iv ((rdD y3170.rows x7512 z_Row).East))]), (iv x7042)] (fun fb => by kernel_rfl) (fill_job_allows_calls _ (Job.mk y3170.rows y3170.width y3170.height p3) (rdD y3170.rows x7512 z_Row) x7042 g3166 A3167 c3168 H3169 A_p3_North c_p3_North A_p3_East c_p3_East A_p3_South c_p3_South A_p3_West c_p3_West ((H3169 x7512.toNat 0).1) ((H3169 x7512.toNat 0).2) t7678 _ (hS7676.ow 2) (hS7676.ow 3).ofO (poolO.ro (hS7676.ow 4) 0) (hS7676.rd 1) (hS7676.rd 2) (hS7676.rd 3) (hS7676.rd 4) (nestO.ro (poolO.ro (hS7676.ow 4) 0) z_Row h7521.1 h7521.2) ht7679) (fun v w7680 hR7681 => ?_)
         obtain ⟨rfl, hk_⟩ := hR7681
         have hS7682 := hS7676.keepN hk_
         refine ⟨⟨hS7682.cell 0 rfl 1 rfl, hS7682.cell 0 rfl 2 rfl, hS7682.cell 0 rfl 3 rfl, hS7682.cell 0 rfl 4 rfl, hS7682.cell 0 rfl 5 rfl, hS7682.cell 0 rfl 6 rfl, hS7682.cell 0 rfl 7 rfl, hS7682.cell 0 rfl 8 rfl, hS7682.cell 0 rfl 9 rfl, hS7682.cell 0 rfl 10 rfl, hS7682.cell 0 rfl 11 rfl, hS7682.cell 0 rfl 12 rfl, hS7682.cell 0 rfl 13 rfl, hS7682.cell 0 rfl 14 rfl, hS7682.cell 0 rfl 15 rfl, hS7682.cell 0 rfl 16 rfl, trivial⟩, ?_⟩
         refine seg 5 [] [2, 8, 10, 12, 16, 17, 18, 19, 20, 21, 85, 86, 92, 93, 94, 103] [(2, (iv p2)), (8, (pt g2265)), (10, (pt g3166)), (12, (.slice A5245 x5249.length c5246)), (16, (pt g5814)), (17, (.pointer (oepV A3167 19 o7511))), (18, (iv x7042)), (19, (iv (-1))), (20, (iv x7512)), (21, (pt g7522)), (85, (iv p2)), (86, (iv x7042)), (92, (.slice A3167 y3170.rows.length c3168)), (93, (iv (y3170.rows.length : Int))), (94, (iv x7512)), (103, (.bool t7678))] [] (fun fb => by kernel_rfl) rfl trivial ?_
         obtain ⟨b7686, hv7687, hx7643⟩ := bind_some hx7643
         refine WL.cutV (T := Unit) 17 (fun t => [(115, (.bool b7686)), (2, (iv p2)), (8, (pt g2265)), (10, (pt g3166)), (12, (.slice A5245 x5249.length c5246)), (16, (pt g5814)), (17, (.pointer (oepV A3167 19 o7511))), (18, (iv x7042)), (19, (iv (-1))), (20, (iv x7512)), (21, (pt g7522)), (85, (iv p2)), (86, (iv x7042)), (92, (.slice A3167 y3170.rows.length c3168)), (93, (iv (y3170.rows.length : Int))), (94, (iv x7512))]) (fun t => True) (fun K => ?_) ?_
         ·
          rcases br_some hv7687 with ⟨h7688, hv7687⟩ | ⟨h7688, hv7687⟩
          ·
           refine WL.setB 103 h7688 rfl ?_
           refine seg 6 [] [2, 8, 10, 12, 16, 17, 18, 19, 20, 21, 85, 86, 92, 93, 94, 103, 104] [(2, (iv p2)), (8, (pt g2265)), (10, (pt g3166)), (12, (.slice A5245 x5249.length c5246)), (16, (pt g5814)), (17, (.pointer (oepV A3167 19 o7511))), (18, (iv x7042)), (19, (iv (-1))), (20, (iv x7512)), (21, (pt g7522)), (85, (iv p2)), (86, (iv x7042)), (92, (.slice A3167 y3170.rows.length c3168)), (93, (iv (y3170.rows.length : Int))), (94, (iv x7512)), (103, (.bool true)), (104, (.pointer (oepV A3167 19 o7511)))] [] (fun fb => by kernel_rfl) rfl trivial ?_
           rcases optM_some hv7687 with ⟨ho7689, hv7687⟩ | ⟨i7690, ho7689, hv7687⟩
           ·
            have ho7689 : o7511 = none := ho7689
            refine WL.reE [2, 8, 10, 12, 16, 17, 18, 19, 20, 21, 85, 86, 92, 93, 94, 103, 104] [(2, (iv p2)), (8, (pt g2265)), (10, (pt g3166)), (12, (.slice A5245 x5249.length c5246)), (16, (pt g5814)), (17, (.pointer (oepV A3167 19 o7511))), (18, (iv x7042)), (19, (iv (-1))), (20, (iv x7512)), (21, (pt g7522)), (85, (iv p2)), (86, (iv x7042)), (92, (.slice A3167 y3170.rows.length c3168)), (93, (iv (y3170.rows.length : Int))), (94, (iv x7512)), (103, (.bool true)), (104, (.pointer (oepV A3167 19 o7511)))] [(2, (iv p2)), (8, (pt g2265)), (10, (pt g3166)), (12, (.slice A5245 x5249.length c5246)), (16, (pt g5814)), (17, (.pointer none)), (18, (iv x7042)), (19, (iv (-1))), (20, (iv x7512)), (21, (pt g7522)), (85, (iv p2)), (86, (iv x7042)), (92, (.slice A3167 y3170.rows.length c3168)), (93, (iv (y3170.rows.length : Int))), (94, (iv x7512)), (103, (.bool true)), (104, (.pointer none))] rfl (by rw [ho7689]; rfl) ?_
            refine seg 17 [] [2, 8, 10, 12, 16, 17, 18, 19, 20, 21, 85, 86, 92, 93, 94, 115] [(2, (iv p2)), (8, (pt g2265)), (10, (pt g3166)), (12, (.slice A5245 x5249.length c5246)), (16, (pt g5814)), (17, (.pointer none)), (18, (iv x7042)), (19, (iv (-1))), (20, (iv x7512)), (21, (pt g7522)), (85, (iv p2)), (86, (iv x7042)), (92, (.slice A3167 y3170.rows.length c3168)), (93, (iv (y3170.rows.length : Int))), (94, (iv x7512)), (115, (.bool true))] [] (fun fb => by kernel_rfl) rfl trivial ?_
            refine WL.reE [2, 8, 10, 12, 16, 17, 18, 19, 20, 21, 85, 86, 92, 93, 94, 115] [(2, (iv p2)), (8, (pt g2265)), (10, (pt g3166)), (12, (.slice A5245 x5249.length c5246)), (16, (pt g5814)), (17, (.pointer none)), (18, (iv x7042)), (19, (iv (-1))), (20, (iv x7512)), (21, (pt g7522)), (85, (iv p2)), (86, (iv x7042)), (92, (.slice A3167 y3170.rows.length c3168)), (93, (iv (y3170.rows.length : Int))), (94, (iv x7512)), (115, (.bool true))] [(2, (iv p2)), (8, (pt g2265)), (10, (pt g3166)), (12, (.slice A5245 x5249.length c5246)), (16, (pt g5814)), (17, (.pointer (oepV A3167 19 o7511))), (18, (iv x7042)), (19, (iv (-1))), (20, (iv x7512)), (21, (pt g7522)), (85, (iv p2)), (86, (iv x7042)), (92, (.slice A3167 y3170.rows.length c3168)), (93, (iv (y3170.rows.length : Int))), (94, (iv x7512)), (115, (.bool true))] rfl (by rw [ho7689]; rfl) ?_
            injection hv7687 with hv7687
            subst hv7687
            exact WL.toV K () [115, 2, 8, 10, 12, 16, 17, 18, 19, 20, 21, 85, 86, 92, 93, 94] rfl trivial
           have ho7689 : o7511 = some i7690 := ho7689
           refine WL.reE [2, 8, 10, 12, 16, 17, 18, 19, 20, 21, 85, 86, 92, 93, 94, 103, 104] [(2, (iv p2)), (8, (pt g2265)), (10, (pt g3166)), (12, (.slice A5245 x5249.length c5246)), (16, (pt g5814)), (17, (.pointer (oepV A3167 19 o7511))), (18, (iv x7042)), (19, (iv (-1))), (20, (iv x7512)), (21, (pt g7522)), (85, (iv p2)), (86, (iv x7042)), (92, (.slice A3167 y3170.rows.length c3168)), (93, (iv (y3170.rows.length : Int))), (94, (iv x7512)), (103, (.bool true)), (104, (.pointer (oepV A3167 19 o7511)))] [(2, (iv p2)), (8, (pt g2265)), (10, (pt g3166)), (12, (.slice A5245 x5249.length c5246)), (16, (pt g5814)), (17, (.pointer (some ((adr A3167).add ((i7690).toNat * 19))))), (18, (iv x7042)), (19, (iv (-1))), (20, (iv x7512)), (21, (pt g7522)), (85, (iv p2)), (86, (iv x7042)), (92, (.slice A3167 y3170.rows.length c3168)), (93, (iv (y3170.rows.length : Int))), (94, (iv x7512)), (103, (.bool true)), (104, (.pointer (some ((adr A3167).add ((i7690).toNat * 19)))))] rfl (by rw [ho7689]; rfl) ?_
           obtain ⟨h7691, hv7687⟩ := as_some hv7687
           refine segF 17 [.v (iv (((rdD y3170.rows x7512 z_Row).South).e0)), .v (iv (((rdD y3170.rows x7512 z_Row).South).e1)), .v (iv (((rdD y3170.rows x7512 z_Row).South).e2)), .v (iv (((rdD y3170.rows x7512 z_Row).South).e3)), .v (iv (((rdD y3170.rows x7512 z_Row).South).e4)), .v (iv (((rdD y3170.rows x7512 z_Row).South).e5)), .v (iv (((rdD y3170.rows x7512 z_Row).South).e6)), .v (iv (((rdD y3170.rows x7512 z_Row).South).e7)), .v (iv (((rdD y3170.rows i7690 z_Row).North).e0)), .v (iv (((rdD y3170.rows i7690 z_Row).North).e1)), .v (iv (((rdD y3170.rows i7690 z_Row).North).e2)), .v (iv (((rdD y3170.rows i7690 z_Row).North).e3)), .v (iv (((rdD y3170.rows i7690 z_Row).North).e4)), .v (iv (((rdD y3170.rows i7690 z_Row).North).e5)), .v (iv (((rdD y3170.rows i7690 z_Row).North).e6)), .v (iv (((rdD y3170.rows i7690 z_Row).North).e7))] [2, 8, 10, 12, 16, 17, 18, 19, 20, 21, 85, 86, 92, 93, 94, 115] [(2, (iv p2)), (8, (pt g2265)), (10, (pt g3166)), (12, (.slice A5245 x5249.length c5246)), (16, (pt g5814)), (17, (.pointer (some ((adr A3167).add ((i7690).toNat * 19))))), (18, (iv x7042)), (19, (iv (-1))), (20, (iv x7512)), (21, (pt g7522)), (85, (iv p2)), (86, (iv x7042)), (92, (.slice A3167 y3170.rows.length c3168)), (93, (iv (y3170.rows.length : Int))), (94, (iv x7512)), (115, (.bool ((((rdD y3170.rows i7690 z_Row).North).e0) == (((rdD y3170.rows x7512 z_Row).South).e0) && ((((rdD y3170.rows i7690 z_Row).North).e1) == (((rdD y3170.rows x7512 z_Row).South).e1) && ((((rdD y3170.rows i7690 z_Row).North).e2) == (((rdD y3170.rows x7512 z_Row).South).e2) && ((((rdD y3170.rows i7690 z_Row).North).e3) == (((rdD y3170.rows x7512 z_Row).South).e3) && ((((rdD y3170.rows i7690 z_Row).North).e4) == (((rdD y3170.rows x7512 z_Row).South).e4) && ((((rdD y3170.rows i7690 z_Row).North).e5) == (((rdD y3170.rows x7512 z_Row).South).e5) && ((((rdD y3170.rows i7690 z_Row).North).e6) == (((rdD y3170.rows x7512 z_Row).South).e6) && ((((rdD y3170.rows i7690 z_Row).North).e7) == (((rdD y3170.rows x7512 z_Row).South).e7)))))))))))] [.cell (((adr A3167).add ((i7690).toNat * 19)).add 9) (iv (((rdD y3170.rows i7690 z_Row).North).e0)), .cell (((adr A3167).add ((i7690).toNat * 19)).add 10) (iv (((rdD y3170.rows i7690 z_Row).North).e1)), .cell (((adr A3167).add ((i7690).toNat * 19)).add 11) (iv (((rdD y3170.rows i7690 z_Row).North).e2)), .cell (((adr A3167).add ((i7690).toNat * 19)).add 12) (iv (((rdD y3170.rows i7690 z_Row).North).e3)), .cell (((adr A3167).add ((i7690).toNat * 19)).add 13) (iv (((rdD y3170.rows i7690 z_Row).North).e4)), .cell (((adr A3167).add ((i7690).toNat * 19)).add 14) (iv (((rdD y3170.rows i7690 z_Row).North).e5)), .cell (((adr A3167).add ((i7690).toNat * 19)).add 15) (iv (((rdD y3170.rows i7690 z_Row).North).e6)), .cell (((adr A3167).add ((i7690).toNat * 19)).add 16) (iv (((rdD y3170.rows i7690 z_Row).North).e7))] [19, 20, 21, 22, 23, 24, 25, 26] [(13, ⟨g7522, 1, none⟩, (iv (((rdD y3170.rows x7512 z_Row).South).e0))), (13, ⟨g7522, 2, none⟩, (iv (((rdD y3170.rows x7512 z_Row).South).e1))), (13, ⟨g7522, 3, none⟩, (iv (((rdD y3170.rows x7512 z_Row).South).e2))), (13, ⟨g7522, 4, none⟩, (iv (((rdD y3170.rows x7512 z_Row).South).e3))), (13, ⟨g7522, 5, none⟩, (iv (((rdD y3170.rows x7512 z_Row).South).e4))), (13, ⟨g7522, 6, none⟩, (iv (((rdD y3170.rows x7512 z_Row).South).e5))), (13, ⟨g7522, 7, none⟩, (iv (((rdD y3170.rows x7512 z_Row).South).e6))), (13, ⟨g7522, 8, none⟩, (iv (((rdD y3170.rows x7512 z_Row).South).e7)))] (fun fb => by kernel_rfl) rfl ⟨nrow_cell (rowO.rd (hS7682.own 3).1) z_Row h7691.1 h7691.2 9 rfl, nrow_cell (rowO.rd (hS7682.own 3).1) z_Row h7691.1 h7691.2 10 rfl, nrow_cell (rowO.rd (hS7682.own 3).1) z_Row h7691.1 h7691.2 11 rfl, nrow_cell (rowO.rd (hS7682.own 3).1) z_Row h7691.1 h7691.2 12 rfl, nrow_cell (rowO.rd (hS7682.own 3).1) z_Row h7691.1 h7691.2 13 rfl, nrow_cell (rowO.rd (hS7682.own 3).1) z_Row h7691.1 h7691.2 14 rfl, nrow_cell (rowO.rd (hS7682.own 3).1) z_Row h7691.1 h7691.2 15 rfl, nrow_cell (rowO.rd (hS7682.own 3).1) z_Row h7691.1 h7691.2 16 rfl, trivial⟩ rfl ?_
           refine WL.reE [2, 8, 10, 12, 16, 17, 18, 19, 20, 21, 85, 86, 92, 93, 94, 115] [(2, (iv p2)), (8, (pt g2265)), (10, (pt g3166)), (12, (.slice A5245 x5249.length c5246)), (16, (pt g5814)), (17, (.pointer (some ((adr A3167).add ((i7690).toNat * 19))))), (18, (iv x7042)), (19, (iv (-1))), (20, (iv x7512)), (21, (pt g7522)), (85, (iv p2)), (86, (iv x7042)), (92, (.slice A3167 y3170.rows.length c3168)), (93, (iv (y3170.rows.length : Int))), (94, (iv x7512)), (115, (.bool ((((rdD y3170.rows i7690 z_Row).North).e0) == (((rdD y3170.rows x7512 z_Row).South).e0) && ((((rdD y3170.rows i7690 z_Row).North).e1) == (((rdD y3170.rows x7512 z_Row).South).e1) && ((((rdD y3170.rows i7690 z_Row).North).e2) == (((rdD y3170.rows x7512 z_Row).South).e2) && ((((rdD y3170.rows i7690 z_Row).North).e3) == (((rdD y3170.rows x7512 z_Row).South).e3) && ((((rdD y3170.rows i7690 z_Row).North).e4) == (((rdD y3170.rows x7512 z_Row).South).e4) && ((((rdD y3170.rows i7690 z_Row).North).e5) == (((rdD y3170.rows x7512 z_Row).South).e5) && ((((rdD y3170.rows i7690 z_Row).North).e6) == (((rdD y3170.rows x7512 z_Row).South).e6) && ((((rdD y3170.rows i7690 z_Row).North).e7) == (((rdD y3170.rows x7512 z_Row).South).e7)))))))))))] [(2, (iv p2)), (8, (pt g2265)), (10, (pt g3166)), (12, (.slice A5245 x5249.length c5246)), (16, (pt g5814)), (17, (.pointer (oepV A3167 19 o7511))), (18, (iv x7042)), (19, (iv (-1))), (20, (iv x7512)), (21, (pt g7522)), (85, (iv p2)), (86, (iv x7042)), (92, (.slice A3167 y3170.rows.length c3168)), (93, (iv (y3170.rows.length : Int))), (94, (iv x7512)), (115, (.bool ((((rdD y3170.rows i7690 z_Row).North).e0) == (((rdD y3170.rows x7512 z_Row).South).e0) && ((((rdD y3170.rows i7690 z_Row).North).e1) == (((rdD y3170.rows x7512 z_Row).South).e1) && ((((rdD y3170.rows i7690 z_Row).North).e2) == (((rdD y3170.rows x7512 z_Row).South).e2) && ((((rdD y3170.rows i7690 z_Row).North).e3) == (((rdD y3170.rows x7512 z_Row).South).e3) && ((((rdD y3170.rows i7690 z_Row).North).e4) == (((rdD y3170.rows x7512 z_Row).South).e4) && ((((rdD y3170.rows i7690 z_Row).North).e5) == (((rdD y3170.rows x7512 z_Row).South).e5) && ((((rdD y3170.rows i7690 z_Row).North).e6) == (((rdD y3170.rows x7512 z_Row).South).e6) && ((((rdD y3170.rows i7690 z_Row).North).e7) == (((rdD y3170.rows x7512 z_Row).South).e7)))))))))))] rfl (by rw [ho7689]; rfl) ?_
           injection hv7687 with hv7687
           subst hv7687
           exact WL.toV K () [115, 2, 8, 10, 12, 16, 17, 18, 19, 20, 21, 85, 86, 92, 93, 94] rfl trivial
          refine WL.setB 103 h7688 rfl ?_
          refine seg 17 [] [2, 8, 10, 12, 16, 17, 18, 19, 20, 21, 85, 86, 92, 93, 94, 115] [(2, (iv p2)), (8, (pt g2265)), (10, (pt g3166)), (12, (.slice A5245 x5249.length c5246)), (16, (pt g5814)), (17, (.pointer (oepV A3167 19 o7511))), (18, (iv x7042)), (19, (iv (-1))), (20, (iv x7512)), (21, (pt g7522)), (85, (iv p2)), (86, (iv x7042)), (92, (.slice A3167 y3170.rows.length c3168)), (93, (iv (y3170.rows.length : Int))), (94, (iv x7512)), (115, (.bool false))] [] (fun fb => by kernel_rfl) rfl trivial ?_
          injection hv7687 with hv7687
          subst hv7687
          exact WL.toV K () [115, 2, 8, 10, 12, 16, 17, 18, 19, 20, 21, 85, 86, 92, 93, 94] rfl trivial
         rintro _ _
         refine seg 18 [] [2, 8, 10, 12, 16, 17, 18, 19, 20, 21, 85, 86, 92, 93, 94, 116] [(2, (iv p2)), (8, (pt g2265)), (10, (pt g3166)), (12, (.slice A5245 x5249.length c5246)), (16, (pt g5814)), (17, (.pointer (oepV A3167 19 o7511))), (18, (iv x7042)), (19, (iv (-1))), (20, (iv x7512)), (21, (pt g7522)), (85, (iv p2)), (86, (iv x7042)), (92, (.slice A3167 y3170.rows.length c3168)), (93, (iv (y3170.rows.length : Int))), (94, (iv x7512)), (116, (.bool b7686))] [] (fun fb => by kernel_rfl) rfl trivial ?_
         refine WL.cutV (T := Bool) 33 (fun t => [(131, (.bool t)), (2, (iv p2)), (8, (pt g2265)), (10, (pt g3166)), (12, (.slice A5245 x5249.length c5246)), (16, (pt g5814)), (17, (.pointer (oepV A3167 19 o7511))), (18, (iv x7042)), (19, (iv (-1))), (20, (iv x7512)), (85, (iv p2)), (86, (iv x7042)), (92, (.slice A3167 y3170.rows.length c3168)), (93, (iv (y3170.rows.length : Int))), (94, (iv x7512))]) (fun t => b7686 = t) (fun K => ?_) ?_
         ·
          rcases Bool.eq_false_or_eq_true b7686 with h7692 | h7692
          ·
           refine WL.setB 116 h7692 rfl ?_
           refine seg 23 [] [2, 8, 10, 12, 16, 17, 18, 19, 20, 21, 85, 86, 92, 93, 94, 116, 121] [(2, (iv p2)), (8, (pt g2265)), (10, (pt g3166)), (12, (.slice A5245 x5249.length c5246)), (16, (pt g5814)), (17, (.pointer (oepV A3167 19 o7511))), (18, (iv x7042)), (19, (iv (-1))), (20, (iv x7512)), (21, (pt g7522)), (85, (iv p2)), (86, (iv x7042)), (92, (.slice A3167 y3170.rows.length c3168)), (93, (iv (y3170.rows.length : Int))), (94, (iv x7512)), (116, (.bool true)), (121, (.bool (x7042 == (w64 (p2 - 1)))))] [] (fun fb => by kernel_rfl) rfl trivial ?_
           refine WL.setB 121 h7658 rfl ?_
           refine seg 33 [] [2, 8, 10, 12, 16, 17, 18, 19, 20, 85, 86, 92, 93, 94, 131] [(2, (iv p2)), (8, (pt g2265)), (10, (pt g3166)), (12, (.slice A5245 x5249.length c5246)), (16, (pt g5814)), (17, (.pointer (oepV A3167 19 o7511))), (18, (iv x7042)), (19, (iv (-1))), (20, (iv x7512)), (85, (iv p2)), (86, (iv x7042)), (92, (.slice A3167 y3170.rows.length c3168)), (93, (iv (y3170.rows.length : Int))), (94, (iv x7512)), (131, (.bool true))] [] (fun fb => by kernel_rfl) rfl trivial ?_
           exact WL.toV K true [131, 2, 8, 10, 12, 16, 17, 18, 19, 20, 85, 86, 92, 93, 94] rfl (by first | (rw [h7692]; done) | (rw [h7692]; rfl))
          refine WL.setB 116 h7692 rfl ?_
          refine seg 33 [] [2, 8, 10, 12, 16, 17, 18, 19, 20, 85, 86, 92, 93, 94, 131] [(2, (iv p2)), (8, (pt g2265)), (10, (pt g3166)), (12, (.slice A5245 x5249.length c5246)), (16, (pt g5814)), (17, (.pointer (oepV A3167 19 o7511))), (18, (iv x7042)), (19, (iv (-1))), (20, (iv x7512)), (85, (iv p2)), (86, (iv x7042)), (92, (.slice A3167 y3170.rows.length c3168)), (93, (iv (y3170.rows.length : Int))), (94, (iv x7512)), (131, (.bool false))] [] (fun fb => by kernel_rfl) rfl trivial ?_
          exact WL.toV K false [131, 2, 8, 10, 12, 16, 17, 18, 19, 20, 85, 86, 92, 93, 94] rfl (by first | (rw [h7692]; done) | (rw [h7692]; rfl))
         rintro b7693 rfl
         refine WL.done rfl ?_
         injection hx7643 with hx7643
         exact WX.to Kx7642 b7686 [2, 8, 10, 12, 16, 17, 18, 19, 20, 85, 86, 92, 93, 94, 131] rfl ⟨(hS7682.subR [0, 1, 2, 3, 4]).sub [1, 2, 3, 4, 5, 6, 7, 8] (by decide), hx7643.symm⟩
        refine WC.regionD ([(1, ⟨g7522, 0, none⟩, (.slice ((H3169 x7512.toNat 0).1) ((rdD y3170.rows x7512 z_Row).Cells).length ((H3169 x7512.toNat 0).2))), (1, ⟨g7522, 1, none⟩, (iv (((rdD y3170.rows x7512 z_Row).South).e0))), (1, ⟨g7522, 2, none⟩, (iv (((rdD y3170.rows x7512 z_Row).South).e1))), (1, ⟨g7522, 3, none⟩, (iv (((rdD y3170.rows x7512 z_Row).South).e2))), (1, ⟨g7522, 4, none⟩, (iv (((rdD y3170.rows x7512 z_Row).South).e3))), (1, ⟨g7522, 5, none⟩, (iv (((rdD y3170.rows x7512 z_Row).South).e4))), (1, ⟨g7522, 6, none⟩, (iv (((rdD y3170.rows x7512 z_Row).South).e5))), (1, ⟨g7522, 7, none⟩, (iv (((rdD y3170.rows x7512 z_Row).South).e6))), (1, ⟨g7522, 8, none⟩, (iv (((rdD y3170.rows x7512 z_Row).South).e7))), (1, ⟨g7522, 9, none⟩, (iv (((rdD y3170.rows x7512 z_Row).North).e0))), (1, ⟨g7522, 10, none⟩, (iv (((rdD y3170.rows x7512 z_Row).North).e1))), (1, ⟨g7522, 11, none⟩, (iv (((rdD y3170.rows x7512 z_Row).North).e2))), (1, ⟨g7522, 12, none⟩, (iv (((rdD y3170.rows x7512 z_Row).North).e3))), (1, ⟨g7522, 13, none⟩, (iv (((rdD y3170.rows x7512 z_Row).North).e4))), (1, ⟨g7522, 14, none⟩, (iv (((rdD y3170.rows x7512 z_Row).North).e5))), (1, ⟨g7522, 15, none⟩, (iv (((rdD y3170.rows x7512 z_Row).North).e6))), (1, ⟨g7522, 16, none⟩, (iv (((rdD y3170.rows x7512 z_Row).North).e7))), (1, ⟨g7522, 17, none⟩, (iv ((rdD y3170.rows x7512 z_Row).West))), (1, ⟨g7522, 18, none⟩, (iv ((rdD y3170.rows x7512 z_Row).East))), (13, ⟨g7522, 1, none⟩, (iv (((rdD y3170.rows x7512 z_Row).South).e0))), (13, ⟨g7522, 2, none⟩, (iv (((rdD y3170.rows x7512 z_Row).South).e1))), (13, ⟨g7522, 3, none⟩, (iv (((rdD y3170.rows x7512 z_Row).South).e2))), (13, ⟨g7522, 4, none⟩, (iv (((rdD y3170.rows x7512 z_Row).South).e3))), (13, ⟨g7522, 5, none⟩, (iv (((rdD y3170.rows x7512 z_Row).South).e4))), (13, ⟨g7522, 6, none⟩, (iv (((rdD y3170.rows x7512 z_Row).South).e5))), (13, ⟨g7522, 7, none⟩, (iv (((rdD y3170.rows x7512 z_Row).South).e6))), (13, ⟨g7522, 8, none⟩, (iv (((rdD y3170.rows x7512 z_Row).South).e7))), (29, ⟨g7522, 9, none⟩, (iv (((rdD y3170.rows x7512 z_Row).North).e0))), (29, ⟨g7522, 10, none⟩, (iv (((rdD y3170.rows x7512 z_Row).North).e1))), (29, ⟨g7522, 11, none⟩, (iv (((rdD y3170.rows x7512 z_Row).North).e2))), (29, ⟨g7522, 12, none⟩, (iv (((rdD y3170.rows x7512 z_Row).North).e3))), (29, ⟨g7522, 13, none⟩, (iv (((rdD y3170.rows x7512 z_Row).North).e4))), (29, ⟨g7522, 14, none⟩, (iv (((rdD y3170.rows x7512 z_Row).North).e5))), (29, ⟨g7522, 15, none⟩, (iv (((rdD y3170.rows x7512 z_Row).North).e6))), (29, ⟨g7522, 16, none⟩, (iv (((rdD y3170.rows x7512 z_Row).North).e7)))], [0, 1, 2, 4, 5, 6, 7, 8, 9, 10, 12, 13, 14, 15, 16, 17, 18, 19, 20, 21, 22, 23, 24, 25, 26, 28, 29, 31, 32], [[], [], [], [0, 1, 2], [0, 1, 2, 3], [0, 1, 2, 3, 4], [0, 1, 2, 3, 4, 5], [0, 1, 2, 3, 4, 5, 6], [0, 1, 2, 3, 4, 5, 6, 7], [0, 1, 2, 3, 4, 5, 6, 7, 8], [0, 1, 2, 3, 4, 5, 6, 7, 8, 9], [0, 1, 2, 3, 4, 5, 6, 7, 8, 9, 10], [0, 1, 2, 3, 4, 5, 6, 7], [0, 1, 2, 3, 4, 5, 6, 7, 12], [0, 1, 2, 3, 4, 5, 6, 7, 8, 9, 10, 11, 12, 13], [0, 1, 2, 3, 4, 5, 6, 7, 8, 9, 10, 11, 12, 13, 14], [0, 1, 2, 3, 4, 5, 6, 7, 8, 9, 10, 11, 12, 13, 14, 15], [0, 1, 2, 3, 4, 5, 6, 7, 8, 9, 10, 11, 12, 13, 14, 15, 16], [0, 1, 2, 3, 4, 5, 6, 7, 8, 9, 10, 11, 12, 13, 14, 15, 16, 17], [0, 1, 2, 3, 4, 5, 6, 7, 8, 9, 10, 11, 12, 13, 14, 15, 16, 17], [0, 1, 2, 3, 4, 5, 6, 7, 8, 9, 10, 11, 12, 13, 14, 15, 16, 17, 19], [0, 1, 2, 3, 4, 5, 6, 7, 8, 9, 10, 11, 12, 13, 14, 15, 16, 17, 18, 19, 20], [0, 1, 2, 3, 4, 5, 6, 7, 8, 9, 10, 11, 12, 13, 14, 15, 16, 17, 18, 19, 20, 21], [0, 1, 2, 3, 4, 5, 6, 7, 8, 9, 10, 11, 12, 13, 14, 15, 16, 17, 18, 19, 20, 21, 22], [0, 1, 2, 3, 4, 5, 6, 7, 8, 9, 10, 11, 12, 13, 14, 15, 16, 17, 18, 19, 20, 21, 22], [0, 1, 2, 3, 4, 5, 6, 7, 8, 9, 10, 11, 12, 13, 14, 15, 16, 17, 18, 19, 20, 21, 22, 24], [0, 1, 2, 3, 4, 5, 6, 7, 8, 9, 10, 11, 12, 13, 14, 15, 16, 17, 18, 19, 20, 21, 22, 23, 24, 25], [0, 1, 2, 3, 4, 5, 6, 7, 8, 9, 10, 11, 12, 13, 14, 15, 16, 17, 18, 19, 20, 21, 22, 23, 24, 25, 26], [0, 1, 2, 3, 4, 5, 6, 7, 8, 9, 10, 11, 12, 13, 14, 15, 16, 17, 18, 19, 20, 21, 22], [0, 1, 2, 3, 4, 5, 6, 7, 8, 9, 10, 11, 12, 13, 14, 15, 16, 17, 18, 19, 20, 21, 22, 28], [0, 1, 2, 3, 4, 5, 6, 7, 8, 9, 10, 11, 12, 13, 14, 15, 16, 17, 18, 19, 20, 21, 22, 23, 24, 25, 26, 27, 28, 29], [0, 1, 2, 3, 4, 5, 6, 7, 8, 9, 10, 11, 12, 13, 14, 15, 16, 17, 18, 19, 20, 21, 22, 23, 24, 25, 26, 27, 28, 29, 30], [0, 1, 2, 3, 4, 5, 6, 7, 8, 9, 10, 11, 12, 13, 14, 15, 16, 17, 18, 19, 20, 21, 22, 23, 24, 25, 26, 27, 28, 29, 30, 31]]) [[0, 1, 2, 3, 4, 5, 6, 7, 8, 9, 10, 12, 13, 11, 14, 15, 16, 17, 18, 19, 20, 21, 22, 23, 24, 25, 26, 28, 29, 27, 30, 31, 32]] (by kernel_rfl) (by kernel_rfl) (NoPanic.seq (NoPanic.block (NoPanic.seq (NoPanic.seq (NoPanic.block (NoPanic.seq (NoPanic.block (NoPanic.seq (NoPanic.seq (NoPanic.block (NoPanic.seq (NoPanic.body)))))))))))) ?_
        have hS7718 := hS7527.drew
        revert hS7718
        generalize World.drew w7526 = w7717
        intro hS7718
        refine ⟨⟨hS7718.cell 0 rfl 0 rfl, hS7718.cell 0 rfl 1 rfl, hS7718.cell 0 rfl 2 rfl, hS7718.cell 0 rfl 3 rfl, hS7718.cell 0 rfl 4 rfl, hS7718.cell 0 rfl 5 rfl, hS7718.cell 0 rfl 6 rfl, hS7718.cell 0 rfl 7 rfl, hS7718.cell 0 rfl 8 rfl, hS7718.cell 0 rfl 9 rfl, hS7718.cell 0 rfl 10 rfl, hS7718.cell 0 rfl 11 rfl, hS7718.cell 0 rfl 12 rfl, hS7718.cell 0 rfl 13 rfl, hS7718.cell 0 rfl 14 rfl, hS7718.cell 0 rfl 15 rfl, hS7718.cell 0 rfl 16 rfl, hS7718.cell 0 rfl 17 rfl, hS7718.cell 0 rfl 18 rfl, hS7718.cell 0 rfl 1 rfl, hS7718.cell 0 rfl 2 rfl, hS7718.cell 0 rfl 3 rfl, hS7718.cell 0 rfl 4 rfl, hS7718.cell 0 rfl 5 rfl, hS7718.cell 0 rfl 6 rfl, hS7718.cell 0 rfl 7 rfl, hS7718.cell 0 rfl 8 rfl, hS7718.cell 0 rfl 9 rfl, hS7718.cell 0 rfl 10 rfl, hS7718.cell 0 rfl 11 rfl, hS7718.cell 0 rfl 12 rfl, hS7718.cell 0 rfl 13 rfl, hS7718.cell 0 rfl 14 rfl, hS7718.cell 0 rfl 15 rfl, hS7718.cell 0 rfl 16 rfl, trivial⟩, forallC ?_ (forallN)⟩
        refine segF 3 [.v (.slice ((H3169 x7512.toNat 0).1) ((rdD y3170.rows x7512 z_Row).Cells).length ((H3169 x7512.toNat 0).2)), .v (iv (((rdD y3170.rows x7512 z_Row).South).e0)), .v (iv (((rdD y3170.rows x7512 z_Row).South).e1)), .v (iv (((rdD y3170.rows x7512 z_Row).South).e2)), .v (iv (((rdD y3170.rows x7512 z_Row).South).e3)), .v (iv (((rdD y3170.rows x7512 z_Row).South).e4)), .v (iv (((rdD y3170.rows x7512 z_Row).South).e5)), .v (iv (((rdD y3170.rows x7512 z_Row).South).e6)), .v (iv (((rdD y3170.rows x7512 z_Row).South).e7)), .v (iv (((rdD y3170.rows x7512 z_Row).North).e0)), .v (iv (((rdD y3170.rows x7512 z_Row).North).e1)), .v (iv (((rdD y3170.rows x7512 z_Row).North).e2)), .v (iv (((rdD y3170.rows x7512 z_Row).North).e3)), .v (iv (((rdD y3170.rows x7512 z_Row).North).e4)), .v (iv (((rdD y3170.rows x7512 z_Row).North).e5)), .v (iv (((rdD y3170.rows x7512 z_Row).North).e6)), .v (iv (((rdD y3170.rows x7512 z_Row).North).e7)), .v (iv ((rdD y3170.rows x7512 z_Row).West)), .v (iv ((rdD y3170.rows x7512 z_Row).East))] [2, 8, 10, 12, 16, 17, 18, 19, 20, 21, 85, 86, 92, 93, 94, 99, 100, 101] [(2, (iv p2)), (8, (pt g2265)), (10, (pt g3166)), (12, (.slice A5245 x5249.length c5246)), (16, (pt g5814)), (17, (.pointer (oepV A3167 19 o7511))), (18, (iv x7042)), (19, (iv (-1))), (20, (iv x7512)), (21, (pt g7522)), (85, (iv p2)), (86, (iv x7042)), (92, (.slice A3167 y3170.rows.length c3168)), (93, (iv (y3170.rows.length : Int))), (94, (iv x7512)), (99, (pt g3166)), (100, (.agg #[(.slice ((H3169 x7512.toNat 0).1) ((rdD y3170.rows x7512 z_Row).Cells).length ((H3169 x7512.toNat 0).2)), (iv (((rdD y3170.rows x7512 z_Row).South).e0)), (iv (((rdD y3170.rows x7512 z_Row).South).e1)), (iv (((rdD y3170.rows x7512 z_Row).South).e2)), (iv (((rdD y3170.rows x7512 z_Row).South).e3)), (iv (((rdD y3170.rows x7512 z_Row).South).e4)), (iv (((rdD y3170.rows x7512 z_Row).South).e5)), (iv (((rdD y3170.rows x7512 z_Row).South).e6)), (iv (((rdD y3170.rows x7512 z_Row).South).e7)), (iv (((rdD y3170.rows x7512 z_Row).North).e0)), (iv (((rdD y3170.rows x7512 z_Row).North).e1)), (iv (((rdD y3170.rows x7512 z_Row).North).e2)), (iv (((rdD y3170.rows x7512 z_Row).North).e3)), (iv (((rdD y3170.rows x7512 z_Row).North).e4)), (iv (((rdD y3170.rows x7512 z_Row).North).e5)), (iv (((rdD y3170.rows x7512 z_Row).North).e6)), (iv (((rdD y3170.rows x7512 z_Row).North).e7)), (iv ((rdD y3170.rows x7512 z_Row).West)), (iv ((rdD y3170.rows x7512 z_Row).East))])), (101, (iv x7042))] [] [0, 1, 2, 3, 4, 5, 6, 7, 8, 9, 10, 11, 12, 13, 14, 15, 16, 17, 18] [(1, ⟨g7522, 0, none⟩, (.slice ((H3169 x7512.toNat 0).1) ((rdD y3170.rows x7512 z_Row).Cells).length ((H3169 x7512.toNat 0).2))), (1, ⟨g7522, 1, none⟩, (iv (((rdD y3170.rows x7512 z_Row).South).e0))), (1, ⟨g7522, 2, none⟩, (iv (((rdD y3170.rows x7512 z_Row).South).e1))), (1, ⟨g7522, 3, none⟩, (iv (((rdD y3170.rows x7512 z_Row).South).e2))), (1, ⟨g7522, 4, none⟩, (iv (((rdD y3170.rows x7512 z_Row).South).e3))), (1, ⟨g7522, 5, none⟩, (iv (((rdD y3170.rows x7512 z_Row).South).e4))), (1, ⟨g7522, 6, none⟩, (iv (((rdD y3170.rows x7512 z_Row).South).e5))), (1, ⟨g7522, 7, none⟩, (iv (((rdD y3170.rows x7512 z_Row).South).e6))), (1, ⟨g7522, 8, none⟩, (iv (((rdD y3170.rows x7512 z_Row).South).e7))), (1, ⟨g7522, 9, none⟩, (iv (((rdD y3170.rows x7512 z_Row).North).e0))), (1, ⟨g7522, 10, none⟩, (iv (((rdD y3170.rows x7512 z_Row).North).e1))), (1, ⟨g7522, 11, none⟩, (iv (((rdD y3170.rows x7512 z_Row).North).e2))), (1, ⟨g7522, 12, none⟩, (iv (((rdD y3170.rows x7512 z_Row).North).e3))), (1, ⟨g7522, 13, none⟩, (iv (((rdD y3170.rows x7512 z_Row).North).e4))), (1, ⟨g7522, 14, none⟩, (iv (((rdD y3170.rows x7512 z_Row).North).e5))), (1, ⟨g7522, 15, none⟩, (iv (((rdD y3170.rows x7512 z_Row).North).e6))), (1, ⟨g7522, 16, none⟩, (iv (((rdD y3170.rows x7512 z_Row).North).e7))), (1, ⟨g7522, 17, none⟩, (iv ((rdD y3170.rows x7512 z_Row).West))), (1, ⟨g7522, 18, none⟩, (iv ((rdD y3170.rows x7512 z_Row).East)))] (fun fb => by kernel_rfl) rfl trivial rfl ?_
        obtain ⟨t7720, ht7721, hx7643⟩ := bind_some hx7643
        refine WL.call (some 102) 60 #[(pt g3166), (.agg #[(.slice ((H3169 x7512.toNat 0).1) ((rdD y3170.rows x7512 z_Row).Cells).length ((H3169 x7512.toNat 0).2)), (iv (((rdD y3170.rows x7512 z_Row).South).e0)), (iv (((rdD y3170.rows x7512 z_Row).South).e1)), (iv (((rdD y3170.rows x7512 z_Row).South).e2)), (iv (((rdD y3170.rows x7512 z_Row).South).e3)), (iv (((rdD y3170.rows x7512 z_Row).South).e4)), (iv (((rdD y3170.rows x7512 z_Row).South).e5)), (iv (((rdD y3170.rows x7512 z_Row).South).e6)), (iv (((rdD y3170.rows x7512 z_Row).South).e7)), (iv (((rdD y3170.rows x7512 z_Row).North).e0)), (iv (((rdD y3170.rows x7512 z_Row).North).e1)), (iv (((rdD y3170.rows x7512 z_Row).North).e2)), (iv (((rdD y3170.rows x7512 z_Row).North).e3)), (iv (((rdD y3170.rows x7512 z_Row).North).e4)), (iv (((rdD y3170.rows x7512 z_Row).North).e5)), (iv (((rdD y3170.rows x7512 z_Row).North).e6)), (iv (((rdD y3170.rows x7512 z_Row).North).e7)), (iv ((rdD y3170.rows x7512 z_Row).West)), (iv ((rdD y3170.rows x7512 z_Row).East))]), (iv x7042)] (fun fb => by kernel_rfl) (fill_job_allows_calls _ (Job.mk y3170.rows y3170.width y3170.height p3) (rdD y3170.rows x7512 z_Row) x7042 g3166 A3167 c3168 H3169 A_p3_North c_p3_North A_p3_East c_p3_East A_p3_South c_p3_South A_p3_West c_p3_West ((H3169 x7512.toNat 0).1) ((H3169 x7512.toNat 0).2) t7720 _ (hS7718.ow 2) (hS7718.ow 3).ofO (poolO.ro (hS7718.ow 4) 0) (hS7718.rd 1) (hS7718.rd 2) (hS7718.rd 3) (hS7718.rd 4) (nestO.ro (poolO.ro (hS7718.ow 4) 0) z_Row h7521.1 h7521.2) ht7721) (fun v w7722 hR7723 => ?_)
        obtain ⟨rfl, hk_⟩ := hR7723
        have hS7724 := hS7718.keepN hk_
        refine ⟨⟨hS7724.cell 0 rfl 1 rfl, hS7724.cell 0 rfl 2 rfl, hS7724.cell 0 rfl 3 rfl, hS7724.cell 0 rfl 4 rfl, hS7724.cell 0 rfl 5 rfl, hS7724.cell 0 rfl 6 rfl, hS7724.cell 0 rfl 7 rfl, hS7724.cell 0 rfl 8 rfl, hS7724.cell 0 rfl 9 rfl, hS7724.cell 0 rfl 10 rfl, hS7724.cell 0 rfl 11 rfl, hS7724.cell 0 rfl 12 rfl, hS7724.cell 0 rfl 13 rfl, hS7724.cell 0 rfl 14 rfl, hS7724.cell 0 rfl 15 rfl, hS7724.cell 0 rfl 16 rfl, trivial⟩, ?_⟩
        refine seg 5 [] [2, 8, 10, 12, 16, 17, 18, 19, 20, 21, 85, 86, 92, 93, 94, 103] [(2, (iv p2)), (8, (pt g2265)), (10, (pt g3166)), (12, (.slice A5245 x5249.length c5246)), (16, (pt g5814)), (17, (.pointer (oepV A3167 19 o7511))), (18, (iv x7042)), (19, (iv (-1))), (20, (iv x7512)), (21, (pt g7522)), (85, (iv p2)), (86, (iv x7042)), (92, (.slice A3167 y3170.rows.length c3168)), (93, (iv (y3170.rows.length : Int))), (94, (iv x7512)), (103, (.bool t7720))] [] (fun fb => by kernel_rfl) rfl trivial ?_
        obtain ⟨b7728, hv7729, hx7643⟩ := bind_some hx7643
        refine WL.cutV (T := Unit) 17 (fun t => [(115, (.bool b7728)), (2, (iv p2)), (8, (pt g2265)), (10, (pt g3166)), (12, (.slice A5245 x5249.length c5246)), (16, (pt g5814)), (17, (.pointer (oepV A3167 19 o7511))), (18, (iv x7042)), (19, (iv (-1))), (20, (iv x7512)), (21, (pt g7522)), (85, (iv p2)), (86, (iv x7042)), (92, (.slice A3167 y3170.rows.length c3168)), (93, (iv (y3170.rows.length : Int))), (94, (iv x7512))]) (fun t => True) (fun K => ?_) ?_
        ·
         rcases br_some hv7729 with ⟨h7730, hv7729⟩ | ⟨h7730, hv7729⟩
         ·
          refine WL.setB 103 h7730 rfl ?_
          refine seg 6 [] [2, 8, 10, 12, 16, 17, 18, 19, 20, 21, 85, 86, 92, 93, 94, 103, 104] [(2, (iv p2)), (8, (pt g2265)), (10, (pt g3166)), (12, (.slice A5245 x5249.length c5246)), (16, (pt g5814)), (17, (.pointer (oepV A3167 19 o7511))), (18, (iv x7042)), (19, (iv (-1))), (20, (iv x7512)), (21, (pt g7522)), (85, (iv p2)), (86, (iv x7042)), (92, (.slice A3167 y3170.rows.length c3168)), (93, (iv (y3170.rows.length : Int))), (94, (iv x7512)), (103, (.bool true)), (104, (.pointer (oepV A3167 19 o7511)))] [] (fun fb => by kernel_rfl) rfl trivial ?_
          rcases optM_some hv7729 with ⟨ho7731, hv7729⟩ | ⟨i7732, ho7731, hv7729⟩
          ·
           have ho7731 : o7511 = none := ho7731
           refine WL.reE [2, 8, 10, 12, 16, 17, 18, 19, 20, 21, 85, 86, 92, 93, 94, 103, 104] [(2, (iv p2)), (8, (pt g2265)), (10, (pt g3166)), (12, (.slice A5245 x5249.length c5246)), (16, (pt g5814)), (17, (.pointer (oepV A3167 19 o7511))), (18, (iv x7042)), (19, (iv (-1))), (20, (iv x7512)), (21, (pt g7522)), (85, (iv p2)), (86, (iv x7042)), (92, (.slice A3167 y3170.rows.length c3168)), (93, (iv (y3170.rows.length : Int))), (94, (iv x7512)), (103, (.bool true)), (104, (.pointer (oepV A3167 19 o7511)))] [(2, (iv p2)), (8, (pt g2265)), (10, (pt g3166)), (12, (.slice A5245 x5249.length c5246)), (16, (pt g5814)), (17, (.pointer none)), (18, (iv x7042)), (19, (iv (-1))), (20, (iv x7512)), (21, (pt g7522)), (85, (iv p2)), (86, (iv x7042)), (92, (.slice A3167 y3170.rows.length c3168)), (93, (iv (y3170.rows.length : Int))), (94, (iv x7512)), (103, (.bool true)), (104, (.pointer none))] rfl (by rw [ho7731]; rfl) ?_
           refine seg 17 [] [2, 8, 10, 12, 16, 17, 18, 19, 20, 21, 85, 86, 92, 93, 94, 115] [(2, (iv p2)), (8, (pt g2265)), (10, (pt g3166)), (12, (.slice A5245 x5249.length c5246)), (16, (pt g5814)), (17, (.pointer none)), (18, (iv x7042)), (19, (iv (-1))), (20, (iv x7512)), (21, (pt g7522)), (85, (iv p2)), (86, (iv x7042)), (92, (.slice A3167 y3170.rows.length c3168)), (93, (iv (y3170.rows.length : Int))), (94, (iv x7512)), (115, (.bool true))] [] (fun fb => by kernel_rfl) rfl trivial ?_
           refine WL.reE [2, 8, 10, 12, 16, 17, 18, 19, 20, 21, 85, 86, 92, 93, 94, 115] [(2, (iv p2)), (8, (pt g2265)), (10, (pt g3166)), (12, (.slice A5245 x5249.length c5246)), (16, (pt g5814)), (17, (.pointer none)), (18, (iv x7042)), (19, (iv (-1))), (20, (iv x7512)), (21, (pt g7522)), (85, (iv p2)), (86, (iv x7042)), (92, (.slice A3167 y3170.rows.length c3168)), (93, (iv (y3170.rows.length : Int))), (94, (iv x7512)), (115, (.bool true))] [(2, (iv p2)), (8, (pt g2265)), (10, (pt g3166)), (12, (.slice A5245 x5249.length c5246)), (16, (pt g5814)), (17, (.pointer (oepV A3167 19 o7511))), (18, (iv x7042)), (19, (iv (-1))), (20, (iv x7512)), (21, (pt g7522)), (85, (iv p2)), (86, (iv x7042)), (92, (.slice A3167 y3170.rows.length c3168)), (93, (iv (y3170.rows.length : Int))), (94, (iv x7512)), (115, (.bool true))] rfl (by rw [ho7731]; rfl) ?_
           injection hv7729 with hv7729
           subst hv7729
           exact WL.toV K () [115, 2, 8, 10, 12, 16, 17, 18, 19, 20, 21, 85, 86, 92, 93, 94] rfl trivial
          have ho7731 : o7511 = some i7732 := ho7731
          refine WL.reE [2, 8, 10, 12, 16, 17, 18, 19, 20, 21, 85, 86, 92, 93, 94, 103, 104] [(2, (iv p2)), (8, (pt g2265)), (10, (pt g3166)), (12, (.slice A5245 x5249.length c5246)), (16, (pt g5814)), (17, (.pointer (oepV A3167 19 o7511))), (18, (iv x7042)), (19, (iv (-1))), (20, (iv x7512)), (21, (pt g7522)), (85, (iv p2)), (86, (iv x7042)), (92, (.slice A3167 y3170.rows.length c3168)), (93, (iv (y3170.rows.length : Int))), (94, (iv x7512)), (103, (.bool true)), (104, (.pointer (oepV A3167 19 o7511)))] [(2, (iv p2)), (8, (pt g2265)), (10, (pt g3166)), (12, (.slice A5245 x5249.length c5246)), (16, (pt g5814)), (17, (.pointer (some ((adr A3167).add ((i7732).toNat * 19))))), (18, (iv x7042)), (19, (iv (-1))), (20, (iv x7512)), (21, (pt g7522)), (85, (iv p2)), (86, (iv x7042)), (92, (.slice A3167 y3170.rows.length c3168)), (93, (iv (y3170.rows.length : Int))), (94, (iv x7512)), (103, (.bool true)), (104, (.pointer (some ((adr A3167).add ((i7732).toNat * 19)))))] rfl (by rw [ho7731]; rfl) ?_
          obtain ⟨h7733, hv7729⟩ := as_some hv7729
          refine segF 17 [.v (iv (((rdD y3170.rows x7512 z_Row).South).e0)), .v (iv (((rdD y3170.rows x7512 z_Row).South).e1)), .v (iv (((rdD y3170.rows x7512 z_Row).South).e2)), .v (iv (((rdD y3170.rows x7512 z_Row).South).e3)), .v (iv (((rdD y3170.rows x7512 z_Row).South).e4)), .v (iv (((rdD y3170.rows x7512 z_Row).South).e5)), .v (iv (((rdD y3170.rows x7512 z_Row).South).e6)), .v (iv (((rdD y3170.rows x7512 z_Row).South).e7)), .v (iv (((rdD y3170.rows i7732 z_Row).North).e0)), .v (iv (((rdD y3170.rows i7732 z_Row).North).e1)), .v (iv (((rdD y3170.rows i7732 z_Row).North).e2)), .v (iv (((rdD y3170.rows i7732 z_Row).North).e3)), .v (iv (((rdD y3170.rows i7732 z_Row).North).e4)), .v (iv (((rdD y3170.rows i7732 z_Row).North).e5)), .v (iv (((rdD y3170.rows i7732 z_Row).North).e6)), .v (iv (((rdD y3170.rows i7732 z_Row).North).e7))] [2, 8, 10, 12, 16, 17, 18, 19, 20, 21, 85, 86, 92, 93, 94, 115] [(2, (iv p2)), (8, (pt g2265)), (10, (pt g3166)), (12, (.slice A5245 x5249.length c5246)), (16, (pt g5814)), (17, (.pointer (some ((adr A3167).add ((i7732).toNat * 19))))), (18, (iv x7042)), (19, (iv (-1))), (20, (iv x7512)), (21, (pt g7522)), (85, (iv p2)), (86, (iv x7042)), (92, (.slice A3167 y3170.rows.length c3168)), (93, (iv (y3170.rows.length : Int))), (94, (iv x7512)), (115, (.bool ((((rdD y3170.rows i7732 z_Row).North).e0) == (((rdD y3170.rows x7512 z_Row).South).e0) && ((((rdD y3170.rows i7732 z_Row).North).e1) == (((rdD y3170.rows x7512 z_Row).South).e1) && ((((rdD y3170.rows i7732 z_Row).North).e2) == (((rdD y3170.rows x7512 z_Row).South).e2) && ((((rdD y3170.rows i7732 z_Row).North).e3) == (((rdD y3170.rows x7512 z_Row).South).e3) && ((((rdD y3170.rows i7732 z_Row).North).e4) == (((rdD y3170.rows x7512 z_Row).South).e4) && ((((rdD y3170.rows i7732 z_Row).North).e5) == (((rdD y3170.rows x7512 z_Row).South).e5) && ((((rdD y3170.rows i7732 z_Row).North).e6) == (((rdD y3170.rows x7512 z_Row).South).e6) && ((((rdD y3170.rows i7732 z_Row).North).e7) == (((rdD y3170.rows x7512 z_Row).South).e7)))))))))))] [.cell (((adr A3167).add ((i7732).toNat * 19)).add 9) (iv (((rdD y3170.rows i7732 z_Row).North).e0)), .cell (((adr A3167).add ((i7732).toNat * 19)).add 10) (iv (((rdD y3170.rows i7732 z_Row).North).e1)), .cell (((adr A3167).add ((i7732).toNat * 19)).add 11) (iv (((rdD y3170.rows i7732 z_Row).North).e2)), .cell (((adr A3167).add ((i7732).toNat * 19)).add 12) (iv (((rdD y3170.rows i7732 z_Row).North).e3)), .cell (((adr A3167).add ((i7732).toNat * 19)).add 13) (iv (((rdD y3170.rows i7732 z_Row).North).e4)), .cell (((adr A3167).add ((i7732).toNat * 19)).add 14) (iv (((rdD y3170.rows i7732 z_Row).North).e5)), .cell (((adr A3167).add ((i7732).toNat * 19)).add 15) (iv (((rdD y3170.rows i7732 z_Row).North).e6)), .cell (((adr A3167).add ((i7732).toNat * 19)).add 16) (iv (((rdD y3170.rows i7732 z_Row).North).e7))] [19, 20, 21, 22, 23, 24, 25, 26] [(13, ⟨g7522, 1, none⟩, (iv (((rdD y3170.rows x7512 z_Row).South).e0))), (13, ⟨g7522, 2, none⟩, (iv (((rdD y3170.rows x7512 z_Row).South).e1))), (13, ⟨g7522, 3, none⟩, (iv (((rdD y3170.rows x7512 z_Row).South).e2))), (13, ⟨g7522, 4, none⟩, (iv (((rdD y3170.rows x7512 z_Row).South).e3))), (13, ⟨g7522, 5, none⟩, (iv (((rdD y3170.rows x7512 z_Row).South).e4))), (13, ⟨g7522, 6, none⟩, (iv (((rdD y3170.rows x7512 z_Row).South).e5))), (13, ⟨g7522, 7, none⟩, (iv (((rdD y3170.rows x7512 z_Row).South).e6))), (13, ⟨g7522, 8, none⟩, (iv (((rdD y3170.rows x7512 z_Row).South).e7)))] (fun fb => by kernel_rfl) rfl ⟨nrow_cell (rowO.rd (hS7724.own 3).1) z_Row h7733.1 h7733.2 9 rfl, nrow_cell (rowO.rd (hS7724.own 3).1) z_Row h7733.1 h7733.2 10 rfl, nrow_cell (rowO.rd (hS7724.own 3).1) z_Row h7733.1 h7733.2 11 rfl, nrow_cell (rowO.rd (hS7724.own 3).1) z_Row h7733.1 h7733.2 12 rfl, nrow_cell (rowO.rd (hS7724.own 3).1) z_Row h7733.1 h7733.2 13 rfl, nrow_cell (rowO.rd (hS7724.own 3).1) z_Row h7733.1 h7733.2 14 rfl, nrow_cell (rowO.rd (hS7724.own 3).1) z_Row h7733.1 h7733.2 15 rfl, nrow_cell (rowO.rd (hS7724.own 3).1) z_Row h7733.1 h7733.2 16 rfl, trivial⟩ rfl ?_
          refine WL.reE [2, 8, 10, 12, 16, 17, 18, 19, 20, 21, 85, 86, 92, 93, 94, 115] [(2, (iv p2)), (8, (pt g2265)), (10, (pt g3166)), (12, (.slice A5245 x5249.length c5246)), (16, (pt g5814)), (17, (.pointer (some ((adr A3167).add ((i7732).toNat * 19))))), (18, (iv x7042)), (19, (iv (-1))), (20, (iv x7512)), (21, (pt g7522)), (85, (iv p2)), (86, (iv x7042)), (92, (.slice A3167 y3170.rows.length c3168)), (93, (iv (y3170.rows.length : Int))), (94, (iv x7512)), (115, (.bool ((((rdD y3170.rows i7732 z_Row).North).e0) == (((rdD y3170.rows x7512 z_Row).South).e0) && ((((rdD y3170.rows i7732 z_Row).North).e1) == (((rdD y3170.rows x7512 z_Row).South).e1) && ((((rdD y3170.rows i7732 z_Row).North).e2) == (((rdD y3170.rows x7512 z_Row).South).e2) && ((((rdD y3170.rows i7732 z_Row).North).e3) == (((rdD y3170.rows x7512 z_Row).South).e3) && ((((rdD y3170.rows i7732 z_Row).North).e4) == (((rdD y3170.rows x7512 z_Row).South).e4) && ((((rdD y3170.rows i7732 z_Row).North).e5) == (((rdD y3170.rows x7512 z_Row).South).e5) && ((((rdD y3170.rows i7732 z_Row).North).e6) == (((rdD y3170.rows x7512 z_Row).South).e6) && ((((rdD y3170.rows i7732 z_Row).North).e7) == (((rdD y3170.rows x7512 z_Row).South).e7)))))))))))] [(2, (iv p2)), (8, (pt g2265)), (10, (pt g3166)), (12, (.slice A5245 x5249.length c5246)), (16, (pt g5814)), (17, (.pointer (oepV A3167 19 o7511))), (18, (iv x7042)), (19, (iv (-1))), (20, (iv x7512)), (21, (pt g7522)), (85, (iv p2)), (86, (iv x7042)), (92, (.slice A3167 y3170.rows.length c3168)), (93, (iv (y3170.rows.length : Int))), (94, (iv x7512)), (115, (.bool ((((rdD y3170.rows i7732 z_Row).North).e0) == (((rdD y3170.rows x7512 z_Row).South).e0) && ((((rdD y3170.rows i7732 z_Row).North).e1) == (((rdD y3170.rows x7512 z_Row).South).e1) && ((((rdD y3170.rows i7732 z_Row).North).e2) == (((rdD y3170.rows x7512 z_Row).South).e2) && ((((rdD y3170.rows i7732 z_Row).North).e3) == (((rdD y3170.rows x7512 z_Row).South).e3) && ((((rdD y3170.rows i7732 z_Row).North).e4) == (((rdD y3170.rows x7512 z_Row).South).e4) && ((((rdD y3170.rows i7732 z_Row).North).e5) == (((rdD y3170.rows x7512 z_Row).South).e5) && ((((rdD y3170.rows i7732 z_Row).North).e6) == (((rdD y3170.rows x7512 z_Row).South).e6) && ((((rdD y3170.rows i7732 z_Row).North).e7) == (((rdD y3170.rows x7512 z_Row).South).e7)))))))))))] rfl (by rw [ho7731]; rfl) ?_
          injection hv7729 with hv7729
          subst hv7729
          exact WL.toV K () [115, 2, 8, 10, 12, 16, 17, 18, 19, 20, 21, 85, 86, 92, 93, 94] rfl trivial
         refine WL.setB 103 h7730 rfl ?_
         refine seg 17 [] [2, 8, 10, 12, 16, 17, 18, 19, 20, 21, 85, 86, 92, 93, 94, 115] [(2, (iv p2)), (8, (pt g2265)), (10, (pt g3166)), (12, (.slice A5245 x5249.length c5246)), (16, (pt g5814)), (17, (.pointer (oepV A3167 19 o7511))), (18, (iv x7042)), (19, (iv (-1))), (20, (iv x7512)), (21, (pt g7522)), (85, (iv p2)), (86, (iv x7042)), (92, (.slice A3167 y3170.rows.length c3168)), (93, (iv (y3170.rows.length : Int))), (94, (iv x7512)), (115, (.bool false))] [] (fun fb => by kernel_rfl) rfl trivial ?_
         injection hv7729 with hv7729
         subst hv7729
         exact WL.toV K () [115, 2, 8, 10, 12, 16, 17, 18, 19, 20, 21, 85, 86, 92, 93, 94] rfl trivial
        rintro _ _
        refine seg 18 [] [2, 8, 10, 12, 16, 17, 18, 19, 20, 21, 85, 86, 92, 93, 94, 116] [(2, (iv p2)), (8, (pt g2265)), (10, (pt g3166)), (12, (.slice A5245 x5249.length c5246)), (16, (pt g5814)), (17, (.pointer (oepV A3167 19 o7511))), (18, (iv x7042)), (19, (iv (-1))), (20, (iv x7512)), (21, (pt g7522)), (85, (iv p2)), (86, (iv x7042)), (92, (.slice A3167 y3170.rows.length c3168)), (93, (iv (y3170.rows.length : Int))), (94, (iv x7512)), (116, (.bool b7728))] [] (fun fb => by kernel_rfl) rfl trivial ?_
        obtain ⟨b7737, hv7738, hx7643⟩ := bind_some hx7643
        refine WL.cutV (T := Unit) 33 (fun t => [(131, (.bool b7737)), (2, (iv p2)), (8, (pt g2265)), (10, (pt g3166)), (12, (.slice A5245 x5249.length c5246)), (16, (pt g5814)), (17, (.pointer (oepV A3167 19 o7511))), (18, (iv x7042)), (19, (iv (-1))), (20, (iv x7512)), (85, (iv p2)), (86, (iv x7042)), (92, (.slice A3167 y3170.rows.length c3168)), (93, (iv (y3170.rows.length : Int))), (94, (iv x7512))]) (fun t => True) (fun K => ?_) ?_
        ·
         rcases br_some hv7738 with ⟨h7739, hv7738⟩ | ⟨h7739, hv7738⟩
         ·
          refine WL.setB 116 h7739 rfl ?_
          refine seg 23 [] [2, 8, 10, 12, 16, 17, 18, 19, 20, 21, 85, 86, 92, 93, 94, 116, 121] [(2, (iv p2)), (8, (pt g2265)), (10, (pt g3166)), (12, (.slice A5245 x5249.length c5246)), (16, (pt g5814)), (17, (.pointer (oepV A3167 19 o7511))), (18, (iv x7042)), (19, (iv (-1))), (20, (iv x7512)), (21, (pt g7522)), (85, (iv p2)), (86, (iv x7042)), (92, (.slice A3167 y3170.rows.length c3168)), (93, (iv (y3170.rows.length : Int))), (94, (iv x7512)), (116, (.bool true)), (121, (.bool (x7042 == (w64 (p2 - 1)))))] [] (fun fb => by kernel_rfl) rfl trivial ?_
          refine WL.setB 121 h7658 rfl ?_
          refine seg 26 [] [2, 8, 10, 12, 16, 17, 18, 19, 20, 21, 85, 86, 92, 93, 94, 116, 121, 122, 124] [(2, (iv p2)), (8, (pt g2265)), (10, (pt g3166)), (12, (.slice A5245 x5249.length c5246)), (16, (pt g5814)), (17, (.pointer (oepV A3167 19 o7511))), (18, (iv x7042)), (19, (iv (-1))), (20, (iv x7512)), (21, (pt g7522)), (85, (iv p2)), (86, (iv x7042)), (92, (.slice A3167 y3170.rows.length c3168)), (93, (iv (y3170.rows.length : Int))), (94, (iv x7512)), (116, (.bool true)), (121, (.bool false)), (122, (.slice A5245 x5249.length c5246)), (124, (iv (w64 (x7042 + 1))))] [] (fun fb => by kernel_rfl) rfl trivial ?_
          obtain ⟨h7740, hv7738⟩ := as_some hv7738
          refine segF 29 [.v (iv (((rdD y3170.rows x7512 z_Row).North).e0)), .v (iv (((rdD y3170.rows x7512 z_Row).North).e1)), .v (iv (((rdD y3170.rows x7512 z_Row).North).e2)), .v (iv (((rdD y3170.rows x7512 z_Row).North).e3)), .v (iv (((rdD y3170.rows x7512 z_Row).North).e4)), .v (iv (((rdD y3170.rows x7512 z_Row).North).e5)), .v (iv (((rdD y3170.rows x7512 z_Row).North).e6)), .v (iv (((rdD y3170.rows x7512 z_Row).North).e7))] [2, 8, 10, 12, 16, 17, 18, 19, 20, 85, 86, 92, 93, 94, 116, 121, 125, 128] [(2, (iv p2)), (8, (pt g2265)), (10, (pt g3166)), (12, (.slice A5245 x5249.length c5246)), (16, (pt g5814)), (17, (.pointer (oepV A3167 19 o7511))), (18, (iv x7042)), (19, (iv (-1))), (20, (iv x7512)), (85, (iv p2)), (86, (iv x7042)), (92, (.slice A3167 y3170.rows.length c3168)), (93, (iv (y3170.rows.length : Int))), (94, (iv x7512)), (116, (.bool true)), (121, (.bool false)), (125, (.pointer (some ((adr A5245).add ((w64 (x7042 + 1)).toNat * 1))))), (128, (.agg #[(iv (((rdD y3170.rows x7512 z_Row).North).e0)), (iv (((rdD y3170.rows x7512 z_Row).North).e1)), (iv (((rdD y3170.rows x7512 z_Row).North).e2)), (iv (((rdD y3170.rows x7512 z_Row).North).e3)), (iv (((rdD y3170.rows x7512 z_Row).North).e4)), (iv (((rdD y3170.rows x7512 z_Row).North).e5)), (iv (((rdD y3170.rows x7512 z_Row).North).e6)), (iv (((rdD y3170.rows x7512 z_Row).North).e7))]))] [.idx A5245 (w64 (x7042 + 1)) x5249.length] [27, 28, 29, 30, 31, 32, 33, 34] [(29, ⟨g7522, 9, none⟩, (iv (((rdD y3170.rows x7512 z_Row).North).e0))), (29, ⟨g7522, 10, none⟩, (iv (((rdD y3170.rows x7512 z_Row).North).e1))), (29, ⟨g7522, 11, none⟩, (iv (((rdD y3170.rows x7512 z_Row).North).e2))), (29, ⟨g7522, 12, none⟩, (iv (((rdD y3170.rows x7512 z_Row).North).e3))), (29, ⟨g7522, 13, none⟩, (iv (((rdD y3170.rows x7512 z_Row).North).e4))), (29, ⟨g7522, 14, none⟩, (iv (((rdD y3170.rows x7512 z_Row).North).e5))), (29, ⟨g7522, 15, none⟩, (iv (((rdD y3170.rows x7512 z_Row).North).e6))), (29, ⟨g7522, 16, none⟩, (iv (((rdD y3170.rows x7512 z_Row).North).e7)))] (fun fb => by kernel_rfl) rfl ⟨nrow_adr (rowO.rd (hS7724.own 5).1) h7740.1 h7740.2, trivial⟩ rfl ?_
          obtain ⟨m7741, hm7742, hv7738⟩ := bind_some hv7738
          refine seg 30 [.v (.map (some (H5248 (w64 (x7042 + 1)).toNat)))] [2, 8, 10, 12, 16, 17, 18, 19, 20, 85, 86, 92, 93, 94, 116, 121, 126, 128] [(2, (iv p2)), (8, (pt g2265)), (10, (pt g3166)), (12, (.slice A5245 x5249.length c5246)), (16, (pt g5814)), (17, (.pointer (oepV A3167 19 o7511))), (18, (iv x7042)), (19, (iv (-1))), (20, (iv x7512)), (85, (iv p2)), (86, (iv x7042)), (92, (.slice A3167 y3170.rows.length c3168)), (93, (iv (y3170.rows.length : Int))), (94, (iv x7512)), (116, (.bool true)), (121, (.bool false)), (126, (.map (some (H5248 (w64 (x7042 + 1)).toNat)))), (128, (.agg #[(iv (((rdD y3170.rows x7512 z_Row).North).e0)), (iv (((rdD y3170.rows x7512 z_Row).North).e1)), (iv (((rdD y3170.rows x7512 z_Row).North).e2)), (iv (((rdD y3170.rows x7512 z_Row).North).e3)), (iv (((rdD y3170.rows x7512 z_Row).North).e4)), (iv (((rdD y3170.rows x7512 z_Row).North).e5)), (iv (((rdD y3170.rows x7512 z_Row).North).e6)), (iv (((rdD y3170.rows x7512 z_Row).North).e7))]))] [.cell ((adr A5245).add ((w64 (x7042 + 1)).toNat * 1)) (.map (some (H5248 (w64 (x7042 + 1)).toNat)))] (fun fb => by kernel_rfl) rfl ⟨nrow_cell (rowO.rd (hS7724.own 5).1) none h7740.1 h7740.2 0 (mapV_some hm7742), trivial⟩ ?_
          refine WL.lookup (mapsO.at (hS7724.own 6).1 h7740.1 h7740.2 hm7742) ((rdD y3170.rows x7512 z_Row).North) (d := 129) (c := false) (t := 91) (kT := 83) (eT := 4) (z := false) (kE := (aggI ints_A8_Int)) (vE := vB) (l := m7741) (.bool (mget ((rdD y3170.rows x7512 z_Row).North) false m7741)) (fun fb => by kernel_rfl) fill_First_key83 (by kernel_rfl) (fun _ => by kernel_rfl) rfl ?_
          refine ⟨trivial, ?_⟩
          refine seg 33 [] [2, 8, 10, 12, 16, 17, 18, 19, 20, 85, 86, 92, 93, 94, 131] [(2, (iv p2)), (8, (pt g2265)), (10, (pt g3166)), (12, (.slice A5245 x5249.length c5246)), (16, (pt g5814)), (17, (.pointer (oepV A3167 19 o7511))), (18, (iv x7042)), (19, (iv (-1))), (20, (iv x7512)), (85, (iv p2)), (86, (iv x7042)), (92, (.slice A3167 y3170.rows.length c3168)), (93, (iv (y3170.rows.length : Int))), (94, (iv x7512)), (131, (.bool (mget ((rdD y3170.rows x7512 z_Row).North) false m7741)))] [] (fun fb => by kernel_rfl) rfl trivial ?_
          injection hv7738 with hv7738
          subst hv7738
          exact WL.toV K () [131, 2, 8, 10, 12, 16, 17, 18, 19, 20, 85, 86, 92, 93, 94] rfl trivial
         refine WL.setB 116 h7739 rfl ?_
         refine seg 33 [] [2, 8, 10, 12, 16, 17, 18, 19, 20, 85, 86, 92, 93, 94, 131] [(2, (iv p2)), (8, (pt g2265)), (10, (pt g3166)), (12, (.slice A5245 x5249.length c5246)), (16, (pt g5814)), (17, (.pointer (oepV A3167 19 o7511))), (18, (iv x7042)), (19, (iv (-1))), (20, (iv x7512)), (85, (iv p2)), (86, (iv x7042)), (92, (.slice A3167 y3170.rows.length c3168)), (93, (iv (y3170.rows.length : Int))), (94, (iv x7512)), (131, (.bool false))] [] (fun fb => by kernel_rfl) rfl trivial ?_
         injection hv7738 with hv7738
         subst hv7738
         exact WL.toV K () [131, 2, 8, 10, 12, 16, 17, 18, 19, 20, 85, 86, 92, 93, 94] rfl trivial
        rintro _ _
        refine WL.done rfl ?_
        injection hx7643 with hx7643
        exact WX.to Kx7642 b7737 [2, 8, 10, 12, 16, 17, 18, 19, 20, 85, 86, 92, 93, 94, 131] rfl ⟨(hS7724.subR [0, 1, 2, 3, 4]).sub [1, 2, 3, 4, 5, 6, 7, 8] (by decide), hx7643.symm⟩
       rintro y7746 w7743 ⟨hS7744, hq7745⟩
       subst hq7745
       refine WX.next ?_
       rcases br_some hl7519 with ⟨h7747, hl7519⟩ | ⟨h7747, hl7519⟩
       ·refine WC.condT2 (fun fb => by kernel_rfl) h7747 ?_
        refine WC.seq ?_
        refine WC.region ?_
        refine seg 2 [] [2, 8, 10, 12, 16, 19, 85, 86] [(2, (iv p2)), (8, (pt g2265)), (10, (pt g3166)), (12, (.slice A5245 x5249.length c5246)), (16, (pt g5814)), (19, (iv x7512)), (85, (iv p2)), (86, (iv x7042))] [] (fun fb => by kernel_rfl) rfl trivial ?_
        refine WL.done rfl ?_
        refine WX.next ?_
        refine WC.exit ?_
        injection hl7519 with hl7519
        exact WX.blockPast (by decide) (WX.thenX (WX.thenX (WX.blockHere (WX.to Kx7514 x7512 [2, 8, 10, 12, 16, 19, 85, 86] rfl ⟨(hS7744.subR [0, 1, 2, 3, 4]).sub [0, 1, 2, 3, 4, 5, 6, 7] (by decide), hl7519.symm⟩))))
       refine WC.condF2 (fun fb => by kernel_rfl) h7747 ?_
       refine WC.skip ?_
       refine WX.blockN (WX.next ?_)
       refine WC.region ?_
       refine seg 2 [] [2, 8, 10, 12, 16, 17, 18, 19, 85, 86, 92, 93, 94] [(2, (iv p2)), (8, (pt g2265)), (10, (pt g3166)), (12, (.slice A5245 x5249.length c5246)), (16, (pt g5814)), (17, (.pointer (oepV A3167 19 o7511))), (18, (iv x7042)), (19, (iv (-1))), (85, (iv p2)), (86, (iv x7042)), (92, (.slice A3167 y3170.rows.length c3168)), (93, (iv (y3170.rows.length : Int))), (94, (iv (w64 (x7512 + 1))))] [] (fun fb => by kernel_rfl) rfl trivial ?_
       refine WL.done rfl ?_
       exact WX.again k7516 (Nat.lt_succ_self _) (o7511, w64 (x7512 + 1)) [2, 8, 10, 12, 16, 17, 18, 19, 85, 86, 92, 93, 94] rfl ⟨(hS7744.subR [0, 1, 2, 3, 4]).sub [0, 1, 2, 3, 4, 5, 6, 7] (by decide), hl7519⟩
      refine WC.condF2 (fun fb => by kernel_rfl) h7520 ?_
      refine WC.exit ?_
      injection hl7519 with hl7519
      exact WX.thenX (WX.thenX (WX.blockHere (WX.to Kx7514 (-1) [2, 8, 10, 12, 16, 19, 85, 86] rfl ⟨(hS7518.subR [0, 1, 2, 3, 4]).sub [0, 1, 2, 3, 4, 5, 6, 7] (by decide), hl7519.symm⟩)))
    rintro y7751 w7748 ⟨hS7749, hq7750⟩
    subst hq7750
    refine WX.next ?_
    refine WC.seq ?_
    refine WC.seq ?_
    refine WC.region ?_
    refine seg 2 [] [2, 8, 10, 12, 16, 19, 85, 86, 135] [(2, (iv p2)), (8, (pt g2265)), (10, (pt g3166)), (12, (.slice A5245 x5249.length c5246)), (16, (pt g5814)), (19, (iv x7514)), (85, (iv p2)), (86, (iv x7042)), (135, (.bool (decide (x7514 < 0))))] [] (fun fb => by kernel_rfl) rfl trivial ?_
    refine WL.done rfl ?_
    refine WX.next ?_
    rcases br_some hl7051 with ⟨h7752, hl7051⟩ | ⟨h7752, hl7051⟩
    ·refine WC.condT2 (fun fb => by kernel_rfl) h7752 ?_
     refine WC.seq ?_
     refine WC.region ?_
     refine seg 1 [] [8, 136] [(8, (pt g2265)), (136, (.agg #[(iv 0), (iv 0), (.slice none 0 0)]))] [] (fun fb => by kernel_rfl) rfl trivial ?_
     refine WL.store hS7749 0 rfl [(0, (iv 0)), (1, (iv 0)), (2, (.slice none 0 0))] #[(iv 0), (iv 0), (.slice none 0 0)] (fun fb => by kernel_rfl) (by kernel_rfl) rfl [1, 2, 3, 4, 5, 6, 7] (by decide) (by decide) (fun w7753 hS7754 => ?_)
     refine ⟨trivial, ?_⟩
     refine seg 3 [] [8, 9] [(8, (pt g2265)), (9, (iv 6))] [] (fun fb => by kernel_rfl) rfl trivial ?_
     refine WL.done rfl ?_
     refine WX.next ?_
     refine WC.ret ?_
     have hS7755 := hS7754.nilrow 3 encInt
     injection hl7051 with hl7051
     subst hl7051
     injection hf with hf
     subst hf
     exact WX.thenR (WX.blockR (WX.thenR (WX.thenR (WX.blockR (WX.thenR (WX.ret_ [.v (iv 0), .v (iv 0), .v (.slice none 0 0)] (.tuple #[(.agg #[(iv 0), (iv 0), (.slice none ([] : List Int).length 0)]), (iv 6)]) [.cell ⟨g2265, 0, none⟩ (iv 0), .cell ⟨g2265, 1, none⟩ (iv 0), .cell ⟨g2265, 2, none⟩ (.slice none 0 0)] (fun fb => by kernel_rfl) ⟨hS7754.cell 0 rfl 0 rfl, hS7754.cell 0 rfl 1 rfl, hS7754.cell 0 rfl 2 rfl, trivial⟩ ⟨_, rfl, none, 0, rfl, (hS7755.sub [0] (by decide)).noR⟩))))))
    refine WC.condF2 (fun fb => by kernel_rfl) h7752 ?_
    refine WC.skip ?_
    refine WX.next ?_
    refine WC.seq ?_
    refine WC.region ?_
    refine seg 5 [.v (.slice A3167 y3170.rows.length c3168)] [2, 8, 10, 12, 16, 85, 86, 140, 141] [(2, (iv p2)), (8, (pt g2265)), (10, (pt g3166)), (12, (.slice A5245 x5249.length c5246)), (16, (pt g5814)), (85, (iv p2)), (86, (iv x7042)), (140, (.slice A3167 y3170.rows.length c3168)), (141, (iv x7514))] [.cell ⟨g3166, 0, none⟩ (.slice A3167 y3170.rows.length c3168)] (fun fb => by kernel_rfl) rfl ⟨hS7749.cell 1 rfl 0 rfl, trivial⟩ ?_
    obtain ⟨h7756, hl7051⟩ := as_some hl7051
    refine seg 7 [] [2, 8, 10, 12, 16, 17, 85, 86] [(2, (iv p2)), (8, (pt g2265)), (10, (pt g3166)), (12, (.slice A5245 x5249.length c5246)), (16, (pt g5814)), (17, (.pointer (some ((adr A3167).add ((x7514).toNat * 19))))), (85, (iv p2)), (86, (iv x7042))] [.idx A3167 x7514 y3170.rows.length] (fun fb => by kernel_rfl) rfl ⟨nrow_adr (rowO.rd (hS7749.own 2).1) h7756.1 h7756.2, trivial⟩ ?_
    refine WL.done rfl ?_
    refine WX.next ?_
    refine WC.regionD ([(1, ⟨g5814, 2, none⟩, (.slice A7038 l7040.length c7039)), (5, ((adr A3167).add ((x7514).toNat * 19)), (.slice ((H3169 x7514.toNat 0).1) ((rdD y3170.rows x7514 z_Row).Cells).length ((H3169 x7514.toNat 0).2)))], [0, 1, 2, 3, 4, 5, 7], [[], [0], [], [2], [2, 3], [2, 3, 4], [0, 1, 2, 3, 4, 5], [0, 1, 2, 3, 4, 5, 6], [0, 1, 2, 3, 4, 5, 6, 7]]) [[0, 1, 2, 3, 4, 5, 6, 7, 8]] (by kernel_rfl) (by kernel_rfl) (NoPanic.block (NoPanic.seq (NoPanic.seq (NoPanic.block (NoPanic.seq (NoPanic.body)))))) ?_
    have hS7765 := hS7749.drew
    revert hS7765
    generalize World.drew w7748 = w7764
    intro hS7765
    refine ⟨⟨hS7765.cell 6 rfl 2 rfl, nrow_cell (rowO.rd (hS7765.own 2).1) z_Row h7756.1 h7756.2 0 rfl, trivial⟩, forallC ?_ (forallN)⟩
    refine segF 6 [.v (.slice A7038 l7040.length c7039), .v (.slice ((H3169 x7514.toNat 0).1) ((rdD y3170.rows x7514 z_Row).Cells).length ((H3169 x7514.toNat 0).2))] [2, 8, 10, 12, 16, 17, 85, 86, 144, 148] [(2, (iv p2)), (8, (pt g2265)), (10, (pt g3166)), (12, (.slice A5245 x5249.length c5246)), (16, (pt g5814)), (17, (.pointer (some ((adr A3167).add ((x7514).toNat * 19))))), (85, (iv p2)), (86, (iv x7042)), (144, (.slice A7038 l7040.length c7039)), (148, (.slice ((H3169 x7514.toNat 0).1) ((rdD y3170.rows x7514 z_Row).Cells).length ((H3169 x7514.toNat 0).2)))] [] [0, 1] [(1, ⟨g5814, 2, none⟩, (.slice A7038 l7040.length c7039)), (5, ((adr A3167).add ((x7514).toNat * 19)), (.slice ((H3169 x7514.toNat 0).1) ((rdD y3170.rows x7514 z_Row).Cells).length ((H3169 x7514.toNat 0).2)))] (fun fb => by kernel_rfl) rfl trivial rfl ?_
    obtain ⟨h7766, hl7051⟩ := as_some hl7051
    refine WL.append hS7765 7 (d := 149) (tS := 25) (z := (iv 0)) (bytes := 8) (c2 := (H3169 x7514.toNat 0).2) rfl (fun fb => by kernel_rfl) (nestO.at ((hS7765.own 3).1 0) z_Row h7756.1 h7756.2) (by kernel_rfl) (by kernel_rfl) rfl (by decide) h7766 (by decide) [0, 1, 2, 3, 4, 5, 6] (by decide) (by decide) (fun A7767 c7768 w7769 hS7770 => ?_)
    refine ⟨trivial, ?_⟩
    refine seg 8 [] [2, 8, 10, 12, 16, 17, 85, 86, 149, 150] [(2, (iv p2)), (8, (pt g2265)), (10, (pt g3166)), (12, (.slice A5245 x5249.length c5246)), (16, (pt g5814)), (17, (.pointer (some ((adr A3167).add ((x7514).toNat * 19))))), (85, (iv p2)), (86, (iv x7042)), (149, (.slice A7767 (l7040 ++ ((rdD y3170.rows x7514 z_Row).Cells)).length c7768)), (150, (.pointer (some ⟨g5814, 2, none⟩)))] [] (fun fb => by kernel_rfl) rfl trivial ?_
    refine WL.store hS7770 7 rfl [(2, (.slice A7767 (l7040 ++ ((rdD y3170.rows x7514 z_Row).Cells)).length c7768))] #[(iv p1), (iv p2), (.slice A7767 (l7040 ++ ((rdD y3170.rows x7514 z_Row).Cells)).length c7768)] (fun fb => by kernel_rfl) (by kernel_rfl) rfl [0, 1, 2, 3, 4, 5, 6] (by decide) (by decide) (fun w7771 hS7772 => ?_)
    refine ⟨trivial, ?_⟩
    refine WL.done rfl ?_
    refine WX.blockN (WX.next ?_)
    refine WC.region ?_
    refine seg 2 [] [2, 8, 10, 12, 16, 17, 85, 86] [(2, (iv p2)), (8, (pt g2265)), (10, (pt g3166)), (12, (.slice A5245 x5249.length c5246)), (16, (pt g5814)), (17, (.pointer (some ((adr A3167).add ((x7514).toNat * 19))))), (85, (iv p2)), (86, (iv (w64 (x7042 + 1))))] [] (fun fb => by kernel_rfl) rfl trivial ?_
    refine WL.done rfl ?_
    exact WX.again k7048 (Nat.lt_succ_self _) ((l7040 ++ ((rdD y3170.rows x7514 z_Row).Cells), (some x7514), w64 (x7042 + 1)), A7767, c7768) [2, 8, 10, 12, 16, 17, 85, 86] rfl ⟨(hS7772.subR [0, 1, 2, 3, 4]).sub [2, 3, 4, 5, 6, 7, 0, 1] (by decide), hl7051⟩
   refine WC.condF2 (fun fb => by kernel_rfl) h7052 ?_
   refine WC.exit ?_
   injection hl7051 with hl7051
   exact WX.thenX (WX.thenX (WX.blockHere (WX.to Kx7046 (l7040, A7038, c7039) [8, 16] rfl ⟨(hS7050.subR [0, 1, 2, 3, 4]).sub [0, 6, 7] (by decide), hl7051.symm⟩)))
 rintro ⟨y7776, A7043, c7044⟩ w7773 ⟨hS7774, hq7775⟩
 subst hq7775
 have hf := sum_inr hf
 refine WX.next ?_
 refine WC.seq ?_
 refine WC.region ?_
 refine seg 1 [.v (iv p1), .v (iv p2), .v (.slice A7043 y7776.length c7044)] [8, 152] [(8, (pt g2265)), (152, (.agg #[(iv p1), (iv p2), (.slice A7043 y7776.length c7044)]))] [.cell ⟨g5814, 0, none⟩ (iv p1), .cell ⟨g5814, 1, none⟩ (iv p2), .cell ⟨g5814, 2, none⟩ (.slice A7043 y7776.length c7044)] (fun fb => by kernel_rfl) rfl ⟨hS7774.cell 1 rfl 0 rfl, hS7774.cell 1 rfl 1 rfl, hS7774.cell 1 rfl 2 rfl, trivial⟩ ?_
 refine WL.store hS7774 0 rfl [(0, (iv p1)), (1, (iv p2)), (2, (.slice A7043 y7776.length c7044))] #[(iv p1), (iv p2), (.slice A7043 y7776.length c7044)] (fun fb => by kernel_rfl) (by kernel_rfl) rfl [1, 2] (by decide) (by decide) (fun w7778 hS7779 => ?_)
 refine ⟨trivial, ?_⟩
 refine seg 3 [] [8, 9] [(8, (pt g2265)), (9, (iv 0))] [] (fun fb => by kernel_rfl) rfl trivial ?_
 refine WL.done rfl ?_
 refine WX.next ?_
 refine WC.ret ?_
 injection hf with hf
 subst hf
 exact WX.ret_ [.v (iv p1), .v (iv p2), .v (.slice A7043 y7776.length c7044)] (.tuple #[(.agg #[(iv p1), (iv p2), (.slice A7043 y7776.length c7044)]), (iv 0)]) [.cell ⟨g2265, 0, none⟩ (iv p1), .cell ⟨g2265, 1, none⟩ (iv p2), .cell ⟨g2265, 2, none⟩ (.slice A7043 y7776.length c7044)] (fun fb => by kernel_rfl) ⟨hS7779.cell 0 rfl 0 rfl, hS7779.cell 0 rfl 1 rfl, hS7779.cell 0 rfl 2 rfl, trivial⟩ ⟨_, rfl, A7043, c7044, rfl, (hS7779.sub [2] (by decide)).noR⟩
theorem square_exists_calls (k : Nat) (p0 : List Tile) (p1 : Int) (A_p0 : Option Addr) (c_p0 : Nat) (r : Bool) (w : World) (hR0 : RO NoS w (rowR enc_Tile A_p0 c_p0 p0)) (hf : square_exists k p0 p1 = some r) :
  CallsR Tryd.prog 71 #[(.slice A_p0 p0.length c_p0), (iv p1)] w (fun v w' => v = (.bool r) ∧ Keeps NoS w w') := by
 have hS : St NoS w w [rowR enc_Tile A_p0 c_p0 p0] [] := St.init (ro_cons hR0 (ro_nil _ _))
 refine enter 17 Tryd.func71 rfl Tryd.ntmps71 rfl ?_
 unfold square_exists at hf
 refine WC.seq ?_
 refine WC.region ?_
 refine seg 1 [] [0, 1] [(0, (.slice A_p0 p0.length c_p0)), (1, (iv p1))] [] (fun fb => by kernel_rfl) rfl trivial ?_
 refine WL.done rfl ?_
 refine WX.next ?_
 refine WC.seq ?_
 refine WC.region ?_
 refine seg 4 [] [8, 9, 10, 11] [(8, (.slice A_p0 p0.length c_p0)), (9, (iv p1)), (10, (iv p1)), (11, (.agg #[(.slice none 0 0), (.slice none 0 0), (.slice none 0 0), (.slice none 0 0)]))] [] (fun fb => by kernel_rfl) rfl trivial ?_
 obtain ⟨t7780, ht7781, hf⟩ := bind_some hf
 refine WL.call (some 12) 31 #[(.slice A_p0 p0.length c_p0), (iv p1), (iv p1), (.agg #[(.slice none 0 0), (.slice none 0 0), (.slice none 0 0), (.slice none 0 0)])] (fun fb => by kernel_rfl) (fill_First_calls _ p0 p1 p1 (Edges.mk ([] : List Int) ([] : List Int) ([] : List Int) ([] : List Int)) A_p0 c_p0 none 0 none 0 none 0 none 0 t7780 _ (hS.rd 0) (RO.nilR _ _ _) (RO.nilR _ _ _) (RO.nilR _ _ _) (RO.nilR _ _ _) ht7781) (fun v w7782 hR7783 => ?_)
 obtain ⟨A7785, c7786, rfl, hk_⟩ := hR7783
 have hS7784 : St NoS w w7782 [rowR enc_Tile A_p0 c_p0 p0] [rowO 3 encInt A7785 c7786 t7780.1.Cells] := hS.call hk_ [] [] (fun g hg => hg.elim) (by simp) (by decide)
 refine ⟨trivial, ?_⟩
 refine seg 8 [] [13, 14] [(13, (.agg #[(iv t7780.1.Width), (iv t7780.1.Height), (.slice A7785 t7780.1.Cells.length c7786)])), (14, (iv t7780.2))] [] (fun fb => by kernel_rfl) rfl trivial ?_
 refine WL.new hS7784 5 [] (fun g => (.pointer (some ⟨g, 0, none⟩))) (.cells #[(iv 0), (iv 0), (.slice none 0 0)] 27 (0, 0)) [] (fun fb g => by kernel_rfl) trivial (fun g7787 w7788 hS7789 => ?_)
 refine ⟨trivial, ?_⟩
 refine WL.store hS7789 0 rfl [(0, (iv t7780.1.Width)), (1, (iv t7780.1.Height)), (2, (.slice A7785 t7780.1.Cells.length c7786))] #[(iv t7780.1.Width), (iv t7780.1.Height), (.slice A7785 t7780.1.Cells.length c7786)] (fun fb => by kernel_rfl) (by kernel_rfl) rfl [1] (by decide) (by decide) (fun w7791 hS7792 => ?_)
 refine ⟨trivial, ?_⟩
 refine seg 11 [] [6] [(6, (iv t7780.2))] [] (fun fb => by kernel_rfl) rfl trivial ?_
 refine WL.done rfl ?_
 refine WX.next ?_
 refine WC.seq ?_
 refine WC.region ?_
 refine seg 3 [] [4] [(4, (.bool (t7780.2 == 0)))] [] (fun fb => by kernel_rfl) rfl trivial ?_
 refine WL.done rfl ?_
 refine WX.next ?_
 refine WC.ret ?_
 injection hf with hf
 subst hf
 exact WX.ret_ [] (.bool (t7780.2 == 0)) [] (fun fb => by kernel_rfl) trivial ⟨_, rfl, rfl, hS7792.keep⟩
theorem square_filled_1_y_calls {σ τ : Type} (k : Nat) (f0 : Int) (f1 : List Tile) (yf : Int → σ → Option (σ × Bool)) (sY : σ) (g_f0 : Nat) (g_f1 : Nat) (A_f1 : Option Addr) (c_f1 : Nat) (yv : Value) (Y : σ → τ → Own) (tY : τ) (Rd : Own) (r : σ) (w : World) (hR0 : RO (fpL [Y sY tY]) w (Rd)) (hR1 : RO (fpL [Y sY tY]) w (blk g_f0 (.cells #[(iv f0)] 3 (0, 0)))) (hR2 : RO (fpL [Y sY tY]) w (blk g_f1 (.cells #[(.slice A_f1 f1.length c_f1)] 22 (0, 0)))) (hR3 : RO (fpL [Y sY tY]) w (rowR enc_Tile A_f1 c_f1 f1)) (hI : IoOK w [Y sY tY]) (hY : ∀ (x0_ : Int) (s_ : σ) (t_ : τ) (r_ : σ × Bool) (w_ : World), RO (fpL [Y s_ t_]) w_ Rd → IoOK w_ [Y s_ t_] → yf x0_ s_ = some r_ → YieldR Tryd.prog yv #[(iv x0_)] w_ (fun v_ w' => ∃ t1_, v_ = .bool r_.2 ∧ St (fpL [Y s_ t_]) w_ w' [] [Y r_.1 t1_])) (hf : square_filled_1_y k f0 f1 yf sY = some r) :
  CallsR Tryd.prog 88 #[yv, (.pointer (some ⟨g_f0, 0, none⟩)), (.pointer (some ⟨g_f1, 0, none⟩))] w (fun v w' => ∃ (t1_ : τ), v = (.tuple #[]) ∧ St (fpL [Y sY tY]) w w' [] [Y r t1_]) := by
 have hS : St (fpL [Y sY tY]) w w [Rd, blk g_f0 (.cells #[(iv f0)] 3 (0, 0)), blk g_f1 (.cells #[(.slice A_f1 f1.length c_f1)] 22 (0, 0)), rowR enc_Tile A_f1 c_f1 f1] [Y sY tY] := St.initIO (ro_cons hR0 (ro_cons hR1 (ro_cons hR2 (ro_cons hR3 (ro_nil _ _))))) hI
 refine enter 19 Tryd.func88 rfl Tryd.ntmps88 rfl ?_
 unfold square_filled_1_y at hf
 refine WC.seq ?_
 refine WC.region ?_
 refine seg 1 [] [0, 1, 2, 4] [(0, yv), (1, (.pointer (some ⟨g_f0, 0, none⟩))), (2, (.pointer (some ⟨g_f1, 0, none⟩))), (4, (iv 1))] [] (fun fb => by kernel_rfl) rfl trivial ?_
 refine WL.done rfl ?_
 refine WX.next ?_
 obtain ⟨x7855, hx7856, hf⟩ := bind_some hf
 refine WC.cutN (T := σ × τ) (fun t => []) (fun t w1 => St (fpL [Y sY tY]) w w1 [Rd, blk g_f0 (.cells #[(iv f0)] 3 (0, 0)), blk g_f1 (.cells #[(.slice A_f1 f1.length c_f1)] 22 (0, 0)), rowR enc_Tile A_f1 c_f1 f1] [Y t.1 t.2] ∧ x7855 = .inr t.1) (fun Kx7855 => ?_) ?_
 ·
  refine WC.block ?_
  refine WC.loop (T := (Int × σ) × τ) (fun t => [(0, yv), (1, (.pointer (some ⟨g_f0, 0, none⟩))), (2, (.pointer (some ⟨g_f1, 0, none⟩))), (4, (iv t.1.1))]) (fun n t w1 => St (fpL [Y sY tY]) w w1 [Rd, blk g_f0 (.cells #[(iv f0)] 3 (0, 0)), blk g_f1 (.cells #[(.slice A_f1 f1.length c_f1)] 22 (0, 0)), rowR enc_Tile A_f1 c_f1 f1] [Y t.1.2 t.2] ∧ square_filled_1_y.l0 n t.1.1 t.1.2 f0 f1 yf = some x7855) k ((1, sY), tY) [0, 1, 2, 4] rfl ⟨(hS.subR [0, 1, 2, 3]).sub [0] (by decide), hx7856⟩ ?_
  rintro k7857 ⟨⟨x7850, s7851⟩, tt7852⟩ w7858 ⟨hS7859, hl7860⟩
  cases k7857 with
  | zero => rw [square_filled_1_y.l0] at hl7860; cases hl7860
  | succ k7857 =>
   rw [square_filled_1_y.l0] at hl7860
   refine WC.seq ?_
   refine WC.seq ?_
   refine WC.region ?_
   refine seg 4 [.v (iv f0)] [0, 1, 2, 4, 8] [(0, yv), (1, (.pointer (some ⟨g_f0, 0, none⟩))), (2, (.pointer (some ⟨g_f1, 0, none⟩))), (4, (iv x7850)), (8, (.bool (decide (x7850 ≤ f0))))] [.cell ⟨g_f0, 0, none⟩ (iv f0)] (fun fb => by kernel_rfl) rfl ⟨blk_cell (hS7859.rd 1).1 0 rfl, trivial⟩ ?_
   obtain ⟨x7867, hx7868, hl7860⟩ := bind_some hl7860
   refine WL.cutW (T := Bool) 8 (fun t => [(0, yv), (1, (.pointer (some ⟨g_f0, 0, none⟩))), (2, (.pointer (some ⟨g_f1, 0, none⟩))), (4, (iv x7850)), (12, (.bool t))]) (fun t w1 => (St (fpL [Y sY tY]) w w1 [Rd, blk g_f0 (.cells #[(iv f0)] 3 (0, 0)), blk g_f1 (.cells #[(.slice A_f1 f1.length c_f1)] 22 (0, 0)), rowR enc_Tile A_f1 c_f1 f1] [Y s7851 tt7852] ∧ x7867 = t) ∧ CellsOK [] w1) (fun K => ?_) ?_
   ·
    rcases br_some hx7868 with ⟨h7869, hx7868⟩ | ⟨h7869, hx7868⟩
    ·
     refine WL.setB 8 h7869 rfl ?_
     refine seg 6 [.v (.slice A_f1 f1.length c_f1)] [0, 1, 2, 4, 8, 9, 10] [(0, yv), (1, (.pointer (some ⟨g_f0, 0, none⟩))), (2, (.pointer (some ⟨g_f1, 0, none⟩))), (4, (iv x7850)), (8, (.bool true)), (9, (.slice A_f1 f1.length c_f1)), (10, (iv x7850))] [.cell ⟨g_f1, 0, none⟩ (.slice A_f1 f1.length c_f1)] (fun fb => by kernel_rfl) rfl ⟨blk_cell (hS7859.rd 2).1 0 rfl, trivial⟩ ?_
     obtain ⟨t7870, ht7871, hx7868⟩ := bind_some hx7868
     refine WL.call (some 11) 71 #[(.slice A_f1 f1.length c_f1), (iv x7850)] (fun fb => by kernel_rfl) (square_exists_calls _ f1 x7850 A_f1 c_f1 t7870 _ (hS7859.rd 3) ht7871) (fun v w7872 hR7873 => ?_)
     obtain ⟨rfl, hk_⟩ := hR7873
     have hS7874 := hS7859.keepN hk_
     refine ⟨trivial, ?_⟩
     refine seg 8 [] [0, 1, 2, 4, 12] [(0, yv), (1, (.pointer (some ⟨g_f0, 0, none⟩))), (2, (.pointer (some ⟨g_f1, 0, none⟩))), (4, (iv x7850)), (12, (.bool t7870))] [] (fun fb => by kernel_rfl) rfl trivial ?_
     injection hx7868 with hx7868
     exact WL.to K t7870 [0, 1, 2, 4, 12] rfl ⟨⟨(hS7874.subR [0, 1, 2, 3]).sub [0] (by decide), hx7868.symm⟩, trivial⟩
    refine WL.setB 8 h7869 rfl ?_
    refine seg 8 [] [0, 1, 2, 4, 12] [(0, yv), (1, (.pointer (some ⟨g_f0, 0, none⟩))), (2, (.pointer (some ⟨g_f1, 0, none⟩))), (4, (iv x7850)), (12, (.bool false))] [] (fun fb => by kernel_rfl) rfl trivial ?_
    injection hx7868 with hx7868
    exact WL.to K false [0, 1, 2, 4, 12] rfl ⟨⟨(hS7859.subR [0, 1, 2, 3]).sub [0] (by decide), hx7868.symm⟩, trivial⟩
   rintro y7875 w7877 ⟨⟨hS7878, hq7876⟩, hF7879⟩
   subst hq7876
   refine WL.done rfl ?_
   refine WX.next ?_
   rcases br_some hl7860 with ⟨h7880, hl7860⟩ | ⟨h7880, hl7860⟩
   ·refine WC.condT2 (fun fb => by kernel_rfl) h7880 ?_
    refine WC.skip ?_
    refine WX.next ?_
    refine WC.seq ?_
    refine WC.block ?_
    refine WC.seq ?_
    refine WC.region ?_
    refine seg 2 [] [0, 1, 2, 4, 15, 16] [(0, yv), (1, (.pointer (some ⟨g_f0, 0, none⟩))), (2, (.pointer (some ⟨g_f1, 0, none⟩))), (4, (iv x7850)), (15, yv), (16, (iv x7850))] [] (fun fb => by kernel_rfl) rfl trivial ?_
    obtain ⟨t7881, ht7882, hl7860⟩ := bind_some hl7860
    refine WL.yield (some 17) yv #[(iv x7850)] (fun fb => by kernel_rfl) (hY x7850 s7851 tt7852 t7881 _  (hS7878.rdT [0] 0) (hS7878.io [0] (by decide)) ht7882) (fun v w7883 hR7884 => ?_)
    obtain ⟨tt7886, rfl, hk_⟩ := hR7884
    have hS7885 : St (fpL [Y sY tY]) w w7883 [Rd, blk g_f0 (.cells #[(iv f0)] 3 (0, 0)), blk g_f1 (.cells #[(.slice A_f1 f1.length c_f1)] 22 (0, 0)), rowR enc_Tile A_f1 c_f1 f1] [Y t7881.1 tt7886] := hS7878.call hk_ [0] [] (fun g hg => fpL_sel g hg) (by decide) (by decide)
    refine ⟨trivial, ?_⟩
    refine seg 4 [] [0, 1, 2, 4, 18] [(0, yv), (1, (.pointer (some ⟨g_f0, 0, none⟩))), (2, (.pointer (some ⟨g_f1, 0, none⟩))), (4, (iv x7850)), (18, (.bool (!t7881.2)))] [] (fun fb => by kernel_rfl) rfl trivial ?_
    refine WL.done rfl ?_
    refine WX.next ?_
    rcases br_some hl7860 with ⟨h7887, hl7860⟩ | ⟨h7887, hl7860⟩
    ·refine WC.condT2 (fun fb => by kernel_rfl) h7887 ?_
     refine WC.ret ?_
     injection hl7860 with hl7860
     subst hl7860
     injection hf with hf
     subst hf
     exact WX.blockR (WX.thenR (WX.thenR (WX.blockR (WX.ret_ [] (.tuple #[]) [] (fun fb => by kernel_rfl) trivial ⟨_, rfl, tt7886, rfl, (hS7885.sub [0] (by decide)).noR⟩))))
    refine WC.condF2 (fun fb => by kernel_rfl) h7887 ?_
    refine WC.skip ?_
    refine WX.blockN (WX.next ?_)
    refine WC.region ?_
    refine seg 3 [] [0, 1, 2, 4] [(0, yv), (1, (.pointer (some ⟨g_f0, 0, none⟩))), (2, (.pointer (some ⟨g_f1, 0, none⟩))), (4, (iv (w64 (x7850 + 1))))] [] (fun fb => by kernel_rfl) rfl trivial ?_
    refine WL.done rfl ?_
    exact WX.again k7857 (Nat.lt_succ_self _) ((w64 (x7850 + 1), t7881.1), tt7886) [0, 1, 2, 4] rfl ⟨(hS7885.subR [0, 1, 2, 3]).sub [0] (by decide), hl7860⟩
   refine WC.condF2 (fun fb => by kernel_rfl) h7880 ?_
   refine WC.exit ?_
   injection hl7860 with hl7860
   exact WX.thenX (WX.thenX (WX.blockHere (WX.to Kx7855 (s7851, tt7852) [] rfl ⟨(hS7878.subR [0, 1, 2, 3]).sub [0] (by decide), hl7860.symm⟩)))
 rintro ⟨y7891, tt7854⟩ w7888 ⟨hS7889, hq7890⟩
 subst hq7890
 have hf := sum_inr hf
 injection hf with hf
 subst hf
 exact WX.end_ [] (.tuple #[]) [] (fun fb => by kernel_rfl) trivial ⟨_, rfl, tt7854, rfl, (hS7889.sub [0] (by decide)).noR⟩
theorem square_Largest_calls (k : Nat) (p0 : List Tile) (p1 : Int) (A_p0 : Option Addr) (c_p0 : Nat) (r : Int × Int) (w : World) (hR0 : RO NoS w (rowR enc_Tile A_p0 c_p0 p0)) (hf : square_Largest k p0 p1 = some r) :
  CallsR Tryd.prog 45 #[(.slice A_p0 p0.length c_p0), (iv p1)] w (fun v w' => v = (.tuple #[(iv r.1), (iv r.2)]) ∧ Keeps NoS w w') := by
 have hS : St NoS w w [rowR enc_Tile A_p0 c_p0 p0] [] := St.init (ro_cons hR0 (ro_nil _ _))
 refine enter 24 Tryd.func45 rfl Tryd.ntmps45 rfl ?_
 unfold square_Largest at hf
 refine WC.seq ?_
 refine WC.region ?_
 refine seg 2 [] [0, 1] [(0, (.slice A_p0 p0.length c_p0)), (1, (iv p1))] [] (fun fb => by kernel_rfl) rfl trivial ?_
 refine WL.done rfl ?_
 refine WX.next ?_
 refine WC.seq ?_
 refine WC.seq ?_
 refine WC.region ?_
 refine seg 2 [] [0, 1, 9, 10] [(0, (.slice A_p0 p0.length c_p0)), (1, (iv p1)), (9, (.slice A_p0 p0.length c_p0)), (10, (iv p1))] [] (fun fb => by kernel_rfl) rfl trivial ?_
 obtain ⟨t2199, ht2200, hf⟩ := bind_some hf
 refine WL.call (some 11) 70 #[(.slice A_p0 p0.length c_p0), (iv p1)] (fun fb => by kernel_rfl) (square_check_calls _ p0 p1 A_p0 c_p0 t2199 _ (hS.rd 0) ht2200) (fun v w2201 hR2202 => ?_)
 obtain ⟨rfl, hk_⟩ := hR2202
 have hS2203 := hS.keepN hk_
 refine ⟨trivial, ?_⟩
 refine seg 4 [] [0, 1, 6] [(0, (.slice A_p0 p0.length c_p0)), (1, (iv p1)), (6, (iv t2199))] [] (fun fb => by kernel_rfl) rfl trivial ?_
 refine WL.done rfl ?_
 refine WX.next ?_
 refine WC.seq ?_
 refine WC.region ?_
 refine seg 2 [] [0, 1, 6, 13] [(0, (.slice A_p0 p0.length c_p0)), (1, (iv p1)), (6, (iv t2199)), (13, (.bool (t2199 != 0)))] [] (fun fb => by kernel_rfl) rfl trivial ?_
 refine WL.done rfl ?_
 refine WX.next ?_
 rcases br_some hf with ⟨h2204, hf⟩ | ⟨h2204, hf⟩
 ·refine WC.condT2 (fun fb => by kernel_rfl) h2204 ?_
  refine WC.seq ?_
  refine WC.region ?_
  refine seg 3 [] [4, 5] [(4, (iv 0)), (5, (iv t2199))] [] (fun fb => by kernel_rfl) rfl trivial ?_
  refine WL.done rfl ?_
  refine WX.next ?_
  refine WC.ret ?_
  injection hf with hf
  subst hf
  exact WX.thenR (WX.ret_ [] (.tuple #[(iv 0), (iv t2199)]) [] (fun fb => by kernel_rfl) trivial ⟨_, rfl, rfl, hS2203.keep⟩)
 refine WC.condF2 (fun fb => by kernel_rfl) h2204 ?_
 refine WC.skip ?_
 refine WX.next ?_
 refine WC.seq ?_
 refine WC.region ?_
 refine WL.new hS2203 7 [] (fun g => (.pointer (some ⟨g, 0, none⟩))) (.cells #[(iv 0)] 3 (0, 0)) [] (fun fb g => by kernel_rfl) trivial (fun g2205 w2206 hS2207 => ?_)
 refine ⟨trivial, ?_⟩
 refine WL.store hS2207 0 rfl [(0, (iv 0))] #[(iv 0)] (fun fb => by kernel_rfl) (by kernel_rfl) rfl [] (by decide) (by decide) (fun w2209 hS2210 => ?_)
 refine ⟨trivial, ?_⟩
 refine WL.done rfl ?_
 refine WX.next ?_
 refine WC.seq ?_
 refine WC.seq ?_
 refine WC.region ?_
 refine seg 2 [] [1, 7, 15, 16] [(1, (iv p1)), (7, (pt g2205)), (15, (.slice A_p0 p0.length c_p0)), (16, (iv p1))] [] (fun fb => by kernel_rfl) rfl trivial ?_
 obtain ⟨t2219, ht2220, hf⟩ := bind_some hf
 refine WL.call (some 17) 72 #[(.slice A_p0 p0.length c_p0), (iv p1)] (fun fb => by kernel_rfl) (square_filled_calls p0 p1 A_p0 c_p0 t2219 _ (hS2210.rd 0) ht2220) (fun v w2221 hR2222 => ?_)
 obtain ⟨g2224, g2225, rfl, hk_⟩ := hR2222
 have hS2223 : St NoS w w2221 [rowR enc_Tile A_p0 c_p0 p0] [blk g2224 (.cells #[(iv p1)] 3 (0, 0)), blk g2225 (.cells #[(.slice A_p0 p0.length c_p0)] 22 (0, 0)), blk g2205 (.cells #[(iv 0)] 3 (0, 0))] := hS2210.call hk_ [] [0] (fun g hg => hg.elim) (by simp) (by decide)
 refine ⟨trivial, ?_⟩
 refine WL.done rfl ?_
 refine WX.next ?_
 refine WC.block ?_
 refine WC.rangeO hS2223 (fun _ _ h => h) rfl (gf := 88) (lb := [(pt g2224), (pt g2225)]) (fun fb => by kernel_rfl) (fun _ => by kernel_rfl) (fun LO2234 LB2235 LX2236 l2237 D2238 w2239 hK2240 hS2241 => ?_)
 have hS2244 : St NoS w w2239 [rowR enc_Tile A_p0 c_p0 p0] [(fun (s_ : Int × Int) (t_ : Unit) => sepO (blk l2237 (LO2234 (pendN [] s_.2)) :: [blk g2205 (.cells #[(iv s_.1)] 3 (0, 0))])) (0, (0 : Int)) (), blk D2238 (.deferred (some [])), blk g2224 (.cells #[(iv p1)] 3 (0, 0)), blk g2225 (.cells #[(.slice A_p0 p0.length c_p0)] 22 (0, 0))] := hS2241.pack [0, 4] [1, 2, 3] (by decide) (by decide) (by decide)
 have hY2246 : ∀ (x0_ : Int) (s_ : Int × Int) (t_ : Unit) (r_ : (Int × Int) × Bool) (w_ : World), RO (fpL [(fun (s_ : Int × Int) (t_ : Unit) => sepO (blk l2237 (LO2234 (pendN [] s_.2)) :: [blk g2205 (.cells #[(iv s_.1)] 3 (0, 0))])) s_ t_]) w_ (poolO [rowR enc_Tile A_p0 c_p0 p0]) → IoOK w_ [(fun (s_ : Int × Int) (t_ : Unit) => sepO (blk l2237 (LO2234 (pendN [] s_.2)) :: [blk g2205 (.cells #[(iv s_.1)] 3 (0, 0))])) s_ t_] → square_Largest.b1 k  x0_ s_ = some r_ → YieldR Tryd.prog (.func (.yield l2237) #[] #[]) #[(iv x0_)] w_ (fun v_ w' => ∃ t1_, v_ = .bool r_.2 ∧ St (fpL [(fun (s_ : Int × Int) (t_ : Unit) => sepO (blk l2237 (LO2234 (pendN [] s_.2)) :: [blk g2205 (.cells #[(iv s_.1)] 3 (0, 0))])) s_ t_]) w_ w' [] [(fun (s_ : Int × Int) (t_ : Unit) => sepO (blk l2237 (LO2234 (pendN [] s_.2)) :: [blk g2205 (.cells #[(iv s_.1)] 3 (0, 0))])) r_.1 t1_]) := by
  rintro x2245 ⟨x2233, j2247⟩ ⟨⟩ r2248 w2249 hRd2250 hI2251 hf2252
  rw [square_Largest.b1] at hf2252
  obtain ⟨hj2254, hf2252⟩ := as_some hf2252
  subst hj2254
  have hRo2255 := hRd2250.openSep
  have hS2253 : St (fpL [blk l2237 (LO2234 none), blk g2205 (.cells #[(iv x2233)] 3 (0, 0))]) w2249 w2249 [rowR enc_Tile A_p0 c_p0 p0] [blk l2237 (LO2234 none), blk g2205 (.cells #[(iv x2233)] 3 (0, 0))] := St.initIO (ro_cons (poolO.ro hRo2255 0) (ro_nil _ _)) hI2251.openSep
  refine YieldR.of_loop hK2240 (hS2253.blkAt 0 rfl) [(iv x2245)] [1, 7] [(1, (iv p1)), (7, (pt g2205))] [(18, (iv x2245)), (1, (iv p1)), (7, (pt g2205))] rfl rfl rfl rfl rfl ?_
  refine WC.region ?_
  refine seg 1 [] [1, 7, 8] [(1, (iv p1)), (7, (pt g2205)), (8, (iv x2245))] [] (fun fb => by kernel_rfl) rfl trivial ?_
  refine WL.done rfl ?_
  refine WX.begin' hK2240 (hS2253.blkAt 0 rfl) ?_
  have hS2256 := hS2253.putO 0 rfl LB2235 [1] (by decide) (by decide)
  revert hS2256
  generalize World.putObj _ _ _ = w2257
  intro hS2256
  have hS2258 : St (fpL [blk l2237 (LO2234 none), blk g2205 (.cells #[(iv x2233)] 3 (0, 0))]) w2249 w2257 [rowR enc_Tile A_p0 c_p0 p0] [blk l2237 LB2235, blk g2205 (.cells #[(iv x2233)] 3 (0, 0))] := hS2256
  refine WC.block ?_
  refine WC.region ?_
  refine seg 1 [] [1, 7, 19] [(1, (iv p1)), (7, (pt g2205)), (19, (iv x2245))] [] (fun fb => by kernel_rfl) rfl trivial ?_
  refine WL.store hS2258 1 rfl [(0, (iv x2245))] #[(iv x2245)] (fun fb => by kernel_rfl) (by kernel_rfl) rfl [0] (by decide) (by decide) (fun w2259 hS2260 => ?_)
  refine ⟨trivial, ?_⟩
  refine WL.done rfl ?_
  injection hf2252 with hf2252
  subst hf2252
  exact WX.blockN (WX.roundN' hK2240 (hS2260.blkAt 1 rfl) ⟨(), rfl, ((hS2260.putO 1 rfl (LO2234 none) [0] (by decide) (by decide)).sub [0, 1] (by decide)).noR.closeSep⟩)
 obtain ⟨t7893, ht7894, hf⟩ := bind_some hf
 refine (square_filled_1_y_calls _ p1 p0 (square_Largest.b1 k ) (0, (0 : Int)) g2224 g2225 A_p0 c_p0 (.func (.yield l2237) #[] #[]) (fun (s_ : Int × Int) (t_ : Unit) => sepO (blk l2237 (LO2234 (pendN [] s_.2)) :: [blk g2205 (.cells #[(iv s_.1)] 3 (0, 0))])) () (poolO [rowR enc_Tile A_p0 c_p0 p0]) t7893 _ (hS2244.rdP [0]) (hS2244.owT [0] 2 (by decide)) (hS2244.owT [0] 3 (by decide)) (hS2244.rdT [0] 0) (hS2244.io [0] (by decide)) hY2246 ht7894).post (fun v w7895 hR7896 => ?_)
 obtain ⟨tt7898, rfl, hk_⟩ := hR7896
 have hS7897 : St NoS w w7895 [rowR enc_Tile A_p0 c_p0 p0] [(fun (s_ : Int × Int) (t_ : Unit) => sepO (blk l2237 (LO2234 (pendN [] s_.2)) :: [blk g2205 (.cells #[(iv s_.1)] 3 (0, 0))])) t7893 tt7898, blk D2238 (.deferred (some [])), blk g2224 (.cells #[(iv p1)] 3 (0, 0)), blk g2225 (.cells #[(.slice A_p0 p0.length c_p0)] 22 (0, 0))] := hS2244.call hk_ [0] [1, 2, 3] (fun g hg => fpL_sel g hg) (by decide) (by decide)
 have hS7899 : St NoS w w7895 [rowR enc_Tile A_p0 c_p0 p0] [blk l2237 (LO2234 (pendN [] t7893.2)), blk g2205 (.cells #[(iv t7893.1)] 3 (0, 0)), blk D2238 (.deferred (some [])), blk g2224 (.cells #[(iv p1)] 3 (0, 0)), blk g2225 (.cells #[(.slice A_p0 p0.length c_p0)] 22 (0, 0))] := hS7897.unpack 0 rfl [1, 2, 3] (by decide) (by decide)
 refine ⟨_, hS7899.blkAt 0 rfl, ?_⟩
 have hS7900 := (hS7899.putO 0 rfl (LX2236 (pendN [] t7893.2)) [1, 2, 3, 4] (by decide) (by decide)).tail
 revert hS7900
 generalize World.putObj _ _ _ = w7901
 intro hS7900
 have hS7902 : St NoS w w7901 [rowR enc_Tile A_p0 c_p0 p0] [blk g2205 (.cells #[(iv t7893.1)] 3 (0, 0)), blk D2238 (.deferred (some [])), blk g2224 (.cells #[(iv p1)] 3 (0, 0)), blk g2225 (.cells #[(.slice A_p0 p0.length c_p0)] 22 (0, 0))] := hS7900
 obtain ⟨h7903, hf⟩ := as_some hf
 rw [h7903]
 refine WX.keep [1, 7, 4294967295] [(1, (iv p1)), (7, (pt g2205)), (4294967295, (.func (.yield D2238) #[] #[]))] rfl ?_
 refine WX.blockN (WX.next ?_)
 refine WC.seq ?_
 refine WC.seq ?_
 refine WC.region ?_
 refine seg 3 [.v (iv t7893.1)] [7, 22, 4294967295] [(7, (pt g2205)), (22, (.bool (t7893.1 == p1))), (4294967295, (.func (.yield D2238) #[] #[]))] [.cell ⟨g2205, 0, none⟩ (iv t7893.1)] (fun fb => by kernel_rfl) rfl ⟨hS7902.cell 0 rfl 0 rfl, trivial⟩ ?_
 refine WL.done rfl ?_
 refine WX.next ?_
 rcases br_some hf with ⟨h7904, hf⟩ | ⟨h7904, hf⟩
 ·refine WC.condT2 (fun fb => by kernel_rfl) h7904 ?_
  refine WC.seq ?_
  refine WC.region ?_
  refine seg 2 [] [4, 5, 4294967295] [(4, (iv 0)), (5, (iv 6)), (4294967295, (.func (.yield D2238) #[] #[]))] [] (fun fb => by kernel_rfl) rfl trivial ?_
  refine WL.done rfl ?_
  refine WX.next ?_
  refine WC.ret ?_
  injection hf with hf
  subst hf
  exact WX.thenR (WX.retM hS7902 1 rfl rfl [0, 2, 3] (by decide) (by decide) [] (.tuple #[(iv 0), (iv 6)]) [] (fun fb => by kernel_rfl) (fun w7906 hS7905 => ⟨trivial, ⟨rfl, hS7905.keep⟩⟩))
 refine WC.condF2 (fun fb => by kernel_rfl) h7904 ?_
 refine WC.skip ?_
 refine WX.next ?_
 refine WC.seq ?_
 refine WC.region ?_
 refine seg 3 [.v (iv t7893.1)] [4, 5, 4294967295] [(4, (iv t7893.1)), (5, (iv 0)), (4294967295, (.func (.yield D2238) #[] #[]))] [.cell ⟨g2205, 0, none⟩ (iv t7893.1)] (fun fb => by kernel_rfl) rfl ⟨hS7902.cell 0 rfl 0 rfl, trivial⟩ ?_
 refine WL.done rfl ?_
 refine WX.next ?_
 refine WC.ret ?_
 injection hf with hf
 subst hf
 exact WX.retM hS7902 1 rfl rfl [0, 2, 3] (by decide) (by decide) [] (.tuple #[(iv t7893.1), (iv 0)]) [] (fun fb => by kernel_rfl) (fun w7908 hS7907 => ⟨trivial, ⟨rfl, hS7907.keep⟩⟩)
theorem square_Exists_calls (k : Nat) (p0 : List Tile) (p1 : Int) (A_p0 : Option Addr) (c_p0 : Nat) (r : Bool × Int) (w : World) (hR0 : RO NoS w (rowR enc_Tile A_p0 c_p0 p0)) (hf : square_Exists k p0 p1 = some r) :
  CallsR Tryd.prog 44 #[(.slice A_p0 p0.length c_p0), (iv p1)] w (fun v w' => v = (.tuple #[(.bool r.1), (iv r.2)]) ∧ Keeps NoS w w') := by
 have hS : St NoS w w [rowR enc_Tile A_p0 c_p0 p0] [] := St.init (ro_cons hR0 (ro_nil _ _))
 refine enter 16 Tryd.func44 rfl Tryd.ntmps44 rfl ?_
 unfold square_Exists at hf
 refine WC.seq ?_
 refine WC.region ?_
 refine seg 2 [] [0, 1] [(0, (.slice A_p0 p0.length c_p0)), (1, (iv p1))] [] (fun fb => by kernel_rfl) rfl trivial ?_
 refine WL.done rfl ?_
 refine WX.next ?_
 refine WC.seq ?_
 refine WC.seq ?_
 refine WC.region ?_
 refine seg 2 [] [0, 1, 7, 8] [(0, (.slice A_p0 p0.length c_p0)), (1, (iv p1)), (7, (.slice A_p0 p0.length c_p0)), (8, (iv p1))] [] (fun fb => by kernel_rfl) rfl trivial ?_
 obtain ⟨t7919, ht7920, hf⟩ := bind_some hf
 refine WL.call (some 9) 70 #[(.slice A_p0 p0.length c_p0), (iv p1)] (fun fb => by kernel_rfl) (square_check_calls _ p0 p1 A_p0 c_p0 t7919 _ (hS.rd 0) ht7920) (fun v w7921 hR7922 => ?_)
 obtain ⟨rfl, hk_⟩ := hR7922
 have hS7923 := hS.keepN hk_
 refine ⟨trivial, ?_⟩
 refine seg 4 [] [0, 1, 6] [(0, (.slice A_p0 p0.length c_p0)), (1, (iv p1)), (6, (iv t7919))] [] (fun fb => by kernel_rfl) rfl trivial ?_
 refine WL.done rfl ?_
 refine WX.next ?_
 refine WC.seq ?_
 refine WC.region ?_
 refine seg 2 [] [0, 1, 6, 11] [(0, (.slice A_p0 p0.length c_p0)), (1, (iv p1)), (6, (iv t7919)), (11, (.bool (t7919 != 0)))] [] (fun fb => by kernel_rfl) rfl trivial ?_
 refine WL.done rfl ?_
 refine WX.next ?_
 rcases br_some hf with ⟨h7924, hf⟩ | ⟨h7924, hf⟩
 ·refine WC.condT2 (fun fb => by kernel_rfl) h7924 ?_
  refine WC.seq ?_
  refine WC.region ?_
  refine seg 3 [] [4, 5] [(4, (.bool false)), (5, (iv t7919))] [] (fun fb => by kernel_rfl) rfl trivial ?_
  refine WL.done rfl ?_
  refine WX.next ?_
  refine WC.ret ?_
  injection hf with hf
  subst hf
  exact WX.thenR (WX.ret_ [] (.tuple #[(.bool false), (iv t7919)]) [] (fun fb => by kernel_rfl) trivial ⟨_, rfl, rfl, hS7923.keep⟩)
 refine WC.condF2 (fun fb => by kernel_rfl) h7924 ?_
 refine WC.skip ?_
 refine WX.next ?_
 refine WC.seq ?_
 refine WC.region ?_
 refine seg 2 [] [13, 14] [(13, (.slice A_p0 p0.length c_p0)), (14, (iv p1))] [] (fun fb => by kernel_rfl) rfl trivial ?_
 obtain ⟨t7925, ht7926, hf⟩ := bind_some hf
 refine WL.call (some 15) 71 #[(.slice A_p0 p0.length c_p0), (iv p1)] (fun fb => by kernel_rfl) (square_exists_calls _ p0 p1 A_p0 c_p0 t7925 _ (hS7923.rd 0) ht7926) (fun v w7927 hR7928 => ?_)
 obtain ⟨rfl, hk_⟩ := hR7928
 have hS7929 := hS7923.keepN hk_
 refine ⟨trivial, ?_⟩
 refine seg 5 [] [4, 5] [(4, (.bool t7925)), (5, (iv 0))] [] (fun fb => by kernel_rfl) rfl trivial ?_
 refine WL.done rfl ?_
 refine WX.next ?_
 refine WC.ret ?_
 injection hf with hf
 subst hf
 exact WX.ret_ [] (.tuple #[(.bool t7925), (iv 0)]) [] (fun fb => by kernel_rfl) trivial ⟨_, rfl, rfl, hS7929.keep⟩
end Gp
