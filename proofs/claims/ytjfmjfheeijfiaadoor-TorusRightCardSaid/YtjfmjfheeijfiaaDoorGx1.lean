/- Walks: each function of the program computes its plain function. -/
import Derived.Test.YtjfmjfheeijfiaaDoorGx0
set_option linter.unusedVariables false
set_option linter.unusedSimpArgs false
set_option maxHeartbeats 4000000
namespace Gp
open Go Gw Go.Proofs
theorem torus_back_key83 : KeyK Tryd.prog 83 (aggI ints_A8_Int) := KeyK.array (n := 8) (by kernel_rfl) ints_A8_Int (fun _ => rfl) (fun x y h => by cases x; cases y; simp only [ints_A8_Int, List.cons.injEq, and_true] at h; obtain ⟨rfl, rfl, rfl, rfl, rfl, rfl, rfl, rfl⟩ := h; rfl)
theorem torus_back_calls (k : Nat) (p0 : List Row) (p1 : A8_Int) (p2 : Int) (A_p0 : Option Addr) (c_p0 : Nat) (H_p0 : Nat → HF) (r : (List (Option (List (A8_Int × Bool))))) (w : World) (hR0 : RO NoS w (rowR encN_Row A_p0 c_p0 (tag H_p0 p0))) (hR1 : RO NoS w (nestO subN_Row H_p0 p0)) (hf : torus_back k p0 p1 p2 = some r) :
  CallsR Tryd.prog 82 #[(.slice A_p0 p0.length c_p0), (.agg #[(iv p1.e0), (iv p1.e1), (iv p1.e2), (iv p1.e3), (iv p1.e4), (iv p1.e5), (iv p1.e6), (iv p1.e7)]), (iv p2)] w (fun v w' => ∃ (A1_ : Option Addr), ∃ (c1_ : Nat), ∃ (m1_ : Nat → Nat), v = (.slice A1_ r.length c1_) ∧ St NoS w w' [] [rowO 91 (encMap A8_Int Bool) A1_ c1_ (tag m1_ r), mapsO (aggI ints_A8_Int) vB m1_ r]) := by
 have hS : St NoS w w [rowR encN_Row A_p0 c_p0 (tag H_p0 p0), nestO subN_Row H_p0 p0] [] := St.init (ro_cons hR0 (ro_cons hR1 (ro_nil _ _)))
 refine enter 46 Tryd.func82 rfl Tryd.ntmps82 rfl ?_
 unfold torus_back at hf
 refine WC.seq ?_
 refine WC.region ?_
 refine WL.new hS 4 [] (fun g => (.pointer (some ⟨g, 0, none⟩))) (.cells #[(iv p1.e0), (iv p1.e1), (iv p1.e2), (iv p1.e3), (iv p1.e4), (iv p1.e5), (iv p1.e6), (iv p1.e7)] 83 (0, 0)) [] (fun fb g => by kernel_rfl) trivial (fun g2800 w2801 hS2802 => ?_)
 refine ⟨trivial, ?_⟩
 refine seg 2 [] [0, 2, 4] [(0, (.slice A_p0 p0.length c_p0)), (2, (iv p2)), (4, (pt g2800))] [] (fun fb => by kernel_rfl) rfl trivial ?_
 refine WL.done rfl ?_
 refine WX.next ?_
 refine WC.seq ?_
 refine WC.region ?_
 refine WL.new hS2802 12 [] (fun g => (.map (some g))) (mapObj (aggI ints_A8_Int) vB ([] : List (A8_Int × Bool))) [] (fun fb g => by kernel_rfl) trivial (fun g2804 w2805 hS2806 => ?_)
 refine ⟨trivial, ?_⟩
 refine seg 2 [.v (iv p1.e0), .v (iv p1.e1), .v (iv p1.e2), .v (iv p1.e3), .v (iv p1.e4), .v (iv p1.e5), .v (iv p1.e6), .v (iv p1.e7)] [0, 2, 12, 13] [(0, (.slice A_p0 p0.length c_p0)), (2, (iv p2)), (12, (.map (some g2804))), (13, (.agg #[(iv p1.e0), (iv p1.e1), (iv p1.e2), (iv p1.e3), (iv p1.e4), (iv p1.e5), (iv p1.e6), (iv p1.e7)]))] [.cell ⟨g2800, 0, none⟩ (iv p1.e0), .cell ⟨g2800, 1, none⟩ (iv p1.e1), .cell ⟨g2800, 2, none⟩ (iv p1.e2), .cell ⟨g2800, 3, none⟩ (iv p1.e3), .cell ⟨g2800, 4, none⟩ (iv p1.e4), .cell ⟨g2800, 5, none⟩ (iv p1.e5), .cell ⟨g2800, 6, none⟩ (iv p1.e6), .cell ⟨g2800, 7, none⟩ (iv p1.e7)] (fun fb => by kernel_rfl) rfl ⟨hS2806.cell 1 rfl 0 rfl, hS2806.cell 1 rfl 1 rfl, hS2806.cell 1 rfl 2 rfl, hS2806.cell 1 rfl 3 rfl, hS2806.cell 1 rfl 4 rfl, hS2806.cell 1 rfl 5 rfl, hS2806.cell 1 rfl 6 rfl, hS2806.cell 1 rfl 7 rfl, trivial⟩ ?_
 refine WL.mapput hS2806 0 (t := 91) (kT := 83) (eT := 4) (kE := (aggI ints_A8_Int)) (vE := vB) (l := ([] : List (A8_Int × Bool))) rfl p1 true (fun fb => by kernel_rfl) torus_back_key83 (by kernel_rfl) [1] (by decide) (by decide) (fun w2807 hS2808 => ?_)
 refine ⟨trivial, ?_⟩
 refine seg 4 [] [0, 2, 14] [(0, (.slice A_p0 p0.length c_p0)), (2, (iv p2)), (14, (.map (some g2804)))] [] (fun fb => by kernel_rfl) rfl trivial ?_
 refine WL.new hS2808 15 [] (fun g => (.slice (some ⟨g, 0, none⟩) 1 1)) (.cells #[(.map (some g2804))] 91 (0, 0)) [] (fun fb g => by kernel_rfl) trivial (fun g2809 w2810 hS2811 => ?_)
 refine ⟨trivial, ?_⟩
 have hS2813 : St NoS w w2810 [rowR encN_Row A_p0 c_p0 (tag H_p0 p0), nestO subN_Row H_p0 p0] [rowO 91 (encMap A8_Int Bool) (some ⟨g2809, 0, none⟩) 1 (tag (fun _ => g2804) [some (mput p1 true ([] : List (A8_Int × Bool)))]), blk g2804 (mapObj (aggI ints_A8_Int) vB (mput p1 true ([] : List (A8_Int × Bool)))), blk g2800 (.cells #[(iv p1.e0), (iv p1.e1), (iv p1.e2), (iv p1.e3), (iv p1.e4), (iv p1.e5), (iv p1.e6), (iv p1.e7)] 83 (0, 0))] := hS2811.map1 0 _ (fun h => rowO.ofBlk h rfl (Nat.le_of_ble_eq_true (by kernel_rfl))) (fun _ h => by obtain ⟨_, h1, h2⟩ := h; injection h1 with h1; subst h1; exact h2) [1, 2] (by decide) (by decide)
 have hS2814 : St NoS w w2810 [rowR encN_Row A_p0 c_p0 (tag H_p0 p0), nestO subN_Row H_p0 p0] [mapsO (aggI ints_A8_Int) vB (fun _ => g2804) [some (mput p1 true ([] : List (A8_Int × Bool)))], rowO 91 (encMap A8_Int Bool) (some ⟨g2809, 0, none⟩) 1 (tag (fun _ => g2804) [some (mput p1 true ([] : List (A8_Int × Bool)))]), blk g2800 (.cells #[(iv p1.e0), (iv p1.e1), (iv p1.e2), (iv p1.e3), (iv p1.e4), (iv p1.e5), (iv p1.e6), (iv p1.e7)] 83 (0, 0))] := hS2813.mapsOne 1 rfl [0, 2] (by decide) (by decide)
 refine seg 6 [] [0, 2, 7] [(0, (.slice A_p0 p0.length c_p0)), (2, (iv p2)), (7, (.slice (some ⟨g2809, 0, none⟩) [some (mput p1 true ([] : List (A8_Int × Bool)))].length 1))] [] (fun fb => by kernel_rfl) rfl trivial ?_
 refine WL.done rfl ?_
 refine WX.next ?_
 refine WC.seq ?_
 refine WC.seq ?_
 refine WC.region ?_
 refine seg 2 [] [0, 7, 16, 17] [(0, (.slice A_p0 p0.length c_p0)), (7, (.slice (some ⟨g2809, 0, none⟩) [some (mput p1 true ([] : List (A8_Int × Bool)))].length 1)), (16, (iv p2)), (17, (iv 0))] [] (fun fb => by kernel_rfl) rfl trivial ?_
 refine WL.done rfl ?_
 refine WX.next ?_
 obtain ⟨x3023, hx3024, hf⟩ := bind_some hf
 refine WC.cutN (T := (List (Option (List (A8_Int × Bool)))) × (Option Addr) × Nat × (Nat → Nat)) (fun t => [(7, (.slice t.2.1 t.1.length t.2.2.1))]) (fun t w1 => St NoS w w1 [rowR encN_Row A_p0 c_p0 (tag H_p0 p0), nestO subN_Row H_p0 p0] [rowO 91 (encMap A8_Int Bool) t.2.1 t.2.2.1 (tag t.2.2.2 t.1), mapsO (aggI ints_A8_Int) vB t.2.2.2 t.1] ∧ x3023 = t.1) (fun Kx3023 => ?_) ?_
 ·
  refine WC.block ?_
  refine WC.loop (T := ((List (Option (List (A8_Int × Bool)))) × Int) × (Option Addr) × Nat × (Nat → Nat)) (fun t => [(0, (.slice A_p0 p0.length c_p0)), (7, (.slice t.2.1 t.1.1.length t.2.2.1)), (16, (iv p2)), (17, (iv t.1.2))]) (fun n t w1 => St NoS w w1 [rowR encN_Row A_p0 c_p0 (tag H_p0 p0), nestO subN_Row H_p0 p0] [rowO 91 (encMap A8_Int Bool) t.2.1 t.2.2.1 (tag t.2.2.2 t.1.1), mapsO (aggI ints_A8_Int) vB t.2.2.2 t.1.1] ∧ torus_back.l0 n t.1.1 t.1.2 p0 p2 = some x3023) k (([some (mput p1 true ([] : List (A8_Int × Bool)))], 0), (some ⟨g2809, 0, none⟩), 1, (fun _ => g2804)) [0, 7, 16, 17] rfl ⟨(hS2814.subR [0, 1]).sub [1, 0] (by decide), hx3024⟩ ?_
  rintro k3025 ⟨⟨l3016, x3018⟩, A3014, c3015, H3017⟩ w3026 ⟨hS3027, hl3028⟩
  cases k3025 with
  | zero => rw [torus_back.l0] at hl3028; cases hl3028
  | succ k3025 =>
   rw [torus_back.l0] at hl3028
   refine WC.seq ?_
   refine WC.region ?_
   refine seg 1 [] [0, 7, 16, 17, 18] [(0, (.slice A_p0 p0.length c_p0)), (7, (.slice A3014 l3016.length c3015)), (16, (iv p2)), (17, (iv x3018)), (18, (.bool (decide (x3018 < p2))))] [] (fun fb => by kernel_rfl) rfl trivial ?_
   refine WL.done rfl ?_
   refine WX.next ?_
   refine WC.seq ?_
   rcases br_some hl3028 with ⟨h3029, hl3028⟩ | ⟨h3029, hl3028⟩
   ·refine WC.condT2 (fun fb => by kernel_rfl) h3029 ?_
    refine WC.skip ?_
    refine WX.next ?_
    refine WC.seq ?_
    refine WC.block ?_
    refine WC.seq ?_
    refine WC.region ?_
    refine seg 4 [] [0, 7, 16, 17, 19, 22] [(0, (.slice A_p0 p0.length c_p0)), (7, (.slice A3014 l3016.length c3015)), (16, (iv p2)), (17, (iv x3018)), (19, (.slice A3014 l3016.length c3015)), (22, (iv (w64 ((l3016.length : Int) - 1))))] [] (fun fb => by kernel_rfl) rfl trivial ?_
    obtain ⟨h3030, hl3028⟩ := as_some hl3028
    refine seg 5 [] [0, 7, 16, 17, 23] [(0, (.slice A_p0 p0.length c_p0)), (7, (.slice A3014 l3016.length c3015)), (16, (iv p2)), (17, (iv x3018)), (23, (.pointer (some ((adr A3014).add ((w64 ((l3016.length : Int) - 1)).toNat * 1)))))] [.idx A3014 (w64 ((l3016.length : Int) - 1)) l3016.length] (fun fb => by kernel_rfl) rfl ⟨nrow_adr (rowO.rd (hS3027.own 0).1) h3030.1 h3030.2, trivial⟩ ?_
    obtain ⟨m3031, hm3032, hl3028⟩ := bind_some hl3028
    refine seg 6 [.v (.map (some (H3017 (w64 ((l3016.length : Int) - 1)).toNat)))] [0, 7, 16, 17, 24] [(0, (.slice A_p0 p0.length c_p0)), (7, (.slice A3014 l3016.length c3015)), (16, (iv p2)), (17, (iv x3018)), (24, (.map (some (H3017 (w64 ((l3016.length : Int) - 1)).toNat))))] [.cell ((adr A3014).add ((w64 ((l3016.length : Int) - 1)).toNat * 1)) (.map (some (H3017 (w64 ((l3016.length : Int) - 1)).toNat)))] (fun fb => by kernel_rfl) rfl ⟨nrow_cell (rowO.rd (hS3027.own 0).1) none h3030.1 h3030.2 0 (mapV_some hm3032), trivial⟩ ?_
    refine WL.new hS3027 25 [] (fun g => (.map (some g))) (mapObj (aggI ints_A8_Int) vB ([] : List (A8_Int × Bool))) [] (fun fb g => by kernel_rfl) trivial (fun g3033 w3034 hS3035 => ?_)
    refine ⟨trivial, ?_⟩
    refine seg 9 [] [0, 7, 8, 9, 16, 17] [(0, (.slice A_p0 p0.length c_p0)), (7, (.slice A3014 l3016.length c3015)), (8, (.map (some (H3017 (w64 ((l3016.length : Int) - 1)).toNat)))), (9, (.map (some g3033))), (16, (iv p2)), (17, (iv x3018))] [] (fun fb => by kernel_rfl) rfl trivial ?_
    refine WL.done rfl ?_
    refine WX.next ?_
    refine WC.seq ?_
    refine WC.seq ?_
    refine WC.region ?_
    refine seg 3 [] [0, 7, 8, 9, 16, 17, 26, 27, 28] [(0, (.slice A_p0 p0.length c_p0)), (7, (.slice A3014 l3016.length c3015)), (8, (.map (some (H3017 (w64 ((l3016.length : Int) - 1)).toNat)))), (9, (.map (some g3033))), (16, (iv p2)), (17, (iv x3018)), (26, (.slice A_p0 p0.length c_p0)), (27, (iv (p0.length : Int))), (28, (iv 0))] [] (fun fb => by kernel_rfl) rfl trivial ?_
    refine WL.done rfl ?_
    refine WX.next ?_
    obtain ⟨x3083, hx3084, hl3028⟩ := bind_some hl3028
    refine WC.cutN (T := (List (A8_Int × Bool))) (fun t => [(0, (.slice A_p0 p0.length c_p0)), (7, (.slice A3014 l3016.length c3015)), (9, (.map (some g3033))), (16, (iv p2)), (17, (iv x3018))]) (fun t w1 => St NoS w w1 [rowR encN_Row A_p0 c_p0 (tag H_p0 p0), nestO subN_Row H_p0 p0] [rowO 91 (encMap A8_Int Bool) A3014 c3015 (tag H3017 l3016), mapsO (aggI ints_A8_Int) vB H3017 l3016, blk g3033 (mapObj (aggI ints_A8_Int) vB t)] ∧ x3083 = t) (fun Kx3083 => ?_) ?_
    ·
     refine WC.block ?_
     refine WC.loop (T := (List (A8_Int × Bool)) × Int) (fun t => [(0, (.slice A_p0 p0.length c_p0)), (7, (.slice A3014 l3016.length c3015)), (8, (.map (some (H3017 (w64 ((l3016.length : Int) - 1)).toNat)))), (9, (.map (some g3033))), (16, (iv p2)), (17, (iv x3018)), (26, (.slice A_p0 p0.length c_p0)), (27, (iv (p0.length : Int))), (28, (iv t.2))]) (fun n t w1 => St NoS w w1 [rowR encN_Row A_p0 c_p0 (tag H_p0 p0), nestO subN_Row H_p0 p0] [rowO 91 (encMap A8_Int Bool) A3014 c3015 (tag H3017 l3016), mapsO (aggI ints_A8_Int) vB H3017 l3016, blk g3033 (mapObj (aggI ints_A8_Int) vB t.1)] ∧ torus_back.l1 n t.1 t.2 p0 m3031 = some x3083) k3025 (([] : List (A8_Int × Bool)), 0) [0, 7, 8, 9, 16, 17, 26, 27, 28] rfl ⟨(hS3035.subR [0, 1]).sub [1, 2, 0] (by decide), hx3084⟩ ?_
     rintro k3085 ⟨l3080, x3081⟩ w3086 ⟨hS3087, hl3088⟩
     cases k3085 with
     | zero => rw [torus_back.l1] at hl3088; cases hl3088
     | succ k3085 =>
      rw [torus_back.l1] at hl3088
      refine WC.seq ?_
      refine WC.region ?_
      refine seg 1 [] [0, 7, 8, 9, 16, 17, 26, 27, 28, 29] [(0, (.slice A_p0 p0.length c_p0)), (7, (.slice A3014 l3016.length c3015)), (8, (.map (some (H3017 (w64 ((l3016.length : Int) - 1)).toNat)))), (9, (.map (some g3033))), (16, (iv p2)), (17, (iv x3018)), (26, (.slice A_p0 p0.length c_p0)), (27, (iv (p0.length : Int))), (28, (iv x3081)), (29, (.bool (decide (x3081 < (p0.length : Int)))))] [] (fun fb => by kernel_rfl) rfl trivial ?_
      refine WL.done rfl ?_
      refine WX.next ?_
      refine WC.seq ?_
      rcases br_some hl3088 with ⟨h3089, hl3088⟩ | ⟨h3089, hl3088⟩
      ·refine WC.condT2 (fun fb => by kernel_rfl) h3089 ?_
       refine WC.skip ?_
       refine WX.next ?_
       refine WC.seq ?_
       refine WC.block ?_
       refine WC.seq ?_
       refine WC.region ?_
       obtain ⟨h3090, hl3088⟩ := as_some hl3088
       refine seg 2 [.v (.slice ((H_p0 x3081.toNat 0).1) ((rdD p0 x3081 z_Row).Cells).length ((H_p0 x3081.toNat 0).2)), .v (iv (((rdD p0 x3081 z_Row).South).e0)), .v (iv (((rdD p0 x3081 z_Row).South).e1)), .v (iv (((rdD p0 x3081 z_Row).South).e2)), .v (iv (((rdD p0 x3081 z_Row).South).e3)), .v (iv (((rdD p0 x3081 z_Row).South).e4)), .v (iv (((rdD p0 x3081 z_Row).South).e5)), .v (iv (((rdD p0 x3081 z_Row).South).e6)), .v (iv (((rdD p0 x3081 z_Row).South).e7)), .v (iv (((rdD p0 x3081 z_Row).North).e0)), .v (iv (((rdD p0 x3081 z_Row).North).e1)), .v (iv (((rdD p0 x3081 z_Row).North).e2)), .v (iv (((rdD p0 x3081 z_Row).North).e3)), .v (iv (((rdD p0 x3081 z_Row).North).e4)), .v (iv (((rdD p0 x3081 z_Row).North).e5)), .v (iv (((rdD p0 x3081 z_Row).North).e6)), .v (iv (((rdD p0 x3081 z_Row).North).e7)), .v (iv ((rdD p0 x3081 z_Row).West)), .v (iv ((rdD p0 x3081 z_Row).East))] [0, 7, 8, 9, 16, 17, 26, 27, 28, 31] [(0, (.slice A_p0 p0.length c_p0)), (7, (.slice A3014 l3016.length c3015)), (8, (.map (some (H3017 (w64 ((l3016.length : Int) - 1)).toNat)))), (9, (.map (some g3033))), (16, (iv p2)), (17, (iv x3018)), (26, (.slice A_p0 p0.length c_p0)), (27, (iv (p0.length : Int))), (28, (iv x3081)), (31, (.agg #[(.slice ((H_p0 x3081.toNat 0).1) ((rdD p0 x3081 z_Row).Cells).length ((H_p0 x3081.toNat 0).2)), (iv (((rdD p0 x3081 z_Row).South).e0)), (iv (((rdD p0 x3081 z_Row).South).e1)), (iv (((rdD p0 x3081 z_Row).South).e2)), (iv (((rdD p0 x3081 z_Row).South).e3)), (iv (((rdD p0 x3081 z_Row).South).e4)), (iv (((rdD p0 x3081 z_Row).South).e5)), (iv (((rdD p0 x3081 z_Row).South).e6)), (iv (((rdD p0 x3081 z_Row).South).e7)), (iv (((rdD p0 x3081 z_Row).North).e0)), (iv (((rdD p0 x3081 z_Row).North).e1)), (iv (((rdD p0 x3081 z_Row).North).e2)), (iv (((rdD p0 x3081 z_Row).North).e3)), (iv (((rdD p0 x3081 z_Row).North).e4)), (iv (((rdD p0 x3081 z_Row).North).e5)), (iv (((rdD p0 x3081 z_Row).North).e6)), (iv (((rdD p0 x3081 z_Row).North).e7)), (iv ((rdD p0 x3081 z_Row).West)), (iv ((rdD p0 x3081 z_Row).East))]))] [.idx A_p0 x3081 p0.length, .cell ((adr A_p0).add ((x3081).toNat * 19)) (.slice ((H_p0 x3081.toNat 0).1) ((rdD p0 x3081 z_Row).Cells).length ((H_p0 x3081.toNat 0).2)), .cell (((adr A_p0).add ((x3081).toNat * 19)).add 1) (iv (((rdD p0 x3081 z_Row).South).e0)), .cell (((adr A_p0).add ((x3081).toNat * 19)).add 2) (iv (((rdD p0 x3081 z_Row).South).e1)), .cell (((adr A_p0).add ((x3081).toNat * 19)).add 3) (iv (((rdD p0 x3081 z_Row).South).e2)), .cell (((adr A_p0).add ((x3081).toNat * 19)).add 4) (iv (((rdD p0 x3081 z_Row).South).e3)), .cell (((adr A_p0).add ((x3081).toNat * 19)).add 5) (iv (((rdD p0 x3081 z_Row).South).e4)), .cell (((adr A_p0).add ((x3081).toNat * 19)).add 6) (iv (((rdD p0 x3081 z_Row).South).e5)), .cell (((adr A_p0).add ((x3081).toNat * 19)).add 7) (iv (((rdD p0 x3081 z_Row).South).e6)), .cell (((adr A_p0).add ((x3081).toNat * 19)).add 8) (iv (((rdD p0 x3081 z_Row).South).e7)), .cell (((adr A_p0).add ((x3081).toNat * 19)).add 9) (iv (((rdD p0 x3081 z_Row).North).e0)), .cell (((adr A_p0).add ((x3081).toNat * 19)).add 10) (iv (((rdD p0 x3081 z_Row).North).e1)), .cell (((adr A_p0).add ((x3081).toNat * 19)).add 11) (iv (((rdD p0 x3081 z_Row).North).e2)), .cell (((adr A_p0).add ((x3081).toNat * 19)).add 12) (iv (((rdD p0 x3081 z_Row).North).e3)), .cell (((adr A_p0).add ((x3081).toNat * 19)).add 13) (iv (((rdD p0 x3081 z_Row).North).e4)), .cell (((adr A_p0).add ((x3081).toNat * 19)).add 14) (iv (((rdD p0 x3081 z_Row).North).e5)), .cell (((adr A_p0).add ((x3081).toNat * 19)).add 15) (iv (((rdD p0 x3081 z_Row).North).e6)), .cell (((adr A_p0).add ((x3081).toNat * 19)).add 16) (iv (((rdD p0 x3081 z_Row).North).e7)), .cell (((adr A_p0).add ((x3081).toNat * 19)).add 17) (iv ((rdD p0 x3081 z_Row).West)), .cell (((adr A_p0).add ((x3081).toNat * 19)).add 18) (iv ((rdD p0 x3081 z_Row).East))] (fun fb => by kernel_rfl) rfl ⟨nrow_adr (hS3087.rd 0).1 h3090.1 h3090.2, nrow_cell (hS3087.rd 0).1 z_Row h3090.1 h3090.2 0 rfl, nrow_cell (hS3087.rd 0).1 z_Row h3090.1 h3090.2 1 rfl, nrow_cell (hS3087.rd 0).1 z_Row h3090.1 h3090.2 2 rfl, nrow_cell (hS3087.rd 0).1 z_Row h3090.1 h3090.2 3 rfl, nrow_cell (hS3087.rd 0).1 z_Row h3090.1 h3090.2 4 rfl, nrow_cell (hS3087.rd 0).1 z_Row h3090.1 h3090.2 5 rfl, nrow_cell (hS3087.rd 0).1 z_Row h3090.1 h3090.2 6 rfl, nrow_cell (hS3087.rd 0).1 z_Row h3090.1 h3090.2 7 rfl, nrow_cell (hS3087.rd 0).1 z_Row h3090.1 h3090.2 8 rfl, nrow_cell (hS3087.rd 0).1 z_Row h3090.1 h3090.2 9 rfl, nrow_cell (hS3087.rd 0).1 z_Row h3090.1 h3090.2 10 rfl, nrow_cell (hS3087.rd 0).1 z_Row h3090.1 h3090.2 11 rfl, nrow_cell (hS3087.rd 0).1 z_Row h3090.1 h3090.2 12 rfl, nrow_cell (hS3087.rd 0).1 z_Row h3090.1 h3090.2 13 rfl, nrow_cell (hS3087.rd 0).1 z_Row h3090.1 h3090.2 14 rfl, nrow_cell (hS3087.rd 0).1 z_Row h3090.1 h3090.2 15 rfl, nrow_cell (hS3087.rd 0).1 z_Row h3090.1 h3090.2 16 rfl, nrow_cell (hS3087.rd 0).1 z_Row h3090.1 h3090.2 17 rfl, nrow_cell (hS3087.rd 0).1 z_Row h3090.1 h3090.2 18 rfl, trivial⟩ ?_
       refine WL.new hS3087 11 [] (fun g => (.pointer (some ⟨g, 0, none⟩))) (.cells #[(.slice none 0 0), (iv 0), (iv 0), (iv 0), (iv 0), (iv 0), (iv 0), (iv 0), (iv 0), (iv 0), (iv 0), (iv 0), (iv 0), (iv 0), (iv 0), (iv 0), (iv 0), (iv 0), (iv 0)] 85 (0, 0)) [] (fun fb g => by kernel_rfl) trivial (fun g3091 w3092 hS3093 => ?_)
       refine ⟨trivial, ?_⟩
       refine WL.store hS3093 0 rfl [(0, (.slice ((H_p0 x3081.toNat 0).1) ((rdD p0 x3081 z_Row).Cells).length ((H_p0 x3081.toNat 0).2))), (1, (iv (((rdD p0 x3081 z_Row).South).e0))), (2, (iv (((rdD p0 x3081 z_Row).South).e1))), (3, (iv (((rdD p0 x3081 z_Row).South).e2))), (4, (iv (((rdD p0 x3081 z_Row).South).e3))), (5, (iv (((rdD p0 x3081 z_Row).South).e4))), (6, (iv (((rdD p0 x3081 z_Row).South).e5))), (7, (iv (((rdD p0 x3081 z_Row).South).e6))), (8, (iv (((rdD p0 x3081 z_Row).South).e7))), (9, (iv (((rdD p0 x3081 z_Row).North).e0))), (10, (iv (((rdD p0 x3081 z_Row).North).e1))), (11, (iv (((rdD p0 x3081 z_Row).North).e2))), (12, (iv (((rdD p0 x3081 z_Row).North).e3))), (13, (iv (((rdD p0 x3081 z_Row).North).e4))), (14, (iv (((rdD p0 x3081 z_Row).North).e5))), (15, (iv (((rdD p0 x3081 z_Row).North).e6))), (16, (iv (((rdD p0 x3081 z_Row).North).e7))), (17, (iv ((rdD p0 x3081 z_Row).West))), (18, (iv ((rdD p0 x3081 z_Row).East)))] #[(.slice ((H_p0 x3081.toNat 0).1) ((rdD p0 x3081 z_Row).Cells).length ((H_p0 x3081.toNat 0).2)), (iv (((rdD p0 x3081 z_Row).South).e0)), (iv (((rdD p0 x3081 z_Row).South).e1)), (iv (((rdD p0 x3081 z_Row).South).e2)), (iv (((rdD p0 x3081 z_Row).South).e3)), (iv (((rdD p0 x3081 z_Row).South).e4)), (iv (((rdD p0 x3081 z_Row).South).e5)), (iv (((rdD p0 x3081 z_Row).South).e6)), (iv (((rdD p0 x3081 z_Row).South).e7)), (iv (((rdD p0 x3081 z_Row).North).e0)), (iv (((rdD p0 x3081 z_Row).North).e1)), (iv (((rdD p0 x3081 z_Row).North).e2)), (iv (((rdD p0 x3081 z_Row).North).e3)), (iv (((rdD p0 x3081 z_Row).North).e4)), (iv (((rdD p0 x3081 z_Row).North).e5)), (iv (((rdD p0 x3081 z_Row).North).e6)), (iv (((rdD p0 x3081 z_Row).North).e7)), (iv ((rdD p0 x3081 z_Row).West)), (iv ((rdD p0 x3081 z_Row).East))] (fun fb => by kernel_rfl) (by kernel_rfl) (by kernel_rfl) [1, 2, 3] (by decide) (by decide) (fun w3095 hS3096 => ?_)
       refine ⟨trivial, ?_⟩
       refine WL.done rfl ?_
       refine WX.next ?_
       refine WC.seq ?_
       refine WC.region ?_
       refine seg 3 [.v (iv (((rdD p0 x3081 z_Row).North).e0)), .v (iv (((rdD p0 x3081 z_Row).North).e1)), .v (iv (((rdD p0 x3081 z_Row).North).e2)), .v (iv (((rdD p0 x3081 z_Row).North).e3)), .v (iv (((rdD p0 x3081 z_Row).North).e4)), .v (iv (((rdD p0 x3081 z_Row).North).e5)), .v (iv (((rdD p0 x3081 z_Row).North).e6)), .v (iv (((rdD p0 x3081 z_Row).North).e7))] [0, 7, 8, 9, 11, 16, 17, 26, 27, 28, 32, 34] [(0, (.slice A_p0 p0.length c_p0)), (7, (.slice A3014 l3016.length c3015)), (8, (.map (some (H3017 (w64 ((l3016.length : Int) - 1)).toNat)))), (9, (.map (some g3033))), (11, (pt g3091)), (16, (iv p2)), (17, (iv x3018)), (26, (.slice A_p0 p0.length c_p0)), (27, (iv (p0.length : Int))), (28, (iv x3081)), (32, (.map (some (H3017 (w64 ((l3016.length : Int) - 1)).toNat)))), (34, (.agg #[(iv (((rdD p0 x3081 z_Row).North).e0)), (iv (((rdD p0 x3081 z_Row).North).e1)), (iv (((rdD p0 x3081 z_Row).North).e2)), (iv (((rdD p0 x3081 z_Row).North).e3)), (iv (((rdD p0 x3081 z_Row).North).e4)), (iv (((rdD p0 x3081 z_Row).North).e5)), (iv (((rdD p0 x3081 z_Row).North).e6)), (iv (((rdD p0 x3081 z_Row).North).e7))]))] [.cell ⟨g3091, 9, none⟩ (iv (((rdD p0 x3081 z_Row).North).e0)), .cell ⟨g3091, 10, none⟩ (iv (((rdD p0 x3081 z_Row).North).e1)), .cell ⟨g3091, 11, none⟩ (iv (((rdD p0 x3081 z_Row).North).e2)), .cell ⟨g3091, 12, none⟩ (iv (((rdD p0 x3081 z_Row).North).e3)), .cell ⟨g3091, 13, none⟩ (iv (((rdD p0 x3081 z_Row).North).e4)), .cell ⟨g3091, 14, none⟩ (iv (((rdD p0 x3081 z_Row).North).e5)), .cell ⟨g3091, 15, none⟩ (iv (((rdD p0 x3081 z_Row).North).e6)), .cell ⟨g3091, 16, none⟩ (iv (((rdD p0 x3081 z_Row).North).e7))] (fun fb => by kernel_rfl) rfl ⟨hS3096.cell 0 rfl 9 rfl, hS3096.cell 0 rfl 10 rfl, hS3096.cell 0 rfl 11 rfl, hS3096.cell 0 rfl 12 rfl, hS3096.cell 0 rfl 13 rfl, hS3096.cell 0 rfl 14 rfl, hS3096.cell 0 rfl 15 rfl, hS3096.cell 0 rfl 16 rfl, trivial⟩ ?_
       refine WL.lookup (mapsO.at (hS3096.own 2).1 h3030.1 h3030.2 hm3032) ((rdD p0 x3081 z_Row).North) (d := 35) (c := false) (t := 91) (kT := 83) (eT := 4) (z := false) (kE := (aggI ints_A8_Int)) (vE := vB) (l := m3031) (.bool (mget ((rdD p0 x3081 z_Row).North) false m3031)) (fun fb => by kernel_rfl) torus_back_key83 (by kernel_rfl) (fun _ => by kernel_rfl) rfl ?_
       refine ⟨trivial, ?_⟩
       refine WL.done rfl ?_
       refine WX.next ?_
       obtain ⟨x3101, hx3102, hl3088⟩ := bind_some hl3088
       refine WC.cutN (T := (List (A8_Int × Bool))) (fun t => [(0, (.slice A_p0 p0.length c_p0)), (7, (.slice A3014 l3016.length c3015)), (8, (.map (some (H3017 (w64 ((l3016.length : Int) - 1)).toNat)))), (9, (.map (some g3033))), (16, (iv p2)), (17, (iv x3018)), (26, (.slice A_p0 p0.length c_p0)), (27, (iv (p0.length : Int))), (28, (iv x3081))]) (fun t w1 => St NoS w w1 [rowR encN_Row A_p0 c_p0 (tag H_p0 p0), nestO subN_Row H_p0 p0] [rowO 91 (encMap A8_Int Bool) A3014 c3015 (tag H3017 l3016), mapsO (aggI ints_A8_Int) vB H3017 l3016, blk g3033 (mapObj (aggI ints_A8_Int) vB t)] ∧ x3101 = t) (fun Kx3101 => ?_) ?_
       ·
        rcases br_some hx3102 with ⟨h3103, hx3102⟩ | ⟨h3103, hx3102⟩
        ·refine WC.condT2 (fun fb => by kernel_rfl) h3103 ?_
         refine WC.region ?_
         refine seg 3 [.v (iv (((rdD p0 x3081 z_Row).South).e0)), .v (iv (((rdD p0 x3081 z_Row).South).e1)), .v (iv (((rdD p0 x3081 z_Row).South).e2)), .v (iv (((rdD p0 x3081 z_Row).South).e3)), .v (iv (((rdD p0 x3081 z_Row).South).e4)), .v (iv (((rdD p0 x3081 z_Row).South).e5)), .v (iv (((rdD p0 x3081 z_Row).South).e6)), .v (iv (((rdD p0 x3081 z_Row).South).e7))] [0, 7, 8, 9, 16, 17, 26, 27, 28, 36, 38] [(0, (.slice A_p0 p0.length c_p0)), (7, (.slice A3014 l3016.length c3015)), (8, (.map (some (H3017 (w64 ((l3016.length : Int) - 1)).toNat)))), (9, (.map (some g3033))), (16, (iv p2)), (17, (iv x3018)), (26, (.slice A_p0 p0.length c_p0)), (27, (iv (p0.length : Int))), (28, (iv x3081)), (36, (.map (some g3033))), (38, (.agg #[(iv (((rdD p0 x3081 z_Row).South).e0)), (iv (((rdD p0 x3081 z_Row).South).e1)), (iv (((rdD p0 x3081 z_Row).South).e2)), (iv (((rdD p0 x3081 z_Row).South).e3)), (iv (((rdD p0 x3081 z_Row).South).e4)), (iv (((rdD p0 x3081 z_Row).South).e5)), (iv (((rdD p0 x3081 z_Row).South).e6)), (iv (((rdD p0 x3081 z_Row).South).e7))]))] [.cell ⟨g3091, 1, none⟩ (iv (((rdD p0 x3081 z_Row).South).e0)), .cell ⟨g3091, 2, none⟩ (iv (((rdD p0 x3081 z_Row).South).e1)), .cell ⟨g3091, 3, none⟩ (iv (((rdD p0 x3081 z_Row).South).e2)), .cell ⟨g3091, 4, none⟩ (iv (((rdD p0 x3081 z_Row).South).e3)), .cell ⟨g3091, 5, none⟩ (iv (((rdD p0 x3081 z_Row).South).e4)), .cell ⟨g3091, 6, none⟩ (iv (((rdD p0 x3081 z_Row).South).e5)), .cell ⟨g3091, 7, none⟩ (iv (((rdD p0 x3081 z_Row).South).e6)), .cell ⟨g3091, 8, none⟩ (iv (((rdD p0 x3081 z_Row).South).e7))] (fun fb => by kernel_rfl) rfl ⟨hS3096.cell 0 rfl 1 rfl, hS3096.cell 0 rfl 2 rfl, hS3096.cell 0 rfl 3 rfl, hS3096.cell 0 rfl 4 rfl, hS3096.cell 0 rfl 5 rfl, hS3096.cell 0 rfl 6 rfl, hS3096.cell 0 rfl 7 rfl, hS3096.cell 0 rfl 8 rfl, trivial⟩ ?_
         refine WL.mapput hS3096 3 (t := 91) (kT := 83) (eT := 4) (kE := (aggI ints_A8_Int)) (vE := vB) (l := l3080) rfl ((rdD p0 x3081 z_Row).South) true (fun fb => by kernel_rfl) torus_back_key83 (by kernel_rfl) [0, 1, 2] (by decide) (by decide) (fun w3104 hS3105 => ?_)
         refine ⟨trivial, ?_⟩
         refine WL.done rfl ?_
         injection hx3102 with hx3102
         exact WX.to Kx3101 (mput ((rdD p0 x3081 z_Row).South) true l3080) [0, 7, 8, 9, 16, 17, 26, 27, 28] rfl ⟨(hS3105.subR [0, 1]).sub [2, 3, 0] (by decide), hx3102.symm⟩
        refine WC.condF2 (fun fb => by kernel_rfl) h3103 ?_
        refine WC.skip ?_
        injection hx3102 with hx3102
        exact WX.to Kx3101 l3080 [0, 7, 8, 9, 16, 17, 26, 27, 28] rfl ⟨(hS3096.subR [0, 1]).sub [1, 2, 3] (by decide), hx3102.symm⟩
       rintro y3109 w3106 ⟨hS3107, hq3108⟩
       subst hq3108
       refine WX.blockN (WX.next ?_)
       refine WC.region ?_
       refine seg 2 [] [0, 7, 8, 9, 16, 17, 26, 27, 28] [(0, (.slice A_p0 p0.length c_p0)), (7, (.slice A3014 l3016.length c3015)), (8, (.map (some (H3017 (w64 ((l3016.length : Int) - 1)).toNat)))), (9, (.map (some g3033))), (16, (iv p2)), (17, (iv x3018)), (26, (.slice A_p0 p0.length c_p0)), (27, (iv (p0.length : Int))), (28, (iv (w64 (x3081 + 1))))] [] (fun fb => by kernel_rfl) rfl trivial ?_
       refine WL.done rfl ?_
       exact WX.again k3085 (Nat.lt_succ_self _) (x3101, w64 (x3081 + 1)) [0, 7, 8, 9, 16, 17, 26, 27, 28] rfl ⟨(hS3107.subR [0, 1]).sub [0, 1, 2] (by decide), hl3088⟩
      refine WC.condF2 (fun fb => by kernel_rfl) h3089 ?_
      refine WC.exit ?_
      injection hl3088 with hl3088
      exact WX.thenX (WX.thenX (WX.blockHere (WX.to Kx3083 l3080 [0, 7, 9, 16, 17] rfl ⟨(hS3087.subR [0, 1]).sub [0, 1, 2] (by decide), hl3088.symm⟩)))
    rintro y3113 w3110 ⟨hS3111, hq3112⟩
    subst hq3112
    refine WX.next ?_
    refine WC.region ?_
    refine seg 2 [] [0, 16, 17, 40, 41] [(0, (.slice A_p0 p0.length c_p0)), (16, (iv p2)), (17, (iv x3018)), (40, (.slice A3014 l3016.length c3015)), (41, (.map (some g3033)))] [] (fun fb => by kernel_rfl) rfl trivial ?_
    refine WL.new hS3111 42 [] (fun g => (.slice (some ⟨g, 0, none⟩) 1 1)) (.cells #[(.map (some g3033))] 91 (0, 0)) [] (fun fb g => by kernel_rfl) trivial (fun g3114 w3115 hS3116 => ?_)
    refine ⟨trivial, ?_⟩
    have hS3118 : St NoS w w3115 [rowR encN_Row A_p0 c_p0 (tag H_p0 p0), nestO subN_Row H_p0 p0] [rowO 91 (encMap A8_Int Bool) (some ⟨g3114, 0, none⟩) 1 (tag (fun _ => g3033) [some x3083]), rowO 91 (encMap A8_Int Bool) A3014 c3015 (tag H3017 l3016), mapsO (aggI ints_A8_Int) vB H3017 l3016, blk g3033 (mapObj (aggI ints_A8_Int) vB x3083)] := hS3116.map1 0 _ (fun h => rowO.ofBlk h rfl (Nat.le_of_ble_eq_true (by kernel_rfl))) (fun _ h => by obtain ⟨_, h1, h2⟩ := h; injection h1 with h1; subst h1; exact h2) [1, 2, 3] (by decide) (by decide)
    have hS3119 : St NoS w w3115 [rowR encN_Row A_p0 c_p0 (tag H_p0 p0), nestO subN_Row H_p0 p0] [mapsO (aggI ints_A8_Int) vB (fun _ => g3033) [some x3083], rowO 91 (encMap A8_Int Bool) (some ⟨g3114, 0, none⟩) 1 (tag (fun _ => g3033) [some x3083]), rowO 91 (encMap A8_Int Bool) A3014 c3015 (tag H3017 l3016), mapsO (aggI ints_A8_Int) vB H3017 l3016] := hS3118.mapsOne 3 rfl [0, 1, 2] (by decide) (by decide)
    obtain ⟨h3120, hl3028⟩ := as_some hl3028
    refine WL.appendN hS3119 2 (d := 43) (tS := 90) (z := (.map none)) (bytes := 8) (c2 := 1) (hx := g3033) (x := (some x3083)) rfl (fun fb => by kernel_rfl) (rowO.rd (hS3119.own 1).1) (by kernel_rfl) (by kernel_rfl) rfl (by decide) h3120 (by decide) [0, 1, 3] (by decide) (by decide) (fun A3121 c3122 w3123 hS3124 => ?_)
    have hS3125 : St NoS w w3123 [rowR encN_Row A_p0 c_p0 (tag H_p0 p0), nestO subN_Row H_p0 p0] [mapsO (aggI ints_A8_Int) vB (updH H3017 l3016.length g3033) (l3016 ++ [some x3083]), rowO 91 (encMap A8_Int Bool) A3121 c3122 (tag (updH H3017 l3016.length g3033) (l3016 ++ [some x3083])), rowO 91 (encMap A8_Int Bool) (some ⟨g3114, 0, none⟩) 1 (tag (fun _ => g3033) [some x3083])] := hS3124.mapsPush 3 1 rfl rfl (by decide) [0, 2] (by decide) (by decide)
    refine ⟨trivial, ?_⟩
    refine seg 5 [] [0, 7, 16, 17] [(0, (.slice A_p0 p0.length c_p0)), (7, (.slice A3121 (l3016 ++ [some x3083]).length c3122)), (16, (iv p2)), (17, (iv x3018))] [] (fun fb => by kernel_rfl) rfl trivial ?_
    refine WL.done rfl ?_
    refine WX.blockN (WX.next ?_)
    refine WC.region ?_
    refine seg 2 [] [0, 7, 16, 17] [(0, (.slice A_p0 p0.length c_p0)), (7, (.slice A3121 (l3016 ++ [some x3083]).length c3122)), (16, (iv p2)), (17, (iv (w64 (x3018 + 1))))] [] (fun fb => by kernel_rfl) rfl trivial ?_
    refine WL.done rfl ?_
    exact WX.again k3025 (Nat.lt_succ_self _) ((l3016 ++ [some x3083], w64 (x3018 + 1)), A3121, c3122, (updH H3017 l3016.length g3033)) [0, 7, 16, 17] rfl ⟨(hS3125.subR [0, 1]).sub [1, 0] (by decide), hl3028⟩
   refine WC.condF2 (fun fb => by kernel_rfl) h3029 ?_
   refine WC.exit ?_
   injection hl3028 with hl3028
   exact WX.thenX (WX.thenX (WX.blockHere (WX.to Kx3023 (l3016, A3014, c3015, H3017) [7] rfl ⟨(hS3027.subR [0, 1]).sub [0, 1] (by decide), hl3028.symm⟩)))
 rintro ⟨y3129, A3019, c3020, H3022⟩ w3126 ⟨hS3127, hq3128⟩
 subst hq3128
 refine WX.next ?_
 refine WC.seq ?_
 refine WC.region ?_
 refine seg 2 [] [6] [(6, (.slice A3019 x3023.length c3020))] [] (fun fb => by kernel_rfl) rfl trivial ?_
 refine WL.done rfl ?_
 refine WX.next ?_
 refine WC.ret ?_
 injection hf with hf
 subst hf
 exact WX.ret_ [] (.slice A3019 x3023.length c3020) [] (fun fb => by kernel_rfl) trivial ⟨_, rfl, A3019, c3020, H3022, rfl, (hS3127.sub [0, 1] (by decide)).noR⟩
theorem torus_find_key83 : KeyK Tryd.prog 83 (aggI ints_A8_Int) := KeyK.array (n := 8) (by kernel_rfl) ints_A8_Int (fun _ => rfl) (fun x y h => by cases x; cases y; simp only [ints_A8_Int, List.cons.injEq, and_true] at h; obtain ⟨rfl, rfl, rfl, rfl, rfl, rfl, rfl, rfl⟩ := h; rfl)
theorem torus_find_calls (k : Nat) (p0 : List Tile) (p1 : Int) (p2 : Int) (A_p0 : Option Addr) (c_p0 : Nat) (r : Pattern × Bool) (w : World) (hR0 : RO NoS w (rowR enc_Tile A_p0 c_p0 p0)) (hf : torus_find k p0 p1 p2 = some r) :
  CallsR Tryd.prog 54 #[(.slice A_p0 p0.length c_p0), (iv p1), (iv p2)] w (fun v w' => ∃ (A1_ : Option Addr), ∃ (c1_ : Nat), v = (.tuple #[(.agg #[(iv r.1.Width), (iv r.1.Height), (.slice A1_ r.1.Cells.length c1_)]), (.bool r.2)]) ∧ St NoS w w' [] [rowO 3 encInt A1_ c1_ r.1.Cells]) := by
 have hS : St NoS w w [rowR enc_Tile A_p0 c_p0 p0] [] := St.init (ro_cons hR0 (ro_nil _ _))
 refine enter 105 Tryd.func54 rfl Tryd.ntmps54 rfl ?_
 unfold torus_find at hf
 refine WC.seq ?_
 refine WC.region ?_
 refine WL.new hS 6 [] (fun g => (.pointer (some ⟨g, 0, none⟩))) (.cells #[(iv 0), (iv 0), (.slice none 0 0)] 27 (0, 0)) [] (fun fb g => by kernel_rfl) trivial (fun g1903 w1904 hS1905 => ?_)
 refine ⟨trivial, ?_⟩
 refine seg 2 [] [0, 1, 2, 6] [(0, (.slice A_p0 p0.length c_p0)), (1, (iv p1)), (2, (iv p2)), (6, (pt g1903))] [] (fun fb => by kernel_rfl) rfl trivial ?_
 refine WL.done rfl ?_
 refine WX.next ?_
 refine WC.scope ?_
 refine WC.seq ?_
 refine WC.region ?_
 refine seg 2 [] [1, 2, 6, 19, 20] [(1, (iv p1)), (2, (iv p2)), (6, (pt g1903)), (19, (.slice A_p0 p0.length c_p0)), (20, (iv p1))] [] (fun fb => by kernel_rfl) rfl trivial ?_
 obtain ⟨t2771, ht2772, hf⟩ := bind_some hf
 refine WL.call (some 21) 81 #[(.slice A_p0 p0.length c_p0), (iv p1)] (fun fb => by kernel_rfl) (torus_rings_calls _ p0 p1 A_p0 c_p0 t2771 _ (hS1905.rd 0) ht2772) (fun v w2773 hR2774 => ?_)
 obtain ⟨A2776, c2777, H2778, rfl, hk_⟩ := hR2774
 have hS2775 : St NoS w w2773 [rowR enc_Tile A_p0 c_p0 p0] [rowO 85 encN_Row A2776 c2777 (tag H2778 t2771), poolO [nestO subN_Row H2778 t2771], blk g1903 (.cells #[(iv 0), (iv 0), (.slice none 0 0)] 27 (0, 0))] := hS1905.call hk_ [] [0] (fun g hg => hg.elim) (by simp) (by decide)
 refine ⟨trivial, ?_⟩
 refine seg 4 [] [1, 2, 6, 8] [(1, (iv p1)), (2, (iv p2)), (6, (pt g1903)), (8, (.slice A2776 t2771.length c2777))] [] (fun fb => by kernel_rfl) rfl trivial ?_
 refine WL.done rfl ?_
 refine WX.next ?_
 refine WC.seq ?_
 refine WC.region ?_
 refine WL.new hS2775 22 [] (fun g => (.map (some g))) (mapObj (aggI ints_A8_Int) slV ([] : List (A8_Int × (HM × List (Option (List (A8_Int × Bool))))))) [] (fun fb g => by kernel_rfl) trivial (fun g2779 w2780 hS2781 => ?_)
 have hS2782 : St NoS w w2780 [knestO (aggI ints_A8_Int) vB ([] : List (A8_Int × (HM × List (Option (List (A8_Int × Bool)))))) ([] : List (A8_Int × List (Option (List (A8_Int × Bool))))), rowR enc_Tile A_p0 c_p0 p0] [blk g2779 (mapObj (aggI ints_A8_Int) slV ([] : List (A8_Int × (HM × List (Option (List (A8_Int × Bool))))))), rowO 85 encN_Row A2776 c2777 (tag H2778 t2771), poolO [nestO subN_Row H2778 t2771], blk g1903 (.cells #[(iv 0), (iv 0), (.slice none 0 0)] 27 (0, 0))] := hS2781.addR _ (knestO_nil _ _ _ _)
 refine ⟨trivial, ?_⟩
 refine seg 2 [] [1, 2, 6, 8, 9] [(1, (iv p1)), (2, (iv p2)), (6, (pt g1903)), (8, (.slice A2776 t2771.length c2777)), (9, (.map (some g2779)))] [] (fun fb => by kernel_rfl) rfl trivial ?_
 refine WL.done rfl ?_
 refine WX.next ?_
 refine WC.seq ?_
 refine WC.region ?_
 refine seg 3 [] [2, 6, 8, 9, 25] [(2, (iv p2)), (6, (pt g1903)), (8, (.slice A2776 t2771.length c2777)), (9, (.map (some g2779))), (25, (.agg #[(iv p1), (iv p2), (.slice none 0 0)]))] [] (fun fb => by kernel_rfl) rfl trivial ?_
 refine WL.new hS2782 10 [] (fun g => (.pointer (some ⟨g, 0, none⟩))) (.cells #[(iv 0), (iv 0), (.slice none 0 0)] 27 (0, 0)) [] (fun fb g => by kernel_rfl) trivial (fun g2783 w2784 hS2785 => ?_)
 refine ⟨trivial, ?_⟩
 refine WL.store hS2785 0 rfl [(0, (iv p1)), (1, (iv p2)), (2, (.slice none 0 0))] #[(iv p1), (iv p2), (.slice none 0 0)] (fun fb => by kernel_rfl) (by kernel_rfl) rfl [1, 2, 3, 4] (by decide) (by decide) (fun w2787 hS2788 => ?_)
 refine ⟨trivial, ?_⟩
 refine WL.done rfl ?_
 refine WX.next ?_
 refine WC.seq ?_
 refine WC.label ?_
 refine WX.next ?_
 refine WC.seq ?_
 refine WC.seq ?_
 refine WC.region ?_
 refine seg 3 [] [2, 6, 8, 9, 10, 26, 27, 28] [(2, (iv p2)), (6, (pt g1903)), (8, (.slice A2776 t2771.length c2777)), (9, (.map (some g2779))), (10, (pt g2783)), (26, (.slice A2776 t2771.length c2777)), (27, (iv (t2771.length : Int))), (28, (iv 0))] [] (fun fb => by kernel_rfl) rfl trivial ?_
 refine WL.done rfl ?_
 refine WX.next ?_
 obtain ⟨x4380, hx4381, hf⟩ := bind_some hf
 refine WC.cutN (T := Unit) (fun t => [(6, (pt g1903))]) (fun t w1 => St NoS w w1 [knestO (aggI ints_A8_Int) vB ([] : List (A8_Int × (HM × List (Option (List (A8_Int × Bool)))))) ([] : List (A8_Int × List (Option (List (A8_Int × Bool))))), rowR enc_Tile A_p0 c_p0 p0] [blk g1903 (.cells #[(iv 0), (iv 0), (.slice none 0 0)] 27 (0, 0))] ∧ x4380 = .inr t) (fun Kx4380 => ?_) ?_
 ·
  refine WC.block ?_
  refine WC.loop (T := ((List (A8_Int × List (Option (List (A8_Int × Bool))))) × Int) × (List (A8_Int × (HM × List (Option (List (A8_Int × Bool))))))) (fun t => [(2, (iv p2)), (6, (pt g1903)), (8, (.slice A2776 t2771.length c2777)), (9, (.map (some g2779))), (10, (pt g2783)), (26, (.slice A2776 t2771.length c2777)), (27, (iv (t2771.length : Int))), (28, (iv t.1.2))]) (fun n t w1 => St NoS w w1 [knestO (aggI ints_A8_Int) vB t.2 t.1.1, knestO (aggI ints_A8_Int) vB ([] : List (A8_Int × (HM × List (Option (List (A8_Int × Bool)))))) ([] : List (A8_Int × List (Option (List (A8_Int × Bool))))), rowR enc_Tile A_p0 c_p0 p0] [blk g1903 (.cells #[(iv 0), (iv 0), (.slice none 0 0)] 27 (0, 0)), rowO 85 encN_Row A2776 c2777 (tag H2778 t2771), poolO [nestO subN_Row H2778 t2771], blk g2779 (mapObj (aggI ints_A8_Int) slV t.2), blk g2783 (.cells #[(iv p1), (iv p2), (.slice none 0 0)] 27 (0, 0))] ∧ torus_find.l0 n t.1.1 t.1.2 p1 p2 t2771 = some x4380) k ((([] : List (A8_Int × List (Option (List (A8_Int × Bool))))), 0), ([] : List (A8_Int × (HM × List (Option (List (A8_Int × Bool))))))) [2, 6, 8, 9, 10, 26, 27, 28] rfl ⟨(hS2788.subR [0, 0, 1]).sub [4, 2, 3, 1, 0] (by decide), hx4381⟩ ?_
  rintro k4382 ⟨⟨l4377, x4379⟩, K4378⟩ w4383 ⟨hS4384, hl4385⟩
  cases k4382 with
  | zero => rw [torus_find.l0] at hl4385; cases hl4385
  | succ k4382 =>
   rw [torus_find.l0] at hl4385
   refine WC.seq ?_
   refine WC.region ?_
   refine seg 1 [] [2, 6, 8, 9, 10, 26, 27, 28, 29] [(2, (iv p2)), (6, (pt g1903)), (8, (.slice A2776 t2771.length c2777)), (9, (.map (some g2779))), (10, (pt g2783)), (26, (.slice A2776 t2771.length c2777)), (27, (iv (t2771.length : Int))), (28, (iv x4379)), (29, (.bool (decide (x4379 < (t2771.length : Int)))))] [] (fun fb => by kernel_rfl) rfl trivial ?_
   refine WL.done rfl ?_
   refine WX.next ?_
   refine WC.seq ?_
   rcases br_some hl4385 with ⟨h4386, hl4385⟩ | ⟨h4386, hl4385⟩
   ·refine WC.condT2 (fun fb => by kernel_rfl) h4386 ?_
    refine WC.skip ?_
    refine WX.next ?_
    refine WC.seq ?_
    refine WC.block ?_
    refine WC.seq ?_
    refine WC.region ?_
    obtain ⟨h4387, hl4385⟩ := as_some hl4385
    refine seg 2 [.v (.slice ((H2778 x4379.toNat 0).1) ((rdD t2771 x4379 z_Row).Cells).length ((H2778 x4379.toNat 0).2)), .v (iv (((rdD t2771 x4379 z_Row).South).e0)), .v (iv (((rdD t2771 x4379 z_Row).South).e1)), .v (iv (((rdD t2771 x4379 z_Row).South).e2)), .v (iv (((rdD t2771 x4379 z_Row).South).e3)), .v (iv (((rdD t2771 x4379 z_Row).South).e4)), .v (iv (((rdD t2771 x4379 z_Row).South).e5)), .v (iv (((rdD t2771 x4379 z_Row).South).e6)), .v (iv (((rdD t2771 x4379 z_Row).South).e7)), .v (iv (((rdD t2771 x4379 z_Row).North).e0)), .v (iv (((rdD t2771 x4379 z_Row).North).e1)), .v (iv (((rdD t2771 x4379 z_Row).North).e2)), .v (iv (((rdD t2771 x4379 z_Row).North).e3)), .v (iv (((rdD t2771 x4379 z_Row).North).e4)), .v (iv (((rdD t2771 x4379 z_Row).North).e5)), .v (iv (((rdD t2771 x4379 z_Row).North).e6)), .v (iv (((rdD t2771 x4379 z_Row).North).e7)), .v (iv ((rdD t2771 x4379 z_Row).West)), .v (iv ((rdD t2771 x4379 z_Row).East))] [2, 6, 8, 9, 10, 26, 27, 28, 31] [(2, (iv p2)), (6, (pt g1903)), (8, (.slice A2776 t2771.length c2777)), (9, (.map (some g2779))), (10, (pt g2783)), (26, (.slice A2776 t2771.length c2777)), (27, (iv (t2771.length : Int))), (28, (iv x4379)), (31, (.agg #[(.slice ((H2778 x4379.toNat 0).1) ((rdD t2771 x4379 z_Row).Cells).length ((H2778 x4379.toNat 0).2)), (iv (((rdD t2771 x4379 z_Row).South).e0)), (iv (((rdD t2771 x4379 z_Row).South).e1)), (iv (((rdD t2771 x4379 z_Row).South).e2)), (iv (((rdD t2771 x4379 z_Row).South).e3)), (iv (((rdD t2771 x4379 z_Row).South).e4)), (iv (((rdD t2771 x4379 z_Row).South).e5)), (iv (((rdD t2771 x4379 z_Row).South).e6)), (iv (((rdD t2771 x4379 z_Row).South).e7)), (iv (((rdD t2771 x4379 z_Row).North).e0)), (iv (((rdD t2771 x4379 z_Row).North).e1)), (iv (((rdD t2771 x4379 z_Row).North).e2)), (iv (((rdD t2771 x4379 z_Row).North).e3)), (iv (((rdD t2771 x4379 z_Row).North).e4)), (iv (((rdD t2771 x4379 z_Row).North).e5)), (iv (((rdD t2771 x4379 z_Row).North).e6)), (iv (((rdD t2771 x4379 z_Row).North).e7)), (iv ((rdD t2771 x4379 z_Row).West)), (iv ((rdD t2771 x4379 z_Row).East))]))] [.idx A2776 x4379 t2771.length, .cell ((adr A2776).add ((x4379).toNat * 19)) (.slice ((H2778 x4379.toNat 0).1) ((rdD t2771 x4379 z_Row).Cells).length ((H2778 x4379.toNat 0).2)), .cell (((adr A2776).add ((x4379).toNat * 19)).add 1) (iv (((rdD t2771 x4379 z_Row).South).e0)), .cell (((adr A2776).add ((x4379).toNat * 19)).add 2) (iv (((rdD t2771 x4379 z_Row).South).e1)), .cell (((adr A2776).add ((x4379).toNat * 19)).add 3) (iv (((rdD t2771 x4379 z_Row).South).e2)), .cell (((adr A2776).add ((x4379).toNat * 19)).add 4) (iv (((rdD t2771 x4379 z_Row).South).e3)), .cell (((adr A2776).add ((x4379).toNat * 19)).add 5) (iv (((rdD t2771 x4379 z_Row).South).e4)), .cell (((adr A2776).add ((x4379).toNat * 19)).add 6) (iv (((rdD t2771 x4379 z_Row).South).e5)), .cell (((adr A2776).add ((x4379).toNat * 19)).add 7) (iv (((rdD t2771 x4379 z_Row).South).e6)), .cell (((adr A2776).add ((x4379).toNat * 19)).add 8) (iv (((rdD t2771 x4379 z_Row).South).e7)), .cell (((adr A2776).add ((x4379).toNat * 19)).add 9) (iv (((rdD t2771 x4379 z_Row).North).e0)), .cell (((adr A2776).add ((x4379).toNat * 19)).add 10) (iv (((rdD t2771 x4379 z_Row).North).e1)), .cell (((adr A2776).add ((x4379).toNat * 19)).add 11) (iv (((rdD t2771 x4379 z_Row).North).e2)), .cell (((adr A2776).add ((x4379).toNat * 19)).add 12) (iv (((rdD t2771 x4379 z_Row).North).e3)), .cell (((adr A2776).add ((x4379).toNat * 19)).add 13) (iv (((rdD t2771 x4379 z_Row).North).e4)), .cell (((adr A2776).add ((x4379).toNat * 19)).add 14) (iv (((rdD t2771 x4379 z_Row).North).e5)), .cell (((adr A2776).add ((x4379).toNat * 19)).add 15) (iv (((rdD t2771 x4379 z_Row).North).e6)), .cell (((adr A2776).add ((x4379).toNat * 19)).add 16) (iv (((rdD t2771 x4379 z_Row).North).e7)), .cell (((adr A2776).add ((x4379).toNat * 19)).add 17) (iv ((rdD t2771 x4379 z_Row).West)), .cell (((adr A2776).add ((x4379).toNat * 19)).add 18) (iv ((rdD t2771 x4379 z_Row).East))] (fun fb => by kernel_rfl) rfl ⟨nrow_adr (rowO.rd (hS4384.own 1).1) h4387.1 h4387.2, nrow_cell (rowO.rd (hS4384.own 1).1) z_Row h4387.1 h4387.2 0 rfl, nrow_cell (rowO.rd (hS4384.own 1).1) z_Row h4387.1 h4387.2 1 rfl, nrow_cell (rowO.rd (hS4384.own 1).1) z_Row h4387.1 h4387.2 2 rfl, nrow_cell (rowO.rd (hS4384.own 1).1) z_Row h4387.1 h4387.2 3 rfl, nrow_cell (rowO.rd (hS4384.own 1).1) z_Row h4387.1 h4387.2 4 rfl, nrow_cell (rowO.rd (hS4384.own 1).1) z_Row h4387.1 h4387.2 5 rfl, nrow_cell (rowO.rd (hS4384.own 1).1) z_Row h4387.1 h4387.2 6 rfl, nrow_cell (rowO.rd (hS4384.own 1).1) z_Row h4387.1 h4387.2 7 rfl, nrow_cell (rowO.rd (hS4384.own 1).1) z_Row h4387.1 h4387.2 8 rfl, nrow_cell (rowO.rd (hS4384.own 1).1) z_Row h4387.1 h4387.2 9 rfl, nrow_cell (rowO.rd (hS4384.own 1).1) z_Row h4387.1 h4387.2 10 rfl, nrow_cell (rowO.rd (hS4384.own 1).1) z_Row h4387.1 h4387.2 11 rfl, nrow_cell (rowO.rd (hS4384.own 1).1) z_Row h4387.1 h4387.2 12 rfl, nrow_cell (rowO.rd (hS4384.own 1).1) z_Row h4387.1 h4387.2 13 rfl, nrow_cell (rowO.rd (hS4384.own 1).1) z_Row h4387.1 h4387.2 14 rfl, nrow_cell (rowO.rd (hS4384.own 1).1) z_Row h4387.1 h4387.2 15 rfl, nrow_cell (rowO.rd (hS4384.own 1).1) z_Row h4387.1 h4387.2 16 rfl, nrow_cell (rowO.rd (hS4384.own 1).1) z_Row h4387.1 h4387.2 17 rfl, nrow_cell (rowO.rd (hS4384.own 1).1) z_Row h4387.1 h4387.2 18 rfl, trivial⟩ ?_
    refine WL.new hS4384 12 [] (fun g => (.pointer (some ⟨g, 0, none⟩))) (.cells #[(.slice none 0 0), (iv 0), (iv 0), (iv 0), (iv 0), (iv 0), (iv 0), (iv 0), (iv 0), (iv 0), (iv 0), (iv 0), (iv 0), (iv 0), (iv 0), (iv 0), (iv 0), (iv 0), (iv 0)] 85 (0, 0)) [] (fun fb g => by kernel_rfl) trivial (fun g4388 w4389 hS4390 => ?_)
    refine ⟨trivial, ?_⟩
    refine WL.store hS4390 0 rfl [(0, (.slice ((H2778 x4379.toNat 0).1) ((rdD t2771 x4379 z_Row).Cells).length ((H2778 x4379.toNat 0).2))), (1, (iv (((rdD t2771 x4379 z_Row).South).e0))), (2, (iv (((rdD t2771 x4379 z_Row).South).e1))), (3, (iv (((rdD t2771 x4379 z_Row).South).e2))), (4, (iv (((rdD t2771 x4379 z_Row).South).e3))), (5, (iv (((rdD t2771 x4379 z_Row).South).e4))), (6, (iv (((rdD t2771 x4379 z_Row).South).e5))), (7, (iv (((rdD t2771 x4379 z_Row).South).e6))), (8, (iv (((rdD t2771 x4379 z_Row).South).e7))), (9, (iv (((rdD t2771 x4379 z_Row).North).e0))), (10, (iv (((rdD t2771 x4379 z_Row).North).e1))), (11, (iv (((rdD t2771 x4379 z_Row).North).e2))), (12, (iv (((rdD t2771 x4379 z_Row).North).e3))), (13, (iv (((rdD t2771 x4379 z_Row).North).e4))), (14, (iv (((rdD t2771 x4379 z_Row).North).e5))), (15, (iv (((rdD t2771 x4379 z_Row).North).e6))), (16, (iv (((rdD t2771 x4379 z_Row).North).e7))), (17, (iv ((rdD t2771 x4379 z_Row).West))), (18, (iv ((rdD t2771 x4379 z_Row).East)))] #[(.slice ((H2778 x4379.toNat 0).1) ((rdD t2771 x4379 z_Row).Cells).length ((H2778 x4379.toNat 0).2)), (iv (((rdD t2771 x4379 z_Row).South).e0)), (iv (((rdD t2771 x4379 z_Row).South).e1)), (iv (((rdD t2771 x4379 z_Row).South).e2)), (iv (((rdD t2771 x4379 z_Row).South).e3)), (iv (((rdD t2771 x4379 z_Row).South).e4)), (iv (((rdD t2771 x4379 z_Row).South).e5)), (iv (((rdD t2771 x4379 z_Row).South).e6)), (iv (((rdD t2771 x4379 z_Row).South).e7)), (iv (((rdD t2771 x4379 z_Row).North).e0)), (iv (((rdD t2771 x4379 z_Row).North).e1)), (iv (((rdD t2771 x4379 z_Row).North).e2)), (iv (((rdD t2771 x4379 z_Row).North).e3)), (iv (((rdD t2771 x4379 z_Row).North).e4)), (iv (((rdD t2771 x4379 z_Row).North).e5)), (iv (((rdD t2771 x4379 z_Row).North).e6)), (iv (((rdD t2771 x4379 z_Row).North).e7)), (iv ((rdD t2771 x4379 z_Row).West)), (iv ((rdD t2771 x4379 z_Row).East))] (fun fb => by kernel_rfl) (by kernel_rfl) (by kernel_rfl) [1, 2, 3, 4, 5] (by decide) (by decide) (fun w4392 hS4393 => ?_)
    refine ⟨trivial, ?_⟩
    refine WL.done rfl ?_
    refine WX.next ?_
    refine WC.seq ?_
    refine WC.region ?_
    refine seg 3 [.v (iv (((rdD t2771 x4379 z_Row).South).e0)), .v (iv (((rdD t2771 x4379 z_Row).South).e1)), .v (iv (((rdD t2771 x4379 z_Row).South).e2)), .v (iv (((rdD t2771 x4379 z_Row).South).e3)), .v (iv (((rdD t2771 x4379 z_Row).South).e4)), .v (iv (((rdD t2771 x4379 z_Row).South).e5)), .v (iv (((rdD t2771 x4379 z_Row).South).e6)), .v (iv (((rdD t2771 x4379 z_Row).South).e7))] [2, 6, 8, 9, 10, 12, 26, 27, 28, 33, 35] [(2, (iv p2)), (6, (pt g1903)), (8, (.slice A2776 t2771.length c2777)), (9, (.map (some g2779))), (10, (pt g2783)), (12, (pt g4388)), (26, (.slice A2776 t2771.length c2777)), (27, (iv (t2771.length : Int))), (28, (iv x4379)), (33, (.map (some g2779))), (35, (.agg #[(iv (((rdD t2771 x4379 z_Row).South).e0)), (iv (((rdD t2771 x4379 z_Row).South).e1)), (iv (((rdD t2771 x4379 z_Row).South).e2)), (iv (((rdD t2771 x4379 z_Row).South).e3)), (iv (((rdD t2771 x4379 z_Row).South).e4)), (iv (((rdD t2771 x4379 z_Row).South).e5)), (iv (((rdD t2771 x4379 z_Row).South).e6)), (iv (((rdD t2771 x4379 z_Row).South).e7))]))] [.cell ⟨g4388, 1, none⟩ (iv (((rdD t2771 x4379 z_Row).South).e0)), .cell ⟨g4388, 2, none⟩ (iv (((rdD t2771 x4379 z_Row).South).e1)), .cell ⟨g4388, 3, none⟩ (iv (((rdD t2771 x4379 z_Row).South).e2)), .cell ⟨g4388, 4, none⟩ (iv (((rdD t2771 x4379 z_Row).South).e3)), .cell ⟨g4388, 5, none⟩ (iv (((rdD t2771 x4379 z_Row).South).e4)), .cell ⟨g4388, 6, none⟩ (iv (((rdD t2771 x4379 z_Row).South).e5)), .cell ⟨g4388, 7, none⟩ (iv (((rdD t2771 x4379 z_Row).South).e6)), .cell ⟨g4388, 8, none⟩ (iv (((rdD t2771 x4379 z_Row).South).e7))] (fun fb => by kernel_rfl) rfl ⟨hS4393.cell 0 rfl 1 rfl, hS4393.cell 0 rfl 2 rfl, hS4393.cell 0 rfl 3 rfl, hS4393.cell 0 rfl 4 rfl, hS4393.cell 0 rfl 5 rfl, hS4393.cell 0 rfl 6 rfl, hS4393.cell 0 rfl 7 rfl, hS4393.cell 0 rfl 8 rfl, trivial⟩ ?_
    refine WL.lookup (hS4393.own 4).1 ((rdD t2771 x4379 z_Row).South) (d := 36) (c := true) (t := 117) (kT := 83) (eT := 90) (z := zHM) (kE := (aggI ints_A8_Int)) (vE := slV) (l := K4378) (.tuple #[(.slice ((mget ((rdD t2771 x4379 z_Row).South) zHM K4378).1.1) (mget ((rdD t2771 x4379 z_Row).South) [] l4377).length ((mget ((rdD t2771 x4379 z_Row).South) zHM K4378).1.2.1)), (.bool (mhas ((rdD t2771 x4379 z_Row).South) l4377))]) (fun fb => by kernel_rfl) torus_find_key83 (by kernel_rfl) (fun _ => by kernel_rfl) (by rw [mhas_unK, (knestO.eq (hS4393.rd 0))]; rw [slV_get _ _ (knestO.eq (hS4393.rd 0))]; rfl) ?_
    refine ⟨trivial, ?_⟩
    have hS4394 : St NoS w w4392 [rowR (encMap A8_Int Bool) ((mget ((rdD t2771 x4379 z_Row).South) zHM K4378).1.1) ((mget ((rdD t2771 x4379 z_Row).South) zHM K4378).1.2.1) (tag ((mget ((rdD t2771 x4379 z_Row).South) zHM K4378).1.2.2) (mget ((rdD t2771 x4379 z_Row).South) [] l4377)), knestO (aggI ints_A8_Int) vB K4378 l4377, knestO (aggI ints_A8_Int) vB ([] : List (A8_Int × (HM × List (Option (List (A8_Int × Bool)))))) ([] : List (A8_Int × List (Option (List (A8_Int × Bool))))), rowR enc_Tile A_p0 c_p0 p0] [blk g4388 (.cells #[(.slice ((H2778 x4379.toNat 0).1) ((rdD t2771 x4379 z_Row).Cells).length ((H2778 x4379.toNat 0).2)), (iv (((rdD t2771 x4379 z_Row).South).e0)), (iv (((rdD t2771 x4379 z_Row).South).e1)), (iv (((rdD t2771 x4379 z_Row).South).e2)), (iv (((rdD t2771 x4379 z_Row).South).e3)), (iv (((rdD t2771 x4379 z_Row).South).e4)), (iv (((rdD t2771 x4379 z_Row).South).e5)), (iv (((rdD t2771 x4379 z_Row).South).e6)), (iv (((rdD t2771 x4379 z_Row).South).e7)), (iv (((rdD t2771 x4379 z_Row).North).e0)), (iv (((rdD t2771 x4379 z_Row).North).e1)), (iv (((rdD t2771 x4379 z_Row).North).e2)), (iv (((rdD t2771 x4379 z_Row).North).e3)), (iv (((rdD t2771 x4379 z_Row).North).e4)), (iv (((rdD t2771 x4379 z_Row).North).e5)), (iv (((rdD t2771 x4379 z_Row).North).e6)), (iv (((rdD t2771 x4379 z_Row).North).e7)), (iv ((rdD t2771 x4379 z_Row).West)), (iv ((rdD t2771 x4379 z_Row).East))] 85 (0, 0)), blk g1903 (.cells #[(iv 0), (iv 0), (.slice none 0 0)] 27 (0, 0)), rowO 85 encN_Row A2776 c2777 (tag H2778 t2771), poolO [nestO subN_Row H2778 t2771], blk g2779 (mapObj (aggI ints_A8_Int) slV K4378), blk g2783 (.cells #[(iv p1), (iv p2), (.slice none 0 0)] 27 (0, 0))] := hS4393.addR _ (knestO.row (hS4393.rdL 0) ((rdD t2771 x4379 z_Row).South))
    have hS4395 : St NoS w w4392 [mapsO (aggI ints_A8_Int) vB ((mget ((rdD t2771 x4379 z_Row).South) zHM K4378).1.2.2) (mget ((rdD t2771 x4379 z_Row).South) [] l4377), rowR (encMap A8_Int Bool) ((mget ((rdD t2771 x4379 z_Row).South) zHM K4378).1.1) ((mget ((rdD t2771 x4379 z_Row).South) zHM K4378).1.2.1) (tag ((mget ((rdD t2771 x4379 z_Row).South) zHM K4378).1.2.2) (mget ((rdD t2771 x4379 z_Row).South) [] l4377)), knestO (aggI ints_A8_Int) vB K4378 l4377, knestO (aggI ints_A8_Int) vB ([] : List (A8_Int × (HM × List (Option (List (A8_Int × Bool)))))) ([] : List (A8_Int × List (Option (List (A8_Int × Bool))))), rowR enc_Tile A_p0 c_p0 p0] [blk g4388 (.cells #[(.slice ((H2778 x4379.toNat 0).1) ((rdD t2771 x4379 z_Row).Cells).length ((H2778 x4379.toNat 0).2)), (iv (((rdD t2771 x4379 z_Row).South).e0)), (iv (((rdD t2771 x4379 z_Row).South).e1)), (iv (((rdD t2771 x4379 z_Row).South).e2)), (iv (((rdD t2771 x4379 z_Row).South).e3)), (iv (((rdD t2771 x4379 z_Row).South).e4)), (iv (((rdD t2771 x4379 z_Row).South).e5)), (iv (((rdD t2771 x4379 z_Row).South).e6)), (iv (((rdD t2771 x4379 z_Row).South).e7)), (iv (((rdD t2771 x4379 z_Row).North).e0)), (iv (((rdD t2771 x4379 z_Row).North).e1)), (iv (((rdD t2771 x4379 z_Row).North).e2)), (iv (((rdD t2771 x4379 z_Row).North).e3)), (iv (((rdD t2771 x4379 z_Row).North).e4)), (iv (((rdD t2771 x4379 z_Row).North).e5)), (iv (((rdD t2771 x4379 z_Row).North).e6)), (iv (((rdD t2771 x4379 z_Row).North).e7)), (iv ((rdD t2771 x4379 z_Row).West)), (iv ((rdD t2771 x4379 z_Row).East))] 85 (0, 0)), blk g1903 (.cells #[(iv 0), (iv 0), (.slice none 0 0)] 27 (0, 0)), rowO 85 encN_Row A2776 c2777 (tag H2778 t2771), poolO [nestO subN_Row H2778 t2771], blk g2779 (mapObj (aggI ints_A8_Int) slV K4378), blk g2783 (.cells #[(iv p1), (iv p2), (.slice none 0 0)] 27 (0, 0))] := hS4394.addR _ (knestO.maps (hS4394.rdL 1) ((rdD t2771 x4379 z_Row).South))
    refine seg 9 [] [2, 6, 8, 9, 10, 12, 13, 14, 26, 27, 28] [(2, (iv p2)), (6, (pt g1903)), (8, (.slice A2776 t2771.length c2777)), (9, (.map (some g2779))), (10, (pt g2783)), (12, (pt g4388)), (13, (.slice ((mget ((rdD t2771 x4379 z_Row).South) zHM K4378).1.1) (mget ((rdD t2771 x4379 z_Row).South) [] l4377).length ((mget ((rdD t2771 x4379 z_Row).South) zHM K4378).1.2.1))), (14, (.bool (mhas ((rdD t2771 x4379 z_Row).South) l4377))), (26, (.slice A2776 t2771.length c2777)), (27, (iv (t2771.length : Int))), (28, (iv x4379))] [] (fun fb => by kernel_rfl) rfl trivial ?_
    refine WL.done rfl ?_
    refine WX.next ?_
    refine WC.seq ?_
    refine WC.seq ?_
    refine WC.region ?_
    refine seg 2 [] [2, 6, 8, 9, 10, 12, 13, 26, 27, 28, 40] [(2, (iv p2)), (6, (pt g1903)), (8, (.slice A2776 t2771.length c2777)), (9, (.map (some g2779))), (10, (pt g2783)), (12, (pt g4388)), (13, (.slice ((mget ((rdD t2771 x4379 z_Row).South) zHM K4378).1.1) (mget ((rdD t2771 x4379 z_Row).South) [] l4377).length ((mget ((rdD t2771 x4379 z_Row).South) zHM K4378).1.2.1))), (26, (.slice A2776 t2771.length c2777)), (27, (iv (t2771.length : Int))), (28, (iv x4379)), (40, (.bool (!(mhas ((rdD t2771 x4379 z_Row).South) l4377))))] [] (fun fb => by kernel_rfl) rfl trivial ?_
    refine WL.done rfl ?_
    refine WX.next ?_
    obtain ⟨x4416, hx4417, hl4385⟩ := bind_some hl4385
    refine WC.cutN (T := ((List (A8_Int × List (Option (List (A8_Int × Bool))))) × (List (Option (List (A8_Int × Bool))))) × (List (A8_Int × (HM × List (Option (List (A8_Int × Bool)))))) × (Option Addr) × Nat × (Nat → Nat)) (fun t => [(2, (iv p2)), (6, (pt g1903)), (8, (.slice A2776 t2771.length c2777)), (9, (.map (some g2779))), (10, (pt g2783)), (12, (pt g4388)), (13, (.slice t.2.2.1 t.1.2.length t.2.2.2.1)), (26, (.slice A2776 t2771.length c2777)), (27, (iv (t2771.length : Int))), (28, (iv x4379))]) (fun t w1 => St NoS w w1 [knestO (aggI ints_A8_Int) vB t.2.1 t.1.1, rowR (encMap A8_Int Bool) t.2.2.1 t.2.2.2.1 (tag t.2.2.2.2 t.1.2), mapsO (aggI ints_A8_Int) vB t.2.2.2.2 t.1.2, mapsO (aggI ints_A8_Int) vB ((mget ((rdD t2771 x4379 z_Row).South) zHM K4378).1.2.2) (mget ((rdD t2771 x4379 z_Row).South) [] l4377), rowR (encMap A8_Int Bool) ((mget ((rdD t2771 x4379 z_Row).South) zHM K4378).1.1) ((mget ((rdD t2771 x4379 z_Row).South) zHM K4378).1.2.1) (tag ((mget ((rdD t2771 x4379 z_Row).South) zHM K4378).1.2.2) (mget ((rdD t2771 x4379 z_Row).South) [] l4377)), knestO (aggI ints_A8_Int) vB K4378 l4377, knestO (aggI ints_A8_Int) vB ([] : List (A8_Int × (HM × List (Option (List (A8_Int × Bool)))))) ([] : List (A8_Int × List (Option (List (A8_Int × Bool))))), rowR enc_Tile A_p0 c_p0 p0] [blk g1903 (.cells #[(iv 0), (iv 0), (.slice none 0 0)] 27 (0, 0)), rowO 85 encN_Row A2776 c2777 (tag H2778 t2771), poolO [nestO subN_Row H2778 t2771], blk g2779 (mapObj (aggI ints_A8_Int) slV t.2.1), blk g2783 (.cells #[(iv p1), (iv p2), (.slice none 0 0)] 27 (0, 0)), blk g4388 (.cells #[(.slice ((H2778 x4379.toNat 0).1) ((rdD t2771 x4379 z_Row).Cells).length ((H2778 x4379.toNat 0).2)), (iv (((rdD t2771 x4379 z_Row).South).e0)), (iv (((rdD t2771 x4379 z_Row).South).e1)), (iv (((rdD t2771 x4379 z_Row).South).e2)), (iv (((rdD t2771 x4379 z_Row).South).e3)), (iv (((rdD t2771 x4379 z_Row).South).e4)), (iv (((rdD t2771 x4379 z_Row).South).e5)), (iv (((rdD t2771 x4379 z_Row).South).e6)), (iv (((rdD t2771 x4379 z_Row).South).e7)), (iv (((rdD t2771 x4379 z_Row).North).e0)), (iv (((rdD t2771 x4379 z_Row).North).e1)), (iv (((rdD t2771 x4379 z_Row).North).e2)), (iv (((rdD t2771 x4379 z_Row).North).e3)), (iv (((rdD t2771 x4379 z_Row).North).e4)), (iv (((rdD t2771 x4379 z_Row).North).e5)), (iv (((rdD t2771 x4379 z_Row).North).e6)), (iv (((rdD t2771 x4379 z_Row).North).e7)), (iv ((rdD t2771 x4379 z_Row).West)), (iv ((rdD t2771 x4379 z_Row).East))] 85 (0, 0))] ∧ x4416 = t.1) (fun Kx4416 => ?_) ?_
    ·
     rcases br_some hx4417 with ⟨h4418, hx4417⟩ | ⟨h4418, hx4417⟩
     ·refine WC.condT2 (fun fb => by kernel_rfl) h4418 ?_
      refine WC.seq ?_
      refine WC.region ?_
      refine seg 5 [.v (iv (((rdD t2771 x4379 z_Row).South).e0)), .v (iv (((rdD t2771 x4379 z_Row).South).e1)), .v (iv (((rdD t2771 x4379 z_Row).South).e2)), .v (iv (((rdD t2771 x4379 z_Row).South).e3)), .v (iv (((rdD t2771 x4379 z_Row).South).e4)), .v (iv (((rdD t2771 x4379 z_Row).South).e5)), .v (iv (((rdD t2771 x4379 z_Row).South).e6)), .v (iv (((rdD t2771 x4379 z_Row).South).e7))] [2, 6, 8, 9, 10, 12, 26, 27, 28, 41, 43, 45] [(2, (iv p2)), (6, (pt g1903)), (8, (.slice A2776 t2771.length c2777)), (9, (.map (some g2779))), (10, (pt g2783)), (12, (pt g4388)), (26, (.slice A2776 t2771.length c2777)), (27, (iv (t2771.length : Int))), (28, (iv x4379)), (41, (.slice A2776 t2771.length c2777)), (43, (.agg #[(iv (((rdD t2771 x4379 z_Row).South).e0)), (iv (((rdD t2771 x4379 z_Row).South).e1)), (iv (((rdD t2771 x4379 z_Row).South).e2)), (iv (((rdD t2771 x4379 z_Row).South).e3)), (iv (((rdD t2771 x4379 z_Row).South).e4)), (iv (((rdD t2771 x4379 z_Row).South).e5)), (iv (((rdD t2771 x4379 z_Row).South).e6)), (iv (((rdD t2771 x4379 z_Row).South).e7))])), (45, (iv (w64 (p2 - 1))))] [.cell ⟨g4388, 1, none⟩ (iv (((rdD t2771 x4379 z_Row).South).e0)), .cell ⟨g4388, 2, none⟩ (iv (((rdD t2771 x4379 z_Row).South).e1)), .cell ⟨g4388, 3, none⟩ (iv (((rdD t2771 x4379 z_Row).South).e2)), .cell ⟨g4388, 4, none⟩ (iv (((rdD t2771 x4379 z_Row).South).e3)), .cell ⟨g4388, 5, none⟩ (iv (((rdD t2771 x4379 z_Row).South).e4)), .cell ⟨g4388, 6, none⟩ (iv (((rdD t2771 x4379 z_Row).South).e5)), .cell ⟨g4388, 7, none⟩ (iv (((rdD t2771 x4379 z_Row).South).e6)), .cell ⟨g4388, 8, none⟩ (iv (((rdD t2771 x4379 z_Row).South).e7))] (fun fb => by kernel_rfl) rfl ⟨hS4395.cell 0 rfl 1 rfl, hS4395.cell 0 rfl 2 rfl, hS4395.cell 0 rfl 3 rfl, hS4395.cell 0 rfl 4 rfl, hS4395.cell 0 rfl 5 rfl, hS4395.cell 0 rfl 6 rfl, hS4395.cell 0 rfl 7 rfl, hS4395.cell 0 rfl 8 rfl, trivial⟩ ?_
      obtain ⟨t4419, ht4420, hx4417⟩ := bind_some hx4417
      refine WL.call (some 46) 82 #[(.slice A2776 t2771.length c2777), (.agg #[(iv (((rdD t2771 x4379 z_Row).South).e0)), (iv (((rdD t2771 x4379 z_Row).South).e1)), (iv (((rdD t2771 x4379 z_Row).South).e2)), (iv (((rdD t2771 x4379 z_Row).South).e3)), (iv (((rdD t2771 x4379 z_Row).South).e4)), (iv (((rdD t2771 x4379 z_Row).South).e5)), (iv (((rdD t2771 x4379 z_Row).South).e6)), (iv (((rdD t2771 x4379 z_Row).South).e7))]), (iv (w64 (p2 - 1)))] (fun fb => by kernel_rfl) (torus_back_calls _ t2771 ((rdD t2771 x4379 z_Row).South) (w64 (p2 - 1)) A2776 c2777 H2778 t4419 _ (hS4395.ow 2).ofO (poolO.ro (hS4395.ow 3) 0) ht4420) (fun v w4421 hR4422 => ?_)
      obtain ⟨A4424, c4425, H4426, rfl, hk_⟩ := hR4422
      have hS4423 : St NoS w w4421 [mapsO (aggI ints_A8_Int) vB ((mget ((rdD t2771 x4379 z_Row).South) zHM K4378).1.2.2) (mget ((rdD t2771 x4379 z_Row).South) [] l4377), rowR (encMap A8_Int Bool) ((mget ((rdD t2771 x4379 z_Row).South) zHM K4378).1.1) ((mget ((rdD t2771 x4379 z_Row).South) zHM K4378).1.2.1) (tag ((mget ((rdD t2771 x4379 z_Row).South) zHM K4378).1.2.2) (mget ((rdD t2771 x4379 z_Row).South) [] l4377)), knestO (aggI ints_A8_Int) vB K4378 l4377, knestO (aggI ints_A8_Int) vB ([] : List (A8_Int × (HM × List (Option (List (A8_Int × Bool)))))) ([] : List (A8_Int × List (Option (List (A8_Int × Bool))))), rowR enc_Tile A_p0 c_p0 p0] [rowO 91 (encMap A8_Int Bool) A4424 c4425 (tag H4426 t4419), mapsO (aggI ints_A8_Int) vB H4426 t4419, blk g4388 (.cells #[(.slice ((H2778 x4379.toNat 0).1) ((rdD t2771 x4379 z_Row).Cells).length ((H2778 x4379.toNat 0).2)), (iv (((rdD t2771 x4379 z_Row).South).e0)), (iv (((rdD t2771 x4379 z_Row).South).e1)), (iv (((rdD t2771 x4379 z_Row).South).e2)), (iv (((rdD t2771 x4379 z_Row).South).e3)), (iv (((rdD t2771 x4379 z_Row).South).e4)), (iv (((rdD t2771 x4379 z_Row).South).e5)), (iv (((rdD t2771 x4379 z_Row).South).e6)), (iv (((rdD t2771 x4379 z_Row).South).e7)), (iv (((rdD t2771 x4379 z_Row).North).e0)), (iv (((rdD t2771 x4379 z_Row).North).e1)), (iv (((rdD t2771 x4379 z_Row).North).e2)), (iv (((rdD t2771 x4379 z_Row).North).e3)), (iv (((rdD t2771 x4379 z_Row).North).e4)), (iv (((rdD t2771 x4379 z_Row).North).e5)), (iv (((rdD t2771 x4379 z_Row).North).e6)), (iv (((rdD t2771 x4379 z_Row).North).e7)), (iv ((rdD t2771 x4379 z_Row).West)), (iv ((rdD t2771 x4379 z_Row).East))] 85 (0, 0)), blk g1903 (.cells #[(iv 0), (iv 0), (.slice none 0 0)] 27 (0, 0)), rowO 85 encN_Row A2776 c2777 (tag H2778 t2771), poolO [nestO subN_Row H2778 t2771], blk g2779 (mapObj (aggI ints_A8_Int) slV K4378), blk g2783 (.cells #[(iv p1), (iv p2), (.slice none 0 0)] 27 (0, 0))] := hS4395.call hk_ [] [0, 1, 2, 3, 4, 5] (fun g hg => hg.elim) (by simp) (by decide)
      refine ⟨trivial, ?_⟩
      refine seg 7 [] [2, 6, 8, 9, 10, 12, 13, 26, 27, 28] [(2, (iv p2)), (6, (pt g1903)), (8, (.slice A2776 t2771.length c2777)), (9, (.map (some g2779))), (10, (pt g2783)), (12, (pt g4388)), (13, (.slice A4424 t4419.length c4425)), (26, (.slice A2776 t2771.length c2777)), (27, (iv (t2771.length : Int))), (28, (iv x4379))] [] (fun fb => by kernel_rfl) rfl trivial ?_
      refine WL.done rfl ?_
      refine WX.next ?_
      refine WC.region ?_
      refine seg 4 [.v (iv (((rdD t2771 x4379 z_Row).South).e0)), .v (iv (((rdD t2771 x4379 z_Row).South).e1)), .v (iv (((rdD t2771 x4379 z_Row).South).e2)), .v (iv (((rdD t2771 x4379 z_Row).South).e3)), .v (iv (((rdD t2771 x4379 z_Row).South).e4)), .v (iv (((rdD t2771 x4379 z_Row).South).e5)), .v (iv (((rdD t2771 x4379 z_Row).South).e6)), .v (iv (((rdD t2771 x4379 z_Row).South).e7))] [2, 6, 8, 9, 10, 12, 13, 26, 27, 28, 47, 49, 50] [(2, (iv p2)), (6, (pt g1903)), (8, (.slice A2776 t2771.length c2777)), (9, (.map (some g2779))), (10, (pt g2783)), (12, (pt g4388)), (13, (.slice A4424 t4419.length c4425)), (26, (.slice A2776 t2771.length c2777)), (27, (iv (t2771.length : Int))), (28, (iv x4379)), (47, (.map (some g2779))), (49, (.agg #[(iv (((rdD t2771 x4379 z_Row).South).e0)), (iv (((rdD t2771 x4379 z_Row).South).e1)), (iv (((rdD t2771 x4379 z_Row).South).e2)), (iv (((rdD t2771 x4379 z_Row).South).e3)), (iv (((rdD t2771 x4379 z_Row).South).e4)), (iv (((rdD t2771 x4379 z_Row).South).e5)), (iv (((rdD t2771 x4379 z_Row).South).e6)), (iv (((rdD t2771 x4379 z_Row).South).e7))])), (50, (.slice A4424 t4419.length c4425))] [.cell ⟨g4388, 1, none⟩ (iv (((rdD t2771 x4379 z_Row).South).e0)), .cell ⟨g4388, 2, none⟩ (iv (((rdD t2771 x4379 z_Row).South).e1)), .cell ⟨g4388, 3, none⟩ (iv (((rdD t2771 x4379 z_Row).South).e2)), .cell ⟨g4388, 4, none⟩ (iv (((rdD t2771 x4379 z_Row).South).e3)), .cell ⟨g4388, 5, none⟩ (iv (((rdD t2771 x4379 z_Row).South).e4)), .cell ⟨g4388, 6, none⟩ (iv (((rdD t2771 x4379 z_Row).South).e5)), .cell ⟨g4388, 7, none⟩ (iv (((rdD t2771 x4379 z_Row).South).e6)), .cell ⟨g4388, 8, none⟩ (iv (((rdD t2771 x4379 z_Row).South).e7))] (fun fb => by kernel_rfl) rfl ⟨hS4423.cell 2 rfl 1 rfl, hS4423.cell 2 rfl 2 rfl, hS4423.cell 2 rfl 3 rfl, hS4423.cell 2 rfl 4 rfl, hS4423.cell 2 rfl 5 rfl, hS4423.cell 2 rfl 6 rfl, hS4423.cell 2 rfl 7 rfl, hS4423.cell 2 rfl 8 rfl, trivial⟩ ?_
      have hS4427 : St NoS w w4421 [mapsO (aggI ints_A8_Int) vB H4426 t4419, mapsO (aggI ints_A8_Int) vB ((mget ((rdD t2771 x4379 z_Row).South) zHM K4378).1.2.2) (mget ((rdD t2771 x4379 z_Row).South) [] l4377), rowR (encMap A8_Int Bool) ((mget ((rdD t2771 x4379 z_Row).South) zHM K4378).1.1) ((mget ((rdD t2771 x4379 z_Row).South) zHM K4378).1.2.1) (tag ((mget ((rdD t2771 x4379 z_Row).South) zHM K4378).1.2.2) (mget ((rdD t2771 x4379 z_Row).South) [] l4377)), knestO (aggI ints_A8_Int) vB K4378 l4377, knestO (aggI ints_A8_Int) vB ([] : List (A8_Int × (HM × List (Option (List (A8_Int × Bool)))))) ([] : List (A8_Int × List (Option (List (A8_Int × Bool))))), rowR enc_Tile A_p0 c_p0 p0] [rowO 91 (encMap A8_Int Bool) A4424 c4425 (tag H4426 t4419), blk g4388 (.cells #[(.slice ((H2778 x4379.toNat 0).1) ((rdD t2771 x4379 z_Row).Cells).length ((H2778 x4379.toNat 0).2)), (iv (((rdD t2771 x4379 z_Row).South).e0)), (iv (((rdD t2771 x4379 z_Row).South).e1)), (iv (((rdD t2771 x4379 z_Row).South).e2)), (iv (((rdD t2771 x4379 z_Row).South).e3)), (iv (((rdD t2771 x4379 z_Row).South).e4)), (iv (((rdD t2771 x4379 z_Row).South).e5)), (iv (((rdD t2771 x4379 z_Row).South).e6)), (iv (((rdD t2771 x4379 z_Row).South).e7)), (iv (((rdD t2771 x4379 z_Row).North).e0)), (iv (((rdD t2771 x4379 z_Row).North).e1)), (iv (((rdD t2771 x4379 z_Row).North).e2)), (iv (((rdD t2771 x4379 z_Row).North).e3)), (iv (((rdD t2771 x4379 z_Row).North).e4)), (iv (((rdD t2771 x4379 z_Row).North).e5)), (iv (((rdD t2771 x4379 z_Row).North).e6)), (iv (((rdD t2771 x4379 z_Row).North).e7)), (iv ((rdD t2771 x4379 z_Row).West)), (iv ((rdD t2771 x4379 z_Row).East))] 85 (0, 0)), blk g1903 (.cells #[(iv 0), (iv 0), (.slice none 0 0)] 27 (0, 0)), rowO 85 encN_Row A2776 c2777 (tag H2778 t2771), poolO [nestO subN_Row H2778 t2771], blk g2779 (mapObj (aggI ints_A8_Int) slV K4378), blk g2783 (.cells #[(iv p1), (iv p2), (.slice none 0 0)] 27 (0, 0))] := hS4423.freezeO 1 [0, 2, 3, 4, 5, 6, 7] (by decide) (by decide)
      have hS4428 : St NoS w w4421 [rowR (encMap A8_Int Bool) A4424 c4425 (tag H4426 t4419), mapsO (aggI ints_A8_Int) vB H4426 t4419, mapsO (aggI ints_A8_Int) vB ((mget ((rdD t2771 x4379 z_Row).South) zHM K4378).1.2.2) (mget ((rdD t2771 x4379 z_Row).South) [] l4377), rowR (encMap A8_Int Bool) ((mget ((rdD t2771 x4379 z_Row).South) zHM K4378).1.1) ((mget ((rdD t2771 x4379 z_Row).South) zHM K4378).1.2.1) (tag ((mget ((rdD t2771 x4379 z_Row).South) zHM K4378).1.2.2) (mget ((rdD t2771 x4379 z_Row).South) [] l4377)), knestO (aggI ints_A8_Int) vB K4378 l4377, knestO (aggI ints_A8_Int) vB ([] : List (A8_Int × (HM × List (Option (List (A8_Int × Bool)))))) ([] : List (A8_Int × List (Option (List (A8_Int × Bool))))), rowR enc_Tile A_p0 c_p0 p0] [blk g4388 (.cells #[(.slice ((H2778 x4379.toNat 0).1) ((rdD t2771 x4379 z_Row).Cells).length ((H2778 x4379.toNat 0).2)), (iv (((rdD t2771 x4379 z_Row).South).e0)), (iv (((rdD t2771 x4379 z_Row).South).e1)), (iv (((rdD t2771 x4379 z_Row).South).e2)), (iv (((rdD t2771 x4379 z_Row).South).e3)), (iv (((rdD t2771 x4379 z_Row).South).e4)), (iv (((rdD t2771 x4379 z_Row).South).e5)), (iv (((rdD t2771 x4379 z_Row).South).e6)), (iv (((rdD t2771 x4379 z_Row).South).e7)), (iv (((rdD t2771 x4379 z_Row).North).e0)), (iv (((rdD t2771 x4379 z_Row).North).e1)), (iv (((rdD t2771 x4379 z_Row).North).e2)), (iv (((rdD t2771 x4379 z_Row).North).e3)), (iv (((rdD t2771 x4379 z_Row).North).e4)), (iv (((rdD t2771 x4379 z_Row).North).e5)), (iv (((rdD t2771 x4379 z_Row).North).e6)), (iv (((rdD t2771 x4379 z_Row).North).e7)), (iv ((rdD t2771 x4379 z_Row).West)), (iv ((rdD t2771 x4379 z_Row).East))] 85 (0, 0)), blk g1903 (.cells #[(iv 0), (iv 0), (.slice none 0 0)] 27 (0, 0)), rowO 85 encN_Row A2776 c2777 (tag H2778 t2771), poolO [nestO subN_Row H2778 t2771], blk g2779 (mapObj (aggI ints_A8_Int) slV K4378), blk g2783 (.cells #[(iv p1), (iv p2), (.slice none 0 0)] 27 (0, 0))] := hS4427.freezeRow 0 rfl [1, 2, 3, 4, 5, 6] (by decide) (by decide)
      refine WL.mapput hS4428 4 (t := 117) (kT := 83) (eT := 90) (kE := (aggI ints_A8_Int)) (vE := slV) (l := K4378) rfl ((rdD t2771 x4379 z_Row).South) ((A4424, c4425, H4426), t4419) (fun fb => by kernel_rfl) torus_find_key83 (by kernel_rfl) [0, 1, 2, 3, 5] (by decide) (by decide) (fun w4429 hS4430 => ?_)
      have hS4431 : St NoS w w4429 [knestO (aggI ints_A8_Int) vB (mput ((rdD t2771 x4379 z_Row).South) ((A4424, c4425, H4426), t4419) K4378) (mput ((rdD t2771 x4379 z_Row).South) t4419 l4377), rowR (encMap A8_Int Bool) A4424 c4425 (tag H4426 t4419), mapsO (aggI ints_A8_Int) vB H4426 t4419, mapsO (aggI ints_A8_Int) vB ((mget ((rdD t2771 x4379 z_Row).South) zHM K4378).1.2.2) (mget ((rdD t2771 x4379 z_Row).South) [] l4377), rowR (encMap A8_Int Bool) ((mget ((rdD t2771 x4379 z_Row).South) zHM K4378).1.1) ((mget ((rdD t2771 x4379 z_Row).South) zHM K4378).1.2.1) (tag ((mget ((rdD t2771 x4379 z_Row).South) zHM K4378).1.2.2) (mget ((rdD t2771 x4379 z_Row).South) [] l4377)), knestO (aggI ints_A8_Int) vB K4378 l4377, knestO (aggI ints_A8_Int) vB ([] : List (A8_Int × (HM × List (Option (List (A8_Int × Bool)))))) ([] : List (A8_Int × List (Option (List (A8_Int × Bool))))), rowR enc_Tile A_p0 c_p0 p0] [blk g2779 (mapObj (aggI ints_A8_Int) slV (mput ((rdD t2771 x4379 z_Row).South) ((A4424, c4425, H4426), t4419) K4378)), blk g4388 (.cells #[(.slice ((H2778 x4379.toNat 0).1) ((rdD t2771 x4379 z_Row).Cells).length ((H2778 x4379.toNat 0).2)), (iv (((rdD t2771 x4379 z_Row).South).e0)), (iv (((rdD t2771 x4379 z_Row).South).e1)), (iv (((rdD t2771 x4379 z_Row).South).e2)), (iv (((rdD t2771 x4379 z_Row).South).e3)), (iv (((rdD t2771 x4379 z_Row).South).e4)), (iv (((rdD t2771 x4379 z_Row).South).e5)), (iv (((rdD t2771 x4379 z_Row).South).e6)), (iv (((rdD t2771 x4379 z_Row).South).e7)), (iv (((rdD t2771 x4379 z_Row).North).e0)), (iv (((rdD t2771 x4379 z_Row).North).e1)), (iv (((rdD t2771 x4379 z_Row).North).e2)), (iv (((rdD t2771 x4379 z_Row).North).e3)), (iv (((rdD t2771 x4379 z_Row).North).e4)), (iv (((rdD t2771 x4379 z_Row).North).e5)), (iv (((rdD t2771 x4379 z_Row).North).e6)), (iv (((rdD t2771 x4379 z_Row).North).e7)), (iv ((rdD t2771 x4379 z_Row).West)), (iv ((rdD t2771 x4379 z_Row).East))] 85 (0, 0)), blk g1903 (.cells #[(iv 0), (iv 0), (.slice none 0 0)] 27 (0, 0)), rowO 85 encN_Row A2776 c2777 (tag H2778 t2771), poolO [nestO subN_Row H2778 t2771], blk g2783 (.cells #[(iv p1), (iv p2), (.slice none 0 0)] 27 (0, 0))] := hS4430.addR _ (knestO.put (hS4430.rdL 4) ((rdD t2771 x4379 z_Row).South) (hS4430.rdL 0) (hS4430.rdL 1))
      refine ⟨trivial, ?_⟩
      refine WL.done rfl ?_
      injection hx4417 with hx4417
      exact WX.to Kx4416 ((mput ((rdD t2771 x4379 z_Row).South) t4419 l4377, t4419), mput ((rdD t2771 x4379 z_Row).South) ((A4424, c4425, H4426), t4419) K4378, A4424, c4425, H4426) [2, 6, 8, 9, 10, 12, 13, 26, 27, 28] rfl ⟨(hS4431.subR [0, 1, 2, 3, 4, 5, 6, 7]).sub [2, 3, 4, 0, 5, 1] (by decide), hx4417.symm⟩
     refine WC.condF2 (fun fb => by kernel_rfl) h4418 ?_
     refine WC.skip ?_
     injection hx4417 with hx4417
     exact WX.to Kx4416 ((l4377, (mget ((rdD t2771 x4379 z_Row).South) [] l4377)), K4378, (mget ((rdD t2771 x4379 z_Row).South) zHM K4378).1.1, (mget ((rdD t2771 x4379 z_Row).South) zHM K4378).1.2.1, ((mget ((rdD t2771 x4379 z_Row).South) zHM K4378).1.2.2)) [2, 6, 8, 9, 10, 12, 13, 26, 27, 28] rfl ⟨(hS4395.subR [2, 1, 0, 0, 1, 2, 3, 4]).sub [1, 2, 3, 4, 5, 0] (by decide), hx4417.symm⟩
    rintro ⟨y4435, K4411, A4412, c4413, H4415⟩ w4432 ⟨hS4433, hq4434⟩
    subst hq4434
    refine WX.next ?_
    refine WC.seq ?_
    refine WC.seq ?_
    obtain ⟨h4444, hl4385⟩ := as_some hl4385
    obtain ⟨m4445, hm4446, hl4385⟩ := bind_some hl4385
    refine WC.regionD ([(4, ((adr A4412).add ((w64 (p2 - 1)).toNat * 1)), (.map (some (H4415 (w64 (p2 - 1)).toNat)))), (6, ⟨g4388, 9, none⟩, (iv (((rdD t2771 x4379 z_Row).North).e0))), (6, ⟨g4388, 10, none⟩, (iv (((rdD t2771 x4379 z_Row).North).e1))), (6, ⟨g4388, 11, none⟩, (iv (((rdD t2771 x4379 z_Row).North).e2))), (6, ⟨g4388, 12, none⟩, (iv (((rdD t2771 x4379 z_Row).North).e3))), (6, ⟨g4388, 13, none⟩, (iv (((rdD t2771 x4379 z_Row).North).e4))), (6, ⟨g4388, 14, none⟩, (iv (((rdD t2771 x4379 z_Row).North).e5))), (6, ⟨g4388, 15, none⟩, (iv (((rdD t2771 x4379 z_Row).North).e6))), (6, ⟨g4388, 16, none⟩, (iv (((rdD t2771 x4379 z_Row).North).e7)))], [0, 1, 2, 3, 4, 5, 6, 8], [[], [], [1], [0, 1, 2], [0, 1, 2, 3], [], [5], [0, 1, 2, 3, 4, 5, 6], [0, 1, 2, 3, 4, 5, 6, 7]]) [[0, 1, 2, 3, 4, 5, 6, 7, 8]] (by kernel_rfl) (by kernel_rfl) (NoPanic.seq (NoPanic.seq (NoPanic.block (NoPanic.seq (NoPanic.seq (NoPanic.block (NoPanic.seq (NoPanic.scope (NoPanic.body))))))))) ?_
    have hS4440 := hS4433.drew
    revert hS4440
    generalize World.drew w4432 = w4439
    intro hS4440
    refine ⟨⟨nrow_cell (hS4440.rd 1).1 none h4444.1 h4444.2 0 (mapV_some hm4446), hS4440.cell 5 rfl 9 rfl, hS4440.cell 5 rfl 10 rfl, hS4440.cell 5 rfl 11 rfl, hS4440.cell 5 rfl 12 rfl, hS4440.cell 5 rfl 13 rfl, hS4440.cell 5 rfl 14 rfl, hS4440.cell 5 rfl 15 rfl, hS4440.cell 5 rfl 16 rfl, trivial⟩, forallC ?_ (forallN)⟩
    refine segF 7 [.v (.map (some (H4415 (w64 (p2 - 1)).toNat))), .v (iv (((rdD t2771 x4379 z_Row).North).e0)), .v (iv (((rdD t2771 x4379 z_Row).North).e1)), .v (iv (((rdD t2771 x4379 z_Row).North).e2)), .v (iv (((rdD t2771 x4379 z_Row).North).e3)), .v (iv (((rdD t2771 x4379 z_Row).North).e4)), .v (iv (((rdD t2771 x4379 z_Row).North).e5)), .v (iv (((rdD t2771 x4379 z_Row).North).e6)), .v (iv (((rdD t2771 x4379 z_Row).North).e7))] [2, 6, 8, 9, 10, 12, 13, 26, 27, 28, 55, 57] [(2, (iv p2)), (6, (pt g1903)), (8, (.slice A2776 t2771.length c2777)), (9, (.map (some g2779))), (10, (pt g2783)), (12, (pt g4388)), (13, (.slice A4412 x4416.2.length c4413)), (26, (.slice A2776 t2771.length c2777)), (27, (iv (t2771.length : Int))), (28, (iv x4379)), (55, (.map (some (H4415 (w64 (p2 - 1)).toNat)))), (57, (.agg #[(iv (((rdD t2771 x4379 z_Row).North).e0)), (iv (((rdD t2771 x4379 z_Row).North).e1)), (iv (((rdD t2771 x4379 z_Row).North).e2)), (iv (((rdD t2771 x4379 z_Row).North).e3)), (iv (((rdD t2771 x4379 z_Row).North).e4)), (iv (((rdD t2771 x4379 z_Row).North).e5)), (iv (((rdD t2771 x4379 z_Row).North).e6)), (iv (((rdD t2771 x4379 z_Row).North).e7))]))] [.idx A4412 (w64 (p2 - 1)) x4416.2.length] [0, 1, 2, 3, 4, 5, 6, 7, 8] [(4, ((adr A4412).add ((w64 (p2 - 1)).toNat * 1)), (.map (some (H4415 (w64 (p2 - 1)).toNat)))), (6, ⟨g4388, 9, none⟩, (iv (((rdD t2771 x4379 z_Row).North).e0))), (6, ⟨g4388, 10, none⟩, (iv (((rdD t2771 x4379 z_Row).North).e1))), (6, ⟨g4388, 11, none⟩, (iv (((rdD t2771 x4379 z_Row).North).e2))), (6, ⟨g4388, 12, none⟩, (iv (((rdD t2771 x4379 z_Row).North).e3))), (6, ⟨g4388, 13, none⟩, (iv (((rdD t2771 x4379 z_Row).North).e4))), (6, ⟨g4388, 14, none⟩, (iv (((rdD t2771 x4379 z_Row).North).e5))), (6, ⟨g4388, 15, none⟩, (iv (((rdD t2771 x4379 z_Row).North).e6))), (6, ⟨g4388, 16, none⟩, (iv (((rdD t2771 x4379 z_Row).North).e7)))] (fun fb => by kernel_rfl) rfl ⟨nrow_adr (hS4440.rd 1).1 h4444.1 h4444.2, trivial⟩ rfl ?_
    refine WL.lookup (mapsO.at (hS4440.rd 2).1 h4444.1 h4444.2 hm4446) ((rdD t2771 x4379 z_Row).North) (d := 58) (c := false) (t := 91) (kT := 83) (eT := 4) (z := false) (kE := (aggI ints_A8_Int)) (vE := vB) (l := m4445) (.bool (mget ((rdD t2771 x4379 z_Row).North) false m4445)) (fun fb => by kernel_rfl) torus_find_key83 (by kernel_rfl) (fun _ => by kernel_rfl) rfl ?_
    refine ⟨trivial, ?_⟩
    refine seg 9 [] [2, 6, 8, 9, 10, 12, 13, 26, 27, 28, 59] [(2, (iv p2)), (6, (pt g1903)), (8, (.slice A2776 t2771.length c2777)), (9, (.map (some g2779))), (10, (pt g2783)), (12, (pt g4388)), (13, (.slice A4412 x4416.2.length c4413)), (26, (.slice A2776 t2771.length c2777)), (27, (iv (t2771.length : Int))), (28, (iv x4379)), (59, (.bool (!(mget ((rdD t2771 x4379 z_Row).North) false m4445))))] [] (fun fb => by kernel_rfl) rfl trivial ?_
    refine WL.done rfl ?_
    refine WX.next ?_
    rcases br_some hl4385 with ⟨h4447, hl4385⟩ | ⟨h4447, hl4385⟩
    ·refine WC.condT2 (fun fb => by kernel_rfl) h4447 ?_
     refine WC.exit ?_
     refine WX.thenX (WX.blockHere (WX.next ?_))
     refine WC.region ?_
     refine seg 2 [] [2, 6, 8, 9, 10, 26, 27, 28] [(2, (iv p2)), (6, (pt g1903)), (8, (.slice A2776 t2771.length c2777)), (9, (.map (some g2779))), (10, (pt g2783)), (26, (.slice A2776 t2771.length c2777)), (27, (iv (t2771.length : Int))), (28, (iv (w64 (x4379 + 1))))] [] (fun fb => by kernel_rfl) rfl trivial ?_
     refine WL.done rfl ?_
     exact WX.again k4382 (Nat.lt_succ_self _) ((x4416.1, w64 (x4379 + 1)), K4411) [2, 6, 8, 9, 10, 26, 27, 28] rfl ⟨(hS4440.subR [0, 6, 7]).sub [0, 1, 2, 3, 4] (by decide), hl4385⟩
    refine WC.condF2 (fun fb => by kernel_rfl) h4447 ?_
    refine WC.skip ?_
    refine WX.next ?_
    refine WC.seq ?_
    refine WC.region ?_
    refine seg 4 [.v (.slice none 0 0), .v (.slice ((H2778 x4379.toNat 0).1) ((rdD t2771 x4379 z_Row).Cells).length ((H2778 x4379.toNat 0).2))] [2, 6, 8, 10, 12, 13, 61, 63] [(2, (iv p2)), (6, (pt g1903)), (8, (.slice A2776 t2771.length c2777)), (10, (pt g2783)), (12, (pt g4388)), (13, (.slice A4412 x4416.2.length c4413)), (61, (.slice none 0 0)), (63, (.slice ((H2778 x4379.toNat 0).1) ((rdD t2771 x4379 z_Row).Cells).length ((H2778 x4379.toNat 0).2)))] [.cell ⟨g2783, 2, none⟩ (.slice none 0 0), .cell ⟨g4388, 0, none⟩ (.slice ((H2778 x4379.toNat 0).1) ((rdD t2771 x4379 z_Row).Cells).length ((H2778 x4379.toNat 0).2))] (fun fb => by kernel_rfl) rfl ⟨hS4440.cell 4 rfl 2 rfl, hS4440.cell 5 rfl 0 rfl, trivial⟩ ?_
    have hS4448 := hS4440.nilrow 3 encInt
    obtain ⟨h4449, hl4385⟩ := as_some hl4385
    refine WL.append hS4448 0 (d := 64) (tS := 25) (z := (iv 0)) (bytes := 8) (c2 := (H2778 x4379.toNat 0).2) rfl (fun fb => by kernel_rfl) (nestO.at ((hS4448.own 3).1 0) z_Row h4387.1 h4387.2) (by kernel_rfl) (by kernel_rfl) rfl (by decide) h4449 (by decide) [1, 2, 3, 4, 5, 6] (by decide) (by decide) (fun A4450 c4451 w4452 hS4453 => ?_)
    refine ⟨trivial, ?_⟩
    refine seg 6 [] [2, 6, 8, 10, 12, 13, 64, 65] [(2, (iv p2)), (6, (pt g1903)), (8, (.slice A2776 t2771.length c2777)), (10, (pt g2783)), (12, (pt g4388)), (13, (.slice A4412 x4416.2.length c4413)), (64, (.slice A4450 (([] : List Int) ++ ((rdD t2771 x4379 z_Row).Cells)).length c4451)), (65, (.pointer (some ⟨g2783, 2, none⟩)))] [] (fun fb => by kernel_rfl) rfl trivial ?_
    refine WL.store hS4453 5 rfl [(2, (.slice A4450 (([] : List Int) ++ ((rdD t2771 x4379 z_Row).Cells)).length c4451))] #[(iv p1), (iv p2), (.slice A4450 (([] : List Int) ++ ((rdD t2771 x4379 z_Row).Cells)).length c4451)] (fun fb => by kernel_rfl) (by kernel_rfl) rfl [0, 1, 2, 3, 4, 6] (by decide) (by decide) (fun w4454 hS4455 => ?_)
    refine ⟨trivial, ?_⟩
    refine WL.done rfl ?_
    refine WX.next ?_
    refine WC.seq ?_
    refine WC.region ?_
    refine seg 2 [.v (iv (((rdD t2771 x4379 z_Row).North).e0)), .v (iv (((rdD t2771 x4379 z_Row).North).e1)), .v (iv (((rdD t2771 x4379 z_Row).North).e2)), .v (iv (((rdD t2771 x4379 z_Row).North).e3)), .v (iv (((rdD t2771 x4379 z_Row).North).e4)), .v (iv (((rdD t2771 x4379 z_Row).North).e5)), .v (iv (((rdD t2771 x4379 z_Row).North).e6)), .v (iv (((rdD t2771 x4379 z_Row).North).e7))] [2, 6, 8, 10, 13, 67] [(2, (iv p2)), (6, (pt g1903)), (8, (.slice A2776 t2771.length c2777)), (10, (pt g2783)), (13, (.slice A4412 x4416.2.length c4413)), (67, (.agg #[(iv (((rdD t2771 x4379 z_Row).North).e0)), (iv (((rdD t2771 x4379 z_Row).North).e1)), (iv (((rdD t2771 x4379 z_Row).North).e2)), (iv (((rdD t2771 x4379 z_Row).North).e3)), (iv (((rdD t2771 x4379 z_Row).North).e4)), (iv (((rdD t2771 x4379 z_Row).North).e5)), (iv (((rdD t2771 x4379 z_Row).North).e6)), (iv (((rdD t2771 x4379 z_Row).North).e7))]))] [.cell ⟨g4388, 9, none⟩ (iv (((rdD t2771 x4379 z_Row).North).e0)), .cell ⟨g4388, 10, none⟩ (iv (((rdD t2771 x4379 z_Row).North).e1)), .cell ⟨g4388, 11, none⟩ (iv (((rdD t2771 x4379 z_Row).North).e2)), .cell ⟨g4388, 12, none⟩ (iv (((rdD t2771 x4379 z_Row).North).e3)), .cell ⟨g4388, 13, none⟩ (iv (((rdD t2771 x4379 z_Row).North).e4)), .cell ⟨g4388, 14, none⟩ (iv (((rdD t2771 x4379 z_Row).North).e5)), .cell ⟨g4388, 15, none⟩ (iv (((rdD t2771 x4379 z_Row).North).e6)), .cell ⟨g4388, 16, none⟩ (iv (((rdD t2771 x4379 z_Row).North).e7))] (fun fb => by kernel_rfl) rfl ⟨hS4455.cell 6 rfl 9 rfl, hS4455.cell 6 rfl 10 rfl, hS4455.cell 6 rfl 11 rfl, hS4455.cell 6 rfl 12 rfl, hS4455.cell 6 rfl 13 rfl, hS4455.cell 6 rfl 14 rfl, hS4455.cell 6 rfl 15 rfl, hS4455.cell 6 rfl 16 rfl, trivial⟩ ?_
    refine WL.new hS4455 15 [] (fun g => (.pointer (some ⟨g, 0, none⟩))) (.cells #[(iv 0), (iv 0), (iv 0), (iv 0), (iv 0), (iv 0), (iv 0), (iv 0)] 83 (0, 0)) [] (fun fb g => by kernel_rfl) trivial (fun g4456 w4457 hS4458 => ?_)
    refine ⟨trivial, ?_⟩
    refine WL.store hS4458 0 rfl [(0, (iv (((rdD t2771 x4379 z_Row).North).e0))), (1, (iv (((rdD t2771 x4379 z_Row).North).e1))), (2, (iv (((rdD t2771 x4379 z_Row).North).e2))), (3, (iv (((rdD t2771 x4379 z_Row).North).e3))), (4, (iv (((rdD t2771 x4379 z_Row).North).e4))), (5, (iv (((rdD t2771 x4379 z_Row).North).e5))), (6, (iv (((rdD t2771 x4379 z_Row).North).e6))), (7, (iv (((rdD t2771 x4379 z_Row).North).e7)))] #[(iv (((rdD t2771 x4379 z_Row).North).e0)), (iv (((rdD t2771 x4379 z_Row).North).e1)), (iv (((rdD t2771 x4379 z_Row).North).e2)), (iv (((rdD t2771 x4379 z_Row).North).e3)), (iv (((rdD t2771 x4379 z_Row).North).e4)), (iv (((rdD t2771 x4379 z_Row).North).e5)), (iv (((rdD t2771 x4379 z_Row).North).e6)), (iv (((rdD t2771 x4379 z_Row).North).e7))] (fun fb => by kernel_rfl) (by kernel_rfl) rfl [1, 2, 3, 4, 5, 6, 7] (by decide) (by decide) (fun w4460 hS4461 => ?_)
    refine ⟨trivial, ?_⟩
    refine WL.done rfl ?_
    refine WX.next ?_
    refine WC.seq ?_
    refine WC.seq ?_
    refine WC.region ?_
    refine seg 3 [] [6, 8, 10, 13, 15, 16] [(6, (pt g1903)), (8, (.slice A2776 t2771.length c2777)), (10, (pt g2783)), (13, (.slice A4412 x4416.2.length c4413)), (15, (pt g4456)), (16, (iv (w64 (p2 - 2))))] [] (fun fb => by kernel_rfl) rfl trivial ?_
    refine WL.done rfl ?_
    refine WX.next ?_
    obtain ⟨x4827, hx4828, hl4385⟩ := bind_some hl4385
    refine WC.cutN (T := (List Int) × (Option Addr) × Nat) (fun t => [(6, (pt g1903)), (10, (pt g2783))]) (fun t w1 => St NoS w w1 [knestO (aggI ints_A8_Int) vB K4411 x4416.1, rowR (encMap A8_Int Bool) A4412 c4413 (tag H4415 x4416.2), mapsO (aggI ints_A8_Int) vB H4415 x4416.2, mapsO (aggI ints_A8_Int) vB ((mget ((rdD t2771 x4379 z_Row).South) zHM K4378).1.2.2) (mget ((rdD t2771 x4379 z_Row).South) [] l4377), rowR (encMap A8_Int Bool) ((mget ((rdD t2771 x4379 z_Row).South) zHM K4378).1.1) ((mget ((rdD t2771 x4379 z_Row).South) zHM K4378).1.2.1) (tag ((mget ((rdD t2771 x4379 z_Row).South) zHM K4378).1.2.2) (mget ((rdD t2771 x4379 z_Row).South) [] l4377)), knestO (aggI ints_A8_Int) vB K4378 l4377, knestO (aggI ints_A8_Int) vB ([] : List (A8_Int × (HM × List (Option (List (A8_Int × Bool)))))) ([] : List (A8_Int × List (Option (List (A8_Int × Bool))))), rowR enc_Tile A_p0 c_p0 p0] [blk g1903 (.cells #[(iv 0), (iv 0), (.slice none 0 0)] 27 (0, 0)), blk g2783 (.cells #[(iv p1), (iv p2), (.slice t.2.1 t.1.length t.2.2)] 27 (0, 0)), rowO 3 encInt t.2.1 t.2.2 t.1] ∧ x4827 = t.1) (fun Kx4827 => ?_) ?_
    ·
     refine WC.block ?_
     refine WC.loop (T := ((List Int) × A8_Int × Int) × (Option Addr) × Nat) (fun t => [(6, (pt g1903)), (8, (.slice A2776 t2771.length c2777)), (10, (pt g2783)), (13, (.slice A4412 x4416.2.length c4413)), (15, (pt g4456)), (16, (iv t.1.2.2))]) (fun n t w1 => St NoS w w1 [knestO (aggI ints_A8_Int) vB K4411 x4416.1, rowR (encMap A8_Int Bool) A4412 c4413 (tag H4415 x4416.2), mapsO (aggI ints_A8_Int) vB H4415 x4416.2, mapsO (aggI ints_A8_Int) vB ((mget ((rdD t2771 x4379 z_Row).South) zHM K4378).1.2.2) (mget ((rdD t2771 x4379 z_Row).South) [] l4377), rowR (encMap A8_Int Bool) ((mget ((rdD t2771 x4379 z_Row).South) zHM K4378).1.1) ((mget ((rdD t2771 x4379 z_Row).South) zHM K4378).1.2.1) (tag ((mget ((rdD t2771 x4379 z_Row).South) zHM K4378).1.2.2) (mget ((rdD t2771 x4379 z_Row).South) [] l4377)), knestO (aggI ints_A8_Int) vB K4378 l4377, knestO (aggI ints_A8_Int) vB ([] : List (A8_Int × (HM × List (Option (List (A8_Int × Bool)))))) ([] : List (A8_Int × List (Option (List (A8_Int × Bool))))), rowR enc_Tile A_p0 c_p0 p0] [blk g1903 (.cells #[(iv 0), (iv 0), (.slice none 0 0)] 27 (0, 0)), rowO 85 encN_Row A2776 c2777 (tag H2778 t2771), poolO [nestO subN_Row H2778 t2771], blk g2783 (.cells #[(iv p1), (iv p2), (.slice t.2.1 t.1.1.length t.2.2)] 27 (0, 0)), rowO 3 encInt t.2.1 t.2.2 t.1.1, blk g4456 (.cells #[(iv t.1.2.1.e0), (iv t.1.2.1.e1), (iv t.1.2.1.e2), (iv t.1.2.1.e3), (iv t.1.2.1.e4), (iv t.1.2.1.e5), (iv t.1.2.1.e6), (iv t.1.2.1.e7)] 83 (0, 0))] ∧ torus_find.l1 n t.1.1 t.1.2.1 t.1.2.2 t2771 x4416 = some x4827) k4382 ((([] : List Int) ++ ((rdD t2771 x4379 z_Row).Cells), ((rdD t2771 x4379 z_Row).North), w64 (p2 - 2)), A4450, c4451) [6, 8, 10, 13, 15, 16] rfl ⟨(hS4461.subR [0, 1, 2, 3, 4, 5, 6, 7]).sub [3, 4, 5, 1, 2, 0] (by decide), hx4828⟩ ?_
     rintro k4829 ⟨⟨l4821, a4822, x4823⟩, A4819, c4820⟩ w4830 ⟨hS4831, hl4832⟩
     cases k4829 with
     | zero => rw [torus_find.l1] at hl4832; cases hl4832
     | succ k4829 =>
      rw [torus_find.l1] at hl4832
      refine WC.seq ?_
      refine WC.seq ?_
      refine WC.region ?_
      refine seg 2 [] [6, 8, 10, 13, 15, 16, 71] [(6, (pt g1903)), (8, (.slice A2776 t2771.length c2777)), (10, (pt g2783)), (13, (.slice A4412 x4416.2.length c4413)), (15, (pt g4456)), (16, (iv x4823)), (71, (.bool (decide (x4823 ≥ 0))))] [] (fun fb => by kernel_rfl) rfl trivial ?_
      refine WL.done rfl ?_
      refine WX.next ?_
      rcases br_some hl4832 with ⟨h4833, hl4832⟩ | ⟨h4833, hl4832⟩
      ·refine WC.condT2 (fun fb => by kernel_rfl) h4833 ?_
       refine WC.skip ?_
       refine WX.next ?_
       refine WC.seq ?_
       refine WC.block ?_
       refine WC.scope ?_
       refine WC.seq ?_
       refine WC.label ?_
       refine WX.next ?_
       refine WC.seq ?_
       refine WC.region ?_
       refine seg 3 [] [6, 8, 10, 13, 15, 16, 74, 75, 76] [(6, (pt g1903)), (8, (.slice A2776 t2771.length c2777)), (10, (pt g2783)), (13, (.slice A4412 x4416.2.length c4413)), (15, (pt g4456)), (16, (iv x4823)), (74, (.slice A2776 t2771.length c2777)), (75, (iv (t2771.length : Int))), (76, (iv 0))] [] (fun fb => by kernel_rfl) rfl trivial ?_
       refine WL.done rfl ?_
       refine WX.next ?_
       obtain ⟨x4946, hx4947, hl4832⟩ := bind_some hl4832
       refine WC.cutN (T := ((List Int) × A8_Int) × (Option Addr) × Nat) (fun t => [(6, (pt g1903)), (8, (.slice A2776 t2771.length c2777)), (10, (pt g2783)), (13, (.slice A4412 x4416.2.length c4413)), (15, (pt g4456)), (16, (iv x4823))]) (fun t w1 => St NoS w w1 [knestO (aggI ints_A8_Int) vB K4411 x4416.1, rowR (encMap A8_Int Bool) A4412 c4413 (tag H4415 x4416.2), mapsO (aggI ints_A8_Int) vB H4415 x4416.2, mapsO (aggI ints_A8_Int) vB ((mget ((rdD t2771 x4379 z_Row).South) zHM K4378).1.2.2) (mget ((rdD t2771 x4379 z_Row).South) [] l4377), rowR (encMap A8_Int Bool) ((mget ((rdD t2771 x4379 z_Row).South) zHM K4378).1.1) ((mget ((rdD t2771 x4379 z_Row).South) zHM K4378).1.2.1) (tag ((mget ((rdD t2771 x4379 z_Row).South) zHM K4378).1.2.2) (mget ((rdD t2771 x4379 z_Row).South) [] l4377)), knestO (aggI ints_A8_Int) vB K4378 l4377, knestO (aggI ints_A8_Int) vB ([] : List (A8_Int × (HM × List (Option (List (A8_Int × Bool)))))) ([] : List (A8_Int × List (Option (List (A8_Int × Bool))))), rowR enc_Tile A_p0 c_p0 p0] [blk g1903 (.cells #[(iv 0), (iv 0), (.slice none 0 0)] 27 (0, 0)), rowO 85 encN_Row A2776 c2777 (tag H2778 t2771), poolO [nestO subN_Row H2778 t2771], blk g2783 (.cells #[(iv p1), (iv p2), (.slice t.2.1 t.1.1.length t.2.2)] 27 (0, 0)), rowO 3 encInt t.2.1 t.2.2 t.1.1, blk g4456 (.cells #[(iv t.1.2.e0), (iv t.1.2.e1), (iv t.1.2.e2), (iv t.1.2.e3), (iv t.1.2.e4), (iv t.1.2.e5), (iv t.1.2.e6), (iv t.1.2.e7)] 83 (0, 0))] ∧ x4946 = t.1) (fun Kx4946 => ?_) ?_
       ·
        refine WC.block ?_
        refine WC.loop (T := Int) (fun t => [(6, (pt g1903)), (8, (.slice A2776 t2771.length c2777)), (10, (pt g2783)), (13, (.slice A4412 x4416.2.length c4413)), (15, (pt g4456)), (16, (iv x4823)), (74, (.slice A2776 t2771.length c2777)), (75, (iv (t2771.length : Int))), (76, (iv t))]) (fun n t w1 => St NoS w w1 [knestO (aggI ints_A8_Int) vB K4411 x4416.1, rowR (encMap A8_Int Bool) A4412 c4413 (tag H4415 x4416.2), mapsO (aggI ints_A8_Int) vB H4415 x4416.2, mapsO (aggI ints_A8_Int) vB ((mget ((rdD t2771 x4379 z_Row).South) zHM K4378).1.2.2) (mget ((rdD t2771 x4379 z_Row).South) [] l4377), rowR (encMap A8_Int Bool) ((mget ((rdD t2771 x4379 z_Row).South) zHM K4378).1.1) ((mget ((rdD t2771 x4379 z_Row).South) zHM K4378).1.2.1) (tag ((mget ((rdD t2771 x4379 z_Row).South) zHM K4378).1.2.2) (mget ((rdD t2771 x4379 z_Row).South) [] l4377)), knestO (aggI ints_A8_Int) vB K4378 l4377, knestO (aggI ints_A8_Int) vB ([] : List (A8_Int × (HM × List (Option (List (A8_Int × Bool)))))) ([] : List (A8_Int × List (Option (List (A8_Int × Bool))))), rowR enc_Tile A_p0 c_p0 p0] [blk g1903 (.cells #[(iv 0), (iv 0), (.slice none 0 0)] 27 (0, 0)), rowO 85 encN_Row A2776 c2777 (tag H2778 t2771), poolO [nestO subN_Row H2778 t2771], blk g2783 (.cells #[(iv p1), (iv p2), (.slice A4819 l4821.length c4820)] 27 (0, 0)), rowO 3 encInt A4819 c4820 l4821, blk g4456 (.cells #[(iv a4822.e0), (iv a4822.e1), (iv a4822.e2), (iv a4822.e3), (iv a4822.e4), (iv a4822.e5), (iv a4822.e6), (iv a4822.e7)] 83 (0, 0))] ∧ torus_find.l2 n t t2771 x4416 l4821 a4822 x4823 = some x4946) k4829 0 [6, 8, 10, 13, 15, 16, 74, 75, 76] rfl ⟨(hS4831.subR [0, 1, 2, 3, 4, 5, 6, 7]).sub [0, 1, 2, 3, 4, 5] (by decide), hx4947⟩ ?_
        rintro k4948 x4941 w4949 ⟨hS4950, hl4951⟩
        cases k4948 with
        | zero => rw [torus_find.l2] at hl4951; cases hl4951
        | succ k4948 =>
         rw [torus_find.l2] at hl4951
         refine WC.seq ?_
         refine WC.region ?_
         refine seg 1 [] [6, 8, 10, 13, 15, 16, 74, 75, 76, 77] [(6, (pt g1903)), (8, (.slice A2776 t2771.length c2777)), (10, (pt g2783)), (13, (.slice A4412 x4416.2.length c4413)), (15, (pt g4456)), (16, (iv x4823)), (74, (.slice A2776 t2771.length c2777)), (75, (iv (t2771.length : Int))), (76, (iv x4941)), (77, (.bool (decide (x4941 < (t2771.length : Int)))))] [] (fun fb => by kernel_rfl) rfl trivial ?_
         refine WL.done rfl ?_
         refine WX.next ?_
         refine WC.seq ?_
         rcases br_some hl4951 with ⟨h4952, hl4951⟩ | ⟨h4952, hl4951⟩
         ·refine WC.condT2 (fun fb => by kernel_rfl) h4952 ?_
          refine WC.skip ?_
          refine WX.next ?_
          refine WC.seq ?_
          refine WC.block ?_
          refine WC.seq ?_
          refine WC.region ?_
          obtain ⟨h4953, hl4951⟩ := as_some hl4951
          refine seg 2 [.v (.slice ((H2778 x4941.toNat 0).1) ((rdD t2771 x4941 z_Row).Cells).length ((H2778 x4941.toNat 0).2)), .v (iv (((rdD t2771 x4941 z_Row).South).e0)), .v (iv (((rdD t2771 x4941 z_Row).South).e1)), .v (iv (((rdD t2771 x4941 z_Row).South).e2)), .v (iv (((rdD t2771 x4941 z_Row).South).e3)), .v (iv (((rdD t2771 x4941 z_Row).South).e4)), .v (iv (((rdD t2771 x4941 z_Row).South).e5)), .v (iv (((rdD t2771 x4941 z_Row).South).e6)), .v (iv (((rdD t2771 x4941 z_Row).South).e7)), .v (iv (((rdD t2771 x4941 z_Row).North).e0)), .v (iv (((rdD t2771 x4941 z_Row).North).e1)), .v (iv (((rdD t2771 x4941 z_Row).North).e2)), .v (iv (((rdD t2771 x4941 z_Row).North).e3)), .v (iv (((rdD t2771 x4941 z_Row).North).e4)), .v (iv (((rdD t2771 x4941 z_Row).North).e5)), .v (iv (((rdD t2771 x4941 z_Row).North).e6)), .v (iv (((rdD t2771 x4941 z_Row).North).e7)), .v (iv ((rdD t2771 x4941 z_Row).West)), .v (iv ((rdD t2771 x4941 z_Row).East))] [6, 8, 10, 13, 15, 16, 74, 75, 76, 79] [(6, (pt g1903)), (8, (.slice A2776 t2771.length c2777)), (10, (pt g2783)), (13, (.slice A4412 x4416.2.length c4413)), (15, (pt g4456)), (16, (iv x4823)), (74, (.slice A2776 t2771.length c2777)), (75, (iv (t2771.length : Int))), (76, (iv x4941)), (79, (.agg #[(.slice ((H2778 x4941.toNat 0).1) ((rdD t2771 x4941 z_Row).Cells).length ((H2778 x4941.toNat 0).2)), (iv (((rdD t2771 x4941 z_Row).South).e0)), (iv (((rdD t2771 x4941 z_Row).South).e1)), (iv (((rdD t2771 x4941 z_Row).South).e2)), (iv (((rdD t2771 x4941 z_Row).South).e3)), (iv (((rdD t2771 x4941 z_Row).South).e4)), (iv (((rdD t2771 x4941 z_Row).South).e5)), (iv (((rdD t2771 x4941 z_Row).South).e6)), (iv (((rdD t2771 x4941 z_Row).South).e7)), (iv (((rdD t2771 x4941 z_Row).North).e0)), (iv (((rdD t2771 x4941 z_Row).North).e1)), (iv (((rdD t2771 x4941 z_Row).North).e2)), (iv (((rdD t2771 x4941 z_Row).North).e3)), (iv (((rdD t2771 x4941 z_Row).North).e4)), (iv (((rdD t2771 x4941 z_Row).North).e5)), (iv (((rdD t2771 x4941 z_Row).North).e6)), (iv (((rdD t2771 x4941 z_Row).North).e7)), (iv ((rdD t2771 x4941 z_Row).West)), (iv ((rdD t2771 x4941 z_Row).East))]))] [.idx A2776 x4941 t2771.length, .cell ((adr A2776).add ((x4941).toNat * 19)) (.slice ((H2778 x4941.toNat 0).1) ((rdD t2771 x4941 z_Row).Cells).length ((H2778 x4941.toNat 0).2)), .cell (((adr A2776).add ((x4941).toNat * 19)).add 1) (iv (((rdD t2771 x4941 z_Row).South).e0)), .cell (((adr A2776).add ((x4941).toNat * 19)).add 2) (iv (((rdD t2771 x4941 z_Row).South).e1)), .cell (((adr A2776).add ((x4941).toNat * 19)).add 3) (iv (((rdD t2771 x4941 z_Row).South).e2)), .cell (((adr A2776).add ((x4941).toNat * 19)).add 4) (iv (((rdD t2771 x4941 z_Row).South).e3)), .cell (((adr A2776).add ((x4941).toNat * 19)).add 5) (iv (((rdD t2771 x4941 z_Row).South).e4)), .cell (((adr A2776).add ((x4941).toNat * 19)).add 6) (iv (((rdD t2771 x4941 z_Row).South).e5)), .cell (((adr A2776).add ((x4941).toNat * 19)).add 7) (iv (((rdD t2771 x4941 z_Row).South).e6)), .cell (((adr A2776).add ((x4941).toNat * 19)).add 8) (iv (((rdD t2771 x4941 z_Row).South).e7)), .cell (((adr A2776).add ((x4941).toNat * 19)).add 9) (iv (((rdD t2771 x4941 z_Row).North).e0)), .cell (((adr A2776).add ((x4941).toNat * 19)).add 10) (iv (((rdD t2771 x4941 z_Row).North).e1)), .cell (((adr A2776).add ((x4941).toNat * 19)).add 11) (iv (((rdD t2771 x4941 z_Row).North).e2)), .cell (((adr A2776).add ((x4941).toNat * 19)).add 12) (iv (((rdD t2771 x4941 z_Row).North).e3)), .cell (((adr A2776).add ((x4941).toNat * 19)).add 13) (iv (((rdD t2771 x4941 z_Row).North).e4)), .cell (((adr A2776).add ((x4941).toNat * 19)).add 14) (iv (((rdD t2771 x4941 z_Row).North).e5)), .cell (((adr A2776).add ((x4941).toNat * 19)).add 15) (iv (((rdD t2771 x4941 z_Row).North).e6)), .cell (((adr A2776).add ((x4941).toNat * 19)).add 16) (iv (((rdD t2771 x4941 z_Row).North).e7)), .cell (((adr A2776).add ((x4941).toNat * 19)).add 17) (iv ((rdD t2771 x4941 z_Row).West)), .cell (((adr A2776).add ((x4941).toNat * 19)).add 18) (iv ((rdD t2771 x4941 z_Row).East))] (fun fb => by kernel_rfl) rfl ⟨nrow_adr (rowO.rd (hS4950.own 1).1) h4953.1 h4953.2, nrow_cell (rowO.rd (hS4950.own 1).1) z_Row h4953.1 h4953.2 0 rfl, nrow_cell (rowO.rd (hS4950.own 1).1) z_Row h4953.1 h4953.2 1 rfl, nrow_cell (rowO.rd (hS4950.own 1).1) z_Row h4953.1 h4953.2 2 rfl, nrow_cell (rowO.rd (hS4950.own 1).1) z_Row h4953.1 h4953.2 3 rfl, nrow_cell (rowO.rd (hS4950.own 1).1) z_Row h4953.1 h4953.2 4 rfl, nrow_cell (rowO.rd (hS4950.own 1).1) z_Row h4953.1 h4953.2 5 rfl, nrow_cell (rowO.rd (hS4950.own 1).1) z_Row h4953.1 h4953.2 6 rfl, nrow_cell (rowO.rd (hS4950.own 1).1) z_Row h4953.1 h4953.2 7 rfl, nrow_cell (rowO.rd (hS4950.own 1).1) z_Row h4953.1 h4953.2 8 rfl, nrow_cell (rowO.rd (hS4950.own 1).1) z_Row h4953.1 h4953.2 9 rfl, nrow_cell (rowO.rd (hS4950.own 1).1) z_Row h4953.1 h4953.2 10 rfl, nrow_cell (rowO.rd (hS4950.own 1).1) z_Row h4953.1 h4953.2 11 rfl, nrow_cell (rowO.rd (hS4950.own 1).1) z_Row h4953.1 h4953.2 12 rfl, nrow_cell (rowO.rd (hS4950.own 1).1) z_Row h4953.1 h4953.2 13 rfl, nrow_cell (rowO.rd (hS4950.own 1).1) z_Row h4953.1 h4953.2 14 rfl, nrow_cell (rowO.rd (hS4950.own 1).1) z_Row h4953.1 h4953.2 15 rfl, nrow_cell (rowO.rd (hS4950.own 1).1) z_Row h4953.1 h4953.2 16 rfl, nrow_cell (rowO.rd (hS4950.own 1).1) z_Row h4953.1 h4953.2 17 rfl, nrow_cell (rowO.rd (hS4950.own 1).1) z_Row h4953.1 h4953.2 18 rfl, trivial⟩ ?_
          refine WL.new hS4950 18 [] (fun g => (.pointer (some ⟨g, 0, none⟩))) (.cells #[(.slice none 0 0), (iv 0), (iv 0), (iv 0), (iv 0), (iv 0), (iv 0), (iv 0), (iv 0), (iv 0), (iv 0), (iv 0), (iv 0), (iv 0), (iv 0), (iv 0), (iv 0), (iv 0), (iv 0)] 85 (0, 0)) [] (fun fb g => by kernel_rfl) trivial (fun g4954 w4955 hS4956 => ?_)
          refine ⟨trivial, ?_⟩
          refine WL.store hS4956 0 rfl [(0, (.slice ((H2778 x4941.toNat 0).1) ((rdD t2771 x4941 z_Row).Cells).length ((H2778 x4941.toNat 0).2))), (1, (iv (((rdD t2771 x4941 z_Row).South).e0))), (2, (iv (((rdD t2771 x4941 z_Row).South).e1))), (3, (iv (((rdD t2771 x4941 z_Row).South).e2))), (4, (iv (((rdD t2771 x4941 z_Row).South).e3))), (5, (iv (((rdD t2771 x4941 z_Row).South).e4))), (6, (iv (((rdD t2771 x4941 z_Row).South).e5))), (7, (iv (((rdD t2771 x4941 z_Row).South).e6))), (8, (iv (((rdD t2771 x4941 z_Row).South).e7))), (9, (iv (((rdD t2771 x4941 z_Row).North).e0))), (10, (iv (((rdD t2771 x4941 z_Row).North).e1))), (11, (iv (((rdD t2771 x4941 z_Row).North).e2))), (12, (iv (((rdD t2771 x4941 z_Row).North).e3))), (13, (iv (((rdD t2771 x4941 z_Row).North).e4))), (14, (iv (((rdD t2771 x4941 z_Row).North).e5))), (15, (iv (((rdD t2771 x4941 z_Row).North).e6))), (16, (iv (((rdD t2771 x4941 z_Row).North).e7))), (17, (iv ((rdD t2771 x4941 z_Row).West))), (18, (iv ((rdD t2771 x4941 z_Row).East)))] #[(.slice ((H2778 x4941.toNat 0).1) ((rdD t2771 x4941 z_Row).Cells).length ((H2778 x4941.toNat 0).2)), (iv (((rdD t2771 x4941 z_Row).South).e0)), (iv (((rdD t2771 x4941 z_Row).South).e1)), (iv (((rdD t2771 x4941 z_Row).South).e2)), (iv (((rdD t2771 x4941 z_Row).South).e3)), (iv (((rdD t2771 x4941 z_Row).South).e4)), (iv (((rdD t2771 x4941 z_Row).South).e5)), (iv (((rdD t2771 x4941 z_Row).South).e6)), (iv (((rdD t2771 x4941 z_Row).South).e7)), (iv (((rdD t2771 x4941 z_Row).North).e0)), (iv (((rdD t2771 x4941 z_Row).North).e1)), (iv (((rdD t2771 x4941 z_Row).North).e2)), (iv (((rdD t2771 x4941 z_Row).North).e3)), (iv (((rdD t2771 x4941 z_Row).North).e4)), (iv (((rdD t2771 x4941 z_Row).North).e5)), (iv (((rdD t2771 x4941 z_Row).North).e6)), (iv (((rdD t2771 x4941 z_Row).North).e7)), (iv ((rdD t2771 x4941 z_Row).West)), (iv ((rdD t2771 x4941 z_Row).East))] (fun fb => by kernel_rfl) (by kernel_rfl) (by kernel_rfl) [1, 2, 3, 4, 5, 6] (by decide) (by decide) (fun w4958 hS4959 => ?_)
          refine ⟨trivial, ?_⟩
          refine WL.done rfl ?_
          refine WX.next ?_
          refine WC.seq ?_
          obtain ⟨x4975, hx4976, hl4951⟩ := bind_some hl4951
          refine WC.cutN (T := Bool) (fun t => [(6, (pt g1903)), (8, (.slice A2776 t2771.length c2777)), (10, (pt g2783)), (13, (.slice A4412 x4416.2.length c4413)), (15, (pt g4456)), (16, (iv x4823)), (18, (pt g4954)), (74, (.slice A2776 t2771.length c2777)), (75, (iv (t2771.length : Int))), (76, (iv x4941)), (92, (.bool t))]) (fun t w1 => St NoS w w1 [knestO (aggI ints_A8_Int) vB K4411 x4416.1, rowR (encMap A8_Int Bool) A4412 c4413 (tag H4415 x4416.2), mapsO (aggI ints_A8_Int) vB H4415 x4416.2, mapsO (aggI ints_A8_Int) vB ((mget ((rdD t2771 x4379 z_Row).South) zHM K4378).1.2.2) (mget ((rdD t2771 x4379 z_Row).South) [] l4377), rowR (encMap A8_Int Bool) ((mget ((rdD t2771 x4379 z_Row).South) zHM K4378).1.1) ((mget ((rdD t2771 x4379 z_Row).South) zHM K4378).1.2.1) (tag ((mget ((rdD t2771 x4379 z_Row).South) zHM K4378).1.2.2) (mget ((rdD t2771 x4379 z_Row).South) [] l4377)), knestO (aggI ints_A8_Int) vB K4378 l4377, knestO (aggI ints_A8_Int) vB ([] : List (A8_Int × (HM × List (Option (List (A8_Int × Bool)))))) ([] : List (A8_Int × List (Option (List (A8_Int × Bool))))), rowR enc_Tile A_p0 c_p0 p0] [blk g1903 (.cells #[(iv 0), (iv 0), (.slice none 0 0)] 27 (0, 0)), rowO 85 encN_Row A2776 c2777 (tag H2778 t2771), poolO [nestO subN_Row H2778 t2771], blk g2783 (.cells #[(iv p1), (iv p2), (.slice A4819 l4821.length c4820)] 27 (0, 0)), rowO 3 encInt A4819 c4820 l4821, blk g4456 (.cells #[(iv a4822.e0), (iv a4822.e1), (iv a4822.e2), (iv a4822.e3), (iv a4822.e4), (iv a4822.e5), (iv a4822.e6), (iv a4822.e7)] 83 (0, 0)), blk g4954 (.cells #[(.slice ((H2778 x4941.toNat 0).1) ((rdD t2771 x4941 z_Row).Cells).length ((H2778 x4941.toNat 0).2)), (iv (((rdD t2771 x4941 z_Row).South).e0)), (iv (((rdD t2771 x4941 z_Row).South).e1)), (iv (((rdD t2771 x4941 z_Row).South).e2)), (iv (((rdD t2771 x4941 z_Row).South).e3)), (iv (((rdD t2771 x4941 z_Row).South).e4)), (iv (((rdD t2771 x4941 z_Row).South).e5)), (iv (((rdD t2771 x4941 z_Row).South).e6)), (iv (((rdD t2771 x4941 z_Row).South).e7)), (iv (((rdD t2771 x4941 z_Row).North).e0)), (iv (((rdD t2771 x4941 z_Row).North).e1)), (iv (((rdD t2771 x4941 z_Row).North).e2)), (iv (((rdD t2771 x4941 z_Row).North).e3)), (iv (((rdD t2771 x4941 z_Row).North).e4)), (iv (((rdD t2771 x4941 z_Row).North).e5)), (iv (((rdD t2771 x4941 z_Row).North).e6)), (iv (((rdD t2771 x4941 z_Row).North).e7)), (iv ((rdD t2771 x4941 z_Row).West)), (iv ((rdD t2771 x4941 z_Row).East))] 85 (0, 0))] ∧ x4975 = t) (fun Kx4975 => ?_) ?_
          ·
           rcases br_some hx4976 with ⟨h4977, hx4976⟩ | ⟨h4977, hx4976⟩
           ·
            obtain ⟨h4986, hx4976⟩ := as_some hx4976
            obtain ⟨m4987, hm4988, hx4976⟩ := bind_some hx4976
            refine WC.regionD ([(1, ⟨g4954, 1, none⟩, (iv (((rdD t2771 x4941 z_Row).South).e0))), (1, ⟨g4954, 2, none⟩, (iv (((rdD t2771 x4941 z_Row).South).e1))), (1, ⟨g4954, 3, none⟩, (iv (((rdD t2771 x4941 z_Row).South).e2))), (1, ⟨g4954, 4, none⟩, (iv (((rdD t2771 x4941 z_Row).South).e3))), (1, ⟨g4954, 5, none⟩, (iv (((rdD t2771 x4941 z_Row).South).e4))), (1, ⟨g4954, 6, none⟩, (iv (((rdD t2771 x4941 z_Row).South).e5))), (1, ⟨g4954, 7, none⟩, (iv (((rdD t2771 x4941 z_Row).South).e6))), (1, ⟨g4954, 8, none⟩, (iv (((rdD t2771 x4941 z_Row).South).e7))), (2, ⟨g4456, 0, none⟩, (iv a4822.e0)), (2, ⟨g4456, 1, none⟩, (iv a4822.e1)), (2, ⟨g4456, 2, none⟩, (iv a4822.e2)), (2, ⟨g4456, 3, none⟩, (iv a4822.e3)), (2, ⟨g4456, 4, none⟩, (iv a4822.e4)), (2, ⟨g4456, 5, none⟩, (iv a4822.e5)), (2, ⟨g4456, 6, none⟩, (iv a4822.e6)), (2, ⟨g4456, 7, none⟩, (iv a4822.e7)), (8, ((adr A4412).add ((x4823).toNat * 1)), (.map (some (H4415 x4823.toNat)))), (10, ⟨g4954, 9, none⟩, (iv (((rdD t2771 x4941 z_Row).North).e0))), (10, ⟨g4954, 10, none⟩, (iv (((rdD t2771 x4941 z_Row).North).e1))), (10, ⟨g4954, 11, none⟩, (iv (((rdD t2771 x4941 z_Row).North).e2))), (10, ⟨g4954, 12, none⟩, (iv (((rdD t2771 x4941 z_Row).North).e3))), (10, ⟨g4954, 13, none⟩, (iv (((rdD t2771 x4941 z_Row).North).e4))), (10, ⟨g4954, 14, none⟩, (iv (((rdD t2771 x4941 z_Row).North).e5))), (10, ⟨g4954, 15, none⟩, (iv (((rdD t2771 x4941 z_Row).North).e6))), (10, ⟨g4954, 16, none⟩, (iv (((rdD t2771 x4941 z_Row).North).e7)))], [0, 1, 2, 3, 4, 5, 6, 7, 8, 9, 10, 12], [[], [0], [], [0, 1, 2], [0, 1, 2, 3], [0, 1, 2, 3, 4], [0, 1, 2, 3, 4], [0, 1, 2, 3, 4, 5, 6], [0, 1, 2, 3, 4, 5, 6, 7], [0, 1, 2, 3, 4], [0, 1, 2, 3, 4, 9], [0, 1, 2, 3, 4, 5, 6, 7, 8, 9, 10], [0, 1, 2, 3, 4, 5, 6, 7, 8, 9, 10, 11]]) [[0, 1, 2, 3, 4, 5, 6, 7, 8, 9, 10, 11, 12]] (by kernel_rfl) (by kernel_rfl) (NoPanic.seq (NoPanic.block (NoPanic.seq (NoPanic.seq (NoPanic.block (NoPanic.scope (NoPanic.block (NoPanic.seq (NoPanic.seq (NoPanic.block (NoPanic.seq (NoPanic.block (NoPanic.seq (NoPanic.seq (NoPanic.block (NoPanic.seq (NoPanic.scope (NoPanic.body)))))))))))))))))) ?_
            have hS4982 := hS4959.drew
            revert hS4982
            generalize World.drew w4958 = w4981
            intro hS4982
            refine ⟨⟨hS4982.cell 0 rfl 1 rfl, hS4982.cell 0 rfl 2 rfl, hS4982.cell 0 rfl 3 rfl, hS4982.cell 0 rfl 4 rfl, hS4982.cell 0 rfl 5 rfl, hS4982.cell 0 rfl 6 rfl, hS4982.cell 0 rfl 7 rfl, hS4982.cell 0 rfl 8 rfl, hS4982.cell 6 rfl 0 rfl, hS4982.cell 6 rfl 1 rfl, hS4982.cell 6 rfl 2 rfl, hS4982.cell 6 rfl 3 rfl, hS4982.cell 6 rfl 4 rfl, hS4982.cell 6 rfl 5 rfl, hS4982.cell 6 rfl 6 rfl, hS4982.cell 6 rfl 7 rfl, nrow_cell (hS4982.rd 1).1 none h4986.1 h4986.2 0 (mapV_some hm4988), hS4982.cell 0 rfl 9 rfl, hS4982.cell 0 rfl 10 rfl, hS4982.cell 0 rfl 11 rfl, hS4982.cell 0 rfl 12 rfl, hS4982.cell 0 rfl 13 rfl, hS4982.cell 0 rfl 14 rfl, hS4982.cell 0 rfl 15 rfl, hS4982.cell 0 rfl 16 rfl, trivial⟩, forallC ?_ (forallN)⟩
            refine segF 5 [.v (iv (((rdD t2771 x4941 z_Row).South).e0)), .v (iv (((rdD t2771 x4941 z_Row).South).e1)), .v (iv (((rdD t2771 x4941 z_Row).South).e2)), .v (iv (((rdD t2771 x4941 z_Row).South).e3)), .v (iv (((rdD t2771 x4941 z_Row).South).e4)), .v (iv (((rdD t2771 x4941 z_Row).South).e5)), .v (iv (((rdD t2771 x4941 z_Row).South).e6)), .v (iv (((rdD t2771 x4941 z_Row).South).e7)), .v (iv a4822.e0), .v (iv a4822.e1), .v (iv a4822.e2), .v (iv a4822.e3), .v (iv a4822.e4), .v (iv a4822.e5), .v (iv a4822.e6), .v (iv a4822.e7)] [6, 8, 10, 13, 15, 16, 18, 74, 75, 76, 84] [(6, (pt g1903)), (8, (.slice A2776 t2771.length c2777)), (10, (pt g2783)), (13, (.slice A4412 x4416.2.length c4413)), (15, (pt g4456)), (16, (iv x4823)), (18, (pt g4954)), (74, (.slice A2776 t2771.length c2777)), (75, (iv (t2771.length : Int))), (76, (iv x4941)), (84, (.bool ((((rdD t2771 x4941 z_Row).South).e0) == a4822.e0 && ((((rdD t2771 x4941 z_Row).South).e1) == a4822.e1 && ((((rdD t2771 x4941 z_Row).South).e2) == a4822.e2 && ((((rdD t2771 x4941 z_Row).South).e3) == a4822.e3 && ((((rdD t2771 x4941 z_Row).South).e4) == a4822.e4 && ((((rdD t2771 x4941 z_Row).South).e5) == a4822.e5 && ((((rdD t2771 x4941 z_Row).South).e6) == a4822.e6 && ((((rdD t2771 x4941 z_Row).South).e7) == a4822.e7))))))))))] [] [0, 1, 2, 3, 4, 5, 6, 7, 8, 9, 10, 11, 12, 13, 14, 15] [(1, ⟨g4954, 1, none⟩, (iv (((rdD t2771 x4941 z_Row).South).e0))), (1, ⟨g4954, 2, none⟩, (iv (((rdD t2771 x4941 z_Row).South).e1))), (1, ⟨g4954, 3, none⟩, (iv (((rdD t2771 x4941 z_Row).South).e2))), (1, ⟨g4954, 4, none⟩, (iv (((rdD t2771 x4941 z_Row).South).e3))), (1, ⟨g4954, 5, none⟩, (iv (((rdD t2771 x4941 z_Row).South).e4))), (1, ⟨g4954, 6, none⟩, (iv (((rdD t2771 x4941 z_Row).South).e5))), (1, ⟨g4954, 7, none⟩, (iv (((rdD t2771 x4941 z_Row).South).e6))), (1, ⟨g4954, 8, none⟩, (iv (((rdD t2771 x4941 z_Row).South).e7))), (2, ⟨g4456, 0, none⟩, (iv a4822.e0)), (2, ⟨g4456, 1, none⟩, (iv a4822.e1)), (2, ⟨g4456, 2, none⟩, (iv a4822.e2)), (2, ⟨g4456, 3, none⟩, (iv a4822.e3)), (2, ⟨g4456, 4, none⟩, (iv a4822.e4)), (2, ⟨g4456, 5, none⟩, (iv a4822.e5)), (2, ⟨g4456, 6, none⟩, (iv a4822.e6)), (2, ⟨g4456, 7, none⟩, (iv a4822.e7))] (fun fb => by kernel_rfl) rfl trivial rfl ?_
            refine WL.setB 84 h4977 rfl ?_
            refine segF 11 [.v (.map (some (H4415 x4823.toNat))), .v (iv (((rdD t2771 x4941 z_Row).North).e0)), .v (iv (((rdD t2771 x4941 z_Row).North).e1)), .v (iv (((rdD t2771 x4941 z_Row).North).e2)), .v (iv (((rdD t2771 x4941 z_Row).North).e3)), .v (iv (((rdD t2771 x4941 z_Row).North).e4)), .v (iv (((rdD t2771 x4941 z_Row).North).e5)), .v (iv (((rdD t2771 x4941 z_Row).North).e6)), .v (iv (((rdD t2771 x4941 z_Row).North).e7))] [6, 8, 10, 13, 15, 16, 18, 74, 75, 76, 84, 88, 90] [(6, (pt g1903)), (8, (.slice A2776 t2771.length c2777)), (10, (pt g2783)), (13, (.slice A4412 x4416.2.length c4413)), (15, (pt g4456)), (16, (iv x4823)), (18, (pt g4954)), (74, (.slice A2776 t2771.length c2777)), (75, (iv (t2771.length : Int))), (76, (iv x4941)), (84, (.bool true)), (88, (.map (some (H4415 x4823.toNat)))), (90, (.agg #[(iv (((rdD t2771 x4941 z_Row).North).e0)), (iv (((rdD t2771 x4941 z_Row).North).e1)), (iv (((rdD t2771 x4941 z_Row).North).e2)), (iv (((rdD t2771 x4941 z_Row).North).e3)), (iv (((rdD t2771 x4941 z_Row).North).e4)), (iv (((rdD t2771 x4941 z_Row).North).e5)), (iv (((rdD t2771 x4941 z_Row).North).e6)), (iv (((rdD t2771 x4941 z_Row).North).e7))]))] [.idx A4412 x4823 x4416.2.length] [16, 17, 18, 19, 20, 21, 22, 23, 24] [(8, ((adr A4412).add ((x4823).toNat * 1)), (.map (some (H4415 x4823.toNat)))), (10, ⟨g4954, 9, none⟩, (iv (((rdD t2771 x4941 z_Row).North).e0))), (10, ⟨g4954, 10, none⟩, (iv (((rdD t2771 x4941 z_Row).North).e1))), (10, ⟨g4954, 11, none⟩, (iv (((rdD t2771 x4941 z_Row).North).e2))), (10, ⟨g4954, 12, none⟩, (iv (((rdD t2771 x4941 z_Row).North).e3))), (10, ⟨g4954, 13, none⟩, (iv (((rdD t2771 x4941 z_Row).North).e4))), (10, ⟨g4954, 14, none⟩, (iv (((rdD t2771 x4941 z_Row).North).e5))), (10, ⟨g4954, 15, none⟩, (iv (((rdD t2771 x4941 z_Row).North).e6))), (10, ⟨g4954, 16, none⟩, (iv (((rdD t2771 x4941 z_Row).North).e7)))] (fun fb => by kernel_rfl) rfl ⟨nrow_adr (hS4982.rd 1).1 h4986.1 h4986.2, trivial⟩ rfl ?_
            refine WL.lookup (mapsO.at (hS4982.rd 2).1 h4986.1 h4986.2 hm4988) ((rdD t2771 x4941 z_Row).North) (d := 91) (c := false) (t := 91) (kT := 83) (eT := 4) (z := false) (kE := (aggI ints_A8_Int)) (vE := vB) (l := m4987) (.bool (mget ((rdD t2771 x4941 z_Row).North) false m4987)) (fun fb => by kernel_rfl) torus_find_key83 (by kernel_rfl) (fun _ => by kernel_rfl) rfl ?_
            refine ⟨trivial, ?_⟩
            refine seg 13 [] [6, 8, 10, 13, 15, 16, 18, 74, 75, 76, 92] [(6, (pt g1903)), (8, (.slice A2776 t2771.length c2777)), (10, (pt g2783)), (13, (.slice A4412 x4416.2.length c4413)), (15, (pt g4456)), (16, (iv x4823)), (18, (pt g4954)), (74, (.slice A2776 t2771.length c2777)), (75, (iv (t2771.length : Int))), (76, (iv x4941)), (92, (.bool (mget ((rdD t2771 x4941 z_Row).North) false m4987)))] [] (fun fb => by kernel_rfl) rfl trivial ?_
            refine WL.done rfl ?_
            injection hx4976 with hx4976
            exact WX.to Kx4975 (mget ((rdD t2771 x4941 z_Row).North) false m4987) [6, 8, 10, 13, 15, 16, 18, 74, 75, 76, 92] rfl ⟨(hS4982.subR [0, 1, 2, 3, 4, 5, 6, 7]).sub [1, 2, 3, 4, 5, 6, 0] (by decide), hx4976.symm⟩
           refine WC.regionD ([(1, ⟨g4954, 1, none⟩, (iv (((rdD t2771 x4941 z_Row).South).e0))), (1, ⟨g4954, 2, none⟩, (iv (((rdD t2771 x4941 z_Row).South).e1))), (1, ⟨g4954, 3, none⟩, (iv (((rdD t2771 x4941 z_Row).South).e2))), (1, ⟨g4954, 4, none⟩, (iv (((rdD t2771 x4941 z_Row).South).e3))), (1, ⟨g4954, 5, none⟩, (iv (((rdD t2771 x4941 z_Row).South).e4))), (1, ⟨g4954, 6, none⟩, (iv (((rdD t2771 x4941 z_Row).South).e5))), (1, ⟨g4954, 7, none⟩, (iv (((rdD t2771 x4941 z_Row).South).e6))), (1, ⟨g4954, 8, none⟩, (iv (((rdD t2771 x4941 z_Row).South).e7))), (2, ⟨g4456, 0, none⟩, (iv a4822.e0)), (2, ⟨g4456, 1, none⟩, (iv a4822.e1)), (2, ⟨g4456, 2, none⟩, (iv a4822.e2)), (2, ⟨g4456, 3, none⟩, (iv a4822.e3)), (2, ⟨g4456, 4, none⟩, (iv a4822.e4)), (2, ⟨g4456, 5, none⟩, (iv a4822.e5)), (2, ⟨g4456, 6, none⟩, (iv a4822.e6)), (2, ⟨g4456, 7, none⟩, (iv a4822.e7))], [0, 1, 2, 3, 4, 5, 6, 7, 8, 9, 10, 12], [[], [0], [], [0, 1, 2], [0, 1, 2, 3], [0, 1, 2, 3, 4], [0, 1, 2, 3, 4], [0, 1, 2, 3, 4, 5, 6], [0, 1, 2, 3, 4, 5, 6, 7], [0, 1, 2, 3, 4], [0, 1, 2, 3, 4, 9], [0, 1, 2, 3, 4, 5, 6, 7, 8, 9, 10], [0, 1, 2, 3, 4, 5, 6, 7, 8, 9, 10, 11]]) [[0, 1, 2, 3, 4, 5, 6, 7, 8, 9, 10, 11, 12]] (by kernel_rfl) (by kernel_rfl) (NoPanic.seq (NoPanic.block (NoPanic.seq (NoPanic.seq (NoPanic.block (NoPanic.scope (NoPanic.block (NoPanic.seq (NoPanic.seq (NoPanic.block (NoPanic.seq (NoPanic.block (NoPanic.seq (NoPanic.seq (NoPanic.block (NoPanic.seq (NoPanic.scope (NoPanic.body)))))))))))))))))) ?_
           have hS4990 := hS4959.drew
           revert hS4990
           generalize World.drew w4958 = w4989
           intro hS4990
           refine ⟨⟨hS4990.cell 0 rfl 1 rfl, hS4990.cell 0 rfl 2 rfl, hS4990.cell 0 rfl 3 rfl, hS4990.cell 0 rfl 4 rfl, hS4990.cell 0 rfl 5 rfl, hS4990.cell 0 rfl 6 rfl, hS4990.cell 0 rfl 7 rfl, hS4990.cell 0 rfl 8 rfl, hS4990.cell 6 rfl 0 rfl, hS4990.cell 6 rfl 1 rfl, hS4990.cell 6 rfl 2 rfl, hS4990.cell 6 rfl 3 rfl, hS4990.cell 6 rfl 4 rfl, hS4990.cell 6 rfl 5 rfl, hS4990.cell 6 rfl 6 rfl, hS4990.cell 6 rfl 7 rfl, trivial⟩, forallC ?_ (forallN)⟩
           refine segF 5 [.v (iv (((rdD t2771 x4941 z_Row).South).e0)), .v (iv (((rdD t2771 x4941 z_Row).South).e1)), .v (iv (((rdD t2771 x4941 z_Row).South).e2)), .v (iv (((rdD t2771 x4941 z_Row).South).e3)), .v (iv (((rdD t2771 x4941 z_Row).South).e4)), .v (iv (((rdD t2771 x4941 z_Row).South).e5)), .v (iv (((rdD t2771 x4941 z_Row).South).e6)), .v (iv (((rdD t2771 x4941 z_Row).South).e7)), .v (iv a4822.e0), .v (iv a4822.e1), .v (iv a4822.e2), .v (iv a4822.e3), .v (iv a4822.e4), .v (iv a4822.e5), .v (iv a4822.e6), .v (iv a4822.e7)] [6, 8, 10, 13, 15, 16, 18, 74, 75, 76, 84] [(6, (pt g1903)), (8, (.slice A2776 t2771.length c2777)), (10, (pt g2783)), (13, (.slice A4412 x4416.2.length c4413)), (15, (pt g4456)), (16, (iv x4823)), (18, (pt g4954)), (74, (.slice A2776 t2771.length c2777)), (75, (iv (t2771.length : Int))), (76, (iv x4941)), (84, (.bool ((((rdD t2771 x4941 z_Row).South).e0) == a4822.e0 && ((((rdD t2771 x4941 z_Row).South).e1) == a4822.e1 && ((((rdD t2771 x4941 z_Row).South).e2) == a4822.e2 && ((((rdD t2771 x4941 z_Row).South).e3) == a4822.e3 && ((((rdD t2771 x4941 z_Row).South).e4) == a4822.e4 && ((((rdD t2771 x4941 z_Row).South).e5) == a4822.e5 && ((((rdD t2771 x4941 z_Row).South).e6) == a4822.e6 && ((((rdD t2771 x4941 z_Row).South).e7) == a4822.e7))))))))))] [] [0, 1, 2, 3, 4, 5, 6, 7, 8, 9, 10, 11, 12, 13, 14, 15] [(1, ⟨g4954, 1, none⟩, (iv (((rdD t2771 x4941 z_Row).South).e0))), (1, ⟨g4954, 2, none⟩, (iv (((rdD t2771 x4941 z_Row).South).e1))), (1, ⟨g4954, 3, none⟩, (iv (((rdD t2771 x4941 z_Row).South).e2))), (1, ⟨g4954, 4, none⟩, (iv (((rdD t2771 x4941 z_Row).South).e3))), (1, ⟨g4954, 5, none⟩, (iv (((rdD t2771 x4941 z_Row).South).e4))), (1, ⟨g4954, 6, none⟩, (iv (((rdD t2771 x4941 z_Row).South).e5))), (1, ⟨g4954, 7, none⟩, (iv (((rdD t2771 x4941 z_Row).South).e6))), (1, ⟨g4954, 8, none⟩, (iv (((rdD t2771 x4941 z_Row).South).e7))), (2, ⟨g4456, 0, none⟩, (iv a4822.e0)), (2, ⟨g4456, 1, none⟩, (iv a4822.e1)), (2, ⟨g4456, 2, none⟩, (iv a4822.e2)), (2, ⟨g4456, 3, none⟩, (iv a4822.e3)), (2, ⟨g4456, 4, none⟩, (iv a4822.e4)), (2, ⟨g4456, 5, none⟩, (iv a4822.e5)), (2, ⟨g4456, 6, none⟩, (iv a4822.e6)), (2, ⟨g4456, 7, none⟩, (iv a4822.e7))] (fun fb => by kernel_rfl) rfl trivial rfl ?_
           refine WL.setB 84 h4977 rfl ?_
           refine seg 13 [] [6, 8, 10, 13, 15, 16, 18, 74, 75, 76, 92] [(6, (pt g1903)), (8, (.slice A2776 t2771.length c2777)), (10, (pt g2783)), (13, (.slice A4412 x4416.2.length c4413)), (15, (pt g4456)), (16, (iv x4823)), (18, (pt g4954)), (74, (.slice A2776 t2771.length c2777)), (75, (iv (t2771.length : Int))), (76, (iv x4941)), (92, (.bool false))] [] (fun fb => by kernel_rfl) rfl trivial ?_
           refine WL.done rfl ?_
           injection hx4976 with hx4976
           exact WX.to Kx4975 false [6, 8, 10, 13, 15, 16, 18, 74, 75, 76, 92] rfl ⟨(hS4990.subR [0, 1, 2, 3, 4, 5, 6, 7]).sub [1, 2, 3, 4, 5, 6, 0] (by decide), hx4976.symm⟩
          rintro y4994 w4991 ⟨hS4992, hq4993⟩
          subst hq4993
          refine WX.next ?_
          rcases br_some hl4951 with ⟨h4995, hl4951⟩ | ⟨h4995, hl4951⟩
          ·refine WC.condT2 (fun fb => by kernel_rfl) h4995 ?_
           refine WC.seq ?_
           refine WC.region ?_
           refine seg 4 [.v (.slice A4819 l4821.length c4820), .v (.slice ((H2778 x4941.toNat 0).1) ((rdD t2771 x4941 z_Row).Cells).length ((H2778 x4941.toNat 0).2))] [6, 8, 10, 13, 15, 16, 18, 94, 96] [(6, (pt g1903)), (8, (.slice A2776 t2771.length c2777)), (10, (pt g2783)), (13, (.slice A4412 x4416.2.length c4413)), (15, (pt g4456)), (16, (iv x4823)), (18, (pt g4954)), (94, (.slice A4819 l4821.length c4820)), (96, (.slice ((H2778 x4941.toNat 0).1) ((rdD t2771 x4941 z_Row).Cells).length ((H2778 x4941.toNat 0).2)))] [.cell ⟨g2783, 2, none⟩ (.slice A4819 l4821.length c4820), .cell ⟨g4954, 0, none⟩ (.slice ((H2778 x4941.toNat 0).1) ((rdD t2771 x4941 z_Row).Cells).length ((H2778 x4941.toNat 0).2))] (fun fb => by kernel_rfl) rfl ⟨hS4992.cell 3 rfl 2 rfl, hS4992.cell 6 rfl 0 rfl, trivial⟩ ?_
           obtain ⟨h4996, hl4951⟩ := as_some hl4951
           refine WL.append hS4992 4 (d := 97) (tS := 25) (z := (iv 0)) (bytes := 8) (c2 := (H2778 x4941.toNat 0).2) rfl (fun fb => by kernel_rfl) (nestO.at ((hS4992.own 2).1 0) z_Row h4953.1 h4953.2) (by kernel_rfl) (by kernel_rfl) rfl (by decide) h4996 (by decide) [0, 1, 2, 3, 5, 6] (by decide) (by decide) (fun A4997 c4998 w4999 hS5000 => ?_)
           refine ⟨trivial, ?_⟩
           refine seg 6 [] [6, 8, 10, 13, 15, 16, 18, 97, 98] [(6, (pt g1903)), (8, (.slice A2776 t2771.length c2777)), (10, (pt g2783)), (13, (.slice A4412 x4416.2.length c4413)), (15, (pt g4456)), (16, (iv x4823)), (18, (pt g4954)), (97, (.slice A4997 (l4821 ++ ((rdD t2771 x4941 z_Row).Cells)).length c4998)), (98, (.pointer (some ⟨g2783, 2, none⟩)))] [] (fun fb => by kernel_rfl) rfl trivial ?_
           refine WL.store hS5000 4 rfl [(2, (.slice A4997 (l4821 ++ ((rdD t2771 x4941 z_Row).Cells)).length c4998))] #[(iv p1), (iv p2), (.slice A4997 (l4821 ++ ((rdD t2771 x4941 z_Row).Cells)).length c4998)] (fun fb => by kernel_rfl) (by kernel_rfl) rfl [0, 1, 2, 3, 5, 6] (by decide) (by decide) (fun w5001 hS5002 => ?_)
           refine ⟨trivial, ?_⟩
           refine WL.done rfl ?_
           refine WX.next ?_
           refine WC.seq ?_
           refine WC.region ?_
           refine seg 2 [.v (iv (((rdD t2771 x4941 z_Row).North).e0)), .v (iv (((rdD t2771 x4941 z_Row).North).e1)), .v (iv (((rdD t2771 x4941 z_Row).North).e2)), .v (iv (((rdD t2771 x4941 z_Row).North).e3)), .v (iv (((rdD t2771 x4941 z_Row).North).e4)), .v (iv (((rdD t2771 x4941 z_Row).North).e5)), .v (iv (((rdD t2771 x4941 z_Row).North).e6)), .v (iv (((rdD t2771 x4941 z_Row).North).e7))] [6, 8, 10, 13, 15, 16, 100] [(6, (pt g1903)), (8, (.slice A2776 t2771.length c2777)), (10, (pt g2783)), (13, (.slice A4412 x4416.2.length c4413)), (15, (pt g4456)), (16, (iv x4823)), (100, (.agg #[(iv (((rdD t2771 x4941 z_Row).North).e0)), (iv (((rdD t2771 x4941 z_Row).North).e1)), (iv (((rdD t2771 x4941 z_Row).North).e2)), (iv (((rdD t2771 x4941 z_Row).North).e3)), (iv (((rdD t2771 x4941 z_Row).North).e4)), (iv (((rdD t2771 x4941 z_Row).North).e5)), (iv (((rdD t2771 x4941 z_Row).North).e6)), (iv (((rdD t2771 x4941 z_Row).North).e7))]))] [.cell ⟨g4954, 9, none⟩ (iv (((rdD t2771 x4941 z_Row).North).e0)), .cell ⟨g4954, 10, none⟩ (iv (((rdD t2771 x4941 z_Row).North).e1)), .cell ⟨g4954, 11, none⟩ (iv (((rdD t2771 x4941 z_Row).North).e2)), .cell ⟨g4954, 12, none⟩ (iv (((rdD t2771 x4941 z_Row).North).e3)), .cell ⟨g4954, 13, none⟩ (iv (((rdD t2771 x4941 z_Row).North).e4)), .cell ⟨g4954, 14, none⟩ (iv (((rdD t2771 x4941 z_Row).North).e5)), .cell ⟨g4954, 15, none⟩ (iv (((rdD t2771 x4941 z_Row).North).e6)), .cell ⟨g4954, 16, none⟩ (iv (((rdD t2771 x4941 z_Row).North).e7))] (fun fb => by kernel_rfl) rfl ⟨hS5002.cell 6 rfl 9 rfl, hS5002.cell 6 rfl 10 rfl, hS5002.cell 6 rfl 11 rfl, hS5002.cell 6 rfl 12 rfl, hS5002.cell 6 rfl 13 rfl, hS5002.cell 6 rfl 14 rfl, hS5002.cell 6 rfl 15 rfl, hS5002.cell 6 rfl 16 rfl, trivial⟩ ?_
           refine WL.store hS5002 5 rfl [(0, (iv (((rdD t2771 x4941 z_Row).North).e0))), (1, (iv (((rdD t2771 x4941 z_Row).North).e1))), (2, (iv (((rdD t2771 x4941 z_Row).North).e2))), (3, (iv (((rdD t2771 x4941 z_Row).North).e3))), (4, (iv (((rdD t2771 x4941 z_Row).North).e4))), (5, (iv (((rdD t2771 x4941 z_Row).North).e5))), (6, (iv (((rdD t2771 x4941 z_Row).North).e6))), (7, (iv (((rdD t2771 x4941 z_Row).North).e7)))] #[(iv (((rdD t2771 x4941 z_Row).North).e0)), (iv (((rdD t2771 x4941 z_Row).North).e1)), (iv (((rdD t2771 x4941 z_Row).North).e2)), (iv (((rdD t2771 x4941 z_Row).North).e3)), (iv (((rdD t2771 x4941 z_Row).North).e4)), (iv (((rdD t2771 x4941 z_Row).North).e5)), (iv (((rdD t2771 x4941 z_Row).North).e6)), (iv (((rdD t2771 x4941 z_Row).North).e7))] (fun fb => by kernel_rfl) (by kernel_rfl) rfl [0, 1, 2, 3, 4, 6] (by decide) (by decide) (fun w5003 hS5004 => ?_)
           refine ⟨trivial, ?_⟩
           refine WL.done rfl ?_
           refine WX.next ?_
           refine WC.exit ?_
           injection hl4951 with hl4951
           exact WX.blockPast (by decide) (WX.thenX (WX.thenX (WX.blockHere (WX.to Kx4946 ((l4821 ++ ((rdD t2771 x4941 z_Row).Cells), ((rdD t2771 x4941 z_Row).North)), A4997, c4998) [6, 8, 10, 13, 15, 16] rfl ⟨(hS5004.subR [0, 1, 2, 3, 4, 5, 6, 7]).sub [3, 4, 5, 1, 2, 0] (by decide), hl4951.symm⟩))))
          refine WC.condF2 (fun fb => by kernel_rfl) h4995 ?_
          refine WC.skip ?_
          refine WX.blockN (WX.next ?_)
          refine WC.region ?_
          refine seg 2 [] [6, 8, 10, 13, 15, 16, 74, 75, 76] [(6, (pt g1903)), (8, (.slice A2776 t2771.length c2777)), (10, (pt g2783)), (13, (.slice A4412 x4416.2.length c4413)), (15, (pt g4456)), (16, (iv x4823)), (74, (.slice A2776 t2771.length c2777)), (75, (iv (t2771.length : Int))), (76, (iv (w64 (x4941 + 1))))] [] (fun fb => by kernel_rfl) rfl trivial ?_
          refine WL.done rfl ?_
          exact WX.again k4948 (Nat.lt_succ_self _) (w64 (x4941 + 1)) [6, 8, 10, 13, 15, 16, 74, 75, 76] rfl ⟨(hS4992.subR [0, 1, 2, 3, 4, 5, 6, 7]).sub [0, 1, 2, 3, 4, 5] (by decide), hl4951⟩
         refine WC.condF2 (fun fb => by kernel_rfl) h4952 ?_
         refine WC.exit ?_
         injection hl4951 with hl4951
         exact WX.thenX (WX.thenX (WX.blockHere (WX.to Kx4946 ((l4821, a4822), A4819, c4820) [6, 8, 10, 13, 15, 16] rfl ⟨(hS4950.subR [0, 1, 2, 3, 4, 5, 6, 7]).sub [0, 1, 2, 3, 4, 5] (by decide), hl4951.symm⟩)))
       rintro ⟨y5008, A4942, c4943⟩ w5005 ⟨hS5006, hq5007⟩
       subst hq5007
       refine WX.scopeN (WX.blockN (WX.next ?_))
       refine WC.region ?_
       refine seg 3 [] [6, 8, 10, 13, 15, 16] [(6, (pt g1903)), (8, (.slice A2776 t2771.length c2777)), (10, (pt g2783)), (13, (.slice A4412 x4416.2.length c4413)), (15, (pt g4456)), (16, (iv (w64 (x4823 - 1))))] [] (fun fb => by kernel_rfl) rfl trivial ?_
       refine WL.done rfl ?_
       exact WX.again k4829 (Nat.lt_succ_self _) ((x4946.1, x4946.2, w64 (x4823 - 1)), A4942, c4943) [6, 8, 10, 13, 15, 16] rfl ⟨(hS5006.subR [0, 1, 2, 3, 4, 5, 6, 7]).sub [0, 1, 2, 3, 4, 5] (by decide), hl4832⟩
      refine WC.condF2 (fun fb => by kernel_rfl) h4833 ?_
      refine WC.exit ?_
      injection hl4832 with hl4832
      exact WX.thenX (WX.thenX (WX.blockHere (WX.to Kx4827 (l4821, A4819, c4820) [6, 10] rfl ⟨(hS4831.subR [0, 1, 2, 3, 4, 5, 6, 7]).sub [0, 3, 4] (by decide), hl4832.symm⟩)))
    rintro ⟨y5012, A4824, c4825⟩ w5009 ⟨hS5010, hq5011⟩
    subst hq5011
    refine WX.next ?_
    refine WC.seq ?_
    refine WC.region ?_
    refine seg 1 [.v (iv p1), .v (iv p2), .v (.slice A4824 x4827.length c4825)] [6, 102] [(6, (pt g1903)), (102, (.agg #[(iv p1), (iv p2), (.slice A4824 x4827.length c4825)]))] [.cell ⟨g2783, 0, none⟩ (iv p1), .cell ⟨g2783, 1, none⟩ (iv p2), .cell ⟨g2783, 2, none⟩ (.slice A4824 x4827.length c4825)] (fun fb => by kernel_rfl) rfl ⟨hS5010.cell 1 rfl 0 rfl, hS5010.cell 1 rfl 1 rfl, hS5010.cell 1 rfl 2 rfl, trivial⟩ ?_
    refine WL.store hS5010 0 rfl [(0, (iv p1)), (1, (iv p2)), (2, (.slice A4824 x4827.length c4825))] #[(iv p1), (iv p2), (.slice A4824 x4827.length c4825)] (fun fb => by kernel_rfl) (by kernel_rfl) rfl [1, 2] (by decide) (by decide) (fun w5013 hS5014 => ?_)
    refine ⟨trivial, ?_⟩
    refine seg 3 [] [6, 7] [(6, (pt g1903)), (7, (.bool true))] [] (fun fb => by kernel_rfl) rfl trivial ?_
    refine WL.done rfl ?_
    refine WX.next ?_
    refine WC.ret ?_
    injection hl4385 with hl4385
    subst hl4385
    injection hf with hf
    subst hf
    exact WX.blockR (WX.thenR (WX.thenR (WX.blockR (WX.thenR (WX.scopeR (WX.ret_ [.v (iv p1), .v (iv p2), .v (.slice A4824 x4827.length c4825)] (.tuple #[(.agg #[(iv p1), (iv p2), (.slice A4824 x4827.length c4825)]), (.bool true)]) [.cell ⟨g1903, 0, none⟩ (iv p1), .cell ⟨g1903, 1, none⟩ (iv p2), .cell ⟨g1903, 2, none⟩ (.slice A4824 x4827.length c4825)] (fun fb => by kernel_rfl) ⟨hS5014.cell 0 rfl 0 rfl, hS5014.cell 0 rfl 1 rfl, hS5014.cell 0 rfl 2 rfl, trivial⟩ ⟨_, rfl, A4824, c4825, rfl, (hS5014.sub [2] (by decide)).noR⟩))))))
   refine WC.condF2 (fun fb => by kernel_rfl) h4386 ?_
   refine WC.exit ?_
   injection hl4385 with hl4385
   exact WX.thenX (WX.thenX (WX.blockHere (WX.to Kx4380 () [6] rfl ⟨(hS4384.subR [1, 2]).sub [0] (by decide), hl4385.symm⟩)))
 rintro y5018 w5015 ⟨hS5016, hq5017⟩
 subst hq5017
 have hf := sum_inr hf
 refine WX.next ?_
 refine WC.seq ?_
 refine WC.region ?_
 refine seg 1 [] [6, 104] [(6, (pt g1903)), (104, (.agg #[(iv 0), (iv 0), (.slice none 0 0)]))] [] (fun fb => by kernel_rfl) rfl trivial ?_
 refine WL.store hS5016 0 rfl [(0, (iv 0)), (1, (iv 0)), (2, (.slice none 0 0))] #[(iv 0), (iv 0), (.slice none 0 0)] (fun fb => by kernel_rfl) (by kernel_rfl) rfl [] (by decide) (by decide) (fun w5020 hS5021 => ?_)
 refine ⟨trivial, ?_⟩
 refine seg 3 [] [6, 7] [(6, (pt g1903)), (7, (.bool false))] [] (fun fb => by kernel_rfl) rfl trivial ?_
 refine WL.done rfl ?_
 refine WX.next ?_
 refine WC.ret ?_
 have hS5022 := hS5021.nilrow 3 encInt
 injection hf with hf
 subst hf
 exact WX.scopeR (WX.ret_ [.v (iv 0), .v (iv 0), .v (.slice none 0 0)] (.tuple #[(.agg #[(iv 0), (iv 0), (.slice none ([] : List Int).length 0)]), (.bool false)]) [.cell ⟨g1903, 0, none⟩ (iv 0), .cell ⟨g1903, 1, none⟩ (iv 0), .cell ⟨g1903, 2, none⟩ (.slice none 0 0)] (fun fb => by kernel_rfl) ⟨hS5021.cell 0 rfl 0 rfl, hS5021.cell 0 rfl 1 rfl, hS5021.cell 0 rfl 2 rfl, trivial⟩ ⟨_, rfl, none, 0, rfl, (hS5022.sub [0] (by decide)).noR⟩)
theorem torus_Least_calls (k : Nat) (p0 : List Tile) (p1 : Int) (A_p0 : Option Addr) (c_p0 : Nat) (r : Pattern × Int) (w : World) (hR0 : RO NoS w (rowR enc_Tile A_p0 c_p0 p0)) (hf : torus_Least k p0 p1 = some r) :
  CallsR Tryd.prog 22 #[(.slice A_p0 p0.length c_p0), (iv p1)] w (fun v w' => ∃ (A1_ : Option Addr), ∃ (c1_ : Nat), v = (.tuple #[(.agg #[(iv r.1.Width), (iv r.1.Height), (.slice A1_ r.1.Cells.length c1_)]), (iv r.2)]) ∧ St NoS w w' [] [rowO 3 encInt A1_ c1_ r.1.Cells]) := by
 have hS : St NoS w w [rowR enc_Tile A_p0 c_p0 p0] [] := St.init (ro_cons hR0 (ro_nil _ _))
 refine enter 61 Tryd.func22 rfl Tryd.ntmps22 rfl ?_
 unfold torus_Least at hf
 refine WC.seq ?_
 refine WC.region ?_
 refine WL.new hS 4 [] (fun g => (.pointer (some ⟨g, 0, none⟩))) (.cells #[(iv 0), (iv 0), (.slice none 0 0)] 27 (0, 0)) [] (fun fb g => by kernel_rfl) trivial (fun g1849 w1850 hS1851 => ?_)
 refine ⟨trivial, ?_⟩
 refine seg 2 [] [0, 1, 4] [(0, (.slice A_p0 p0.length c_p0)), (1, (iv p1)), (4, (pt g1849))] [] (fun fb => by kernel_rfl) rfl trivial ?_
 refine WL.done rfl ?_
 refine WX.next ?_
 refine WC.seq ?_
 refine WC.seq ?_
 refine WC.region ?_
 refine seg 1 [] [0, 1, 4, 10] [(0, (.slice A_p0 p0.length c_p0)), (1, (iv p1)), (4, (pt g1849)), (10, (.slice A_p0 p0.length c_p0))] [] (fun fb => by kernel_rfl) rfl trivial ?_
 obtain ⟨t1853, ht1854, hf⟩ := bind_some hf
 refine WL.call (some 11) 52 #[(.slice A_p0 p0.length c_p0)] (fun fb => by kernel_rfl) (tile_Valid_calls _ p0 A_p0 c_p0 t1853 _ (hS1851.rd 0) ht1854) (fun v w1855 hR1856 => ?_)
 obtain ⟨rfl, hk_⟩ := hR1856
 have hS1857 := hS1851.keepN hk_
 refine ⟨trivial, ?_⟩
 refine seg 3 [] [0, 1, 4, 12] [(0, (.slice A_p0 p0.length c_p0)), (1, (iv p1)), (4, (pt g1849)), (12, (.bool (!t1853)))] [] (fun fb => by kernel_rfl) rfl trivial ?_
 refine WL.done rfl ?_
 refine WX.next ?_
 rcases br_some hf with ⟨h1858, hf⟩ | ⟨h1858, hf⟩
 ·refine WC.condT2 (fun fb => by kernel_rfl) h1858 ?_
  refine WC.seq ?_
  refine WC.region ?_
  refine seg 1 [] [4, 13] [(4, (pt g1849)), (13, (.agg #[(iv 0), (iv 0), (.slice none 0 0)]))] [] (fun fb => by kernel_rfl) rfl trivial ?_
  refine WL.store hS1857 0 rfl [(0, (iv 0)), (1, (iv 0)), (2, (.slice none 0 0))] #[(iv 0), (iv 0), (.slice none 0 0)] (fun fb => by kernel_rfl) (by kernel_rfl) rfl [] (by decide) (by decide) (fun w1859 hS1860 => ?_)
  refine ⟨trivial, ?_⟩
  refine seg 3 [] [4, 5] [(4, (pt g1849)), (5, (iv 1))] [] (fun fb => by kernel_rfl) rfl trivial ?_
  refine WL.done rfl ?_
  refine WX.next ?_
  refine WC.ret ?_
  have hS1861 := hS1860.nilrow 3 encInt
  injection hf with hf
  subst hf
  exact WX.thenR (WX.ret_ [.v (iv 0), .v (iv 0), .v (.slice none 0 0)] (.tuple #[(.agg #[(iv 0), (iv 0), (.slice none ([] : List Int).length 0)]), (iv 1)]) [.cell ⟨g1849, 0, none⟩ (iv 0), .cell ⟨g1849, 1, none⟩ (iv 0), .cell ⟨g1849, 2, none⟩ (.slice none 0 0)] (fun fb => by kernel_rfl) ⟨hS1860.cell 0 rfl 0 rfl, hS1860.cell 0 rfl 1 rfl, hS1860.cell 0 rfl 2 rfl, trivial⟩ ⟨_, rfl, none, 0, rfl, (hS1861.sub [0] (by decide)).noR⟩)
 refine WC.condF2 (fun fb => by kernel_rfl) h1858 ?_
 refine WC.skip ?_
 refine WX.next ?_
 refine WC.seq ?_
 refine WC.seq ?_
 refine WC.region ?_
 refine seg 3 [] [0, 1, 4, 16] [(0, (.slice A_p0 p0.length c_p0)), (1, (iv p1)), (4, (pt g1849)), (16, (.bool (decide (p1 < 1))))] [] (fun fb => by kernel_rfl) rfl trivial ?_
 refine WL.cutV (T := Bool) 6 (fun t => [(19, (.bool t)), (0, (.slice A_p0 p0.length c_p0)), (1, (iv p1)), (4, (pt g1849))]) (fun t => ((decide (p1 < 1)) || (decide (p1 > 6))) = t) (fun K => ?_) ?_
 ·
  rcases Bool.eq_false_or_eq_true (decide (p1 < 1)) with h1862 | h1862
  ·
   refine WL.setB 16 h1862 rfl ?_
   refine seg 6 [] [0, 1, 4, 19] [(0, (.slice A_p0 p0.length c_p0)), (1, (iv p1)), (4, (pt g1849)), (19, (.bool true))] [] (fun fb => by kernel_rfl) rfl trivial ?_
   exact WL.toV K true [19, 0, 1, 4] rfl (by first | (rw [h1862]; done) | (rw [h1862]; rfl))
  refine WL.setB 16 h1862 rfl ?_
  refine seg 6 [] [0, 1, 4, 19] [(0, (.slice A_p0 p0.length c_p0)), (1, (iv p1)), (4, (pt g1849)), (19, (.bool (decide (p1 > 6))))] [] (fun fb => by kernel_rfl) rfl trivial ?_
  exact WL.toV K (decide (p1 > 6)) [19, 0, 1, 4] rfl (by first | (rw [h1862]; done) | (rw [h1862]; rfl))
 rintro b1863 rfl
 refine WL.done rfl ?_
 refine WX.next ?_
 rcases br_some hf with ⟨h1864, hf⟩ | ⟨h1864, hf⟩
 ·refine WC.condT2 (fun fb => by kernel_rfl) h1864 ?_
  refine WC.seq ?_
  refine WC.region ?_
  refine seg 1 [] [4, 20] [(4, (pt g1849)), (20, (.agg #[(iv 0), (iv 0), (.slice none 0 0)]))] [] (fun fb => by kernel_rfl) rfl trivial ?_
  refine WL.store hS1857 0 rfl [(0, (iv 0)), (1, (iv 0)), (2, (.slice none 0 0))] #[(iv 0), (iv 0), (.slice none 0 0)] (fun fb => by kernel_rfl) (by kernel_rfl) rfl [] (by decide) (by decide) (fun w1865 hS1866 => ?_)
  refine ⟨trivial, ?_⟩
  refine seg 3 [] [4, 5] [(4, (pt g1849)), (5, (iv 2))] [] (fun fb => by kernel_rfl) rfl trivial ?_
  refine WL.done rfl ?_
  refine WX.next ?_
  refine WC.ret ?_
  have hS1867 := hS1866.nilrow 3 encInt
  injection hf with hf
  subst hf
  exact WX.thenR (WX.ret_ [.v (iv 0), .v (iv 0), .v (.slice none 0 0)] (.tuple #[(.agg #[(iv 0), (iv 0), (.slice none ([] : List Int).length 0)]), (iv 2)]) [.cell ⟨g1849, 0, none⟩ (iv 0), .cell ⟨g1849, 1, none⟩ (iv 0), .cell ⟨g1849, 2, none⟩ (.slice none 0 0)] (fun fb => by kernel_rfl) ⟨hS1866.cell 0 rfl 0 rfl, hS1866.cell 0 rfl 1 rfl, hS1866.cell 0 rfl 2 rfl, trivial⟩ ⟨_, rfl, none, 0, rfl, (hS1867.sub [0] (by decide)).noR⟩)
 refine WC.condF2 (fun fb => by kernel_rfl) h1864 ?_
 refine WC.skip ?_
 refine WX.next ?_
 refine WC.seq ?_
 refine WC.seq ?_
 refine WC.region ?_
 refine seg 2 [] [0, 1, 4, 21, 22] [(0, (.slice A_p0 p0.length c_p0)), (1, (iv p1)), (4, (pt g1849)), (21, (.slice A_p0 p0.length c_p0)), (22, (iv p1))] [] (fun fb => by kernel_rfl) rfl trivial ?_
 obtain ⟨t1889, ht1890, hf⟩ := bind_some hf
 refine WL.call (some 23) 53 #[(.slice A_p0 p0.length c_p0), (iv p1)] (fun fb => by kernel_rfl) (rows_Few_calls _ p0 p1 A_p0 c_p0 t1889 _ (hS1857.rd 0) ht1890) (fun v w1891 hR1892 => ?_)
 obtain ⟨rfl, hk_⟩ := hR1892
 have hS1893 := hS1857.keepN hk_
 refine ⟨trivial, ?_⟩
 refine seg 4 [] [0, 1, 4, 24] [(0, (.slice A_p0 p0.length c_p0)), (1, (iv p1)), (4, (pt g1849)), (24, (.bool (!t1889)))] [] (fun fb => by kernel_rfl) rfl trivial ?_
 refine WL.done rfl ?_
 refine WX.next ?_
 rcases br_some hf with ⟨h1894, hf⟩ | ⟨h1894, hf⟩
 ·refine WC.condT2 (fun fb => by kernel_rfl) h1894 ?_
  refine WC.seq ?_
  refine WC.region ?_
  refine seg 1 [] [4, 25] [(4, (pt g1849)), (25, (.agg #[(iv 0), (iv 0), (.slice none 0 0)]))] [] (fun fb => by kernel_rfl) rfl trivial ?_
  refine WL.store hS1893 0 rfl [(0, (iv 0)), (1, (iv 0)), (2, (.slice none 0 0))] #[(iv 0), (iv 0), (.slice none 0 0)] (fun fb => by kernel_rfl) (by kernel_rfl) rfl [] (by decide) (by decide) (fun w1895 hS1896 => ?_)
  refine ⟨trivial, ?_⟩
  refine seg 3 [] [4, 5] [(4, (pt g1849)), (5, (iv 4))] [] (fun fb => by kernel_rfl) rfl trivial ?_
  refine WL.done rfl ?_
  refine WX.next ?_
  refine WC.ret ?_
  have hS1897 := hS1896.nilrow 3 encInt
  injection hf with hf
  subst hf
  exact WX.thenR (WX.ret_ [.v (iv 0), .v (iv 0), .v (.slice none 0 0)] (.tuple #[(.agg #[(iv 0), (iv 0), (.slice none ([] : List Int).length 0)]), (iv 4)]) [.cell ⟨g1849, 0, none⟩ (iv 0), .cell ⟨g1849, 1, none⟩ (iv 0), .cell ⟨g1849, 2, none⟩ (.slice none 0 0)] (fun fb => by kernel_rfl) ⟨hS1896.cell 0 rfl 0 rfl, hS1896.cell 0 rfl 1 rfl, hS1896.cell 0 rfl 2 rfl, trivial⟩ ⟨_, rfl, none, 0, rfl, (hS1897.sub [0] (by decide)).noR⟩)
 refine WC.condF2 (fun fb => by kernel_rfl) h1894 ?_
 refine WC.skip ?_
 refine WX.next ?_
 refine WC.seq ?_
 refine WC.seq ?_
 refine WC.region ?_
 refine seg 1 [] [0, 1, 4, 6] [(0, (.slice A_p0 p0.length c_p0)), (1, (iv p1)), (4, (pt g1849)), (6, (iv 1))] [] (fun fb => by kernel_rfl) rfl trivial ?_
 refine WL.done rfl ?_
 refine WX.next ?_
 obtain ⟨x5332, hx5333, hf⟩ := bind_some hf
 refine WC.cutN (T := Unit) (fun t => [(4, (pt g1849))]) (fun t w1 => St NoS w w1 [rowR enc_Tile A_p0 c_p0 p0] [blk g1849 (.cells #[(iv 0), (iv 0), (.slice none 0 0)] 27 (0, 0))] ∧ x5332 = .inr t) (fun Kx5332 => ?_) ?_
 ·
  refine WC.block ?_
  refine WC.loop (T := Int) (fun t => [(0, (.slice A_p0 p0.length c_p0)), (1, (iv p1)), (4, (pt g1849)), (6, (iv t))]) (fun n t w1 => St NoS w w1 [rowR enc_Tile A_p0 c_p0 p0] [blk g1849 (.cells #[(iv 0), (iv 0), (.slice none 0 0)] 27 (0, 0))] ∧ torus_Least.l0 n t p0 p1 = some x5332) k 1 [0, 1, 4, 6] rfl ⟨(hS1893.subR [0]).sub [0] (by decide), hx5333⟩ ?_
  rintro k5334 x5331 w5335 ⟨hS5336, hl5337⟩
  cases k5334 with
  | zero => rw [torus_Least.l0] at hl5337; cases hl5337
  | succ k5334 =>
   rw [torus_Least.l0] at hl5337
   refine WC.seq ?_
   refine WC.seq ?_
   refine WC.region ?_
   refine seg 5 [] [0, 1, 4, 6, 30] [(0, (.slice A_p0 p0.length c_p0)), (1, (iv p1)), (4, (pt g1849)), (6, (iv x5331)), (30, (.bool (decide (x5331 ≤ w64 (p1 * p1)))))] [] (fun fb => by kernel_rfl) rfl trivial ?_
   refine WL.done rfl ?_
   refine WX.next ?_
   rcases br_some hl5337 with ⟨h5338, hl5337⟩ | ⟨h5338, hl5337⟩
   ·refine WC.condT2 (fun fb => by kernel_rfl) h5338 ?_
    refine WC.skip ?_
    refine WX.next ?_
    refine WC.seq ?_
    refine WC.block ?_
    refine WC.seq ?_
    refine WC.region ?_
    refine seg 1 [] [0, 1, 4, 6, 7] [(0, (.slice A_p0 p0.length c_p0)), (1, (iv p1)), (4, (pt g1849)), (6, (iv x5331)), (7, (iv 1))] [] (fun fb => by kernel_rfl) rfl trivial ?_
    refine WL.done rfl ?_
    refine WX.next ?_
    obtain ⟨x5435, hx5436, hl5337⟩ := bind_some hl5337
    refine WC.cutN (T := Unit) (fun t => [(0, (.slice A_p0 p0.length c_p0)), (1, (iv p1)), (4, (pt g1849)), (6, (iv x5331))]) (fun t w1 => St NoS w w1 [rowR enc_Tile A_p0 c_p0 p0] [blk g1849 (.cells #[(iv 0), (iv 0), (.slice none 0 0)] 27 (0, 0))] ∧ x5435 = .inr t) (fun Kx5435 => ?_) ?_
    ·
     refine WC.block ?_
     refine WC.loop (T := Int) (fun t => [(0, (.slice A_p0 p0.length c_p0)), (1, (iv p1)), (4, (pt g1849)), (6, (iv x5331)), (7, (iv t))]) (fun n t w1 => St NoS w w1 [rowR enc_Tile A_p0 c_p0 p0] [blk g1849 (.cells #[(iv 0), (iv 0), (.slice none 0 0)] 27 (0, 0))] ∧ torus_Least.l1 n t p0 p1 x5331 = some x5435) k5334 1 [0, 1, 4, 6, 7] rfl ⟨(hS5336.subR [0]).sub [0] (by decide), hx5436⟩ ?_
     rintro k5437 x5434 w5438 ⟨hS5439, hl5440⟩
     cases k5437 with
     | zero => rw [torus_Least.l1] at hl5440; cases hl5440
     | succ k5437 =>
      rw [torus_Least.l1] at hl5440
      refine WC.seq ?_
      refine WC.seq ?_
      refine WC.region ?_
      refine seg 3 [] [0, 1, 4, 6, 7, 35] [(0, (.slice A_p0 p0.length c_p0)), (1, (iv p1)), (4, (pt g1849)), (6, (iv x5331)), (7, (iv x5434)), (35, (.bool (decide (x5434 ≤ p1))))] [] (fun fb => by kernel_rfl) rfl trivial ?_
      refine WL.done rfl ?_
      refine WX.next ?_
      rcases br_some hl5440 with ⟨h5441, hl5440⟩ | ⟨h5441, hl5440⟩
      ·refine WC.condT2 (fun fb => by kernel_rfl) h5441 ?_
       refine WC.skip ?_
       refine WX.next ?_
       refine WC.seq ?_
       obtain ⟨x5462, hx5463, hl5440⟩ := bind_some hl5440
       refine WC.cutN (T := Unit) (fun t => [(0, (.slice A_p0 p0.length c_p0)), (1, (iv p1)), (4, (pt g1849)), (6, (iv x5331)), (7, (iv x5434))]) (fun t w1 => St NoS w w1 [rowR enc_Tile A_p0 c_p0 p0] [blk g1849 (.cells #[(iv 0), (iv 0), (.slice none 0 0)] 27 (0, 0))] ∧ x5462 = .inr t) (fun Kx5462 => ?_) ?_
       ·
        refine WC.block ?_
        refine WC.seq ?_
        refine WC.seq ?_
        refine WC.region ?_
        refine seg 2 [] [0, 1, 4, 6, 7, 38, 39] [(0, (.slice A_p0 p0.length c_p0)), (1, (iv p1)), (4, (pt g1849)), (6, (iv x5331)), (7, (iv x5434)), (38, (iv x5331)), (39, (iv x5434))] [] (fun fb => by kernel_rfl) rfl trivial ?_
        obtain ⟨h5464, hx5463⟩ := as_some hx5463
        refine seg 5 [] [0, 1, 4, 6, 7, 42] [(0, (.slice A_p0 p0.length c_p0)), (1, (iv p1)), (4, (pt g1849)), (6, (iv x5331)), (7, (iv x5434)), (42, (.bool ((Int.tmod x5331 x5434) != 0)))] [.ne x5434] (fun fb => by kernel_rfl) rfl ⟨h5464, trivial⟩ ?_
        refine WL.cutV (T := Bool) 11 (fun t => [(48, (.bool t)), (0, (.slice A_p0 p0.length c_p0)), (1, (iv p1)), (4, (pt g1849)), (6, (iv x5331)), (7, (iv x5434))]) (fun t => (((Int.tmod x5331 x5434) != 0) || (decide (w64 (Int.tdiv x5331 x5434) > p1))) = t) (fun K => ?_) ?_
        ·
         rcases Bool.eq_false_or_eq_true ((Int.tmod x5331 x5434) != 0) with h5465 | h5465
         ·
          refine WL.setB 42 h5465 rfl ?_
          refine seg 11 [] [0, 1, 4, 6, 7, 48] [(0, (.slice A_p0 p0.length c_p0)), (1, (iv p1)), (4, (pt g1849)), (6, (iv x5331)), (7, (iv x5434)), (48, (.bool true))] [] (fun fb => by kernel_rfl) rfl trivial ?_
          exact WL.toV K true [48, 0, 1, 4, 6, 7] rfl (by first | (rw [h5465]; done) | (rw [h5465]; rfl))
         refine WL.setB 42 h5465 rfl ?_
         refine seg 11 [] [0, 1, 4, 6, 7, 48] [(0, (.slice A_p0 p0.length c_p0)), (1, (iv p1)), (4, (pt g1849)), (6, (iv x5331)), (7, (iv x5434)), (48, (.bool (decide (w64 (Int.tdiv x5331 x5434) > p1))))] [.ne x5434] (fun fb => by kernel_rfl) rfl ⟨h5464, trivial⟩ ?_
         exact WL.toV K (decide (w64 (Int.tdiv x5331 x5434) > p1)) [48, 0, 1, 4, 6, 7] rfl (by first | (rw [h5465]; done) | (rw [h5465]; rfl))
        rintro b5466 rfl
        refine WL.done rfl ?_
        refine WX.next ?_
        rcases br_some hx5463 with ⟨h5467, hx5463⟩ | ⟨h5467, hx5463⟩
        ·refine WC.condT2 (fun fb => by kernel_rfl) h5467 ?_
         refine WC.exit ?_
         injection hx5463 with hx5463
         exact WX.thenX (WX.blockHere (WX.to Kx5462 () [0, 1, 4, 6, 7] rfl ⟨(hS5439.subR [0]).sub [0] (by decide), hx5463.symm⟩))
        refine WC.condF2 (fun fb => by kernel_rfl) h5467 ?_
        refine WC.skip ?_
        refine WX.next ?_
        refine WC.seq ?_
        refine WC.region ?_
        refine seg 5 [] [0, 1, 4, 6, 7, 50, 51, 54] [(0, (.slice A_p0 p0.length c_p0)), (1, (iv p1)), (4, (pt g1849)), (6, (iv x5331)), (7, (iv x5434)), (50, (.slice A_p0 p0.length c_p0)), (51, (iv x5434)), (54, (iv (w64 (Int.tdiv x5331 x5434))))] [.ne x5434] (fun fb => by kernel_rfl) rfl ⟨h5464, trivial⟩ ?_
        obtain ⟨t5468, ht5469, hx5463⟩ := bind_some hx5463
        refine WL.call (some 55) 54 #[(.slice A_p0 p0.length c_p0), (iv x5434), (iv (w64 (Int.tdiv x5331 x5434)))] (fun fb => by kernel_rfl) (torus_find_calls _ p0 x5434 (w64 (Int.tdiv x5331 x5434)) A_p0 c_p0 t5468 _ (hS5439.rd 0) ht5469) (fun v w5470 hR5471 => ?_)
        obtain ⟨A5473, c5474, rfl, hk_⟩ := hR5471
        have hS5472 : St NoS w w5470 [rowR enc_Tile A_p0 c_p0 p0] [rowO 3 encInt A5473 c5474 t5468.1.Cells, blk g1849 (.cells #[(iv 0), (iv 0), (.slice none 0 0)] 27 (0, 0))] := hS5439.call hk_ [] [0] (fun g hg => hg.elim) (by simp) (by decide)
        refine ⟨trivial, ?_⟩
        refine seg 9 [] [0, 1, 4, 6, 7, 56, 57] [(0, (.slice A_p0 p0.length c_p0)), (1, (iv p1)), (4, (pt g1849)), (6, (iv x5331)), (7, (iv x5434)), (56, (.agg #[(iv t5468.1.Width), (iv t5468.1.Height), (.slice A5473 t5468.1.Cells.length c5474)])), (57, (.bool t5468.2))] [] (fun fb => by kernel_rfl) rfl trivial ?_
        refine WL.new hS5472 8 [] (fun g => (.pointer (some ⟨g, 0, none⟩))) (.cells #[(iv 0), (iv 0), (.slice none 0 0)] 27 (0, 0)) [] (fun fb g => by kernel_rfl) trivial (fun g5475 w5476 hS5477 => ?_)
        refine ⟨trivial, ?_⟩
        refine WL.store hS5477 0 rfl [(0, (iv t5468.1.Width)), (1, (iv t5468.1.Height)), (2, (.slice A5473 t5468.1.Cells.length c5474))] #[(iv t5468.1.Width), (iv t5468.1.Height), (.slice A5473 t5468.1.Cells.length c5474)] (fun fb => by kernel_rfl) (by kernel_rfl) rfl [1, 2] (by decide) (by decide) (fun w5479 hS5480 => ?_)
        refine ⟨trivial, ?_⟩
        refine seg 12 [] [0, 1, 4, 6, 7, 8, 9] [(0, (.slice A_p0 p0.length c_p0)), (1, (iv p1)), (4, (pt g1849)), (6, (iv x5331)), (7, (iv x5434)), (8, (pt g5475)), (9, (.bool t5468.2))] [] (fun fb => by kernel_rfl) rfl trivial ?_
        refine WL.done rfl ?_
        refine WX.next ?_
        refine WC.seq ?_
        refine WC.region ?_
        refine seg 1 [] [0, 1, 4, 6, 7, 8, 58] [(0, (.slice A_p0 p0.length c_p0)), (1, (iv p1)), (4, (pt g1849)), (6, (iv x5331)), (7, (iv x5434)), (8, (pt g5475)), (58, (.bool t5468.2))] [] (fun fb => by kernel_rfl) rfl trivial ?_
        refine WL.done rfl ?_
        refine WX.next ?_
        rcases br_some hx5463 with ⟨h5481, hx5463⟩ | ⟨h5481, hx5463⟩
        ·refine WC.condT2 (fun fb => by kernel_rfl) h5481 ?_
         refine WC.seq ?_
         refine WC.region ?_
         refine seg 1 [.v (iv t5468.1.Width), .v (iv t5468.1.Height), .v (.slice A5473 t5468.1.Cells.length c5474)] [4, 59] [(4, (pt g1849)), (59, (.agg #[(iv t5468.1.Width), (iv t5468.1.Height), (.slice A5473 t5468.1.Cells.length c5474)]))] [.cell ⟨g5475, 0, none⟩ (iv t5468.1.Width), .cell ⟨g5475, 1, none⟩ (iv t5468.1.Height), .cell ⟨g5475, 2, none⟩ (.slice A5473 t5468.1.Cells.length c5474)] (fun fb => by kernel_rfl) rfl ⟨hS5480.cell 0 rfl 0 rfl, hS5480.cell 0 rfl 1 rfl, hS5480.cell 0 rfl 2 rfl, trivial⟩ ?_
         refine WL.store hS5480 2 rfl [(0, (iv t5468.1.Width)), (1, (iv t5468.1.Height)), (2, (.slice A5473 t5468.1.Cells.length c5474))] #[(iv t5468.1.Width), (iv t5468.1.Height), (.slice A5473 t5468.1.Cells.length c5474)] (fun fb => by kernel_rfl) (by kernel_rfl) rfl [0, 1] (by decide) (by decide) (fun w5482 hS5483 => ?_)
         refine ⟨trivial, ?_⟩
         refine seg 3 [] [4, 5] [(4, (pt g1849)), (5, (iv 0))] [] (fun fb => by kernel_rfl) rfl trivial ?_
         refine WL.done rfl ?_
         refine WX.next ?_
         refine WC.ret ?_
         injection hx5463 with hx5463
         subst hx5463
         injection hl5440 with hl5440
         subst hl5440
         injection hl5337 with hl5337
         subst hl5337
         injection hf with hf
         subst hf
         exact WX.blockR (WX.thenR (WX.thenR (WX.blockR (WX.blockR (WX.thenR (WX.thenR (WX.blockR (WX.thenR (WX.ret_ [.v (iv t5468.1.Width), .v (iv t5468.1.Height), .v (.slice A5473 t5468.1.Cells.length c5474)] (.tuple #[(.agg #[(iv t5468.1.Width), (iv t5468.1.Height), (.slice A5473 t5468.1.Cells.length c5474)]), (iv 0)]) [.cell ⟨g1849, 0, none⟩ (iv t5468.1.Width), .cell ⟨g1849, 1, none⟩ (iv t5468.1.Height), .cell ⟨g1849, 2, none⟩ (.slice A5473 t5468.1.Cells.length c5474)] (fun fb => by kernel_rfl) ⟨hS5483.cell 0 rfl 0 rfl, hS5483.cell 0 rfl 1 rfl, hS5483.cell 0 rfl 2 rfl, trivial⟩ ⟨_, rfl, A5473, c5474, rfl, (hS5483.sub [2] (by decide)).noR⟩)))))))))
        refine WC.condF2 (fun fb => by kernel_rfl) h5481 ?_
        refine WC.skip ?_
        injection hx5463 with hx5463
        exact WX.blockN (WX.to Kx5462 () [0, 1, 4, 6, 7] rfl ⟨(hS5480.subR [0]).sub [2] (by decide), hx5463.symm⟩)
       rintro y5487 w5484 ⟨hS5485, hq5486⟩
       subst hq5486
       have hl5440 := sum_inr hl5440
       refine WX.next ?_
       refine WC.region ?_
       refine seg 3 [] [0, 1, 4, 6, 7] [(0, (.slice A_p0 p0.length c_p0)), (1, (iv p1)), (4, (pt g1849)), (6, (iv x5331)), (7, (iv (w64 (x5434 + 1))))] [] (fun fb => by kernel_rfl) rfl trivial ?_
       refine WL.done rfl ?_
       exact WX.again k5437 (Nat.lt_succ_self _) (w64 (x5434 + 1)) [0, 1, 4, 6, 7] rfl ⟨(hS5485.subR [0]).sub [0] (by decide), hl5440⟩
      refine WC.condF2 (fun fb => by kernel_rfl) h5441 ?_
      refine WC.exit ?_
      injection hl5440 with hl5440
      exact WX.thenX (WX.thenX (WX.blockHere (WX.to Kx5435 () [0, 1, 4, 6] rfl ⟨(hS5439.subR [0]).sub [0] (by decide), hl5440.symm⟩)))
    rintro y5492 w5489 ⟨hS5490, hq5491⟩
    subst hq5491
    have hl5337 := sum_inr hl5337
    refine WX.blockN (WX.next ?_)
    refine WC.region ?_
    refine seg 3 [] [0, 1, 4, 6] [(0, (.slice A_p0 p0.length c_p0)), (1, (iv p1)), (4, (pt g1849)), (6, (iv (w64 (x5331 + 1))))] [] (fun fb => by kernel_rfl) rfl trivial ?_
    refine WL.done rfl ?_
    exact WX.again k5334 (Nat.lt_succ_self _) (w64 (x5331 + 1)) [0, 1, 4, 6] rfl ⟨(hS5490.subR [0]).sub [0] (by decide), hl5337⟩
   refine WC.condF2 (fun fb => by kernel_rfl) h5338 ?_
   refine WC.exit ?_
   injection hl5337 with hl5337
   exact WX.thenX (WX.thenX (WX.blockHere (WX.to Kx5332 () [4] rfl ⟨(hS5336.subR [0]).sub [0] (by decide), hl5337.symm⟩)))
 rintro y5497 w5494 ⟨hS5495, hq5496⟩
 subst hq5496
 have hf := sum_inr hf
 refine WX.next ?_
 refine WC.seq ?_
 refine WC.region ?_
 refine seg 1 [] [4, 60] [(4, (pt g1849)), (60, (.agg #[(iv 0), (iv 0), (.slice none 0 0)]))] [] (fun fb => by kernel_rfl) rfl trivial ?_
 refine WL.store hS5495 0 rfl [(0, (iv 0)), (1, (iv 0)), (2, (.slice none 0 0))] #[(iv 0), (iv 0), (.slice none 0 0)] (fun fb => by kernel_rfl) (by kernel_rfl) rfl [] (by decide) (by decide) (fun w5499 hS5500 => ?_)
 refine ⟨trivial, ?_⟩
 refine seg 3 [] [4, 5] [(4, (pt g1849)), (5, (iv 6))] [] (fun fb => by kernel_rfl) rfl trivial ?_
 refine WL.done rfl ?_
 refine WX.next ?_
 refine WC.ret ?_
 have hS5501 := hS5500.nilrow 3 encInt
 injection hf with hf
 subst hf
 exact WX.ret_ [.v (iv 0), .v (iv 0), .v (.slice none 0 0)] (.tuple #[(.agg #[(iv 0), (iv 0), (.slice none ([] : List Int).length 0)]), (iv 6)]) [.cell ⟨g1849, 0, none⟩ (iv 0), .cell ⟨g1849, 1, none⟩ (iv 0), .cell ⟨g1849, 2, none⟩ (.slice none 0 0)] (fun fb => by kernel_rfl) ⟨hS5500.cell 0 rfl 0 rfl, hS5500.cell 0 rfl 1 rfl, hS5500.cell 0 rfl 2 rfl, trivial⟩ ⟨_, rfl, none, 0, rfl, (hS5501.sub [0] (by decide)).noR⟩
theorem torus_Find_calls (k : Nat) (p0 : List Tile) (p1 : Int) (p2 : Int) (A_p0 : Option Addr) (c_p0 : Nat) (r : Pattern × Int) (w : World) (hR0 : RO NoS w (rowR enc_Tile A_p0 c_p0 p0)) (hf : torus_Find k p0 p1 p2 = some r) :
  CallsR Tryd.prog 16 #[(.slice A_p0 p0.length c_p0), (iv p1), (iv p2)] w (fun v w' => ∃ (A1_ : Option Addr), ∃ (c1_ : Nat), v = (.tuple #[(.agg #[(iv r.1.Width), (iv r.1.Height), (.slice A1_ r.1.Cells.length c1_)]), (iv r.2)]) ∧ St NoS w w' [] [rowO 3 encInt A1_ c1_ r.1.Cells]) := by
 have hS : St NoS w w [rowR enc_Tile A_p0 c_p0 p0] [] := St.init (ro_cons hR0 (ro_nil _ _))
 refine enter 45 Tryd.func16 rfl Tryd.ntmps16 rfl ?_
 unfold torus_Find at hf
 refine WC.seq ?_
 refine WC.region ?_
 refine WL.new hS 6 [] (fun g => (.pointer (some ⟨g, 0, none⟩))) (.cells #[(iv 0), (iv 0), (.slice none 0 0)] 27 (0, 0)) [] (fun fb g => by kernel_rfl) trivial (fun g5515 w5516 hS5517 => ?_)
 refine ⟨trivial, ?_⟩
 refine seg 2 [] [0, 1, 2, 6] [(0, (.slice A_p0 p0.length c_p0)), (1, (iv p1)), (2, (iv p2)), (6, (pt g5515))] [] (fun fb => by kernel_rfl) rfl trivial ?_
 refine WL.done rfl ?_
 refine WX.next ?_
 refine WC.seq ?_
 refine WC.seq ?_
 refine WC.region ?_
 refine seg 1 [] [0, 1, 2, 6, 10] [(0, (.slice A_p0 p0.length c_p0)), (1, (iv p1)), (2, (iv p2)), (6, (pt g5515)), (10, (.slice A_p0 p0.length c_p0))] [] (fun fb => by kernel_rfl) rfl trivial ?_
 obtain ⟨t5519, ht5520, hf⟩ := bind_some hf
 refine WL.call (some 11) 52 #[(.slice A_p0 p0.length c_p0)] (fun fb => by kernel_rfl) (tile_Valid_calls _ p0 A_p0 c_p0 t5519 _ (hS5517.rd 0) ht5520) (fun v w5521 hR5522 => ?_)
 obtain ⟨rfl, hk_⟩ := hR5522
 have hS5523 := hS5517.keepN hk_
 refine ⟨trivial, ?_⟩
 refine seg 3 [] [0, 1, 2, 6, 12] [(0, (.slice A_p0 p0.length c_p0)), (1, (iv p1)), (2, (iv p2)), (6, (pt g5515)), (12, (.bool (!t5519)))] [] (fun fb => by kernel_rfl) rfl trivial ?_
 refine WL.done rfl ?_
 refine WX.next ?_
 rcases br_some hf with ⟨h5524, hf⟩ | ⟨h5524, hf⟩
 ·refine WC.condT2 (fun fb => by kernel_rfl) h5524 ?_
  refine WC.seq ?_
  refine WC.region ?_
  refine seg 1 [] [6, 13] [(6, (pt g5515)), (13, (.agg #[(iv 0), (iv 0), (.slice none 0 0)]))] [] (fun fb => by kernel_rfl) rfl trivial ?_
  refine WL.store hS5523 0 rfl [(0, (iv 0)), (1, (iv 0)), (2, (.slice none 0 0))] #[(iv 0), (iv 0), (.slice none 0 0)] (fun fb => by kernel_rfl) (by kernel_rfl) rfl [] (by decide) (by decide) (fun w5525 hS5526 => ?_)
  refine ⟨trivial, ?_⟩
  refine seg 3 [] [6, 7] [(6, (pt g5515)), (7, (iv 1))] [] (fun fb => by kernel_rfl) rfl trivial ?_
  refine WL.done rfl ?_
  refine WX.next ?_
  refine WC.ret ?_
  have hS5527 := hS5526.nilrow 3 encInt
  injection hf with hf
  subst hf
  exact WX.thenR (WX.ret_ [.v (iv 0), .v (iv 0), .v (.slice none 0 0)] (.tuple #[(.agg #[(iv 0), (iv 0), (.slice none ([] : List Int).length 0)]), (iv 1)]) [.cell ⟨g5515, 0, none⟩ (iv 0), .cell ⟨g5515, 1, none⟩ (iv 0), .cell ⟨g5515, 2, none⟩ (.slice none 0 0)] (fun fb => by kernel_rfl) ⟨hS5526.cell 0 rfl 0 rfl, hS5526.cell 0 rfl 1 rfl, hS5526.cell 0 rfl 2 rfl, trivial⟩ ⟨_, rfl, none, 0, rfl, (hS5527.sub [0] (by decide)).noR⟩)
 refine WC.condF2 (fun fb => by kernel_rfl) h5524 ?_
 refine WC.skip ?_
 refine WX.next ?_
 refine WC.seq ?_
 refine WC.seq ?_
 refine WC.region ?_
 refine seg 3 [] [0, 1, 2, 6, 16] [(0, (.slice A_p0 p0.length c_p0)), (1, (iv p1)), (2, (iv p2)), (6, (pt g5515)), (16, (.bool (decide (p1 < 1))))] [] (fun fb => by kernel_rfl) rfl trivial ?_
 refine WL.cutV (T := Bool) 6 (fun t => [(19, (.bool t)), (0, (.slice A_p0 p0.length c_p0)), (1, (iv p1)), (2, (iv p2)), (6, (pt g5515))]) (fun t => ((decide (p1 < 1)) || (decide (p1 > 6))) = t) (fun K => ?_) ?_
 ·
  rcases Bool.eq_false_or_eq_true (decide (p1 < 1)) with h5528 | h5528
  ·
   refine WL.setB 16 h5528 rfl ?_
   refine seg 6 [] [0, 1, 2, 6, 19] [(0, (.slice A_p0 p0.length c_p0)), (1, (iv p1)), (2, (iv p2)), (6, (pt g5515)), (19, (.bool true))] [] (fun fb => by kernel_rfl) rfl trivial ?_
   exact WL.toV K true [19, 0, 1, 2, 6] rfl (by first | (rw [h5528]; done) | (rw [h5528]; rfl))
  refine WL.setB 16 h5528 rfl ?_
  refine seg 6 [] [0, 1, 2, 6, 19] [(0, (.slice A_p0 p0.length c_p0)), (1, (iv p1)), (2, (iv p2)), (6, (pt g5515)), (19, (.bool (decide (p1 > 6))))] [] (fun fb => by kernel_rfl) rfl trivial ?_
  exact WL.toV K (decide (p1 > 6)) [19, 0, 1, 2, 6] rfl (by first | (rw [h5528]; done) | (rw [h5528]; rfl))
 rintro b5529 rfl
 refine seg 7 [] [0, 1, 2, 6, 20] [(0, (.slice A_p0 p0.length c_p0)), (1, (iv p1)), (2, (iv p2)), (6, (pt g5515)), (20, (.bool ((decide (p1 < 1)) || (decide (p1 > 6)))))] [] (fun fb => by kernel_rfl) rfl trivial ?_
 refine WL.cutV (T := Bool) 10 (fun t => [(23, (.bool t)), (0, (.slice A_p0 p0.length c_p0)), (1, (iv p1)), (2, (iv p2)), (6, (pt g5515))]) (fun t => (((decide (p1 < 1)) || (decide (p1 > 6))) || (decide (p2 < 1))) = t) (fun K => ?_) ?_
 ·
  rcases Bool.eq_false_or_eq_true ((decide (p1 < 1)) || (decide (p1 > 6))) with h5530 | h5530
  ·
   refine WL.setB 20 h5530 rfl ?_
   refine seg 10 [] [0, 1, 2, 6, 23] [(0, (.slice A_p0 p0.length c_p0)), (1, (iv p1)), (2, (iv p2)), (6, (pt g5515)), (23, (.bool true))] [] (fun fb => by kernel_rfl) rfl trivial ?_
   exact WL.toV K true [23, 0, 1, 2, 6] rfl (by first | (rw [h5530]; done) | (rw [h5530]; rfl))
  refine WL.setB 20 h5530 rfl ?_
  refine seg 10 [] [0, 1, 2, 6, 23] [(0, (.slice A_p0 p0.length c_p0)), (1, (iv p1)), (2, (iv p2)), (6, (pt g5515)), (23, (.bool (decide (p2 < 1))))] [] (fun fb => by kernel_rfl) rfl trivial ?_
  exact WL.toV K (decide (p2 < 1)) [23, 0, 1, 2, 6] rfl (by first | (rw [h5530]; done) | (rw [h5530]; rfl))
 rintro b5531 rfl
 refine seg 11 [] [0, 1, 2, 6, 24] [(0, (.slice A_p0 p0.length c_p0)), (1, (iv p1)), (2, (iv p2)), (6, (pt g5515)), (24, (.bool (((decide (p1 < 1)) || (decide (p1 > 6))) || (decide (p2 < 1)))))] [] (fun fb => by kernel_rfl) rfl trivial ?_
 refine WL.cutV (T := Bool) 14 (fun t => [(27, (.bool t)), (0, (.slice A_p0 p0.length c_p0)), (1, (iv p1)), (2, (iv p2)), (6, (pt g5515))]) (fun t => ((((decide (p1 < 1)) || (decide (p1 > 6))) || (decide (p2 < 1))) || (decide (p2 > 6))) = t) (fun K => ?_) ?_
 ·
  rcases Bool.eq_false_or_eq_true (((decide (p1 < 1)) || (decide (p1 > 6))) || (decide (p2 < 1))) with h5532 | h5532
  ·
   refine WL.setB 24 h5532 rfl ?_
   refine seg 14 [] [0, 1, 2, 6, 27] [(0, (.slice A_p0 p0.length c_p0)), (1, (iv p1)), (2, (iv p2)), (6, (pt g5515)), (27, (.bool true))] [] (fun fb => by kernel_rfl) rfl trivial ?_
   exact WL.toV K true [27, 0, 1, 2, 6] rfl (by first | (rw [h5532]; done) | (rw [h5532]; rfl))
  refine WL.setB 24 h5532 rfl ?_
  refine seg 14 [] [0, 1, 2, 6, 27] [(0, (.slice A_p0 p0.length c_p0)), (1, (iv p1)), (2, (iv p2)), (6, (pt g5515)), (27, (.bool (decide (p2 > 6))))] [] (fun fb => by kernel_rfl) rfl trivial ?_
  exact WL.toV K (decide (p2 > 6)) [27, 0, 1, 2, 6] rfl (by first | (rw [h5532]; done) | (rw [h5532]; rfl))
 rintro b5533 rfl
 refine WL.done rfl ?_
 refine WX.next ?_
 rcases br_some hf with ⟨h5534, hf⟩ | ⟨h5534, hf⟩
 ·refine WC.condT2 (fun fb => by kernel_rfl) h5534 ?_
  refine WC.seq ?_
  refine WC.region ?_
  refine seg 1 [] [6, 28] [(6, (pt g5515)), (28, (.agg #[(iv 0), (iv 0), (.slice none 0 0)]))] [] (fun fb => by kernel_rfl) rfl trivial ?_
  refine WL.store hS5523 0 rfl [(0, (iv 0)), (1, (iv 0)), (2, (.slice none 0 0))] #[(iv 0), (iv 0), (.slice none 0 0)] (fun fb => by kernel_rfl) (by kernel_rfl) rfl [] (by decide) (by decide) (fun w5535 hS5536 => ?_)
  refine ⟨trivial, ?_⟩
  refine seg 3 [] [6, 7] [(6, (pt g5515)), (7, (iv 2))] [] (fun fb => by kernel_rfl) rfl trivial ?_
  refine WL.done rfl ?_
  refine WX.next ?_
  refine WC.ret ?_
  have hS5537 := hS5536.nilrow 3 encInt
  injection hf with hf
  subst hf
  exact WX.thenR (WX.ret_ [.v (iv 0), .v (iv 0), .v (.slice none 0 0)] (.tuple #[(.agg #[(iv 0), (iv 0), (.slice none ([] : List Int).length 0)]), (iv 2)]) [.cell ⟨g5515, 0, none⟩ (iv 0), .cell ⟨g5515, 1, none⟩ (iv 0), .cell ⟨g5515, 2, none⟩ (.slice none 0 0)] (fun fb => by kernel_rfl) ⟨hS5536.cell 0 rfl 0 rfl, hS5536.cell 0 rfl 1 rfl, hS5536.cell 0 rfl 2 rfl, trivial⟩ ⟨_, rfl, none, 0, rfl, (hS5537.sub [0] (by decide)).noR⟩)
 refine WC.condF2 (fun fb => by kernel_rfl) h5534 ?_
 refine WC.skip ?_
 refine WX.next ?_
 refine WC.seq ?_
 refine WC.seq ?_
 refine WC.region ?_
 refine seg 2 [] [0, 1, 2, 6, 29, 30] [(0, (.slice A_p0 p0.length c_p0)), (1, (iv p1)), (2, (iv p2)), (6, (pt g5515)), (29, (.slice A_p0 p0.length c_p0)), (30, (iv p1))] [] (fun fb => by kernel_rfl) rfl trivial ?_
 obtain ⟨t5538, ht5539, hf⟩ := bind_some hf
 refine WL.call (some 31) 53 #[(.slice A_p0 p0.length c_p0), (iv p1)] (fun fb => by kernel_rfl) (rows_Few_calls _ p0 p1 A_p0 c_p0 t5538 _ (hS5523.rd 0) ht5539) (fun v w5540 hR5541 => ?_)
 obtain ⟨rfl, hk_⟩ := hR5541
 have hS5542 := hS5523.keepN hk_
 refine ⟨trivial, ?_⟩
 refine seg 4 [] [0, 1, 2, 6, 32] [(0, (.slice A_p0 p0.length c_p0)), (1, (iv p1)), (2, (iv p2)), (6, (pt g5515)), (32, (.bool (!t5538)))] [] (fun fb => by kernel_rfl) rfl trivial ?_
 refine WL.done rfl ?_
 refine WX.next ?_
 rcases br_some hf with ⟨h5543, hf⟩ | ⟨h5543, hf⟩
 ·refine WC.condT2 (fun fb => by kernel_rfl) h5543 ?_
  refine WC.seq ?_
  refine WC.region ?_
  refine seg 1 [] [6, 33] [(6, (pt g5515)), (33, (.agg #[(iv 0), (iv 0), (.slice none 0 0)]))] [] (fun fb => by kernel_rfl) rfl trivial ?_
  refine WL.store hS5542 0 rfl [(0, (iv 0)), (1, (iv 0)), (2, (.slice none 0 0))] #[(iv 0), (iv 0), (.slice none 0 0)] (fun fb => by kernel_rfl) (by kernel_rfl) rfl [] (by decide) (by decide) (fun w5544 hS5545 => ?_)
  refine ⟨trivial, ?_⟩
  refine seg 3 [] [6, 7] [(6, (pt g5515)), (7, (iv 4))] [] (fun fb => by kernel_rfl) rfl trivial ?_
  refine WL.done rfl ?_
  refine WX.next ?_
  refine WC.ret ?_
  have hS5546 := hS5545.nilrow 3 encInt
  injection hf with hf
  subst hf
  exact WX.thenR (WX.ret_ [.v (iv 0), .v (iv 0), .v (.slice none 0 0)] (.tuple #[(.agg #[(iv 0), (iv 0), (.slice none ([] : List Int).length 0)]), (iv 4)]) [.cell ⟨g5515, 0, none⟩ (iv 0), .cell ⟨g5515, 1, none⟩ (iv 0), .cell ⟨g5515, 2, none⟩ (.slice none 0 0)] (fun fb => by kernel_rfl) ⟨hS5545.cell 0 rfl 0 rfl, hS5545.cell 0 rfl 1 rfl, hS5545.cell 0 rfl 2 rfl, trivial⟩ ⟨_, rfl, none, 0, rfl, (hS5546.sub [0] (by decide)).noR⟩)
 refine WC.condF2 (fun fb => by kernel_rfl) h5543 ?_
 refine WC.skip ?_
 refine WX.next ?_
 refine WC.seq ?_
 refine WC.region ?_
 refine seg 3 [] [6, 35, 36, 37] [(6, (pt g5515)), (35, (.slice A_p0 p0.length c_p0)), (36, (iv p1)), (37, (iv p2))] [] (fun fb => by kernel_rfl) rfl trivial ?_
 obtain ⟨t5547, ht5548, hf⟩ := bind_some hf
 refine WL.call (some 38) 54 #[(.slice A_p0 p0.length c_p0), (iv p1), (iv p2)] (fun fb => by kernel_rfl) (torus_find_calls _ p0 p1 p2 A_p0 c_p0 t5547 _ (hS5542.rd 0) ht5548) (fun v w5549 hR5550 => ?_)
 obtain ⟨A5552, c5553, rfl, hk_⟩ := hR5550
 have hS5551 : St NoS w w5549 [rowR enc_Tile A_p0 c_p0 p0] [rowO 3 encInt A5552 c5553 t5547.1.Cells, blk g5515 (.cells #[(iv 0), (iv 0), (.slice none 0 0)] 27 (0, 0))] := hS5542.call hk_ [] [0] (fun g hg => hg.elim) (by simp) (by decide)
 refine ⟨trivial, ?_⟩
 refine seg 7 [] [6, 39, 40] [(6, (pt g5515)), (39, (.agg #[(iv t5547.1.Width), (iv t5547.1.Height), (.slice A5552 t5547.1.Cells.length c5553)])), (40, (.bool t5547.2))] [] (fun fb => by kernel_rfl) rfl trivial ?_
 refine WL.new hS5551 8 [] (fun g => (.pointer (some ⟨g, 0, none⟩))) (.cells #[(iv 0), (iv 0), (.slice none 0 0)] 27 (0, 0)) [] (fun fb g => by kernel_rfl) trivial (fun g5554 w5555 hS5556 => ?_)
 refine ⟨trivial, ?_⟩
 refine WL.store hS5556 0 rfl [(0, (iv t5547.1.Width)), (1, (iv t5547.1.Height)), (2, (.slice A5552 t5547.1.Cells.length c5553))] #[(iv t5547.1.Width), (iv t5547.1.Height), (.slice A5552 t5547.1.Cells.length c5553)] (fun fb => by kernel_rfl) (by kernel_rfl) rfl [1, 2] (by decide) (by decide) (fun w5558 hS5559 => ?_)
 refine ⟨trivial, ?_⟩
 refine seg 10 [] [6, 8, 9] [(6, (pt g5515)), (8, (pt g5554)), (9, (.bool t5547.2))] [] (fun fb => by kernel_rfl) rfl trivial ?_
 refine WL.done rfl ?_
 refine WX.next ?_
 refine WC.seq ?_
 refine WC.seq ?_
 refine WC.region ?_
 refine seg 2 [] [6, 8, 42] [(6, (pt g5515)), (8, (pt g5554)), (42, (.bool (!t5547.2)))] [] (fun fb => by kernel_rfl) rfl trivial ?_
 refine WL.done rfl ?_
 refine WX.next ?_
 rcases br_some hf with ⟨h5560, hf⟩ | ⟨h5560, hf⟩
 ·refine WC.condT2 (fun fb => by kernel_rfl) h5560 ?_
  refine WC.seq ?_
  refine WC.region ?_
  refine seg 1 [] [6, 43] [(6, (pt g5515)), (43, (.agg #[(iv 0), (iv 0), (.slice none 0 0)]))] [] (fun fb => by kernel_rfl) rfl trivial ?_
  refine WL.store hS5559 2 rfl [(0, (iv 0)), (1, (iv 0)), (2, (.slice none 0 0))] #[(iv 0), (iv 0), (.slice none 0 0)] (fun fb => by kernel_rfl) (by kernel_rfl) rfl [0, 1] (by decide) (by decide) (fun w5561 hS5562 => ?_)
  refine ⟨trivial, ?_⟩
  refine seg 3 [] [6, 7] [(6, (pt g5515)), (7, (iv 6))] [] (fun fb => by kernel_rfl) rfl trivial ?_
  refine WL.done rfl ?_
  refine WX.next ?_
  refine WC.ret ?_
  have hS5563 := hS5562.nilrow 3 encInt
  injection hf with hf
  subst hf
  exact WX.thenR (WX.ret_ [.v (iv 0), .v (iv 0), .v (.slice none 0 0)] (.tuple #[(.agg #[(iv 0), (iv 0), (.slice none ([] : List Int).length 0)]), (iv 6)]) [.cell ⟨g5515, 0, none⟩ (iv 0), .cell ⟨g5515, 1, none⟩ (iv 0), .cell ⟨g5515, 2, none⟩ (.slice none 0 0)] (fun fb => by kernel_rfl) ⟨hS5562.cell 0 rfl 0 rfl, hS5562.cell 0 rfl 1 rfl, hS5562.cell 0 rfl 2 rfl, trivial⟩ ⟨_, rfl, none, 0, rfl, (hS5563.sub [0] (by decide)).noR⟩)
 refine WC.condF2 (fun fb => by kernel_rfl) h5560 ?_
 refine WC.skip ?_
 refine WX.next ?_
 refine WC.seq ?_
 refine WC.region ?_
 refine seg 1 [.v (iv t5547.1.Width), .v (iv t5547.1.Height), .v (.slice A5552 t5547.1.Cells.length c5553)] [6, 44] [(6, (pt g5515)), (44, (.agg #[(iv t5547.1.Width), (iv t5547.1.Height), (.slice A5552 t5547.1.Cells.length c5553)]))] [.cell ⟨g5554, 0, none⟩ (iv t5547.1.Width), .cell ⟨g5554, 1, none⟩ (iv t5547.1.Height), .cell ⟨g5554, 2, none⟩ (.slice A5552 t5547.1.Cells.length c5553)] (fun fb => by kernel_rfl) rfl ⟨hS5559.cell 0 rfl 0 rfl, hS5559.cell 0 rfl 1 rfl, hS5559.cell 0 rfl 2 rfl, trivial⟩ ?_
 refine WL.store hS5559 2 rfl [(0, (iv t5547.1.Width)), (1, (iv t5547.1.Height)), (2, (.slice A5552 t5547.1.Cells.length c5553))] #[(iv t5547.1.Width), (iv t5547.1.Height), (.slice A5552 t5547.1.Cells.length c5553)] (fun fb => by kernel_rfl) (by kernel_rfl) rfl [0, 1] (by decide) (by decide) (fun w5564 hS5565 => ?_)
 refine ⟨trivial, ?_⟩
 refine seg 3 [] [6, 7] [(6, (pt g5515)), (7, (iv 0))] [] (fun fb => by kernel_rfl) rfl trivial ?_
 refine WL.done rfl ?_
 refine WX.next ?_
 refine WC.ret ?_
 injection hf with hf
 subst hf
 exact WX.ret_ [.v (iv t5547.1.Width), .v (iv t5547.1.Height), .v (.slice A5552 t5547.1.Cells.length c5553)] (.tuple #[(.agg #[(iv t5547.1.Width), (iv t5547.1.Height), (.slice A5552 t5547.1.Cells.length c5553)]), (iv 0)]) [.cell ⟨g5515, 0, none⟩ (iv t5547.1.Width), .cell ⟨g5515, 1, none⟩ (iv t5547.1.Height), .cell ⟨g5515, 2, none⟩ (.slice A5552 t5547.1.Cells.length c5553)] (fun fb => by kernel_rfl) ⟨hS5565.cell 0 rfl 0 rfl, hS5565.cell 0 rfl 1 rfl, hS5565.cell 0 rfl 2 rfl, trivial⟩ ⟨_, rfl, A5552, c5553, rfl, (hS5565.sub [2] (by decide)).noR⟩
theorem ref01_Same_calls (k : Nat) (p0 : List Int) (p1 : List Int) (A_p0 : Option Addr) (c_p0 : Nat) (A_p1 : Option Addr) (c_p1 : Nat) (r : Bool) (w : World) (hR0 : RO NoS w (rowR encInt A_p0 c_p0 p0)) (hR1 : RO NoS w (rowR encInt A_p1 c_p1 p1)) (hf : ref01_Same k p0 p1 = some r) :
  CallsR Tryd.prog 64 #[(.slice A_p0 p0.length c_p0), (.slice A_p1 p1.length c_p1)] w (fun v w' => v = (.bool r) ∧ Keeps NoS w w') := by
 have hS : St NoS w w [rowR encInt A_p0 c_p0 p0, rowR encInt A_p1 c_p1 p1] [] := St.init (ro_cons hR0 (ro_cons hR1 (ro_nil _ _)))
 refine enter 26 Tryd.func64 rfl Tryd.ntmps64 rfl ?_
 unfold ref01_Same at hf
 refine WC.seq ?_
 refine WC.region ?_
 refine seg 1 [] [0, 1] [(0, (.slice A_p0 p0.length c_p0)), (1, (.slice A_p1 p1.length c_p1))] [] (fun fb => by kernel_rfl) rfl trivial ?_
 refine WL.done rfl ?_
 refine WX.next ?_
 refine WC.seq ?_
 refine WC.seq ?_
 refine WC.region ?_
 refine seg 5 [] [0, 1, 10] [(0, (.slice A_p0 p0.length c_p0)), (1, (.slice A_p1 p1.length c_p1)), (10, (.bool ((p0.length : Int) != (p1.length : Int))))] [] (fun fb => by kernel_rfl) rfl trivial ?_
 refine WL.done rfl ?_
 refine WX.next ?_
 rcases br_some hf with ⟨h5611, hf⟩ | ⟨h5611, hf⟩
 ·refine WC.condT2 (fun fb => by kernel_rfl) h5611 ?_
  refine WC.seq ?_
  refine WC.region ?_
  refine seg 1 [] [4] [(4, (.bool false))] [] (fun fb => by kernel_rfl) rfl trivial ?_
  refine WL.done rfl ?_
  refine WX.next ?_
  refine WC.ret ?_
  injection hf with hf
  subst hf
  exact WX.thenR (WX.ret_ [] (.bool false) [] (fun fb => by kernel_rfl) trivial ⟨_, rfl, rfl, hS.keep⟩)
 refine WC.condF2 (fun fb => by kernel_rfl) h5611 ?_
 refine WC.skip ?_
 refine WX.next ?_
 refine WC.seq ?_
 refine WC.seq ?_
 refine WC.region ?_
 refine seg 1 [] [0, 1, 5] [(0, (.slice A_p0 p0.length c_p0)), (1, (.slice A_p1 p1.length c_p1)), (5, (iv 0))] [] (fun fb => by kernel_rfl) rfl trivial ?_
 refine WL.done rfl ?_
 refine WX.next ?_
 obtain ⟨x5634, hx5635, hf⟩ := bind_some hf
 refine WC.cutN (T := Unit) (fun t => []) (fun t w1 => St NoS w w1 [rowR encInt A_p0 c_p0 p0, rowR encInt A_p1 c_p1 p1] [] ∧ x5634 = .inr t) (fun Kx5634 => ?_) ?_
 ·
  refine WC.block ?_
  refine WC.loop (T := Int) (fun t => [(0, (.slice A_p0 p0.length c_p0)), (1, (.slice A_p1 p1.length c_p1)), (5, (iv t))]) (fun n t w1 => St NoS w w1 [rowR encInt A_p0 c_p0 p0, rowR encInt A_p1 c_p1 p1] [] ∧ ref01_Same.l0 n t p0 p1 = some x5634) k 0 [0, 1, 5] rfl ⟨(hS.subR [0, 1]).sub [] (by decide), hx5635⟩ ?_
  rintro k5636 x5633 w5637 ⟨hS5638, hl5639⟩
  cases k5636 with
  | zero => rw [ref01_Same.l0] at hl5639; cases hl5639
  | succ k5636 =>
   rw [ref01_Same.l0] at hl5639
   refine WC.seq ?_
   refine WC.seq ?_
   refine WC.region ?_
   refine seg 4 [] [0, 1, 5, 14] [(0, (.slice A_p0 p0.length c_p0)), (1, (.slice A_p1 p1.length c_p1)), (5, (iv x5633)), (14, (.bool (decide (x5633 < (p0.length : Int)))))] [] (fun fb => by kernel_rfl) rfl trivial ?_
   refine WL.done rfl ?_
   refine WX.next ?_
   rcases br_some hl5639 with ⟨h5640, hl5639⟩ | ⟨h5640, hl5639⟩
   ·refine WC.condT2 (fun fb => by kernel_rfl) h5640 ?_
    refine WC.skip ?_
    refine WX.next ?_
    refine WC.seq ?_
    refine WC.block ?_
    refine WC.seq ?_
    obtain ⟨h5647, hl5639⟩ := as_some hl5639
    obtain ⟨h5648, hl5639⟩ := as_some hl5639
    refine WC.regionD ([(3, ((adr A_p0).add ((x5633).toNat * 1)), (iv (rdD p0 x5633 0))), (7, ((adr A_p1).add ((x5633).toNat * 1)), (iv (rdD p1 x5633 0)))], [0, 1, 2, 3, 4, 5, 6, 7, 8], [[], [], [0, 1], [0, 1, 2], [], [], [4, 5], [4, 5, 6], [0, 1, 2, 3, 4, 5, 6, 7]]) [[0, 1, 2, 3, 4, 5, 6, 7, 8]] (by kernel_rfl) (by kernel_rfl) (NoPanic.seq (NoPanic.block (NoPanic.seq (NoPanic.seq (NoPanic.block (NoPanic.seq (NoPanic.body))))))) ?_
    have hS5644 := hS5638.drew
    revert hS5644
    generalize World.drew w5637 = w5643
    intro hS5644
    refine ⟨⟨rowR.cell (hS5644.rd 0).1 0 h5647.1 h5647.2 0 rfl, rowR.cell (hS5644.rd 1).1 0 h5648.1 h5648.2 0 rfl, trivial⟩, forallC ?_ (forallN)⟩
    refine segF 9 [.v (iv (rdD p0 x5633 0)), .v (iv (rdD p1 x5633 0))] [0, 1, 5, 25] [(0, (.slice A_p0 p0.length c_p0)), (1, (.slice A_p1 p1.length c_p1)), (5, (iv x5633)), (25, (.bool ((rdD p0 x5633 0) != (rdD p1 x5633 0))))] [.idx A_p0 x5633 p0.length, .idx A_p1 x5633 p1.length] [0, 1] [(3, ((adr A_p0).add ((x5633).toNat * 1)), (iv (rdD p0 x5633 0))), (7, ((adr A_p1).add ((x5633).toNat * 1)), (iv (rdD p1 x5633 0)))] (fun fb => by kernel_rfl) rfl ⟨rowR.adr (hS5644.rd 0).1 h5647.1 h5647.2, rowR.adr (hS5644.rd 1).1 h5648.1 h5648.2, trivial⟩ rfl ?_
    refine WL.done rfl ?_
    refine WX.next ?_
    rcases br_some hl5639 with ⟨h5649, hl5639⟩ | ⟨h5649, hl5639⟩
    ·refine WC.condT2 (fun fb => by kernel_rfl) h5649 ?_
     refine WC.seq ?_
     refine WC.region ?_
     refine seg 1 [] [4] [(4, (.bool false))] [] (fun fb => by kernel_rfl) rfl trivial ?_
     refine WL.done rfl ?_
     refine WX.next ?_
     refine WC.ret ?_
     injection hl5639 with hl5639
     subst hl5639
     injection hf with hf
     subst hf
     exact WX.blockR (WX.thenR (WX.thenR (WX.blockR (WX.thenR (WX.ret_ [] (.bool false) [] (fun fb => by kernel_rfl) trivial ⟨_, rfl, rfl, hS5644.keep⟩)))))
    refine WC.condF2 (fun fb => by kernel_rfl) h5649 ?_
    refine WC.skip ?_
    refine WX.blockN (WX.next ?_)
    refine WC.region ?_
    refine seg 3 [] [0, 1, 5] [(0, (.slice A_p0 p0.length c_p0)), (1, (.slice A_p1 p1.length c_p1)), (5, (iv (w64 (x5633 + 1))))] [] (fun fb => by kernel_rfl) rfl trivial ?_
    refine WL.done rfl ?_
    exact WX.again k5636 (Nat.lt_succ_self _) (w64 (x5633 + 1)) [0, 1, 5] rfl ⟨(hS5644.subR [0, 1]).sub [] (by decide), hl5639⟩
   refine WC.condF2 (fun fb => by kernel_rfl) h5640 ?_
   refine WC.exit ?_
   injection hl5639 with hl5639
   exact WX.thenX (WX.thenX (WX.blockHere (WX.to Kx5634 () [] rfl ⟨(hS5638.subR [0, 1]).sub [] (by decide), hl5639.symm⟩)))
 rintro y5653 w5650 ⟨hS5651, hq5652⟩
 subst hq5652
 have hf := sum_inr hf
 refine WX.next ?_
 refine WC.seq ?_
 refine WC.region ?_
 refine seg 1 [] [4] [(4, (.bool true))] [] (fun fb => by kernel_rfl) rfl trivial ?_
 refine WL.done rfl ?_
 refine WX.next ?_
 refine WC.ret ?_
 injection hf with hf
 subst hf
 exact WX.ret_ [] (.bool true) [] (fun fb => by kernel_rfl) trivial ⟨_, rfl, rfl, hS5651.keep⟩
theorem ref01_SamePattern_calls (k : Nat) (p0 : Pattern) (p1 : Pattern) (A_p0_Cells : Option Addr) (c_p0_Cells : Nat) (A_p1_Cells : Option Addr) (c_p1_Cells : Nat) (r : Bool) (w : World) (hR0 : RO NoS w (rowR encInt A_p0_Cells c_p0_Cells p0.Cells)) (hR1 : RO NoS w (rowR encInt A_p1_Cells c_p1_Cells p1.Cells)) (hf : ref01_SamePattern k p0 p1 = some r) :
  CallsR Tryd.prog 32 #[(.agg #[(iv p0.Width), (iv p0.Height), (.slice A_p0_Cells p0.Cells.length c_p0_Cells)]), (.agg #[(iv p1.Width), (iv p1.Height), (.slice A_p1_Cells p1.Cells.length c_p1_Cells)])] w (fun v w' => v = (.bool r) ∧ Keeps NoS w w') := by
 have hS : St NoS w w [rowR encInt A_p0_Cells c_p0_Cells p0.Cells, rowR encInt A_p1_Cells c_p1_Cells p1.Cells] [] := St.init (ro_cons hR0 (ro_cons hR1 (ro_nil _ _)))
 refine enter 24 Tryd.func32 rfl Tryd.ntmps32 rfl ?_
 unfold ref01_SamePattern at hf
 refine WC.seq ?_
 refine WC.region ?_
 refine WL.new hS 2 [] (fun g => (.pointer (some ⟨g, 0, none⟩))) (.cells #[(iv p0.Width), (iv p0.Height), (.slice A_p0_Cells p0.Cells.length c_p0_Cells)] 27 (0, 0)) [] (fun fb g => by kernel_rfl) trivial (fun g5601 w5602 hS5603 => ?_)
 refine ⟨trivial, ?_⟩
 refine WL.new hS5603 3 [] (fun g => (.pointer (some ⟨g, 0, none⟩))) (.cells #[(iv p1.Width), (iv p1.Height), (.slice A_p1_Cells p1.Cells.length c_p1_Cells)] 27 (0, 0)) [] (fun fb g => by kernel_rfl) trivial (fun g5605 w5606 hS5607 => ?_)
 refine ⟨trivial, ?_⟩
 refine seg 3 [] [2, 3] [(2, (pt g5601)), (3, (pt g5605))] [] (fun fb => by kernel_rfl) rfl trivial ?_
 refine WL.done rfl ?_
 refine WX.next ?_
 refine WC.seq ?_
 refine WC.region ?_
 refine seg 6 [.v (iv p0.Width), .v (iv p1.Width)] [2, 3, 10] [(2, (pt g5601)), (3, (pt g5605)), (10, (.bool (p0.Width == p1.Width)))] [.cell ⟨g5601, 0, none⟩ (iv p0.Width), .cell ⟨g5605, 0, none⟩ (iv p1.Width)] (fun fb => by kernel_rfl) rfl ⟨hS5607.cell 1 rfl 0 rfl, hS5607.cell 0 rfl 0 rfl, trivial⟩ ?_
 refine WL.cutV (T := Bool) 12 (fun t => [(16, (.bool t)), (2, (pt g5601)), (3, (pt g5605))]) (fun t => ((p0.Width == p1.Width) && (p0.Height == p1.Height)) = t) (fun K => ?_) ?_
 ·
  rcases Bool.eq_false_or_eq_true (p0.Width == p1.Width) with h5609 | h5609
  ·
   refine WL.setB 10 h5609 rfl ?_
   refine seg 12 [.v (iv p0.Height), .v (iv p1.Height)] [2, 3, 16] [(2, (pt g5601)), (3, (pt g5605)), (16, (.bool (p0.Height == p1.Height)))] [.cell ⟨g5601, 1, none⟩ (iv p0.Height), .cell ⟨g5605, 1, none⟩ (iv p1.Height)] (fun fb => by kernel_rfl) rfl ⟨hS5607.cell 1 rfl 1 rfl, hS5607.cell 0 rfl 1 rfl, trivial⟩ ?_
   exact WL.toV K (p0.Height == p1.Height) [16, 2, 3] rfl (by first | (rw [h5609]; done) | (rw [h5609]; rfl))
  refine WL.setB 10 h5609 rfl ?_
  refine seg 12 [] [2, 3, 16] [(2, (pt g5601)), (3, (pt g5605)), (16, (.bool false))] [] (fun fb => by kernel_rfl) rfl trivial ?_
  exact WL.toV K false [16, 2, 3] rfl (by first | (rw [h5609]; done) | (rw [h5609]; rfl))
 rintro b5610 rfl
 refine seg 13 [] [2, 3, 17] [(2, (pt g5601)), (3, (pt g5605)), (17, (.bool ((p0.Width == p1.Width) && (p0.Height == p1.Height))))] [] (fun fb => by kernel_rfl) rfl trivial ?_
 obtain ⟨x5661, hx5662, hf⟩ := bind_some hf
 refine WL.cutW (T := Bool) 19 (fun t => [(23, (.bool t))]) (fun t w1 => (St NoS w w1 [rowR encInt A_p0_Cells c_p0_Cells p0.Cells, rowR encInt A_p1_Cells c_p1_Cells p1.Cells] [] ∧ x5661 = t) ∧ CellsOK [] w1) (fun K => ?_) ?_
 ·
  rcases br_some hx5662 with ⟨h5663, hx5662⟩ | ⟨h5663, hx5662⟩
  ·
   refine WL.setB 17 h5663 rfl ?_
   refine seg 17 [.v (.slice A_p0_Cells p0.Cells.length c_p0_Cells), .v (.slice A_p1_Cells p1.Cells.length c_p1_Cells)] [17, 19, 21] [(17, (.bool true)), (19, (.slice A_p0_Cells p0.Cells.length c_p0_Cells)), (21, (.slice A_p1_Cells p1.Cells.length c_p1_Cells))] [.cell ⟨g5601, 2, none⟩ (.slice A_p0_Cells p0.Cells.length c_p0_Cells), .cell ⟨g5605, 2, none⟩ (.slice A_p1_Cells p1.Cells.length c_p1_Cells)] (fun fb => by kernel_rfl) rfl ⟨hS5607.cell 1 rfl 2 rfl, hS5607.cell 0 rfl 2 rfl, trivial⟩ ?_
   obtain ⟨t5664, ht5665, hx5662⟩ := bind_some hx5662
   refine WL.call (some 22) 64 #[(.slice A_p0_Cells p0.Cells.length c_p0_Cells), (.slice A_p1_Cells p1.Cells.length c_p1_Cells)] (fun fb => by kernel_rfl) (ref01_Same_calls _ p0.Cells p1.Cells A_p0_Cells c_p0_Cells A_p1_Cells c_p1_Cells t5664 _ (hS5607.rd 0) (hS5607.rd 1) ht5665) (fun v w5666 hR5667 => ?_)
   obtain ⟨rfl, hk_⟩ := hR5667
   have hS5668 := hS5607.keepN hk_
   refine ⟨trivial, ?_⟩
   refine seg 19 [] [23] [(23, (.bool t5664))] [] (fun fb => by kernel_rfl) rfl trivial ?_
   injection hx5662 with hx5662
   exact WL.to K t5664 [23] rfl ⟨⟨(hS5668.subR [0, 1]).sub [] (by decide), hx5662.symm⟩, trivial⟩
  refine WL.setB 17 h5663 rfl ?_
  refine seg 19 [] [23] [(23, (.bool false))] [] (fun fb => by kernel_rfl) rfl trivial ?_
  injection hx5662 with hx5662
  exact WL.to K false [23] rfl ⟨⟨(hS5607.subR [0, 1]).sub [] (by decide), hx5662.symm⟩, trivial⟩
 rintro y5669 w5671 ⟨⟨hS5672, hq5670⟩, hF5673⟩
 subst hq5670
 refine seg 20 [] [4] [(4, (.bool x5661))] [] (fun fb => by kernel_rfl) rfl trivial ?_
 refine WL.done rfl ?_
 refine WX.next ?_
 refine WC.ret ?_
 injection hf with hf
 subst hf
 exact WX.ret_ [] (.bool x5661) [] (fun fb => by kernel_rfl) trivial ⟨_, rfl, rfl, hS5672.keep⟩
theorem law03_awake_calls (k : Nat)  (mG : Int) (r : Bool) (w : World) (hR0 : RO NoS w (cel ⟨2, 0, none⟩ (iv mG))) (hf : law03_awake k = some r) :
  CallsR Tryd.prog 14 #[] w (fun v w' => v = (.bool r) ∧ Keeps NoS w w') := by
 have hS : St NoS w w [cel ⟨2, 0, none⟩ (iv mG)] [] := St.init (ro_cons hR0 (ro_nil _ _))
 refine enter 50 Tryd.func14 rfl Tryd.ntmps14 rfl ?_
 unfold law03_awake at hf
 refine WC.seq ?_
 refine WC.region ?_
 refine seg 1 [] [] [] [] (fun fb => by kernel_rfl) rfl trivial ?_
 refine WL.done rfl ?_
 refine WX.next ?_
 refine WC.seq ?_
 refine WC.region ?_
 obtain ⟨t1835, ht1836, hf⟩ := bind_some hf
 refine WL.call (some 12) 49 #[(.string (⟨#[48, 46, 49, 46, 49, 46, 48, 32, 49, 46, 48, 46, 48, 46, 49]⟩ : ByteArray))] (fun fb => by kernel_rfl) (tile_Parse_calls _ (⟨#[48, 46, 49, 46, 49, 46, 48, 32, 49, 46, 48, 46, 48, 46, 49]⟩ : ByteArray) mG t1835 _ (hS.rd 0) ht1836) (fun v w1837 hR1838 => ?_)
 obtain ⟨A1840, c1841, rfl, hk_⟩ := hR1838
 have hS1839 : St NoS w w1837 [cel ⟨2, 0, none⟩ (iv mG)] [rowO 40 enc_Tile A1840 c1841 t1835.1] := hS.call hk_ [] [] (fun g hg => hg.elim) (by simp) (by decide)
 refine ⟨trivial, ?_⟩
 refine seg 6 [] [1] [(1, (.slice A1840 t1835.1.length c1841))] [] (fun fb => by kernel_rfl) rfl trivial ?_
 refine WL.done rfl ?_
 refine WX.next ?_
 refine WC.seq ?_
 refine WC.region ?_
 obtain ⟨t1842, ht1843, hf⟩ := bind_some hf
 refine WL.call (some 16) 49 #[(.string (⟨#[48, 46, 49, 46, 48, 46, 48]⟩ : ByteArray))] (fun fb => by kernel_rfl) (tile_Parse_calls _ (⟨#[48, 46, 49, 46, 48, 46, 48]⟩ : ByteArray) mG t1842 _ (hS1839.rd 0) ht1843) (fun v w1844 hR1845 => ?_)
 obtain ⟨A1847, c1848, rfl, hk_⟩ := hR1845
 have hS1846 : St NoS w w1844 [cel ⟨2, 0, none⟩ (iv mG)] [rowO 40 enc_Tile A1847 c1848 t1842.1, rowO 40 enc_Tile A1840 c1841 t1835.1] := hS1839.call hk_ [] [0] (fun g hg => hg.elim) (by simp) (by decide)
 refine ⟨trivial, ?_⟩
 refine seg 6 [] [1, 3] [(1, (.slice A1840 t1835.1.length c1841)), (3, (.slice A1847 t1842.1.length c1848))] [] (fun fb => by kernel_rfl) rfl trivial ?_
 refine WL.done rfl ?_
 refine WX.next ?_
 refine WC.seq ?_
 refine WC.region ?_
 refine seg 1 [] [1, 3, 20] [(1, (.slice A1840 t1835.1.length c1841)), (3, (.slice A1847 t1842.1.length c1848)), (20, (.slice A1840 t1835.1.length c1841))] [] (fun fb => by kernel_rfl) rfl trivial ?_
 obtain ⟨t5502, ht5503, hf⟩ := bind_some hf
 refine WL.call (some 21) 22 #[(.slice A1840 t1835.1.length c1841), (iv 6)] (fun fb => by kernel_rfl) (torus_Least_calls _ t1835.1 6 A1840 c1841 t5502 _ (hS1846.ow 1).ofO ht5503) (fun v w5504 hR5505 => ?_)
 obtain ⟨A5507, c5508, rfl, hk_⟩ := hR5505
 have hS5506 : St NoS w w5504 [cel ⟨2, 0, none⟩ (iv mG)] [rowO 3 encInt A5507 c5508 t5502.1.Cells, rowO 40 enc_Tile A1847 c1848 t1842.1, rowO 40 enc_Tile A1840 c1841 t1835.1] := hS1846.call hk_ [] [0, 1] (fun g hg => hg.elim) (by simp) (by decide)
 refine ⟨trivial, ?_⟩
 refine seg 5 [] [1, 3, 22, 23] [(1, (.slice A1840 t1835.1.length c1841)), (3, (.slice A1847 t1842.1.length c1848)), (22, (.agg #[(iv t5502.1.Width), (iv t5502.1.Height), (.slice A5507 t5502.1.Cells.length c5508)])), (23, (iv t5502.2))] [] (fun fb => by kernel_rfl) rfl trivial ?_
 refine WL.new hS5506 5 [] (fun g => (.pointer (some ⟨g, 0, none⟩))) (.cells #[(iv 0), (iv 0), (.slice none 0 0)] 27 (0, 0)) [] (fun fb g => by kernel_rfl) trivial (fun g5509 w5510 hS5511 => ?_)
 refine ⟨trivial, ?_⟩
 refine WL.store hS5511 0 rfl [(0, (iv t5502.1.Width)), (1, (iv t5502.1.Height)), (2, (.slice A5507 t5502.1.Cells.length c5508))] #[(iv t5502.1.Width), (iv t5502.1.Height), (.slice A5507 t5502.1.Cells.length c5508)] (fun fb => by kernel_rfl) (by kernel_rfl) rfl [1, 2, 3] (by decide) (by decide) (fun w5513 hS5514 => ?_)
 refine ⟨trivial, ?_⟩
 refine seg 8 [] [1, 3, 5, 6] [(1, (.slice A1840 t1835.1.length c1841)), (3, (.slice A1847 t1842.1.length c1848)), (5, (pt g5509)), (6, (iv t5502.2))] [] (fun fb => by kernel_rfl) rfl trivial ?_
 refine WL.done rfl ?_
 refine WX.next ?_
 refine WC.seq ?_
 refine WC.region ?_
 refine seg 1 [] [3, 5, 6, 25] [(3, (.slice A1847 t1842.1.length c1848)), (5, (pt g5509)), (6, (iv t5502.2)), (25, (.slice A1840 t1835.1.length c1841))] [] (fun fb => by kernel_rfl) rfl trivial ?_
 obtain ⟨t5566, ht5567, hf⟩ := bind_some hf
 refine WL.call (some 26) 16 #[(.slice A1840 t1835.1.length c1841), (iv 2), (iv 1)] (fun fb => by kernel_rfl) (torus_Find_calls _ t1835.1 2 1 A1840 c1841 t5566 _ (hS5514.ow 3).ofO ht5567) (fun v w5568 hR5569 => ?_)
 obtain ⟨A5571, c5572, rfl, hk_⟩ := hR5569
 have hS5570 : St NoS w w5568 [cel ⟨2, 0, none⟩ (iv mG)] [rowO 3 encInt A5571 c5572 t5566.1.Cells, blk g5509 (.cells #[(iv t5502.1.Width), (iv t5502.1.Height), (.slice A5507 t5502.1.Cells.length c5508)] 27 (0, 0)), rowO 3 encInt A5507 c5508 t5502.1.Cells, rowO 40 enc_Tile A1847 c1848 t1842.1, rowO 40 enc_Tile A1840 c1841 t1835.1] := hS5514.call hk_ [] [0, 1, 2, 3] (fun g hg => hg.elim) (by simp) (by decide)
 refine ⟨trivial, ?_⟩
 refine seg 5 [] [3, 5, 6, 27, 28] [(3, (.slice A1847 t1842.1.length c1848)), (5, (pt g5509)), (6, (iv t5502.2)), (27, (.agg #[(iv t5566.1.Width), (iv t5566.1.Height), (.slice A5571 t5566.1.Cells.length c5572)])), (28, (iv t5566.2))] [] (fun fb => by kernel_rfl) rfl trivial ?_
 refine WL.new hS5570 7 [] (fun g => (.pointer (some ⟨g, 0, none⟩))) (.cells #[(iv 0), (iv 0), (.slice none 0 0)] 27 (0, 0)) [] (fun fb g => by kernel_rfl) trivial (fun g5573 w5574 hS5575 => ?_)
 refine ⟨trivial, ?_⟩
 refine WL.store hS5575 0 rfl [(0, (iv t5566.1.Width)), (1, (iv t5566.1.Height)), (2, (.slice A5571 t5566.1.Cells.length c5572))] #[(iv t5566.1.Width), (iv t5566.1.Height), (.slice A5571 t5566.1.Cells.length c5572)] (fun fb => by kernel_rfl) (by kernel_rfl) rfl [1, 2, 3, 4, 5] (by decide) (by decide) (fun w5577 hS5578 => ?_)
 refine ⟨trivial, ?_⟩
 refine seg 8 [] [3, 5, 6, 8] [(3, (.slice A1847 t1842.1.length c1848)), (5, (pt g5509)), (6, (iv t5502.2)), (8, (iv t5566.2))] [] (fun fb => by kernel_rfl) rfl trivial ?_
 refine WL.done rfl ?_
 refine WX.next ?_
 refine WC.seq ?_
 refine WC.region ?_
 refine seg 1 [] [5, 6, 8, 30] [(5, (pt g5509)), (6, (iv t5502.2)), (8, (iv t5566.2)), (30, (.slice A1847 t1842.1.length c1848))] [] (fun fb => by kernel_rfl) rfl trivial ?_
 obtain ⟨t5579, ht5580, hf⟩ := bind_some hf
 refine WL.call (some 31) 22 #[(.slice A1847 t1842.1.length c1848), (iv 4)] (fun fb => by kernel_rfl) (torus_Least_calls _ t1842.1 4 A1847 c1848 t5579 _ (hS5578.ow 4).ofO ht5580) (fun v w5581 hR5582 => ?_)
 obtain ⟨A5584, c5585, rfl, hk_⟩ := hR5582
 have hS5583 : St NoS w w5581 [cel ⟨2, 0, none⟩ (iv mG)] [rowO 3 encInt A5584 c5585 t5579.1.Cells, blk g5573 (.cells #[(iv t5566.1.Width), (iv t5566.1.Height), (.slice A5571 t5566.1.Cells.length c5572)] 27 (0, 0)), rowO 3 encInt A5571 c5572 t5566.1.Cells, blk g5509 (.cells #[(iv t5502.1.Width), (iv t5502.1.Height), (.slice A5507 t5502.1.Cells.length c5508)] 27 (0, 0)), rowO 3 encInt A5507 c5508 t5502.1.Cells, rowO 40 enc_Tile A1847 c1848 t1842.1, rowO 40 enc_Tile A1840 c1841 t1835.1] := hS5578.call hk_ [] [0, 1, 2, 3, 4, 5] (fun g hg => hg.elim) (by simp) (by decide)
 refine ⟨trivial, ?_⟩
 refine seg 5 [] [5, 6, 8, 32, 33] [(5, (pt g5509)), (6, (iv t5502.2)), (8, (iv t5566.2)), (32, (.agg #[(iv t5579.1.Width), (iv t5579.1.Height), (.slice A5584 t5579.1.Cells.length c5585)])), (33, (iv t5579.2))] [] (fun fb => by kernel_rfl) rfl trivial ?_
 refine WL.new hS5583 9 [] (fun g => (.pointer (some ⟨g, 0, none⟩))) (.cells #[(iv 0), (iv 0), (.slice none 0 0)] 27 (0, 0)) [] (fun fb g => by kernel_rfl) trivial (fun g5586 w5587 hS5588 => ?_)
 refine ⟨trivial, ?_⟩
 refine WL.store hS5588 0 rfl [(0, (iv t5579.1.Width)), (1, (iv t5579.1.Height)), (2, (.slice A5584 t5579.1.Cells.length c5585))] #[(iv t5579.1.Width), (iv t5579.1.Height), (.slice A5584 t5579.1.Cells.length c5585)] (fun fb => by kernel_rfl) (by kernel_rfl) rfl [1, 2, 3, 4, 5, 6, 7] (by decide) (by decide) (fun w5590 hS5591 => ?_)
 refine ⟨trivial, ?_⟩
 refine seg 8 [] [5, 6, 8, 10] [(5, (pt g5509)), (6, (iv t5502.2)), (8, (iv t5566.2)), (10, (iv t5579.2))] [] (fun fb => by kernel_rfl) rfl trivial ?_
 refine WL.done rfl ?_
 refine WX.next ?_
 refine WC.seq ?_
 refine WC.region ?_
 refine seg 3 [] [5, 8, 10, 36] [(5, (pt g5509)), (8, (iv t5566.2)), (10, (iv t5579.2)), (36, (.bool (t5502.2 == 0)))] [] (fun fb => by kernel_rfl) rfl trivial ?_
 refine WL.cutV (T := Bool) 6 (fun t => [(39, (.bool t)), (5, (pt g5509)), (10, (iv t5579.2))]) (fun t => ((t5502.2 == 0) && (t5566.2 == 6)) = t) (fun K => ?_) ?_
 ·
  rcases Bool.eq_false_or_eq_true (t5502.2 == 0) with h5592 | h5592
  ·
   refine WL.setB 36 h5592 rfl ?_
   refine seg 6 [] [5, 10, 39] [(5, (pt g5509)), (10, (iv t5579.2)), (39, (.bool (t5566.2 == 6)))] [] (fun fb => by kernel_rfl) rfl trivial ?_
   exact WL.toV K (t5566.2 == 6) [39, 5, 10] rfl (by first | (rw [h5592]; done) | (rw [h5592]; rfl))
  refine WL.setB 36 h5592 rfl ?_
  refine seg 6 [] [5, 10, 39] [(5, (pt g5509)), (10, (iv t5579.2)), (39, (.bool false))] [] (fun fb => by kernel_rfl) rfl trivial ?_
  exact WL.toV K false [39, 5, 10] rfl (by first | (rw [h5592]; done) | (rw [h5592]; rfl))
 rintro b5593 rfl
 refine seg 7 [] [5, 10, 40] [(5, (pt g5509)), (10, (iv t5579.2)), (40, (.bool ((t5502.2 == 0) && (t5566.2 == 6))))] [] (fun fb => by kernel_rfl) rfl trivial ?_
 refine WL.cutV (T := Bool) 10 (fun t => [(43, (.bool t)), (5, (pt g5509))]) (fun t => (((t5502.2 == 0) && (t5566.2 == 6)) && (t5579.2 == 6)) = t) (fun K => ?_) ?_
 ·
  rcases Bool.eq_false_or_eq_true ((t5502.2 == 0) && (t5566.2 == 6)) with h5594 | h5594
  ·
   refine WL.setB 40 h5594 rfl ?_
   refine seg 10 [] [5, 43] [(5, (pt g5509)), (43, (.bool (t5579.2 == 6)))] [] (fun fb => by kernel_rfl) rfl trivial ?_
   exact WL.toV K (t5579.2 == 6) [43, 5] rfl (by first | (rw [h5594]; done) | (rw [h5594]; rfl))
  refine WL.setB 40 h5594 rfl ?_
  refine seg 10 [] [5, 43] [(5, (pt g5509)), (43, (.bool false))] [] (fun fb => by kernel_rfl) rfl trivial ?_
  exact WL.toV K false [43, 5] rfl (by first | (rw [h5594]; done) | (rw [h5594]; rfl))
 rintro b5595 rfl
 refine seg 11 [] [5, 44] [(5, (pt g5509)), (44, (.bool (((t5502.2 == 0) && (t5566.2 == 6)) && (t5579.2 == 6))))] [] (fun fb => by kernel_rfl) rfl trivial ?_
 obtain ⟨x5680, hx5681, hf⟩ := bind_some hf
 refine WL.cutW (T := Bool) 16 (fun t => [(49, (.bool t))]) (fun t w1 => (St NoS w w1 [cel ⟨2, 0, none⟩ (iv mG)] [] ∧ x5680 = t) ∧ CellsOK [] w1) (fun K => ?_) ?_
 ·
  rcases br_some hx5681 with ⟨h5682, hx5681⟩ | ⟨h5682, hx5681⟩
  ·
   refine WL.setB 44 h5682 rfl ?_
   refine seg 12 [.v (iv t5502.1.Width), .v (iv t5502.1.Height), .v (.slice A5507 t5502.1.Cells.length c5508)] [44, 45] [(44, (.bool true)), (45, (.agg #[(iv t5502.1.Width), (iv t5502.1.Height), (.slice A5507 t5502.1.Cells.length c5508)]))] [.cell ⟨g5509, 0, none⟩ (iv t5502.1.Width), .cell ⟨g5509, 1, none⟩ (iv t5502.1.Height), .cell ⟨g5509, 2, none⟩ (.slice A5507 t5502.1.Cells.length c5508)] (fun fb => by kernel_rfl) rfl ⟨hS5591.cell 4 rfl 0 rfl, hS5591.cell 4 rfl 1 rfl, hS5591.cell 4 rfl 2 rfl, trivial⟩ ?_
   refine WL.new hS5591 46 [] (fun g => (.slice (some ⟨g, 0, none⟩) 4 4)) (.cells #[(iv 0), (iv 1), (iv 1), (iv 0)] 3 (0, 0)) [] (fun fb g => by kernel_rfl) trivial (fun g5683 w5684 hS5685 => ?_)
   refine ⟨trivial, ?_⟩
   have hS5687 : St NoS w w5684 [cel ⟨2, 0, none⟩ (iv mG)] [rowO 3 encInt (some ⟨g5683, 0, none⟩) 4 [0, 1, 1, 0], blk g5586 (.cells #[(iv t5579.1.Width), (iv t5579.1.Height), (.slice A5584 t5579.1.Cells.length c5585)] 27 (0, 0)), rowO 3 encInt A5584 c5585 t5579.1.Cells, blk g5573 (.cells #[(iv t5566.1.Width), (iv t5566.1.Height), (.slice A5571 t5566.1.Cells.length c5572)] 27 (0, 0)), rowO 3 encInt A5571 c5572 t5566.1.Cells, blk g5509 (.cells #[(iv t5502.1.Width), (iv t5502.1.Height), (.slice A5507 t5502.1.Cells.length c5508)] 27 (0, 0)), rowO 3 encInt A5507 c5508 t5502.1.Cells, rowO 40 enc_Tile A1847 c1848 t1842.1, rowO 40 enc_Tile A1840 c1841 t1835.1] := hS5685.map1 0 _ (fun h => rowO.ofBlk h rfl (Nat.le_of_ble_eq_true (by kernel_rfl))) (fun _ h => by obtain ⟨_, h1, h2⟩ := h; injection h1 with h1; subst h1; exact h2) [1, 2, 3, 4, 5, 6, 7, 8] (by decide) (by decide)
   refine seg 14 [] [44, 45, 47] [(44, (.bool true)), (45, (.agg #[(iv t5502.1.Width), (iv t5502.1.Height), (.slice A5507 t5502.1.Cells.length c5508)])), (47, (.agg #[(iv 2), (iv 2), (.slice (some ⟨g5683, 0, none⟩) [0, 1, 1, 0].length 4)]))] [] (fun fb => by kernel_rfl) rfl trivial ?_
   obtain ⟨t5688, ht5689, hx5681⟩ := bind_some hx5681
   refine WL.call (some 48) 32 #[(.agg #[(iv t5502.1.Width), (iv t5502.1.Height), (.slice A5507 t5502.1.Cells.length c5508)]), (.agg #[(iv 2), (iv 2), (.slice (some ⟨g5683, 0, none⟩) [0, 1, 1, 0].length 4)])] (fun fb => by kernel_rfl) (ref01_SamePattern_calls _ t5502.1 (Pattern.mk 2 2 [0, 1, 1, 0]) A5507 c5508 (some ⟨g5683, 0, none⟩) 4 t5688 _ (hS5687.ow 6).ofO (hS5687.ow 0).ofO ht5689) (fun v w5690 hR5691 => ?_)
   obtain ⟨rfl, hk_⟩ := hR5691
   have hS5692 := hS5687.keepN hk_
   refine ⟨trivial, ?_⟩
   refine seg 16 [] [49] [(49, (.bool t5688))] [] (fun fb => by kernel_rfl) rfl trivial ?_
   injection hx5681 with hx5681
   exact WL.to K t5688 [49] rfl ⟨⟨(hS5692.subR [0]).sub [] (by decide), hx5681.symm⟩, trivial⟩
  refine WL.setB 44 h5682 rfl ?_
  refine seg 16 [] [49] [(49, (.bool false))] [] (fun fb => by kernel_rfl) rfl trivial ?_
  injection hx5681 with hx5681
  exact WL.to K false [49] rfl ⟨⟨(hS5591.subR [0]).sub [] (by decide), hx5681.symm⟩, trivial⟩
 rintro y5693 w5695 ⟨⟨hS5696, hq5694⟩, hF5697⟩
 subst hq5694
 refine seg 17 [] [0] [(0, (.bool x5680))] [] (fun fb => by kernel_rfl) rfl trivial ?_
 refine WL.done rfl ?_
 refine WX.next ?_
 refine WC.ret ?_
 injection hf with hf
 subst hf
 exact WX.ret_ [] (.bool x5680) [] (fun fb => by kernel_rfl) trivial ⟨_, rfl, rfl, hS5696.keep⟩
theorem ref01_Form_calls (p0 : Pattern) (A_p0_Cells : Option Addr) (c_p0_Cells : Nat) (r : Bool) (w : World) (hR0 : RO NoS w (rowR encInt A_p0_Cells c_p0_Cells p0.Cells)) (hf : ref01_Form p0 = some r) :
  CallsR Tryd.prog 86 #[(.agg #[(iv p0.Width), (iv p0.Height), (.slice A_p0_Cells p0.Cells.length c_p0_Cells)])] w (fun v w' => v = (.bool r) ∧ Keeps NoS w w') := by
 have hS : St NoS w w [rowR encInt A_p0_Cells c_p0_Cells p0.Cells] [] := St.init (ro_cons hR0 (ro_nil _ _))
 refine enter 40 Tryd.func86 rfl Tryd.ntmps86 rfl ?_
 unfold ref01_Form at hf
 refine WC.seq ?_
 refine WC.region ?_
 refine WL.new hS 1 [] (fun g => (.pointer (some ⟨g, 0, none⟩))) (.cells #[(iv p0.Width), (iv p0.Height), (.slice A_p0_Cells p0.Cells.length c_p0_Cells)] 27 (0, 0)) [] (fun fb g => by kernel_rfl) trivial (fun g5746 w5747 hS5748 => ?_)
 refine ⟨trivial, ?_⟩
 refine seg 2 [] [1] [(1, (pt g5746))] [] (fun fb => by kernel_rfl) rfl trivial ?_
 refine WL.done rfl ?_
 refine WX.next ?_
 refine WC.seq ?_
 refine WC.region ?_
 refine seg 4 [.v (iv p0.Width)] [1, 6] [(1, (pt g5746)), (6, (.bool (decide (p0.Width ≥ 1))))] [.cell ⟨g5746, 0, none⟩ (iv p0.Width)] (fun fb => by kernel_rfl) rfl ⟨hS5748.cell 0 rfl 0 rfl, trivial⟩ ?_
 refine WL.cutV (T := Bool) 8 (fun t => [(10, (.bool t)), (1, (pt g5746))]) (fun t => ((decide (p0.Width ≥ 1)) && (decide (p0.Height ≥ 1))) = t) (fun K => ?_) ?_
 ·
  rcases Bool.eq_false_or_eq_true (decide (p0.Width ≥ 1)) with h5750 | h5750
  ·
   refine WL.setB 6 h5750 rfl ?_
   refine seg 8 [.v (iv p0.Height)] [1, 10] [(1, (pt g5746)), (10, (.bool (decide (p0.Height ≥ 1))))] [.cell ⟨g5746, 1, none⟩ (iv p0.Height)] (fun fb => by kernel_rfl) rfl ⟨hS5748.cell 0 rfl 1 rfl, trivial⟩ ?_
   exact WL.toV K (decide (p0.Height ≥ 1)) [10, 1] rfl (by first | (rw [h5750]; done) | (rw [h5750]; rfl))
  refine WL.setB 6 h5750 rfl ?_
  refine seg 8 [] [1, 10] [(1, (pt g5746)), (10, (.bool false))] [] (fun fb => by kernel_rfl) rfl trivial ?_
  exact WL.toV K false [10, 1] rfl (by first | (rw [h5750]; done) | (rw [h5750]; rfl))
 rintro b5751 rfl
 refine seg 9 [] [1, 11] [(1, (pt g5746)), (11, (.bool ((decide (p0.Width ≥ 1)) && (decide (p0.Height ≥ 1)))))] [] (fun fb => by kernel_rfl) rfl trivial ?_
 refine WL.cutV (T := Bool) 13 (fun t => [(15, (.bool t)), (1, (pt g5746))]) (fun t => (((decide (p0.Width ≥ 1)) && (decide (p0.Height ≥ 1))) && (decide (p0.Width ≤ 40000))) = t) (fun K => ?_) ?_
 ·
  rcases Bool.eq_false_or_eq_true ((decide (p0.Width ≥ 1)) && (decide (p0.Height ≥ 1))) with h5752 | h5752
  ·
   refine WL.setB 11 h5752 rfl ?_
   refine seg 13 [.v (iv p0.Width)] [1, 15] [(1, (pt g5746)), (15, (.bool (decide (p0.Width ≤ 40000))))] [.cell ⟨g5746, 0, none⟩ (iv p0.Width)] (fun fb => by kernel_rfl) rfl ⟨hS5748.cell 0 rfl 0 rfl, trivial⟩ ?_
   exact WL.toV K (decide (p0.Width ≤ 40000)) [15, 1] rfl (by first | (rw [h5752]; done) | (rw [h5752]; rfl))
  refine WL.setB 11 h5752 rfl ?_
  refine seg 13 [] [1, 15] [(1, (pt g5746)), (15, (.bool false))] [] (fun fb => by kernel_rfl) rfl trivial ?_
  exact WL.toV K false [15, 1] rfl (by first | (rw [h5752]; done) | (rw [h5752]; rfl))
 rintro b5753 rfl
 refine seg 14 [] [1, 16] [(1, (pt g5746)), (16, (.bool (((decide (p0.Width ≥ 1)) && (decide (p0.Height ≥ 1))) && (decide (p0.Width ≤ 40000)))))] [] (fun fb => by kernel_rfl) rfl trivial ?_
 refine WL.cutV (T := Bool) 18 (fun t => [(20, (.bool t)), (1, (pt g5746))]) (fun t => ((((decide (p0.Width ≥ 1)) && (decide (p0.Height ≥ 1))) && (decide (p0.Width ≤ 40000))) && (decide (p0.Height ≤ 40000))) = t) (fun K => ?_) ?_
 ·
  rcases Bool.eq_false_or_eq_true (((decide (p0.Width ≥ 1)) && (decide (p0.Height ≥ 1))) && (decide (p0.Width ≤ 40000))) with h5754 | h5754
  ·
   refine WL.setB 16 h5754 rfl ?_
   refine seg 18 [.v (iv p0.Height)] [1, 20] [(1, (pt g5746)), (20, (.bool (decide (p0.Height ≤ 40000))))] [.cell ⟨g5746, 1, none⟩ (iv p0.Height)] (fun fb => by kernel_rfl) rfl ⟨hS5748.cell 0 rfl 1 rfl, trivial⟩ ?_
   exact WL.toV K (decide (p0.Height ≤ 40000)) [20, 1] rfl (by first | (rw [h5754]; done) | (rw [h5754]; rfl))
  refine WL.setB 16 h5754 rfl ?_
  refine seg 18 [] [1, 20] [(1, (pt g5746)), (20, (.bool false))] [] (fun fb => by kernel_rfl) rfl trivial ?_
  exact WL.toV K false [20, 1] rfl (by first | (rw [h5754]; done) | (rw [h5754]; rfl))
 rintro b5755 rfl
 refine seg 19 [] [1, 21] [(1, (pt g5746)), (21, (.bool ((((decide (p0.Width ≥ 1)) && (decide (p0.Height ≥ 1))) && (decide (p0.Width ≤ 40000))) && (decide (p0.Height ≤ 40000)))))] [] (fun fb => by kernel_rfl) rfl trivial ?_
 refine WL.cutV (T := Bool) 26 (fun t => [(28, (.bool t)), (1, (pt g5746))]) (fun t => (((((decide (p0.Width ≥ 1)) && (decide (p0.Height ≥ 1))) && (decide (p0.Width ≤ 40000))) && (decide (p0.Height ≤ 40000))) && (decide (w64 (p0.Width * p0.Height) ≤ 40000))) = t) (fun K => ?_) ?_
 ·
  rcases Bool.eq_false_or_eq_true ((((decide (p0.Width ≥ 1)) && (decide (p0.Height ≥ 1))) && (decide (p0.Width ≤ 40000))) && (decide (p0.Height ≤ 40000))) with h5756 | h5756
  ·
   refine WL.setB 21 h5756 rfl ?_
   refine seg 26 [.v (iv p0.Width), .v (iv p0.Height)] [1, 28] [(1, (pt g5746)), (28, (.bool (decide (w64 (p0.Width * p0.Height) ≤ 40000))))] [.cell ⟨g5746, 0, none⟩ (iv p0.Width), .cell ⟨g5746, 1, none⟩ (iv p0.Height)] (fun fb => by kernel_rfl) rfl ⟨hS5748.cell 0 rfl 0 rfl, hS5748.cell 0 rfl 1 rfl, trivial⟩ ?_
   exact WL.toV K (decide (w64 (p0.Width * p0.Height) ≤ 40000)) [28, 1] rfl (by first | (rw [h5756]; done) | (rw [h5756]; rfl))
  refine WL.setB 21 h5756 rfl ?_
  refine seg 26 [] [1, 28] [(1, (pt g5746)), (28, (.bool false))] [] (fun fb => by kernel_rfl) rfl trivial ?_
  exact WL.toV K false [28, 1] rfl (by first | (rw [h5756]; done) | (rw [h5756]; rfl))
 rintro b5757 rfl
 refine seg 27 [] [1, 29] [(1, (pt g5746)), (29, (.bool (((((decide (p0.Width ≥ 1)) && (decide (p0.Height ≥ 1))) && (decide (p0.Width ≤ 40000))) && (decide (p0.Height ≤ 40000))) && (decide (w64 (p0.Width * p0.Height) ≤ 40000)))))] [] (fun fb => by kernel_rfl) rfl trivial ?_
 refine WL.cutV (T := Bool) 37 (fun t => [(39, (.bool t))]) (fun t => ((((((decide (p0.Width ≥ 1)) && (decide (p0.Height ≥ 1))) && (decide (p0.Width ≤ 40000))) && (decide (p0.Height ≤ 40000))) && (decide (w64 (p0.Width * p0.Height) ≤ 40000))) && ((p0.Cells.length : Int) == (w64 (p0.Width * p0.Height)))) = t) (fun K => ?_) ?_
 ·
  rcases Bool.eq_false_or_eq_true (((((decide (p0.Width ≥ 1)) && (decide (p0.Height ≥ 1))) && (decide (p0.Width ≤ 40000))) && (decide (p0.Height ≤ 40000))) && (decide (w64 (p0.Width * p0.Height) ≤ 40000))) with h5758 | h5758
  ·
   refine WL.setB 29 h5758 rfl ?_
   refine seg 37 [.v (.slice A_p0_Cells p0.Cells.length c_p0_Cells), .v (iv p0.Width), .v (iv p0.Height)] [39] [(39, (.bool ((p0.Cells.length : Int) == (w64 (p0.Width * p0.Height)))))] [.cell ⟨g5746, 2, none⟩ (.slice A_p0_Cells p0.Cells.length c_p0_Cells), .cell ⟨g5746, 0, none⟩ (iv p0.Width), .cell ⟨g5746, 1, none⟩ (iv p0.Height)] (fun fb => by kernel_rfl) rfl ⟨hS5748.cell 0 rfl 2 rfl, hS5748.cell 0 rfl 0 rfl, hS5748.cell 0 rfl 1 rfl, trivial⟩ ?_
   exact WL.toV K ((p0.Cells.length : Int) == (w64 (p0.Width * p0.Height))) [39] rfl (by first | (rw [h5758]; done) | (rw [h5758]; rfl))
  refine WL.setB 29 h5758 rfl ?_
  refine seg 37 [] [39] [(39, (.bool false))] [] (fun fb => by kernel_rfl) rfl trivial ?_
  exact WL.toV K false [39] rfl (by first | (rw [h5758]; done) | (rw [h5758]; rfl))
 rintro b5759 rfl
 refine seg 38 [] [2] [(2, (.bool ((((((decide (p0.Width ≥ 1)) && (decide (p0.Height ≥ 1))) && (decide (p0.Width ≤ 40000))) && (decide (p0.Height ≤ 40000))) && (decide (w64 (p0.Width * p0.Height) ≤ 40000))) && ((p0.Cells.length : Int) == (w64 (p0.Width * p0.Height))))))] [] (fun fb => by kernel_rfl) rfl trivial ?_
 refine WL.done rfl ?_
 refine WX.next ?_
 refine WC.ret ?_
 injection hf with hf
 subst hf
 exact WX.ret_ [] (.bool ((((((decide (p0.Width ≥ 1)) && (decide (p0.Height ≥ 1))) && (decide (p0.Width ≤ 40000))) && (decide (p0.Height ≤ 40000))) && (decide (w64 (p0.Width * p0.Height) ≤ 40000))) && ((p0.Cells.length : Int) == (w64 (p0.Width * p0.Height))))) [] (fun fb => by kernel_rfl) trivial ⟨_, rfl, rfl, hS5748.keep⟩
theorem ref01_Cell_calls (p0 : Pattern) (p1 : Int) (p2 : Int) (A_p0_Cells : Option Addr) (c_p0_Cells : Nat) (r : Int) (w : World) (hR0 : RO NoS w (rowR encInt A_p0_Cells c_p0_Cells p0.Cells)) (hf : ref01_Cell p0 p1 p2 = some r) :
  CallsR Tryd.prog 37 #[(.agg #[(iv p0.Width), (iv p0.Height), (.slice A_p0_Cells p0.Cells.length c_p0_Cells)]), (iv p1), (iv p2)] w (fun v w' => v = (iv r) ∧ Keeps NoS w w') := by
 have hS : St NoS w w [rowR encInt A_p0_Cells c_p0_Cells p0.Cells] [] := St.init (ro_cons hR0 (ro_nil _ _))
 refine enter 17 Tryd.func37 rfl Tryd.ntmps37 rfl ?_
 unfold ref01_Cell at hf
 refine WC.seq ?_
 refine WC.region ?_
 refine WL.new hS 3 [] (fun g => (.pointer (some ⟨g, 0, none⟩))) (.cells #[(iv p0.Width), (iv p0.Height), (.slice A_p0_Cells p0.Cells.length c_p0_Cells)] 27 (0, 0)) [] (fun fb g => by kernel_rfl) trivial (fun g5796 w5797 hS5798 => ?_)
 refine ⟨trivial, ?_⟩
 refine seg 2 [] [1, 2, 3] [(1, (iv p1)), (2, (iv p2)), (3, (pt g5796))] [] (fun fb => by kernel_rfl) rfl trivial ?_
 refine WL.done rfl ?_
 refine WX.next ?_
 refine WC.seq ?_
 refine WC.region ?_
 refine seg 8 [.v (.slice A_p0_Cells p0.Cells.length c_p0_Cells), .v (iv p0.Width)] [8, 14] [(8, (.slice A_p0_Cells p0.Cells.length c_p0_Cells)), (14, (iv (w64 ((w64 (p2 * p0.Width)) + p1))))] [.cell ⟨g5796, 2, none⟩ (.slice A_p0_Cells p0.Cells.length c_p0_Cells), .cell ⟨g5796, 0, none⟩ (iv p0.Width)] (fun fb => by kernel_rfl) rfl ⟨hS5798.cell 0 rfl 2 rfl, hS5798.cell 0 rfl 0 rfl, trivial⟩ ?_
 obtain ⟨h5800, hf⟩ := as_some hf
 refine seg 11 [.v (iv (rdD p0.Cells (w64 ((w64 (p2 * p0.Width)) + p1)) 0))] [6] [(6, (iv (rdD p0.Cells (w64 ((w64 (p2 * p0.Width)) + p1)) 0)))] [.idx A_p0_Cells (w64 ((w64 (p2 * p0.Width)) + p1)) p0.Cells.length, .cell ((adr A_p0_Cells).add ((w64 ((w64 (p2 * p0.Width)) + p1)).toNat * 1)) (iv (rdD p0.Cells (w64 ((w64 (p2 * p0.Width)) + p1)) 0))] (fun fb => by kernel_rfl) rfl ⟨rowR.adr (hS5798.rd 0).1 h5800.1 h5800.2, rowR.cell (hS5798.rd 0).1 0 h5800.1 h5800.2 0 rfl, trivial⟩ ?_
 refine WL.done rfl ?_
 refine WX.next ?_
 refine WC.ret ?_
 injection hf with hf
 subst hf
 exact WX.ret_ [] (iv (rdD p0.Cells (w64 ((w64 (p2 * p0.Width)) + p1)) 0)) [] (fun fb => by kernel_rfl) trivial ⟨_, rfl, rfl, hS5798.keep⟩
end Gp
