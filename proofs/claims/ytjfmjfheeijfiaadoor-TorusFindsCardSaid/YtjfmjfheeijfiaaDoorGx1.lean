/- Walks: each function of the program computes its plain function. -/
import Derived.Test.YtjfmjfheeijfiaaDoorGx0
set_option linter.unusedVariables false
set_option linter.unusedSimpArgs false
set_option maxHeartbeats 4000000
namespace Gp
open Go Gw Go.Proofs
theorem torus_find_key83 : KeyK Tryd.prog 83 (aggI ints_A8_Int) := KeyK.array (n := 8) (by kernel_rfl) ints_A8_Int (fun _ => rfl) (fun x y h => by cases x; cases y; simp only [ints_A8_Int, List.cons.injEq, and_true] at h; obtain ⟨rfl, rfl, rfl, rfl, rfl, rfl, rfl, rfl⟩ := h; rfl)
theorem torus_find_calls (k : Nat) (p0 : List Tile) (p1 : Int) (p2 : Int) (A_p0 : Option Addr) (c_p0 : Nat) (r : Pattern × Bool) (w : World) (hR0 : RO NoS w (rowR enc_Tile A_p0 c_p0 p0)) (hf : torus_find k p0 p1 p2 = some r) :
  CallsR Tryd.prog 54 #[(.slice A_p0 p0.length c_p0), (iv p1), (iv p2)] w (fun v w' => ∃ (A1_ : Option Addr), ∃ (c1_ : Nat), v = (.tuple #[(.agg #[(iv r.1.Width), (iv r.1.Height), (.slice A1_ r.1.Cells.length c1_)]), (.bool r.2)]) ∧ St NoS w w' [] [rowO 3 encInt A1_ c1_ r.1.Cells]) := by
 have hS : St NoS w w [rowR enc_Tile A_p0 c_p0 p0] [] := St.init (ro_cons hR0 (ro_nil _ _))
 refine enter 105 Tryd.func54 rfl Tryd.ntmps54 rfl ?_
 unfold torus_find at hf
 refine WC.seq ?_
 refine WC.region ?_
 refine WL.new hS 6 [] (fun g => (.pointer (some ⟨g, 0, none⟩))) (.cells #[(iv 0), (iv 0), (.slice none 0 0)] 27 (0, 0)) [] (fun fb g => by kernel_rfl) trivial (fun g1281 w1282 hS1283 => ?_)
 refine ⟨trivial, ?_⟩
 refine seg 2 [] [0, 1, 2, 6] [(0, (.slice A_p0 p0.length c_p0)), (1, (iv p1)), (2, (iv p2)), (6, (pt g1281))] [] (fun fb => by kernel_rfl) rfl trivial ?_
 refine WL.done rfl ?_
 refine WX.next ?_
 refine WC.scope ?_
 refine WC.seq ?_
 refine WC.region ?_
 refine seg 2 [] [1, 2, 6, 19, 20] [(1, (iv p1)), (2, (iv p2)), (6, (pt g1281)), (19, (.slice A_p0 p0.length c_p0)), (20, (iv p1))] [] (fun fb => by kernel_rfl) rfl trivial ?_
 obtain ⟨t2149, ht2150, hf⟩ := bind_some hf
 refine WL.call (some 21) 81 #[(.slice A_p0 p0.length c_p0), (iv p1)] (fun fb => by kernel_rfl) (torus_rings_calls _ p0 p1 A_p0 c_p0 t2149 _ (hS1283.rd 0) ht2150) (fun v w2151 hR2152 => ?_)
 obtain ⟨A2154, c2155, H2156, rfl, hk_⟩ := hR2152
 have hS2153 : St NoS w w2151 [rowR enc_Tile A_p0 c_p0 p0] [rowO 85 encN_Row A2154 c2155 (tag H2156 t2149), poolO [nestO subN_Row H2156 t2149], blk g1281 (.cells #[(iv 0), (iv 0), (.slice none 0 0)] 27 (0, 0))] := hS1283.call hk_ [] [0] (fun g hg => hg.elim) (by simp) (by decide)
 refine ⟨trivial, ?_⟩
 refine seg 4 [] [1, 2, 6, 8] [(1, (iv p1)), (2, (iv p2)), (6, (pt g1281)), (8, (.slice A2154 t2149.length c2155))] [] (fun fb => by kernel_rfl) rfl trivial ?_
 refine WL.done rfl ?_
 refine WX.next ?_
 refine WC.seq ?_
 refine WC.region ?_
 refine WL.new hS2153 22 [] (fun g => (.map (some g))) (mapObj (aggI ints_A8_Int) slV ([] : List (A8_Int × (HM × List (Option (List (A8_Int × Bool))))))) [] (fun fb g => by kernel_rfl) trivial (fun g2157 w2158 hS2159 => ?_)
 have hS2160 : St NoS w w2158 [knestO (aggI ints_A8_Int) vB ([] : List (A8_Int × (HM × List (Option (List (A8_Int × Bool)))))) ([] : List (A8_Int × List (Option (List (A8_Int × Bool))))), rowR enc_Tile A_p0 c_p0 p0] [blk g2157 (mapObj (aggI ints_A8_Int) slV ([] : List (A8_Int × (HM × List (Option (List (A8_Int × Bool))))))), rowO 85 encN_Row A2154 c2155 (tag H2156 t2149), poolO [nestO subN_Row H2156 t2149], blk g1281 (.cells #[(iv 0), (iv 0), (.slice none 0 0)] 27 (0, 0))] := hS2159.addR _ (knestO_nil _ _ _ _)
 refine ⟨trivial, ?_⟩
 refine seg 2 [] [1, 2, 6, 8, 9] [(1, (iv p1)), (2, (iv p2)), (6, (pt g1281)), (8, (.slice A2154 t2149.length c2155)), (9, (.map (some g2157)))] [] (fun fb => by kernel_rfl) rfl trivial ?_
 refine WL.done rfl ?_
 refine WX.next ?_
 refine WC.seq ?_
 refine WC.region ?_
 refine seg 3 [] [2, 6, 8, 9, 25] [(2, (iv p2)), (6, (pt g1281)), (8, (.slice A2154 t2149.length c2155)), (9, (.map (some g2157))), (25, (.agg #[(iv p1), (iv p2), (.slice none 0 0)]))] [] (fun fb => by kernel_rfl) rfl trivial ?_
 refine WL.new hS2160 10 [] (fun g => (.pointer (some ⟨g, 0, none⟩))) (.cells #[(iv 0), (iv 0), (.slice none 0 0)] 27 (0, 0)) [] (fun fb g => by kernel_rfl) trivial (fun g2161 w2162 hS2163 => ?_)
 refine ⟨trivial, ?_⟩
 refine WL.store hS2163 0 rfl [(0, (iv p1)), (1, (iv p2)), (2, (.slice none 0 0))] #[(iv p1), (iv p2), (.slice none 0 0)] (fun fb => by kernel_rfl) (by kernel_rfl) rfl [1, 2, 3, 4] (by decide) (by decide) (fun w2165 hS2166 => ?_)
 refine ⟨trivial, ?_⟩
 refine WL.done rfl ?_
 refine WX.next ?_
 refine WC.seq ?_
 refine WC.label ?_
 refine WX.next ?_
 refine WC.seq ?_
 refine WC.seq ?_
 refine WC.region ?_
 refine seg 3 [] [2, 6, 8, 9, 10, 26, 27, 28] [(2, (iv p2)), (6, (pt g1281)), (8, (.slice A2154 t2149.length c2155)), (9, (.map (some g2157))), (10, (pt g2161)), (26, (.slice A2154 t2149.length c2155)), (27, (iv (t2149.length : Int))), (28, (iv 0))] [] (fun fb => by kernel_rfl) rfl trivial ?_
 refine WL.done rfl ?_
 refine WX.next ?_
 obtain ⟨x3758, hx3759, hf⟩ := bind_some hf
 refine WC.cutN (T := Unit) (fun t => [(6, (pt g1281))]) (fun t w1 => St NoS w w1 [knestO (aggI ints_A8_Int) vB ([] : List (A8_Int × (HM × List (Option (List (A8_Int × Bool)))))) ([] : List (A8_Int × List (Option (List (A8_Int × Bool))))), rowR enc_Tile A_p0 c_p0 p0] [blk g1281 (.cells #[(iv 0), (iv 0), (.slice none 0 0)] 27 (0, 0))] ∧ x3758 = .inr t) (fun Kx3758 => ?_) ?_
 ·
  refine WC.block ?_
  refine WC.loop (T := ((List (A8_Int × List (Option (List (A8_Int × Bool))))) × Int) × (List (A8_Int × (HM × List (Option (List (A8_Int × Bool))))))) (fun t => [(2, (iv p2)), (6, (pt g1281)), (8, (.slice A2154 t2149.length c2155)), (9, (.map (some g2157))), (10, (pt g2161)), (26, (.slice A2154 t2149.length c2155)), (27, (iv (t2149.length : Int))), (28, (iv t.1.2))]) (fun n t w1 => St NoS w w1 [knestO (aggI ints_A8_Int) vB t.2 t.1.1, knestO (aggI ints_A8_Int) vB ([] : List (A8_Int × (HM × List (Option (List (A8_Int × Bool)))))) ([] : List (A8_Int × List (Option (List (A8_Int × Bool))))), rowR enc_Tile A_p0 c_p0 p0] [blk g1281 (.cells #[(iv 0), (iv 0), (.slice none 0 0)] 27 (0, 0)), rowO 85 encN_Row A2154 c2155 (tag H2156 t2149), poolO [nestO subN_Row H2156 t2149], blk g2157 (mapObj (aggI ints_A8_Int) slV t.2), blk g2161 (.cells #[(iv p1), (iv p2), (.slice none 0 0)] 27 (0, 0))] ∧ torus_find.l0 n t.1.1 t.1.2 p1 p2 t2149 = some x3758) k ((([] : List (A8_Int × List (Option (List (A8_Int × Bool))))), 0), ([] : List (A8_Int × (HM × List (Option (List (A8_Int × Bool))))))) [2, 6, 8, 9, 10, 26, 27, 28] rfl ⟨(hS2166.subR [0, 0, 1]).sub [4, 2, 3, 1, 0] (by decide), hx3759⟩ ?_
  rintro k3760 ⟨⟨l3755, x3757⟩, K3756⟩ w3761 ⟨hS3762, hl3763⟩
  cases k3760 with
  | zero => rw [torus_find.l0] at hl3763; cases hl3763
  | succ k3760 =>
   rw [torus_find.l0] at hl3763
   refine WC.seq ?_
   refine WC.region ?_
   refine seg 1 [] [2, 6, 8, 9, 10, 26, 27, 28, 29] [(2, (iv p2)), (6, (pt g1281)), (8, (.slice A2154 t2149.length c2155)), (9, (.map (some g2157))), (10, (pt g2161)), (26, (.slice A2154 t2149.length c2155)), (27, (iv (t2149.length : Int))), (28, (iv x3757)), (29, (.bool (decide (x3757 < (t2149.length : Int)))))] [] (fun fb => by kernel_rfl) rfl trivial ?_
   refine WL.done rfl ?_
   refine WX.next ?_
   refine WC.seq ?_
   rcases br_some hl3763 with ⟨h3764, hl3763⟩ | ⟨h3764, hl3763⟩
   ·refine WC.condT2 (fun fb => by kernel_rfl) h3764 ?_
    refine WC.skip ?_
    refine WX.next ?_
    refine WC.seq ?_
    refine WC.block ?_
    refine WC.seq ?_
    refine WC.region ?_
    obtain ⟨h3765, hl3763⟩ := as_some hl3763
    refine seg 2 [.v (.slice ((H2156 x3757.toNat 0).1) ((rdD t2149 x3757 z_Row).Cells).length ((H2156 x3757.toNat 0).2)), .v (iv (((rdD t2149 x3757 z_Row).South).e0)), .v (iv (((rdD t2149 x3757 z_Row).South).e1)), .v (iv (((rdD t2149 x3757 z_Row).South).e2)), .v (iv (((rdD t2149 x3757 z_Row).South).e3)), .v (iv (((rdD t2149 x3757 z_Row).South).e4)), .v (iv (((rdD t2149 x3757 z_Row).South).e5)), .v (iv (((rdD t2149 x3757 z_Row).South).e6)), .v (iv (((rdD t2149 x3757 z_Row).South).e7)), .v (iv (((rdD t2149 x3757 z_Row).North).e0)), .v (iv (((rdD t2149 x3757 z_Row).North).e1)), .v (iv (((rdD t2149 x3757 z_Row).North).e2)), .v (iv (((rdD t2149 x3757 z_Row).North).e3)), .v (iv (((rdD t2149 x3757 z_Row).North).e4)), .v (iv (((rdD t2149 x3757 z_Row).North).e5)), .v (iv (((rdD t2149 x3757 z_Row).North).e6)), .v (iv (((rdD t2149 x3757 z_Row).North).e7)), .v (iv ((rdD t2149 x3757 z_Row).West)), .v (iv ((rdD t2149 x3757 z_Row).East))] [2, 6, 8, 9, 10, 26, 27, 28, 31] [(2, (iv p2)), (6, (pt g1281)), (8, (.slice A2154 t2149.length c2155)), (9, (.map (some g2157))), (10, (pt g2161)), (26, (.slice A2154 t2149.length c2155)), (27, (iv (t2149.length : Int))), (28, (iv x3757)), (31, (.agg #[(.slice ((H2156 x3757.toNat 0).1) ((rdD t2149 x3757 z_Row).Cells).length ((H2156 x3757.toNat 0).2)), (iv (((rdD t2149 x3757 z_Row).South).e0)), (iv (((rdD t2149 x3757 z_Row).South).e1)), (iv (((rdD t2149 x3757 z_Row).South).e2)), (iv (((rdD t2149 x3757 z_Row).South).e3)), (iv (((rdD t2149 x3757 z_Row).South).e4)), (iv (((rdD t2149 x3757 z_Row).South).e5)), (iv (((rdD t2149 x3757 z_Row).South).e6)), (iv (((rdD t2149 x3757 z_Row).South).e7)), (iv (((rdD t2149 x3757 z_Row).North).e0)), (iv (((rdD t2149 x3757 z_Row).North).e1)), (iv (((rdD t2149 x3757 z_Row).North).e2)), (iv (((rdD t2149 x3757 z_Row).North).e3)), (iv (((rdD t2149 x3757 z_Row).North).e4)), (iv (((rdD t2149 x3757 z_Row).North).e5)), (iv (((rdD t2149 x3757 z_Row).North).e6)), (iv (((rdD t2149 x3757 z_Row).North).e7)), (iv ((rdD t2149 x3757 z_Row).West)), (iv ((rdD t2149 x3757 z_Row).East))]))] [.idx A2154 x3757 t2149.length, .cell ((adr A2154).add ((x3757).toNat * 19)) (.slice ((H2156 x3757.toNat 0).1) ((rdD t2149 x3757 z_Row).Cells).length ((H2156 x3757.toNat 0).2)), .cell (((adr A2154).add ((x3757).toNat * 19)).add 1) (iv (((rdD t2149 x3757 z_Row).South).e0)), .cell (((adr A2154).add ((x3757).toNat * 19)).add 2) (iv (((rdD t2149 x3757 z_Row).South).e1)), .cell (((adr A2154).add ((x3757).toNat * 19)).add 3) (iv (((rdD t2149 x3757 z_Row).South).e2)), .cell (((adr A2154).add ((x3757).toNat * 19)).add 4) (iv (((rdD t2149 x3757 z_Row).South).e3)), .cell (((adr A2154).add ((x3757).toNat * 19)).add 5) (iv (((rdD t2149 x3757 z_Row).South).e4)), .cell (((adr A2154).add ((x3757).toNat * 19)).add 6) (iv (((rdD t2149 x3757 z_Row).South).e5)), .cell (((adr A2154).add ((x3757).toNat * 19)).add 7) (iv (((rdD t2149 x3757 z_Row).South).e6)), .cell (((adr A2154).add ((x3757).toNat * 19)).add 8) (iv (((rdD t2149 x3757 z_Row).South).e7)), .cell (((adr A2154).add ((x3757).toNat * 19)).add 9) (iv (((rdD t2149 x3757 z_Row).North).e0)), .cell (((adr A2154).add ((x3757).toNat * 19)).add 10) (iv (((rdD t2149 x3757 z_Row).North).e1)), .cell (((adr A2154).add ((x3757).toNat * 19)).add 11) (iv (((rdD t2149 x3757 z_Row).North).e2)), .cell (((adr A2154).add ((x3757).toNat * 19)).add 12) (iv (((rdD t2149 x3757 z_Row).North).e3)), .cell (((adr A2154).add ((x3757).toNat * 19)).add 13) (iv (((rdD t2149 x3757 z_Row).North).e4)), .cell (((adr A2154).add ((x3757).toNat * 19)).add 14) (iv (((rdD t2149 x3757 z_Row).North).e5)), .cell (((adr A2154).add ((x3757).toNat * 19)).add 15) (iv (((rdD t2149 x3757 z_Row).North).e6)), .cell (((adr A2154).add ((x3757).toNat * 19)).add 16) (iv (((rdD t2149 x3757 z_Row).North).e7)), .cell (((adr A2154).add ((x3757).toNat * 19)).add 17) (iv ((rdD t2149 x3757 z_Row).West)), .cell (((adr A2154).add ((x3757).toNat * 19)).add 18) (iv ((rdD t2149 x3757 z_Row).East))] (fun fb => by kernel_rfl) rfl ⟨nrow_adr (rowO.rd (hS3762.own 1).1) h3765.1 h3765.2, nrow_cell (rowO.rd (hS3762.own 1).1) z_Row h3765.1 h3765.2 0 rfl, nrow_cell (rowO.rd (hS3762.own 1).1) z_Row h3765.1 h3765.2 1 rfl, nrow_cell (rowO.rd (hS3762.own 1).1) z_Row h3765.1 h3765.2 2 rfl, nrow_cell (rowO.rd (hS3762.own 1).1) z_Row h3765.1 h3765.2 3 rfl, nrow_cell (rowO.rd (hS3762.own 1).1) z_Row h3765.1 h3765.2 4 rfl, nrow_cell (rowO.rd (hS3762.own 1).1) z_Row h3765.1 h3765.2 5 rfl, nrow_cell (rowO.rd (hS3762.own 1).1) z_Row h3765.1 h3765.2 6 rfl, nrow_cell (rowO.rd (hS3762.own 1).1) z_Row h3765.1 h3765.2 7 rfl, nrow_cell (rowO.rd (hS3762.own 1).1) z_Row h3765.1 h3765.2 8 rfl, nrow_cell (rowO.rd (hS3762.own 1).1) z_Row h3765.1 h3765.2 9 rfl, nrow_cell (rowO.rd (hS3762.own 1).1) z_Row h3765.1 h3765.2 10 rfl, nrow_cell (rowO.rd (hS3762.own 1).1) z_Row h3765.1 h3765.2 11 rfl, nrow_cell (rowO.rd (hS3762.own 1).1) z_Row h3765.1 h3765.2 12 rfl, nrow_cell (rowO.rd (hS3762.own 1).1) z_Row h3765.1 h3765.2 13 rfl, nrow_cell (rowO.rd (hS3762.own 1).1) z_Row h3765.1 h3765.2 14 rfl, nrow_cell (rowO.rd (hS3762.own 1).1) z_Row h3765.1 h3765.2 15 rfl, nrow_cell (rowO.rd (hS3762.own 1).1) z_Row h3765.1 h3765.2 16 rfl, nrow_cell (rowO.rd (hS3762.own 1).1) z_Row h3765.1 h3765.2 17 rfl, nrow_cell (rowO.rd (hS3762.own 1).1) z_Row h3765.1 h3765.2 18 rfl, trivial⟩ ?_
    refine WL.new hS3762 12 [] (fun g => (.pointer (some ⟨g, 0, none⟩))) (.cells #[(.slice none 0 0), (iv 0), (iv 0), (iv 0), (iv 0), (iv 0), (iv 0), (iv 0), (iv 0), (iv 0), (iv 0), (iv 0), (iv 0), (iv 0), (iv 0), (iv 0), (iv 0), (iv 0), (iv 0)] 85 (0, 0)) [] (fun fb g => by kernel_rfl) trivial (fun g3766 w3767 hS3768 => ?_)
    refine ⟨trivial, ?_⟩
    refine WL.store hS3768 0 rfl [(0, (.slice ((H2156 x3757.toNat 0).1) ((rdD t2149 x3757 z_Row).Cells).length ((H2156 x3757.toNat 0).2))), (1, (iv (((rdD t2149 x3757 z_Row).South).e0))), (2, (iv (((rdD t2149 x3757 z_Row).South).e1))), (3, (iv (((rdD t2149 x3757 z_Row).South).e2))), (4, (iv (((rdD t2149 x3757 z_Row).South).e3))), (5, (iv (((rdD t2149 x3757 z_Row).South).e4))), (6, (iv (((rdD t2149 x3757 z_Row).South).e5))), (7, (iv (((rdD t2149 x3757 z_Row).South).e6))), (8, (iv (((rdD t2149 x3757 z_Row).South).e7))), (9, (iv (((rdD t2149 x3757 z_Row).North).e0))), (10, (iv (((rdD t2149 x3757 z_Row).North).e1))), (11, (iv (((rdD t2149 x3757 z_Row).North).e2))), (12, (iv (((rdD t2149 x3757 z_Row).North).e3))), (13, (iv (((rdD t2149 x3757 z_Row).North).e4))), (14, (iv (((rdD t2149 x3757 z_Row).North).e5))), (15, (iv (((rdD t2149 x3757 z_Row).North).e6))), (16, (iv (((rdD t2149 x3757 z_Row).North).e7))), (17, (iv ((rdD t2149 x3757 z_Row).West))), (18, (iv ((rdD t2149 x3757 z_Row).East)))] #[(.slice ((H2156 x3757.toNat 0).1) ((rdD t2149 x3757 z_Row).Cells).length ((H2156 x3757.toNat 0).2)), (iv (((rdD t2149 x3757 z_Row).South).e0)), (iv (((rdD t2149 x3757 z_Row).South).e1)), (iv (((rdD t2149 x3757 z_Row).South).e2)), (iv (((rdD t2149 x3757 z_Row).South).e3)), (iv (((rdD t2149 x3757 z_Row).South).e4)), (iv (((rdD t2149 x3757 z_Row).South).e5)), (iv (((rdD t2149 x3757 z_Row).South).e6)), (iv (((rdD t2149 x3757 z_Row).South).e7)), (iv (((rdD t2149 x3757 z_Row).North).e0)), (iv (((rdD t2149 x3757 z_Row).North).e1)), (iv (((rdD t2149 x3757 z_Row).North).e2)), (iv (((rdD t2149 x3757 z_Row).North).e3)), (iv (((rdD t2149 x3757 z_Row).North).e4)), (iv (((rdD t2149 x3757 z_Row).North).e5)), (iv (((rdD t2149 x3757 z_Row).North).e6)), (iv (((rdD t2149 x3757 z_Row).North).e7)), (iv ((rdD t2149 x3757 z_Row).West)), (iv ((rdD t2149 x3757 z_Row).East))] (fun fb => by kernel_rfl) (by kernel_rfl) (by kernel_rfl) [1, 2, 3, 4, 5] (by decide) (by decide) (fun w3770 hS3771 => ?_)
    refine ⟨trivial, ?_⟩
    refine WL.done rfl ?_
    refine WX.next ?_
    refine WC.seq ?_
    refine WC.region ?_
    refine seg 3 [.v (iv (((rdD t2149 x3757 z_Row).South).e0)), .v (iv (((rdD t2149 x3757 z_Row).South).e1)), .v (iv (((rdD t2149 x3757 z_Row).South).e2)), .v (iv (((rdD t2149 x3757 z_Row).South).e3)), .v (iv (((rdD t2149 x3757 z_Row).South).e4)), .v (iv (((rdD t2149 x3757 z_Row).South).e5)), .v (iv (((rdD t2149 x3757 z_Row).South).e6)), .v (iv (((rdD t2149 x3757 z_Row).South).e7))] [2, 6, 8, 9, 10, 12, 26, 27, 28, 33, 35] [(2, (iv p2)), (6, (pt g1281)), (8, (.slice A2154 t2149.length c2155)), (9, (.map (some g2157))), (10, (pt g2161)), (12, (pt g3766)), (26, (.slice A2154 t2149.length c2155)), (27, (iv (t2149.length : Int))), (28, (iv x3757)), (33, (.map (some g2157))), (35, (.agg #[(iv (((rdD t2149 x3757 z_Row).South).e0)), (iv (((rdD t2149 x3757 z_Row).South).e1)), (iv (((rdD t2149 x3757 z_Row).South).e2)), (iv (((rdD t2149 x3757 z_Row).South).e3)), (iv (((rdD t2149 x3757 z_Row).South).e4)), (iv (((rdD t2149 x3757 z_Row).South).e5)), (iv (((rdD t2149 x3757 z_Row).South).e6)), (iv (((rdD t2149 x3757 z_Row).South).e7))]))] [.cell ⟨g3766, 1, none⟩ (iv (((rdD t2149 x3757 z_Row).South).e0)), .cell ⟨g3766, 2, none⟩ (iv (((rdD t2149 x3757 z_Row).South).e1)), .cell ⟨g3766, 3, none⟩ (iv (((rdD t2149 x3757 z_Row).South).e2)), .cell ⟨g3766, 4, none⟩ (iv (((rdD t2149 x3757 z_Row).South).e3)), .cell ⟨g3766, 5, none⟩ (iv (((rdD t2149 x3757 z_Row).South).e4)), .cell ⟨g3766, 6, none⟩ (iv (((rdD t2149 x3757 z_Row).South).e5)), .cell ⟨g3766, 7, none⟩ (iv (((rdD t2149 x3757 z_Row).South).e6)), .cell ⟨g3766, 8, none⟩ (iv (((rdD t2149 x3757 z_Row).South).e7))] (fun fb => by kernel_rfl) rfl ⟨hS3771.cell 0 rfl 1 rfl, hS3771.cell 0 rfl 2 rfl, hS3771.cell 0 rfl 3 rfl, hS3771.cell 0 rfl 4 rfl, hS3771.cell 0 rfl 5 rfl, hS3771.cell 0 rfl 6 rfl, hS3771.cell 0 rfl 7 rfl, hS3771.cell 0 rfl 8 rfl, trivial⟩ ?_
    refine WL.lookup (hS3771.own 4).1 ((rdD t2149 x3757 z_Row).South) (d := 36) (c := true) (t := 117) (kT := 83) (eT := 90) (z := zHM) (kE := (aggI ints_A8_Int)) (vE := slV) (l := K3756) (.tuple #[(.slice ((mget ((rdD t2149 x3757 z_Row).South) zHM K3756).1.1) (mget ((rdD t2149 x3757 z_Row).South) [] l3755).length ((mget ((rdD t2149 x3757 z_Row).South) zHM K3756).1.2.1)), (.bool (mhas ((rdD t2149 x3757 z_Row).South) l3755))]) (fun fb => by kernel_rfl) torus_find_key83 (by kernel_rfl) (fun _ => by kernel_rfl) (by rw [mhas_unK, (knestO.eq (hS3771.rd 0))]; rw [slV_get _ _ (knestO.eq (hS3771.rd 0))]; rfl) ?_
    refine ⟨trivial, ?_⟩
    have hS3772 : St NoS w w3770 [rowR (encMap A8_Int Bool) ((mget ((rdD t2149 x3757 z_Row).South) zHM K3756).1.1) ((mget ((rdD t2149 x3757 z_Row).South) zHM K3756).1.2.1) (tag ((mget ((rdD t2149 x3757 z_Row).South) zHM K3756).1.2.2) (mget ((rdD t2149 x3757 z_Row).South) [] l3755)), knestO (aggI ints_A8_Int) vB K3756 l3755, knestO (aggI ints_A8_Int) vB ([] : List (A8_Int × (HM × List (Option (List (A8_Int × Bool)))))) ([] : List (A8_Int × List (Option (List (A8_Int × Bool))))), rowR enc_Tile A_p0 c_p0 p0] [blk g3766 (.cells #[(.slice ((H2156 x3757.toNat 0).1) ((rdD t2149 x3757 z_Row).Cells).length ((H2156 x3757.toNat 0).2)), (iv (((rdD t2149 x3757 z_Row).South).e0)), (iv (((rdD t2149 x3757 z_Row).South).e1)), (iv (((rdD t2149 x3757 z_Row).South).e2)), (iv (((rdD t2149 x3757 z_Row).South).e3)), (iv (((rdD t2149 x3757 z_Row).South).e4)), (iv (((rdD t2149 x3757 z_Row).South).e5)), (iv (((rdD t2149 x3757 z_Row).South).e6)), (iv (((rdD t2149 x3757 z_Row).South).e7)), (iv (((rdD t2149 x3757 z_Row).North).e0)), (iv (((rdD t2149 x3757 z_Row).North).e1)), (iv (((rdD t2149 x3757 z_Row).North).e2)), (iv (((rdD t2149 x3757 z_Row).North).e3)), (iv (((rdD t2149 x3757 z_Row).North).e4)), (iv (((rdD t2149 x3757 z_Row).North).e5)), (iv (((rdD t2149 x3757 z_Row).North).e6)), (iv (((rdD t2149 x3757 z_Row).North).e7)), (iv ((rdD t2149 x3757 z_Row).West)), (iv ((rdD t2149 x3757 z_Row).East))] 85 (0, 0)), blk g1281 (.cells #[(iv 0), (iv 0), (.slice none 0 0)] 27 (0, 0)), rowO 85 encN_Row A2154 c2155 (tag H2156 t2149), poolO [nestO subN_Row H2156 t2149], blk g2157 (mapObj (aggI ints_A8_Int) slV K3756), blk g2161 (.cells #[(iv p1), (iv p2), (.slice none 0 0)] 27 (0, 0))] := hS3771.addR _ (knestO.row (hS3771.rdL 0) ((rdD t2149 x3757 z_Row).South))
    have hS3773 : St NoS w w3770 [mapsO (aggI ints_A8_Int) vB ((mget ((rdD t2149 x3757 z_Row).South) zHM K3756).1.2.2) (mget ((rdD t2149 x3757 z_Row).South) [] l3755), rowR (encMap A8_Int Bool) ((mget ((rdD t2149 x3757 z_Row).South) zHM K3756).1.1) ((mget ((rdD t2149 x3757 z_Row).South) zHM K3756).1.2.1) (tag ((mget ((rdD t2149 x3757 z_Row).South) zHM K3756).1.2.2) (mget ((rdD t2149 x3757 z_Row).South) [] l3755)), knestO (aggI ints_A8_Int) vB K3756 l3755, knestO (aggI ints_A8_Int) vB ([] : List (A8_Int × (HM × List (Option (List (A8_Int × Bool)))))) ([] : List (A8_Int × List (Option (List (A8_Int × Bool))))), rowR enc_Tile A_p0 c_p0 p0] [blk g3766 (.cells #[(.slice ((H2156 x3757.toNat 0).1) ((rdD t2149 x3757 z_Row).Cells).length ((H2156 x3757.toNat 0).2)), (iv (((rdD t2149 x3757 z_Row).South).e0)), (iv (((rdD t2149 x3757 z_Row).South).e1)), (iv (((rdD t2149 x3757 z_Row).South).e2)), (iv (((rdD t2149 x3757 z_Row).South).e3)), (iv (((rdD t2149 x3757 z_Row).South).e4)), (iv (((rdD t2149 x3757 z_Row).South).e5)), (iv (((rdD t2149 x3757 z_Row).South).e6)), (iv (((rdD t2149 x3757 z_Row).South).e7)), (iv (((rdD t2149 x3757 z_Row).North).e0)), (iv (((rdD t2149 x3757 z_Row).North).e1)), (iv (((rdD t2149 x3757 z_Row).North).e2)), (iv (((rdD t2149 x3757 z_Row).North).e3)), (iv (((rdD t2149 x3757 z_Row).North).e4)), (iv (((rdD t2149 x3757 z_Row).North).e5)), (iv (((rdD t2149 x3757 z_Row).North).e6)), (iv (((rdD t2149 x3757 z_Row).North).e7)), (iv ((rdD t2149 x3757 z_Row).West)), (iv ((rdD t2149 x3757 z_Row).East))] 85 (0, 0)), blk g1281 (.cells #[(iv 0), (iv 0), (.slice none 0 0)] 27 (0, 0)), rowO 85 encN_Row A2154 c2155 (tag H2156 t2149), poolO [nestO subN_Row H2156 t2149], blk g2157 (mapObj (aggI ints_A8_Int) slV K3756), blk g2161 (.cells #[(iv p1), (iv p2), (.slice none 0 0)] 27 (0, 0))] := hS3772.addR _ (knestO.maps (hS3772.rdL 1) ((rdD t2149 x3757 z_Row).South))
    refine seg 9 [] [2, 6, 8, 9, 10, 12, 13, 14, 26, 27, 28] [(2, (iv p2)), (6, (pt g1281)), (8, (.slice A2154 t2149.length c2155)), (9, (.map (some g2157))), (10, (pt g2161)), (12, (pt g3766)), (13, (.slice ((mget ((rdD t2149 x3757 z_Row).South) zHM K3756).1.1) (mget ((rdD t2149 x3757 z_Row).South) [] l3755).length ((mget ((rdD t2149 x3757 z_Row).South) zHM K3756).1.2.1))), (14, (.bool (mhas ((rdD t2149 x3757 z_Row).South) l3755))), (26, (.slice A2154 t2149.length c2155)), (27, (iv (t2149.length : Int))), (28, (iv x3757))] [] (fun fb => by kernel_rfl) rfl trivial ?_
    refine WL.done rfl ?_
    refine WX.next ?_
    refine WC.seq ?_
    refine WC.seq ?_
    refine WC.region ?_
    refine seg 2 [] [2, 6, 8, 9, 10, 12, 13, 26, 27, 28, 40] [(2, (iv p2)), (6, (pt g1281)), (8, (.slice A2154 t2149.length c2155)), (9, (.map (some g2157))), (10, (pt g2161)), (12, (pt g3766)), (13, (.slice ((mget ((rdD t2149 x3757 z_Row).South) zHM K3756).1.1) (mget ((rdD t2149 x3757 z_Row).South) [] l3755).length ((mget ((rdD t2149 x3757 z_Row).South) zHM K3756).1.2.1))), (26, (.slice A2154 t2149.length c2155)), (27, (iv (t2149.length : Int))), (28, (iv x3757)), (40, (.bool (!(mhas ((rdD t2149 x3757 z_Row).South) l3755))))] [] (fun fb => by kernel_rfl) rfl trivial ?_
    refine WL.done rfl ?_
    refine WX.next ?_
    obtain ⟨x3794, hx3795, hl3763⟩ := bind_some hl3763
    refine WC.cutN (T := ((List (A8_Int × List (Option (List (A8_Int × Bool))))) × (List (Option (List (A8_Int × Bool))))) × (List (A8_Int × (HM × List (Option (List (A8_Int × Bool)))))) × (Option Addr) × Nat × (Nat → Nat)) (fun t => [(2, (iv p2)), (6, (pt g1281)), (8, (.slice A2154 t2149.length c2155)), (9, (.map (some g2157))), (10, (pt g2161)), (12, (pt g3766)), (13, (.slice t.2.2.1 t.1.2.length t.2.2.2.1)), (26, (.slice A2154 t2149.length c2155)), (27, (iv (t2149.length : Int))), (28, (iv x3757))]) (fun t w1 => St NoS w w1 [knestO (aggI ints_A8_Int) vB t.2.1 t.1.1, rowR (encMap A8_Int Bool) t.2.2.1 t.2.2.2.1 (tag t.2.2.2.2 t.1.2), mapsO (aggI ints_A8_Int) vB t.2.2.2.2 t.1.2, mapsO (aggI ints_A8_Int) vB ((mget ((rdD t2149 x3757 z_Row).South) zHM K3756).1.2.2) (mget ((rdD t2149 x3757 z_Row).South) [] l3755), rowR (encMap A8_Int Bool) ((mget ((rdD t2149 x3757 z_Row).South) zHM K3756).1.1) ((mget ((rdD t2149 x3757 z_Row).South) zHM K3756).1.2.1) (tag ((mget ((rdD t2149 x3757 z_Row).South) zHM K3756).1.2.2) (mget ((rdD t2149 x3757 z_Row).South) [] l3755)), knestO (aggI ints_A8_Int) vB K3756 l3755, knestO (aggI ints_A8_Int) vB ([] : List (A8_Int × (HM × List (Option (List (A8_Int × Bool)))))) ([] : List (A8_Int × List (Option (List (A8_Int × Bool))))), rowR enc_Tile A_p0 c_p0 p0] [blk g1281 (.cells #[(iv 0), (iv 0), (.slice none 0 0)] 27 (0, 0)), rowO 85 encN_Row A2154 c2155 (tag H2156 t2149), poolO [nestO subN_Row H2156 t2149], blk g2157 (mapObj (aggI ints_A8_Int) slV t.2.1), blk g2161 (.cells #[(iv p1), (iv p2), (.slice none 0 0)] 27 (0, 0)), blk g3766 (.cells #[(.slice ((H2156 x3757.toNat 0).1) ((rdD t2149 x3757 z_Row).Cells).length ((H2156 x3757.toNat 0).2)), (iv (((rdD t2149 x3757 z_Row).South).e0)), (iv (((rdD t2149 x3757 z_Row).South).e1)), (iv (((rdD t2149 x3757 z_Row).South).e2)), (iv (((rdD t2149 x3757 z_Row).South).e3)), (iv (((rdD t2149 x3757 z_Row).South).e4)), (iv (((rdD t2149 x3757 z_Row).South).e5)), (iv (((rdD t2149 x3757 z_Row).South).e6)), (iv (((rdD t2149 x3757 z_Row).South).e7)), (iv (((rdD t2149 x3757 z_Row).North).e0)), (iv (((rdD t2149 x3757 z_Row).North).e1)), (iv (((rdD t2149 x3757 z_Row).North).e2)), (iv (((rdD t2149 x3757 z_Row).North).e3)), (iv (((rdD t2149 x3757 z_Row).North).e4)), (iv (((rdD t2149 x3757 z_Row).North).e5)), (iv (((rdD t2149 x3757 z_Row).North).e6)), (iv (((rdD t2149 x3757 z_Row).North).e7)), (iv ((rdD t2149 x3757 z_Row).West)), (iv ((rdD t2149 x3757 z_Row).East))] 85 (0, 0))] ∧ x3794 = t.1) (fun Kx3794 => ?_) ?_
    ·
     rcases br_some hx3795 with ⟨h3796, hx3795⟩ | ⟨h3796, hx3795⟩
     ·refine WC.condT2 (fun fb => by kernel_rfl) h3796 ?_
      refine WC.seq ?_
      refine WC.region ?_
      refine seg 5 [.v (iv (((rdD t2149 x3757 z_Row).South).e0)), .v (iv (((rdD t2149 x3757 z_Row).South).e1)), .v (iv (((rdD t2149 x3757 z_Row).South).e2)), .v (iv (((rdD t2149 x3757 z_Row).South).e3)), .v (iv (((rdD t2149 x3757 z_Row).South).e4)), .v (iv (((rdD t2149 x3757 z_Row).South).e5)), .v (iv (((rdD t2149 x3757 z_Row).South).e6)), .v (iv (((rdD t2149 x3757 z_Row).South).e7))] [2, 6, 8, 9, 10, 12, 26, 27, 28, 41, 43, 45] [(2, (iv p2)), (6, (pt g1281)), (8, (.slice A2154 t2149.length c2155)), (9, (.map (some g2157))), (10, (pt g2161)), (12, (pt g3766)), (26, (.slice A2154 t2149.length c2155)), (27, (iv (t2149.length : Int))), (28, (iv x3757)), (41, (.slice A2154 t2149.length c2155)), (43, (.agg #[(iv (((rdD t2149 x3757 z_Row).South).e0)), (iv (((rdD t2149 x3757 z_Row).South).e1)), (iv (((rdD t2149 x3757 z_Row).South).e2)), (iv (((rdD t2149 x3757 z_Row).South).e3)), (iv (((rdD t2149 x3757 z_Row).South).e4)), (iv (((rdD t2149 x3757 z_Row).South).e5)), (iv (((rdD t2149 x3757 z_Row).South).e6)), (iv (((rdD t2149 x3757 z_Row).South).e7))])), (45, (iv (w64 (p2 - 1))))] [.cell ⟨g3766, 1, none⟩ (iv (((rdD t2149 x3757 z_Row).South).e0)), .cell ⟨g3766, 2, none⟩ (iv (((rdD t2149 x3757 z_Row).South).e1)), .cell ⟨g3766, 3, none⟩ (iv (((rdD t2149 x3757 z_Row).South).e2)), .cell ⟨g3766, 4, none⟩ (iv (((rdD t2149 x3757 z_Row).South).e3)), .cell ⟨g3766, 5, none⟩ (iv (((rdD t2149 x3757 z_Row).South).e4)), .cell ⟨g3766, 6, none⟩ (iv (((rdD t2149 x3757 z_Row).South).e5)), .cell ⟨g3766, 7, none⟩ (iv (((rdD t2149 x3757 z_Row).South).e6)), .cell ⟨g3766, 8, none⟩ (iv (((rdD t2149 x3757 z_Row).South).e7))] (fun fb => by kernel_rfl) rfl ⟨hS3773.cell 0 rfl 1 rfl, hS3773.cell 0 rfl 2 rfl, hS3773.cell 0 rfl 3 rfl, hS3773.cell 0 rfl 4 rfl, hS3773.cell 0 rfl 5 rfl, hS3773.cell 0 rfl 6 rfl, hS3773.cell 0 rfl 7 rfl, hS3773.cell 0 rfl 8 rfl, trivial⟩ ?_
      obtain ⟨t3797, ht3798, hx3795⟩ := bind_some hx3795
      refine WL.call (some 46) 82 #[(.slice A2154 t2149.length c2155), (.agg #[(iv (((rdD t2149 x3757 z_Row).South).e0)), (iv (((rdD t2149 x3757 z_Row).South).e1)), (iv (((rdD t2149 x3757 z_Row).South).e2)), (iv (((rdD t2149 x3757 z_Row).South).e3)), (iv (((rdD t2149 x3757 z_Row).South).e4)), (iv (((rdD t2149 x3757 z_Row).South).e5)), (iv (((rdD t2149 x3757 z_Row).South).e6)), (iv (((rdD t2149 x3757 z_Row).South).e7))]), (iv (w64 (p2 - 1)))] (fun fb => by kernel_rfl) (torus_back_calls _ t2149 ((rdD t2149 x3757 z_Row).South) (w64 (p2 - 1)) A2154 c2155 H2156 t3797 _ (hS3773.ow 2).ofO (poolO.ro (hS3773.ow 3) 0) ht3798) (fun v w3799 hR3800 => ?_)
      obtain ⟨A3802, c3803, H3804, rfl, hk_⟩ := hR3800
      have hS3801 : St NoS w w3799 [mapsO (aggI ints_A8_Int) vB ((mget ((rdD t2149 x3757 z_Row).South) zHM K3756).1.2.2) (mget ((rdD t2149 x3757 z_Row).South) [] l3755), rowR (encMap A8_Int Bool) ((mget ((rdD t2149 x3757 z_Row).South) zHM K3756).1.1) ((mget ((rdD t2149 x3757 z_Row).South) zHM K3756).1.2.1) (tag ((mget ((rdD t2149 x3757 z_Row).South) zHM K3756).1.2.2) (mget ((rdD t2149 x3757 z_Row).South) [] l3755)), knestO (aggI ints_A8_Int) vB K3756 l3755, knestO (aggI ints_A8_Int) vB ([] : List (A8_Int × (HM × List (Option (List (A8_Int × Bool)))))) ([] : List (A8_Int × List (Option (List (A8_Int × Bool))))), rowR enc_Tile A_p0 c_p0 p0] [rowO 91 (encMap A8_Int Bool) A3802 c3803 (tag H3804 t3797), mapsO (aggI ints_A8_Int) vB H3804 t3797, blk g3766 (.cells #[(.slice ((H2156 x3757.toNat 0).1) ((rdD t2149 x3757 z_Row).Cells).length ((H2156 x3757.toNat 0).2)), (iv (((rdD t2149 x3757 z_Row).South).e0)), (iv (((rdD t2149 x3757 z_Row).South).e1)), (iv (((rdD t2149 x3757 z_Row).South).e2)), (iv (((rdD t2149 x3757 z_Row).South).e3)), (iv (((rdD t2149 x3757 z_Row).South).e4)), (iv (((rdD t2149 x3757 z_Row).South).e5)), (iv (((rdD t2149 x3757 z_Row).South).e6)), (iv (((rdD t2149 x3757 z_Row).South).e7)), (iv (((rdD t2149 x3757 z_Row).North).e0)), (iv (((rdD t2149 x3757 z_Row).North).e1)), (iv (((rdD t2149 x3757 z_Row).North).e2)), (iv (((rdD t2149 x3757 z_Row).North).e3)), (iv (((rdD t2149 x3757 z_Row).North).e4)), (iv (((rdD t2149 x3757 z_Row).North).e5)), (iv (((rdD t2149 x3757 z_Row).North).e6)), (iv (((rdD t2149 x3757 z_Row).North).e7)), (iv ((rdD t2149 x3757 z_Row).West)), (iv ((rdD t2149 x3757 z_Row).East))] 85 (0, 0)), blk g1281 (.cells #[(iv 0), (iv 0), (.slice none 0 0)] 27 (0, 0)), rowO 85 encN_Row A2154 c2155 (tag H2156 t2149), poolO [nestO subN_Row H2156 t2149], blk g2157 (mapObj (aggI ints_A8_Int) slV K3756), blk g2161 (.cells #[(iv p1), (iv p2), (.slice none 0 0)] 27 (0, 0))] := hS3773.call hk_ [] [0, 1, 2, 3, 4, 5] (fun g hg => hg.elim) (by simp) (by decide)
      refine ⟨trivial, ?_⟩
      refine seg 7 [] [2, 6, 8, 9, 10, 12, 13, 26, 27, 28] [(2, (iv p2)), (6, (pt g1281)), (8, (.slice A2154 t2149.length c2155)), (9, (.map (some g2157))), (10, (pt g2161)), (12, (pt g3766)), (13, (.slice A3802 t3797.length c3803)), (26, (.slice A2154 t2149.length c2155)), (27, (iv (t2149.length : Int))), (28, (iv x3757))] [] (fun fb => by kernel_rfl) rfl trivial ?_
      refine WL.done rfl ?_
      refine WX.next ?_
      refine WC.region ?_
      refine seg 4 [.v (iv (((rdD t2149 x3757 z_Row).South).e0)), .v (iv (((rdD t2149 x3757 z_Row).South).e1)), .v (iv (((rdD t2149 x3757 z_Row).South).e2)), .v (iv (((rdD t2149 x3757 z_Row).South).e3)), .v (iv (((rdD t2149 x3757 z_Row).South).e4)), .v (iv (((rdD t2149 x3757 z_Row).South).e5)), .v (iv (((rdD t2149 x3757 z_Row).South).e6)), .v (iv (((rdD t2149 x3757 z_Row).South).e7))] [2, 6, 8, 9, 10, 12, 13, 26, 27, 28, 47, 49, 50] [(2, (iv p2)), (6, (pt g1281)), (8, (.slice A2154 t2149.length c2155)), (9, (.map (some g2157))), (10, (pt g2161)), (12, (pt g3766)), (13, (.slice A3802 t3797.length c3803)), (26, (.slice A2154 t2149.length c2155)), (27, (iv (t2149.length : Int))), (28, (iv x3757)), (47, (.map (some g2157))), (49, (.agg #[(iv (((rdD t2149 x3757 z_Row).South).e0)), (iv (((rdD t2149 x3757 z_Row).South).e1)), (iv (((rdD t2149 x3757 z_Row).South).e2)), (iv (((rdD t2149 x3757 z_Row).South).e3)), (iv (((rdD t2149 x3757 z_Row).South).e4)), (iv (((rdD t2149 x3757 z_Row).South).e5)), (iv (((rdD t2149 x3757 z_Row).South).e6)), (iv (((rdD t2149 x3757 z_Row).South).e7))])), (50, (.slice A3802 t3797.length c3803))] [.cell ⟨g3766, 1, none⟩ (iv (((rdD t2149 x3757 z_Row).South).e0)), .cell ⟨g3766, 2, none⟩ (iv (((rdD t2149 x3757 z_Row).South).e1)), .cell ⟨g3766, 3, none⟩ (iv (((rdD t2149 x3757 z_Row).South).e2)), .cell ⟨g3766, 4, none⟩ (iv (((rdD t2149 x3757 z_Row).South).e3)), .cell ⟨g3766, 5, none⟩ (iv (((rdD t2149 x3757 z_Row).South).e4)), .cell ⟨g3766, 6, none⟩ (iv (((rdD t2149 x3757 z_Row).South).e5)), .cell ⟨g3766, 7, none⟩ (iv (((rdD t2149 x3757 z_Row).South).e6)), .cell ⟨g3766, 8, none⟩ (iv (((rdD t2149 x3757 z_Row).South).e7))] (fun fb => by kernel_rfl) rfl ⟨hS3801.cell 2 rfl 1 rfl, hS3801.cell 2 rfl 2 rfl, hS3801.cell 2 rfl 3 rfl, hS3801.cell 2 rfl 4 rfl, hS3801.cell 2 rfl 5 rfl, hS3801.cell 2 rfl 6 rfl, hS3801.cell 2 rfl 7 rfl, hS3801.cell 2 rfl 8 rfl, trivial⟩ ?_
      have hS3805 : St NoS w w3799 [mapsO (aggI ints_A8_Int) vB H3804 t3797, mapsO (aggI ints_A8_Int) vB ((mget ((rdD t2149 x3757 z_Row).South) zHM K3756).1.2.2) (mget ((rdD t2149 x3757 z_Row).South) [] l3755), rowR (encMap A8_Int Bool) ((mget ((rdD t2149 x3757 z_Row).South) zHM K3756).1.1) ((mget ((rdD t2149 x3757 z_Row).South) zHM K3756).1.2.1) (tag ((mget ((rdD t2149 x3757 z_Row).South) zHM K3756).1.2.2) (mget ((rdD t2149 x3757 z_Row).South) [] l3755)), knestO (aggI ints_A8_Int) vB K3756 l3755, knestO (aggI ints_A8_Int) vB ([] : List (A8_Int × (HM × List (Option (List (A8_Int × Bool)))))) ([] : List (A8_Int × List (Option (List (A8_Int × Bool))))), rowR enc_Tile A_p0 c_p0 p0] [rowO 91 (encMap A8_Int Bool) A3802 c3803 (tag H3804 t3797), blk g3766 (.cells #[(.slice ((H2156 x3757.toNat 0).1) ((rdD t2149 x3757 z_Row).Cells).length ((H2156 x3757.toNat 0).2)), (iv (((rdD t2149 x3757 z_Row).South).e0)), (iv (((rdD t2149 x3757 z_Row).South).e1)), (iv (((rdD t2149 x3757 z_Row).South).e2)), (iv (((rdD t2149 x3757 z_Row).South).e3)), (iv (((rdD t2149 x3757 z_Row).South).e4)), (iv (((rdD t2149 x3757 z_Row).South).e5)), (iv (((rdD t2149 x3757 z_Row).South).e6)), (iv (((rdD t2149 x3757 z_Row).South).e7)), (iv (((rdD t2149 x3757 z_Row).North).e0)), (iv (((rdD t2149 x3757 z_Row).North).e1)), (iv (((rdD t2149 x3757 z_Row).North).e2)), (iv (((rdD t2149 x3757 z_Row).North).e3)), (iv (((rdD t2149 x3757 z_Row).North).e4)), (iv (((rdD t2149 x3757 z_Row).North).e5)), (iv (((rdD t2149 x3757 z_Row).North).e6)), (iv (((rdD t2149 x3757 z_Row).North).e7)), (iv ((rdD t2149 x3757 z_Row).West)), (iv ((rdD t2149 x3757 z_Row).East))] 85 (0, 0)), blk g1281 (.cells #[(iv 0), (iv 0), (.slice none 0 0)] 27 (0, 0)), rowO 85 encN_Row A2154 c2155 (tag H2156 t2149), poolO [nestO subN_Row H2156 t2149], blk g2157 (mapObj (aggI ints_A8_Int) slV K3756), blk g2161 (.cells #[(iv p1), (iv p2), (.slice none 0 0)] 27 (0, 0))] := hS3801.freezeO 1 [0, 2, 3, 4, 5, 6, 7] (by decide) (by decide)
      have hS3806 : St NoS w w3799 [rowR (encMap A8_Int Bool) A3802 c3803 (tag H3804 t3797), mapsO (aggI ints_A8_Int) vB H3804 t3797, mapsO (aggI ints_A8_Int) vB ((mget ((rdD t2149 x3757 z_Row).South) zHM K3756).1.2.2) (mget ((rdD t2149 x3757 z_Row).South) [] l3755), rowR (encMap A8_Int Bool) ((mget ((rdD t2149 x3757 z_Row).South) zHM K3756).1.1) ((mget ((rdD t2149 x3757 z_Row).South) zHM K3756).1.2.1) (tag ((mget ((rdD t2149 x3757 z_Row).South) zHM K3756).1.2.2) (mget ((rdD t2149 x3757 z_Row).South) [] l3755)), knestO (aggI ints_A8_Int) vB K3756 l3755, knestO (aggI ints_A8_Int) vB ([] : List (A8_Int × (HM × List (Option (List (A8_Int × Bool)))))) ([] : List (A8_Int × List (Option (List (A8_Int × Bool))))), rowR enc_Tile A_p0 c_p0 p0] [blk g3766 (.cells #[(.slice ((H2156 x3757.toNat 0).1) ((rdD t2149 x3757 z_Row).Cells).length ((H2156 x3757.toNat 0).2)), (iv (((rdD t2149 x3757 z_Row).South).e0)), (iv (((rdD t2149 x3757 z_Row).South).e1)), (iv (((rdD t2149 x3757 z_Row).South).e2)), (iv (((rdD t2149 x3757 z_Row).South).e3)), (iv (((rdD t2149 x3757 z_Row).South).e4)), (iv (((rdD t2149 x3757 z_Row).South).e5)), (iv (((rdD t2149 x3757 z_Row).South).e6)), (iv (((rdD t2149 x3757 z_Row).South).e7)), (iv (((rdD t2149 x3757 z_Row).North).e0)), (iv (((rdD t2149 x3757 z_Row).North).e1)), (iv (((rdD t2149 x3757 z_Row).North).e2)), (iv (((rdD t2149 x3757 z_Row).North).e3)), (iv (((rdD t2149 x3757 z_Row).North).e4)), (iv (((rdD t2149 x3757 z_Row).North).e5)), (iv (((rdD t2149 x3757 z_Row).North).e6)), (iv (((rdD t2149 x3757 z_Row).North).e7)), (iv ((rdD t2149 x3757 z_Row).West)), (iv ((rdD t2149 x3757 z_Row).East))] 85 (0, 0)), blk g1281 (.cells #[(iv 0), (iv 0), (.slice none 0 0)] 27 (0, 0)), rowO 85 encN_Row A2154 c2155 (tag H2156 t2149), poolO [nestO subN_Row H2156 t2149], blk g2157 (mapObj (aggI ints_A8_Int) slV K3756), blk g2161 (.cells #[(iv p1), (iv p2), (.slice none 0 0)] 27 (0, 0))] := hS3805.freezeRow 0 rfl [1, 2, 3, 4, 5, 6] (by decide) (by decide)
      refine WL.mapput hS3806 4 (t := 117) (kT := 83) (eT := 90) (kE := (aggI ints_A8_Int)) (vE := slV) (l := K3756) rfl ((rdD t2149 x3757 z_Row).South) ((A3802, c3803, H3804), t3797) (fun fb => by kernel_rfl) torus_find_key83 (by kernel_rfl) [0, 1, 2, 3, 5] (by decide) (by decide) (fun w3807 hS3808 => ?_)
      have hS3809 : St NoS w w3807 [knestO (aggI ints_A8_Int) vB (mput ((rdD t2149 x3757 z_Row).South) ((A3802, c3803, H3804), t3797) K3756) (mput ((rdD t2149 x3757 z_Row).South) t3797 l3755), rowR (encMap A8_Int Bool) A3802 c3803 (tag H3804 t3797), mapsO (aggI ints_A8_Int) vB H3804 t3797, mapsO (aggI ints_A8_Int) vB ((mget ((rdD t2149 x3757 z_Row).South) zHM K3756).1.2.2) (mget ((rdD t2149 x3757 z_Row).South) [] l3755), rowR (encMap A8_Int Bool) ((mget ((rdD t2149 x3757 z_Row).South) zHM K3756).1.1) ((mget ((rdD t2149 x3757 z_Row).South) zHM K3756).1.2.1) (tag ((mget ((rdD t2149 x3757 z_Row).South) zHM K3756).1.2.2) (mget ((rdD t2149 x3757 z_Row).South) [] l3755)), knestO (aggI ints_A8_Int) vB K3756 l3755, knestO (aggI ints_A8_Int) vB ([] : List (A8_Int × (HM × List (Option (List (A8_Int × Bool)))))) ([] : List (A8_Int × List (Option (List (A8_Int × Bool))))), rowR enc_Tile A_p0 c_p0 p0] [blk g2157 (mapObj (aggI ints_A8_Int) slV (mput ((rdD t2149 x3757 z_Row).South) ((A3802, c3803, H3804), t3797) K3756)), blk g3766 (.cells #[(.slice ((H2156 x3757.toNat 0).1) ((rdD t2149 x3757 z_Row).Cells).length ((H2156 x3757.toNat 0).2)), (iv (((rdD t2149 x3757 z_Row).South).e0)), (iv (((rdD t2149 x3757 z_Row).South).e1)), (iv (((rdD t2149 x3757 z_Row).South).e2)), (iv (((rdD t2149 x3757 z_Row).South).e3)), (iv (((rdD t2149 x3757 z_Row).South).e4)), (iv (((rdD t2149 x3757 z_Row).South).e5)), (iv (((rdD t2149 x3757 z_Row).South).e6)), (iv (((rdD t2149 x3757 z_Row).South).e7)), (iv (((rdD t2149 x3757 z_Row).North).e0)), (iv (((rdD t2149 x3757 z_Row).North).e1)), (iv (((rdD t2149 x3757 z_Row).North).e2)), (iv (((rdD t2149 x3757 z_Row).North).e3)), (iv (((rdD t2149 x3757 z_Row).North).e4)), (iv (((rdD t2149 x3757 z_Row).North).e5)), (iv (((rdD t2149 x3757 z_Row).North).e6)), (iv (((rdD t2149 x3757 z_Row).North).e7)), (iv ((rdD t2149 x3757 z_Row).West)), (iv ((rdD t2149 x3757 z_Row).East))] 85 (0, 0)), blk g1281 (.cells #[(iv 0), (iv 0), (.slice none 0 0)] 27 (0, 0)), rowO 85 encN_Row A2154 c2155 (tag H2156 t2149), poolO [nestO subN_Row H2156 t2149], blk g2161 (.cells #[(iv p1), (iv p2), (.slice none 0 0)] 27 (0, 0))] := hS3808.addR _ (knestO.put (hS3808.rdL 4) ((rdD t2149 x3757 z_Row).South) (hS3808.rdL 0) (hS3808.rdL 1))
      refine ⟨trivial, ?_⟩
      refine WL.done rfl ?_
      injection hx3795 with hx3795
      exact WX.to Kx3794 ((mput ((rdD t2149 x3757 z_Row).South) t3797 l3755, t3797), mput ((rdD t2149 x3757 z_Row).South) ((A3802, c3803, H3804), t3797) K3756, A3802, c3803, H3804) [2, 6, 8, 9, 10, 12, 13, 26, 27, 28] rfl ⟨(hS3809.subR [0, 1, 2, 3, 4, 5, 6, 7]).sub [2, 3, 4, 0, 5, 1] (by decide), hx3795.symm⟩
     refine WC.condF2 (fun fb => by kernel_rfl) h3796 ?_
     refine WC.skip ?_
     injection hx3795 with hx3795
     exact WX.to Kx3794 ((l3755, (mget ((rdD t2149 x3757 z_Row).South) [] l3755)), K3756, (mget ((rdD t2149 x3757 z_Row).South) zHM K3756).1.1, (mget ((rdD t2149 x3757 z_Row).South) zHM K3756).1.2.1, ((mget ((rdD t2149 x3757 z_Row).South) zHM K3756).1.2.2)) [2, 6, 8, 9, 10, 12, 13, 26, 27, 28] rfl ⟨(hS3773.subR [2, 1, 0, 0, 1, 2, 3, 4]).sub [1, 2, 3, 4, 5, 0] (by decide), hx3795.symm⟩
    rintro ⟨y3813, K3789, A3790, c3791, H3793⟩ w3810 ⟨hS3811, hq3812⟩
    subst hq3812
    refine WX.next ?_
    refine WC.seq ?_
    refine WC.seq ?_
    obtain ⟨h3822, hl3763⟩ := as_some hl3763
    obtain ⟨m3823, hm3824, hl3763⟩ := bind_some hl3763
    refine WC.regionD ([(4, ((adr A3790).add ((w64 (p2 - 1)).toNat * 1)), (.map (some (H3793 (w64 (p2 - 1)).toNat)))), (6, ⟨g3766, 9, none⟩, (iv (((rdD t2149 x3757 z_Row).North).e0))), (6, ⟨g3766, 10, none⟩, (iv (((rdD t2149 x3757 z_Row).North).e1))), (6, ⟨g3766, 11, none⟩, (iv (((rdD t2149 x3757 z_Row).North).e2))), (6, ⟨g3766, 12, none⟩, (iv (((rdD t2149 x3757 z_Row).North).e3))), (6, ⟨g3766, 13, none⟩, (iv (((rdD t2149 x3757 z_Row).North).e4))), (6, ⟨g3766, 14, none⟩, (iv (((rdD t2149 x3757 z_Row).North).e5))), (6, ⟨g3766, 15, none⟩, (iv (((rdD t2149 x3757 z_Row).North).e6))), (6, ⟨g3766, 16, none⟩, (iv (((rdD t2149 x3757 z_Row).North).e7)))], [0, 1, 2, 3, 4, 5, 6, 8], [[], [], [1], [0, 1, 2], [0, 1, 2, 3], [], [5], [0, 1, 2, 3, 4, 5, 6], [0, 1, 2, 3, 4, 5, 6, 7]]) [[0, 1, 2, 3, 4, 5, 6, 7, 8]] (by kernel_rfl) (by kernel_rfl) (NoPanic.seq (NoPanic.seq (NoPanic.block (NoPanic.seq (NoPanic.seq (NoPanic.block (NoPanic.seq (NoPanic.scope (NoPanic.body))))))))) ?_
    have hS3818 := hS3811.drew
    revert hS3818
    generalize World.drew w3810 = w3817
    intro hS3818
    refine ⟨⟨nrow_cell (hS3818.rd 1).1 none h3822.1 h3822.2 0 (mapV_some hm3824), hS3818.cell 5 rfl 9 rfl, hS3818.cell 5 rfl 10 rfl, hS3818.cell 5 rfl 11 rfl, hS3818.cell 5 rfl 12 rfl, hS3818.cell 5 rfl 13 rfl, hS3818.cell 5 rfl 14 rfl, hS3818.cell 5 rfl 15 rfl, hS3818.cell 5 rfl 16 rfl, trivial⟩, forallC ?_ (forallN)⟩
    refine segF 7 [.v (.map (some (H3793 (w64 (p2 - 1)).toNat))), .v (iv (((rdD t2149 x3757 z_Row).North).e0)), .v (iv (((rdD t2149 x3757 z_Row).North).e1)), .v (iv (((rdD t2149 x3757 z_Row).North).e2)), .v (iv (((rdD t2149 x3757 z_Row).North).e3)), .v (iv (((rdD t2149 x3757 z_Row).North).e4)), .v (iv (((rdD t2149 x3757 z_Row).North).e5)), .v (iv (((rdD t2149 x3757 z_Row).North).e6)), .v (iv (((rdD t2149 x3757 z_Row).North).e7))] [2, 6, 8, 9, 10, 12, 13, 26, 27, 28, 55, 57] [(2, (iv p2)), (6, (pt g1281)), (8, (.slice A2154 t2149.length c2155)), (9, (.map (some g2157))), (10, (pt g2161)), (12, (pt g3766)), (13, (.slice A3790 x3794.2.length c3791)), (26, (.slice A2154 t2149.length c2155)), (27, (iv (t2149.length : Int))), (28, (iv x3757)), (55, (.map (some (H3793 (w64 (p2 - 1)).toNat)))), (57, (.agg #[(iv (((rdD t2149 x3757 z_Row).North).e0)), (iv (((rdD t2149 x3757 z_Row).North).e1)), (iv (((rdD t2149 x3757 z_Row).North).e2)), (iv (((rdD t2149 x3757 z_Row).North).e3)), (iv (((rdD t2149 x3757 z_Row).North).e4)), (iv (((rdD t2149 x3757 z_Row).North).e5)), (iv (((rdD t2149 x3757 z_Row).North).e6)), (iv (((rdD t2149 x3757 z_Row).North).e7))]))] [.idx A3790 (w64 (p2 - 1)) x3794.2.length] [0, 1, 2, 3, 4, 5, 6, 7, 8] [(4, ((adr A3790).add ((w64 (p2 - 1)).toNat * 1)), (.map (some (H3793 (w64 (p2 - 1)).toNat)))), (6, ⟨g3766, 9, none⟩, (iv (((rdD t2149 x3757 z_Row).North).e0))), (6, ⟨g3766, 10, none⟩, (iv (((rdD t2149 x3757 z_Row).North).e1))), (6, ⟨g3766, 11, none⟩, (iv (((rdD t2149 x3757 z_Row).North).e2))), (6, ⟨g3766, 12, none⟩, (iv (((rdD t2149 x3757 z_Row).North).e3))), (6, ⟨g3766, 13, none⟩, (iv (((rdD t2149 x3757 z_Row).North).e4))), (6, ⟨g3766, 14, none⟩, (iv (((rdD t2149 x3757 z_Row).North).e5))), (6, ⟨g3766, 15, none⟩, (iv (((rdD t2149 x3757 z_Row).North).e6))), (6, ⟨g3766, 16, none⟩, (iv (((rdD t2149 x3757 z_Row).North).e7)))] (fun fb => by kernel_rfl) rfl ⟨nrow_adr (hS3818.rd 1).1 h3822.1 h3822.2, trivial⟩ rfl ?_
    refine WL.lookup (mapsO.at (hS3818.rd 2).1 h3822.1 h3822.2 hm3824) ((rdD t2149 x3757 z_Row).North) (d := 58) (c := false) (t := 91) (kT := 83) (eT := 4) (z := false) (kE := (aggI ints_A8_Int)) (vE := vB) (l := m3823) (.bool (mget ((rdD t2149 x3757 z_Row).North) false m3823)) (fun fb => by kernel_rfl) torus_find_key83 (by kernel_rfl) (fun _ => by kernel_rfl) rfl ?_
    refine ⟨trivial, ?_⟩
    refine seg 9 [] [2, 6, 8, 9, 10, 12, 13, 26, 27, 28, 59] [(2, (iv p2)), (6, (pt g1281)), (8, (.slice A2154 t2149.length c2155)), (9, (.map (some g2157))), (10, (pt g2161)), (12, (pt g3766)), (13, (.slice A3790 x3794.2.length c3791)), (26, (.slice A2154 t2149.length c2155)), (27, (iv (t2149.length : Int))), (28, (iv x3757)), (59, (.bool (!(mget ((rdD t2149 x3757 z_Row).North) false m3823))))] [] (fun fb => by kernel_rfl) rfl trivial ?_
    refine WL.done rfl ?_
    refine WX.next ?_
    rcases br_some hl3763 with ⟨h3825, hl3763⟩ | ⟨h3825, hl3763⟩
    ·refine WC.condT2 (fun fb => by kernel_rfl) h3825 ?_
     refine WC.exit ?_
     refine WX.thenX (WX.blockHere (WX.next ?_))
     refine WC.region ?_
     refine seg 2 [] [2, 6, 8, 9, 10, 26, 27, 28] [(2, (iv p2)), (6, (pt g1281)), (8, (.slice A2154 t2149.length c2155)), (9, (.map (some g2157))), (10, (pt g2161)), (26, (.slice A2154 t2149.length c2155)), (27, (iv (t2149.length : Int))), (28, (iv (w64 (x3757 + 1))))] [] (fun fb => by kernel_rfl) rfl trivial ?_
     refine WL.done rfl ?_
     exact WX.again k3760 (Nat.lt_succ_self _) ((x3794.1, w64 (x3757 + 1)), K3789) [2, 6, 8, 9, 10, 26, 27, 28] rfl ⟨(hS3818.subR [0, 6, 7]).sub [0, 1, 2, 3, 4] (by decide), hl3763⟩
    refine WC.condF2 (fun fb => by kernel_rfl) h3825 ?_
    refine WC.skip ?_
    refine WX.next ?_
    refine WC.seq ?_
    refine WC.region ?_
    refine seg 4 [.v (.slice none 0 0), .v (.slice ((H2156 x3757.toNat 0).1) ((rdD t2149 x3757 z_Row).Cells).length ((H2156 x3757.toNat 0).2))] [2, 6, 8, 10, 12, 13, 61, 63] [(2, (iv p2)), (6, (pt g1281)), (8, (.slice A2154 t2149.length c2155)), (10, (pt g2161)), (12, (pt g3766)), (13, (.slice A3790 x3794.2.length c3791)), (61, (.slice none 0 0)), (63, (.slice ((H2156 x3757.toNat 0).1) ((rdD t2149 x3757 z_Row).Cells).length ((H2156 x3757.toNat 0).2)))] [.cell ⟨g2161, 2, none⟩ (.slice none 0 0), .cell ⟨g3766, 0, none⟩ (.slice ((H2156 x3757.toNat 0).1) ((rdD t2149 x3757 z_Row).Cells).length ((H2156 x3757.toNat 0).2))] (fun fb => by kernel_rfl) rfl ⟨hS3818.cell 4 rfl 2 rfl, hS3818.cell 5 rfl 0 rfl, trivial⟩ ?_
    have hS3826 := hS3818.nilrow 3 encInt
    obtain ⟨h3827, hl3763⟩ := as_some hl3763
    refine WL.append hS3826 0 (d := 64) (tS := 25) (z := (iv 0)) (bytes := 8) (c2 := (H2156 x3757.toNat 0).2) rfl (fun fb => by kernel_rfl) (nestO.at ((hS3826.own 3).1 0) z_Row h3765.1 h3765.2) (by kernel_rfl) (by kernel_rfl) rfl (by decide) h3827 (by decide) [1, 2, 3, 4, 5, 6] (by decide) (by decide) (fun A3828 c3829 w3830 hS3831 => ?_)
    refine ⟨trivial, ?_⟩
    refine seg 6 [] [2, 6, 8, 10, 12, 13, 64, 65] [(2, (iv p2)), (6, (pt g1281)), (8, (.slice A2154 t2149.length c2155)), (10, (pt g2161)), (12, (pt g3766)), (13, (.slice A3790 x3794.2.length c3791)), (64, (.slice A3828 (([] : List Int) ++ ((rdD t2149 x3757 z_Row).Cells)).length c3829)), (65, (.pointer (some ⟨g2161, 2, none⟩)))] [] (fun fb => by kernel_rfl) rfl trivial ?_
    refine WL.store hS3831 5 rfl [(2, (.slice A3828 (([] : List Int) ++ ((rdD t2149 x3757 z_Row).Cells)).length c3829))] #[(iv p1), (iv p2), (.slice A3828 (([] : List Int) ++ ((rdD t2149 x3757 z_Row).Cells)).length c3829)] (fun fb => by kernel_rfl) (by kernel_rfl) rfl [0, 1, 2, 3, 4, 6] (by decide) (by decide) (fun w3832 hS3833 => ?_)
    refine ⟨trivial, ?_⟩
    refine WL.done rfl ?_
    refine WX.next ?_
    refine WC.seq ?_
    refine WC.region ?_
    refine seg 2 [.v (iv (((rdD t2149 x3757 z_Row).North).e0)), .v (iv (((rdD t2149 x3757 z_Row).North).e1)), .v (iv (((rdD t2149 x3757 z_Row).North).e2)), .v (iv (((rdD t2149 x3757 z_Row).North).e3)), .v (iv (((rdD t2149 x3757 z_Row).North).e4)), .v (iv (((rdD t2149 x3757 z_Row).North).e5)), .v (iv (((rdD t2149 x3757 z_Row).North).e6)), .v (iv (((rdD t2149 x3757 z_Row).North).e7))] [2, 6, 8, 10, 13, 67] [(2, (iv p2)), (6, (pt g1281)), (8, (.slice A2154 t2149.length c2155)), (10, (pt g2161)), (13, (.slice A3790 x3794.2.length c3791)), (67, (.agg #[(iv (((rdD t2149 x3757 z_Row).North).e0)), (iv (((rdD t2149 x3757 z_Row).North).e1)), (iv (((rdD t2149 x3757 z_Row).North).e2)), (iv (((rdD t2149 x3757 z_Row).North).e3)), (iv (((rdD t2149 x3757 z_Row).North).e4)), (iv (((rdD t2149 x3757 z_Row).North).e5)), (iv (((rdD t2149 x3757 z_Row).North).e6)), (iv (((rdD t2149 x3757 z_Row).North).e7))]))] [.cell ⟨g3766, 9, none⟩ (iv (((rdD t2149 x3757 z_Row).North).e0)), .cell ⟨g3766, 10, none⟩ (iv (((rdD t2149 x3757 z_Row).North).e1)), .cell ⟨g3766, 11, none⟩ (iv (((rdD t2149 x3757 z_Row).North).e2)), .cell ⟨g3766, 12, none⟩ (iv (((rdD t2149 x3757 z_Row).North).e3)), .cell ⟨g3766, 13, none⟩ (iv (((rdD t2149 x3757 z_Row).North).e4)), .cell ⟨g3766, 14, none⟩ (iv (((rdD t2149 x3757 z_Row).North).e5)), .cell ⟨g3766, 15, none⟩ (iv (((rdD t2149 x3757 z_Row).North).e6)), .cell ⟨g3766, 16, none⟩ (iv (((rdD t2149 x3757 z_Row).North).e7))] (fun fb => by kernel_rfl) rfl ⟨hS3833.cell 6 rfl 9 rfl, hS3833.cell 6 rfl 10 rfl, hS3833.cell 6 rfl 11 rfl, hS3833.cell 6 rfl 12 rfl, hS3833.cell 6 rfl 13 rfl, hS3833.cell 6 rfl 14 rfl, hS3833.cell 6 rfl 15 rfl, hS3833.cell 6 rfl 16 rfl, trivial⟩ ?_
    refine WL.new hS3833 15 [] (fun g => (.pointer (some ⟨g, 0, none⟩))) (.cells #[(iv 0), (iv 0), (iv 0), (iv 0), (iv 0), (iv 0), (iv 0), (iv 0)] 83 (0, 0)) [] (fun fb g => by kernel_rfl) trivial (fun g3834 w3835 hS3836 => ?_)
    refine ⟨trivial, ?_⟩
    refine WL.store hS3836 0 rfl [(0, (iv (((rdD t2149 x3757 z_Row).North).e0))), (1, (iv (((rdD t2149 x3757 z_Row).North).e1))), (2, (iv (((rdD t2149 x3757 z_Row).North).e2))), (3, (iv (((rdD t2149 x3757 z_Row).North).e3))), (4, (iv (((rdD t2149 x3757 z_Row).North).e4))), (5, (iv (((rdD t2149 x3757 z_Row).North).e5))), (6, (iv (((rdD t2149 x3757 z_Row).North).e6))), (7, (iv (((rdD t2149 x3757 z_Row).North).e7)))] #[(iv (((rdD t2149 x3757 z_Row).North).e0)), (iv (((rdD t2149 x3757 z_Row).North).e1)), (iv (((rdD t2149 x3757 z_Row).North).e2)), (iv (((rdD t2149 x3757 z_Row).North).e3)), (iv (((rdD t2149 x3757 z_Row).North).e4)), (iv (((rdD t2149 x3757 z_Row).North).e5)), (iv (((rdD t2149 x3757 z_Row).North).e6)), (iv (((rdD t2149 x3757 z_Row).North).e7))] (fun fb => by kernel_rfl) (by kernel_rfl) rfl [1, 2, 3, 4, 5, 6, 7] (by decide) (by decide) (fun w3838 hS3839 => ?_)
    refine ⟨trivial, ?_⟩
    refine WL.done rfl ?_
    refine WX.next ?_
    refine WC.seq ?_
    refine WC.seq ?_
    refine WC.region ?_
    refine seg 3 [] [6, 8, 10, 13, 15, 16] [(6, (pt g1281)), (8, (.slice A2154 t2149.length c2155)), (10, (pt g2161)), (13, (.slice A3790 x3794.2.length c3791)), (15, (pt g3834)), (16, (iv (w64 (p2 - 2))))] [] (fun fb => by kernel_rfl) rfl trivial ?_
    refine WL.done rfl ?_
    refine WX.next ?_
    obtain ⟨x4205, hx4206, hl3763⟩ := bind_some hl3763
    refine WC.cutN (T := (List Int) × (Option Addr) × Nat) (fun t => [(6, (pt g1281)), (10, (pt g2161))]) (fun t w1 => St NoS w w1 [knestO (aggI ints_A8_Int) vB K3789 x3794.1, rowR (encMap A8_Int Bool) A3790 c3791 (tag H3793 x3794.2), mapsO (aggI ints_A8_Int) vB H3793 x3794.2, mapsO (aggI ints_A8_Int) vB ((mget ((rdD t2149 x3757 z_Row).South) zHM K3756).1.2.2) (mget ((rdD t2149 x3757 z_Row).South) [] l3755), rowR (encMap A8_Int Bool) ((mget ((rdD t2149 x3757 z_Row).South) zHM K3756).1.1) ((mget ((rdD t2149 x3757 z_Row).South) zHM K3756).1.2.1) (tag ((mget ((rdD t2149 x3757 z_Row).South) zHM K3756).1.2.2) (mget ((rdD t2149 x3757 z_Row).South) [] l3755)), knestO (aggI ints_A8_Int) vB K3756 l3755, knestO (aggI ints_A8_Int) vB ([] : List (A8_Int × (HM × List (Option (List (A8_Int × Bool)))))) ([] : List (A8_Int × List (Option (List (A8_Int × Bool))))), rowR enc_Tile A_p0 c_p0 p0] [blk g1281 (.cells #[(iv 0), (iv 0), (.slice none 0 0)] 27 (0, 0)), blk g2161 (.cells #[(iv p1), (iv p2), (.slice t.2.1 t.1.length t.2.2)] 27 (0, 0)), rowO 3 encInt t.2.1 t.2.2 t.1] ∧ x4205 = t.1) (fun Kx4205 => ?_) ?_
    ·
     refine WC.block ?_
     refine WC.loop (T := ((List Int) × A8_Int × Int) × (Option Addr) × Nat) (fun t => [(6, (pt g1281)), (8, (.slice A2154 t2149.length c2155)), (10, (pt g2161)), (13, (.slice A3790 x3794.2.length c3791)), (15, (pt g3834)), (16, (iv t.1.2.2))]) (fun n t w1 => St NoS w w1 [knestO (aggI ints_A8_Int) vB K3789 x3794.1, rowR (encMap A8_Int Bool) A3790 c3791 (tag H3793 x3794.2), mapsO (aggI ints_A8_Int) vB H3793 x3794.2, mapsO (aggI ints_A8_Int) vB ((mget ((rdD t2149 x3757 z_Row).South) zHM K3756).1.2.2) (mget ((rdD t2149 x3757 z_Row).South) [] l3755), rowR (encMap A8_Int Bool) ((mget ((rdD t2149 x3757 z_Row).South) zHM K3756).1.1) ((mget ((rdD t2149 x3757 z_Row).South) zHM K3756).1.2.1) (tag ((mget ((rdD t2149 x3757 z_Row).South) zHM K3756).1.2.2) (mget ((rdD t2149 x3757 z_Row).South) [] l3755)), knestO (aggI ints_A8_Int) vB K3756 l3755, knestO (aggI ints_A8_Int) vB ([] : List (A8_Int × (HM × List (Option (List (A8_Int × Bool)))))) ([] : List (A8_Int × List (Option (List (A8_Int × Bool))))), rowR enc_Tile A_p0 c_p0 p0] [blk g1281 (.cells #[(iv 0), (iv 0), (.slice none 0 0)] 27 (0, 0)), rowO 85 encN_Row A2154 c2155 (tag H2156 t2149), poolO [nestO subN_Row H2156 t2149], blk g2161 (.cells #[(iv p1), (iv p2), (.slice t.2.1 t.1.1.length t.2.2)] 27 (0, 0)), rowO 3 encInt t.2.1 t.2.2 t.1.1, blk g3834 (.cells #[(iv t.1.2.1.e0), (iv t.1.2.1.e1), (iv t.1.2.1.e2), (iv t.1.2.1.e3), (iv t.1.2.1.e4), (iv t.1.2.1.e5), (iv t.1.2.1.e6), (iv t.1.2.1.e7)] 83 (0, 0))] ∧ torus_find.l1 n t.1.1 t.1.2.1 t.1.2.2 t2149 x3794 = some x4205) k3760 ((([] : List Int) ++ ((rdD t2149 x3757 z_Row).Cells), ((rdD t2149 x3757 z_Row).North), w64 (p2 - 2)), A3828, c3829) [6, 8, 10, 13, 15, 16] rfl ⟨(hS3839.subR [0, 1, 2, 3, 4, 5, 6, 7]).sub [3, 4, 5, 1, 2, 0] (by decide), hx4206⟩ ?_
     rintro k4207 ⟨⟨l4199, a4200, x4201⟩, A4197, c4198⟩ w4208 ⟨hS4209, hl4210⟩
     cases k4207 with
     | zero => rw [torus_find.l1] at hl4210; cases hl4210
     | succ k4207 =>
      rw [torus_find.l1] at hl4210
      refine WC.seq ?_
      refine WC.seq ?_
      refine WC.region ?_
      refine seg 2 [] [6, 8, 10, 13, 15, 16, 71] [(6, (pt g1281)), (8, (.slice A2154 t2149.length c2155)), (10, (pt g2161)), (13, (.slice A3790 x3794.2.length c3791)), (15, (pt g3834)), (16, (iv x4201)), (71, (.bool (decide (x4201 ≥ 0))))] [] (fun fb => by kernel_rfl) rfl trivial ?_
      refine WL.done rfl ?_
      refine WX.next ?_
      rcases br_some hl4210 with ⟨h4211, hl4210⟩ | ⟨h4211, hl4210⟩
      ·refine WC.condT2 (fun fb => by kernel_rfl) h4211 ?_
       refine WC.skip ?_
       refine WX.next ?_
       refine WC.seq ?_
       refine WC.block ?_
       refine WC.scope ?_
       refine WC.seq ?_
       refine WC.label ?_
       refine WX.next ?_
       refine WC.seq ?_
       refine WC.region ?_
       refine seg 3 [] [6, 8, 10, 13, 15, 16, 74, 75, 76] [(6, (pt g1281)), (8, (.slice A2154 t2149.length c2155)), (10, (pt g2161)), (13, (.slice A3790 x3794.2.length c3791)), (15, (pt g3834)), (16, (iv x4201)), (74, (.slice A2154 t2149.length c2155)), (75, (iv (t2149.length : Int))), (76, (iv 0))] [] (fun fb => by kernel_rfl) rfl trivial ?_
       refine WL.done rfl ?_
       refine WX.next ?_
       obtain ⟨x4324, hx4325, hl4210⟩ := bind_some hl4210
       refine WC.cutN (T := ((List Int) × A8_Int) × (Option Addr) × Nat) (fun t => [(6, (pt g1281)), (8, (.slice A2154 t2149.length c2155)), (10, (pt g2161)), (13, (.slice A3790 x3794.2.length c3791)), (15, (pt g3834)), (16, (iv x4201))]) (fun t w1 => St NoS w w1 [knestO (aggI ints_A8_Int) vB K3789 x3794.1, rowR (encMap A8_Int Bool) A3790 c3791 (tag H3793 x3794.2), mapsO (aggI ints_A8_Int) vB H3793 x3794.2, mapsO (aggI ints_A8_Int) vB ((mget ((rdD t2149 x3757 z_Row).South) zHM K3756).1.2.2) (mget ((rdD t2149 x3757 z_Row).South) [] l3755), rowR (encMap A8_Int Bool) ((mget ((rdD t2149 x3757 z_Row).South) zHM K3756).1.1) ((mget ((rdD t2149 x3757 z_Row).South) zHM K3756).1.2.1) (tag ((mget ((rdD t2149 x3757 z_Row).South) zHM K3756).1.2.2) (mget ((rdD t2149 x3757 z_Row).South) [] l3755)), knestO (aggI ints_A8_Int) vB K3756 l3755, knestO (aggI ints_A8_Int) vB ([] : List (A8_Int × (HM × List (Option (List (A8_Int × Bool)))))) ([] : List (A8_Int × List (Option (List (A8_Int × Bool))))), rowR enc_Tile A_p0 c_p0 p0] [blk g1281 (.cells #[(iv 0), (iv 0), (.slice none 0 0)] 27 (0, 0)), rowO 85 encN_Row A2154 c2155 (tag H2156 t2149), poolO [nestO subN_Row H2156 t2149], blk g2161 (.cells #[(iv p1), (iv p2), (.slice t.2.1 t.1.1.length t.2.2)] 27 (0, 0)), rowO 3 encInt t.2.1 t.2.2 t.1.1, blk g3834 (.cells #[(iv t.1.2.e0), (iv t.1.2.e1), (iv t.1.2.e2), (iv t.1.2.e3), (iv t.1.2.e4), (iv t.1.2.e5), (iv t.1.2.e6), (iv t.1.2.e7)] 83 (0, 0))] ∧ x4324 = t.1) (fun Kx4324 => ?_) ?_
       ·
        refine WC.block ?_
        refine WC.loop (T := Int) (fun t => [(6, (pt g1281)), (8, (.slice A2154 t2149.length c2155)), (10, (pt g2161)), (13, (.slice A3790 x3794.2.length c3791)), (15, (pt g3834)), (16, (iv x4201)), (74, (.slice A2154 t2149.length c2155)), (75, (iv (t2149.length : Int))), (76, (iv t))]) (fun n t w1 => St NoS w w1 [knestO (aggI ints_A8_Int) vB K3789 x3794.1, rowR (encMap A8_Int Bool) A3790 c3791 (tag H3793 x3794.2), mapsO (aggI ints_A8_Int) vB H3793 x3794.2, mapsO (aggI ints_A8_Int) vB ((mget ((rdD t2149 x3757 z_Row).South) zHM K3756).1.2.2) (mget ((rdD t2149 x3757 z_Row).South) [] l3755), rowR (encMap A8_Int Bool) ((mget ((rdD t2149 x3757 z_Row).South) zHM K3756).1.1) ((mget ((rdD t2149 x3757 z_Row).South) zHM K3756).1.2.1) (tag ((mget ((rdD t2149 x3757 z_Row).South) zHM K3756).1.2.2) (mget ((rdD t2149 x3757 z_Row).South) [] l3755)), knestO (aggI ints_A8_Int) vB K3756 l3755, knestO (aggI ints_A8_Int) vB ([] : List (A8_Int × (HM × List (Option (List (A8_Int × Bool)))))) ([] : List (A8_Int × List (Option (List (A8_Int × Bool))))), rowR enc_Tile A_p0 c_p0 p0] [blk g1281 (.cells #[(iv 0), (iv 0), (.slice none 0 0)] 27 (0, 0)), rowO 85 encN_Row A2154 c2155 (tag H2156 t2149), poolO [nestO subN_Row H2156 t2149], blk g2161 (.cells #[(iv p1), (iv p2), (.slice A4197 l4199.length c4198)] 27 (0, 0)), rowO 3 encInt A4197 c4198 l4199, blk g3834 (.cells #[(iv a4200.e0), (iv a4200.e1), (iv a4200.e2), (iv a4200.e3), (iv a4200.e4), (iv a4200.e5), (iv a4200.e6), (iv a4200.e7)] 83 (0, 0))] ∧ torus_find.l2 n t t2149 x3794 l4199 a4200 x4201 = some x4324) k4207 0 [6, 8, 10, 13, 15, 16, 74, 75, 76] rfl ⟨(hS4209.subR [0, 1, 2, 3, 4, 5, 6, 7]).sub [0, 1, 2, 3, 4, 5] (by decide), hx4325⟩ ?_
        rintro k4326 x4319 w4327 ⟨hS4328, hl4329⟩
        cases k4326 with
        | zero => rw [torus_find.l2] at hl4329; cases hl4329
        | succ k4326 =>
         rw [torus_find.l2] at hl4329
         refine WC.seq ?_
         refine WC.region ?_
         refine seg 1 [] [6, 8, 10, 13, 15, 16, 74, 75, 76, 77] [(6, (pt g1281)), (8, (.slice A2154 t2149.length c2155)), (10, (pt g2161)), (13, (.slice A3790 x3794.2.length c3791)), (15, (pt g3834)), (16, (iv x4201)), (74, (.slice A2154 t2149.length c2155)), (75, (iv (t2149.length : Int))), (76, (iv x4319)), (77, (.bool (decide (x4319 < (t2149.length : Int)))))] [] (fun fb => by kernel_rfl) rfl trivial ?_
         refine WL.done rfl ?_
         refine WX.next ?_
         refine WC.seq ?_
         rcases br_some hl4329 with ⟨h4330, hl4329⟩ | ⟨h4330, hl4329⟩
         ·refine WC.condT2 (fun fb => by kernel_rfl) h4330 ?_
          refine WC.skip ?_
          refine WX.next ?_
          refine WC.seq ?_
          refine WC.block ?_
          refine WC.seq ?_
          refine WC.region ?_
          obtain ⟨h4331, hl4329⟩ := as_some hl4329
          refine seg 2 [.v (.slice ((H2156 x4319.toNat 0).1) ((rdD t2149 x4319 z_Row).Cells).length ((H2156 x4319.toNat 0).2)), .v (iv (((rdD t2149 x4319 z_Row).South).e0)), .v (iv (((rdD t2149 x4319 z_Row).South).e1)), .v (iv (((rdD t2149 x4319 z_Row).South).e2)), .v (iv (((rdD t2149 x4319 z_Row).South).e3)), .v (iv (((rdD t2149 x4319 z_Row).South).e4)), .v (iv (((rdD t2149 x4319 z_Row).South).e5)), .v (iv (((rdD t2149 x4319 z_Row).South).e6)), .v (iv (((rdD t2149 x4319 z_Row).South).e7)), .v (iv (((rdD t2149 x4319 z_Row).North).e0)), .v (iv (((rdD t2149 x4319 z_Row).North).e1)), .v (iv (((rdD t2149 x4319 z_Row).North).e2)), .v (iv (((rdD t2149 x4319 z_Row).North).e3)), .v (iv (((rdD t2149 x4319 z_Row).North).e4)), .v (iv (((rdD t2149 x4319 z_Row).North).e5)), .v (iv (((rdD t2149 x4319 z_Row).North).e6)), .v (iv (((rdD t2149 x4319 z_Row).North).e7)), .v (iv ((rdD t2149 x4319 z_Row).West)), .v (iv ((rdD t2149 x4319 z_Row).East))] [6, 8, 10, 13, 15, 16, 74, 75, 76, 79] [(6, (pt g1281)), (8, (.slice A2154 t2149.length c2155)), (10, (pt g2161)), (13, (.slice A3790 x3794.2.length c3791)), (15, (pt g3834)), (16, (iv x4201)), (74, (.slice A2154 t2149.length c2155)), (75, (iv (t2149.length : Int))), (76, (iv x4319)), (79, (.agg #[(.slice ((H2156 x4319.toNat 0).1) ((rdD t2149 x4319 z_Row).Cells).length ((H2156 x4319.toNat 0).2)), (iv (((rdD t2149 x4319 z_Row).South).e0)), (iv (((rdD t2149 x4319 z_Row).South).e1)), (iv (((rdD t2149 x4319 z_Row).South).e2)), (iv (((rdD t2149 x4319 z_Row).South).e3)), (iv (((rdD t2149 x4319 z_Row).South).e4)), (iv (((rdD t2149 x4319 z_Row).South).e5)), (iv (((rdD t2149 x4319 z_Row).South).e6)), (iv (((rdD t2149 x4319 z_Row).South).e7)), (iv (((rdD t2149 x4319 z_Row).North).e0)), (iv (((rdD t2149 x4319 z_Row).North).e1)), (iv (((rdD t2149 x4319 z_Row).North).e2)), (iv (((rdD t2149 x4319 z_Row).North).e3)), (iv (((rdD t2149 x4319 z_Row).North).e4)), (iv (((rdD t2149 x4319 z_Row).North).e5)), (iv (((rdD t2149 x4319 z_Row).North).e6)), (iv (((rdD t2149 x4319 z_Row).North).e7)), (iv ((rdD t2149 x4319 z_Row).West)), (iv ((rdD t2149 x4319 z_Row).East))]))] [.idx A2154 x4319 t2149.length, .cell ((adr A2154).add ((x4319).toNat * 19)) (.slice ((H2156 x4319.toNat 0).1) ((rdD t2149 x4319 z_Row).Cells).length ((H2156 x4319.toNat 0).2)), .cell (((adr A2154).add ((x4319).toNat * 19)).add 1) (iv (((rdD t2149 x4319 z_Row).South).e0)), .cell (((adr A2154).add ((x4319).toNat * 19)).add 2) (iv (((rdD t2149 x4319 z_Row).South).e1)), .cell (((adr A2154).add ((x4319).toNat * 19)).add 3) (iv (((rdD t2149 x4319 z_Row).South).e2)), .cell (((adr A2154).add ((x4319).toNat * 19)).add 4) (iv (((rdD t2149 x4319 z_Row).South).e3)), .cell (((adr A2154).add ((x4319).toNat * 19)).add 5) (iv (((rdD t2149 x4319 z_Row).South).e4)), .cell (((adr A2154).add ((x4319).toNat * 19)).add 6) (iv (((rdD t2149 x4319 z_Row).South).e5)), .cell (((adr A2154).add ((x4319).toNat * 19)).add 7) (iv (((rdD t2149 x4319 z_Row).South).e6)), .cell (((adr A2154).add ((x4319).toNat * 19)).add 8) (iv (((rdD t2149 x4319 z_Row).South).e7)), .cell (((adr A2154).add ((x4319).toNat * 19)).add 9) (iv (((rdD t2149 x4319 z_Row).North).e0)), .cell (((adr A2154).add ((x4319).toNat * 19)).add 10) (iv (((rdD t2149 x4319 z_Row).North).e1)), .cell (((adr A2154).add ((x4319).toNat * 19)).add 11) (iv (((rdD t2149 x4319 z_Row).North).e2)), .cell (((adr A2154).add ((x4319).toNat * 19)).add 12) (iv (((rdD t2149 x4319 z_Row).North).e3)), .cell (((adr A2154).add ((x4319).toNat * 19)).add 13) (iv (((rdD t2149 x4319 z_Row).North).e4)), .cell (((adr A2154).add ((x4319).toNat * 19)).add 14) (iv (((rdD t2149 x4319 z_Row).North).e5)), .cell (((adr A2154).add ((x4319).toNat * 19)).add 15) (iv (((rdD t2149 x4319 z_Row).North).e6)), .cell (((adr A2154).add ((x4319).toNat * 19)).add 16) (iv (((rdD t2149 x4319 z_Row).North).e7)), .cell (((adr A2154).add ((x4319).toNat * 19)).add 17) (iv ((rdD t2149 x4319 z_Row).West)), .cell (((adr A2154).add ((x4319).toNat * 19)).add 18) (iv ((rdD t2149 x4319 z_Row).East))] (fun fb => by kernel_rfl) rfl ⟨nrow_adr (rowO.rd (hS4328.own 1).1) h4331.1 h4331.2, nrow_cell (rowO.rd (hS4328.own 1).1) z_Row h4331.1 h4331.2 0 rfl, nrow_cell (rowO.rd (hS4328.own 1).1) z_Row h4331.1 h4331.2 1 rfl, nrow_cell (rowO.rd (hS4328.own 1).1) z_Row h4331.1 h4331.2 2 rfl, nrow_cell (rowO.rd (hS4328.own 1).1) z_Row h4331.1 h4331.2 3 rfl, nrow_cell (rowO.rd (hS4328.own 1).1) z_Row h4331.1 h4331.2 4 rfl, nrow_cell (rowO.rd (hS4328.own 1).1) z_Row h4331.1 h4331.2 5 rfl, nrow_cell (rowO.rd (hS4328.own 1).1) z_Row h4331.1 h4331.2 6 rfl, nrow_cell (rowO.rd (hS4328.own 1).1) z_Row h4331.1 h4331.2 7 rfl, nrow_cell (rowO.rd (hS4328.own 1).1) z_Row h4331.1 h4331.2 8 rfl, nrow_cell (rowO.rd (hS4328.own 1).1) z_Row h4331.1 h4331.2 9 rfl, nrow_cell (rowO.rd (hS4328.own 1).1) z_Row h4331.1 h4331.2 10 rfl, nrow_cell (rowO.rd (hS4328.own 1).1) z_Row h4331.1 h4331.2 11 rfl, nrow_cell (rowO.rd (hS4328.own 1).1) z_Row h4331.1 h4331.2 12 rfl, nrow_cell (rowO.rd (hS4328.own 1).1) z_Row h4331.1 h4331.2 13 rfl, nrow_cell (rowO.rd (hS4328.own 1).1) z_Row h4331.1 h4331.2 14 rfl, nrow_cell (rowO.rd (hS4328.own 1).1) z_Row h4331.1 h4331.2 15 rfl, nrow_cell (rowO.rd (hS4328.own 1).1) z_Row h4331.1 h4331.2 16 rfl, nrow_cell (rowO.rd (hS4328.own 1).1) z_Row h4331.1 h4331.2 17 rfl, nrow_cell (rowO.rd (hS4328.own 1).1) z_Row h4331.1 h4331.2 18 rfl, trivial⟩ ?_
          refine WL.new hS4328 18 [] (fun g => (.pointer (some ⟨g, 0, none⟩))) (.cells #[(.slice none 0 0), (iv 0), (iv 0), (iv 0), (iv 0), (iv 0), (iv 0), (iv 0), (iv 0), (iv 0), (iv 0), (iv 0), (iv 0), (iv 0), (iv 0), (iv 0), (iv 0), (iv 0), (iv 0)] 85 (0, 0)) [] (fun fb g => by kernel_rfl) trivial (fun g4332 w4333 hS4334 => ?_)
          refine ⟨trivial, ?_⟩
          refine WL.store hS4334 0 rfl [(0, (.slice ((H2156 x4319.toNat 0).1) ((rdD t2149 x4319 z_Row).Cells).length ((H2156 x4319.toNat 0).2))), (1, (iv (((rdD t2149 x4319 z_Row).South).e0))), (2, (iv (((rdD t2149 x4319 z_Row).South).e1))), (3, (iv (((rdD t2149 x4319 z_Row).South).e2))), (4, (iv (((rdD t2149 x4319 z_Row).South).e3))), (5, (iv (((rdD t2149 x4319 z_Row).South).e4))), (6, (iv (((rdD t2149 x4319 z_Row).South).e5))), (7, (iv (((rdD t2149 x4319 z_Row).South).e6))), (8, (iv (((rdD t2149 x4319 z_Row).South).e7))), (9, (iv (((rdD t2149 x4319 z_Row).North).e0))), (10, (iv (((rdD t2149 x4319 z_Row).North).e1))), (11, (iv (((rdD t2149 x4319 z_Row).North).e2))), (12, (iv (((rdD t2149 x4319 z_Row).North).e3))), (13, (iv (((rdD t2149 x4319 z_Row).North).e4))), (14, (iv (((rdD t2149 x4319 z_Row).North).e5))), (15, (iv (((rdD t2149 x4319 z_Row).North).e6))), (16, (iv (((rdD t2149 x4319 z_Row).North).e7))), (17, (iv ((rdD t2149 x4319 z_Row).West))), (18, (iv ((rdD t2149 x4319 z_Row).East)))] #[(.slice ((H2156 x4319.toNat 0).1) ((rdD t2149 x4319 z_Row).Cells).length ((H2156 x4319.toNat 0).2)), (iv (((rdD t2149 x4319 z_Row).South).e0)), (iv (((rdD t2149 x4319 z_Row).South).e1)), (iv (((rdD t2149 x4319 z_Row).South).e2)), (iv (((rdD t2149 x4319 z_Row).South).e3)), (iv (((rdD t2149 x4319 z_Row).South).e4)), (iv (((rdD t2149 x4319 z_Row).South).e5)), (iv (((rdD t2149 x4319 z_Row).South).e6)), (iv (((rdD t2149 x4319 z_Row).South).e7)), (iv (((rdD t2149 x4319 z_Row).North).e0)), (iv (((rdD t2149 x4319 z_Row).North).e1)), (iv (((rdD t2149 x4319 z_Row).North).e2)), (iv (((rdD t2149 x4319 z_Row).North).e3)), (iv (((rdD t2149 x4319 z_Row).North).e4)), (iv (((rdD t2149 x4319 z_Row).North).e5)), (iv (((rdD t2149 x4319 z_Row).North).e6)), (iv (((rdD t2149 x4319 z_Row).North).e7)), (iv ((rdD t2149 x4319 z_Row).West)), (iv ((rdD t2149 x4319 z_Row).East))] (fun fb => by kernel_rfl) (by kernel_rfl) (by kernel_rfl) [1, 2, 3, 4, 5, 6] (by decide) (by decide) (fun w4336 hS4337 => ?_)
          refine ⟨trivial, ?_⟩
          refine WL.done rfl ?_
          refine WX.next ?_
          refine WC.seq ?_
          obtain ⟨x4353, hx4354, hl4329⟩ := bind_some hl4329
          refine WC.cutN (T := Bool) (fun t => [(6, (pt g1281)), (8, (.slice A2154 t2149.length c2155)), (10, (pt g2161)), (13, (.slice A3790 x3794.2.length c3791)), (15, (pt g3834)), (16, (iv x4201)), (18, (pt g4332)), (74, (.slice A2154 t2149.length c2155)), (75, (iv (t2149.length : Int))), (76, (iv x4319)), (92, (.bool t))]) (fun t w1 => St NoS w w1 [knestO (aggI ints_A8_Int) vB K3789 x3794.1, rowR (encMap A8_Int Bool) A3790 c3791 (tag H3793 x3794.2), mapsO (aggI ints_A8_Int) vB H3793 x3794.2, mapsO (aggI ints_A8_Int) vB ((mget ((rdD t2149 x3757 z_Row).South) zHM K3756).1.2.2) (mget ((rdD t2149 x3757 z_Row).South) [] l3755), rowR (encMap A8_Int Bool) ((mget ((rdD t2149 x3757 z_Row).South) zHM K3756).1.1) ((mget ((rdD t2149 x3757 z_Row).South) zHM K3756).1.2.1) (tag ((mget ((rdD t2149 x3757 z_Row).South) zHM K3756).1.2.2) (mget ((rdD t2149 x3757 z_Row).South) [] l3755)), knestO (aggI ints_A8_Int) vB K3756 l3755, knestO (aggI ints_A8_Int) vB ([] : List (A8_Int × (HM × List (Option (List (A8_Int × Bool)))))) ([] : List (A8_Int × List (Option (List (A8_Int × Bool))))), rowR enc_Tile A_p0 c_p0 p0] [blk g1281 (.cells #[(iv 0), (iv 0), (.slice none 0 0)] 27 (0, 0)), rowO 85 encN_Row A2154 c2155 (tag H2156 t2149), poolO [nestO subN_Row H2156 t2149], blk g2161 (.cells #[(iv p1), (iv p2), (.slice A4197 l4199.length c4198)] 27 (0, 0)), rowO 3 encInt A4197 c4198 l4199, blk g3834 (.cells #[(iv a4200.e0), (iv a4200.e1), (iv a4200.e2), (iv a4200.e3), (iv a4200.e4), (iv a4200.e5), (iv a4200.e6), (iv a4200.e7)] 83 (0, 0)), blk g4332 (.cells #[(.slice ((H2156 x4319.toNat 0).1) ((rdD t2149 x4319 z_Row).Cells).length ((H2156 x4319.toNat 0).2)), (iv (((rdD t2149 x4319 z_Row).South).e0)), (iv (((rdD t2149 x4319 z_Row).South).e1)), (iv (((rdD t2149 x4319 z_Row).South).e2)), (iv (((rdD t2149 x4319 z_Row).South).e3)), (iv (((rdD t2149 x4319 z_Row).South).e4)), (iv (((rdD t2149 x4319 z_Row).South).e5)), (iv (((rdD t2149 x4319 z_Row).South).e6)), (iv (((rdD t2149 x4319 z_Row).South).e7)), (iv (((rdD t2149 x4319 z_Row).North).e0)), (iv (((rdD t2149 x4319 z_Row).North).e1)), (iv (((rdD t2149 x4319 z_Row).North).e2)), (iv (((rdD t2149 x4319 z_Row).North).e3)), (iv (((rdD t2149 x4319 z_Row).North).e4)), (iv (((rdD t2149 x4319 z_Row).North).e5)), (iv (((rdD t2149 x4319 z_Row).North).e6)), (iv (((rdD t2149 x4319 z_Row).North).e7)), (iv ((rdD t2149 x4319 z_Row).West)), (iv ((rdD t2149 x4319 z_Row).East))] 85 (0, 0))] ∧ x4353 = t) (fun Kx4353 => ?_) ?_
          ·
           rcases br_some hx4354 with ⟨h4355, hx4354⟩ | ⟨h4355, hx4354⟩
           ·
            obtain ⟨h4364, hx4354⟩ := as_some hx4354
            obtain ⟨m4365, hm4366, hx4354⟩ := bind_some hx4354
            refine WC.regionD ([(1, ⟨g4332, 1, none⟩, (iv (((rdD t2149 x4319 z_Row).South).e0))), (1, ⟨g4332, 2, none⟩, (iv (((rdD t2149 x4319 z_Row).South).e1))), (1, ⟨g4332, 3, none⟩, (iv (((rdD t2149 x4319 z_Row).South).e2))), (1, ⟨g4332, 4, none⟩, (iv (((rdD t2149 x4319 z_Row).South).e3))), (1, ⟨g4332, 5, none⟩, (iv (((rdD t2149 x4319 z_Row).South).e4))), (1, ⟨g4332, 6, none⟩, (iv (((rdD t2149 x4319 z_Row).South).e5))), (1, ⟨g4332, 7, none⟩, (iv (((rdD t2149 x4319 z_Row).South).e6))), (1, ⟨g4332, 8, none⟩, (iv (((rdD t2149 x4319 z_Row).South).e7))), (2, ⟨g3834, 0, none⟩, (iv a4200.e0)), (2, ⟨g3834, 1, none⟩, (iv a4200.e1)), (2, ⟨g3834, 2, none⟩, (iv a4200.e2)), (2, ⟨g3834, 3, none⟩, (iv a4200.e3)), (2, ⟨g3834, 4, none⟩, (iv a4200.e4)), (2, ⟨g3834, 5, none⟩, (iv a4200.e5)), (2, ⟨g3834, 6, none⟩, (iv a4200.e6)), (2, ⟨g3834, 7, none⟩, (iv a4200.e7)), (8, ((adr A3790).add ((x4201).toNat * 1)), (.map (some (H3793 x4201.toNat)))), (10, ⟨g4332, 9, none⟩, (iv (((rdD t2149 x4319 z_Row).North).e0))), (10, ⟨g4332, 10, none⟩, (iv (((rdD t2149 x4319 z_Row).North).e1))), (10, ⟨g4332, 11, none⟩, (iv (((rdD t2149 x4319 z_Row).North).e2))), (10, ⟨g4332, 12, none⟩, (iv (((rdD t2149 x4319 z_Row).North).e3))), (10, ⟨g4332, 13, none⟩, (iv (((rdD t2149 x4319 z_Row).North).e4))), (10, ⟨g4332, 14, none⟩, (iv (((rdD t2149 x4319 z_Row).North).e5))), (10, ⟨g4332, 15, none⟩, (iv (((rdD t2149 x4319 z_Row).North).e6))), (10, ⟨g4332, 16, none⟩, (iv (((rdD t2149 x4319 z_Row).North).e7)))], [0, 1, 2, 3, 4, 5, 6, 7, 8, 9, 10, 12], [[], [0], [], [0, 1, 2], [0, 1, 2, 3], [0, 1, 2, 3, 4], [0, 1, 2, 3, 4], [0, 1, 2, 3, 4, 5, 6], [0, 1, 2, 3, 4, 5, 6, 7], [0, 1, 2, 3, 4], [0, 1, 2, 3, 4, 9], [0, 1, 2, 3, 4, 5, 6, 7, 8, 9, 10], [0, 1, 2, 3, 4, 5, 6, 7, 8, 9, 10, 11]]) [[0, 1, 2, 3, 4, 5, 6, 7, 8, 9, 10, 11, 12]] (by kernel_rfl) (by kernel_rfl) (NoPanic.seq (NoPanic.block (NoPanic.seq (NoPanic.seq (NoPanic.block (NoPanic.scope (NoPanic.block (NoPanic.seq (NoPanic.seq (NoPanic.block (NoPanic.seq (NoPanic.block (NoPanic.seq (NoPanic.seq (NoPanic.block (NoPanic.seq (NoPanic.scope (NoPanic.body)))))))))))))))))) ?_
            have hS4360 := hS4337.drew
            revert hS4360
            generalize World.drew w4336 = w4359
            intro hS4360
            refine ⟨⟨hS4360.cell 0 rfl 1 rfl, hS4360.cell 0 rfl 2 rfl, hS4360.cell 0 rfl 3 rfl, hS4360.cell 0 rfl 4 rfl, hS4360.cell 0 rfl 5 rfl, hS4360.cell 0 rfl 6 rfl, hS4360.cell 0 rfl 7 rfl, hS4360.cell 0 rfl 8 rfl, hS4360.cell 6 rfl 0 rfl, hS4360.cell 6 rfl 1 rfl, hS4360.cell 6 rfl 2 rfl, hS4360.cell 6 rfl 3 rfl, hS4360.cell 6 rfl 4 rfl, hS4360.cell 6 rfl 5 rfl, hS4360.cell 6 rfl 6 rfl, hS4360.cell 6 rfl 7 rfl, nrow_cell (hS4360.rd 1).1 none h4364.1 h4364.2 0 (mapV_some hm4366), hS4360.cell 0 rfl 9 rfl, hS4360.cell 0 rfl 10 rfl, hS4360.cell 0 rfl 11 rfl, hS4360.cell 0 rfl 12 rfl, hS4360.cell 0 rfl 13 rfl, hS4360.cell 0 rfl 14 rfl, hS4360.cell 0 rfl 15 rfl, hS4360.cell 0 rfl 16 rfl, trivial⟩, forallC ?_ (forallN)⟩
            refine segF 5 [.v (iv (((rdD t2149 x4319 z_Row).South).e0)), .v (iv (((rdD t2149 x4319 z_Row).South).e1)), .v (iv (((rdD t2149 x4319 z_Row).South).e2)), .v (iv (((rdD t2149 x4319 z_Row).South).e3)), .v (iv (((rdD t2149 x4319 z_Row).South).e4)), .v (iv (((rdD t2149 x4319 z_Row).South).e5)), .v (iv (((rdD t2149 x4319 z_Row).South).e6)), .v (iv (((rdD t2149 x4319 z_Row).South).e7)), .v (iv a4200.e0), .v (iv a4200.e1), .v (iv a4200.e2), .v (iv a4200.e3), .v (iv a4200.e4), .v (iv a4200.e5), .v (iv a4200.e6), .v (iv a4200.e7)] [6, 8, 10, 13, 15, 16, 18, 74, 75, 76, 84] [(6, (pt g1281)), (8, (.slice A2154 t2149.length c2155)), (10, (pt g2161)), (13, (.slice A3790 x3794.2.length c3791)), (15, (pt g3834)), (16, (iv x4201)), (18, (pt g4332)), (74, (.slice A2154 t2149.length c2155)), (75, (iv (t2149.length : Int))), (76, (iv x4319)), (84, (.bool ((((rdD t2149 x4319 z_Row).South).e0) == a4200.e0 && ((((rdD t2149 x4319 z_Row).South).e1) == a4200.e1 && ((((rdD t2149 x4319 z_Row).South).e2) == a4200.e2 && ((((rdD t2149 x4319 z_Row).South).e3) == a4200.e3 && ((((rdD t2149 x4319 z_Row).South).e4) == a4200.e4 && ((((rdD t2149 x4319 z_Row).South).e5) == a4200.e5 && ((((rdD t2149 x4319 z_Row).South).e6) == a4200.e6 && ((((rdD t2149 x4319 z_Row).South).e7) == a4200.e7))))))))))] [] [0, 1, 2, 3, 4, 5, 6, 7, 8, 9, 10, 11, 12, 13, 14, 15] [(1, ⟨g4332, 1, none⟩, (iv (((rdD t2149 x4319 z_Row).South).e0))), (1, ⟨g4332, 2, none⟩, (iv (((rdD t2149 x4319 z_Row).South).e1))), (1, ⟨g4332, 3, none⟩, (iv (((rdD t2149 x4319 z_Row).South).e2))), (1, ⟨g4332, 4, none⟩, (iv (((rdD t2149 x4319 z_Row).South).e3))), (1, ⟨g4332, 5, none⟩, (iv (((rdD t2149 x4319 z_Row).South).e4))), (1, ⟨g4332, 6, none⟩, (iv (((rdD t2149 x4319 z_Row).South).e5))), (1, ⟨g4332, 7, none⟩, (iv (((rdD t2149 x4319 z_Row).South).e6))), (1, ⟨g4332, 8, none⟩, (iv (((rdD t2149 x4319 z_Row).South).e7))), (2, ⟨g3834, 0, none⟩, (iv a4200.e0)), (2, ⟨g3834, 1, none⟩, (iv a4200.e1)), (2, ⟨g3834, 2, none⟩, (iv a4200.e2)), (2, ⟨g3834, 3, none⟩, (iv a4200.e3)), (2, ⟨g3834, 4, none⟩, (iv a4200.e4)), (2, ⟨g3834, 5, none⟩, (iv a4200.e5)), (2, ⟨g3834, 6, none⟩, (iv a4200.e6)), (2, ⟨g3834, 7, none⟩, (iv a4200.e7))] (fun fb => by kernel_rfl) rfl trivial rfl ?_
            refine WL.setB 84 h4355 rfl ?_
            refine segF 11 [.v (.map (some (H3793 x4201.toNat))), .v (iv (((rdD t2149 x4319 z_Row).North).e0)), .v (iv (((rdD t2149 x4319 z_Row).North).e1)), .v (iv (((rdD t2149 x4319 z_Row).North).e2)), .v (iv (((rdD t2149 x4319 z_Row).North).e3)), .v (iv (((rdD t2149 x4319 z_Row).North).e4)), .v (iv (((rdD t2149 x4319 z_Row).North).e5)), .v (iv (((rdD t2149 x4319 z_Row).North).e6)), .v (iv (((rdD t2149 x4319 z_Row).North).e7))] [6, 8, 10, 13, 15, 16, 18, 74, 75, 76, 84, 88, 90] [(6, (pt g1281)), (8, (.slice A2154 t2149.length c2155)), (10, (pt g2161)), (13, (.slice A3790 x3794.2.length c3791)), (15, (pt g3834)), (16, (iv x4201)), (18, (pt g4332)), (74, (.slice A2154 t2149.length c2155)), (75, (iv (t2149.length : Int))), (76, (iv x4319)), (84, (.bool true)), (88, (.map (some (H3793 x4201.toNat)))), (90, (.agg #[(iv (((rdD t2149 x4319 z_Row).North).e0)), (iv (((rdD t2149 x4319 z_Row).North).e1)), (iv (((rdD t2149 x4319 z_Row).North).e2)), (iv (((rdD t2149 x4319 z_Row).North).e3)), (iv (((rdD t2149 x4319 z_Row).North).e4)), (iv (((rdD t2149 x4319 z_Row).North).e5)), (iv (((rdD t2149 x4319 z_Row).North).e6)), (iv (((rdD t2149 x4319 z_Row).North).e7))]))] [.idx A3790 x4201 x3794.2.length] [16, 17, 18, 19, 20, 21, 22, 23, 24] [(8, ((adr A3790).add ((x4201).toNat * 1)), (.map (some (H3793 x4201.toNat)))), (10, ⟨g4332, 9, none⟩, (iv (((rdD t2149 x4319 z_Row).North).e0))), (10, ⟨g4332, 10, none⟩, (iv (((rdD t2149 x4319 z_Row).North).e1))), (10, ⟨g4332, 11, none⟩, (iv (((rdD t2149 x4319 z_Row).North).e2))), (10, ⟨g4332, 12, none⟩, (iv (((rdD t2149 x4319 z_Row).North).e3))), (10, ⟨g4332, 13, none⟩, (iv (((rdD t2149 x4319 z_Row).North).e4))), (10, ⟨g4332, 14, none⟩, (iv (((rdD t2149 x4319 z_Row).North).e5))), (10, ⟨g4332, 15, none⟩, (iv (((rdD t2149 x4319 z_Row).North).e6))), (10, ⟨g4332, 16, none⟩, (iv (((rdD t2149 x4319 z_Row).North).e7)))] (fun fb => by kernel_rfl) rfl ⟨nrow_adr (hS4360.rd 1).1 h4364.1 h4364.2, trivial⟩ rfl ?_
            refine WL.lookup (mapsO.at (hS4360.rd 2).1 h4364.1 h4364.2 hm4366) ((rdD t2149 x4319 z_Row).North) (d := 91) (c := false) (t := 91) (kT := 83) (eT := 4) (z := false) (kE := (aggI ints_A8_Int)) (vE := vB) (l := m4365) (.bool (mget ((rdD t2149 x4319 z_Row).North) false m4365)) (fun fb => by kernel_rfl) torus_find_key83 (by kernel_rfl) (fun _ => by kernel_rfl) rfl ?_
            refine ⟨trivial, ?_⟩
            refine seg 13 [] [6, 8, 10, 13, 15, 16, 18, 74, 75, 76, 92] [(6, (pt g1281)), (8, (.slice A2154 t2149.length c2155)), (10, (pt g2161)), (13, (.slice A3790 x3794.2.length c3791)), (15, (pt g3834)), (16, (iv x4201)), (18, (pt g4332)), (74, (.slice A2154 t2149.length c2155)), (75, (iv (t2149.length : Int))), (76, (iv x4319)), (92, (.bool (mget ((rdD t2149 x4319 z_Row).North) false m4365)))] [] (fun fb => by kernel_rfl) rfl trivial ?_
            refine WL.done rfl ?_
            injection hx4354 with hx4354
            exact WX.to Kx4353 (mget ((rdD t2149 x4319 z_Row).North) false m4365) [6, 8, 10, 13, 15, 16, 18, 74, 75, 76, 92] rfl ⟨(hS4360.subR [0, 1, 2, 3, 4, 5, 6, 7]).sub [1, 2, 3, 4, 5, 6, 0] (by decide), hx4354.symm⟩
           refine WC.regionD ([(1, ⟨g4332, 1, none⟩, (iv (((rdD t2149 x4319 z_Row).South).e0))), (1, ⟨g4332, 2, none⟩, (iv (((rdD t2149 x4319 z_Row).South).e1))), (1, ⟨g4332, 3, none⟩, (iv (((rdD t2149 x4319 z_Row).South).e2))), (1, ⟨g4332, 4, none⟩, (iv (((rdD t2149 x4319 z_Row).South).e3))), (1, ⟨g4332, 5, none⟩, (iv (((rdD t2149 x4319 z_Row).South).e4))), (1, ⟨g4332, 6, none⟩, (iv (((rdD t2149 x4319 z_Row).South).e5))), (1, ⟨g4332, 7, none⟩, (iv (((rdD t2149 x4319 z_Row).South).e6))), (1, ⟨g4332, 8, none⟩, (iv (((rdD t2149 x4319 z_Row).South).e7))), (2, ⟨g3834, 0, none⟩, (iv a4200.e0)), (2, ⟨g3834, 1, none⟩, (iv a4200.e1)), (2, ⟨g3834, 2, none⟩, (iv a4200.e2)), (2, ⟨g3834, 3, none⟩, (iv a4200.e3)), (2, ⟨g3834, 4, none⟩, (iv a4200.e4)), (2, ⟨g3834, 5, none⟩, (iv a4200.e5)), (2, ⟨g3834, 6, none⟩, (iv a4200.e6)), (2, ⟨g3834, 7, none⟩, (iv a4200.e7))], [0, 1, 2, 3, 4, 5, 6, 7, 8, 9, 10, 12], [[], [0], [], [0, 1, 2], [0, 1, 2, 3], [0, 1, 2, 3, 4], [0, 1, 2, 3, 4], [0, 1, 2, 3, 4, 5, 6], [0, 1, 2, 3, 4, 5, 6, 7], [0, 1, 2, 3, 4], [0, 1, 2, 3, 4, 9], [0, 1, 2, 3, 4, 5, 6, 7, 8, 9, 10], [0, 1, 2, 3, 4, 5, 6, 7, 8, 9, 10, 11]]) [[0, 1, 2, 3, 4, 5, 6, 7, 8, 9, 10, 11, 12]] (by kernel_rfl) (by kernel_rfl) (NoPanic.seq (NoPanic.block (NoPanic.seq (NoPanic.seq (NoPanic.block (NoPanic.scope (NoPanic.block (NoPanic.seq (NoPanic.seq (NoPanic.block (NoPanic.seq (NoPanic.block (NoPanic.seq (NoPanic.seq (NoPanic.block (NoPanic.seq (NoPanic.scope (NoPanic.body)))))))))))))))))) ?_
           have hS4368 := hS4337.drew
           revert hS4368
           generalize World.drew w4336 = w4367
           intro hS4368
           refine ⟨⟨hS4368.cell 0 rfl 1 rfl, hS4368.cell 0 rfl 2 rfl, hS4368.cell 0 rfl 3 rfl, hS4368.cell 0 rfl 4 rfl, hS4368.cell 0 rfl 5 rfl, hS4368.cell 0 rfl 6 rfl, hS4368.cell 0 rfl 7 rfl, hS4368.cell 0 rfl 8 rfl, hS4368.cell 6 rfl 0 rfl, hS4368.cell 6 rfl 1 rfl, hS4368.cell 6 rfl 2 rfl, hS4368.cell 6 rfl 3 rfl, hS4368.cell 6 rfl 4 rfl, hS4368.cell 6 rfl 5 rfl, hS4368.cell 6 rfl 6 rfl, hS4368.cell 6 rfl 7 rfl, trivial⟩, forallC ?_ (forallN)⟩
           refine segF 5 [.v (iv (((rdD t2149 x4319 z_Row).South).e0)), .v (iv (((rdD t2149 x4319 z_Row).South).e1)), .v (iv (((rdD t2149 x4319 z_Row).South).e2)), .v (iv (((rdD t2149 x4319 z_Row).South).e3)), .v (iv (((rdD t2149 x4319 z_Row).South).e4)), .v (iv (((rdD t2149 x4319 z_Row).South).e5)), .v (iv (((rdD t2149 x4319 z_Row).South).e6)), .v (iv (((rdD t2149 x4319 z_Row).South).e7)), .v (iv a4200.e0), .v (iv a4200.e1), .v (iv a4200.e2), .v (iv a4200.e3), .v (iv a4200.e4), .v (iv a4200.e5), .v (iv a4200.e6), .v (iv a4200.e7)] [6, 8, 10, 13, 15, 16, 18, 74, 75, 76, 84] [(6, (pt g1281)), (8, (.slice A2154 t2149.length c2155)), (10, (pt g2161)), (13, (.slice A3790 x3794.2.length c3791)), (15, (pt g3834)), (16, (iv x4201)), (18, (pt g4332)), (74, (.slice A2154 t2149.length c2155)), (75, (iv (t2149.length : Int))), (76, (iv x4319)), (84, (.bool ((((rdD t2149 x4319 z_Row).South).e0) == a4200.e0 && ((((rdD t2149 x4319 z_Row).South).e1) == a4200.e1 && ((((rdD t2149 x4319 z_Row).South).e2) == a4200.e2 && ((((rdD t2149 x4319 z_Row).South).e3) == a4200.e3 && ((((rdD t2149 x4319 z_Row).South).e4) == a4200.e4 && ((((rdD t2149 x4319 z_Row).South).e5) == a4200.e5 && ((((rdD t2149 x4319 z_Row).South).e6) == a4200.e6 && ((((rdD t2149 x4319 z_Row).South).e7) == a4200.e7))))))))))] [] [0, 1, 2, 3, 4, 5, 6, 7, 8, 9, 10, 11, 12, 13, 14, 15] [(1, ⟨g4332, 1, none⟩, (iv (((rdD t2149 x4319 z_Row).South).e0))), (1, ⟨g4332, 2, none⟩, (iv (((rdD t2149 x4319 z_Row).South).e1))), (1, ⟨g4332, 3, none⟩, (iv (((rdD t2149 x4319 z_Row).South).e2))), (1, ⟨g4332, 4, none⟩, (iv (((rdD t2149 x4319 z_Row).South).e3))), (1, ⟨g4332, 5, none⟩, (iv (((rdD t2149 x4319 z_Row).South).e4))), (1, ⟨g4332, 6, none⟩, (iv (((rdD t2149 x4319 z_Row).South).e5))), (1, ⟨g4332, 7, none⟩, (iv (((rdD t2149 x4319 z_Row).South).e6))), (1, ⟨g4332, 8, none⟩, (iv (((rdD t2149 x4319 z_Row).South).e7))), (2, ⟨g3834, 0, none⟩, (iv a4200.e0)), (2, ⟨g3834, 1, none⟩, (iv a4200.e1)), (2, ⟨g3834, 2, none⟩, (iv a4200.e2)), (2, ⟨g3834, 3, none⟩, (iv a4200.e3)), (2, ⟨g3834, 4, none⟩, (iv a4200.e4)), (2, ⟨g3834, 5, none⟩, (iv a4200.e5)), (2, ⟨g3834, 6, none⟩, (iv a4200.e6)), (2, ⟨g3834, 7, none⟩, (iv a4200.e7))] (fun fb => by kernel_rfl) rfl trivial rfl ?_
           refine WL.setB 84 h4355 rfl ?_
           refine seg 13 [] [6, 8, 10, 13, 15, 16, 18, 74, 75, 76, 92] [(6, (pt g1281)), (8, (.slice A2154 t2149.length c2155)), (10, (pt g2161)), (13, (.slice A3790 x3794.2.length c3791)), (15, (pt g3834)), (16, (iv x4201)), (18, (pt g4332)), (74, (.slice A2154 t2149.length c2155)), (75, (iv (t2149.length : Int))), (76, (iv x4319)), (92, (.bool false))] [] (fun fb => by kernel_rfl) rfl trivial ?_
           refine WL.done rfl ?_
           injection hx4354 with hx4354
           exact WX.to Kx4353 false [6, 8, 10, 13, 15, 16, 18, 74, 75, 76, 92] rfl ⟨(hS4368.subR [0, 1, 2, 3, 4, 5, 6, 7]).sub [1, 2, 3, 4, 5, 6, 0] (by decide), hx4354.symm⟩
          rintro y4372 w4369 ⟨hS4370, hq4371⟩
          subst hq4371
          refine WX.next ?_
          rcases br_some hl4329 with ⟨h4373, hl4329⟩ | ⟨h4373, hl4329⟩
          ·refine WC.condT2 (fun fb => by kernel_rfl) h4373 ?_
           refine WC.seq ?_
           refine WC.region ?_
           refine seg 4 [.v (.slice A4197 l4199.length c4198), .v (.slice ((H2156 x4319.toNat 0).1) ((rdD t2149 x4319 z_Row).Cells).length ((H2156 x4319.toNat 0).2))] [6, 8, 10, 13, 15, 16, 18, 94, 96] [(6, (pt g1281)), (8, (.slice A2154 t2149.length c2155)), (10, (pt g2161)), (13, (.slice A3790 x3794.2.length c3791)), (15, (pt g3834)), (16, (iv x4201)), (18, (pt g4332)), (94, (.slice A4197 l4199.length c4198)), (96, (.slice ((H2156 x4319.toNat 0).1) ((rdD t2149 x4319 z_Row).Cells).length ((H2156 x4319.toNat 0).2)))] [.cell ⟨g2161, 2, none⟩ (.slice A4197 l4199.length c4198), .cell ⟨g4332, 0, none⟩ (.slice ((H2156 x4319.toNat 0).1) ((rdD t2149 x4319 z_Row).Cells).length ((H2156 x4319.toNat 0).2))] (fun fb => by kernel_rfl) rfl ⟨hS4370.cell 3 rfl 2 rfl, hS4370.cell 6 rfl 0 rfl, trivial⟩ ?_
           obtain ⟨h4374, hl4329⟩ := as_some hl4329
           refine WL.append hS4370 4 (d := 97) (tS := 25) (z := (iv 0)) (bytes := 8) (c2 := (H2156 x4319.toNat 0).2) rfl (fun fb => by kernel_rfl) (nestO.at ((hS4370.own 2).1 0) z_Row h4331.1 h4331.2) (by kernel_rfl) (by kernel_rfl) rfl (by decide) h4374 (by decide) [0, 1, 2, 3, 5, 6] (by decide) (by decide) (fun A4375 c4376 w4377 hS4378 => ?_)
           refine ⟨trivial, ?_⟩
           refine seg 6 [] [6, 8, 10, 13, 15, 16, 18, 97, 98] [(6, (pt g1281)), (8, (.slice A2154 t2149.length c2155)), (10, (pt g2161)), (13, (.slice A3790 x3794.2.length c3791)), (15, (pt g3834)), (16, (iv x4201)), (18, (pt g4332)), (97, (.slice A4375 (l4199 ++ ((rdD t2149 x4319 z_Row).Cells)).length c4376)), (98, (.pointer (some ⟨g2161, 2, none⟩)))] [] (fun fb => by kernel_rfl) rfl trivial ?_
           refine WL.store hS4378 4 rfl [(2, (.slice A4375 (l4199 ++ ((rdD t2149 x4319 z_Row).Cells)).length c4376))] #[(iv p1), (iv p2), (.slice A4375 (l4199 ++ ((rdD t2149 x4319 z_Row).Cells)).length c4376)] (fun fb => by kernel_rfl) (by kernel_rfl) rfl [0, 1, 2, 3, 5, 6] (by decide) (by decide) (fun w4379 hS4380 => ?_)
           refine ⟨trivial, ?_⟩
           refine WL.done rfl ?_
           refine WX.next ?_
           refine WC.seq ?_
           refine WC.region ?_
           refine seg 2 [.v (iv (((rdD t2149 x4319 z_Row).North).e0)), .v (iv (((rdD t2149 x4319 z_Row).North).e1)), .v (iv (((rdD t2149 x4319 z_Row).North).e2)), .v (iv (((rdD t2149 x4319 z_Row).North).e3)), .v (iv (((rdD t2149 x4319 z_Row).North).e4)), .v (iv (((rdD t2149 x4319 z_Row).North).e5)), .v (iv (((rdD t2149 x4319 z_Row).North).e6)), .v (iv (((rdD t2149 x4319 z_Row).North).e7))] [6, 8, 10, 13, 15, 16, 100] [(6, (pt g1281)), (8, (.slice A2154 t2149.length c2155)), (10, (pt g2161)), (13, (.slice A3790 x3794.2.length c3791)), (15, (pt g3834)), (16, (iv x4201)), (100, (.agg #[(iv (((rdD t2149 x4319 z_Row).North).e0)), (iv (((rdD t2149 x4319 z_Row).North).e1)), (iv (((rdD t2149 x4319 z_Row).North).e2)), (iv (((rdD t2149 x4319 z_Row).North).e3)), (iv (((rdD t2149 x4319 z_Row).North).e4)), (iv (((rdD t2149 x4319 z_Row).North).e5)), (iv (((rdD t2149 x4319 z_Row).North).e6)), (iv (((rdD t2149 x4319 z_Row).North).e7))]))] [.cell ⟨g4332, 9, none⟩ (iv (((rdD t2149 x4319 z_Row).North).e0)), .cell ⟨g4332, 10, none⟩ (iv (((rdD t2149 x4319 z_Row).North).e1)), .cell ⟨g4332, 11, none⟩ (iv (((rdD t2149 x4319 z_Row).North).e2)), .cell ⟨g4332, 12, none⟩ (iv (((rdD t2149 x4319 z_Row).North).e3)), .cell ⟨g4332, 13, none⟩ (iv (((rdD t2149 x4319 z_Row).North).e4)), .cell ⟨g4332, 14, none⟩ (iv (((rdD t2149 x4319 z_Row).North).e5)), .cell ⟨g4332, 15, none⟩ (iv (((rdD t2149 x4319 z_Row).North).e6)), .cell ⟨g4332, 16, none⟩ (iv (((rdD t2149 x4319 z_Row).North).e7))] (fun fb => by kernel_rfl) rfl ⟨hS4380.cell 6 rfl 9 rfl, hS4380.cell 6 rfl 10 rfl, hS4380.cell 6 rfl 11 rfl, hS4380.cell 6 rfl 12 rfl, hS4380.cell 6 rfl 13 rfl, hS4380.cell 6 rfl 14 rfl, hS4380.cell 6 rfl 15 rfl, hS4380.cell 6 rfl 16 rfl, trivial⟩ ?_
           refine WL.store hS4380 5 rfl [(0, (iv (((rdD t2149 x4319 z_Row).North).e0))), (1, (iv (((rdD t2149 x4319 z_Row).North).e1))), (2, (iv (((rdD t2149 x4319 z_Row).North).e2))), (3, (iv (((rdD t2149 x4319 z_Row).North).e3))), (4, (iv (((rdD t2149 x4319 z_Row).North).e4))), (5, (iv (((rdD t2149 x4319 z_Row).North).e5))), (6, (iv (((rdD t2149 x4319 z_Row).North).e6))), (7, (iv (((rdD t2149 x4319 z_Row).North).e7)))] #[(iv (((rdD t2149 x4319 z_Row).North).e0)), (iv (((rdD t2149 x4319 z_Row).North).e1)), (iv (((rdD t2149 x4319 z_Row).North).e2)), (iv (((rdD t2149 x4319 z_Row).North).e3)), (iv (((rdD t2149 x4319 z_Row).North).e4)), (iv (((rdD t2149 x4319 z_Row).North).e5)), (iv (((rdD t2149 x4319 z_Row).North).e6)), (iv (((rdD t2149 x4319 z_Row).North).e7))] (fun fb => by kernel_rfl) (by kernel_rfl) rfl [0, 1, 2, 3, 4, 6] (by decide) (by decide) (fun w4381 hS4382 => ?_)
           refine ⟨trivial, ?_⟩
           refine WL.done rfl ?_
           refine WX.next ?_
           refine WC.exit ?_
           injection hl4329 with hl4329
           exact WX.blockPast (by decide) (WX.thenX (WX.thenX (WX.blockHere (WX.to Kx4324 ((l4199 ++ ((rdD t2149 x4319 z_Row).Cells), ((rdD t2149 x4319 z_Row).North)), A4375, c4376) [6, 8, 10, 13, 15, 16] rfl ⟨(hS4382.subR [0, 1, 2, 3, 4, 5, 6, 7]).sub [3, 4, 5, 1, 2, 0] (by decide), hl4329.symm⟩))))
          refine WC.condF2 (fun fb => by kernel_rfl) h4373 ?_
          refine WC.skip ?_
          refine WX.blockN (WX.next ?_)
          refine WC.region ?_
          refine seg 2 [] [6, 8, 10, 13, 15, 16, 74, 75, 76] [(6, (pt g1281)), (8, (.slice A2154 t2149.length c2155)), (10, (pt g2161)), (13, (.slice A3790 x3794.2.length c3791)), (15, (pt g3834)), (16, (iv x4201)), (74, (.slice A2154 t2149.length c2155)), (75, (iv (t2149.length : Int))), (76, (iv (w64 (x4319 + 1))))] [] (fun fb => by kernel_rfl) rfl trivial ?_
          refine WL.done rfl ?_
          exact WX.again k4326 (Nat.lt_succ_self _) (w64 (x4319 + 1)) [6, 8, 10, 13, 15, 16, 74, 75, 76] rfl ⟨(hS4370.subR [0, 1, 2, 3, 4, 5, 6, 7]).sub [0, 1, 2, 3, 4, 5] (by decide), hl4329⟩
         refine WC.condF2 (fun fb => by kernel_rfl) h4330 ?_
         refine WC.exit ?_
         injection hl4329 with hl4329
         exact WX.thenX (WX.thenX (WX.blockHere (WX.to Kx4324 ((l4199, a4200), A4197, c4198) [6, 8, 10, 13, 15, 16] rfl ⟨(hS4328.subR [0, 1, 2, 3, 4, 5, 6, 7]).sub [0, 1, 2, 3, 4, 5] (by decide), hl4329.symm⟩)))
       rintro ⟨y4386, A4320, c4321⟩ w4383 ⟨hS4384, hq4385⟩
       subst hq4385
       refine WX.scopeN (WX.blockN (WX.next ?_))
       refine WC.region ?_
       refine seg 3 [] [6, 8, 10, 13, 15, 16] [(6, (pt g1281)), (8, (.slice A2154 t2149.length c2155)), (10, (pt g2161)), (13, (.slice A3790 x3794.2.length c3791)), (15, (pt g3834)), (16, (iv (w64 (x4201 - 1))))] [] (fun fb => by kernel_rfl) rfl trivial ?_
       refine WL.done rfl ?_
       exact WX.again k4207 (Nat.lt_succ_self _) ((x4324.1, x4324.2, w64 (x4201 - 1)), A4320, c4321) [6, 8, 10, 13, 15, 16] rfl ⟨(hS4384.subR [0, 1, 2, 3, 4, 5, 6, 7]).sub [0, 1, 2, 3, 4, 5] (by decide), hl4210⟩
      refine WC.condF2 (fun fb => by kernel_rfl) h4211 ?_
      refine WC.exit ?_
      injection hl4210 with hl4210
      exact WX.thenX (WX.thenX (WX.blockHere (WX.to Kx4205 (l4199, A4197, c4198) [6, 10] rfl ⟨(hS4209.subR [0, 1, 2, 3, 4, 5, 6, 7]).sub [0, 3, 4] (by decide), hl4210.symm⟩)))
    rintro ⟨y4390, A4202, c4203⟩ w4387 ⟨hS4388, hq4389⟩
    subst hq4389
    refine WX.next ?_
    refine WC.seq ?_
    refine WC.region ?_
    refine seg 1 [.v (iv p1), .v (iv p2), .v (.slice A4202 x4205.length c4203)] [6, 102] [(6, (pt g1281)), (102, (.agg #[(iv p1), (iv p2), (.slice A4202 x4205.length c4203)]))] [.cell ⟨g2161, 0, none⟩ (iv p1), .cell ⟨g2161, 1, none⟩ (iv p2), .cell ⟨g2161, 2, none⟩ (.slice A4202 x4205.length c4203)] (fun fb => by kernel_rfl) rfl ⟨hS4388.cell 1 rfl 0 rfl, hS4388.cell 1 rfl 1 rfl, hS4388.cell 1 rfl 2 rfl, trivial⟩ ?_
    refine WL.store hS4388 0 rfl [(0, (iv p1)), (1, (iv p2)), (2, (.slice A4202 x4205.length c4203))] #[(iv p1), (iv p2), (.slice A4202 x4205.length c4203)] (fun fb => by kernel_rfl) (by kernel_rfl) rfl [1, 2] (by decide) (by decide) (fun w4391 hS4392 => ?_)
    refine ⟨trivial, ?_⟩
    refine seg 3 [] [6, 7] [(6, (pt g1281)), (7, (.bool true))] [] (fun fb => by kernel_rfl) rfl trivial ?_
    refine WL.done rfl ?_
    refine WX.next ?_
    refine WC.ret ?_
    injection hl3763 with hl3763
    subst hl3763
    injection hf with hf
    subst hf
    exact WX.blockR (WX.thenR (WX.thenR (WX.blockR (WX.thenR (WX.scopeR (WX.ret_ [.v (iv p1), .v (iv p2), .v (.slice A4202 x4205.length c4203)] (.tuple #[(.agg #[(iv p1), (iv p2), (.slice A4202 x4205.length c4203)]), (.bool true)]) [.cell ⟨g1281, 0, none⟩ (iv p1), .cell ⟨g1281, 1, none⟩ (iv p2), .cell ⟨g1281, 2, none⟩ (.slice A4202 x4205.length c4203)] (fun fb => by kernel_rfl) ⟨hS4392.cell 0 rfl 0 rfl, hS4392.cell 0 rfl 1 rfl, hS4392.cell 0 rfl 2 rfl, trivial⟩ ⟨_, rfl, A4202, c4203, rfl, (hS4392.sub [2] (by decide)).noR⟩))))))
   refine WC.condF2 (fun fb => by kernel_rfl) h3764 ?_
   refine WC.exit ?_
   injection hl3763 with hl3763
   exact WX.thenX (WX.thenX (WX.blockHere (WX.to Kx3758 () [6] rfl ⟨(hS3762.subR [1, 2]).sub [0] (by decide), hl3763.symm⟩)))
 rintro y4396 w4393 ⟨hS4394, hq4395⟩
 subst hq4395
 have hf := sum_inr hf
 refine WX.next ?_
 refine WC.seq ?_
 refine WC.region ?_
 refine seg 1 [] [6, 104] [(6, (pt g1281)), (104, (.agg #[(iv 0), (iv 0), (.slice none 0 0)]))] [] (fun fb => by kernel_rfl) rfl trivial ?_
 refine WL.store hS4394 0 rfl [(0, (iv 0)), (1, (iv 0)), (2, (.slice none 0 0))] #[(iv 0), (iv 0), (.slice none 0 0)] (fun fb => by kernel_rfl) (by kernel_rfl) rfl [] (by decide) (by decide) (fun w4398 hS4399 => ?_)
 refine ⟨trivial, ?_⟩
 refine seg 3 [] [6, 7] [(6, (pt g1281)), (7, (.bool false))] [] (fun fb => by kernel_rfl) rfl trivial ?_
 refine WL.done rfl ?_
 refine WX.next ?_
 refine WC.ret ?_
 have hS4400 := hS4399.nilrow 3 encInt
 injection hf with hf
 subst hf
 exact WX.scopeR (WX.ret_ [.v (iv 0), .v (iv 0), .v (.slice none 0 0)] (.tuple #[(.agg #[(iv 0), (iv 0), (.slice none ([] : List Int).length 0)]), (.bool false)]) [.cell ⟨g1281, 0, none⟩ (iv 0), .cell ⟨g1281, 1, none⟩ (iv 0), .cell ⟨g1281, 2, none⟩ (.slice none 0 0)] (fun fb => by kernel_rfl) ⟨hS4399.cell 0 rfl 0 rfl, hS4399.cell 0 rfl 1 rfl, hS4399.cell 0 rfl 2 rfl, trivial⟩ ⟨_, rfl, none, 0, rfl, (hS4400.sub [0] (by decide)).noR⟩)
theorem torus_Least_calls (k : Nat) (p0 : List Tile) (p1 : Int) (A_p0 : Option Addr) (c_p0 : Nat) (r : Pattern × Int) (w : World) (hR0 : RO NoS w (rowR enc_Tile A_p0 c_p0 p0)) (hf : torus_Least k p0 p1 = some r) :
  CallsR Tryd.prog 22 #[(.slice A_p0 p0.length c_p0), (iv p1)] w (fun v w' => ∃ (A1_ : Option Addr), ∃ (c1_ : Nat), v = (.tuple #[(.agg #[(iv r.1.Width), (iv r.1.Height), (.slice A1_ r.1.Cells.length c1_)]), (iv r.2)]) ∧ St NoS w w' [] [rowO 3 encInt A1_ c1_ r.1.Cells]) := by
 have hS : St NoS w w [rowR enc_Tile A_p0 c_p0 p0] [] := St.init (ro_cons hR0 (ro_nil _ _))
 refine enter 61 Tryd.func22 rfl Tryd.ntmps22 rfl ?_
 unfold torus_Least at hf
 refine WC.seq ?_
 refine WC.region ?_
 refine WL.new hS 4 [] (fun g => (.pointer (some ⟨g, 0, none⟩))) (.cells #[(iv 0), (iv 0), (.slice none 0 0)] 27 (0, 0)) [] (fun fb g => by kernel_rfl) trivial (fun g1227 w1228 hS1229 => ?_)
 refine ⟨trivial, ?_⟩
 refine seg 2 [] [0, 1, 4] [(0, (.slice A_p0 p0.length c_p0)), (1, (iv p1)), (4, (pt g1227))] [] (fun fb => by kernel_rfl) rfl trivial ?_
 refine WL.done rfl ?_
 refine WX.next ?_
 refine WC.seq ?_
 refine WC.seq ?_
 refine WC.region ?_
 refine seg 1 [] [0, 1, 4, 10] [(0, (.slice A_p0 p0.length c_p0)), (1, (iv p1)), (4, (pt g1227)), (10, (.slice A_p0 p0.length c_p0))] [] (fun fb => by kernel_rfl) rfl trivial ?_
 obtain ⟨t1231, ht1232, hf⟩ := bind_some hf
 refine WL.call (some 11) 52 #[(.slice A_p0 p0.length c_p0)] (fun fb => by kernel_rfl) (tile_Valid_calls _ p0 A_p0 c_p0 t1231 _ (hS1229.rd 0) ht1232) (fun v w1233 hR1234 => ?_)
 obtain ⟨rfl, hk_⟩ := hR1234
 have hS1235 := hS1229.keepN hk_
 refine ⟨trivial, ?_⟩
 refine seg 3 [] [0, 1, 4, 12] [(0, (.slice A_p0 p0.length c_p0)), (1, (iv p1)), (4, (pt g1227)), (12, (.bool (!t1231)))] [] (fun fb => by kernel_rfl) rfl trivial ?_
 refine WL.done rfl ?_
 refine WX.next ?_
 rcases br_some hf with ⟨h1236, hf⟩ | ⟨h1236, hf⟩
 ·refine WC.condT2 (fun fb => by kernel_rfl) h1236 ?_
  refine WC.seq ?_
  refine WC.region ?_
  refine seg 1 [] [4, 13] [(4, (pt g1227)), (13, (.agg #[(iv 0), (iv 0), (.slice none 0 0)]))] [] (fun fb => by kernel_rfl) rfl trivial ?_
  refine WL.store hS1235 0 rfl [(0, (iv 0)), (1, (iv 0)), (2, (.slice none 0 0))] #[(iv 0), (iv 0), (.slice none 0 0)] (fun fb => by kernel_rfl) (by kernel_rfl) rfl [] (by decide) (by decide) (fun w1237 hS1238 => ?_)
  refine ⟨trivial, ?_⟩
  refine seg 3 [] [4, 5] [(4, (pt g1227)), (5, (iv 1))] [] (fun fb => by kernel_rfl) rfl trivial ?_
  refine WL.done rfl ?_
  refine WX.next ?_
  refine WC.ret ?_
  have hS1239 := hS1238.nilrow 3 encInt
  injection hf with hf
  subst hf
  exact WX.thenR (WX.ret_ [.v (iv 0), .v (iv 0), .v (.slice none 0 0)] (.tuple #[(.agg #[(iv 0), (iv 0), (.slice none ([] : List Int).length 0)]), (iv 1)]) [.cell ⟨g1227, 0, none⟩ (iv 0), .cell ⟨g1227, 1, none⟩ (iv 0), .cell ⟨g1227, 2, none⟩ (.slice none 0 0)] (fun fb => by kernel_rfl) ⟨hS1238.cell 0 rfl 0 rfl, hS1238.cell 0 rfl 1 rfl, hS1238.cell 0 rfl 2 rfl, trivial⟩ ⟨_, rfl, none, 0, rfl, (hS1239.sub [0] (by decide)).noR⟩)
 refine WC.condF2 (fun fb => by kernel_rfl) h1236 ?_
 refine WC.skip ?_
 refine WX.next ?_
 refine WC.seq ?_
 refine WC.seq ?_
 refine WC.region ?_
 refine seg 3 [] [0, 1, 4, 16] [(0, (.slice A_p0 p0.length c_p0)), (1, (iv p1)), (4, (pt g1227)), (16, (.bool (decide (p1 < 1))))] [] (fun fb => by kernel_rfl) rfl trivial ?_
 refine WL.cutV (T := Bool) 6 (fun t => [(19, (.bool t)), (0, (.slice A_p0 p0.length c_p0)), (1, (iv p1)), (4, (pt g1227))]) (fun t => ((decide (p1 < 1)) || (decide (p1 > 6))) = t) (fun K => ?_) ?_
 ·
  rcases Bool.eq_false_or_eq_true (decide (p1 < 1)) with h1240 | h1240
  ·
   refine WL.setB 16 h1240 rfl ?_
   refine seg 6 [] [0, 1, 4, 19] [(0, (.slice A_p0 p0.length c_p0)), (1, (iv p1)), (4, (pt g1227)), (19, (.bool true))] [] (fun fb => by kernel_rfl) rfl trivial ?_
   exact WL.toV K true [19, 0, 1, 4] rfl (by first | (rw [h1240]; done) | (rw [h1240]; rfl))
  refine WL.setB 16 h1240 rfl ?_
  refine seg 6 [] [0, 1, 4, 19] [(0, (.slice A_p0 p0.length c_p0)), (1, (iv p1)), (4, (pt g1227)), (19, (.bool (decide (p1 > 6))))] [] (fun fb => by kernel_rfl) rfl trivial ?_
  exact WL.toV K (decide (p1 > 6)) [19, 0, 1, 4] rfl (by first | (rw [h1240]; done) | (rw [h1240]; rfl))
 rintro b1241 rfl
 refine WL.done rfl ?_
 refine WX.next ?_
 rcases br_some hf with ⟨h1242, hf⟩ | ⟨h1242, hf⟩
 ·refine WC.condT2 (fun fb => by kernel_rfl) h1242 ?_
  refine WC.seq ?_
  refine WC.region ?_
  refine seg 1 [] [4, 20] [(4, (pt g1227)), (20, (.agg #[(iv 0), (iv 0), (.slice none 0 0)]))] [] (fun fb => by kernel_rfl) rfl trivial ?_
  refine WL.store hS1235 0 rfl [(0, (iv 0)), (1, (iv 0)), (2, (.slice none 0 0))] #[(iv 0), (iv 0), (.slice none 0 0)] (fun fb => by kernel_rfl) (by kernel_rfl) rfl [] (by decide) (by decide) (fun w1243 hS1244 => ?_)
  refine ⟨trivial, ?_⟩
  refine seg 3 [] [4, 5] [(4, (pt g1227)), (5, (iv 2))] [] (fun fb => by kernel_rfl) rfl trivial ?_
  refine WL.done rfl ?_
  refine WX.next ?_
  refine WC.ret ?_
  have hS1245 := hS1244.nilrow 3 encInt
  injection hf with hf
  subst hf
  exact WX.thenR (WX.ret_ [.v (iv 0), .v (iv 0), .v (.slice none 0 0)] (.tuple #[(.agg #[(iv 0), (iv 0), (.slice none ([] : List Int).length 0)]), (iv 2)]) [.cell ⟨g1227, 0, none⟩ (iv 0), .cell ⟨g1227, 1, none⟩ (iv 0), .cell ⟨g1227, 2, none⟩ (.slice none 0 0)] (fun fb => by kernel_rfl) ⟨hS1244.cell 0 rfl 0 rfl, hS1244.cell 0 rfl 1 rfl, hS1244.cell 0 rfl 2 rfl, trivial⟩ ⟨_, rfl, none, 0, rfl, (hS1245.sub [0] (by decide)).noR⟩)
 refine WC.condF2 (fun fb => by kernel_rfl) h1242 ?_
 refine WC.skip ?_
 refine WX.next ?_
 refine WC.seq ?_
 refine WC.seq ?_
 refine WC.region ?_
 refine seg 2 [] [0, 1, 4, 21, 22] [(0, (.slice A_p0 p0.length c_p0)), (1, (iv p1)), (4, (pt g1227)), (21, (.slice A_p0 p0.length c_p0)), (22, (iv p1))] [] (fun fb => by kernel_rfl) rfl trivial ?_
 obtain ⟨t1267, ht1268, hf⟩ := bind_some hf
 refine WL.call (some 23) 53 #[(.slice A_p0 p0.length c_p0), (iv p1)] (fun fb => by kernel_rfl) (rows_Few_calls _ p0 p1 A_p0 c_p0 t1267 _ (hS1235.rd 0) ht1268) (fun v w1269 hR1270 => ?_)
 obtain ⟨rfl, hk_⟩ := hR1270
 have hS1271 := hS1235.keepN hk_
 refine ⟨trivial, ?_⟩
 refine seg 4 [] [0, 1, 4, 24] [(0, (.slice A_p0 p0.length c_p0)), (1, (iv p1)), (4, (pt g1227)), (24, (.bool (!t1267)))] [] (fun fb => by kernel_rfl) rfl trivial ?_
 refine WL.done rfl ?_
 refine WX.next ?_
 rcases br_some hf with ⟨h1272, hf⟩ | ⟨h1272, hf⟩
 ·refine WC.condT2 (fun fb => by kernel_rfl) h1272 ?_
  refine WC.seq ?_
  refine WC.region ?_
  refine seg 1 [] [4, 25] [(4, (pt g1227)), (25, (.agg #[(iv 0), (iv 0), (.slice none 0 0)]))] [] (fun fb => by kernel_rfl) rfl trivial ?_
  refine WL.store hS1271 0 rfl [(0, (iv 0)), (1, (iv 0)), (2, (.slice none 0 0))] #[(iv 0), (iv 0), (.slice none 0 0)] (fun fb => by kernel_rfl) (by kernel_rfl) rfl [] (by decide) (by decide) (fun w1273 hS1274 => ?_)
  refine ⟨trivial, ?_⟩
  refine seg 3 [] [4, 5] [(4, (pt g1227)), (5, (iv 4))] [] (fun fb => by kernel_rfl) rfl trivial ?_
  refine WL.done rfl ?_
  refine WX.next ?_
  refine WC.ret ?_
  have hS1275 := hS1274.nilrow 3 encInt
  injection hf with hf
  subst hf
  exact WX.thenR (WX.ret_ [.v (iv 0), .v (iv 0), .v (.slice none 0 0)] (.tuple #[(.agg #[(iv 0), (iv 0), (.slice none ([] : List Int).length 0)]), (iv 4)]) [.cell ⟨g1227, 0, none⟩ (iv 0), .cell ⟨g1227, 1, none⟩ (iv 0), .cell ⟨g1227, 2, none⟩ (.slice none 0 0)] (fun fb => by kernel_rfl) ⟨hS1274.cell 0 rfl 0 rfl, hS1274.cell 0 rfl 1 rfl, hS1274.cell 0 rfl 2 rfl, trivial⟩ ⟨_, rfl, none, 0, rfl, (hS1275.sub [0] (by decide)).noR⟩)
 refine WC.condF2 (fun fb => by kernel_rfl) h1272 ?_
 refine WC.skip ?_
 refine WX.next ?_
 refine WC.seq ?_
 refine WC.seq ?_
 refine WC.region ?_
 refine seg 1 [] [0, 1, 4, 6] [(0, (.slice A_p0 p0.length c_p0)), (1, (iv p1)), (4, (pt g1227)), (6, (iv 1))] [] (fun fb => by kernel_rfl) rfl trivial ?_
 refine WL.done rfl ?_
 refine WX.next ?_
 obtain ⟨x4710, hx4711, hf⟩ := bind_some hf
 refine WC.cutN (T := Unit) (fun t => [(4, (pt g1227))]) (fun t w1 => St NoS w w1 [rowR enc_Tile A_p0 c_p0 p0] [blk g1227 (.cells #[(iv 0), (iv 0), (.slice none 0 0)] 27 (0, 0))] ∧ x4710 = .inr t) (fun Kx4710 => ?_) ?_
 ·
  refine WC.block ?_
  refine WC.loop (T := Int) (fun t => [(0, (.slice A_p0 p0.length c_p0)), (1, (iv p1)), (4, (pt g1227)), (6, (iv t))]) (fun n t w1 => St NoS w w1 [rowR enc_Tile A_p0 c_p0 p0] [blk g1227 (.cells #[(iv 0), (iv 0), (.slice none 0 0)] 27 (0, 0))] ∧ torus_Least.l0 n t p0 p1 = some x4710) k 1 [0, 1, 4, 6] rfl ⟨(hS1271.subR [0]).sub [0] (by decide), hx4711⟩ ?_
  rintro k4712 x4709 w4713 ⟨hS4714, hl4715⟩
  cases k4712 with
  | zero => rw [torus_Least.l0] at hl4715; cases hl4715
  | succ k4712 =>
   rw [torus_Least.l0] at hl4715
   refine WC.seq ?_
   refine WC.seq ?_
   refine WC.region ?_
   refine seg 5 [] [0, 1, 4, 6, 30] [(0, (.slice A_p0 p0.length c_p0)), (1, (iv p1)), (4, (pt g1227)), (6, (iv x4709)), (30, (.bool (decide (x4709 ≤ w64 (p1 * p1)))))] [] (fun fb => by kernel_rfl) rfl trivial ?_
   refine WL.done rfl ?_
   refine WX.next ?_
   rcases br_some hl4715 with ⟨h4716, hl4715⟩ | ⟨h4716, hl4715⟩
   ·refine WC.condT2 (fun fb => by kernel_rfl) h4716 ?_
    refine WC.skip ?_
    refine WX.next ?_
    refine WC.seq ?_
    refine WC.block ?_
    refine WC.seq ?_
    refine WC.region ?_
    refine seg 1 [] [0, 1, 4, 6, 7] [(0, (.slice A_p0 p0.length c_p0)), (1, (iv p1)), (4, (pt g1227)), (6, (iv x4709)), (7, (iv 1))] [] (fun fb => by kernel_rfl) rfl trivial ?_
    refine WL.done rfl ?_
    refine WX.next ?_
    obtain ⟨x4813, hx4814, hl4715⟩ := bind_some hl4715
    refine WC.cutN (T := Unit) (fun t => [(0, (.slice A_p0 p0.length c_p0)), (1, (iv p1)), (4, (pt g1227)), (6, (iv x4709))]) (fun t w1 => St NoS w w1 [rowR enc_Tile A_p0 c_p0 p0] [blk g1227 (.cells #[(iv 0), (iv 0), (.slice none 0 0)] 27 (0, 0))] ∧ x4813 = .inr t) (fun Kx4813 => ?_) ?_
    ·
     refine WC.block ?_
     refine WC.loop (T := Int) (fun t => [(0, (.slice A_p0 p0.length c_p0)), (1, (iv p1)), (4, (pt g1227)), (6, (iv x4709)), (7, (iv t))]) (fun n t w1 => St NoS w w1 [rowR enc_Tile A_p0 c_p0 p0] [blk g1227 (.cells #[(iv 0), (iv 0), (.slice none 0 0)] 27 (0, 0))] ∧ torus_Least.l1 n t p0 p1 x4709 = some x4813) k4712 1 [0, 1, 4, 6, 7] rfl ⟨(hS4714.subR [0]).sub [0] (by decide), hx4814⟩ ?_
     rintro k4815 x4812 w4816 ⟨hS4817, hl4818⟩
     cases k4815 with
     | zero => rw [torus_Least.l1] at hl4818; cases hl4818
     | succ k4815 =>
      rw [torus_Least.l1] at hl4818
      refine WC.seq ?_
      refine WC.seq ?_
      refine WC.region ?_
      refine seg 3 [] [0, 1, 4, 6, 7, 35] [(0, (.slice A_p0 p0.length c_p0)), (1, (iv p1)), (4, (pt g1227)), (6, (iv x4709)), (7, (iv x4812)), (35, (.bool (decide (x4812 ≤ p1))))] [] (fun fb => by kernel_rfl) rfl trivial ?_
      refine WL.done rfl ?_
      refine WX.next ?_
      rcases br_some hl4818 with ⟨h4819, hl4818⟩ | ⟨h4819, hl4818⟩
      ·refine WC.condT2 (fun fb => by kernel_rfl) h4819 ?_
       refine WC.skip ?_
       refine WX.next ?_
       refine WC.seq ?_
       obtain ⟨x4840, hx4841, hl4818⟩ := bind_some hl4818
       refine WC.cutN (T := Unit) (fun t => [(0, (.slice A_p0 p0.length c_p0)), (1, (iv p1)), (4, (pt g1227)), (6, (iv x4709)), (7, (iv x4812))]) (fun t w1 => St NoS w w1 [rowR enc_Tile A_p0 c_p0 p0] [blk g1227 (.cells #[(iv 0), (iv 0), (.slice none 0 0)] 27 (0, 0))] ∧ x4840 = .inr t) (fun Kx4840 => ?_) ?_
       ·
        refine WC.block ?_
        refine WC.seq ?_
        refine WC.seq ?_
        refine WC.region ?_
        refine seg 2 [] [0, 1, 4, 6, 7, 38, 39] [(0, (.slice A_p0 p0.length c_p0)), (1, (iv p1)), (4, (pt g1227)), (6, (iv x4709)), (7, (iv x4812)), (38, (iv x4709)), (39, (iv x4812))] [] (fun fb => by kernel_rfl) rfl trivial ?_
        obtain ⟨h4842, hx4841⟩ := as_some hx4841
        refine seg 5 [] [0, 1, 4, 6, 7, 42] [(0, (.slice A_p0 p0.length c_p0)), (1, (iv p1)), (4, (pt g1227)), (6, (iv x4709)), (7, (iv x4812)), (42, (.bool ((Int.tmod x4709 x4812) != 0)))] [.ne x4812] (fun fb => by kernel_rfl) rfl ⟨h4842, trivial⟩ ?_
        refine WL.cutV (T := Bool) 11 (fun t => [(48, (.bool t)), (0, (.slice A_p0 p0.length c_p0)), (1, (iv p1)), (4, (pt g1227)), (6, (iv x4709)), (7, (iv x4812))]) (fun t => (((Int.tmod x4709 x4812) != 0) || (decide (w64 (Int.tdiv x4709 x4812) > p1))) = t) (fun K => ?_) ?_
        ·
         rcases Bool.eq_false_or_eq_true ((Int.tmod x4709 x4812) != 0) with h4843 | h4843
         ·
          refine WL.setB 42 h4843 rfl ?_
          refine seg 11 [] [0, 1, 4, 6, 7, 48] [(0, (.slice A_p0 p0.length c_p0)), (1, (iv p1)), (4, (pt g1227)), (6, (iv x4709)), (7, (iv x4812)), (48, (.bool true))] [] (fun fb => by kernel_rfl) rfl trivial ?_
          exact WL.toV K true [48, 0, 1, 4, 6, 7] rfl (by first | (rw [h4843]; done) | (rw [h4843]; rfl))
         refine WL.setB 42 h4843 rfl ?_
         refine seg 11 [] [0, 1, 4, 6, 7, 48] [(0, (.slice A_p0 p0.length c_p0)), (1, (iv p1)), (4, (pt g1227)), (6, (iv x4709)), (7, (iv x4812)), (48, (.bool (decide (w64 (Int.tdiv x4709 x4812) > p1))))] [.ne x4812] (fun fb => by kernel_rfl) rfl ⟨h4842, trivial⟩ ?_
         exact WL.toV K (decide (w64 (Int.tdiv x4709 x4812) > p1)) [48, 0, 1, 4, 6, 7] rfl (by first | (rw [h4843]; done) | (rw [h4843]; rfl))
        rintro b4844 rfl
        refine WL.done rfl ?_
        refine WX.next ?_
        rcases br_some hx4841 with ⟨h4845, hx4841⟩ | ⟨h4845, hx4841⟩
        ·refine WC.condT2 (fun fb => by kernel_rfl) h4845 ?_
         refine WC.exit ?_
         injection hx4841 with hx4841
         exact WX.thenX (WX.blockHere (WX.to Kx4840 () [0, 1, 4, 6, 7] rfl ⟨(hS4817.subR [0]).sub [0] (by decide), hx4841.symm⟩))
        refine WC.condF2 (fun fb => by kernel_rfl) h4845 ?_
        refine WC.skip ?_
        refine WX.next ?_
        refine WC.seq ?_
        refine WC.region ?_
        refine seg 5 [] [0, 1, 4, 6, 7, 50, 51, 54] [(0, (.slice A_p0 p0.length c_p0)), (1, (iv p1)), (4, (pt g1227)), (6, (iv x4709)), (7, (iv x4812)), (50, (.slice A_p0 p0.length c_p0)), (51, (iv x4812)), (54, (iv (w64 (Int.tdiv x4709 x4812))))] [.ne x4812] (fun fb => by kernel_rfl) rfl ⟨h4842, trivial⟩ ?_
        obtain ⟨t4846, ht4847, hx4841⟩ := bind_some hx4841
        refine WL.call (some 55) 54 #[(.slice A_p0 p0.length c_p0), (iv x4812), (iv (w64 (Int.tdiv x4709 x4812)))] (fun fb => by kernel_rfl) (torus_find_calls _ p0 x4812 (w64 (Int.tdiv x4709 x4812)) A_p0 c_p0 t4846 _ (hS4817.rd 0) ht4847) (fun v w4848 hR4849 => ?_)
        obtain ⟨A4851, c4852, rfl, hk_⟩ := hR4849
        have hS4850 : St NoS w w4848 [rowR enc_Tile A_p0 c_p0 p0] [rowO 3 encInt A4851 c4852 t4846.1.Cells, blk g1227 (.cells #[(iv 0), (iv 0), (.slice none 0 0)] 27 (0, 0))] := hS4817.call hk_ [] [0] (fun g hg => hg.elim) (by simp) (by decide)
        refine ⟨trivial, ?_⟩
        refine seg 9 [] [0, 1, 4, 6, 7, 56, 57] [(0, (.slice A_p0 p0.length c_p0)), (1, (iv p1)), (4, (pt g1227)), (6, (iv x4709)), (7, (iv x4812)), (56, (.agg #[(iv t4846.1.Width), (iv t4846.1.Height), (.slice A4851 t4846.1.Cells.length c4852)])), (57, (.bool t4846.2))] [] (fun fb => by kernel_rfl) rfl trivial ?_
        refine WL.new hS4850 8 [] (fun g => (.pointer (some ⟨g, 0, none⟩))) (.cells #[(iv 0), (iv 0), (.slice none 0 0)] 27 (0, 0)) [] (fun fb g => by kernel_rfl) trivial (fun g4853 w4854 hS4855 => ?_)
        refine ⟨trivial, ?_⟩
        refine WL.store hS4855 0 rfl [(0, (iv t4846.1.Width)), (1, (iv t4846.1.Height)), (2, (.slice A4851 t4846.1.Cells.length c4852))] #[(iv t4846.1.Width), (iv t4846.1.Height), (.slice A4851 t4846.1.Cells.length c4852)] (fun fb => by kernel_rfl) (by kernel_rfl) rfl [1, 2] (by decide) (by decide) (fun w4857 hS4858 => ?_)
        refine ⟨trivial, ?_⟩
        refine seg 12 [] [0, 1, 4, 6, 7, 8, 9] [(0, (.slice A_p0 p0.length c_p0)), (1, (iv p1)), (4, (pt g1227)), (6, (iv x4709)), (7, (iv x4812)), (8, (pt g4853)), (9, (.bool t4846.2))] [] (fun fb => by kernel_rfl) rfl trivial ?_
        refine WL.done rfl ?_
        refine WX.next ?_
        refine WC.seq ?_
        refine WC.region ?_
        refine seg 1 [] [0, 1, 4, 6, 7, 8, 58] [(0, (.slice A_p0 p0.length c_p0)), (1, (iv p1)), (4, (pt g1227)), (6, (iv x4709)), (7, (iv x4812)), (8, (pt g4853)), (58, (.bool t4846.2))] [] (fun fb => by kernel_rfl) rfl trivial ?_
        refine WL.done rfl ?_
        refine WX.next ?_
        rcases br_some hx4841 with ⟨h4859, hx4841⟩ | ⟨h4859, hx4841⟩
        ·refine WC.condT2 (fun fb => by kernel_rfl) h4859 ?_
         refine WC.seq ?_
         refine WC.region ?_
         refine seg 1 [.v (iv t4846.1.Width), .v (iv t4846.1.Height), .v (.slice A4851 t4846.1.Cells.length c4852)] [4, 59] [(4, (pt g1227)), (59, (.agg #[(iv t4846.1.Width), (iv t4846.1.Height), (.slice A4851 t4846.1.Cells.length c4852)]))] [.cell ⟨g4853, 0, none⟩ (iv t4846.1.Width), .cell ⟨g4853, 1, none⟩ (iv t4846.1.Height), .cell ⟨g4853, 2, none⟩ (.slice A4851 t4846.1.Cells.length c4852)] (fun fb => by kernel_rfl) rfl ⟨hS4858.cell 0 rfl 0 rfl, hS4858.cell 0 rfl 1 rfl, hS4858.cell 0 rfl 2 rfl, trivial⟩ ?_
         refine WL.store hS4858 2 rfl [(0, (iv t4846.1.Width)), (1, (iv t4846.1.Height)), (2, (.slice A4851 t4846.1.Cells.length c4852))] #[(iv t4846.1.Width), (iv t4846.1.Height), (.slice A4851 t4846.1.Cells.length c4852)] (fun fb => by kernel_rfl) (by kernel_rfl) rfl [0, 1] (by decide) (by decide) (fun w4860 hS4861 => ?_)
         refine ⟨trivial, ?_⟩
         refine seg 3 [] [4, 5] [(4, (pt g1227)), (5, (iv 0))] [] (fun fb => by kernel_rfl) rfl trivial ?_
         refine WL.done rfl ?_
         refine WX.next ?_
         refine WC.ret ?_
         injection hx4841 with hx4841
         subst hx4841
         injection hl4818 with hl4818
         subst hl4818
         injection hl4715 with hl4715
         subst hl4715
         injection hf with hf
         subst hf
         exact WX.blockR (WX.thenR (WX.thenR (WX.blockR (WX.blockR (WX.thenR (WX.thenR (WX.blockR (WX.thenR (WX.ret_ [.v (iv t4846.1.Width), .v (iv t4846.1.Height), .v (.slice A4851 t4846.1.Cells.length c4852)] (.tuple #[(.agg #[(iv t4846.1.Width), (iv t4846.1.Height), (.slice A4851 t4846.1.Cells.length c4852)]), (iv 0)]) [.cell ⟨g1227, 0, none⟩ (iv t4846.1.Width), .cell ⟨g1227, 1, none⟩ (iv t4846.1.Height), .cell ⟨g1227, 2, none⟩ (.slice A4851 t4846.1.Cells.length c4852)] (fun fb => by kernel_rfl) ⟨hS4861.cell 0 rfl 0 rfl, hS4861.cell 0 rfl 1 rfl, hS4861.cell 0 rfl 2 rfl, trivial⟩ ⟨_, rfl, A4851, c4852, rfl, (hS4861.sub [2] (by decide)).noR⟩)))))))))
        refine WC.condF2 (fun fb => by kernel_rfl) h4859 ?_
        refine WC.skip ?_
        injection hx4841 with hx4841
        exact WX.blockN (WX.to Kx4840 () [0, 1, 4, 6, 7] rfl ⟨(hS4858.subR [0]).sub [2] (by decide), hx4841.symm⟩)
       rintro y4865 w4862 ⟨hS4863, hq4864⟩
       subst hq4864
       have hl4818 := sum_inr hl4818
       refine WX.next ?_
       refine WC.region ?_
       refine seg 3 [] [0, 1, 4, 6, 7] [(0, (.slice A_p0 p0.length c_p0)), (1, (iv p1)), (4, (pt g1227)), (6, (iv x4709)), (7, (iv (w64 (x4812 + 1))))] [] (fun fb => by kernel_rfl) rfl trivial ?_
       refine WL.done rfl ?_
       exact WX.again k4815 (Nat.lt_succ_self _) (w64 (x4812 + 1)) [0, 1, 4, 6, 7] rfl ⟨(hS4863.subR [0]).sub [0] (by decide), hl4818⟩
      refine WC.condF2 (fun fb => by kernel_rfl) h4819 ?_
      refine WC.exit ?_
      injection hl4818 with hl4818
      exact WX.thenX (WX.thenX (WX.blockHere (WX.to Kx4813 () [0, 1, 4, 6] rfl ⟨(hS4817.subR [0]).sub [0] (by decide), hl4818.symm⟩)))
    rintro y4870 w4867 ⟨hS4868, hq4869⟩
    subst hq4869
    have hl4715 := sum_inr hl4715
    refine WX.blockN (WX.next ?_)
    refine WC.region ?_
    refine seg 3 [] [0, 1, 4, 6] [(0, (.slice A_p0 p0.length c_p0)), (1, (iv p1)), (4, (pt g1227)), (6, (iv (w64 (x4709 + 1))))] [] (fun fb => by kernel_rfl) rfl trivial ?_
    refine WL.done rfl ?_
    exact WX.again k4712 (Nat.lt_succ_self _) (w64 (x4709 + 1)) [0, 1, 4, 6] rfl ⟨(hS4868.subR [0]).sub [0] (by decide), hl4715⟩
   refine WC.condF2 (fun fb => by kernel_rfl) h4716 ?_
   refine WC.exit ?_
   injection hl4715 with hl4715
   exact WX.thenX (WX.thenX (WX.blockHere (WX.to Kx4710 () [4] rfl ⟨(hS4714.subR [0]).sub [0] (by decide), hl4715.symm⟩)))
 rintro y4875 w4872 ⟨hS4873, hq4874⟩
 subst hq4874
 have hf := sum_inr hf
 refine WX.next ?_
 refine WC.seq ?_
 refine WC.region ?_
 refine seg 1 [] [4, 60] [(4, (pt g1227)), (60, (.agg #[(iv 0), (iv 0), (.slice none 0 0)]))] [] (fun fb => by kernel_rfl) rfl trivial ?_
 refine WL.store hS4873 0 rfl [(0, (iv 0)), (1, (iv 0)), (2, (.slice none 0 0))] #[(iv 0), (iv 0), (.slice none 0 0)] (fun fb => by kernel_rfl) (by kernel_rfl) rfl [] (by decide) (by decide) (fun w4877 hS4878 => ?_)
 refine ⟨trivial, ?_⟩
 refine seg 3 [] [4, 5] [(4, (pt g1227)), (5, (iv 6))] [] (fun fb => by kernel_rfl) rfl trivial ?_
 refine WL.done rfl ?_
 refine WX.next ?_
 refine WC.ret ?_
 have hS4879 := hS4878.nilrow 3 encInt
 injection hf with hf
 subst hf
 exact WX.ret_ [.v (iv 0), .v (iv 0), .v (.slice none 0 0)] (.tuple #[(.agg #[(iv 0), (iv 0), (.slice none ([] : List Int).length 0)]), (iv 6)]) [.cell ⟨g1227, 0, none⟩ (iv 0), .cell ⟨g1227, 1, none⟩ (iv 0), .cell ⟨g1227, 2, none⟩ (.slice none 0 0)] (fun fb => by kernel_rfl) ⟨hS4878.cell 0 rfl 0 rfl, hS4878.cell 0 rfl 1 rfl, hS4878.cell 0 rfl 2 rfl, trivial⟩ ⟨_, rfl, none, 0, rfl, (hS4879.sub [0] (by decide)).noR⟩
theorem torus_Find_calls (k : Nat) (p0 : List Tile) (p1 : Int) (p2 : Int) (A_p0 : Option Addr) (c_p0 : Nat) (r : Pattern × Int) (w : World) (hR0 : RO NoS w (rowR enc_Tile A_p0 c_p0 p0)) (hf : torus_Find k p0 p1 p2 = some r) :
  CallsR Tryd.prog 16 #[(.slice A_p0 p0.length c_p0), (iv p1), (iv p2)] w (fun v w' => ∃ (A1_ : Option Addr), ∃ (c1_ : Nat), v = (.tuple #[(.agg #[(iv r.1.Width), (iv r.1.Height), (.slice A1_ r.1.Cells.length c1_)]), (iv r.2)]) ∧ St NoS w w' [] [rowO 3 encInt A1_ c1_ r.1.Cells]) := by
 have hS : St NoS w w [rowR enc_Tile A_p0 c_p0 p0] [] := St.init (ro_cons hR0 (ro_nil _ _))
 refine enter 45 Tryd.func16 rfl Tryd.ntmps16 rfl ?_
 unfold torus_Find at hf
 refine WC.seq ?_
 refine WC.region ?_
 refine WL.new hS 6 [] (fun g => (.pointer (some ⟨g, 0, none⟩))) (.cells #[(iv 0), (iv 0), (.slice none 0 0)] 27 (0, 0)) [] (fun fb g => by kernel_rfl) trivial (fun g4893 w4894 hS4895 => ?_)
 refine ⟨trivial, ?_⟩
 refine seg 2 [] [0, 1, 2, 6] [(0, (.slice A_p0 p0.length c_p0)), (1, (iv p1)), (2, (iv p2)), (6, (pt g4893))] [] (fun fb => by kernel_rfl) rfl trivial ?_
 refine WL.done rfl ?_
 refine WX.next ?_
 refine WC.seq ?_
 refine WC.seq ?_
 refine WC.region ?_
 refine seg 1 [] [0, 1, 2, 6, 10] [(0, (.slice A_p0 p0.length c_p0)), (1, (iv p1)), (2, (iv p2)), (6, (pt g4893)), (10, (.slice A_p0 p0.length c_p0))] [] (fun fb => by kernel_rfl) rfl trivial ?_
 obtain ⟨t4897, ht4898, hf⟩ := bind_some hf
 refine WL.call (some 11) 52 #[(.slice A_p0 p0.length c_p0)] (fun fb => by kernel_rfl) (tile_Valid_calls _ p0 A_p0 c_p0 t4897 _ (hS4895.rd 0) ht4898) (fun v w4899 hR4900 => ?_)
 obtain ⟨rfl, hk_⟩ := hR4900
 have hS4901 := hS4895.keepN hk_
 refine ⟨trivial, ?_⟩
 refine seg 3 [] [0, 1, 2, 6, 12] [(0, (.slice A_p0 p0.length c_p0)), (1, (iv p1)), (2, (iv p2)), (6, (pt g4893)), (12, (.bool (!t4897)))] [] (fun fb => by kernel_rfl) rfl trivial ?_
 refine WL.done rfl ?_
 refine WX.next ?_
 rcases br_some hf with ⟨h4902, hf⟩ | ⟨h4902, hf⟩
 ·refine WC.condT2 (fun fb => by kernel_rfl) h4902 ?_
  refine WC.seq ?_
  refine WC.region ?_
  refine seg 1 [] [6, 13] [(6, (pt g4893)), (13, (.agg #[(iv 0), (iv 0), (.slice none 0 0)]))] [] (fun fb => by kernel_rfl) rfl trivial ?_
  refine WL.store hS4901 0 rfl [(0, (iv 0)), (1, (iv 0)), (2, (.slice none 0 0))] #[(iv 0), (iv 0), (.slice none 0 0)] (fun fb => by kernel_rfl) (by kernel_rfl) rfl [] (by decide) (by decide) (fun w4903 hS4904 => ?_)
  refine ⟨trivial, ?_⟩
  refine seg 3 [] [6, 7] [(6, (pt g4893)), (7, (iv 1))] [] (fun fb => by kernel_rfl) rfl trivial ?_
  refine WL.done rfl ?_
  refine WX.next ?_
  refine WC.ret ?_
  have hS4905 := hS4904.nilrow 3 encInt
  injection hf with hf
  subst hf
  exact WX.thenR (WX.ret_ [.v (iv 0), .v (iv 0), .v (.slice none 0 0)] (.tuple #[(.agg #[(iv 0), (iv 0), (.slice none ([] : List Int).length 0)]), (iv 1)]) [.cell ⟨g4893, 0, none⟩ (iv 0), .cell ⟨g4893, 1, none⟩ (iv 0), .cell ⟨g4893, 2, none⟩ (.slice none 0 0)] (fun fb => by kernel_rfl) ⟨hS4904.cell 0 rfl 0 rfl, hS4904.cell 0 rfl 1 rfl, hS4904.cell 0 rfl 2 rfl, trivial⟩ ⟨_, rfl, none, 0, rfl, (hS4905.sub [0] (by decide)).noR⟩)
 refine WC.condF2 (fun fb => by kernel_rfl) h4902 ?_
 refine WC.skip ?_
 refine WX.next ?_
 refine WC.seq ?_
 refine WC.seq ?_
 refine WC.region ?_
 refine seg 3 [] [0, 1, 2, 6, 16] [(0, (.slice A_p0 p0.length c_p0)), (1, (iv p1)), (2, (iv p2)), (6, (pt g4893)), (16, (.bool (decide (p1 < 1))))] [] (fun fb => by kernel_rfl) rfl trivial ?_
 refine WL.cutV (T := Bool) 6 (fun t => [(19, (.bool t)), (0, (.slice A_p0 p0.length c_p0)), (1, (iv p1)), (2, (iv p2)), (6, (pt g4893))]) (fun t => ((decide (p1 < 1)) || (decide (p1 > 6))) = t) (fun K => ?_) ?_
 ·
  rcases Bool.eq_false_or_eq_true (decide (p1 < 1)) with h4906 | h4906
  ·
   refine WL.setB 16 h4906 rfl ?_
   refine seg 6 [] [0, 1, 2, 6, 19] [(0, (.slice A_p0 p0.length c_p0)), (1, (iv p1)), (2, (iv p2)), (6, (pt g4893)), (19, (.bool true))] [] (fun fb => by kernel_rfl) rfl trivial ?_
   exact WL.toV K true [19, 0, 1, 2, 6] rfl (by first | (rw [h4906]; done) | (rw [h4906]; rfl))
  refine WL.setB 16 h4906 rfl ?_
  refine seg 6 [] [0, 1, 2, 6, 19] [(0, (.slice A_p0 p0.length c_p0)), (1, (iv p1)), (2, (iv p2)), (6, (pt g4893)), (19, (.bool (decide (p1 > 6))))] [] (fun fb => by kernel_rfl) rfl trivial ?_
  exact WL.toV K (decide (p1 > 6)) [19, 0, 1, 2, 6] rfl (by first | (rw [h4906]; done) | (rw [h4906]; rfl))
 rintro b4907 rfl
 refine seg 7 [] [0, 1, 2, 6, 20] [(0, (.slice A_p0 p0.length c_p0)), (1, (iv p1)), (2, (iv p2)), (6, (pt g4893)), (20, (.bool ((decide (p1 < 1)) || (decide (p1 > 6)))))] [] (fun fb => by kernel_rfl) rfl trivial ?_
 refine WL.cutV (T := Bool) 10 (fun t => [(23, (.bool t)), (0, (.slice A_p0 p0.length c_p0)), (1, (iv p1)), (2, (iv p2)), (6, (pt g4893))]) (fun t => (((decide (p1 < 1)) || (decide (p1 > 6))) || (decide (p2 < 1))) = t) (fun K => ?_) ?_
 ·
  rcases Bool.eq_false_or_eq_true ((decide (p1 < 1)) || (decide (p1 > 6))) with h4908 | h4908
  ·
   refine WL.setB 20 h4908 rfl ?_
   refine seg 10 [] [0, 1, 2, 6, 23] [(0, (.slice A_p0 p0.length c_p0)), (1, (iv p1)), (2, (iv p2)), (6, (pt g4893)), (23, (.bool true))] [] (fun fb => by kernel_rfl) rfl trivial ?_
   exact WL.toV K true [23, 0, 1, 2, 6] rfl (by first | (rw [h4908]; done) | (rw [h4908]; rfl))
  refine WL.setB 20 h4908 rfl ?_
  refine seg 10 [] [0, 1, 2, 6, 23] [(0, (.slice A_p0 p0.length c_p0)), (1, (iv p1)), (2, (iv p2)), (6, (pt g4893)), (23, (.bool (decide (p2 < 1))))] [] (fun fb => by kernel_rfl) rfl trivial ?_
  exact WL.toV K (decide (p2 < 1)) [23, 0, 1, 2, 6] rfl (by first | (rw [h4908]; done) | (rw [h4908]; rfl))
 rintro b4909 rfl
 refine seg 11 [] [0, 1, 2, 6, 24] [(0, (.slice A_p0 p0.length c_p0)), (1, (iv p1)), (2, (iv p2)), (6, (pt g4893)), (24, (.bool (((decide (p1 < 1)) || (decide (p1 > 6))) || (decide (p2 < 1)))))] [] (fun fb => by kernel_rfl) rfl trivial ?_
 refine WL.cutV (T := Bool) 14 (fun t => [(27, (.bool t)), (0, (.slice A_p0 p0.length c_p0)), (1, (iv p1)), (2, (iv p2)), (6, (pt g4893))]) (fun t => ((((decide (p1 < 1)) || (decide (p1 > 6))) || (decide (p2 < 1))) || (decide (p2 > 6))) = t) (fun K => ?_) ?_
 ·
  rcases Bool.eq_false_or_eq_true (((decide (p1 < 1)) || (decide (p1 > 6))) || (decide (p2 < 1))) with h4910 | h4910
  ·
   refine WL.setB 24 h4910 rfl ?_
   refine seg 14 [] [0, 1, 2, 6, 27] [(0, (.slice A_p0 p0.length c_p0)), (1, (iv p1)), (2, (iv p2)), (6, (pt g4893)), (27, (.bool true))] [] (fun fb => by kernel_rfl) rfl trivial ?_
   exact WL.toV K true [27, 0, 1, 2, 6] rfl (by first | (rw [h4910]; done) | (rw [h4910]; rfl))
  refine WL.setB 24 h4910 rfl ?_
  refine seg 14 [] [0, 1, 2, 6, 27] [(0, (.slice A_p0 p0.length c_p0)), (1, (iv p1)), (2, (iv p2)), (6, (pt g4893)), (27, (.bool (decide (p2 > 6))))] [] (fun fb => by kernel_rfl) rfl trivial ?_
  exact WL.toV K (decide (p2 > 6)) [27, 0, 1, 2, 6] rfl (by first | (rw [h4910]; done) | (rw [h4910]; rfl))
 rintro b4911 rfl
 refine WL.done rfl ?_
 refine WX.next ?_
 rcases br_some hf with ⟨h4912, hf⟩ | ⟨h4912, hf⟩
 ·refine WC.condT2 (fun fb => by kernel_rfl) h4912 ?_
  refine WC.seq ?_
  refine WC.region ?_
  refine seg 1 [] [6, 28] [(6, (pt g4893)), (28, (.agg #[(iv 0), (iv 0), (.slice none 0 0)]))] [] (fun fb => by kernel_rfl) rfl trivial ?_
  refine WL.store hS4901 0 rfl [(0, (iv 0)), (1, (iv 0)), (2, (.slice none 0 0))] #[(iv 0), (iv 0), (.slice none 0 0)] (fun fb => by kernel_rfl) (by kernel_rfl) rfl [] (by decide) (by decide) (fun w4913 hS4914 => ?_)
  refine ⟨trivial, ?_⟩
  refine seg 3 [] [6, 7] [(6, (pt g4893)), (7, (iv 2))] [] (fun fb => by kernel_rfl) rfl trivial ?_
  refine WL.done rfl ?_
  refine WX.next ?_
  refine WC.ret ?_
  have hS4915 := hS4914.nilrow 3 encInt
  injection hf with hf
  subst hf
  exact WX.thenR (WX.ret_ [.v (iv 0), .v (iv 0), .v (.slice none 0 0)] (.tuple #[(.agg #[(iv 0), (iv 0), (.slice none ([] : List Int).length 0)]), (iv 2)]) [.cell ⟨g4893, 0, none⟩ (iv 0), .cell ⟨g4893, 1, none⟩ (iv 0), .cell ⟨g4893, 2, none⟩ (.slice none 0 0)] (fun fb => by kernel_rfl) ⟨hS4914.cell 0 rfl 0 rfl, hS4914.cell 0 rfl 1 rfl, hS4914.cell 0 rfl 2 rfl, trivial⟩ ⟨_, rfl, none, 0, rfl, (hS4915.sub [0] (by decide)).noR⟩)
 refine WC.condF2 (fun fb => by kernel_rfl) h4912 ?_
 refine WC.skip ?_
 refine WX.next ?_
 refine WC.seq ?_
 refine WC.seq ?_
 refine WC.region ?_
 refine seg 2 [] [0, 1, 2, 6, 29, 30] [(0, (.slice A_p0 p0.length c_p0)), (1, (iv p1)), (2, (iv p2)), (6, (pt g4893)), (29, (.slice A_p0 p0.length c_p0)), (30, (iv p1))] [] (fun fb => by kernel_rfl) rfl trivial ?_
 obtain ⟨t4916, ht4917, hf⟩ := bind_some hf
 refine WL.call (some 31) 53 #[(.slice A_p0 p0.length c_p0), (iv p1)] (fun fb => by kernel_rfl) (rows_Few_calls _ p0 p1 A_p0 c_p0 t4916 _ (hS4901.rd 0) ht4917) (fun v w4918 hR4919 => ?_)
 obtain ⟨rfl, hk_⟩ := hR4919
 have hS4920 := hS4901.keepN hk_
 refine ⟨trivial, ?_⟩
 refine seg 4 [] [0, 1, 2, 6, 32] [(0, (.slice A_p0 p0.length c_p0)), (1, (iv p1)), (2, (iv p2)), (6, (pt g4893)), (32, (.bool (!t4916)))] [] (fun fb => by kernel_rfl) rfl trivial ?_
 refine WL.done rfl ?_
 refine WX.next ?_
 rcases br_some hf with ⟨h4921, hf⟩ | ⟨h4921, hf⟩
 ·refine WC.condT2 (fun fb => by kernel_rfl) h4921 ?_
  refine WC.seq ?_
  refine WC.region ?_
  refine seg 1 [] [6, 33] [(6, (pt g4893)), (33, (.agg #[(iv 0), (iv 0), (.slice none 0 0)]))] [] (fun fb => by kernel_rfl) rfl trivial ?_
  refine WL.store hS4920 0 rfl [(0, (iv 0)), (1, (iv 0)), (2, (.slice none 0 0))] #[(iv 0), (iv 0), (.slice none 0 0)] (fun fb => by kernel_rfl) (by kernel_rfl) rfl [] (by decide) (by decide) (fun w4922 hS4923 => ?_)
  refine ⟨trivial, ?_⟩
  refine seg 3 [] [6, 7] [(6, (pt g4893)), (7, (iv 4))] [] (fun fb => by kernel_rfl) rfl trivial ?_
  refine WL.done rfl ?_
  refine WX.next ?_
  refine WC.ret ?_
  have hS4924 := hS4923.nilrow 3 encInt
  injection hf with hf
  subst hf
  exact WX.thenR (WX.ret_ [.v (iv 0), .v (iv 0), .v (.slice none 0 0)] (.tuple #[(.agg #[(iv 0), (iv 0), (.slice none ([] : List Int).length 0)]), (iv 4)]) [.cell ⟨g4893, 0, none⟩ (iv 0), .cell ⟨g4893, 1, none⟩ (iv 0), .cell ⟨g4893, 2, none⟩ (.slice none 0 0)] (fun fb => by kernel_rfl) ⟨hS4923.cell 0 rfl 0 rfl, hS4923.cell 0 rfl 1 rfl, hS4923.cell 0 rfl 2 rfl, trivial⟩ ⟨_, rfl, none, 0, rfl, (hS4924.sub [0] (by decide)).noR⟩)
 refine WC.condF2 (fun fb => by kernel_rfl) h4921 ?_
 refine WC.skip ?_
 refine WX.next ?_
 refine WC.seq ?_
 refine WC.region ?_
 refine seg 3 [] [6, 35, 36, 37] [(6, (pt g4893)), (35, (.slice A_p0 p0.length c_p0)), (36, (iv p1)), (37, (iv p2))] [] (fun fb => by kernel_rfl) rfl trivial ?_
 obtain ⟨t4925, ht4926, hf⟩ := bind_some hf
 refine WL.call (some 38) 54 #[(.slice A_p0 p0.length c_p0), (iv p1), (iv p2)] (fun fb => by kernel_rfl) (torus_find_calls _ p0 p1 p2 A_p0 c_p0 t4925 _ (hS4920.rd 0) ht4926) (fun v w4927 hR4928 => ?_)
 obtain ⟨A4930, c4931, rfl, hk_⟩ := hR4928
 have hS4929 : St NoS w w4927 [rowR enc_Tile A_p0 c_p0 p0] [rowO 3 encInt A4930 c4931 t4925.1.Cells, blk g4893 (.cells #[(iv 0), (iv 0), (.slice none 0 0)] 27 (0, 0))] := hS4920.call hk_ [] [0] (fun g hg => hg.elim) (by simp) (by decide)
 refine ⟨trivial, ?_⟩
 refine seg 7 [] [6, 39, 40] [(6, (pt g4893)), (39, (.agg #[(iv t4925.1.Width), (iv t4925.1.Height), (.slice A4930 t4925.1.Cells.length c4931)])), (40, (.bool t4925.2))] [] (fun fb => by kernel_rfl) rfl trivial ?_
 refine WL.new hS4929 8 [] (fun g => (.pointer (some ⟨g, 0, none⟩))) (.cells #[(iv 0), (iv 0), (.slice none 0 0)] 27 (0, 0)) [] (fun fb g => by kernel_rfl) trivial (fun g4932 w4933 hS4934 => ?_)
 refine ⟨trivial, ?_⟩
 refine WL.store hS4934 0 rfl [(0, (iv t4925.1.Width)), (1, (iv t4925.1.Height)), (2, (.slice A4930 t4925.1.Cells.length c4931))] #[(iv t4925.1.Width), (iv t4925.1.Height), (.slice A4930 t4925.1.Cells.length c4931)] (fun fb => by kernel_rfl) (by kernel_rfl) rfl [1, 2] (by decide) (by decide) (fun w4936 hS4937 => ?_)
 refine ⟨trivial, ?_⟩
 refine seg 10 [] [6, 8, 9] [(6, (pt g4893)), (8, (pt g4932)), (9, (.bool t4925.2))] [] (fun fb => by kernel_rfl) rfl trivial ?_
 refine WL.done rfl ?_
 refine WX.next ?_
 refine WC.seq ?_
 refine WC.seq ?_
 refine WC.region ?_
 refine seg 2 [] [6, 8, 42] [(6, (pt g4893)), (8, (pt g4932)), (42, (.bool (!t4925.2)))] [] (fun fb => by kernel_rfl) rfl trivial ?_
 refine WL.done rfl ?_
 refine WX.next ?_
 rcases br_some hf with ⟨h4938, hf⟩ | ⟨h4938, hf⟩
 ·refine WC.condT2 (fun fb => by kernel_rfl) h4938 ?_
  refine WC.seq ?_
  refine WC.region ?_
  refine seg 1 [] [6, 43] [(6, (pt g4893)), (43, (.agg #[(iv 0), (iv 0), (.slice none 0 0)]))] [] (fun fb => by kernel_rfl) rfl trivial ?_
  refine WL.store hS4937 2 rfl [(0, (iv 0)), (1, (iv 0)), (2, (.slice none 0 0))] #[(iv 0), (iv 0), (.slice none 0 0)] (fun fb => by kernel_rfl) (by kernel_rfl) rfl [0, 1] (by decide) (by decide) (fun w4939 hS4940 => ?_)
  refine ⟨trivial, ?_⟩
  refine seg 3 [] [6, 7] [(6, (pt g4893)), (7, (iv 6))] [] (fun fb => by kernel_rfl) rfl trivial ?_
  refine WL.done rfl ?_
  refine WX.next ?_
  refine WC.ret ?_
  have hS4941 := hS4940.nilrow 3 encInt
  injection hf with hf
  subst hf
  exact WX.thenR (WX.ret_ [.v (iv 0), .v (iv 0), .v (.slice none 0 0)] (.tuple #[(.agg #[(iv 0), (iv 0), (.slice none ([] : List Int).length 0)]), (iv 6)]) [.cell ⟨g4893, 0, none⟩ (iv 0), .cell ⟨g4893, 1, none⟩ (iv 0), .cell ⟨g4893, 2, none⟩ (.slice none 0 0)] (fun fb => by kernel_rfl) ⟨hS4940.cell 0 rfl 0 rfl, hS4940.cell 0 rfl 1 rfl, hS4940.cell 0 rfl 2 rfl, trivial⟩ ⟨_, rfl, none, 0, rfl, (hS4941.sub [0] (by decide)).noR⟩)
 refine WC.condF2 (fun fb => by kernel_rfl) h4938 ?_
 refine WC.skip ?_
 refine WX.next ?_
 refine WC.seq ?_
 refine WC.region ?_
 refine seg 1 [.v (iv t4925.1.Width), .v (iv t4925.1.Height), .v (.slice A4930 t4925.1.Cells.length c4931)] [6, 44] [(6, (pt g4893)), (44, (.agg #[(iv t4925.1.Width), (iv t4925.1.Height), (.slice A4930 t4925.1.Cells.length c4931)]))] [.cell ⟨g4932, 0, none⟩ (iv t4925.1.Width), .cell ⟨g4932, 1, none⟩ (iv t4925.1.Height), .cell ⟨g4932, 2, none⟩ (.slice A4930 t4925.1.Cells.length c4931)] (fun fb => by kernel_rfl) rfl ⟨hS4937.cell 0 rfl 0 rfl, hS4937.cell 0 rfl 1 rfl, hS4937.cell 0 rfl 2 rfl, trivial⟩ ?_
 refine WL.store hS4937 2 rfl [(0, (iv t4925.1.Width)), (1, (iv t4925.1.Height)), (2, (.slice A4930 t4925.1.Cells.length c4931))] #[(iv t4925.1.Width), (iv t4925.1.Height), (.slice A4930 t4925.1.Cells.length c4931)] (fun fb => by kernel_rfl) (by kernel_rfl) rfl [0, 1] (by decide) (by decide) (fun w4942 hS4943 => ?_)
 refine ⟨trivial, ?_⟩
 refine seg 3 [] [6, 7] [(6, (pt g4893)), (7, (iv 0))] [] (fun fb => by kernel_rfl) rfl trivial ?_
 refine WL.done rfl ?_
 refine WX.next ?_
 refine WC.ret ?_
 injection hf with hf
 subst hf
 exact WX.ret_ [.v (iv t4925.1.Width), .v (iv t4925.1.Height), .v (.slice A4930 t4925.1.Cells.length c4931)] (.tuple #[(.agg #[(iv t4925.1.Width), (iv t4925.1.Height), (.slice A4930 t4925.1.Cells.length c4931)]), (iv 0)]) [.cell ⟨g4893, 0, none⟩ (iv t4925.1.Width), .cell ⟨g4893, 1, none⟩ (iv t4925.1.Height), .cell ⟨g4893, 2, none⟩ (.slice A4930 t4925.1.Cells.length c4931)] (fun fb => by kernel_rfl) ⟨hS4943.cell 0 rfl 0 rfl, hS4943.cell 0 rfl 1 rfl, hS4943.cell 0 rfl 2 rfl, trivial⟩ ⟨_, rfl, A4930, c4931, rfl, (hS4943.sub [2] (by decide)).noR⟩
theorem ref01_Same_calls (k : Nat) (p0 : List Int) (p1 : List Int) (A_p0 : Option Addr) (c_p0 : Nat) (A_p1 : Option Addr) (c_p1 : Nat) (r : Bool) (w : World) (hR0 : RO NoS w (rowR encInt A_p0 c_p0 p0)) (hR1 : RO NoS w (rowR encInt A_p1 c_p1 p1)) (hf : ref01_Same k p0 p1 = some r) :
  CallsR Tryd.prog 64 #[(.slice A_p0 p0.length c_p0), (.slice A_p1 p1.length c_p1)] w (fun v w' => v = (.bool r) ∧ Keeps NoS w w') := by
 have hS : St NoS w w [rowR encInt A_p0 c_p0 p0, rowR encInt A_p1 c_p1 p1] [] := St.init (ro_cons hR0 (ro_cons hR1 (ro_nil _ _)))
 refine enter 26 Tryd.func64 rfl Tryd.ntmps64 rfl ?_
 unfold ref01_Same at hf
 refine WC.seq ?_
 refine WC.region ?_
 refine seg 1 [] [0, 1] [(0, (.slice A_p0 p0.length c_p0)), (1, (.slice A_p1 p1.length c_p1))] [] (fun fb => by kernel_rfl) rfl trivial ?_
 refine WL.done rfl ?_
 refine WX.next ?_
 refine WC.seq ?_
 refine WC.seq ?_
 refine WC.region ?_
 refine seg 5 [] [0, 1, 10] [(0, (.slice A_p0 p0.length c_p0)), (1, (.slice A_p1 p1.length c_p1)), (10, (.bool ((p0.length : Int) != (p1.length : Int))))] [] (fun fb => by kernel_rfl) rfl trivial ?_
 refine WL.done rfl ?_
 refine WX.next ?_
 rcases br_some hf with ⟨h4989, hf⟩ | ⟨h4989, hf⟩
 ·refine WC.condT2 (fun fb => by kernel_rfl) h4989 ?_
  refine WC.seq ?_
  refine WC.region ?_
  refine seg 1 [] [4] [(4, (.bool false))] [] (fun fb => by kernel_rfl) rfl trivial ?_
  refine WL.done rfl ?_
  refine WX.next ?_
  refine WC.ret ?_
  injection hf with hf
  subst hf
  exact WX.thenR (WX.ret_ [] (.bool false) [] (fun fb => by kernel_rfl) trivial ⟨_, rfl, rfl, hS.keep⟩)
 refine WC.condF2 (fun fb => by kernel_rfl) h4989 ?_
 refine WC.skip ?_
 refine WX.next ?_
 refine WC.seq ?_
 refine WC.seq ?_
 refine WC.region ?_
 refine seg 1 [] [0, 1, 5] [(0, (.slice A_p0 p0.length c_p0)), (1, (.slice A_p1 p1.length c_p1)), (5, (iv 0))] [] (fun fb => by kernel_rfl) rfl trivial ?_
 refine WL.done rfl ?_
 refine WX.next ?_
 obtain ⟨x5012, hx5013, hf⟩ := bind_some hf
 refine WC.cutN (T := Unit) (fun t => []) (fun t w1 => St NoS w w1 [rowR encInt A_p0 c_p0 p0, rowR encInt A_p1 c_p1 p1] [] ∧ x5012 = .inr t) (fun Kx5012 => ?_) ?_
 ·
  refine WC.block ?_
  refine WC.loop (T := Int) (fun t => [(0, (.slice A_p0 p0.length c_p0)), (1, (.slice A_p1 p1.length c_p1)), (5, (iv t))]) (fun n t w1 => St NoS w w1 [rowR encInt A_p0 c_p0 p0, rowR encInt A_p1 c_p1 p1] [] ∧ ref01_Same.l0 n t p0 p1 = some x5012) k 0 [0, 1, 5] rfl ⟨(hS.subR [0, 1]).sub [] (by decide), hx5013⟩ ?_
  rintro k5014 x5011 w5015 ⟨hS5016, hl5017⟩
  cases k5014 with
  | zero => rw [ref01_Same.l0] at hl5017; cases hl5017
  | succ k5014 =>
   rw [ref01_Same.l0] at hl5017
   refine WC.seq ?_
   refine WC.seq ?_
   refine WC.region ?_
   refine seg 4 [] [0, 1, 5, 14] [(0, (.slice A_p0 p0.length c_p0)), (1, (.slice A_p1 p1.length c_p1)), (5, (iv x5011)), (14, (.bool (decide (x5011 < (p0.length : Int)))))] [] (fun fb => by kernel_rfl) rfl trivial ?_
   refine WL.done rfl ?_
   refine WX.next ?_
   rcases br_some hl5017 with ⟨h5018, hl5017⟩ | ⟨h5018, hl5017⟩
   ·refine WC.condT2 (fun fb => by kernel_rfl) h5018 ?_
    refine WC.skip ?_
    refine WX.next ?_
    refine WC.seq ?_
    refine WC.block ?_
    refine WC.seq ?_
    obtain ⟨h5025, hl5017⟩ := as_some hl5017
    obtain ⟨h5026, hl5017⟩ := as_some hl5017
    refine WC.regionD ([(3, ((adr A_p0).add ((x5011).toNat * 1)), (iv (rdD p0 x5011 0))), (7, ((adr A_p1).add ((x5011).toNat * 1)), (iv (rdD p1 x5011 0)))], [0, 1, 2, 3, 4, 5, 6, 7, 8], [[], [], [0, 1], [0, 1, 2], [], [], [4, 5], [4, 5, 6], [0, 1, 2, 3, 4, 5, 6, 7]]) [[0, 1, 2, 3, 4, 5, 6, 7, 8]] (by kernel_rfl) (by kernel_rfl) (NoPanic.seq (NoPanic.block (NoPanic.seq (NoPanic.seq (NoPanic.block (NoPanic.seq (NoPanic.body))))))) ?_
    have hS5022 := hS5016.drew
    revert hS5022
    generalize World.drew w5015 = w5021
    intro hS5022
    refine ⟨⟨rowR.cell (hS5022.rd 0).1 0 h5025.1 h5025.2 0 rfl, rowR.cell (hS5022.rd 1).1 0 h5026.1 h5026.2 0 rfl, trivial⟩, forallC ?_ (forallN)⟩
    refine segF 9 [.v (iv (rdD p0 x5011 0)), .v (iv (rdD p1 x5011 0))] [0, 1, 5, 25] [(0, (.slice A_p0 p0.length c_p0)), (1, (.slice A_p1 p1.length c_p1)), (5, (iv x5011)), (25, (.bool ((rdD p0 x5011 0) != (rdD p1 x5011 0))))] [.idx A_p0 x5011 p0.length, .idx A_p1 x5011 p1.length] [0, 1] [(3, ((adr A_p0).add ((x5011).toNat * 1)), (iv (rdD p0 x5011 0))), (7, ((adr A_p1).add ((x5011).toNat * 1)), (iv (rdD p1 x5011 0)))] (fun fb => by kernel_rfl) rfl ⟨rowR.adr (hS5022.rd 0).1 h5025.1 h5025.2, rowR.adr (hS5022.rd 1).1 h5026.1 h5026.2, trivial⟩ rfl ?_
    refine WL.done rfl ?_
    refine WX.next ?_
    rcases br_some hl5017 with ⟨h5027, hl5017⟩ | ⟨h5027, hl5017⟩
    ·refine WC.condT2 (fun fb => by kernel_rfl) h5027 ?_
     refine WC.seq ?_
     refine WC.region ?_
     refine seg 1 [] [4] [(4, (.bool false))] [] (fun fb => by kernel_rfl) rfl trivial ?_
     refine WL.done rfl ?_
     refine WX.next ?_
     refine WC.ret ?_
     injection hl5017 with hl5017
     subst hl5017
     injection hf with hf
     subst hf
     exact WX.blockR (WX.thenR (WX.thenR (WX.blockR (WX.thenR (WX.ret_ [] (.bool false) [] (fun fb => by kernel_rfl) trivial ⟨_, rfl, rfl, hS5022.keep⟩)))))
    refine WC.condF2 (fun fb => by kernel_rfl) h5027 ?_
    refine WC.skip ?_
    refine WX.blockN (WX.next ?_)
    refine WC.region ?_
    refine seg 3 [] [0, 1, 5] [(0, (.slice A_p0 p0.length c_p0)), (1, (.slice A_p1 p1.length c_p1)), (5, (iv (w64 (x5011 + 1))))] [] (fun fb => by kernel_rfl) rfl trivial ?_
    refine WL.done rfl ?_
    exact WX.again k5014 (Nat.lt_succ_self _) (w64 (x5011 + 1)) [0, 1, 5] rfl ⟨(hS5022.subR [0, 1]).sub [] (by decide), hl5017⟩
   refine WC.condF2 (fun fb => by kernel_rfl) h5018 ?_
   refine WC.exit ?_
   injection hl5017 with hl5017
   exact WX.thenX (WX.thenX (WX.blockHere (WX.to Kx5012 () [] rfl ⟨(hS5016.subR [0, 1]).sub [] (by decide), hl5017.symm⟩)))
 rintro y5031 w5028 ⟨hS5029, hq5030⟩
 subst hq5030
 have hf := sum_inr hf
 refine WX.next ?_
 refine WC.seq ?_
 refine WC.region ?_
 refine seg 1 [] [4] [(4, (.bool true))] [] (fun fb => by kernel_rfl) rfl trivial ?_
 refine WL.done rfl ?_
 refine WX.next ?_
 refine WC.ret ?_
 injection hf with hf
 subst hf
 exact WX.ret_ [] (.bool true) [] (fun fb => by kernel_rfl) trivial ⟨_, rfl, rfl, hS5029.keep⟩
theorem ref01_SamePattern_calls (k : Nat) (p0 : Pattern) (p1 : Pattern) (A_p0_Cells : Option Addr) (c_p0_Cells : Nat) (A_p1_Cells : Option Addr) (c_p1_Cells : Nat) (r : Bool) (w : World) (hR0 : RO NoS w (rowR encInt A_p0_Cells c_p0_Cells p0.Cells)) (hR1 : RO NoS w (rowR encInt A_p1_Cells c_p1_Cells p1.Cells)) (hf : ref01_SamePattern k p0 p1 = some r) :
  CallsR Tryd.prog 32 #[(.agg #[(iv p0.Width), (iv p0.Height), (.slice A_p0_Cells p0.Cells.length c_p0_Cells)]), (.agg #[(iv p1.Width), (iv p1.Height), (.slice A_p1_Cells p1.Cells.length c_p1_Cells)])] w (fun v w' => v = (.bool r) ∧ Keeps NoS w w') := by
 have hS : St NoS w w [rowR encInt A_p0_Cells c_p0_Cells p0.Cells, rowR encInt A_p1_Cells c_p1_Cells p1.Cells] [] := St.init (ro_cons hR0 (ro_cons hR1 (ro_nil _ _)))
 refine enter 24 Tryd.func32 rfl Tryd.ntmps32 rfl ?_
 unfold ref01_SamePattern at hf
 refine WC.seq ?_
 refine WC.region ?_
 refine WL.new hS 2 [] (fun g => (.pointer (some ⟨g, 0, none⟩))) (.cells #[(iv p0.Width), (iv p0.Height), (.slice A_p0_Cells p0.Cells.length c_p0_Cells)] 27 (0, 0)) [] (fun fb g => by kernel_rfl) trivial (fun g4979 w4980 hS4981 => ?_)
 refine ⟨trivial, ?_⟩
 refine WL.new hS4981 3 [] (fun g => (.pointer (some ⟨g, 0, none⟩))) (.cells #[(iv p1.Width), (iv p1.Height), (.slice A_p1_Cells p1.Cells.length c_p1_Cells)] 27 (0, 0)) [] (fun fb g => by kernel_rfl) trivial (fun g4983 w4984 hS4985 => ?_)
 refine ⟨trivial, ?_⟩
 refine seg 3 [] [2, 3] [(2, (pt g4979)), (3, (pt g4983))] [] (fun fb => by kernel_rfl) rfl trivial ?_
 refine WL.done rfl ?_
 refine WX.next ?_
 refine WC.seq ?_
 refine WC.region ?_
 refine seg 6 [.v (iv p0.Width), .v (iv p1.Width)] [2, 3, 10] [(2, (pt g4979)), (3, (pt g4983)), (10, (.bool (p0.Width == p1.Width)))] [.cell ⟨g4979, 0, none⟩ (iv p0.Width), .cell ⟨g4983, 0, none⟩ (iv p1.Width)] (fun fb => by kernel_rfl) rfl ⟨hS4985.cell 1 rfl 0 rfl, hS4985.cell 0 rfl 0 rfl, trivial⟩ ?_
 refine WL.cutV (T := Bool) 12 (fun t => [(16, (.bool t)), (2, (pt g4979)), (3, (pt g4983))]) (fun t => ((p0.Width == p1.Width) && (p0.Height == p1.Height)) = t) (fun K => ?_) ?_
 ·
  rcases Bool.eq_false_or_eq_true (p0.Width == p1.Width) with h4987 | h4987
  ·
   refine WL.setB 10 h4987 rfl ?_
   refine seg 12 [.v (iv p0.Height), .v (iv p1.Height)] [2, 3, 16] [(2, (pt g4979)), (3, (pt g4983)), (16, (.bool (p0.Height == p1.Height)))] [.cell ⟨g4979, 1, none⟩ (iv p0.Height), .cell ⟨g4983, 1, none⟩ (iv p1.Height)] (fun fb => by kernel_rfl) rfl ⟨hS4985.cell 1 rfl 1 rfl, hS4985.cell 0 rfl 1 rfl, trivial⟩ ?_
   exact WL.toV K (p0.Height == p1.Height) [16, 2, 3] rfl (by first | (rw [h4987]; done) | (rw [h4987]; rfl))
  refine WL.setB 10 h4987 rfl ?_
  refine seg 12 [] [2, 3, 16] [(2, (pt g4979)), (3, (pt g4983)), (16, (.bool false))] [] (fun fb => by kernel_rfl) rfl trivial ?_
  exact WL.toV K false [16, 2, 3] rfl (by first | (rw [h4987]; done) | (rw [h4987]; rfl))
 rintro b4988 rfl
 refine seg 13 [] [2, 3, 17] [(2, (pt g4979)), (3, (pt g4983)), (17, (.bool ((p0.Width == p1.Width) && (p0.Height == p1.Height))))] [] (fun fb => by kernel_rfl) rfl trivial ?_
 obtain ⟨x5039, hx5040, hf⟩ := bind_some hf
 refine WL.cutW (T := Bool) 19 (fun t => [(23, (.bool t))]) (fun t w1 => (St NoS w w1 [rowR encInt A_p0_Cells c_p0_Cells p0.Cells, rowR encInt A_p1_Cells c_p1_Cells p1.Cells] [] ∧ x5039 = t) ∧ CellsOK [] w1) (fun K => ?_) ?_
 ·
  rcases br_some hx5040 with ⟨h5041, hx5040⟩ | ⟨h5041, hx5040⟩
  ·
   refine WL.setB 17 h5041 rfl ?_
   refine seg 17 [.v (.slice A_p0_Cells p0.Cells.length c_p0_Cells), .v (.slice A_p1_Cells p1.Cells.length c_p1_Cells)] [17, 19, 21] [(17, (.bool true)), (19, (.slice A_p0_Cells p0.Cells.length c_p0_Cells)), (21, (.slice A_p1_Cells p1.Cells.length c_p1_Cells))] [.cell ⟨g4979, 2, none⟩ (.slice A_p0_Cells p0.Cells.length c_p0_Cells), .cell ⟨g4983, 2, none⟩ (.slice A_p1_Cells p1.Cells.length c_p1_Cells)] (fun fb => by kernel_rfl) rfl ⟨hS4985.cell 1 rfl 2 rfl, hS4985.cell 0 rfl 2 rfl, trivial⟩ ?_
   obtain ⟨t5042, ht5043, hx5040⟩ := bind_some hx5040
   refine WL.call (some 22) 64 #[(.slice A_p0_Cells p0.Cells.length c_p0_Cells), (.slice A_p1_Cells p1.Cells.length c_p1_Cells)] (fun fb => by kernel_rfl) (ref01_Same_calls _ p0.Cells p1.Cells A_p0_Cells c_p0_Cells A_p1_Cells c_p1_Cells t5042 _ (hS4985.rd 0) (hS4985.rd 1) ht5043) (fun v w5044 hR5045 => ?_)
   obtain ⟨rfl, hk_⟩ := hR5045
   have hS5046 := hS4985.keepN hk_
   refine ⟨trivial, ?_⟩
   refine seg 19 [] [23] [(23, (.bool t5042))] [] (fun fb => by kernel_rfl) rfl trivial ?_
   injection hx5040 with hx5040
   exact WL.to K t5042 [23] rfl ⟨⟨(hS5046.subR [0, 1]).sub [] (by decide), hx5040.symm⟩, trivial⟩
  refine WL.setB 17 h5041 rfl ?_
  refine seg 19 [] [23] [(23, (.bool false))] [] (fun fb => by kernel_rfl) rfl trivial ?_
  injection hx5040 with hx5040
  exact WL.to K false [23] rfl ⟨⟨(hS4985.subR [0, 1]).sub [] (by decide), hx5040.symm⟩, trivial⟩
 rintro y5047 w5049 ⟨⟨hS5050, hq5048⟩, hF5051⟩
 subst hq5048
 refine seg 20 [] [4] [(4, (.bool x5039))] [] (fun fb => by kernel_rfl) rfl trivial ?_
 refine WL.done rfl ?_
 refine WX.next ?_
 refine WC.ret ?_
 injection hf with hf
 subst hf
 exact WX.ret_ [] (.bool x5039) [] (fun fb => by kernel_rfl) trivial ⟨_, rfl, rfl, hS5050.keep⟩
theorem law03_awake_calls (k : Nat)  (mG : Int) (r : Bool) (w : World) (hR0 : RO NoS w (cel ⟨2, 0, none⟩ (iv mG))) (hf : law03_awake k = some r) :
  CallsR Tryd.prog 14 #[] w (fun v w' => v = (.bool r) ∧ Keeps NoS w w') := by
 have hS : St NoS w w [cel ⟨2, 0, none⟩ (iv mG)] [] := St.init (ro_cons hR0 (ro_nil _ _))
 refine enter 50 Tryd.func14 rfl Tryd.ntmps14 rfl ?_
 unfold law03_awake at hf
 refine WC.seq ?_
 refine WC.region ?_
 refine seg 1 [] [] [] [] (fun fb => by kernel_rfl) rfl trivial ?_
 refine WL.done rfl ?_
 refine WX.next ?_
 refine WC.seq ?_
 refine WC.region ?_
 obtain ⟨t1213, ht1214, hf⟩ := bind_some hf
 refine WL.call (some 12) 49 #[(.string (⟨#[48, 46, 49, 46, 49, 46, 48, 32, 49, 46, 48, 46, 48, 46, 49]⟩ : ByteArray))] (fun fb => by kernel_rfl) (tile_Parse_calls _ (⟨#[48, 46, 49, 46, 49, 46, 48, 32, 49, 46, 48, 46, 48, 46, 49]⟩ : ByteArray) mG t1213 _ (hS.rd 0) ht1214) (fun v w1215 hR1216 => ?_)
 obtain ⟨A1218, c1219, rfl, hk_⟩ := hR1216
 have hS1217 : St NoS w w1215 [cel ⟨2, 0, none⟩ (iv mG)] [rowO 40 enc_Tile A1218 c1219 t1213.1] := hS.call hk_ [] [] (fun g hg => hg.elim) (by simp) (by decide)
 refine ⟨trivial, ?_⟩
 refine seg 6 [] [1] [(1, (.slice A1218 t1213.1.length c1219))] [] (fun fb => by kernel_rfl) rfl trivial ?_
 refine WL.done rfl ?_
 refine WX.next ?_
 refine WC.seq ?_
 refine WC.region ?_
 obtain ⟨t1220, ht1221, hf⟩ := bind_some hf
 refine WL.call (some 16) 49 #[(.string (⟨#[48, 46, 49, 46, 48, 46, 48]⟩ : ByteArray))] (fun fb => by kernel_rfl) (tile_Parse_calls _ (⟨#[48, 46, 49, 46, 48, 46, 48]⟩ : ByteArray) mG t1220 _ (hS1217.rd 0) ht1221) (fun v w1222 hR1223 => ?_)
 obtain ⟨A1225, c1226, rfl, hk_⟩ := hR1223
 have hS1224 : St NoS w w1222 [cel ⟨2, 0, none⟩ (iv mG)] [rowO 40 enc_Tile A1225 c1226 t1220.1, rowO 40 enc_Tile A1218 c1219 t1213.1] := hS1217.call hk_ [] [0] (fun g hg => hg.elim) (by simp) (by decide)
 refine ⟨trivial, ?_⟩
 refine seg 6 [] [1, 3] [(1, (.slice A1218 t1213.1.length c1219)), (3, (.slice A1225 t1220.1.length c1226))] [] (fun fb => by kernel_rfl) rfl trivial ?_
 refine WL.done rfl ?_
 refine WX.next ?_
 refine WC.seq ?_
 refine WC.region ?_
 refine seg 1 [] [1, 3, 20] [(1, (.slice A1218 t1213.1.length c1219)), (3, (.slice A1225 t1220.1.length c1226)), (20, (.slice A1218 t1213.1.length c1219))] [] (fun fb => by kernel_rfl) rfl trivial ?_
 obtain ⟨t4880, ht4881, hf⟩ := bind_some hf
 refine WL.call (some 21) 22 #[(.slice A1218 t1213.1.length c1219), (iv 6)] (fun fb => by kernel_rfl) (torus_Least_calls _ t1213.1 6 A1218 c1219 t4880 _ (hS1224.ow 1).ofO ht4881) (fun v w4882 hR4883 => ?_)
 obtain ⟨A4885, c4886, rfl, hk_⟩ := hR4883
 have hS4884 : St NoS w w4882 [cel ⟨2, 0, none⟩ (iv mG)] [rowO 3 encInt A4885 c4886 t4880.1.Cells, rowO 40 enc_Tile A1225 c1226 t1220.1, rowO 40 enc_Tile A1218 c1219 t1213.1] := hS1224.call hk_ [] [0, 1] (fun g hg => hg.elim) (by simp) (by decide)
 refine ⟨trivial, ?_⟩
 refine seg 5 [] [1, 3, 22, 23] [(1, (.slice A1218 t1213.1.length c1219)), (3, (.slice A1225 t1220.1.length c1226)), (22, (.agg #[(iv t4880.1.Width), (iv t4880.1.Height), (.slice A4885 t4880.1.Cells.length c4886)])), (23, (iv t4880.2))] [] (fun fb => by kernel_rfl) rfl trivial ?_
 refine WL.new hS4884 5 [] (fun g => (.pointer (some ⟨g, 0, none⟩))) (.cells #[(iv 0), (iv 0), (.slice none 0 0)] 27 (0, 0)) [] (fun fb g => by kernel_rfl) trivial (fun g4887 w4888 hS4889 => ?_)
 refine ⟨trivial, ?_⟩
 refine WL.store hS4889 0 rfl [(0, (iv t4880.1.Width)), (1, (iv t4880.1.Height)), (2, (.slice A4885 t4880.1.Cells.length c4886))] #[(iv t4880.1.Width), (iv t4880.1.Height), (.slice A4885 t4880.1.Cells.length c4886)] (fun fb => by kernel_rfl) (by kernel_rfl) rfl [1, 2, 3] (by decide) (by decide) (fun w4891 hS4892 => ?_)
 refine ⟨trivial, ?_⟩
 refine seg 8 [] [1, 3, 5, 6] [(1, (.slice A1218 t1213.1.length c1219)), (3, (.slice A1225 t1220.1.length c1226)), (5, (pt g4887)), (6, (iv t4880.2))] [] (fun fb => by kernel_rfl) rfl trivial ?_
 refine WL.done rfl ?_
 refine WX.next ?_
 refine WC.seq ?_
 refine WC.region ?_
 refine seg 1 [] [3, 5, 6, 25] [(3, (.slice A1225 t1220.1.length c1226)), (5, (pt g4887)), (6, (iv t4880.2)), (25, (.slice A1218 t1213.1.length c1219))] [] (fun fb => by kernel_rfl) rfl trivial ?_
 obtain ⟨t4944, ht4945, hf⟩ := bind_some hf
 refine WL.call (some 26) 16 #[(.slice A1218 t1213.1.length c1219), (iv 2), (iv 1)] (fun fb => by kernel_rfl) (torus_Find_calls _ t1213.1 2 1 A1218 c1219 t4944 _ (hS4892.ow 3).ofO ht4945) (fun v w4946 hR4947 => ?_)
 obtain ⟨A4949, c4950, rfl, hk_⟩ := hR4947
 have hS4948 : St NoS w w4946 [cel ⟨2, 0, none⟩ (iv mG)] [rowO 3 encInt A4949 c4950 t4944.1.Cells, blk g4887 (.cells #[(iv t4880.1.Width), (iv t4880.1.Height), (.slice A4885 t4880.1.Cells.length c4886)] 27 (0, 0)), rowO 3 encInt A4885 c4886 t4880.1.Cells, rowO 40 enc_Tile A1225 c1226 t1220.1, rowO 40 enc_Tile A1218 c1219 t1213.1] := hS4892.call hk_ [] [0, 1, 2, 3] (fun g hg => hg.elim) (by simp) (by decide)
 refine ⟨trivial, ?_⟩
 refine seg 5 [] [3, 5, 6, 27, 28] [(3, (.slice A1225 t1220.1.length c1226)), (5, (pt g4887)), (6, (iv t4880.2)), (27, (.agg #[(iv t4944.1.Width), (iv t4944.1.Height), (.slice A4949 t4944.1.Cells.length c4950)])), (28, (iv t4944.2))] [] (fun fb => by kernel_rfl) rfl trivial ?_
 refine WL.new hS4948 7 [] (fun g => (.pointer (some ⟨g, 0, none⟩))) (.cells #[(iv 0), (iv 0), (.slice none 0 0)] 27 (0, 0)) [] (fun fb g => by kernel_rfl) trivial (fun g4951 w4952 hS4953 => ?_)
 refine ⟨trivial, ?_⟩
 refine WL.store hS4953 0 rfl [(0, (iv t4944.1.Width)), (1, (iv t4944.1.Height)), (2, (.slice A4949 t4944.1.Cells.length c4950))] #[(iv t4944.1.Width), (iv t4944.1.Height), (.slice A4949 t4944.1.Cells.length c4950)] (fun fb => by kernel_rfl) (by kernel_rfl) rfl [1, 2, 3, 4, 5] (by decide) (by decide) (fun w4955 hS4956 => ?_)
 refine ⟨trivial, ?_⟩
 refine seg 8 [] [3, 5, 6, 8] [(3, (.slice A1225 t1220.1.length c1226)), (5, (pt g4887)), (6, (iv t4880.2)), (8, (iv t4944.2))] [] (fun fb => by kernel_rfl) rfl trivial ?_
 refine WL.done rfl ?_
 refine WX.next ?_
 refine WC.seq ?_
 refine WC.region ?_
 refine seg 1 [] [5, 6, 8, 30] [(5, (pt g4887)), (6, (iv t4880.2)), (8, (iv t4944.2)), (30, (.slice A1225 t1220.1.length c1226))] [] (fun fb => by kernel_rfl) rfl trivial ?_
 obtain ⟨t4957, ht4958, hf⟩ := bind_some hf
 refine WL.call (some 31) 22 #[(.slice A1225 t1220.1.length c1226), (iv 4)] (fun fb => by kernel_rfl) (torus_Least_calls _ t1220.1 4 A1225 c1226 t4957 _ (hS4956.ow 4).ofO ht4958) (fun v w4959 hR4960 => ?_)
 obtain ⟨A4962, c4963, rfl, hk_⟩ := hR4960
 have hS4961 : St NoS w w4959 [cel ⟨2, 0, none⟩ (iv mG)] [rowO 3 encInt A4962 c4963 t4957.1.Cells, blk g4951 (.cells #[(iv t4944.1.Width), (iv t4944.1.Height), (.slice A4949 t4944.1.Cells.length c4950)] 27 (0, 0)), rowO 3 encInt A4949 c4950 t4944.1.Cells, blk g4887 (.cells #[(iv t4880.1.Width), (iv t4880.1.Height), (.slice A4885 t4880.1.Cells.length c4886)] 27 (0, 0)), rowO 3 encInt A4885 c4886 t4880.1.Cells, rowO 40 enc_Tile A1225 c1226 t1220.1, rowO 40 enc_Tile A1218 c1219 t1213.1] := hS4956.call hk_ [] [0, 1, 2, 3, 4, 5] (fun g hg => hg.elim) (by simp) (by decide)
 refine ⟨trivial, ?_⟩
 refine seg 5 [] [5, 6, 8, 32, 33] [(5, (pt g4887)), (6, (iv t4880.2)), (8, (iv t4944.2)), (32, (.agg #[(iv t4957.1.Width), (iv t4957.1.Height), (.slice A4962 t4957.1.Cells.length c4963)])), (33, (iv t4957.2))] [] (fun fb => by kernel_rfl) rfl trivial ?_
 refine WL.new hS4961 9 [] (fun g => (.pointer (some ⟨g, 0, none⟩))) (.cells #[(iv 0), (iv 0), (.slice none 0 0)] 27 (0, 0)) [] (fun fb g => by kernel_rfl) trivial (fun g4964 w4965 hS4966 => ?_)
 refine ⟨trivial, ?_⟩
 refine WL.store hS4966 0 rfl [(0, (iv t4957.1.Width)), (1, (iv t4957.1.Height)), (2, (.slice A4962 t4957.1.Cells.length c4963))] #[(iv t4957.1.Width), (iv t4957.1.Height), (.slice A4962 t4957.1.Cells.length c4963)] (fun fb => by kernel_rfl) (by kernel_rfl) rfl [1, 2, 3, 4, 5, 6, 7] (by decide) (by decide) (fun w4968 hS4969 => ?_)
 refine ⟨trivial, ?_⟩
 refine seg 8 [] [5, 6, 8, 10] [(5, (pt g4887)), (6, (iv t4880.2)), (8, (iv t4944.2)), (10, (iv t4957.2))] [] (fun fb => by kernel_rfl) rfl trivial ?_
 refine WL.done rfl ?_
 refine WX.next ?_
 refine WC.seq ?_
 refine WC.region ?_
 refine seg 3 [] [5, 8, 10, 36] [(5, (pt g4887)), (8, (iv t4944.2)), (10, (iv t4957.2)), (36, (.bool (t4880.2 == 0)))] [] (fun fb => by kernel_rfl) rfl trivial ?_
 refine WL.cutV (T := Bool) 6 (fun t => [(39, (.bool t)), (5, (pt g4887)), (10, (iv t4957.2))]) (fun t => ((t4880.2 == 0) && (t4944.2 == 6)) = t) (fun K => ?_) ?_
 ·
  rcases Bool.eq_false_or_eq_true (t4880.2 == 0) with h4970 | h4970
  ·
   refine WL.setB 36 h4970 rfl ?_
   refine seg 6 [] [5, 10, 39] [(5, (pt g4887)), (10, (iv t4957.2)), (39, (.bool (t4944.2 == 6)))] [] (fun fb => by kernel_rfl) rfl trivial ?_
   exact WL.toV K (t4944.2 == 6) [39, 5, 10] rfl (by first | (rw [h4970]; done) | (rw [h4970]; rfl))
  refine WL.setB 36 h4970 rfl ?_
  refine seg 6 [] [5, 10, 39] [(5, (pt g4887)), (10, (iv t4957.2)), (39, (.bool false))] [] (fun fb => by kernel_rfl) rfl trivial ?_
  exact WL.toV K false [39, 5, 10] rfl (by first | (rw [h4970]; done) | (rw [h4970]; rfl))
 rintro b4971 rfl
 refine seg 7 [] [5, 10, 40] [(5, (pt g4887)), (10, (iv t4957.2)), (40, (.bool ((t4880.2 == 0) && (t4944.2 == 6))))] [] (fun fb => by kernel_rfl) rfl trivial ?_
 refine WL.cutV (T := Bool) 10 (fun t => [(43, (.bool t)), (5, (pt g4887))]) (fun t => (((t4880.2 == 0) && (t4944.2 == 6)) && (t4957.2 == 6)) = t) (fun K => ?_) ?_
 ·
  rcases Bool.eq_false_or_eq_true ((t4880.2 == 0) && (t4944.2 == 6)) with h4972 | h4972
  ·
   refine WL.setB 40 h4972 rfl ?_
   refine seg 10 [] [5, 43] [(5, (pt g4887)), (43, (.bool (t4957.2 == 6)))] [] (fun fb => by kernel_rfl) rfl trivial ?_
   exact WL.toV K (t4957.2 == 6) [43, 5] rfl (by first | (rw [h4972]; done) | (rw [h4972]; rfl))
  refine WL.setB 40 h4972 rfl ?_
  refine seg 10 [] [5, 43] [(5, (pt g4887)), (43, (.bool false))] [] (fun fb => by kernel_rfl) rfl trivial ?_
  exact WL.toV K false [43, 5] rfl (by first | (rw [h4972]; done) | (rw [h4972]; rfl))
 rintro b4973 rfl
 refine seg 11 [] [5, 44] [(5, (pt g4887)), (44, (.bool (((t4880.2 == 0) && (t4944.2 == 6)) && (t4957.2 == 6))))] [] (fun fb => by kernel_rfl) rfl trivial ?_
 obtain ⟨x5058, hx5059, hf⟩ := bind_some hf
 refine WL.cutW (T := Bool) 16 (fun t => [(49, (.bool t))]) (fun t w1 => (St NoS w w1 [cel ⟨2, 0, none⟩ (iv mG)] [] ∧ x5058 = t) ∧ CellsOK [] w1) (fun K => ?_) ?_
 ·
  rcases br_some hx5059 with ⟨h5060, hx5059⟩ | ⟨h5060, hx5059⟩
  ·
   refine WL.setB 44 h5060 rfl ?_
   refine seg 12 [.v (iv t4880.1.Width), .v (iv t4880.1.Height), .v (.slice A4885 t4880.1.Cells.length c4886)] [44, 45] [(44, (.bool true)), (45, (.agg #[(iv t4880.1.Width), (iv t4880.1.Height), (.slice A4885 t4880.1.Cells.length c4886)]))] [.cell ⟨g4887, 0, none⟩ (iv t4880.1.Width), .cell ⟨g4887, 1, none⟩ (iv t4880.1.Height), .cell ⟨g4887, 2, none⟩ (.slice A4885 t4880.1.Cells.length c4886)] (fun fb => by kernel_rfl) rfl ⟨hS4969.cell 4 rfl 0 rfl, hS4969.cell 4 rfl 1 rfl, hS4969.cell 4 rfl 2 rfl, trivial⟩ ?_
   refine WL.new hS4969 46 [] (fun g => (.slice (some ⟨g, 0, none⟩) 4 4)) (.cells #[(iv 0), (iv 1), (iv 1), (iv 0)] 3 (0, 0)) [] (fun fb g => by kernel_rfl) trivial (fun g5061 w5062 hS5063 => ?_)
   refine ⟨trivial, ?_⟩
   have hS5065 : St NoS w w5062 [cel ⟨2, 0, none⟩ (iv mG)] [rowO 3 encInt (some ⟨g5061, 0, none⟩) 4 [0, 1, 1, 0], blk g4964 (.cells #[(iv t4957.1.Width), (iv t4957.1.Height), (.slice A4962 t4957.1.Cells.length c4963)] 27 (0, 0)), rowO 3 encInt A4962 c4963 t4957.1.Cells, blk g4951 (.cells #[(iv t4944.1.Width), (iv t4944.1.Height), (.slice A4949 t4944.1.Cells.length c4950)] 27 (0, 0)), rowO 3 encInt A4949 c4950 t4944.1.Cells, blk g4887 (.cells #[(iv t4880.1.Width), (iv t4880.1.Height), (.slice A4885 t4880.1.Cells.length c4886)] 27 (0, 0)), rowO 3 encInt A4885 c4886 t4880.1.Cells, rowO 40 enc_Tile A1225 c1226 t1220.1, rowO 40 enc_Tile A1218 c1219 t1213.1] := hS5063.map1 0 _ (fun h => rowO.ofBlk h rfl (Nat.le_of_ble_eq_true (by kernel_rfl))) (fun _ h => by obtain ⟨_, h1, h2⟩ := h; injection h1 with h1; subst h1; exact h2) [1, 2, 3, 4, 5, 6, 7, 8] (by decide) (by decide)
   refine seg 14 [] [44, 45, 47] [(44, (.bool true)), (45, (.agg #[(iv t4880.1.Width), (iv t4880.1.Height), (.slice A4885 t4880.1.Cells.length c4886)])), (47, (.agg #[(iv 2), (iv 2), (.slice (some ⟨g5061, 0, none⟩) [0, 1, 1, 0].length 4)]))] [] (fun fb => by kernel_rfl) rfl trivial ?_
   obtain ⟨t5066, ht5067, hx5059⟩ := bind_some hx5059
   refine WL.call (some 48) 32 #[(.agg #[(iv t4880.1.Width), (iv t4880.1.Height), (.slice A4885 t4880.1.Cells.length c4886)]), (.agg #[(iv 2), (iv 2), (.slice (some ⟨g5061, 0, none⟩) [0, 1, 1, 0].length 4)])] (fun fb => by kernel_rfl) (ref01_SamePattern_calls _ t4880.1 (Pattern.mk 2 2 [0, 1, 1, 0]) A4885 c4886 (some ⟨g5061, 0, none⟩) 4 t5066 _ (hS5065.ow 6).ofO (hS5065.ow 0).ofO ht5067) (fun v w5068 hR5069 => ?_)
   obtain ⟨rfl, hk_⟩ := hR5069
   have hS5070 := hS5065.keepN hk_
   refine ⟨trivial, ?_⟩
   refine seg 16 [] [49] [(49, (.bool t5066))] [] (fun fb => by kernel_rfl) rfl trivial ?_
   injection hx5059 with hx5059
   exact WL.to K t5066 [49] rfl ⟨⟨(hS5070.subR [0]).sub [] (by decide), hx5059.symm⟩, trivial⟩
  refine WL.setB 44 h5060 rfl ?_
  refine seg 16 [] [49] [(49, (.bool false))] [] (fun fb => by kernel_rfl) rfl trivial ?_
  injection hx5059 with hx5059
  exact WL.to K false [49] rfl ⟨⟨(hS4969.subR [0]).sub [] (by decide), hx5059.symm⟩, trivial⟩
 rintro y5071 w5073 ⟨⟨hS5074, hq5072⟩, hF5075⟩
 subst hq5072
 refine seg 17 [] [0] [(0, (.bool x5058))] [] (fun fb => by kernel_rfl) rfl trivial ?_
 refine WL.done rfl ?_
 refine WX.next ?_
 refine WC.ret ?_
 injection hf with hf
 subst hf
 exact WX.ret_ [] (.bool x5058) [] (fun fb => by kernel_rfl) trivial ⟨_, rfl, rfl, hS5074.keep⟩
theorem ref01_colour_calls (p0 : Int)  (r : Bool) (w : World)  (hf : ref01_colour p0 = some r) :
  CallsR Tryd.prog 50 #[(iv p0)] w (fun v w' => v = (.bool r) ∧ Keeps NoS w w') := by
 have hS : St NoS w w [] [] := St.init (ro_nil _ _)
 refine enter 9 Tryd.func50 rfl Tryd.ntmps50 rfl ?_
 unfold ref01_colour at hf
 refine WC.seq ?_
 refine WC.region ?_
 refine seg 1 [] [0] [(0, (iv p0))] [] (fun fb => by kernel_rfl) rfl trivial ?_
 refine WL.done rfl ?_
 refine WX.next ?_
 refine WC.seq ?_
 refine WC.region ?_
 refine seg 3 [] [0, 5] [(0, (iv p0)), (5, (.bool (decide (p0 ≥ 0))))] [] (fun fb => by kernel_rfl) rfl trivial ?_
 refine WL.cutV (T := Bool) 6 (fun t => [(8, (.bool t))]) (fun t => ((decide (p0 ≥ 0)) && (decide (p0 < 1000))) = t) (fun K => ?_) ?_
 ·
  rcases Bool.eq_false_or_eq_true (decide (p0 ≥ 0)) with h5090 | h5090
  ·
   refine WL.setB 5 h5090 rfl ?_
   refine seg 6 [] [8] [(8, (.bool (decide (p0 < 1000))))] [] (fun fb => by kernel_rfl) rfl trivial ?_
   exact WL.toV K (decide (p0 < 1000)) [8] rfl (by first | (rw [h5090]; done) | (rw [h5090]; rfl))
  refine WL.setB 5 h5090 rfl ?_
  refine seg 6 [] [8] [(8, (.bool false))] [] (fun fb => by kernel_rfl) rfl trivial ?_
  exact WL.toV K false [8] rfl (by first | (rw [h5090]; done) | (rw [h5090]; rfl))
 rintro b5091 rfl
 refine seg 7 [] [2] [(2, (.bool ((decide (p0 ≥ 0)) && (decide (p0 < 1000)))))] [] (fun fb => by kernel_rfl) rfl trivial ?_
 refine WL.done rfl ?_
 refine WX.next ?_
 refine WC.ret ?_
 injection hf with hf
 subst hf
 exact WX.ret_ [] (.bool ((decide (p0 ≥ 0)) && (decide (p0 < 1000)))) [] (fun fb => by kernel_rfl) trivial ⟨_, rfl, rfl, hS.keep⟩
theorem ref01_Index_calls (k : Nat) (p0 : List Tile) (p1 : Tile) (A_p0 : Option Addr) (c_p0 : Nat) (r : Int) (w : World) (hR0 : RO NoS w (rowR enc_Tile A_p0 c_p0 p0)) (hf : ref01_Index k p0 p1 = some r) :
  CallsR Tryd.prog 51 #[(.slice A_p0 p0.length c_p0), (.agg #[(iv p1.N), (iv p1.E), (iv p1.S), (iv p1.W)])] w (fun v w' => v = (iv r) ∧ Keeps NoS w w') := by
 have hS : St NoS w w [rowR enc_Tile A_p0 c_p0 p0] [] := St.init (ro_cons hR0 (ro_nil _ _))
 refine enter 19 Tryd.func51 rfl Tryd.ntmps51 rfl ?_
 unfold ref01_Index at hf
 refine WC.seq ?_
 refine WC.region ?_
 refine WL.new hS 3 [] (fun g => (.pointer (some ⟨g, 0, none⟩))) (.cells #[(iv p1.N), (iv p1.E), (iv p1.S), (iv p1.W)] 40 (0, 0)) [] (fun fb g => by kernel_rfl) trivial (fun g5156 w5157 hS5158 => ?_)
 refine ⟨trivial, ?_⟩
 refine seg 2 [] [0, 3] [(0, (.slice A_p0 p0.length c_p0)), (3, (pt g5156))] [] (fun fb => by kernel_rfl) rfl trivial ?_
 refine WL.done rfl ?_
 refine WX.next ?_
 refine WC.seq ?_
 refine WC.seq ?_
 refine WC.region ?_
 refine seg 1 [] [0, 3, 5] [(0, (.slice A_p0 p0.length c_p0)), (3, (pt g5156)), (5, (iv 0))] [] (fun fb => by kernel_rfl) rfl trivial ?_
 refine WL.done rfl ?_
 refine WX.next ?_
 obtain ⟨x5176, hx5177, hf⟩ := bind_some hf
 refine WC.cutN (T := Unit) (fun t => []) (fun t w1 => St NoS w w1 [rowR enc_Tile A_p0 c_p0 p0] [] ∧ x5176 = .inr t) (fun Kx5176 => ?_) ?_
 ·
  refine WC.block ?_
  refine WC.loop (T := Int) (fun t => [(0, (.slice A_p0 p0.length c_p0)), (3, (pt g5156)), (5, (iv t))]) (fun n t w1 => St NoS w w1 [rowR enc_Tile A_p0 c_p0 p0] [blk g5156 (.cells #[(iv p1.N), (iv p1.E), (iv p1.S), (iv p1.W)] 40 (0, 0))] ∧ ref01_Index.l0 n t p0 p1 = some x5176) k 0 [0, 3, 5] rfl ⟨(hS5158.subR [0]).sub [0] (by decide), hx5177⟩ ?_
  rintro k5178 x5175 w5179 ⟨hS5180, hl5181⟩
  cases k5178 with
  | zero => rw [ref01_Index.l0] at hl5181; cases hl5181
  | succ k5178 =>
   rw [ref01_Index.l0] at hl5181
   refine WC.seq ?_
   refine WC.seq ?_
   refine WC.region ?_
   refine seg 4 [] [0, 3, 5, 9] [(0, (.slice A_p0 p0.length c_p0)), (3, (pt g5156)), (5, (iv x5175)), (9, (.bool (decide (x5175 < (p0.length : Int)))))] [] (fun fb => by kernel_rfl) rfl trivial ?_
   refine WL.done rfl ?_
   refine WX.next ?_
   rcases br_some hl5181 with ⟨h5182, hl5181⟩ | ⟨h5182, hl5181⟩
   ·refine WC.condT2 (fun fb => by kernel_rfl) h5182 ?_
    refine WC.skip ?_
    refine WX.next ?_
    refine WC.seq ?_
    refine WC.block ?_
    refine WC.seq ?_
    obtain ⟨h5187, hl5181⟩ := as_some hl5181
    refine WC.regionD ([(3, ((adr A_p0).add ((x5175).toNat * 4)), (iv ((rdD p0 x5175 z_Tile).N))), (3, (((adr A_p0).add ((x5175).toNat * 4)).add 1), (iv ((rdD p0 x5175 z_Tile).E))), (3, (((adr A_p0).add ((x5175).toNat * 4)).add 2), (iv ((rdD p0 x5175 z_Tile).S))), (3, (((adr A_p0).add ((x5175).toNat * 4)).add 3), (iv ((rdD p0 x5175 z_Tile).W))), (4, ⟨g5156, 0, none⟩, (iv p1.N)), (4, ⟨g5156, 1, none⟩, (iv p1.E)), (4, ⟨g5156, 2, none⟩, (iv p1.S)), (4, ⟨g5156, 3, none⟩, (iv p1.W))], [0, 1, 2, 3, 4, 5], [[], [], [0, 1], [0, 1, 2], [], [0, 1, 2, 3, 4]]) [[0, 1, 2, 3, 4, 5]] (by kernel_rfl) (by kernel_rfl) (NoPanic.seq (NoPanic.block (NoPanic.seq (NoPanic.seq (NoPanic.block (NoPanic.seq (NoPanic.body))))))) ?_
    have hS5185 := hS5180.drew
    revert hS5185
    generalize World.drew w5179 = w5184
    intro hS5185
    refine ⟨⟨rowR.cell (hS5185.rd 0).1 z_Tile h5187.1 h5187.2 0 rfl, rowR.cell (hS5185.rd 0).1 z_Tile h5187.1 h5187.2 1 rfl, rowR.cell (hS5185.rd 0).1 z_Tile h5187.1 h5187.2 2 rfl, rowR.cell (hS5185.rd 0).1 z_Tile h5187.1 h5187.2 3 rfl, hS5185.cell 0 rfl 0 rfl, hS5185.cell 0 rfl 1 rfl, hS5185.cell 0 rfl 2 rfl, hS5185.cell 0 rfl 3 rfl, trivial⟩, forallC ?_ (forallN)⟩
    refine segF 6 [.v (iv ((rdD p0 x5175 z_Tile).N)), .v (iv ((rdD p0 x5175 z_Tile).E)), .v (iv ((rdD p0 x5175 z_Tile).S)), .v (iv ((rdD p0 x5175 z_Tile).W)), .v (iv p1.N), .v (iv p1.E), .v (iv p1.S), .v (iv p1.W)] [0, 3, 5, 17] [(0, (.slice A_p0 p0.length c_p0)), (3, (pt g5156)), (5, (iv x5175)), (17, (.bool (((rdD p0 x5175 z_Tile).N) == p1.N && (((rdD p0 x5175 z_Tile).E) == p1.E && (((rdD p0 x5175 z_Tile).S) == p1.S && (((rdD p0 x5175 z_Tile).W) == p1.W))))))] [.idx A_p0 x5175 p0.length] [0, 1, 2, 3, 4, 5, 6, 7] [(3, ((adr A_p0).add ((x5175).toNat * 4)), (iv ((rdD p0 x5175 z_Tile).N))), (3, (((adr A_p0).add ((x5175).toNat * 4)).add 1), (iv ((rdD p0 x5175 z_Tile).E))), (3, (((adr A_p0).add ((x5175).toNat * 4)).add 2), (iv ((rdD p0 x5175 z_Tile).S))), (3, (((adr A_p0).add ((x5175).toNat * 4)).add 3), (iv ((rdD p0 x5175 z_Tile).W))), (4, ⟨g5156, 0, none⟩, (iv p1.N)), (4, ⟨g5156, 1, none⟩, (iv p1.E)), (4, ⟨g5156, 2, none⟩, (iv p1.S)), (4, ⟨g5156, 3, none⟩, (iv p1.W))] (fun fb => by kernel_rfl) rfl ⟨rowR.adr (hS5185.rd 0).1 h5187.1 h5187.2, trivial⟩ rfl ?_
    refine WL.done rfl ?_
    refine WX.next ?_
    rcases br_some hl5181 with ⟨h5188, hl5181⟩ | ⟨h5188, hl5181⟩
    ·refine WC.condT2 (fun fb => by kernel_rfl) h5188 ?_
     refine WC.seq ?_
     refine WC.region ?_
     refine seg 2 [] [4] [(4, (iv x5175))] [] (fun fb => by kernel_rfl) rfl trivial ?_
     refine WL.done rfl ?_
     refine WX.next ?_
     refine WC.ret ?_
     injection hl5181 with hl5181
     subst hl5181
     injection hf with hf
     subst hf
     exact WX.blockR (WX.thenR (WX.thenR (WX.blockR (WX.thenR (WX.ret_ [] (iv x5175) [] (fun fb => by kernel_rfl) trivial ⟨_, rfl, rfl, hS5185.keep⟩)))))
    refine WC.condF2 (fun fb => by kernel_rfl) h5188 ?_
    refine WC.skip ?_
    refine WX.blockN (WX.next ?_)
    refine WC.region ?_
    refine seg 3 [] [0, 3, 5] [(0, (.slice A_p0 p0.length c_p0)), (3, (pt g5156)), (5, (iv (w64 (x5175 + 1))))] [] (fun fb => by kernel_rfl) rfl trivial ?_
    refine WL.done rfl ?_
    exact WX.again k5178 (Nat.lt_succ_self _) (w64 (x5175 + 1)) [0, 3, 5] rfl ⟨(hS5185.subR [0]).sub [0] (by decide), hl5181⟩
   refine WC.condF2 (fun fb => by kernel_rfl) h5182 ?_
   refine WC.exit ?_
   injection hl5181 with hl5181
   exact WX.thenX (WX.thenX (WX.blockHere (WX.to Kx5176 () [] rfl ⟨(hS5180.subR [0]).sub [] (by decide), hl5181.symm⟩)))
 rintro y5192 w5189 ⟨hS5190, hq5191⟩
 subst hq5191
 have hf := sum_inr hf
 refine WX.next ?_
 refine WC.seq ?_
 refine WC.region ?_
 refine seg 1 [] [4] [(4, (iv (-1)))] [] (fun fb => by kernel_rfl) rfl trivial ?_
 refine WL.done rfl ?_
 refine WX.next ?_
 refine WC.ret ?_
 injection hf with hf
 subst hf
 exact WX.ret_ [] (iv (-1)) [] (fun fb => by kernel_rfl) trivial ⟨_, rfl, rfl, hS5190.keep⟩
theorem ref01_Valid_calls (k : Nat) (p0 : List Tile) (A_p0 : Option Addr) (c_p0 : Nat) (r : Bool) (w : World) (hR0 : RO NoS w (rowR enc_Tile A_p0 c_p0 p0)) (hf : ref01_Valid k p0 = some r) :
  CallsR Tryd.prog 15 #[(.slice A_p0 p0.length c_p0)] w (fun v w' => v = (.bool r) ∧ Keeps NoS w w') := by
 have hS : St NoS w w [rowR enc_Tile A_p0 c_p0 p0] [] := St.init (ro_cons hR0 (ro_nil _ _))
 refine enter 48 Tryd.func15 rfl Tryd.ntmps15 rfl ?_
 unfold ref01_Valid at hf
 refine WC.seq ?_
 refine WC.region ?_
 refine seg 1 [] [0] [(0, (.slice A_p0 p0.length c_p0))] [] (fun fb => by kernel_rfl) rfl trivial ?_
 refine WL.done rfl ?_
 refine WX.next ?_
 refine WC.seq ?_
 refine WC.seq ?_
 refine WC.region ?_
 refine seg 3 [] [0, 7] [(0, (.slice A_p0 p0.length c_p0)), (7, (.bool (decide ((p0.length : Int) > 1000))))] [] (fun fb => by kernel_rfl) rfl trivial ?_
 refine WL.done rfl ?_
 refine WX.next ?_
 rcases br_some hf with ⟨h5081, hf⟩ | ⟨h5081, hf⟩
 ·refine WC.condT2 (fun fb => by kernel_rfl) h5081 ?_
  refine WC.seq ?_
  refine WC.region ?_
  refine seg 1 [] [2] [(2, (.bool false))] [] (fun fb => by kernel_rfl) rfl trivial ?_
  refine WL.done rfl ?_
  refine WX.next ?_
  refine WC.ret ?_
  injection hf with hf
  subst hf
  exact WX.thenR (WX.ret_ [] (.bool false) [] (fun fb => by kernel_rfl) trivial ⟨_, rfl, rfl, hS.keep⟩)
 refine WC.condF2 (fun fb => by kernel_rfl) h5081 ?_
 refine WC.skip ?_
 refine WX.next ?_
 refine WC.seq ?_
 refine WC.seq ?_
 refine WC.region ?_
 refine seg 1 [] [0, 3] [(0, (.slice A_p0 p0.length c_p0)), (3, (iv 0))] [] (fun fb => by kernel_rfl) rfl trivial ?_
 refine WL.done rfl ?_
 refine WX.next ?_
 obtain ⟨x5490, hx5491, hf⟩ := bind_some hf
 refine WC.cutN (T := Unit) (fun t => []) (fun t w1 => St NoS w w1 [rowR enc_Tile A_p0 c_p0 p0] [] ∧ x5490 = .inr t) (fun Kx5490 => ?_) ?_
 ·
  refine WC.block ?_
  refine WC.loop (T := Int) (fun t => [(0, (.slice A_p0 p0.length c_p0)), (3, (iv t))]) (fun n t w1 => St NoS w w1 [rowR enc_Tile A_p0 c_p0 p0] [] ∧ ref01_Valid.l0 n t p0 = some x5490) k 0 [0, 3] rfl ⟨(hS.subR [0]).sub [] (by decide), hx5491⟩ ?_
  rintro k5492 x5489 w5493 ⟨hS5494, hl5495⟩
  cases k5492 with
  | zero => rw [ref01_Valid.l0] at hl5495; cases hl5495
  | succ k5492 =>
   rw [ref01_Valid.l0] at hl5495
   refine WC.seq ?_
   refine WC.seq ?_
   refine WC.region ?_
   refine seg 4 [] [0, 3, 11] [(0, (.slice A_p0 p0.length c_p0)), (3, (iv x5489)), (11, (.bool (decide (x5489 < (p0.length : Int)))))] [] (fun fb => by kernel_rfl) rfl trivial ?_
   refine WL.done rfl ?_
   refine WX.next ?_
   rcases br_some hl5495 with ⟨h5496, hl5495⟩ | ⟨h5496, hl5495⟩
   ·refine WC.condT2 (fun fb => by kernel_rfl) h5496 ?_
    refine WC.skip ?_
    refine WX.next ?_
    refine WC.seq ?_
    refine WC.block ?_
    refine WC.seq ?_
    refine WC.region ?_
    refine seg 2 [] [0, 3, 14, 15] [(0, (.slice A_p0 p0.length c_p0)), (3, (iv x5489)), (14, (.slice A_p0 p0.length c_p0)), (15, (iv x5489))] [] (fun fb => by kernel_rfl) rfl trivial ?_
    obtain ⟨h5497, hl5495⟩ := as_some hl5495
    refine seg 4 [.v (iv ((rdD p0 x5489 z_Tile).N)), .v (iv ((rdD p0 x5489 z_Tile).E)), .v (iv ((rdD p0 x5489 z_Tile).S)), .v (iv ((rdD p0 x5489 z_Tile).W))] [0, 3, 17] [(0, (.slice A_p0 p0.length c_p0)), (3, (iv x5489)), (17, (.agg #[(iv ((rdD p0 x5489 z_Tile).N)), (iv ((rdD p0 x5489 z_Tile).E)), (iv ((rdD p0 x5489 z_Tile).S)), (iv ((rdD p0 x5489 z_Tile).W))]))] [.idx A_p0 x5489 p0.length, .cell ((adr A_p0).add ((x5489).toNat * 4)) (iv ((rdD p0 x5489 z_Tile).N)), .cell (((adr A_p0).add ((x5489).toNat * 4)).add 1) (iv ((rdD p0 x5489 z_Tile).E)), .cell (((adr A_p0).add ((x5489).toNat * 4)).add 2) (iv ((rdD p0 x5489 z_Tile).S)), .cell (((adr A_p0).add ((x5489).toNat * 4)).add 3) (iv ((rdD p0 x5489 z_Tile).W))] (fun fb => by kernel_rfl) rfl ⟨rowR.adr (hS5494.rd 0).1 h5497.1 h5497.2, rowR.cell (hS5494.rd 0).1 z_Tile h5497.1 h5497.2 0 rfl, rowR.cell (hS5494.rd 0).1 z_Tile h5497.1 h5497.2 1 rfl, rowR.cell (hS5494.rd 0).1 z_Tile h5497.1 h5497.2 2 rfl, rowR.cell (hS5494.rd 0).1 z_Tile h5497.1 h5497.2 3 rfl, trivial⟩ ?_
    refine WL.new hS5494 4 [] (fun g => (.pointer (some ⟨g, 0, none⟩))) (.cells #[(iv 0), (iv 0), (iv 0), (iv 0)] 40 (0, 0)) [] (fun fb g => by kernel_rfl) trivial (fun g5498 w5499 hS5500 => ?_)
    refine ⟨trivial, ?_⟩
    refine WL.store hS5500 0 rfl [(0, (iv ((rdD p0 x5489 z_Tile).N))), (1, (iv ((rdD p0 x5489 z_Tile).E))), (2, (iv ((rdD p0 x5489 z_Tile).S))), (3, (iv ((rdD p0 x5489 z_Tile).W)))] #[(iv ((rdD p0 x5489 z_Tile).N)), (iv ((rdD p0 x5489 z_Tile).E)), (iv ((rdD p0 x5489 z_Tile).S)), (iv ((rdD p0 x5489 z_Tile).W))] (fun fb => by kernel_rfl) (by kernel_rfl) rfl [] (by decide) (by decide) (fun w5502 hS5503 => ?_)
    refine ⟨trivial, ?_⟩
    refine WL.done rfl ?_
    refine WX.next ?_
    refine WC.seq ?_
    refine WC.regionD ([(1, ⟨g5498, 0, none⟩, (iv ((rdD p0 x5489 z_Tile).N))), (6, ⟨g5498, 1, none⟩, (iv ((rdD p0 x5489 z_Tile).E))), (12, ⟨g5498, 2, none⟩, (iv ((rdD p0 x5489 z_Tile).S))), (18, ⟨g5498, 3, none⟩, (iv ((rdD p0 x5489 z_Tile).W))), (26, ⟨g5498, 0, none⟩, (iv ((rdD p0 x5489 z_Tile).N))), (26, ⟨g5498, 1, none⟩, (iv ((rdD p0 x5489 z_Tile).E))), (26, ⟨g5498, 2, none⟩, (iv ((rdD p0 x5489 z_Tile).S))), (26, ⟨g5498, 3, none⟩, (iv ((rdD p0 x5489 z_Tile).W)))], [0, 1, 3, 4, 5, 6, 8, 9, 10, 11, 12, 14, 15, 16, 17, 18, 20, 21, 22, 23, 24, 25, 26, 28, 29], [[], [0], [0, 1], [0, 1, 2], [0, 1, 2, 3], [0, 1, 2, 3, 4], [0, 1, 2, 3, 4, 5], [0, 1, 2, 3, 4, 5, 6], [0, 1, 2, 3, 4, 5, 6, 7], [0, 1, 2, 3, 4, 5, 6, 7, 8], [0, 1, 2, 3, 4, 5, 6, 7, 8, 9], [0, 1, 2, 3, 4, 5, 6, 7, 8, 9, 10], [0, 1, 2, 3, 4, 5, 6, 7, 8, 9, 10, 11], [0, 1, 2, 3, 4, 5, 6, 7, 8, 9, 10, 11, 12], [0, 1, 2, 3, 4, 5, 6, 7, 8, 9, 10, 11, 12, 13], [0, 1, 2, 3, 4, 5, 6, 7, 8, 9, 10, 11, 12, 13, 14], [0, 1, 2, 3, 4, 5, 6, 7, 8, 9, 10, 11, 12, 13, 14, 15], [0, 1, 2, 3, 4, 5, 6, 7, 8, 9, 10, 11, 12, 13, 14, 15, 16], [0, 1, 2, 3, 4, 5, 6, 7, 8, 9, 10, 11, 12, 13, 14, 15, 16, 17], [0, 1, 2, 3, 4, 5, 6, 7, 8, 9, 10, 11, 12, 13, 14, 15, 16, 17, 18], [0, 1, 2, 3, 4, 5, 6, 7, 8, 9, 10, 11, 12, 13, 14, 15, 16, 17, 18, 19], [0, 1, 2, 3, 4, 5, 6, 7, 8, 9, 10, 11, 12, 13, 14, 15, 16, 17, 18, 19, 20], [0, 1, 2, 3, 4, 5, 6, 7, 8, 9, 10, 11, 12, 13, 14, 15, 16, 17, 18, 19, 20, 21], [0, 1, 2, 3, 4, 5, 6, 7, 8, 9, 10, 11, 12, 13, 14, 15, 16, 17, 18, 19, 20, 21, 22], [0, 1, 2, 3, 4, 5, 6, 7, 8, 9, 10, 11, 12, 13, 14, 15, 16, 17, 18, 19, 20, 21, 22], [0, 1, 2, 3, 4, 5, 6, 7, 8, 9, 10, 11, 12, 13, 14, 15, 16, 17, 18, 19, 20, 21, 22, 23, 24], [0, 1, 2, 3, 4, 5, 6, 7, 8, 9, 10, 11, 12, 13, 14, 15, 16, 17, 18, 19, 20, 21, 22], [0, 1, 2, 3, 4, 5, 6, 7, 8, 9, 10, 11, 12, 13, 14, 15, 16, 17, 18, 19, 20, 21, 22, 23, 24, 25, 26], [0, 1, 2, 3, 4, 5, 6, 7, 8, 9, 10, 11, 12, 13, 14, 15, 16, 17, 18, 19, 20, 21, 22, 23, 24, 25, 26, 27], [0, 1, 2, 3, 4, 5, 6, 7, 8, 9, 10, 11, 12, 13, 14, 15, 16, 17, 18, 19, 20, 21, 22, 23, 24, 25, 26, 27, 28]]) [[0, 1, 2, 3, 4, 5, 6, 7, 8, 9, 10, 11, 12, 13, 14, 15, 16, 17, 18, 19, 20, 21, 22, 23, 24, 25, 26, 27, 28, 29]] (by kernel_rfl) (by kernel_rfl) (NoPanic.seq (NoPanic.block (NoPanic.seq (NoPanic.seq (NoPanic.block (NoPanic.seq (NoPanic.body))))))) ?_
    have hS5590 := hS5503.drew
    revert hS5590
    generalize World.drew w5502 = w5589
    intro hS5590
    refine ⟨⟨hS5590.cell 0 rfl 0 rfl, hS5590.cell 0 rfl 1 rfl, hS5590.cell 0 rfl 2 rfl, hS5590.cell 0 rfl 3 rfl, hS5590.cell 0 rfl 0 rfl, hS5590.cell 0 rfl 1 rfl, hS5590.cell 0 rfl 2 rfl, hS5590.cell 0 rfl 3 rfl, trivial⟩, forallC ?_ (forallN)⟩
    refine segF 2 [.v (iv ((rdD p0 x5489 z_Tile).N))] [0, 3, 4, 19] [(0, (.slice A_p0 p0.length c_p0)), (3, (iv x5489)), (4, (pt g5498)), (19, (iv ((rdD p0 x5489 z_Tile).N)))] [] [0] [(1, ⟨g5498, 0, none⟩, (iv ((rdD p0 x5489 z_Tile).N)))] (fun fb => by kernel_rfl) rfl trivial rfl ?_
    obtain ⟨t5593, ht5594, hl5495⟩ := bind_some hl5495
    refine WL.call (some 20) 50 #[(iv ((rdD p0 x5489 z_Tile).N))] (fun fb => by kernel_rfl) (ref01_colour_calls ((rdD p0 x5489 z_Tile).N) t5593 _ ht5594) (fun v w5595 hR5596 => ?_)
    obtain ⟨rfl, hk_⟩ := hR5596
    have hS5597 := hS5590.keepN hk_
    refine ⟨⟨hS5597.cell 0 rfl 1 rfl, hS5597.cell 0 rfl 2 rfl, hS5597.cell 0 rfl 3 rfl, hS5597.cell 0 rfl 0 rfl, hS5597.cell 0 rfl 1 rfl, hS5597.cell 0 rfl 2 rfl, hS5597.cell 0 rfl 3 rfl, trivial⟩, ?_⟩
    refine seg 5 [] [0, 3, 4, 22] [(0, (.slice A_p0 p0.length c_p0)), (3, (iv x5489)), (4, (pt g5498)), (22, (.bool (!t5593)))] [] (fun fb => by kernel_rfl) rfl trivial ?_
    obtain ⟨x5604, hx5605, hl5495⟩ := bind_some hl5495
    refine WL.cutW (T := Bool) 10 (fun t => [(0, (.slice A_p0 p0.length c_p0)), (3, (iv x5489)), (4, (pt g5498)), (27, (.bool t))]) (fun t w1 => (St NoS w w1 [rowR enc_Tile A_p0 c_p0 p0] [blk g5498 (.cells #[(iv ((rdD p0 x5489 z_Tile).N)), (iv ((rdD p0 x5489 z_Tile).E)), (iv ((rdD p0 x5489 z_Tile).S)), (iv ((rdD p0 x5489 z_Tile).W))] 40 (0, 0))] ∧ x5604 = t) ∧ CellsOK [] w1) (fun K => ?_) ?_
    ·
     rcases br_some hx5605 with ⟨h5606, hx5605⟩ | ⟨h5606, hx5605⟩
     ·
      refine WL.setB 22 h5606 rfl ?_
      refine seg 10 [] [0, 3, 4, 27] [(0, (.slice A_p0 p0.length c_p0)), (3, (iv x5489)), (4, (pt g5498)), (27, (.bool true))] [] (fun fb => by kernel_rfl) rfl trivial ?_
      injection hx5605 with hx5605
      exact WL.to K true [0, 3, 4, 27] rfl ⟨⟨(hS5597.subR [0]).sub [0] (by decide), hx5605.symm⟩, trivial⟩
     refine WL.setB 22 h5606 rfl ?_
     refine segF 7 [.v (iv ((rdD p0 x5489 z_Tile).E))] [0, 3, 4, 22, 24] [(0, (.slice A_p0 p0.length c_p0)), (3, (iv x5489)), (4, (pt g5498)), (22, (.bool false)), (24, (iv ((rdD p0 x5489 z_Tile).E)))] [] [1] [(6, ⟨g5498, 1, none⟩, (iv ((rdD p0 x5489 z_Tile).E)))] (fun fb => by kernel_rfl) rfl trivial rfl ?_
     obtain ⟨t5607, ht5608, hx5605⟩ := bind_some hx5605
     refine WL.call (some 25) 50 #[(iv ((rdD p0 x5489 z_Tile).E))] (fun fb => by kernel_rfl) (ref01_colour_calls ((rdD p0 x5489 z_Tile).E) t5607 _ ht5608) (fun v w5609 hR5610 => ?_)
     obtain ⟨rfl, hk_⟩ := hR5610
     have hS5611 := hS5597.keepN hk_
     refine ⟨⟨hS5611.cell 0 rfl 2 rfl, hS5611.cell 0 rfl 3 rfl, hS5611.cell 0 rfl 0 rfl, hS5611.cell 0 rfl 1 rfl, hS5611.cell 0 rfl 2 rfl, hS5611.cell 0 rfl 3 rfl, trivial⟩, ?_⟩
     refine seg 10 [] [0, 3, 4, 27] [(0, (.slice A_p0 p0.length c_p0)), (3, (iv x5489)), (4, (pt g5498)), (27, (.bool (!t5607)))] [] (fun fb => by kernel_rfl) rfl trivial ?_
     injection hx5605 with hx5605
     exact WL.to K (!t5607) [0, 3, 4, 27] rfl ⟨⟨(hS5611.subR [0]).sub [0] (by decide), hx5605.symm⟩, trivial⟩
    rintro y5612 w5614 ⟨⟨hS5615, hq5613⟩, hF5616⟩
    subst hq5613
    refine seg 11 [] [0, 3, 4, 28] [(0, (.slice A_p0 p0.length c_p0)), (3, (iv x5489)), (4, (pt g5498)), (28, (.bool x5604))] [] (fun fb => by kernel_rfl) rfl trivial ?_
    obtain ⟨x5623, hx5624, hl5495⟩ := bind_some hl5495
    refine WL.cutW (T := Bool) 16 (fun t => [(0, (.slice A_p0 p0.length c_p0)), (3, (iv x5489)), (4, (pt g5498)), (33, (.bool t))]) (fun t w1 => (St NoS w w1 [rowR enc_Tile A_p0 c_p0 p0] [blk g5498 (.cells #[(iv ((rdD p0 x5489 z_Tile).N)), (iv ((rdD p0 x5489 z_Tile).E)), (iv ((rdD p0 x5489 z_Tile).S)), (iv ((rdD p0 x5489 z_Tile).W))] 40 (0, 0))] ∧ x5623 = t) ∧ CellsOK [] w1) (fun K => ?_) ?_
    ·
     rcases br_some hx5624 with ⟨h5625, hx5624⟩ | ⟨h5625, hx5624⟩
     ·
      refine WL.setB 28 h5625 rfl ?_
      refine seg 16 [] [0, 3, 4, 33] [(0, (.slice A_p0 p0.length c_p0)), (3, (iv x5489)), (4, (pt g5498)), (33, (.bool true))] [] (fun fb => by kernel_rfl) rfl trivial ?_
      injection hx5624 with hx5624
      exact WL.to K true [0, 3, 4, 33] rfl ⟨⟨(hS5615.subR [0]).sub [0] (by decide), hx5624.symm⟩, trivial⟩
     refine WL.setB 28 h5625 rfl ?_
     refine segF 13 [.v (iv ((rdD p0 x5489 z_Tile).S))] [0, 3, 4, 28, 30] [(0, (.slice A_p0 p0.length c_p0)), (3, (iv x5489)), (4, (pt g5498)), (28, (.bool false)), (30, (iv ((rdD p0 x5489 z_Tile).S)))] [] [2] [(12, ⟨g5498, 2, none⟩, (iv ((rdD p0 x5489 z_Tile).S)))] (fun fb => by kernel_rfl) rfl trivial rfl ?_
     obtain ⟨t5626, ht5627, hx5624⟩ := bind_some hx5624
     refine WL.call (some 31) 50 #[(iv ((rdD p0 x5489 z_Tile).S))] (fun fb => by kernel_rfl) (ref01_colour_calls ((rdD p0 x5489 z_Tile).S) t5626 _ ht5627) (fun v w5628 hR5629 => ?_)
     obtain ⟨rfl, hk_⟩ := hR5629
     have hS5630 := hS5615.keepN hk_
     refine ⟨⟨hS5630.cell 0 rfl 3 rfl, hS5630.cell 0 rfl 0 rfl, hS5630.cell 0 rfl 1 rfl, hS5630.cell 0 rfl 2 rfl, hS5630.cell 0 rfl 3 rfl, trivial⟩, ?_⟩
     refine seg 16 [] [0, 3, 4, 33] [(0, (.slice A_p0 p0.length c_p0)), (3, (iv x5489)), (4, (pt g5498)), (33, (.bool (!t5626)))] [] (fun fb => by kernel_rfl) rfl trivial ?_
     injection hx5624 with hx5624
     exact WL.to K (!t5626) [0, 3, 4, 33] rfl ⟨⟨(hS5630.subR [0]).sub [0] (by decide), hx5624.symm⟩, trivial⟩
    rintro y5631 w5633 ⟨⟨hS5634, hq5632⟩, hF5635⟩
    subst hq5632
    refine seg 17 [] [0, 3, 4, 34] [(0, (.slice A_p0 p0.length c_p0)), (3, (iv x5489)), (4, (pt g5498)), (34, (.bool x5623))] [] (fun fb => by kernel_rfl) rfl trivial ?_
    obtain ⟨x5642, hx5643, hl5495⟩ := bind_some hl5495
    refine WL.cutW (T := Bool) 22 (fun t => [(0, (.slice A_p0 p0.length c_p0)), (3, (iv x5489)), (4, (pt g5498)), (39, (.bool t))]) (fun t w1 => (St NoS w w1 [rowR enc_Tile A_p0 c_p0 p0] [blk g5498 (.cells #[(iv ((rdD p0 x5489 z_Tile).N)), (iv ((rdD p0 x5489 z_Tile).E)), (iv ((rdD p0 x5489 z_Tile).S)), (iv ((rdD p0 x5489 z_Tile).W))] 40 (0, 0))] ∧ x5642 = t) ∧ CellsOK [] w1) (fun K => ?_) ?_
    ·
     rcases br_some hx5643 with ⟨h5644, hx5643⟩ | ⟨h5644, hx5643⟩
     ·
      refine WL.setB 34 h5644 rfl ?_
      refine seg 22 [] [0, 3, 4, 39] [(0, (.slice A_p0 p0.length c_p0)), (3, (iv x5489)), (4, (pt g5498)), (39, (.bool true))] [] (fun fb => by kernel_rfl) rfl trivial ?_
      injection hx5643 with hx5643
      exact WL.to K true [0, 3, 4, 39] rfl ⟨⟨(hS5634.subR [0]).sub [0] (by decide), hx5643.symm⟩, trivial⟩
     refine WL.setB 34 h5644 rfl ?_
     refine segF 19 [.v (iv ((rdD p0 x5489 z_Tile).W))] [0, 3, 4, 34, 36] [(0, (.slice A_p0 p0.length c_p0)), (3, (iv x5489)), (4, (pt g5498)), (34, (.bool false)), (36, (iv ((rdD p0 x5489 z_Tile).W)))] [] [3] [(18, ⟨g5498, 3, none⟩, (iv ((rdD p0 x5489 z_Tile).W)))] (fun fb => by kernel_rfl) rfl trivial rfl ?_
     obtain ⟨t5645, ht5646, hx5643⟩ := bind_some hx5643
     refine WL.call (some 37) 50 #[(iv ((rdD p0 x5489 z_Tile).W))] (fun fb => by kernel_rfl) (ref01_colour_calls ((rdD p0 x5489 z_Tile).W) t5645 _ ht5646) (fun v w5647 hR5648 => ?_)
     obtain ⟨rfl, hk_⟩ := hR5648
     have hS5649 := hS5634.keepN hk_
     refine ⟨⟨hS5649.cell 0 rfl 0 rfl, hS5649.cell 0 rfl 1 rfl, hS5649.cell 0 rfl 2 rfl, hS5649.cell 0 rfl 3 rfl, trivial⟩, ?_⟩
     refine seg 22 [] [0, 3, 4, 39] [(0, (.slice A_p0 p0.length c_p0)), (3, (iv x5489)), (4, (pt g5498)), (39, (.bool (!t5645)))] [] (fun fb => by kernel_rfl) rfl trivial ?_
     injection hx5643 with hx5643
     exact WL.to K (!t5645) [0, 3, 4, 39] rfl ⟨⟨(hS5649.subR [0]).sub [0] (by decide), hx5643.symm⟩, trivial⟩
    rintro y5650 w5652 ⟨⟨hS5653, hq5651⟩, hF5654⟩
    subst hq5651
    refine seg 23 [] [0, 3, 4, 40] [(0, (.slice A_p0 p0.length c_p0)), (3, (iv x5489)), (4, (pt g5498)), (40, (.bool x5642))] [] (fun fb => by kernel_rfl) rfl trivial ?_
    obtain ⟨x5663, hx5664, hl5495⟩ := bind_some hl5495
    refine WL.cutW (T := Bool) 30 (fun t => [(0, (.slice A_p0 p0.length c_p0)), (3, (iv x5489)), (47, (.bool t))]) (fun t w1 => (St NoS w w1 [rowR enc_Tile A_p0 c_p0 p0] [] ∧ x5663 = t) ∧ CellsOK [] w1) (fun K => ?_) ?_
    ·
     rcases br_some hx5664 with ⟨h5665, hx5664⟩ | ⟨h5665, hx5664⟩
     ·
      refine WL.setB 40 h5665 rfl ?_
      refine seg 30 [] [0, 3, 47] [(0, (.slice A_p0 p0.length c_p0)), (3, (iv x5489)), (47, (.bool true))] [] (fun fb => by kernel_rfl) rfl trivial ?_
      injection hx5664 with hx5664
      exact WL.to K true [0, 3, 47] rfl ⟨⟨(hS5653.subR [0]).sub [] (by decide), hx5664.symm⟩, trivial⟩
     refine WL.setB 40 h5665 rfl ?_
     refine seg 25 [] [0, 3, 4, 40, 41, 42] [(0, (.slice A_p0 p0.length c_p0)), (3, (iv x5489)), (4, (pt g5498)), (40, (.bool false)), (41, (.slice A_p0 p0.length c_p0)), (42, (iv x5489))] [] (fun fb => by kernel_rfl) rfl trivial ?_
     obtain ⟨h5666, hx5664⟩ := as_some hx5664
     refine seg 26 [] [0, 3, 4, 40, 43] [(0, (.slice A_p0 p0.length c_p0)), (3, (iv x5489)), (4, (pt g5498)), (40, (.bool false)), (43, (.slice (subA A_p0 c_p0 (0 : Int).toNat 4) (x5489.toNat - (0 : Int).toNat) (c_p0 - (0 : Int).toNat)))] [.idx (some ⟨0, 0, none⟩) (0 : Int) (x5489.toNat + 1), .idx (some ⟨0, 0, none⟩) x5489 (c_p0 + 1)] (fun fb => by kernel_rfl) rfl ⟨cut1 h5666.1 h5666.2.1, cut2 h5666.1 h5666.2.1 h5666.2.2 (hS5653.rd 0).1.2, trivial⟩ ?_
     refine WL.reE [0, 3, 4, 40, 43] [(0, (.slice A_p0 p0.length c_p0)), (3, (iv x5489)), (4, (pt g5498)), (40, (.bool false)), (43, (.slice (subA A_p0 c_p0 (0 : Int).toNat 4) (x5489.toNat - (0 : Int).toNat) (c_p0 - (0 : Int).toNat)))] [(0, (.slice A_p0 p0.length c_p0)), (3, (iv x5489)), (4, (pt g5498)), (40, (.bool false)), (43, (.slice (subA A_p0 c_p0 (0 : Int).toNat 4) (cut p0 (0 : Int) x5489).length (c_p0 - (0 : Int).toNat)))] rfl (by rw [cut_length h5666.1 h5666.2.1 h5666.2.2]) ?_
     have hS5667 := hS5653.cutR 0 rfl h5666.1 h5666.2.1 h5666.2.2
     refine segF 27 [.v (iv ((rdD p0 x5489 z_Tile).N)), .v (iv ((rdD p0 x5489 z_Tile).E)), .v (iv ((rdD p0 x5489 z_Tile).S)), .v (iv ((rdD p0 x5489 z_Tile).W))] [0, 3, 40, 43, 44] [(0, (.slice A_p0 p0.length c_p0)), (3, (iv x5489)), (40, (.bool false)), (43, (.slice (subA A_p0 c_p0 (0 : Int).toNat 4) (cut p0 (0 : Int) x5489).length (c_p0 - (0 : Int).toNat))), (44, (.agg #[(iv ((rdD p0 x5489 z_Tile).N)), (iv ((rdD p0 x5489 z_Tile).E)), (iv ((rdD p0 x5489 z_Tile).S)), (iv ((rdD p0 x5489 z_Tile).W))]))] [] [4, 5, 6, 7] [(26, ⟨g5498, 0, none⟩, (iv ((rdD p0 x5489 z_Tile).N))), (26, ⟨g5498, 1, none⟩, (iv ((rdD p0 x5489 z_Tile).E))), (26, ⟨g5498, 2, none⟩, (iv ((rdD p0 x5489 z_Tile).S))), (26, ⟨g5498, 3, none⟩, (iv ((rdD p0 x5489 z_Tile).W)))] (fun fb => by kernel_rfl) rfl trivial rfl ?_
     obtain ⟨t5668, ht5669, hx5664⟩ := bind_some hx5664
     refine WL.call (some 45) 51 #[(.slice (subA A_p0 c_p0 (0 : Int).toNat 4) (cut p0 (0 : Int) x5489).length (c_p0 - (0 : Int).toNat)), (.agg #[(iv ((rdD p0 x5489 z_Tile).N)), (iv ((rdD p0 x5489 z_Tile).E)), (iv ((rdD p0 x5489 z_Tile).S)), (iv ((rdD p0 x5489 z_Tile).W))])] (fun fb => by kernel_rfl) (ref01_Index_calls _ (cut p0 (0 : Int) x5489) (rdD p0 x5489 z_Tile) (subA A_p0 c_p0 (0 : Int).toNat 4) (c_p0 - (0 : Int).toNat) t5668 _ (hS5667.rd 0) ht5669) (fun v w5670 hR5671 => ?_)
     obtain ⟨rfl, hk_⟩ := hR5671
     have hS5672 := hS5667.keepN hk_
     refine ⟨trivial, ?_⟩
     refine seg 30 [] [0, 3, 47] [(0, (.slice A_p0 p0.length c_p0)), (3, (iv x5489)), (47, (.bool (decide (t5668 ≥ 0))))] [] (fun fb => by kernel_rfl) rfl trivial ?_
     injection hx5664 with hx5664
     exact WL.to K (decide (t5668 ≥ 0)) [0, 3, 47] rfl ⟨⟨(hS5672.subR [1]).sub [] (by decide), hx5664.symm⟩, trivial⟩
    rintro y5673 w5675 ⟨⟨hS5676, hq5674⟩, hF5677⟩
    subst hq5674
    refine WL.done rfl ?_
    refine WX.next ?_
    rcases br_some hl5495 with ⟨h5678, hl5495⟩ | ⟨h5678, hl5495⟩
    ·refine WC.condT2 (fun fb => by kernel_rfl) h5678 ?_
     refine WC.seq ?_
     refine WC.region ?_
     refine seg 1 [] [2] [(2, (.bool false))] [] (fun fb => by kernel_rfl) rfl trivial ?_
     refine WL.done rfl ?_
     refine WX.next ?_
     refine WC.ret ?_
     injection hl5495 with hl5495
     subst hl5495
     injection hf with hf
     subst hf
     exact WX.blockR (WX.thenR (WX.thenR (WX.blockR (WX.thenR (WX.ret_ [] (.bool false) [] (fun fb => by kernel_rfl) trivial ⟨_, rfl, rfl, hS5676.keep⟩)))))
    refine WC.condF2 (fun fb => by kernel_rfl) h5678 ?_
    refine WC.skip ?_
    refine WX.blockN (WX.next ?_)
    refine WC.region ?_
    refine seg 3 [] [0, 3] [(0, (.slice A_p0 p0.length c_p0)), (3, (iv (w64 (x5489 + 1))))] [] (fun fb => by kernel_rfl) rfl trivial ?_
    refine WL.done rfl ?_
    exact WX.again k5492 (Nat.lt_succ_self _) (w64 (x5489 + 1)) [0, 3] rfl ⟨(hS5676.subR [0]).sub [] (by decide), hl5495⟩
   refine WC.condF2 (fun fb => by kernel_rfl) h5496 ?_
   refine WC.exit ?_
   injection hl5495 with hl5495
   exact WX.thenX (WX.thenX (WX.blockHere (WX.to Kx5490 () [] rfl ⟨(hS5494.subR [0]).sub [] (by decide), hl5495.symm⟩)))
 rintro y5682 w5679 ⟨hS5680, hq5681⟩
 subst hq5681
 have hf := sum_inr hf
 refine WX.next ?_
 refine WC.seq ?_
 refine WC.region ?_
 refine seg 1 [] [2] [(2, (.bool true))] [] (fun fb => by kernel_rfl) rfl trivial ?_
 refine WL.done rfl ?_
 refine WX.next ?_
 refine WC.ret ?_
 injection hf with hf
 subst hf
 exact WX.ret_ [] (.bool true) [] (fun fb => by kernel_rfl) trivial ⟨_, rfl, rfl, hS5680.keep⟩
theorem law03_no_calls (k : Nat) (p0 : Pattern) (p1 : Int) (p2 : Int) (A_p0_Cells : Option Addr) (c_p0_Cells : Nat) (r : Bool) (w : World) (hR0 : RO NoS w (rowR encInt A_p0_Cells c_p0_Cells p0.Cells)) (hf : law03_no k p0 p1 p2 = some r) :
  CallsR Tryd.prog 17 #[(.agg #[(iv p0.Width), (iv p0.Height), (.slice A_p0_Cells p0.Cells.length c_p0_Cells)]), (iv p1), (iv p2)] w (fun v w' => v = (.bool r) ∧ Keeps NoS w w') := by
 have hS : St NoS w w [rowR encInt A_p0_Cells c_p0_Cells p0.Cells] [] := St.init (ro_cons hR0 (ro_nil _ _))
 refine enter 15 Tryd.func17 rfl Tryd.ntmps17 rfl ?_
 unfold law03_no at hf
 refine WC.seq ?_
 refine WC.region ?_
 refine WL.new hS 3 [] (fun g => (.pointer (some ⟨g, 0, none⟩))) (.cells #[(iv p0.Width), (iv p0.Height), (.slice A_p0_Cells p0.Cells.length c_p0_Cells)] 27 (0, 0)) [] (fun fb g => by kernel_rfl) trivial (fun g5717 w5718 hS5719 => ?_)
 refine ⟨trivial, ?_⟩
 refine seg 2 [] [1, 2, 3] [(1, (iv p1)), (2, (iv p2)), (3, (pt g5717))] [] (fun fb => by kernel_rfl) rfl trivial ?_
 refine WL.done rfl ?_
 refine WX.next ?_
 refine WC.seq ?_
 refine WC.region ?_
 refine seg 4 [] [3, 10] [(3, (pt g5717)), (10, (.bool (p1 == p2)))] [] (fun fb => by kernel_rfl) rfl trivial ?_
 obtain ⟨x5727, hx5728, hf⟩ := bind_some hf
 refine WL.cutW (T := Bool) 8 (fun t => [(14, (.bool t))]) (fun t w1 => (St NoS w w1 [rowR encInt A_p0_Cells c_p0_Cells p0.Cells] [] ∧ x5727 = t) ∧ CellsOK [] w1) (fun K => ?_) ?_
 ·
  rcases br_some hx5728 with ⟨h5729, hx5728⟩ | ⟨h5729, hx5728⟩
  ·
   refine WL.setB 10 h5729 rfl ?_
   refine seg 6 [.v (iv p0.Width), .v (iv p0.Height), .v (.slice A_p0_Cells p0.Cells.length c_p0_Cells)] [10, 11, 12] [(10, (.bool true)), (11, (.agg #[(iv p0.Width), (iv p0.Height), (.slice A_p0_Cells p0.Cells.length c_p0_Cells)])), (12, (.agg #[(iv 0), (iv 0), (.slice none 0 0)]))] [.cell ⟨g5717, 0, none⟩ (iv p0.Width), .cell ⟨g5717, 1, none⟩ (iv p0.Height), .cell ⟨g5717, 2, none⟩ (.slice A_p0_Cells p0.Cells.length c_p0_Cells)] (fun fb => by kernel_rfl) rfl ⟨hS5719.cell 0 rfl 0 rfl, hS5719.cell 0 rfl 1 rfl, hS5719.cell 0 rfl 2 rfl, trivial⟩ ?_
   obtain ⟨t5730, ht5731, hx5728⟩ := bind_some hx5728
   refine WL.call (some 13) 32 #[(.agg #[(iv p0.Width), (iv p0.Height), (.slice A_p0_Cells p0.Cells.length c_p0_Cells)]), (.agg #[(iv 0), (iv 0), (.slice none 0 0)])] (fun fb => by kernel_rfl) (ref01_SamePattern_calls _ p0 (Pattern.mk 0 0 ([] : List Int)) A_p0_Cells c_p0_Cells none 0 t5730 _ (hS5719.rd 0) (RO.nilR _ _ _) ht5731) (fun v w5732 hR5733 => ?_)
   obtain ⟨rfl, hk_⟩ := hR5733
   have hS5734 := hS5719.keepN hk_
   refine ⟨trivial, ?_⟩
   refine seg 8 [] [14] [(14, (.bool t5730))] [] (fun fb => by kernel_rfl) rfl trivial ?_
   injection hx5728 with hx5728
   exact WL.to K t5730 [14] rfl ⟨⟨(hS5734.subR [0]).sub [] (by decide), hx5728.symm⟩, trivial⟩
  refine WL.setB 10 h5729 rfl ?_
  refine seg 8 [] [14] [(14, (.bool false))] [] (fun fb => by kernel_rfl) rfl trivial ?_
  injection hx5728 with hx5728
  exact WL.to K false [14] rfl ⟨⟨(hS5719.subR [0]).sub [] (by decide), hx5728.symm⟩, trivial⟩
 rintro y5735 w5737 ⟨⟨hS5738, hq5736⟩, hF5739⟩
 subst hq5736
 refine seg 9 [] [6] [(6, (.bool x5727))] [] (fun fb => by kernel_rfl) rfl trivial ?_
 refine WL.done rfl ?_
 refine WX.next ?_
 refine WC.ret ?_
 injection hf with hf
 subst hf
 exact WX.ret_ [] (.bool x5727) [] (fun fb => by kernel_rfl) trivial ⟨_, rfl, rfl, hS5738.keep⟩
theorem ref02_at_calls (k : Nat) (p0 : List Int) (p1 : Int) (A_p0 : Option Addr) (c_p0 : Nat) (r : Int) (w : World) (hR0 : RO NoS w (rowR encInt A_p0 c_p0 p0)) (hf : ref02_at k p0 p1 = some r) :
  CallsR Tryd.prog 87 #[(.slice A_p0 p0.length c_p0), (iv p1)] w (fun v w' => v = (iv r) ∧ Keeps NoS w w') := by
 have hS : St NoS w w [rowR encInt A_p0 c_p0 p0] [] := St.init (ro_cons hR0 (ro_nil _ _))
 refine enter 19 Tryd.func87 rfl Tryd.ntmps87 rfl ?_
 unfold ref02_at at hf
 refine WC.seq ?_
 refine WC.region ?_
 refine seg 1 [] [0, 1] [(0, (.slice A_p0 p0.length c_p0)), (1, (iv p1))] [] (fun fb => by kernel_rfl) rfl trivial ?_
 refine WL.done rfl ?_
 refine WX.next ?_
 refine WC.seq ?_
 refine WC.seq ?_
 refine WC.region ?_
 refine seg 1 [] [0, 1, 5] [(0, (.slice A_p0 p0.length c_p0)), (1, (iv p1)), (5, (iv 0))] [] (fun fb => by kernel_rfl) rfl trivial ?_
 refine WL.done rfl ?_
 refine WX.next ?_
 obtain ⟨x5798, hx5799, hf⟩ := bind_some hf
 refine WC.cutN (T := Unit) (fun t => []) (fun t w1 => St NoS w w1 [rowR encInt A_p0 c_p0 p0] [] ∧ x5798 = .inr t) (fun Kx5798 => ?_) ?_
 ·
  refine WC.block ?_
  refine WC.loop (T := Int) (fun t => [(0, (.slice A_p0 p0.length c_p0)), (1, (iv p1)), (5, (iv t))]) (fun n t w1 => St NoS w w1 [rowR encInt A_p0 c_p0 p0] [] ∧ ref02_at.l0 n t p0 p1 = some x5798) k 0 [0, 1, 5] rfl ⟨(hS.subR [0]).sub [] (by decide), hx5799⟩ ?_
  rintro k5800 x5797 w5801 ⟨hS5802, hl5803⟩
  cases k5800 with
  | zero => rw [ref02_at.l0] at hl5803; cases hl5803
  | succ k5800 =>
   rw [ref02_at.l0] at hl5803
   refine WC.seq ?_
   refine WC.seq ?_
   refine WC.region ?_
   refine seg 4 [] [0, 1, 5, 9] [(0, (.slice A_p0 p0.length c_p0)), (1, (iv p1)), (5, (iv x5797)), (9, (.bool (decide (x5797 < (p0.length : Int)))))] [] (fun fb => by kernel_rfl) rfl trivial ?_
   refine WL.done rfl ?_
   refine WX.next ?_
   rcases br_some hl5803 with ⟨h5804, hl5803⟩ | ⟨h5804, hl5803⟩
   ·refine WC.condT2 (fun fb => by kernel_rfl) h5804 ?_
    refine WC.skip ?_
    refine WX.next ?_
    refine WC.seq ?_
    refine WC.block ?_
    refine WC.seq ?_
    refine WC.region ?_
    refine seg 2 [] [0, 1, 5, 12, 13] [(0, (.slice A_p0 p0.length c_p0)), (1, (iv p1)), (5, (iv x5797)), (12, (.slice A_p0 p0.length c_p0)), (13, (iv x5797))] [] (fun fb => by kernel_rfl) rfl trivial ?_
    obtain ⟨h5805, hl5803⟩ := as_some hl5803
    refine seg 6 [.v (iv (rdD p0 x5797 0))] [0, 1, 5, 17] [(0, (.slice A_p0 p0.length c_p0)), (1, (iv p1)), (5, (iv x5797)), (17, (.bool ((rdD p0 x5797 0) == p1)))] [.idx A_p0 x5797 p0.length, .cell ((adr A_p0).add ((x5797).toNat * 1)) (iv (rdD p0 x5797 0))] (fun fb => by kernel_rfl) rfl ⟨rowR.adr (hS5802.rd 0).1 h5805.1 h5805.2, rowR.cell (hS5802.rd 0).1 0 h5805.1 h5805.2 0 rfl, trivial⟩ ?_
    refine WL.done rfl ?_
    refine WX.next ?_
    rcases br_some hl5803 with ⟨h5806, hl5803⟩ | ⟨h5806, hl5803⟩
    ·refine WC.condT2 (fun fb => by kernel_rfl) h5806 ?_
     refine WC.seq ?_
     refine WC.region ?_
     refine seg 2 [] [4] [(4, (iv x5797))] [] (fun fb => by kernel_rfl) rfl trivial ?_
     refine WL.done rfl ?_
     refine WX.next ?_
     refine WC.ret ?_
     injection hl5803 with hl5803
     subst hl5803
     injection hf with hf
     subst hf
     exact WX.blockR (WX.thenR (WX.thenR (WX.blockR (WX.thenR (WX.ret_ [] (iv x5797) [] (fun fb => by kernel_rfl) trivial ⟨_, rfl, rfl, hS5802.keep⟩)))))
    refine WC.condF2 (fun fb => by kernel_rfl) h5806 ?_
    refine WC.skip ?_
    refine WX.blockN (WX.next ?_)
    refine WC.region ?_
    refine seg 3 [] [0, 1, 5] [(0, (.slice A_p0 p0.length c_p0)), (1, (iv p1)), (5, (iv (w64 (x5797 + 1))))] [] (fun fb => by kernel_rfl) rfl trivial ?_
    refine WL.done rfl ?_
    exact WX.again k5800 (Nat.lt_succ_self _) (w64 (x5797 + 1)) [0, 1, 5] rfl ⟨(hS5802.subR [0]).sub [] (by decide), hl5803⟩
   refine WC.condF2 (fun fb => by kernel_rfl) h5804 ?_
   refine WC.exit ?_
   injection hl5803 with hl5803
   exact WX.thenX (WX.thenX (WX.blockHere (WX.to Kx5798 () [] rfl ⟨(hS5802.subR [0]).sub [] (by decide), hl5803.symm⟩)))
 rintro y5810 w5807 ⟨hS5808, hq5809⟩
 subst hq5809
 have hf := sum_inr hf
 refine WX.next ?_
 refine WC.seq ?_
 refine WC.region ?_
 refine seg 1 [] [4] [(4, (iv (-1)))] [] (fun fb => by kernel_rfl) rfl trivial ?_
 refine WL.done rfl ?_
 refine WX.next ?_
 refine WC.ret ?_
 injection hf with hf
 subst hf
 exact WX.ret_ [] (iv (-1)) [] (fun fb => by kernel_rfl) trivial ⟨_, rfl, rfl, hS5808.keep⟩
theorem ref02_with_calls (k : Nat) (p0 : List Int) (p1 : Int) (A_p0 : Option Addr) (c_p0 : Nat) (r : (List Int)) (w : World) (hI : IoOK w [rowO 3 encInt A_p0 c_p0 p0]) (hf : ref02_with k p0 p1 = some r) :
  CallsR Tryd.prog 67 #[(.slice A_p0 p0.length c_p0), (iv p1)] w (fun v w' => ∃ (A1_ : Option Addr), ∃ (c1_ : Nat), v = (.slice A1_ r.length c1_) ∧ St (fpL [rowO 3 encInt A_p0 c_p0 p0]) w w' [] [rowO 3 encInt A1_ c1_ r]) := by
 have hS : St (fpL [rowO 3 encInt A_p0 c_p0 p0]) w w [] [rowO 3 encInt A_p0 c_p0 p0] := St.initIO (ro_nil _ _) hI
 refine enter 14 Tryd.func67 rfl Tryd.ntmps67 rfl ?_
 unfold ref02_with at hf
 refine WC.seq ?_
 refine WC.region ?_
 refine seg 1 [] [0, 1] [(0, (.slice A_p0 p0.length c_p0)), (1, (iv p1))] [] (fun fb => by kernel_rfl) rfl trivial ?_
 refine WL.done rfl ?_
 refine WX.next ?_
 refine WC.seq ?_
 refine WC.seq ?_
 refine WC.region ?_
 refine seg 2 [] [0, 1, 5, 6] [(0, (.slice A_p0 p0.length c_p0)), (1, (iv p1)), (5, (.slice A_p0 p0.length c_p0)), (6, (iv p1))] [] (fun fb => by kernel_rfl) rfl trivial ?_
 obtain ⟨t5823, ht5824, hf⟩ := bind_some hf
 refine WL.call (some 7) 87 #[(.slice A_p0 p0.length c_p0), (iv p1)] (fun fb => by kernel_rfl) (ref02_at_calls _ p0 p1 A_p0 c_p0 t5823 _ (hS.ow 0).ofO ht5824) (fun v w5825 hR5826 => ?_)
 obtain ⟨rfl, hk_⟩ := hR5826
 have hS5827 := hS.keepN hk_
 refine ⟨trivial, ?_⟩
 refine seg 4 [] [0, 1, 8] [(0, (.slice A_p0 p0.length c_p0)), (1, (iv p1)), (8, (.bool (decide (t5823 < 0))))] [] (fun fb => by kernel_rfl) rfl trivial ?_
 refine WL.done rfl ?_
 refine WX.next ?_
 obtain ⟨x5842, hx5843, hf⟩ := bind_some hf
 refine WC.cutN (T := (List Int) × (Option Addr) × Nat) (fun t => [(0, (.slice t.2.1 t.1.length t.2.2))]) (fun t w1 => St (fpL [rowO 3 encInt A_p0 c_p0 p0]) w w1 [] [rowO 3 encInt t.2.1 t.2.2 t.1] ∧ x5842 = t.1) (fun Kx5842 => ?_) ?_
 ·
  rcases br_some hx5843 with ⟨h5844, hx5843⟩ | ⟨h5844, hx5843⟩
  ·refine WC.condT2 (fun fb => by kernel_rfl) h5844 ?_
   refine WC.region ?_
   refine seg 2 [] [9, 10] [(9, (.slice A_p0 p0.length c_p0)), (10, (iv p1))] [] (fun fb => by kernel_rfl) rfl trivial ?_
   refine WL.new hS5827 11 [] (fun g => (.slice (some ⟨g, 0, none⟩) 1 1)) (.cells #[(iv p1)] 3 (0, 0)) [] (fun fb g => by kernel_rfl) trivial (fun g5845 w5846 hS5847 => ?_)
   refine ⟨trivial, ?_⟩
   have hS5849 : St (fpL [rowO 3 encInt A_p0 c_p0 p0]) w w5846 [] [rowO 3 encInt (some ⟨g5845, 0, none⟩) 1 [p1], rowO 3 encInt A_p0 c_p0 p0] := hS5847.map1 0 _ (fun h => rowO.ofBlk h rfl (Nat.le_of_ble_eq_true (by kernel_rfl))) (fun _ h => by obtain ⟨_, h1, h2⟩ := h; injection h1 with h1; subst h1; exact h2) [1] (by decide) (by decide)
   obtain ⟨h5850, hx5843⟩ := as_some hx5843
   refine WL.append hS5849 1 (d := 12) (tS := 25) (z := (iv 0)) (bytes := 8) (c2 := 1) rfl (fun fb => by kernel_rfl) (rowO.rd (hS5849.own 0).1) (by kernel_rfl) (by kernel_rfl) rfl (by decide) h5850 (by decide) [0] (by decide) (by decide) (fun A5851 c5852 w5853 hS5854 => ?_)
   refine ⟨trivial, ?_⟩
   refine seg 5 [] [0] [(0, (.slice A5851 (p0 ++ [p1]).length c5852))] [] (fun fb => by kernel_rfl) rfl trivial ?_
   refine WL.done rfl ?_
   injection hx5843 with hx5843
   exact WX.to Kx5842 (p0 ++ [p1], A5851, c5852) [0] rfl ⟨(hS5854.subR []).sub [0] (by decide), hx5843.symm⟩
  refine WC.condF2 (fun fb => by kernel_rfl) h5844 ?_
  refine WC.skip ?_
  injection hx5843 with hx5843
  exact WX.to Kx5842 (p0, A_p0, c_p0) [0] rfl ⟨(hS5827.subR []).sub [0] (by decide), hx5843.symm⟩
 rintro ⟨y5858, A5839, c5840⟩ w5855 ⟨hS5856, hq5857⟩
 subst hq5857
 refine WX.next ?_
 refine WC.seq ?_
 refine WC.region ?_
 refine seg 2 [] [4] [(4, (.slice A5839 x5842.length c5840))] [] (fun fb => by kernel_rfl) rfl trivial ?_
 refine WL.done rfl ?_
 refine WX.next ?_
 refine WC.ret ?_
 injection hf with hf
 subst hf
 exact WX.ret_ [] (.slice A5839 x5842.length c5840) [] (fun fb => by kernel_rfl) trivial ⟨_, rfl, A5839, c5840, rfl, (hS5856.sub [0] (by decide)).noR⟩
theorem ref02_Colours_calls (k : Nat) (p0 : List Tile) (A_p0 : Option Addr) (c_p0 : Nat) (r : (List Int)) (w : World) (hR0 : RO NoS w (rowR enc_Tile A_p0 c_p0 p0)) (hf : ref02_Colours k p0 = some r) :
  CallsR Tryd.prog 38 #[(.slice A_p0 p0.length c_p0)] w (fun v w' => ∃ (A1_ : Option Addr), ∃ (c1_ : Nat), v = (.slice A1_ r.length c1_) ∧ St NoS w w' [] [rowO 3 encInt A1_ c1_ r]) := by
 have hS : St NoS w w [rowR enc_Tile A_p0 c_p0 p0] [] := St.init (ro_cons hR0 (ro_nil _ _))
 refine enter 25 Tryd.func38 rfl Tryd.ntmps38 rfl ?_
 unfold ref02_Colours at hf
 refine WC.seq ?_
 refine WC.region ?_
 refine seg 1 [] [0] [(0, (.slice A_p0 p0.length c_p0))] [] (fun fb => by kernel_rfl) rfl trivial ?_
 refine WL.done rfl ?_
 refine WX.next ?_
 refine WC.seq ?_
 refine WC.region ?_
 refine seg 1 [] [0, 3] [(0, (.slice A_p0 p0.length c_p0)), (3, (.slice none 0 0))] [] (fun fb => by kernel_rfl) rfl trivial ?_
 refine WL.done rfl ?_
 refine WX.next ?_
 refine WC.seq ?_
 refine WC.seq ?_
 refine WC.region ?_
 refine seg 1 [] [0, 3, 4] [(0, (.slice A_p0 p0.length c_p0)), (3, (.slice none 0 0)), (4, (iv 0))] [] (fun fb => by kernel_rfl) rfl trivial ?_
 refine WL.done rfl ?_
 refine WX.next ?_
 have hS5932 := hS.nilrow 3 encInt
 obtain ⟨x5940, hx5941, hf⟩ := bind_some hf
 refine WC.cutN (T := (List Int) × (Option Addr) × Nat) (fun t => [(3, (.slice t.2.1 t.1.length t.2.2))]) (fun t w1 => St NoS w w1 [rowR enc_Tile A_p0 c_p0 p0] [rowO 3 encInt t.2.1 t.2.2 t.1] ∧ x5940 = t.1) (fun Kx5940 => ?_) ?_
 ·
  refine WC.block ?_
  refine WC.loop (T := ((List Int) × Int) × (Option Addr) × Nat) (fun t => [(0, (.slice A_p0 p0.length c_p0)), (3, (.slice t.2.1 t.1.1.length t.2.2)), (4, (iv t.1.2))]) (fun n t w1 => St NoS w w1 [rowR enc_Tile A_p0 c_p0 p0] [rowO 3 encInt t.2.1 t.2.2 t.1.1] ∧ ref02_Colours.l0 n t.1.1 t.1.2 p0 = some x5940) k ((([] : List Int), 0), none, 0) [0, 3, 4] rfl ⟨(hS5932.subR [0]).sub [0] (by decide), hx5941⟩ ?_
  rintro k5942 ⟨⟨l5935, x5936⟩, A5933, c5934⟩ w5943 ⟨hS5944, hl5945⟩
  cases k5942 with
  | zero => rw [ref02_Colours.l0] at hl5945; cases hl5945
  | succ k5942 =>
   rw [ref02_Colours.l0] at hl5945
   refine WC.seq ?_
   refine WC.seq ?_
   refine WC.region ?_
   refine seg 4 [] [0, 3, 4, 8] [(0, (.slice A_p0 p0.length c_p0)), (3, (.slice A5933 l5935.length c5934)), (4, (iv x5936)), (8, (.bool (decide (x5936 < (p0.length : Int)))))] [] (fun fb => by kernel_rfl) rfl trivial ?_
   refine WL.done rfl ?_
   refine WX.next ?_
   rcases br_some hl5945 with ⟨h5946, hl5945⟩ | ⟨h5946, hl5945⟩
   ·refine WC.condT2 (fun fb => by kernel_rfl) h5946 ?_
    refine WC.skip ?_
    refine WX.next ?_
    refine WC.seq ?_
    refine WC.block ?_
    obtain ⟨h5965, hl5945⟩ := as_some hl5945
    refine WC.regionD ([(5, ((adr A_p0).add ((x5936).toNat * 4)), (iv ((rdD p0 x5936 z_Tile).N))), (11, (((adr A_p0).add ((x5936).toNat * 4)).add 2), (iv ((rdD p0 x5936 z_Tile).S)))], [0, 1, 2, 3, 4, 5, 7, 8, 9, 10, 11, 13], [[], [], [], [1, 2], [1, 2, 3], [1, 2, 3, 4], [0, 1, 2, 3, 4, 5], [], [], [7, 8], [7, 8, 9], [7, 8, 9, 10], [0, 1, 2, 3, 4, 5, 6, 7, 8, 9, 10, 11], [0, 1, 2, 3, 4, 5, 6, 7, 8, 9, 10, 11, 12]]) [[0, 1, 2, 3, 4, 5, 7, 8, 9, 10, 11, 6, 12, 13]] (by kernel_rfl) (by kernel_rfl) (NoPanic.block (NoPanic.seq (NoPanic.seq (NoPanic.block (NoPanic.seq (NoPanic.body)))))) ?_
    have hS5963 := hS5944.drew
    revert hS5963
    generalize World.drew w5943 = w5962
    intro hS5963
    refine ⟨⟨rowR.cell (hS5963.rd 0).1 z_Tile h5965.1 h5965.2 0 rfl, rowR.cell (hS5963.rd 0).1 z_Tile h5965.1 h5965.2 2 rfl, trivial⟩, forallC ?_ (forallN)⟩
    refine segF 11 [.v (iv ((rdD p0 x5936 z_Tile).N)), .v (iv ((rdD p0 x5936 z_Tile).S))] [0, 4, 11, 16, 22] [(0, (.slice A_p0 p0.length c_p0)), (4, (iv x5936)), (11, (.slice A5933 l5935.length c5934)), (16, (iv ((rdD p0 x5936 z_Tile).N))), (22, (iv ((rdD p0 x5936 z_Tile).S)))] [.idx A_p0 x5936 p0.length, .idx A_p0 x5936 p0.length] [0, 1] [(5, ((adr A_p0).add ((x5936).toNat * 4)), (iv ((rdD p0 x5936 z_Tile).N))), (11, (((adr A_p0).add ((x5936).toNat * 4)).add 2), (iv ((rdD p0 x5936 z_Tile).S)))] (fun fb => by kernel_rfl) rfl ⟨rowR.adr (hS5963.rd 0).1 h5965.1 h5965.2, rowR.adr (hS5963.rd 0).1 h5965.1 h5965.2, trivial⟩ rfl ?_
    obtain ⟨t5966, ht5967, hl5945⟩ := bind_some hl5945
    refine WL.call (some 17) 67 #[(.slice A5933 l5935.length c5934), (iv ((rdD p0 x5936 z_Tile).N))] (fun fb => by kernel_rfl) (ref02_with_calls _ l5935 ((rdD p0 x5936 z_Tile).N) A5933 c5934 t5966 _ (hS5963.io [0] (by decide)) ht5967) (fun v w5968 hR5969 => ?_)
    obtain ⟨A5971, c5972, rfl, hk_⟩ := hR5969
    have hS5970 : St NoS w w5968 [rowR enc_Tile A_p0 c_p0 p0] [rowO 3 encInt A5971 c5972 t5966] := hS5963.call hk_ [0] [] (fun g hg => fpL_sel g hg) (by decide) (by decide)
    refine ⟨⟨rowR.cell (hS5970.rd 0).1 z_Tile h5965.1 h5965.2 2 rfl, trivial⟩, ?_⟩
    obtain ⟨t5973, ht5974, hl5945⟩ := bind_some hl5945
    refine WL.call (some 23) 67 #[(.slice A5971 t5966.length c5972), (iv ((rdD p0 x5936 z_Tile).S))] (fun fb => by kernel_rfl) (ref02_with_calls _ t5966 ((rdD p0 x5936 z_Tile).S) A5971 c5972 t5973 _ (hS5970.io [0] (by decide)) ht5974) (fun v w5975 hR5976 => ?_)
    obtain ⟨A5978, c5979, rfl, hk_⟩ := hR5976
    have hS5977 : St NoS w w5975 [rowR enc_Tile A_p0 c_p0 p0] [rowO 3 encInt A5978 c5979 t5973] := hS5970.call hk_ [0] [] (fun g hg => fpL_sel g hg) (by decide) (by decide)
    refine ⟨trivial, ?_⟩
    refine seg 14 [] [0, 3, 4] [(0, (.slice A_p0 p0.length c_p0)), (3, (.slice A5978 t5973.length c5979)), (4, (iv x5936))] [] (fun fb => by kernel_rfl) rfl trivial ?_
    refine WL.done rfl ?_
    refine WX.blockN (WX.next ?_)
    refine WC.region ?_
    refine seg 3 [] [0, 3, 4] [(0, (.slice A_p0 p0.length c_p0)), (3, (.slice A5978 t5973.length c5979)), (4, (iv (w64 (x5936 + 1))))] [] (fun fb => by kernel_rfl) rfl trivial ?_
    refine WL.done rfl ?_
    exact WX.again k5942 (Nat.lt_succ_self _) ((t5973, w64 (x5936 + 1)), A5978, c5979) [0, 3, 4] rfl ⟨(hS5977.subR [0]).sub [0] (by decide), hl5945⟩
   refine WC.condF2 (fun fb => by kernel_rfl) h5946 ?_
   refine WC.exit ?_
   injection hl5945 with hl5945
   exact WX.thenX (WX.thenX (WX.blockHere (WX.to Kx5940 (l5935, A5933, c5934) [3] rfl ⟨(hS5944.subR [0]).sub [0] (by decide), hl5945.symm⟩)))
 rintro ⟨y5983, A5937, c5938⟩ w5980 ⟨hS5981, hq5982⟩
 subst hq5982
 refine WX.next ?_
 refine WC.seq ?_
 refine WC.region ?_
 refine seg 2 [] [2] [(2, (.slice A5937 x5940.length c5938))] [] (fun fb => by kernel_rfl) rfl trivial ?_
 refine WL.done rfl ?_
 refine WX.next ?_
 refine WC.ret ?_
 injection hf with hf
 subst hf
 exact WX.ret_ [] (.slice A5937 x5940.length c5938) [] (fun fb => by kernel_rfl) trivial ⟨_, rfl, A5937, c5938, rfl, (hS5981.sub [0] (by decide)).noR⟩
theorem ref02_Power_calls (k : Nat) (p0 : Int) (p1 : Int)  (r : Int) (w : World)  (hf : ref02_Power k p0 p1 = some r) :
  CallsR Tryd.prog 24 #[(iv p0), (iv p1)] w (fun v w' => v = (iv r) ∧ Keeps NoS w w') := by
 have hS : St NoS w w [] [] := St.init (ro_nil _ _)
 refine enter 17 Tryd.func24 rfl Tryd.ntmps24 rfl ?_
 unfold ref02_Power at hf
 refine WC.seq ?_
 refine WC.region ?_
 refine seg 1 [] [0, 1] [(0, (iv p0)), (1, (iv p1))] [] (fun fb => by kernel_rfl) rfl trivial ?_
 refine WL.done rfl ?_
 refine WX.next ?_
 refine WC.seq ?_
 refine WC.region ?_
 refine seg 1 [] [0, 1, 5] [(0, (iv p0)), (1, (iv p1)), (5, (iv 1))] [] (fun fb => by kernel_rfl) rfl trivial ?_
 refine WL.done rfl ?_
 refine WX.next ?_
 refine WC.seq ?_
 refine WC.seq ?_
 refine WC.region ?_
 refine seg 1 [] [0, 1, 5, 6] [(0, (iv p0)), (1, (iv p1)), (5, (iv 1)), (6, (iv 0))] [] (fun fb => by kernel_rfl) rfl trivial ?_
 refine WL.done rfl ?_
 refine WX.next ?_
 obtain ⟨x5998, hx5999, hf⟩ := bind_some hf
 refine WC.cutN (T := Int) (fun t => [(5, (iv t))]) (fun t w1 => St NoS w w1 [] [] ∧ x5998 = t) (fun Kx5998 => ?_) ?_
 ·
  refine WC.block ?_
  refine WC.loop (T := Int × Int) (fun t => [(0, (iv p0)), (1, (iv p1)), (5, (iv t.1)), (6, (iv t.2))]) (fun n t w1 => St NoS w w1 [] [] ∧ ref02_Power.l0 n t.1 t.2 p0 p1 = some x5998) k (1, 0) [0, 1, 5, 6] rfl ⟨(hS.subR []).sub [] (by decide), hx5999⟩ ?_
  rintro k6000 ⟨x5995, x5996⟩ w6001 ⟨hS6002, hl6003⟩
  cases k6000 with
  | zero => rw [ref02_Power.l0] at hl6003; cases hl6003
  | succ k6000 =>
   rw [ref02_Power.l0] at hl6003
   refine WC.seq ?_
   refine WC.seq ?_
   refine WC.region ?_
   refine seg 3 [] [0, 1, 5, 6, 9] [(0, (iv p0)), (1, (iv p1)), (5, (iv x5995)), (6, (iv x5996)), (9, (.bool (decide (x5996 < p1))))] [] (fun fb => by kernel_rfl) rfl trivial ?_
   refine WL.done rfl ?_
   refine WX.next ?_
   rcases br_some hl6003 with ⟨h6004, hl6003⟩ | ⟨h6004, hl6003⟩
   ·refine WC.condT2 (fun fb => by kernel_rfl) h6004 ?_
    refine WC.skip ?_
    refine WX.next ?_
    refine WC.seq ?_
    refine WC.block ?_
    refine WC.region ?_
    refine seg 5 [] [0, 1, 5, 6] [(0, (iv p0)), (1, (iv p1)), (5, (iv (minI (w64 (x5995 * p0)) 1000000))), (6, (iv x5996))] [] (fun fb => by kernel_rfl) rfl trivial ?_
    refine WL.done rfl ?_
    refine WX.blockN (WX.next ?_)
    refine WC.region ?_
    refine seg 3 [] [0, 1, 5, 6] [(0, (iv p0)), (1, (iv p1)), (5, (iv (minI (w64 (x5995 * p0)) 1000000))), (6, (iv (w64 (x5996 + 1))))] [] (fun fb => by kernel_rfl) rfl trivial ?_
    refine WL.done rfl ?_
    exact WX.again k6000 (Nat.lt_succ_self _) (minI (w64 (x5995 * p0)) 1000000, w64 (x5996 + 1)) [0, 1, 5, 6] rfl ⟨(hS6002.subR []).sub [] (by decide), hl6003⟩
   refine WC.condF2 (fun fb => by kernel_rfl) h6004 ?_
   refine WC.exit ?_
   injection hl6003 with hl6003
   exact WX.thenX (WX.thenX (WX.blockHere (WX.to Kx5998 x5995 [5] rfl ⟨(hS6002.subR []).sub [] (by decide), hl6003.symm⟩)))
 rintro y6008 w6005 ⟨hS6006, hq6007⟩
 subst hq6007
 refine WX.next ?_
 refine WC.seq ?_
 refine WC.region ?_
 refine seg 2 [] [4] [(4, (iv x5998))] [] (fun fb => by kernel_rfl) rfl trivial ?_
 refine WL.done rfl ?_
 refine WX.next ?_
 refine WC.ret ?_
 injection hf with hf
 subst hf
 exact WX.ret_ [] (iv x5998) [] (fun fb => by kernel_rfl) trivial ⟨_, rfl, rfl, hS6006.keep⟩
theorem ref03_Heavy_calls (k : Nat) (p0 : List Tile) (p1 : Int) (A_p0 : Option Addr) (c_p0 : Nat) (r : Bool) (w : World) (hR0 : RO NoS w (rowR enc_Tile A_p0 c_p0 p0)) (hf : ref03_Heavy k p0 p1 = some r) :
  CallsR Tryd.prog 18 #[(.slice A_p0 p0.length c_p0), (iv p1)] w (fun v w' => v = (.bool r) ∧ Keeps NoS w w') := by
 have hS : St NoS w w [rowR enc_Tile A_p0 c_p0 p0] [] := St.init (ro_cons hR0 (ro_nil _ _))
 refine enter 23 Tryd.func18 rfl Tryd.ntmps18 rfl ?_
 unfold ref03_Heavy at hf
 refine WC.seq ?_
 refine WC.region ?_
 refine seg 1 [] [0, 1] [(0, (.slice A_p0 p0.length c_p0)), (1, (iv p1))] [] (fun fb => by kernel_rfl) rfl trivial ?_
 refine WL.done rfl ?_
 refine WX.next ?_
 refine WC.seq ?_
 refine WC.region ?_
 refine seg 4 [] [0, 1, 8] [(0, (.slice A_p0 p0.length c_p0)), (1, (iv p1)), (8, (.bool (decide ((p0.length : Int) > 40))))] [] (fun fb => by kernel_rfl) rfl trivial ?_
 obtain ⟨x6015, hx6016, hf⟩ := bind_some hf
 refine WL.cutW (T := Bool) 11 (fun t => [(0, (.slice A_p0 p0.length c_p0)), (1, (iv p1)), (15, (.bool t))]) (fun t w1 => (St NoS w w1 [rowR enc_Tile A_p0 c_p0 p0] [] ∧ x6015 = t) ∧ CellsOK [] w1) (fun K => ?_) ?_
 ·
  rcases br_some hx6016 with ⟨h6017, hx6016⟩ | ⟨h6017, hx6016⟩
  ·
   refine WL.setB 8 h6017 rfl ?_
   refine seg 11 [] [0, 1, 15] [(0, (.slice A_p0 p0.length c_p0)), (1, (iv p1)), (15, (.bool true))] [] (fun fb => by kernel_rfl) rfl trivial ?_
   injection hx6016 with hx6016
   exact WL.to K true [0, 1, 15] rfl ⟨⟨(hS.subR [0]).sub [] (by decide), hx6016.symm⟩, trivial⟩
  refine WL.setB 8 h6017 rfl ?_
  refine seg 5 [] [0, 1, 8, 9] [(0, (.slice A_p0 p0.length c_p0)), (1, (iv p1)), (8, (.bool false)), (9, (.slice A_p0 p0.length c_p0))] [] (fun fb => by kernel_rfl) rfl trivial ?_
  obtain ⟨t6018, ht6019, hx6016⟩ := bind_some hx6016
  refine WL.call (some 10) 38 #[(.slice A_p0 p0.length c_p0)] (fun fb => by kernel_rfl) (ref02_Colours_calls _ p0 A_p0 c_p0 t6018 _ (hS.rd 0) ht6019) (fun v w6020 hR6021 => ?_)
  obtain ⟨A6023, c6024, rfl, hk_⟩ := hR6021
  have hS6022 : St NoS w w6020 [rowR enc_Tile A_p0 c_p0 p0] [rowO 3 encInt A6023 c6024 t6018] := hS.call hk_ [] [] (fun g hg => hg.elim) (by simp) (by decide)
  refine ⟨trivial, ?_⟩
  refine seg 8 [] [0, 1, 8, 11, 12] [(0, (.slice A_p0 p0.length c_p0)), (1, (iv p1)), (8, (.bool false)), (11, (iv (t6018.length : Int))), (12, (iv p1))] [] (fun fb => by kernel_rfl) rfl trivial ?_
  obtain ⟨t6025, ht6026, hx6016⟩ := bind_some hx6016
  refine WL.call (some 13) 24 #[(iv (t6018.length : Int)), (iv p1)] (fun fb => by kernel_rfl) (ref02_Power_calls _ (t6018.length : Int) p1 t6025 _ ht6026) (fun v w6027 hR6028 => ?_)
  obtain ⟨rfl, hk_⟩ := hR6028
  have hS6029 := hS6022.keepN hk_
  refine ⟨trivial, ?_⟩
  refine seg 11 [] [0, 1, 15] [(0, (.slice A_p0 p0.length c_p0)), (1, (iv p1)), (15, (.bool (decide (t6025 > 800))))] [] (fun fb => by kernel_rfl) rfl trivial ?_
  injection hx6016 with hx6016
  exact WL.to K (decide (t6025 > 800)) [0, 1, 15] rfl ⟨⟨(hS6029.subR [0]).sub [] (by decide), hx6016.symm⟩, trivial⟩
 rintro y6030 w6032 ⟨⟨hS6033, hq6031⟩, hF6034⟩
 subst hq6031
 refine seg 12 [] [0, 1, 16] [(0, (.slice A_p0 p0.length c_p0)), (1, (iv p1)), (16, (.bool x6015))] [] (fun fb => by kernel_rfl) rfl trivial ?_
 obtain ⟨x6041, hx6042, hf⟩ := bind_some hf
 refine WL.cutW (T := Bool) 18 (fun t => [(22, (.bool t))]) (fun t w1 => (St NoS w w1 [rowR enc_Tile A_p0 c_p0 p0] [] ∧ x6041 = t) ∧ CellsOK [] w1) (fun K => ?_) ?_
 ·
  rcases br_some hx6042 with ⟨h6043, hx6042⟩ | ⟨h6043, hx6042⟩
  ·
   refine WL.setB 16 h6043 rfl ?_
   refine seg 18 [] [22] [(22, (.bool true))] [] (fun fb => by kernel_rfl) rfl trivial ?_
   injection hx6042 with hx6042
   exact WL.to K true [22] rfl ⟨⟨(hS6033.subR [0]).sub [] (by decide), hx6042.symm⟩, trivial⟩
  refine WL.setB 16 h6043 rfl ?_
  refine seg 15 [] [16, 18, 19] [(16, (.bool false)), (18, (iv (p0.length : Int))), (19, (iv p1))] [] (fun fb => by kernel_rfl) rfl trivial ?_
  obtain ⟨t6044, ht6045, hx6042⟩ := bind_some hx6042
  refine WL.call (some 20) 24 #[(iv (p0.length : Int)), (iv p1)] (fun fb => by kernel_rfl) (ref02_Power_calls _ (p0.length : Int) p1 t6044 _ ht6045) (fun v w6046 hR6047 => ?_)
  obtain ⟨rfl, hk_⟩ := hR6047
  have hS6048 := hS6033.keepN hk_
  refine ⟨trivial, ?_⟩
  refine seg 18 [] [22] [(22, (.bool (decide (t6044 > 8000))))] [] (fun fb => by kernel_rfl) rfl trivial ?_
  injection hx6042 with hx6042
  exact WL.to K (decide (t6044 > 8000)) [22] rfl ⟨⟨(hS6048.subR [0]).sub [] (by decide), hx6042.symm⟩, trivial⟩
 rintro y6049 w6051 ⟨⟨hS6052, hq6050⟩, hF6053⟩
 subst hq6050
 refine seg 19 [] [4] [(4, (.bool x6041))] [] (fun fb => by kernel_rfl) rfl trivial ?_
 refine WL.done rfl ?_
 refine WX.next ?_
 refine WC.ret ?_
 injection hf with hf
 subst hf
 exact WX.ret_ [] (.bool x6041) [] (fun fb => by kernel_rfl) trivial ⟨_, rfl, rfl, hS6052.keep⟩
theorem ref02_Great_calls (k : Nat) (p0 : List Tile) (p1 : Int) (A_p0 : Option Addr) (c_p0 : Nat) (r : Bool) (w : World) (hR0 : RO NoS w (rowR enc_Tile A_p0 c_p0 p0)) (hf : ref02_Great k p0 p1 = some r) :
  CallsR Tryd.prog 19 #[(.slice A_p0 p0.length c_p0), (iv p1)] w (fun v w' => v = (.bool r) ∧ Keeps NoS w w') := by
 have hS : St NoS w w [rowR enc_Tile A_p0 c_p0 p0] [] := St.init (ro_cons hR0 (ro_nil _ _))
 refine enter 10 Tryd.func19 rfl Tryd.ntmps19 rfl ?_
 unfold ref02_Great at hf
 refine WC.seq ?_
 refine WC.region ?_
 refine seg 1 [] [0, 1] [(0, (.slice A_p0 p0.length c_p0)), (1, (iv p1))] [] (fun fb => by kernel_rfl) rfl trivial ?_
 refine WL.done rfl ?_
 refine WX.next ?_
 refine WC.seq ?_
 refine WC.region ?_
 refine seg 3 [] [6, 7] [(6, (iv (p0.length : Int))), (7, (iv p1))] [] (fun fb => by kernel_rfl) rfl trivial ?_
 obtain ⟨t6078, ht6079, hf⟩ := bind_some hf
 refine WL.call (some 8) 24 #[(iv (p0.length : Int)), (iv p1)] (fun fb => by kernel_rfl) (ref02_Power_calls _ (p0.length : Int) p1 t6078 _ ht6079) (fun v w6080 hR6081 => ?_)
 obtain ⟨rfl, hk_⟩ := hR6081
 have hS6082 := hS.keepN hk_
 refine ⟨trivial, ?_⟩
 refine seg 6 [] [4] [(4, (.bool (decide (t6078 > 5000))))] [] (fun fb => by kernel_rfl) rfl trivial ?_
 refine WL.done rfl ?_
 refine WX.next ?_
 refine WC.ret ?_
 injection hf with hf
 subst hf
 exact WX.ret_ [] (.bool (decide (t6078 > 5000))) [] (fun fb => by kernel_rfl) trivial ⟨_, rfl, rfl, hS6082.keep⟩
end Gp
