/- Walks: each function of the program computes its plain function. -/
import Derived.Test.YtjfmjfheeijfiaaDoorGx0
set_option linter.unusedVariables false
set_option linter.unusedSimpArgs false
set_option maxHeartbeats 4000000
namespace Gp
open Go Gw Go.Proofs
theorem torus_find_key83 : KeyK Tryd.prog 83 (aggI ints_A8_Int) := KeyK.array (n := 8) (by kernel_rfl) ints_A8_Int (fun _ => rfl) (fun x y h => by cases x; cases y; simp only [ints_A8_Int, List.cons.injEq, and_true] at h; obtain ⟨rfl, rfl, rfl, rfl, rfl, rfl, rfl, rfl⟩ := h; rfl)
theorem torus_find_calls (k : Nat) (p0 : List Tile) (p1 : Int) (p2 : Int) (A_p0 : Option Addr) (c_p0 : Nat) (r : Pattern × Bool) (w : World) (hR0 : RO NoS w (rowR enc_Tile A_p0 c_p0 p0)) (hf : torus_find k p0 p1 p2 = some r) :
  CallsR Tryd.prog 54 #[(sv A_p0 p0 c_p0), (iv p1), (iv p2)] w (fun v w' => ∃ (A1_ : Option Addr), ∃ (c1_ : Nat), v = (.tuple #[(.agg #[(iv r.1.Width), (iv r.1.Height), (sv A1_ r.1.Cells c1_)]), (bv r.2)]) ∧ St NoS w w' [] [rowO 3 encInt A1_ c1_ r.1.Cells]) := by
 have hS : St NoS w w [rowR enc_Tile A_p0 c_p0 p0] [] := St.init (ro_cons hR0 (ro_nil _ _))
 refine enter 105 Tryd.func54 rfl Tryd.ntmps54 rfl ?_
 unfold torus_find at hf
 refine WC.seq ?_
 refine WC.region ?_
 refine WL.new hS 6 [] (fun g => (pt g)) (.cells #[(iv 0), (iv 0), (.slice none 0 0)] 27 (0, 0)) [] (fun fb g => by kernel_rfl) trivial (fun g9 w10 hS11 => ?_)
 refine ⟨trivial, ?_⟩
 refine seg 2 [] [0, 1, 2, 6] [(0, (sv A_p0 p0 c_p0)), (1, (iv p1)), (2, (iv p2)), (6, (pt g9))] [] (fun fb => by kernel_rfl) rfl trivial ?_
 refine WL.done rfl ?_
 refine WX.next ?_
 refine WC.scope ?_
 refine WC.seq ?_
 refine WC.region ?_
 refine seg 2 [] [1, 2, 6, 19, 20] [(1, (iv p1)), (2, (iv p2)), (6, (pt g9)), (19, (sv A_p0 p0 c_p0)), (20, (iv p1))] [] (fun fb => by kernel_rfl) rfl trivial ?_
 obtain ⟨t12, ht13, hf⟩ := bind_some hf
 refine WL.call (some 21) 81 #[(sv A_p0 p0 c_p0), (iv p1)] (fun fb => by kernel_rfl) (torus_rings_calls _ p0 p1 A_p0 c_p0 t12 _ (hS11.rd 0) ht13) (fun v w14 hR15 => ?_)
 obtain ⟨A17, c18, H19, rfl, hk_⟩ := hR15
 have hS16 : St NoS w w14 [rowR enc_Tile A_p0 c_p0 p0] [rowO 85 encN_Row A17 c18 (tag H19 t12), poolO [nestO subN_Row H19 t12], blk g9 (.cells #[(iv 0), (iv 0), (.slice none 0 0)] 27 (0, 0))] := hS11.call hk_ [] [0] (fun g hg => hg.elim) (by simp) (by decide)
 refine ⟨trivial, ?_⟩
 refine seg 4 [] [1, 2, 6, 8] [(1, (iv p1)), (2, (iv p2)), (6, (pt g9)), (8, (sv A17 t12 c18))] [] (fun fb => by kernel_rfl) rfl trivial ?_
 refine WL.done rfl ?_
 refine WX.next ?_
 refine WC.seq ?_
 refine WC.region ?_
 refine WL.new hS16 22 [] (fun g => (.map (some g))) (mapObj (aggI ints_A8_Int) slV ([] : List (A8_Int × (HM × List (Option (List (A8_Int × Bool))))))) [] (fun fb g => by kernel_rfl) trivial (fun g20 w21 hS22 => ?_)
 have hS23 : St NoS w w21 [knestO (aggI ints_A8_Int) vB ([] : List (A8_Int × (HM × List (Option (List (A8_Int × Bool)))))) ([] : List (A8_Int × List (Option (List (A8_Int × Bool))))), rowR enc_Tile A_p0 c_p0 p0] [blk g20 (mapObj (aggI ints_A8_Int) slV ([] : List (A8_Int × (HM × List (Option (List (A8_Int × Bool))))))), rowO 85 encN_Row A17 c18 (tag H19 t12), poolO [nestO subN_Row H19 t12], blk g9 (.cells #[(iv 0), (iv 0), (.slice none 0 0)] 27 (0, 0))] := hS22.addR _ (knestO_nil _ _ _ _)
 refine ⟨trivial, ?_⟩
 refine seg 2 [] [1, 2, 6, 8, 9] [(1, (iv p1)), (2, (iv p2)), (6, (pt g9)), (8, (sv A17 t12 c18)), (9, (.map (some g20)))] [] (fun fb => by kernel_rfl) rfl trivial ?_
 refine WL.done rfl ?_
 refine WX.next ?_
 refine WC.seq ?_
 refine WC.region ?_
 refine seg 3 [] [2, 6, 8, 9, 25] [(2, (iv p2)), (6, (pt g9)), (8, (sv A17 t12 c18)), (9, (.map (some g20))), (25, (.agg #[(iv p1), (iv p2), (.slice none 0 0)]))] [] (fun fb => by kernel_rfl) rfl trivial ?_
 refine WL.new hS23 10 [] (fun g => (pt g)) (.cells #[(iv 0), (iv 0), (.slice none 0 0)] 27 (0, 0)) [] (fun fb g => by kernel_rfl) trivial (fun g24 w25 hS26 => ?_)
 refine ⟨trivial, ?_⟩
 refine WL.store hS26 0 rfl [(0, (iv p1)), (1, (iv p2)), (2, (.slice none 0 0))] #[(iv p1), (iv p2), (.slice none 0 0)] (fun fb => by kernel_rfl) (by kernel_rfl) rfl [1, 2, 3, 4] (by decide) (by decide) (fun w27 hS28 => ?_)
 refine ⟨trivial, ?_⟩
 refine WL.done rfl ?_
 refine WX.next ?_
 refine WC.seq ?_
 refine WC.label ?_
 refine WX.next ?_
 refine WC.seq ?_
 refine WC.seq ?_
 refine WC.region ?_
 refine seg 3 [] [2, 6, 8, 9, 10, 26, 27, 28] [(2, (iv p2)), (6, (pt g9)), (8, (sv A17 t12 c18)), (9, (.map (some g20))), (10, (pt g24)), (26, (sv A17 t12 c18)), (27, (iv (t12.length : Int))), (28, (iv 0))] [] (fun fb => by kernel_rfl) rfl trivial ?_
 refine WL.done rfl ?_
 refine WX.next ?_
 obtain ⟨x32, hx33, hf⟩ := bind_some hf
 refine WC.cutN (T := Unit) (fun t => [(6, (pt g9))]) (fun t w1 => St NoS w w1 [knestO (aggI ints_A8_Int) vB ([] : List (A8_Int × (HM × List (Option (List (A8_Int × Bool)))))) ([] : List (A8_Int × List (Option (List (A8_Int × Bool))))), rowR enc_Tile A_p0 c_p0 p0] [blk g9 (.cells #[(iv 0), (iv 0), (.slice none 0 0)] 27 (0, 0))] ∧ x32 = .inr t) (fun Kx32 => ?_) ?_
 ·
  refine WC.block ?_
  refine WC.loop (T := ((List (A8_Int × List (Option (List (A8_Int × Bool))))) × Int) × (List (A8_Int × (HM × List (Option (List (A8_Int × Bool))))))) (fun t => [(2, (iv p2)), (6, (pt g9)), (8, (sv A17 t12 c18)), (9, (.map (some g20))), (10, (pt g24)), (26, (sv A17 t12 c18)), (27, (iv (t12.length : Int))), (28, (iv t.1.2))]) (fun n t w1 => St NoS w w1 [knestO (aggI ints_A8_Int) vB t.2 t.1.1, knestO (aggI ints_A8_Int) vB ([] : List (A8_Int × (HM × List (Option (List (A8_Int × Bool)))))) ([] : List (A8_Int × List (Option (List (A8_Int × Bool))))), rowR enc_Tile A_p0 c_p0 p0] [blk g9 (.cells #[(iv 0), (iv 0), (.slice none 0 0)] 27 (0, 0)), rowO 85 encN_Row A17 c18 (tag H19 t12), poolO [nestO subN_Row H19 t12], blk g20 (mapObj (aggI ints_A8_Int) slV t.2), blk g24 (.cells #[(iv p1), (iv p2), (.slice none 0 0)] 27 (0, 0))] ∧ torus_find.l0 n t.1.1 t.1.2 p1 p2 t12 = some x32) k ((([] : List (A8_Int × List (Option (List (A8_Int × Bool))))), 0), ([] : List (A8_Int × (HM × List (Option (List (A8_Int × Bool))))))) [2, 6, 8, 9, 10, 26, 27, 28] rfl ⟨(hS28.subR [0, 0, 1]).sub [4, 2, 3, 1, 0] (by decide), hx33⟩ ?_
  rintro k34 ⟨⟨l29, x31⟩, K30⟩ w35 ⟨hS36, hl37⟩
  cases k34 with
  | zero => rw [torus_find.l0] at hl37; cases hl37
  | succ k34 =>
   rw [torus_find.l0] at hl37
   refine WC.seq ?_
   refine WC.region ?_
   refine seg 1 [] [2, 6, 8, 9, 10, 26, 27, 28, 29] [(2, (iv p2)), (6, (pt g9)), (8, (sv A17 t12 c18)), (9, (.map (some g20))), (10, (pt g24)), (26, (sv A17 t12 c18)), (27, (iv (t12.length : Int))), (28, (iv x31)), (29, (bv (decide (x31 < (t12.length : Int)))))] [] (fun fb => by kernel_rfl) rfl trivial ?_
   refine WL.done rfl ?_
   refine WX.next ?_
   refine WC.seq ?_
   rcases br_some hl37 with ⟨h38, hl37⟩ | ⟨h38, hl37⟩
   ·refine WC.condT2 (fun fb => by kernel_rfl) h38 ?_
    refine WC.skip ?_
    refine WX.next ?_
    refine WC.seq ?_
    refine WC.block ?_
    refine WC.seq ?_
    refine WC.region ?_
    obtain ⟨h39, hl37⟩ := as_some hl37
    refine seg 2 [.v (sv ((H19 x31.toNat 0).1) ((rdD t12 x31 z_Row).Cells) ((H19 x31.toNat 0).2)), .v (iv (((rdD t12 x31 z_Row).South).e0)), .v (iv (((rdD t12 x31 z_Row).South).e1)), .v (iv (((rdD t12 x31 z_Row).South).e2)), .v (iv (((rdD t12 x31 z_Row).South).e3)), .v (iv (((rdD t12 x31 z_Row).South).e4)), .v (iv (((rdD t12 x31 z_Row).South).e5)), .v (iv (((rdD t12 x31 z_Row).South).e6)), .v (iv (((rdD t12 x31 z_Row).South).e7)), .v (iv (((rdD t12 x31 z_Row).North).e0)), .v (iv (((rdD t12 x31 z_Row).North).e1)), .v (iv (((rdD t12 x31 z_Row).North).e2)), .v (iv (((rdD t12 x31 z_Row).North).e3)), .v (iv (((rdD t12 x31 z_Row).North).e4)), .v (iv (((rdD t12 x31 z_Row).North).e5)), .v (iv (((rdD t12 x31 z_Row).North).e6)), .v (iv (((rdD t12 x31 z_Row).North).e7)), .v (iv ((rdD t12 x31 z_Row).West)), .v (iv ((rdD t12 x31 z_Row).East))] [2, 6, 8, 9, 10, 26, 27, 28, 31] [(2, (iv p2)), (6, (pt g9)), (8, (sv A17 t12 c18)), (9, (.map (some g20))), (10, (pt g24)), (26, (sv A17 t12 c18)), (27, (iv (t12.length : Int))), (28, (iv x31)), (31, (.agg #[(sv ((H19 x31.toNat 0).1) ((rdD t12 x31 z_Row).Cells) ((H19 x31.toNat 0).2)), (iv (((rdD t12 x31 z_Row).South).e0)), (iv (((rdD t12 x31 z_Row).South).e1)), (iv (((rdD t12 x31 z_Row).South).e2)), (iv (((rdD t12 x31 z_Row).South).e3)), (iv (((rdD t12 x31 z_Row).South).e4)), (iv (((rdD t12 x31 z_Row).South).e5)), (iv (((rdD t12 x31 z_Row).South).e6)), (iv (((rdD t12 x31 z_Row).South).e7)), (iv (((rdD t12 x31 z_Row).North).e0)), (iv (((rdD t12 x31 z_Row).North).e1)), (iv (((rdD t12 x31 z_Row).North).e2)), (iv (((rdD t12 x31 z_Row).North).e3)), (iv (((rdD t12 x31 z_Row).North).e4)), (iv (((rdD t12 x31 z_Row).North).e5)), (iv (((rdD t12 x31 z_Row).North).e6)), (iv (((rdD t12 x31 z_Row).North).e7)), (iv ((rdD t12 x31 z_Row).West)), (iv ((rdD t12 x31 z_Row).East))]))] [.idx A17 x31 t12.length, .cell ((adr A17).add ((x31).toNat * 19)) (sv ((H19 x31.toNat 0).1) ((rdD t12 x31 z_Row).Cells) ((H19 x31.toNat 0).2)), .cell (((adr A17).add ((x31).toNat * 19)).add 1) (iv (((rdD t12 x31 z_Row).South).e0)), .cell (((adr A17).add ((x31).toNat * 19)).add 2) (iv (((rdD t12 x31 z_Row).South).e1)), .cell (((adr A17).add ((x31).toNat * 19)).add 3) (iv (((rdD t12 x31 z_Row).South).e2)), .cell (((adr A17).add ((x31).toNat * 19)).add 4) (iv (((rdD t12 x31 z_Row).South).e3)), .cell (((adr A17).add ((x31).toNat * 19)).add 5) (iv (((rdD t12 x31 z_Row).South).e4)), .cell (((adr A17).add ((x31).toNat * 19)).add 6) (iv (((rdD t12 x31 z_Row).South).e5)), .cell (((adr A17).add ((x31).toNat * 19)).add 7) (iv (((rdD t12 x31 z_Row).South).e6)), .cell (((adr A17).add ((x31).toNat * 19)).add 8) (iv (((rdD t12 x31 z_Row).South).e7)), .cell (((adr A17).add ((x31).toNat * 19)).add 9) (iv (((rdD t12 x31 z_Row).North).e0)), .cell (((adr A17).add ((x31).toNat * 19)).add 10) (iv (((rdD t12 x31 z_Row).North).e1)), .cell (((adr A17).add ((x31).toNat * 19)).add 11) (iv (((rdD t12 x31 z_Row).North).e2)), .cell (((adr A17).add ((x31).toNat * 19)).add 12) (iv (((rdD t12 x31 z_Row).North).e3)), .cell (((adr A17).add ((x31).toNat * 19)).add 13) (iv (((rdD t12 x31 z_Row).North).e4)), .cell (((adr A17).add ((x31).toNat * 19)).add 14) (iv (((rdD t12 x31 z_Row).North).e5)), .cell (((adr A17).add ((x31).toNat * 19)).add 15) (iv (((rdD t12 x31 z_Row).North).e6)), .cell (((adr A17).add ((x31).toNat * 19)).add 16) (iv (((rdD t12 x31 z_Row).North).e7)), .cell (((adr A17).add ((x31).toNat * 19)).add 17) (iv ((rdD t12 x31 z_Row).West)), .cell (((adr A17).add ((x31).toNat * 19)).add 18) (iv ((rdD t12 x31 z_Row).East))] (fun fb => by kernel_rfl) rfl ⟨nrow_adr (rowO.rd (hS36.own 1).1) h39.1 h39.2, nrow_cell (rowO.rd (hS36.own 1).1) z_Row h39.1 h39.2 0 rfl, nrow_cell (rowO.rd (hS36.own 1).1) z_Row h39.1 h39.2 1 rfl, nrow_cell (rowO.rd (hS36.own 1).1) z_Row h39.1 h39.2 2 rfl, nrow_cell (rowO.rd (hS36.own 1).1) z_Row h39.1 h39.2 3 rfl, nrow_cell (rowO.rd (hS36.own 1).1) z_Row h39.1 h39.2 4 rfl, nrow_cell (rowO.rd (hS36.own 1).1) z_Row h39.1 h39.2 5 rfl, nrow_cell (rowO.rd (hS36.own 1).1) z_Row h39.1 h39.2 6 rfl, nrow_cell (rowO.rd (hS36.own 1).1) z_Row h39.1 h39.2 7 rfl, nrow_cell (rowO.rd (hS36.own 1).1) z_Row h39.1 h39.2 8 rfl, nrow_cell (rowO.rd (hS36.own 1).1) z_Row h39.1 h39.2 9 rfl, nrow_cell (rowO.rd (hS36.own 1).1) z_Row h39.1 h39.2 10 rfl, nrow_cell (rowO.rd (hS36.own 1).1) z_Row h39.1 h39.2 11 rfl, nrow_cell (rowO.rd (hS36.own 1).1) z_Row h39.1 h39.2 12 rfl, nrow_cell (rowO.rd (hS36.own 1).1) z_Row h39.1 h39.2 13 rfl, nrow_cell (rowO.rd (hS36.own 1).1) z_Row h39.1 h39.2 14 rfl, nrow_cell (rowO.rd (hS36.own 1).1) z_Row h39.1 h39.2 15 rfl, nrow_cell (rowO.rd (hS36.own 1).1) z_Row h39.1 h39.2 16 rfl, nrow_cell (rowO.rd (hS36.own 1).1) z_Row h39.1 h39.2 17 rfl, nrow_cell (rowO.rd (hS36.own 1).1) z_Row h39.1 h39.2 18 rfl, trivial⟩ ?_
    refine WL.new hS36 12 [] (fun g => (pt g)) (.cells #[(.slice none 0 0), (iv 0), (iv 0), (iv 0), (iv 0), (iv 0), (iv 0), (iv 0), (iv 0), (iv 0), (iv 0), (iv 0), (iv 0), (iv 0), (iv 0), (iv 0), (iv 0), (iv 0), (iv 0)] 85 (0, 0)) [] (fun fb g => by kernel_rfl) trivial (fun g40 w41 hS42 => ?_)
    refine ⟨trivial, ?_⟩
    refine WL.store hS42 0 rfl [(0, (sv ((H19 x31.toNat 0).1) ((rdD t12 x31 z_Row).Cells) ((H19 x31.toNat 0).2))), (1, (iv (((rdD t12 x31 z_Row).South).e0))), (2, (iv (((rdD t12 x31 z_Row).South).e1))), (3, (iv (((rdD t12 x31 z_Row).South).e2))), (4, (iv (((rdD t12 x31 z_Row).South).e3))), (5, (iv (((rdD t12 x31 z_Row).South).e4))), (6, (iv (((rdD t12 x31 z_Row).South).e5))), (7, (iv (((rdD t12 x31 z_Row).South).e6))), (8, (iv (((rdD t12 x31 z_Row).South).e7))), (9, (iv (((rdD t12 x31 z_Row).North).e0))), (10, (iv (((rdD t12 x31 z_Row).North).e1))), (11, (iv (((rdD t12 x31 z_Row).North).e2))), (12, (iv (((rdD t12 x31 z_Row).North).e3))), (13, (iv (((rdD t12 x31 z_Row).North).e4))), (14, (iv (((rdD t12 x31 z_Row).North).e5))), (15, (iv (((rdD t12 x31 z_Row).North).e6))), (16, (iv (((rdD t12 x31 z_Row).North).e7))), (17, (iv ((rdD t12 x31 z_Row).West))), (18, (iv ((rdD t12 x31 z_Row).East)))] #[(sv ((H19 x31.toNat 0).1) ((rdD t12 x31 z_Row).Cells) ((H19 x31.toNat 0).2)), (iv (((rdD t12 x31 z_Row).South).e0)), (iv (((rdD t12 x31 z_Row).South).e1)), (iv (((rdD t12 x31 z_Row).South).e2)), (iv (((rdD t12 x31 z_Row).South).e3)), (iv (((rdD t12 x31 z_Row).South).e4)), (iv (((rdD t12 x31 z_Row).South).e5)), (iv (((rdD t12 x31 z_Row).South).e6)), (iv (((rdD t12 x31 z_Row).South).e7)), (iv (((rdD t12 x31 z_Row).North).e0)), (iv (((rdD t12 x31 z_Row).North).e1)), (iv (((rdD t12 x31 z_Row).North).e2)), (iv (((rdD t12 x31 z_Row).North).e3)), (iv (((rdD t12 x31 z_Row).North).e4)), (iv (((rdD t12 x31 z_Row).North).e5)), (iv (((rdD t12 x31 z_Row).North).e6)), (iv (((rdD t12 x31 z_Row).North).e7)), (iv ((rdD t12 x31 z_Row).West)), (iv ((rdD t12 x31 z_Row).East))] (fun fb => by kernel_rfl) (by kernel_rfl) (by kernel_rfl) [1, 2, 3, 4, 5] (by decide) (by decide) (fun w43 hS44 => ?_)
    refine ⟨trivial, ?_⟩
    refine WL.done rfl ?_
    refine WX.next ?_
    refine WC.seq ?_
    refine WC.region ?_
    refine seg 3 [.v (iv (((rdD t12 x31 z_Row).South).e0)), .v (iv (((rdD t12 x31 z_Row).South).e1)), .v (iv (((rdD t12 x31 z_Row).South).e2)), .v (iv (((rdD t12 x31 z_Row).South).e3)), .v (iv (((rdD t12 x31 z_Row).South).e4)), .v (iv (((rdD t12 x31 z_Row).South).e5)), .v (iv (((rdD t12 x31 z_Row).South).e6)), .v (iv (((rdD t12 x31 z_Row).South).e7))] [2, 6, 8, 9, 10, 12, 26, 27, 28, 33, 35] [(2, (iv p2)), (6, (pt g9)), (8, (sv A17 t12 c18)), (9, (.map (some g20))), (10, (pt g24)), (12, (pt g40)), (26, (sv A17 t12 c18)), (27, (iv (t12.length : Int))), (28, (iv x31)), (33, (.map (some g20))), (35, (.agg #[(iv (((rdD t12 x31 z_Row).South).e0)), (iv (((rdD t12 x31 z_Row).South).e1)), (iv (((rdD t12 x31 z_Row).South).e2)), (iv (((rdD t12 x31 z_Row).South).e3)), (iv (((rdD t12 x31 z_Row).South).e4)), (iv (((rdD t12 x31 z_Row).South).e5)), (iv (((rdD t12 x31 z_Row).South).e6)), (iv (((rdD t12 x31 z_Row).South).e7))]))] [.cell ⟨g40, 1, none⟩ (iv (((rdD t12 x31 z_Row).South).e0)), .cell ⟨g40, 2, none⟩ (iv (((rdD t12 x31 z_Row).South).e1)), .cell ⟨g40, 3, none⟩ (iv (((rdD t12 x31 z_Row).South).e2)), .cell ⟨g40, 4, none⟩ (iv (((rdD t12 x31 z_Row).South).e3)), .cell ⟨g40, 5, none⟩ (iv (((rdD t12 x31 z_Row).South).e4)), .cell ⟨g40, 6, none⟩ (iv (((rdD t12 x31 z_Row).South).e5)), .cell ⟨g40, 7, none⟩ (iv (((rdD t12 x31 z_Row).South).e6)), .cell ⟨g40, 8, none⟩ (iv (((rdD t12 x31 z_Row).South).e7))] (fun fb => by kernel_rfl) rfl ⟨hS44.cell 0 rfl 1 rfl, hS44.cell 0 rfl 2 rfl, hS44.cell 0 rfl 3 rfl, hS44.cell 0 rfl 4 rfl, hS44.cell 0 rfl 5 rfl, hS44.cell 0 rfl 6 rfl, hS44.cell 0 rfl 7 rfl, hS44.cell 0 rfl 8 rfl, trivial⟩ ?_
    refine WL.lookup (hS44.own 4).1 ((rdD t12 x31 z_Row).South) (d := 36) (c := true) (t := 117) (kT := 83) (eT := 90) (z := zHM) (kE := (aggI ints_A8_Int)) (vE := slV) (l := K30) (.tuple #[(.slice ((mget ((rdD t12 x31 z_Row).South) zHM K30).1.1) (mget ((rdD t12 x31 z_Row).South) [] l29).length ((mget ((rdD t12 x31 z_Row).South) zHM K30).1.2.1)), (.bool (mhas ((rdD t12 x31 z_Row).South) l29))]) (fun fb => by kernel_rfl) torus_find_key83 (by kernel_rfl) (fun _ => by kernel_rfl) (by rw [mhas_unK, (knestO.eq (hS44.rd 0))]; rw [slV_get _ _ (knestO.eq (hS44.rd 0))]; rfl) ?_
    refine ⟨trivial, ?_⟩
    have hS45 : St NoS w w43 [rowR (encMap A8_Int Bool) ((mget ((rdD t12 x31 z_Row).South) zHM K30).1.1) ((mget ((rdD t12 x31 z_Row).South) zHM K30).1.2.1) (tag ((mget ((rdD t12 x31 z_Row).South) zHM K30).1.2.2) (mget ((rdD t12 x31 z_Row).South) [] l29)), knestO (aggI ints_A8_Int) vB K30 l29, knestO (aggI ints_A8_Int) vB ([] : List (A8_Int × (HM × List (Option (List (A8_Int × Bool)))))) ([] : List (A8_Int × List (Option (List (A8_Int × Bool))))), rowR enc_Tile A_p0 c_p0 p0] [blk g40 (.cells #[(sv ((H19 x31.toNat 0).1) ((rdD t12 x31 z_Row).Cells) ((H19 x31.toNat 0).2)), (iv (((rdD t12 x31 z_Row).South).e0)), (iv (((rdD t12 x31 z_Row).South).e1)), (iv (((rdD t12 x31 z_Row).South).e2)), (iv (((rdD t12 x31 z_Row).South).e3)), (iv (((rdD t12 x31 z_Row).South).e4)), (iv (((rdD t12 x31 z_Row).South).e5)), (iv (((rdD t12 x31 z_Row).South).e6)), (iv (((rdD t12 x31 z_Row).South).e7)), (iv (((rdD t12 x31 z_Row).North).e0)), (iv (((rdD t12 x31 z_Row).North).e1)), (iv (((rdD t12 x31 z_Row).North).e2)), (iv (((rdD t12 x31 z_Row).North).e3)), (iv (((rdD t12 x31 z_Row).North).e4)), (iv (((rdD t12 x31 z_Row).North).e5)), (iv (((rdD t12 x31 z_Row).North).e6)), (iv (((rdD t12 x31 z_Row).North).e7)), (iv ((rdD t12 x31 z_Row).West)), (iv ((rdD t12 x31 z_Row).East))] 85 (0, 0)), blk g9 (.cells #[(iv 0), (iv 0), (.slice none 0 0)] 27 (0, 0)), rowO 85 encN_Row A17 c18 (tag H19 t12), poolO [nestO subN_Row H19 t12], blk g20 (mapObj (aggI ints_A8_Int) slV K30), blk g24 (.cells #[(iv p1), (iv p2), (.slice none 0 0)] 27 (0, 0))] := hS44.addR _ (knestO.row (hS44.rdL 0) ((rdD t12 x31 z_Row).South))
    have hS46 : St NoS w w43 [mapsO (aggI ints_A8_Int) vB ((mget ((rdD t12 x31 z_Row).South) zHM K30).1.2.2) (mget ((rdD t12 x31 z_Row).South) [] l29), rowR (encMap A8_Int Bool) ((mget ((rdD t12 x31 z_Row).South) zHM K30).1.1) ((mget ((rdD t12 x31 z_Row).South) zHM K30).1.2.1) (tag ((mget ((rdD t12 x31 z_Row).South) zHM K30).1.2.2) (mget ((rdD t12 x31 z_Row).South) [] l29)), knestO (aggI ints_A8_Int) vB K30 l29, knestO (aggI ints_A8_Int) vB ([] : List (A8_Int × (HM × List (Option (List (A8_Int × Bool)))))) ([] : List (A8_Int × List (Option (List (A8_Int × Bool))))), rowR enc_Tile A_p0 c_p0 p0] [blk g40 (.cells #[(sv ((H19 x31.toNat 0).1) ((rdD t12 x31 z_Row).Cells) ((H19 x31.toNat 0).2)), (iv (((rdD t12 x31 z_Row).South).e0)), (iv (((rdD t12 x31 z_Row).South).e1)), (iv (((rdD t12 x31 z_Row).South).e2)), (iv (((rdD t12 x31 z_Row).South).e3)), (iv (((rdD t12 x31 z_Row).South).e4)), (iv (((rdD t12 x31 z_Row).South).e5)), (iv (((rdD t12 x31 z_Row).South).e6)), (iv (((rdD t12 x31 z_Row).South).e7)), (iv (((rdD t12 x31 z_Row).North).e0)), (iv (((rdD t12 x31 z_Row).North).e1)), (iv (((rdD t12 x31 z_Row).North).e2)), (iv (((rdD t12 x31 z_Row).North).e3)), (iv (((rdD t12 x31 z_Row).North).e4)), (iv (((rdD t12 x31 z_Row).North).e5)), (iv (((rdD t12 x31 z_Row).North).e6)), (iv (((rdD t12 x31 z_Row).North).e7)), (iv ((rdD t12 x31 z_Row).West)), (iv ((rdD t12 x31 z_Row).East))] 85 (0, 0)), blk g9 (.cells #[(iv 0), (iv 0), (.slice none 0 0)] 27 (0, 0)), rowO 85 encN_Row A17 c18 (tag H19 t12), poolO [nestO subN_Row H19 t12], blk g20 (mapObj (aggI ints_A8_Int) slV K30), blk g24 (.cells #[(iv p1), (iv p2), (.slice none 0 0)] 27 (0, 0))] := hS45.addR _ (knestO.maps (hS45.rdL 1) ((rdD t12 x31 z_Row).South))
    refine seg 9 [] [2, 6, 8, 9, 10, 12, 13, 14, 26, 27, 28] [(2, (iv p2)), (6, (pt g9)), (8, (sv A17 t12 c18)), (9, (.map (some g20))), (10, (pt g24)), (12, (pt g40)), (13, (sv ((mget ((rdD t12 x31 z_Row).South) zHM K30).1.1) (mget ((rdD t12 x31 z_Row).South) [] l29) ((mget ((rdD t12 x31 z_Row).South) zHM K30).1.2.1))), (14, (bv (mhas ((rdD t12 x31 z_Row).South) l29))), (26, (sv A17 t12 c18)), (27, (iv (t12.length : Int))), (28, (iv x31))] [] (fun fb => by kernel_rfl) rfl trivial ?_
    refine WL.done rfl ?_
    refine WX.next ?_
    refine WC.seq ?_
    refine WC.seq ?_
    refine WC.region ?_
    refine seg 2 [] [2, 6, 8, 9, 10, 12, 13, 26, 27, 28, 40] [(2, (iv p2)), (6, (pt g9)), (8, (sv A17 t12 c18)), (9, (.map (some g20))), (10, (pt g24)), (12, (pt g40)), (13, (sv ((mget ((rdD t12 x31 z_Row).South) zHM K30).1.1) (mget ((rdD t12 x31 z_Row).South) [] l29) ((mget ((rdD t12 x31 z_Row).South) zHM K30).1.2.1))), (26, (sv A17 t12 c18)), (27, (iv (t12.length : Int))), (28, (iv x31)), (40, (bv (!(mhas ((rdD t12 x31 z_Row).South) l29))))] [] (fun fb => by kernel_rfl) rfl trivial ?_
    refine WL.done rfl ?_
    refine WX.next ?_
    obtain ⟨x51, hx52, hl37⟩ := bind_some hl37
    refine WC.cutN (T := ((List (A8_Int × List (Option (List (A8_Int × Bool))))) × (List (Option (List (A8_Int × Bool))))) × (List (A8_Int × (HM × List (Option (List (A8_Int × Bool)))))) × (Option Addr) × Nat × (Nat → Nat)) (fun t => [(2, (iv p2)), (6, (pt g9)), (8, (sv A17 t12 c18)), (9, (.map (some g20))), (10, (pt g24)), (12, (pt g40)), (13, (sv t.2.2.1 t.1.2 t.2.2.2.1)), (26, (sv A17 t12 c18)), (27, (iv (t12.length : Int))), (28, (iv x31))]) (fun t w1 => St NoS w w1 [knestO (aggI ints_A8_Int) vB t.2.1 t.1.1, rowR (encMap A8_Int Bool) t.2.2.1 t.2.2.2.1 (tag t.2.2.2.2 t.1.2), mapsO (aggI ints_A8_Int) vB t.2.2.2.2 t.1.2, mapsO (aggI ints_A8_Int) vB ((mget ((rdD t12 x31 z_Row).South) zHM K30).1.2.2) (mget ((rdD t12 x31 z_Row).South) [] l29), rowR (encMap A8_Int Bool) ((mget ((rdD t12 x31 z_Row).South) zHM K30).1.1) ((mget ((rdD t12 x31 z_Row).South) zHM K30).1.2.1) (tag ((mget ((rdD t12 x31 z_Row).South) zHM K30).1.2.2) (mget ((rdD t12 x31 z_Row).South) [] l29)), knestO (aggI ints_A8_Int) vB K30 l29, knestO (aggI ints_A8_Int) vB ([] : List (A8_Int × (HM × List (Option (List (A8_Int × Bool)))))) ([] : List (A8_Int × List (Option (List (A8_Int × Bool))))), rowR enc_Tile A_p0 c_p0 p0] [blk g9 (.cells #[(iv 0), (iv 0), (.slice none 0 0)] 27 (0, 0)), rowO 85 encN_Row A17 c18 (tag H19 t12), poolO [nestO subN_Row H19 t12], blk g20 (mapObj (aggI ints_A8_Int) slV t.2.1), blk g24 (.cells #[(iv p1), (iv p2), (.slice none 0 0)] 27 (0, 0)), blk g40 (.cells #[(sv ((H19 x31.toNat 0).1) ((rdD t12 x31 z_Row).Cells) ((H19 x31.toNat 0).2)), (iv (((rdD t12 x31 z_Row).South).e0)), (iv (((rdD t12 x31 z_Row).South).e1)), (iv (((rdD t12 x31 z_Row).South).e2)), (iv (((rdD t12 x31 z_Row).South).e3)), (iv (((rdD t12 x31 z_Row).South).e4)), (iv (((rdD t12 x31 z_Row).South).e5)), (iv (((rdD t12 x31 z_Row).South).e6)), (iv (((rdD t12 x31 z_Row).South).e7)), (iv (((rdD t12 x31 z_Row).North).e0)), (iv (((rdD t12 x31 z_Row).North).e1)), (iv (((rdD t12 x31 z_Row).North).e2)), (iv (((rdD t12 x31 z_Row).North).e3)), (iv (((rdD t12 x31 z_Row).North).e4)), (iv (((rdD t12 x31 z_Row).North).e5)), (iv (((rdD t12 x31 z_Row).North).e6)), (iv (((rdD t12 x31 z_Row).North).e7)), (iv ((rdD t12 x31 z_Row).West)), (iv ((rdD t12 x31 z_Row).East))] 85 (0, 0))] ∧ x51 = t.1) (fun Kx51 => ?_) ?_
    ·
     rcases br_some hx52 with ⟨h53, hx52⟩ | ⟨h53, hx52⟩
     ·refine WC.condT2 (fun fb => by kernel_rfl) h53 ?_
      refine WC.seq ?_
      refine WC.region ?_
      refine seg 5 [.v (iv (((rdD t12 x31 z_Row).South).e0)), .v (iv (((rdD t12 x31 z_Row).South).e1)), .v (iv (((rdD t12 x31 z_Row).South).e2)), .v (iv (((rdD t12 x31 z_Row).South).e3)), .v (iv (((rdD t12 x31 z_Row).South).e4)), .v (iv (((rdD t12 x31 z_Row).South).e5)), .v (iv (((rdD t12 x31 z_Row).South).e6)), .v (iv (((rdD t12 x31 z_Row).South).e7))] [2, 6, 8, 9, 10, 12, 26, 27, 28, 41, 43, 45] [(2, (iv p2)), (6, (pt g9)), (8, (sv A17 t12 c18)), (9, (.map (some g20))), (10, (pt g24)), (12, (pt g40)), (26, (sv A17 t12 c18)), (27, (iv (t12.length : Int))), (28, (iv x31)), (41, (sv A17 t12 c18)), (43, (.agg #[(iv (((rdD t12 x31 z_Row).South).e0)), (iv (((rdD t12 x31 z_Row).South).e1)), (iv (((rdD t12 x31 z_Row).South).e2)), (iv (((rdD t12 x31 z_Row).South).e3)), (iv (((rdD t12 x31 z_Row).South).e4)), (iv (((rdD t12 x31 z_Row).South).e5)), (iv (((rdD t12 x31 z_Row).South).e6)), (iv (((rdD t12 x31 z_Row).South).e7))])), (45, (iv (w64 (p2 - 1))))] [.cell ⟨g40, 1, none⟩ (iv (((rdD t12 x31 z_Row).South).e0)), .cell ⟨g40, 2, none⟩ (iv (((rdD t12 x31 z_Row).South).e1)), .cell ⟨g40, 3, none⟩ (iv (((rdD t12 x31 z_Row).South).e2)), .cell ⟨g40, 4, none⟩ (iv (((rdD t12 x31 z_Row).South).e3)), .cell ⟨g40, 5, none⟩ (iv (((rdD t12 x31 z_Row).South).e4)), .cell ⟨g40, 6, none⟩ (iv (((rdD t12 x31 z_Row).South).e5)), .cell ⟨g40, 7, none⟩ (iv (((rdD t12 x31 z_Row).South).e6)), .cell ⟨g40, 8, none⟩ (iv (((rdD t12 x31 z_Row).South).e7))] (fun fb => by kernel_rfl) rfl ⟨hS46.cell 0 rfl 1 rfl, hS46.cell 0 rfl 2 rfl, hS46.cell 0 rfl 3 rfl, hS46.cell 0 rfl 4 rfl, hS46.cell 0 rfl 5 rfl, hS46.cell 0 rfl 6 rfl, hS46.cell 0 rfl 7 rfl, hS46.cell 0 rfl 8 rfl, trivial⟩ ?_
      obtain ⟨t55, ht56, hx52⟩ := bind_some hx52
      refine WL.call (some 46) 82 #[(sv A17 t12 c18), (.agg #[(iv (((rdD t12 x31 z_Row).South).e0)), (iv (((rdD t12 x31 z_Row).South).e1)), (iv (((rdD t12 x31 z_Row).South).e2)), (iv (((rdD t12 x31 z_Row).South).e3)), (iv (((rdD t12 x31 z_Row).South).e4)), (iv (((rdD t12 x31 z_Row).South).e5)), (iv (((rdD t12 x31 z_Row).South).e6)), (iv (((rdD t12 x31 z_Row).South).e7))]), (iv (w64 (p2 - 1)))] (fun fb => by kernel_rfl) (torus_back_calls _ t12 ((rdD t12 x31 z_Row).South) (w64 (p2 - 1)) A17 c18 H19 t55 _ (hS46.ow 2).ofO (poolO.ro (hS46.ow 3) 0) ht56) (fun v w57 hR58 => ?_)
      obtain ⟨A60, c61, H62, rfl, hk_⟩ := hR58
      have hS59 : St NoS w w57 [mapsO (aggI ints_A8_Int) vB ((mget ((rdD t12 x31 z_Row).South) zHM K30).1.2.2) (mget ((rdD t12 x31 z_Row).South) [] l29), rowR (encMap A8_Int Bool) ((mget ((rdD t12 x31 z_Row).South) zHM K30).1.1) ((mget ((rdD t12 x31 z_Row).South) zHM K30).1.2.1) (tag ((mget ((rdD t12 x31 z_Row).South) zHM K30).1.2.2) (mget ((rdD t12 x31 z_Row).South) [] l29)), knestO (aggI ints_A8_Int) vB K30 l29, knestO (aggI ints_A8_Int) vB ([] : List (A8_Int × (HM × List (Option (List (A8_Int × Bool)))))) ([] : List (A8_Int × List (Option (List (A8_Int × Bool))))), rowR enc_Tile A_p0 c_p0 p0] [rowO 91 (encMap A8_Int Bool) A60 c61 (tag H62 t55), mapsO (aggI ints_A8_Int) vB H62 t55, blk g40 (.cells #[(.slice ((H19 x31.toNat 0).1) ((rdD t12 x31 z_Row).Cells).length ((H19 x31.toNat 0).2)), (iv (((rdD t12 x31 z_Row).South).e0)), (iv (((rdD t12 x31 z_Row).South).e1)), (iv (((rdD t12 x31 z_Row).South).e2)), (iv (((rdD t12 x31 z_Row).South).e3)), (iv (((rdD t12 x31 z_Row).South).e4)), (iv (((rdD t12 x31 z_Row).South).e5)), (iv (((rdD t12 x31 z_Row).South).e6)), (iv (((rdD t12 x31 z_Row).South).e7)), (iv (((rdD t12 x31 z_Row).North).e0)), (iv (((rdD t12 x31 z_Row).North).e1)), (iv (((rdD t12 x31 z_Row).North).e2)), (iv (((rdD t12 x31 z_Row).North).e3)), (iv (((rdD t12 x31 z_Row).North).e4)), (iv (((rdD t12 x31 z_Row).North).e5)), (iv (((rdD t12 x31 z_Row).North).e6)), (iv (((rdD t12 x31 z_Row).North).e7)), (iv ((rdD t12 x31 z_Row).West)), (iv ((rdD t12 x31 z_Row).East))] 85 (0, 0)), blk g9 (.cells #[(iv 0), (iv 0), (.slice none 0 0)] 27 (0, 0)), rowO 85 encN_Row A17 c18 (tag H19 t12), poolO [nestO subN_Row H19 t12], blk g20 (mapObj (aggI ints_A8_Int) slV K30), blk g24 (.cells #[(iv p1), (iv p2), (.slice none 0 0)] 27 (0, 0))] := hS46.call hk_ [] [0, 1, 2, 3, 4, 5] (fun g hg => hg.elim) (by simp) (by decide)
      refine ⟨trivial, ?_⟩
      refine seg 7 [] [2, 6, 8, 9, 10, 12, 13, 26, 27, 28] [(2, (iv p2)), (6, (pt g9)), (8, (sv A17 t12 c18)), (9, (.map (some g20))), (10, (pt g24)), (12, (pt g40)), (13, (sv A60 t55 c61)), (26, (sv A17 t12 c18)), (27, (iv (t12.length : Int))), (28, (iv x31))] [] (fun fb => by kernel_rfl) rfl trivial ?_
      refine WL.done rfl ?_
      refine WX.next ?_
      refine WC.region ?_
      refine seg 4 [.v (iv (((rdD t12 x31 z_Row).South).e0)), .v (iv (((rdD t12 x31 z_Row).South).e1)), .v (iv (((rdD t12 x31 z_Row).South).e2)), .v (iv (((rdD t12 x31 z_Row).South).e3)), .v (iv (((rdD t12 x31 z_Row).South).e4)), .v (iv (((rdD t12 x31 z_Row).South).e5)), .v (iv (((rdD t12 x31 z_Row).South).e6)), .v (iv (((rdD t12 x31 z_Row).South).e7))] [2, 6, 8, 9, 10, 12, 13, 26, 27, 28, 47, 49, 50] [(2, (iv p2)), (6, (pt g9)), (8, (sv A17 t12 c18)), (9, (.map (some g20))), (10, (pt g24)), (12, (pt g40)), (13, (sv A60 t55 c61)), (26, (sv A17 t12 c18)), (27, (iv (t12.length : Int))), (28, (iv x31)), (47, (.map (some g20))), (49, (.agg #[(iv (((rdD t12 x31 z_Row).South).e0)), (iv (((rdD t12 x31 z_Row).South).e1)), (iv (((rdD t12 x31 z_Row).South).e2)), (iv (((rdD t12 x31 z_Row).South).e3)), (iv (((rdD t12 x31 z_Row).South).e4)), (iv (((rdD t12 x31 z_Row).South).e5)), (iv (((rdD t12 x31 z_Row).South).e6)), (iv (((rdD t12 x31 z_Row).South).e7))])), (50, (sv A60 t55 c61))] [.cell ⟨g40, 1, none⟩ (iv (((rdD t12 x31 z_Row).South).e0)), .cell ⟨g40, 2, none⟩ (iv (((rdD t12 x31 z_Row).South).e1)), .cell ⟨g40, 3, none⟩ (iv (((rdD t12 x31 z_Row).South).e2)), .cell ⟨g40, 4, none⟩ (iv (((rdD t12 x31 z_Row).South).e3)), .cell ⟨g40, 5, none⟩ (iv (((rdD t12 x31 z_Row).South).e4)), .cell ⟨g40, 6, none⟩ (iv (((rdD t12 x31 z_Row).South).e5)), .cell ⟨g40, 7, none⟩ (iv (((rdD t12 x31 z_Row).South).e6)), .cell ⟨g40, 8, none⟩ (iv (((rdD t12 x31 z_Row).South).e7))] (fun fb => by kernel_rfl) rfl ⟨hS59.cell 2 rfl 1 rfl, hS59.cell 2 rfl 2 rfl, hS59.cell 2 rfl 3 rfl, hS59.cell 2 rfl 4 rfl, hS59.cell 2 rfl 5 rfl, hS59.cell 2 rfl 6 rfl, hS59.cell 2 rfl 7 rfl, hS59.cell 2 rfl 8 rfl, trivial⟩ ?_
      have hS63 : St NoS w w57 [mapsO (aggI ints_A8_Int) vB H62 t55, mapsO (aggI ints_A8_Int) vB ((mget ((rdD t12 x31 z_Row).South) zHM K30).1.2.2) (mget ((rdD t12 x31 z_Row).South) [] l29), rowR (encMap A8_Int Bool) ((mget ((rdD t12 x31 z_Row).South) zHM K30).1.1) ((mget ((rdD t12 x31 z_Row).South) zHM K30).1.2.1) (tag ((mget ((rdD t12 x31 z_Row).South) zHM K30).1.2.2) (mget ((rdD t12 x31 z_Row).South) [] l29)), knestO (aggI ints_A8_Int) vB K30 l29, knestO (aggI ints_A8_Int) vB ([] : List (A8_Int × (HM × List (Option (List (A8_Int × Bool)))))) ([] : List (A8_Int × List (Option (List (A8_Int × Bool))))), rowR enc_Tile A_p0 c_p0 p0] [rowO 91 (encMap A8_Int Bool) A60 c61 (tag H62 t55), blk g40 (.cells #[(sv ((H19 x31.toNat 0).1) ((rdD t12 x31 z_Row).Cells) ((H19 x31.toNat 0).2)), (iv (((rdD t12 x31 z_Row).South).e0)), (iv (((rdD t12 x31 z_Row).South).e1)), (iv (((rdD t12 x31 z_Row).South).e2)), (iv (((rdD t12 x31 z_Row).South).e3)), (iv (((rdD t12 x31 z_Row).South).e4)), (iv (((rdD t12 x31 z_Row).South).e5)), (iv (((rdD t12 x31 z_Row).South).e6)), (iv (((rdD t12 x31 z_Row).South).e7)), (iv (((rdD t12 x31 z_Row).North).e0)), (iv (((rdD t12 x31 z_Row).North).e1)), (iv (((rdD t12 x31 z_Row).North).e2)), (iv (((rdD t12 x31 z_Row).North).e3)), (iv (((rdD t12 x31 z_Row).North).e4)), (iv (((rdD t12 x31 z_Row).North).e5)), (iv (((rdD t12 x31 z_Row).North).e6)), (iv (((rdD t12 x31 z_Row).North).e7)), (iv ((rdD t12 x31 z_Row).West)), (iv ((rdD t12 x31 z_Row).East))] 85 (0, 0)), blk g9 (.cells #[(iv 0), (iv 0), (.slice none 0 0)] 27 (0, 0)), rowO 85 encN_Row A17 c18 (tag H19 t12), poolO [nestO subN_Row H19 t12], blk g20 (mapObj (aggI ints_A8_Int) slV K30), blk g24 (.cells #[(iv p1), (iv p2), (.slice none 0 0)] 27 (0, 0))] := hS59.freezeO 1 [0, 2, 3, 4, 5, 6, 7] (by decide) (by decide)
      have hS65 : St NoS w w57 [rowR (encMap A8_Int Bool) A60 c61 (tag H62 t55), mapsO (aggI ints_A8_Int) vB H62 t55, mapsO (aggI ints_A8_Int) vB ((mget ((rdD t12 x31 z_Row).South) zHM K30).1.2.2) (mget ((rdD t12 x31 z_Row).South) [] l29), rowR (encMap A8_Int Bool) ((mget ((rdD t12 x31 z_Row).South) zHM K30).1.1) ((mget ((rdD t12 x31 z_Row).South) zHM K30).1.2.1) (tag ((mget ((rdD t12 x31 z_Row).South) zHM K30).1.2.2) (mget ((rdD t12 x31 z_Row).South) [] l29)), knestO (aggI ints_A8_Int) vB K30 l29, knestO (aggI ints_A8_Int) vB ([] : List (A8_Int × (HM × List (Option (List (A8_Int × Bool)))))) ([] : List (A8_Int × List (Option (List (A8_Int × Bool))))), rowR enc_Tile A_p0 c_p0 p0] [blk g40 (.cells #[(sv ((H19 x31.toNat 0).1) ((rdD t12 x31 z_Row).Cells) ((H19 x31.toNat 0).2)), (iv (((rdD t12 x31 z_Row).South).e0)), (iv (((rdD t12 x31 z_Row).South).e1)), (iv (((rdD t12 x31 z_Row).South).e2)), (iv (((rdD t12 x31 z_Row).South).e3)), (iv (((rdD t12 x31 z_Row).South).e4)), (iv (((rdD t12 x31 z_Row).South).e5)), (iv (((rdD t12 x31 z_Row).South).e6)), (iv (((rdD t12 x31 z_Row).South).e7)), (iv (((rdD t12 x31 z_Row).North).e0)), (iv (((rdD t12 x31 z_Row).North).e1)), (iv (((rdD t12 x31 z_Row).North).e2)), (iv (((rdD t12 x31 z_Row).North).e3)), (iv (((rdD t12 x31 z_Row).North).e4)), (iv (((rdD t12 x31 z_Row).North).e5)), (iv (((rdD t12 x31 z_Row).North).e6)), (iv (((rdD t12 x31 z_Row).North).e7)), (iv ((rdD t12 x31 z_Row).West)), (iv ((rdD t12 x31 z_Row).East))] 85 (0, 0)), blk g9 (.cells #[(iv 0), (iv 0), (.slice none 0 0)] 27 (0, 0)), rowO 85 encN_Row A17 c18 (tag H19 t12), poolO [nestO subN_Row H19 t12], blk g20 (mapObj (aggI ints_A8_Int) slV K30), blk g24 (.cells #[(iv p1), (iv p2), (.slice none 0 0)] 27 (0, 0))] := hS63.freezeRow 0 rfl [1, 2, 3, 4, 5, 6] (by decide) (by decide)
      refine WL.mapput hS65 4 (t := 117) (kT := 83) (eT := 90) (kE := (aggI ints_A8_Int)) (vE := slV) (l := K30) rfl ((rdD t12 x31 z_Row).South) ((A60, c61, H62), t55) (fun fb => by kernel_rfl) torus_find_key83 (by kernel_rfl) [0, 1, 2, 3, 5] (by decide) (by decide) (fun w66 hS67 => ?_)
      have hS68 : St NoS w w66 [knestO (aggI ints_A8_Int) vB (mput ((rdD t12 x31 z_Row).South) ((A60, c61, H62), t55) K30) (mput ((rdD t12 x31 z_Row).South) t55 l29), rowR (encMap A8_Int Bool) A60 c61 (tag H62 t55), mapsO (aggI ints_A8_Int) vB H62 t55, mapsO (aggI ints_A8_Int) vB ((mget ((rdD t12 x31 z_Row).South) zHM K30).1.2.2) (mget ((rdD t12 x31 z_Row).South) [] l29), rowR (encMap A8_Int Bool) ((mget ((rdD t12 x31 z_Row).South) zHM K30).1.1) ((mget ((rdD t12 x31 z_Row).South) zHM K30).1.2.1) (tag ((mget ((rdD t12 x31 z_Row).South) zHM K30).1.2.2) (mget ((rdD t12 x31 z_Row).South) [] l29)), knestO (aggI ints_A8_Int) vB K30 l29, knestO (aggI ints_A8_Int) vB ([] : List (A8_Int × (HM × List (Option (List (A8_Int × Bool)))))) ([] : List (A8_Int × List (Option (List (A8_Int × Bool))))), rowR enc_Tile A_p0 c_p0 p0] [blk g20 (mapObj (aggI ints_A8_Int) slV (mput ((rdD t12 x31 z_Row).South) ((A60, c61, H62), t55) K30)), blk g40 (.cells #[(sv ((H19 x31.toNat 0).1) ((rdD t12 x31 z_Row).Cells) ((H19 x31.toNat 0).2)), (iv (((rdD t12 x31 z_Row).South).e0)), (iv (((rdD t12 x31 z_Row).South).e1)), (iv (((rdD t12 x31 z_Row).South).e2)), (iv (((rdD t12 x31 z_Row).South).e3)), (iv (((rdD t12 x31 z_Row).South).e4)), (iv (((rdD t12 x31 z_Row).South).e5)), (iv (((rdD t12 x31 z_Row).South).e6)), (iv (((rdD t12 x31 z_Row).South).e7)), (iv (((rdD t12 x31 z_Row).North).e0)), (iv (((rdD t12 x31 z_Row).North).e1)), (iv (((rdD t12 x31 z_Row).North).e2)), (iv (((rdD t12 x31 z_Row).North).e3)), (iv (((rdD t12 x31 z_Row).North).e4)), (iv (((rdD t12 x31 z_Row).North).e5)), (iv (((rdD t12 x31 z_Row).North).e6)), (iv (((rdD t12 x31 z_Row).North).e7)), (iv ((rdD t12 x31 z_Row).West)), (iv ((rdD t12 x31 z_Row).East))] 85 (0, 0)), blk g9 (.cells #[(iv 0), (iv 0), (.slice none 0 0)] 27 (0, 0)), rowO 85 encN_Row A17 c18 (tag H19 t12), poolO [nestO subN_Row H19 t12], blk g24 (.cells #[(iv p1), (iv p2), (.slice none 0 0)] 27 (0, 0))] := hS67.addR _ (knestO.put (hS67.rdL 4) ((rdD t12 x31 z_Row).South) (hS67.rdL 0) (hS67.rdL 1))
      refine ⟨trivial, ?_⟩
      refine WL.done rfl ?_
      injection hx52 with hx52
      exact WX.to Kx51 ((mput ((rdD t12 x31 z_Row).South) t55 l29, t55), mput ((rdD t12 x31 z_Row).South) ((A60, c61, H62), t55) K30, A60, c61, H62) [2, 6, 8, 9, 10, 12, 13, 26, 27, 28] rfl ⟨(hS68.subR [0, 1, 2, 3, 4, 5, 6, 7]).sub [2, 3, 4, 0, 5, 1] (by decide), hx52.symm⟩
     refine WC.condF2 (fun fb => by kernel_rfl) h53 ?_
     refine WC.skip ?_
     injection hx52 with hx52
     exact WX.to Kx51 ((l29, (mget ((rdD t12 x31 z_Row).South) [] l29)), K30, (mget ((rdD t12 x31 z_Row).South) zHM K30).1.1, (mget ((rdD t12 x31 z_Row).South) zHM K30).1.2.1, ((mget ((rdD t12 x31 z_Row).South) zHM K30).1.2.2)) [2, 6, 8, 9, 10, 12, 13, 26, 27, 28] rfl ⟨(hS46.subR [2, 1, 0, 0, 1, 2, 3, 4]).sub [1, 2, 3, 4, 5, 0] (by decide), hx52.symm⟩
    rintro ⟨y72, K47, A48, c49, H50⟩ w69 ⟨hS70, hq71⟩
    subst hq71
    refine WX.next ?_
    refine WC.seq ?_
    refine WC.seq ?_
    obtain ⟨h75, hl37⟩ := as_some hl37
    obtain ⟨m76, hm77, hl37⟩ := bind_some hl37
    refine WC.regionD ([(4, ((adr A48).add ((w64 (p2 - 1)).toNat * 1)), (.map (some (H50 (w64 (p2 - 1)).toNat)))), (6, ⟨g40, 9, none⟩, (iv (((rdD t12 x31 z_Row).North).e0))), (6, ⟨g40, 10, none⟩, (iv (((rdD t12 x31 z_Row).North).e1))), (6, ⟨g40, 11, none⟩, (iv (((rdD t12 x31 z_Row).North).e2))), (6, ⟨g40, 12, none⟩, (iv (((rdD t12 x31 z_Row).North).e3))), (6, ⟨g40, 13, none⟩, (iv (((rdD t12 x31 z_Row).North).e4))), (6, ⟨g40, 14, none⟩, (iv (((rdD t12 x31 z_Row).North).e5))), (6, ⟨g40, 15, none⟩, (iv (((rdD t12 x31 z_Row).North).e6))), (6, ⟨g40, 16, none⟩, (iv (((rdD t12 x31 z_Row).North).e7)))], [0, 1, 2, 3, 4, 5, 6, 8], [[], [], [1], [0, 1, 2], [0, 1, 2, 3], [], [5], [0, 1, 2, 3, 4, 5, 6], [0, 1, 2, 3, 4, 5, 6, 7]]) [[0, 1, 2, 3, 4, 5, 6, 7, 8]] (by kernel_rfl) (by kernel_rfl) (NoPanic.seq (NoPanic.seq (NoPanic.block (NoPanic.seq (NoPanic.seq (NoPanic.block (NoPanic.seq (NoPanic.scope (NoPanic.body))))))))) ?_
    have hS74 := hS70.drew
    revert hS74
    generalize World.drew w69 = w73
    intro hS74
    refine ⟨⟨nrow_cell (hS74.rd 1).1 none h75.1 h75.2 0 (mapV_some hm77), hS74.cell 5 rfl 9 rfl, hS74.cell 5 rfl 10 rfl, hS74.cell 5 rfl 11 rfl, hS74.cell 5 rfl 12 rfl, hS74.cell 5 rfl 13 rfl, hS74.cell 5 rfl 14 rfl, hS74.cell 5 rfl 15 rfl, hS74.cell 5 rfl 16 rfl, trivial⟩, forallC ?_ (forallN)⟩
    refine segF 7 [.v (.map (some (H50 (w64 (p2 - 1)).toNat))), .v (iv (((rdD t12 x31 z_Row).North).e0)), .v (iv (((rdD t12 x31 z_Row).North).e1)), .v (iv (((rdD t12 x31 z_Row).North).e2)), .v (iv (((rdD t12 x31 z_Row).North).e3)), .v (iv (((rdD t12 x31 z_Row).North).e4)), .v (iv (((rdD t12 x31 z_Row).North).e5)), .v (iv (((rdD t12 x31 z_Row).North).e6)), .v (iv (((rdD t12 x31 z_Row).North).e7))] [2, 6, 8, 9, 10, 12, 13, 26, 27, 28, 55, 57] [(2, (iv p2)), (6, (pt g9)), (8, (sv A17 t12 c18)), (9, (.map (some g20))), (10, (pt g24)), (12, (pt g40)), (13, (sv A48 x51.2 c49)), (26, (sv A17 t12 c18)), (27, (iv (t12.length : Int))), (28, (iv x31)), (55, (.map (some (H50 (w64 (p2 - 1)).toNat)))), (57, (.agg #[(iv (((rdD t12 x31 z_Row).North).e0)), (iv (((rdD t12 x31 z_Row).North).e1)), (iv (((rdD t12 x31 z_Row).North).e2)), (iv (((rdD t12 x31 z_Row).North).e3)), (iv (((rdD t12 x31 z_Row).North).e4)), (iv (((rdD t12 x31 z_Row).North).e5)), (iv (((rdD t12 x31 z_Row).North).e6)), (iv (((rdD t12 x31 z_Row).North).e7))]))] [.idx A48 (w64 (p2 - 1)) x51.2.length] [0, 1, 2, 3, 4, 5, 6, 7, 8] [(4, ((adr A48).add ((w64 (p2 - 1)).toNat * 1)), (.map (some (H50 (w64 (p2 - 1)).toNat)))), (6, ⟨g40, 9, none⟩, (iv (((rdD t12 x31 z_Row).North).e0))), (6, ⟨g40, 10, none⟩, (iv (((rdD t12 x31 z_Row).North).e1))), (6, ⟨g40, 11, none⟩, (iv (((rdD t12 x31 z_Row).North).e2))), (6, ⟨g40, 12, none⟩, (iv (((rdD t12 x31 z_Row).North).e3))), (6, ⟨g40, 13, none⟩, (iv (((rdD t12 x31 z_Row).North).e4))), (6, ⟨g40, 14, none⟩, (iv (((rdD t12 x31 z_Row).North).e5))), (6, ⟨g40, 15, none⟩, (iv (((rdD t12 x31 z_Row).North).e6))), (6, ⟨g40, 16, none⟩, (iv (((rdD t12 x31 z_Row).North).e7)))] (fun fb => by kernel_rfl) rfl ⟨nrow_adr (hS74.rd 1).1 h75.1 h75.2, trivial⟩ rfl ?_
    refine WL.lookup (mapsO.at (hS74.rd 2).1 h75.1 h75.2 hm77) ((rdD t12 x31 z_Row).North) (d := 58) (c := false) (t := 91) (kT := 83) (eT := 4) (z := false) (kE := (aggI ints_A8_Int)) (vE := vB) (l := m76) (bv (mget ((rdD t12 x31 z_Row).North) false m76)) (fun fb => by kernel_rfl) torus_find_key83 (by kernel_rfl) (fun _ => by kernel_rfl) rfl ?_
    refine ⟨trivial, ?_⟩
    refine seg 9 [] [2, 6, 8, 9, 10, 12, 13, 26, 27, 28, 59] [(2, (iv p2)), (6, (pt g9)), (8, (sv A17 t12 c18)), (9, (.map (some g20))), (10, (pt g24)), (12, (pt g40)), (13, (sv A48 x51.2 c49)), (26, (sv A17 t12 c18)), (27, (iv (t12.length : Int))), (28, (iv x31)), (59, (bv (!(mget ((rdD t12 x31 z_Row).North) false m76))))] [] (fun fb => by kernel_rfl) rfl trivial ?_
    refine WL.done rfl ?_
    refine WX.next ?_
    rcases br_some hl37 with ⟨h78, hl37⟩ | ⟨h78, hl37⟩
    ·refine WC.condT2 (fun fb => by kernel_rfl) h78 ?_
     refine WC.exit ?_
     refine WX.thenX (WX.blockHere (WX.next ?_))
     refine WC.region ?_
     refine seg 2 [] [2, 6, 8, 9, 10, 26, 27, 28] [(2, (iv p2)), (6, (pt g9)), (8, (sv A17 t12 c18)), (9, (.map (some g20))), (10, (pt g24)), (26, (sv A17 t12 c18)), (27, (iv (t12.length : Int))), (28, (iv (w64 (x31 + 1))))] [] (fun fb => by kernel_rfl) rfl trivial ?_
     refine WL.done rfl ?_
     exact WX.again k34 (Nat.lt_succ_self _) ((x51.1, w64 (x31 + 1)), K47) [2, 6, 8, 9, 10, 26, 27, 28] rfl ⟨(hS74.subR [0, 6, 7]).sub [0, 1, 2, 3, 4] (by decide), hl37⟩
    refine WC.condF2 (fun fb => by kernel_rfl) h78 ?_
    refine WC.skip ?_
    refine WX.next ?_
    refine WC.seq ?_
    refine WC.region ?_
    refine seg 4 [.v (.slice none 0 0), .v (sv ((H19 x31.toNat 0).1) ((rdD t12 x31 z_Row).Cells) ((H19 x31.toNat 0).2))] [2, 6, 8, 10, 12, 13, 61, 63] [(2, (iv p2)), (6, (pt g9)), (8, (sv A17 t12 c18)), (10, (pt g24)), (12, (pt g40)), (13, (sv A48 x51.2 c49)), (61, (.slice none 0 0)), (63, (sv ((H19 x31.toNat 0).1) ((rdD t12 x31 z_Row).Cells) ((H19 x31.toNat 0).2)))] [.cell ⟨g24, 2, none⟩ (.slice none 0 0), .cell ⟨g40, 0, none⟩ (sv ((H19 x31.toNat 0).1) ((rdD t12 x31 z_Row).Cells) ((H19 x31.toNat 0).2))] (fun fb => by kernel_rfl) rfl ⟨hS74.cell 4 rfl 2 rfl, hS74.cell 5 rfl 0 rfl, trivial⟩ ?_
    have hS79 := hS74.nilrow 3 encInt
    obtain ⟨h80, hl37⟩ := as_some hl37
    refine WL.append hS79 0 (d := 64) (tS := 25) (z := (iv 0)) (bytes := 8) (c2 := (H19 x31.toNat 0).2) rfl (fun fb => by kernel_rfl) (nestO.at ((hS79.own 3).1 0) z_Row h39.1 h39.2) (by kernel_rfl) (by kernel_rfl) rfl (by decide) h80 (by decide) [1, 2, 3, 4, 5, 6] (by decide) (by decide) (fun A81 c82 w84 hS85 => ?_)
    refine ⟨trivial, ?_⟩
    refine seg 6 [] [2, 6, 8, 10, 12, 13, 64, 65] [(2, (iv p2)), (6, (pt g9)), (8, (sv A17 t12 c18)), (10, (pt g24)), (12, (pt g40)), (13, (sv A48 x51.2 c49)), (64, (sv A81 (([] : List Int) ++ ((rdD t12 x31 z_Row).Cells)) c82)), (65, (.pointer (some ⟨g24, 2, none⟩)))] [] (fun fb => by kernel_rfl) rfl trivial ?_
    refine WL.store hS85 5 rfl [(2, (sv A81 (([] : List Int) ++ ((rdD t12 x31 z_Row).Cells)) c82))] #[(iv p1), (iv p2), (sv A81 (([] : List Int) ++ ((rdD t12 x31 z_Row).Cells)) c82)] (fun fb => by kernel_rfl) (by kernel_rfl) rfl [0, 1, 2, 3, 4, 6] (by decide) (by decide) (fun w86 hS87 => ?_)
    refine ⟨trivial, ?_⟩
    refine WL.done rfl ?_
    refine WX.next ?_
    refine WC.seq ?_
    refine WC.region ?_
    refine seg 2 [.v (iv (((rdD t12 x31 z_Row).North).e0)), .v (iv (((rdD t12 x31 z_Row).North).e1)), .v (iv (((rdD t12 x31 z_Row).North).e2)), .v (iv (((rdD t12 x31 z_Row).North).e3)), .v (iv (((rdD t12 x31 z_Row).North).e4)), .v (iv (((rdD t12 x31 z_Row).North).e5)), .v (iv (((rdD t12 x31 z_Row).North).e6)), .v (iv (((rdD t12 x31 z_Row).North).e7))] [2, 6, 8, 10, 13, 67] [(2, (iv p2)), (6, (pt g9)), (8, (sv A17 t12 c18)), (10, (pt g24)), (13, (sv A48 x51.2 c49)), (67, (.agg #[(iv (((rdD t12 x31 z_Row).North).e0)), (iv (((rdD t12 x31 z_Row).North).e1)), (iv (((rdD t12 x31 z_Row).North).e2)), (iv (((rdD t12 x31 z_Row).North).e3)), (iv (((rdD t12 x31 z_Row).North).e4)), (iv (((rdD t12 x31 z_Row).North).e5)), (iv (((rdD t12 x31 z_Row).North).e6)), (iv (((rdD t12 x31 z_Row).North).e7))]))] [.cell ⟨g40, 9, none⟩ (iv (((rdD t12 x31 z_Row).North).e0)), .cell ⟨g40, 10, none⟩ (iv (((rdD t12 x31 z_Row).North).e1)), .cell ⟨g40, 11, none⟩ (iv (((rdD t12 x31 z_Row).North).e2)), .cell ⟨g40, 12, none⟩ (iv (((rdD t12 x31 z_Row).North).e3)), .cell ⟨g40, 13, none⟩ (iv (((rdD t12 x31 z_Row).North).e4)), .cell ⟨g40, 14, none⟩ (iv (((rdD t12 x31 z_Row).North).e5)), .cell ⟨g40, 15, none⟩ (iv (((rdD t12 x31 z_Row).North).e6)), .cell ⟨g40, 16, none⟩ (iv (((rdD t12 x31 z_Row).North).e7))] (fun fb => by kernel_rfl) rfl ⟨hS87.cell 6 rfl 9 rfl, hS87.cell 6 rfl 10 rfl, hS87.cell 6 rfl 11 rfl, hS87.cell 6 rfl 12 rfl, hS87.cell 6 rfl 13 rfl, hS87.cell 6 rfl 14 rfl, hS87.cell 6 rfl 15 rfl, hS87.cell 6 rfl 16 rfl, trivial⟩ ?_
    refine WL.new hS87 15 [] (fun g => (pt g)) (.cells #[(iv 0), (iv 0), (iv 0), (iv 0), (iv 0), (iv 0), (iv 0), (iv 0)] 83 (0, 0)) [] (fun fb g => by kernel_rfl) trivial (fun g88 w89 hS90 => ?_)
    refine ⟨trivial, ?_⟩
    refine WL.store hS90 0 rfl [(0, (iv (((rdD t12 x31 z_Row).North).e0))), (1, (iv (((rdD t12 x31 z_Row).North).e1))), (2, (iv (((rdD t12 x31 z_Row).North).e2))), (3, (iv (((rdD t12 x31 z_Row).North).e3))), (4, (iv (((rdD t12 x31 z_Row).North).e4))), (5, (iv (((rdD t12 x31 z_Row).North).e5))), (6, (iv (((rdD t12 x31 z_Row).North).e6))), (7, (iv (((rdD t12 x31 z_Row).North).e7)))] #[(iv (((rdD t12 x31 z_Row).North).e0)), (iv (((rdD t12 x31 z_Row).North).e1)), (iv (((rdD t12 x31 z_Row).North).e2)), (iv (((rdD t12 x31 z_Row).North).e3)), (iv (((rdD t12 x31 z_Row).North).e4)), (iv (((rdD t12 x31 z_Row).North).e5)), (iv (((rdD t12 x31 z_Row).North).e6)), (iv (((rdD t12 x31 z_Row).North).e7))] (fun fb => by kernel_rfl) (by kernel_rfl) rfl [1, 2, 3, 4, 5, 6, 7] (by decide) (by decide) (fun w91 hS92 => ?_)
    refine ⟨trivial, ?_⟩
    refine WL.done rfl ?_
    refine WX.next ?_
    refine WC.seq ?_
    refine WC.seq ?_
    refine WC.region ?_
    refine seg 3 [] [6, 8, 10, 13, 15, 16] [(6, (pt g9)), (8, (sv A17 t12 c18)), (10, (pt g24)), (13, (sv A48 x51.2 c49)), (15, (pt g88)), (16, (iv (w64 (p2 - 2))))] [] (fun fb => by kernel_rfl) rfl trivial ?_
    refine WL.done rfl ?_
    refine WX.next ?_
    obtain ⟨x100, hx101, hl37⟩ := bind_some hl37
    refine WC.cutN (T := (List Int) × (Option Addr) × Nat) (fun t => [(6, (pt g9)), (10, (pt g24))]) (fun t w1 => St NoS w w1 [knestO (aggI ints_A8_Int) vB K47 x51.1, rowR (encMap A8_Int Bool) A48 c49 (tag H50 x51.2), mapsO (aggI ints_A8_Int) vB H50 x51.2, mapsO (aggI ints_A8_Int) vB ((mget ((rdD t12 x31 z_Row).South) zHM K30).1.2.2) (mget ((rdD t12 x31 z_Row).South) [] l29), rowR (encMap A8_Int Bool) ((mget ((rdD t12 x31 z_Row).South) zHM K30).1.1) ((mget ((rdD t12 x31 z_Row).South) zHM K30).1.2.1) (tag ((mget ((rdD t12 x31 z_Row).South) zHM K30).1.2.2) (mget ((rdD t12 x31 z_Row).South) [] l29)), knestO (aggI ints_A8_Int) vB K30 l29, knestO (aggI ints_A8_Int) vB ([] : List (A8_Int × (HM × List (Option (List (A8_Int × Bool)))))) ([] : List (A8_Int × List (Option (List (A8_Int × Bool))))), rowR enc_Tile A_p0 c_p0 p0] [blk g9 (.cells #[(iv 0), (iv 0), (.slice none 0 0)] 27 (0, 0)), blk g24 (.cells #[(iv p1), (iv p2), (sv t.2.1 t.1 t.2.2)] 27 (0, 0)), rowO 3 encInt t.2.1 t.2.2 t.1] ∧ x100 = t.1) (fun Kx100 => ?_) ?_
    ·
     refine WC.block ?_
     refine WC.loop (T := ((List Int) × A8_Int × Int) × (Option Addr) × Nat) (fun t => [(6, (pt g9)), (8, (sv A17 t12 c18)), (10, (pt g24)), (13, (sv A48 x51.2 c49)), (15, (pt g88)), (16, (iv t.1.2.2))]) (fun n t w1 => St NoS w w1 [knestO (aggI ints_A8_Int) vB K47 x51.1, rowR (encMap A8_Int Bool) A48 c49 (tag H50 x51.2), mapsO (aggI ints_A8_Int) vB H50 x51.2, mapsO (aggI ints_A8_Int) vB ((mget ((rdD t12 x31 z_Row).South) zHM K30).1.2.2) (mget ((rdD t12 x31 z_Row).South) [] l29), rowR (encMap A8_Int Bool) ((mget ((rdD t12 x31 z_Row).South) zHM K30).1.1) ((mget ((rdD t12 x31 z_Row).South) zHM K30).1.2.1) (tag ((mget ((rdD t12 x31 z_Row).South) zHM K30).1.2.2) (mget ((rdD t12 x31 z_Row).South) [] l29)), knestO (aggI ints_A8_Int) vB K30 l29, knestO (aggI ints_A8_Int) vB ([] : List (A8_Int × (HM × List (Option (List (A8_Int × Bool)))))) ([] : List (A8_Int × List (Option (List (A8_Int × Bool))))), rowR enc_Tile A_p0 c_p0 p0] [blk g9 (.cells #[(iv 0), (iv 0), (.slice none 0 0)] 27 (0, 0)), rowO 85 encN_Row A17 c18 (tag H19 t12), poolO [nestO subN_Row H19 t12], blk g24 (.cells #[(iv p1), (iv p2), (sv t.2.1 t.1.1 t.2.2)] 27 (0, 0)), rowO 3 encInt t.2.1 t.2.2 t.1.1, blk g88 (.cells #[(iv t.1.2.1.e0), (iv t.1.2.1.e1), (iv t.1.2.1.e2), (iv t.1.2.1.e3), (iv t.1.2.1.e4), (iv t.1.2.1.e5), (iv t.1.2.1.e6), (iv t.1.2.1.e7)] 83 (0, 0))] ∧ torus_find.l1 n t.1.1 t.1.2.1 t.1.2.2 t12 x51 = some x100) k34 ((([] : List Int) ++ ((rdD t12 x31 z_Row).Cells), ((rdD t12 x31 z_Row).North), w64 (p2 - 2)), A81, c82) [6, 8, 10, 13, 15, 16] rfl ⟨(hS92.subR [0, 1, 2, 3, 4, 5, 6, 7]).sub [3, 4, 5, 1, 2, 0] (by decide), hx101⟩ ?_
     rintro k102 ⟨⟨l95, a96, x97⟩, A93, c94⟩ w103 ⟨hS104, hl105⟩
     cases k102 with
     | zero => rw [torus_find.l1] at hl105; cases hl105
     | succ k102 =>
      rw [torus_find.l1] at hl105
      refine WC.seq ?_
      refine WC.seq ?_
      refine WC.region ?_
      refine seg 2 [] [6, 8, 10, 13, 15, 16, 71] [(6, (pt g9)), (8, (sv A17 t12 c18)), (10, (pt g24)), (13, (sv A48 x51.2 c49)), (15, (pt g88)), (16, (iv x97)), (71, (bv (decide (x97 ≥ 0))))] [] (fun fb => by kernel_rfl) rfl trivial ?_
      refine WL.done rfl ?_
      refine WX.next ?_
      rcases br_some hl105 with ⟨h106, hl105⟩ | ⟨h106, hl105⟩
      ·refine WC.condT2 (fun fb => by kernel_rfl) h106 ?_
       refine WC.skip ?_
       refine WX.next ?_
       refine WC.seq ?_
       refine WC.block ?_
       refine WC.scope ?_
       refine WC.seq ?_
       refine WC.label ?_
       refine WX.next ?_
       refine WC.seq ?_
       refine WC.region ?_
       refine seg 3 [] [6, 8, 10, 13, 15, 16, 74, 75, 76] [(6, (pt g9)), (8, (sv A17 t12 c18)), (10, (pt g24)), (13, (sv A48 x51.2 c49)), (15, (pt g88)), (16, (iv x97)), (74, (sv A17 t12 c18)), (75, (iv (t12.length : Int))), (76, (iv 0))] [] (fun fb => by kernel_rfl) rfl trivial ?_
       refine WL.done rfl ?_
       refine WX.next ?_
       obtain ⟨x110, hx111, hl105⟩ := bind_some hl105
       refine WC.cutN (T := ((List Int) × A8_Int) × (Option Addr) × Nat) (fun t => [(6, (pt g9)), (8, (sv A17 t12 c18)), (10, (pt g24)), (13, (sv A48 x51.2 c49)), (15, (pt g88)), (16, (iv x97))]) (fun t w1 => St NoS w w1 [knestO (aggI ints_A8_Int) vB K47 x51.1, rowR (encMap A8_Int Bool) A48 c49 (tag H50 x51.2), mapsO (aggI ints_A8_Int) vB H50 x51.2, mapsO (aggI ints_A8_Int) vB ((mget ((rdD t12 x31 z_Row).South) zHM K30).1.2.2) (mget ((rdD t12 x31 z_Row).South) [] l29), rowR (encMap A8_Int Bool) ((mget ((rdD t12 x31 z_Row).South) zHM K30).1.1) ((mget ((rdD t12 x31 z_Row).South) zHM K30).1.2.1) (tag ((mget ((rdD t12 x31 z_Row).South) zHM K30).1.2.2) (mget ((rdD t12 x31 z_Row).South) [] l29)), knestO (aggI ints_A8_Int) vB K30 l29, knestO (aggI ints_A8_Int) vB ([] : List (A8_Int × (HM × List (Option (List (A8_Int × Bool)))))) ([] : List (A8_Int × List (Option (List (A8_Int × Bool))))), rowR enc_Tile A_p0 c_p0 p0] [blk g9 (.cells #[(iv 0), (iv 0), (.slice none 0 0)] 27 (0, 0)), rowO 85 encN_Row A17 c18 (tag H19 t12), poolO [nestO subN_Row H19 t12], blk g24 (.cells #[(iv p1), (iv p2), (sv t.2.1 t.1.1 t.2.2)] 27 (0, 0)), rowO 3 encInt t.2.1 t.2.2 t.1.1, blk g88 (.cells #[(iv t.1.2.e0), (iv t.1.2.e1), (iv t.1.2.e2), (iv t.1.2.e3), (iv t.1.2.e4), (iv t.1.2.e5), (iv t.1.2.e6), (iv t.1.2.e7)] 83 (0, 0))] ∧ x110 = t.1) (fun Kx110 => ?_) ?_
       ·
        refine WC.block ?_
        refine WC.loop (T := Int) (fun t => [(6, (pt g9)), (8, (sv A17 t12 c18)), (10, (pt g24)), (13, (sv A48 x51.2 c49)), (15, (pt g88)), (16, (iv x97)), (74, (sv A17 t12 c18)), (75, (iv (t12.length : Int))), (76, (iv t))]) (fun n t w1 => St NoS w w1 [knestO (aggI ints_A8_Int) vB K47 x51.1, rowR (encMap A8_Int Bool) A48 c49 (tag H50 x51.2), mapsO (aggI ints_A8_Int) vB H50 x51.2, mapsO (aggI ints_A8_Int) vB ((mget ((rdD t12 x31 z_Row).South) zHM K30).1.2.2) (mget ((rdD t12 x31 z_Row).South) [] l29), rowR (encMap A8_Int Bool) ((mget ((rdD t12 x31 z_Row).South) zHM K30).1.1) ((mget ((rdD t12 x31 z_Row).South) zHM K30).1.2.1) (tag ((mget ((rdD t12 x31 z_Row).South) zHM K30).1.2.2) (mget ((rdD t12 x31 z_Row).South) [] l29)), knestO (aggI ints_A8_Int) vB K30 l29, knestO (aggI ints_A8_Int) vB ([] : List (A8_Int × (HM × List (Option (List (A8_Int × Bool)))))) ([] : List (A8_Int × List (Option (List (A8_Int × Bool))))), rowR enc_Tile A_p0 c_p0 p0] [blk g9 (.cells #[(iv 0), (iv 0), (.slice none 0 0)] 27 (0, 0)), rowO 85 encN_Row A17 c18 (tag H19 t12), poolO [nestO subN_Row H19 t12], blk g24 (.cells #[(iv p1), (iv p2), (sv A93 l95 c94)] 27 (0, 0)), rowO 3 encInt A93 c94 l95, blk g88 (.cells #[(iv a96.e0), (iv a96.e1), (iv a96.e2), (iv a96.e3), (iv a96.e4), (iv a96.e5), (iv a96.e6), (iv a96.e7)] 83 (0, 0))] ∧ torus_find.l2 n t t12 x51 l95 a96 x97 = some x110) k102 0 [6, 8, 10, 13, 15, 16, 74, 75, 76] rfl ⟨(hS104.subR [0, 1, 2, 3, 4, 5, 6, 7]).sub [0, 1, 2, 3, 4, 5] (by decide), hx111⟩ ?_
        rintro k112 x107 w113 ⟨hS114, hl115⟩
        cases k112 with
        | zero => rw [torus_find.l2] at hl115; cases hl115
        | succ k112 =>
         rw [torus_find.l2] at hl115
         refine WC.seq ?_
         refine WC.region ?_
         refine seg 1 [] [6, 8, 10, 13, 15, 16, 74, 75, 76, 77] [(6, (pt g9)), (8, (sv A17 t12 c18)), (10, (pt g24)), (13, (sv A48 x51.2 c49)), (15, (pt g88)), (16, (iv x97)), (74, (sv A17 t12 c18)), (75, (iv (t12.length : Int))), (76, (iv x107)), (77, (bv (decide (x107 < (t12.length : Int)))))] [] (fun fb => by kernel_rfl) rfl trivial ?_
         refine WL.done rfl ?_
         refine WX.next ?_
         refine WC.seq ?_
         rcases br_some hl115 with ⟨h116, hl115⟩ | ⟨h116, hl115⟩
         ·refine WC.condT2 (fun fb => by kernel_rfl) h116 ?_
          refine WC.skip ?_
          refine WX.next ?_
          refine WC.seq ?_
          refine WC.block ?_
          refine WC.seq ?_
          refine WC.region ?_
          obtain ⟨h117, hl115⟩ := as_some hl115
          refine seg 2 [.v (sv ((H19 x107.toNat 0).1) ((rdD t12 x107 z_Row).Cells) ((H19 x107.toNat 0).2)), .v (iv (((rdD t12 x107 z_Row).South).e0)), .v (iv (((rdD t12 x107 z_Row).South).e1)), .v (iv (((rdD t12 x107 z_Row).South).e2)), .v (iv (((rdD t12 x107 z_Row).South).e3)), .v (iv (((rdD t12 x107 z_Row).South).e4)), .v (iv (((rdD t12 x107 z_Row).South).e5)), .v (iv (((rdD t12 x107 z_Row).South).e6)), .v (iv (((rdD t12 x107 z_Row).South).e7)), .v (iv (((rdD t12 x107 z_Row).North).e0)), .v (iv (((rdD t12 x107 z_Row).North).e1)), .v (iv (((rdD t12 x107 z_Row).North).e2)), .v (iv (((rdD t12 x107 z_Row).North).e3)), .v (iv (((rdD t12 x107 z_Row).North).e4)), .v (iv (((rdD t12 x107 z_Row).North).e5)), .v (iv (((rdD t12 x107 z_Row).North).e6)), .v (iv (((rdD t12 x107 z_Row).North).e7)), .v (iv ((rdD t12 x107 z_Row).West)), .v (iv ((rdD t12 x107 z_Row).East))] [6, 8, 10, 13, 15, 16, 74, 75, 76, 79] [(6, (pt g9)), (8, (sv A17 t12 c18)), (10, (pt g24)), (13, (sv A48 x51.2 c49)), (15, (pt g88)), (16, (iv x97)), (74, (sv A17 t12 c18)), (75, (iv (t12.length : Int))), (76, (iv x107)), (79, (.agg #[(sv ((H19 x107.toNat 0).1) ((rdD t12 x107 z_Row).Cells) ((H19 x107.toNat 0).2)), (iv (((rdD t12 x107 z_Row).South).e0)), (iv (((rdD t12 x107 z_Row).South).e1)), (iv (((rdD t12 x107 z_Row).South).e2)), (iv (((rdD t12 x107 z_Row).South).e3)), (iv (((rdD t12 x107 z_Row).South).e4)), (iv (((rdD t12 x107 z_Row).South).e5)), (iv (((rdD t12 x107 z_Row).South).e6)), (iv (((rdD t12 x107 z_Row).South).e7)), (iv (((rdD t12 x107 z_Row).North).e0)), (iv (((rdD t12 x107 z_Row).North).e1)), (iv (((rdD t12 x107 z_Row).North).e2)), (iv (((rdD t12 x107 z_Row).North).e3)), (iv (((rdD t12 x107 z_Row).North).e4)), (iv (((rdD t12 x107 z_Row).North).e5)), (iv (((rdD t12 x107 z_Row).North).e6)), (iv (((rdD t12 x107 z_Row).North).e7)), (iv ((rdD t12 x107 z_Row).West)), (iv ((rdD t12 x107 z_Row).East))]))] [.idx A17 x107 t12.length, .cell ((adr A17).add ((x107).toNat * 19)) (sv ((H19 x107.toNat 0).1) ((rdD t12 x107 z_Row).Cells) ((H19 x107.toNat 0).2)), .cell (((adr A17).add ((x107).toNat * 19)).add 1) (iv (((rdD t12 x107 z_Row).South).e0)), .cell (((adr A17).add ((x107).toNat * 19)).add 2) (iv (((rdD t12 x107 z_Row).South).e1)), .cell (((adr A17).add ((x107).toNat * 19)).add 3) (iv (((rdD t12 x107 z_Row).South).e2)), .cell (((adr A17).add ((x107).toNat * 19)).add 4) (iv (((rdD t12 x107 z_Row).South).e3)), .cell (((adr A17).add ((x107).toNat * 19)).add 5) (iv (((rdD t12 x107 z_Row).South).e4)), .cell (((adr A17).add ((x107).toNat * 19)).add 6) (iv (((rdD t12 x107 z_Row).South).e5)), .cell (((adr A17).add ((x107).toNat * 19)).add 7) (iv (((rdD t12 x107 z_Row).South).e6)), .cell (((adr A17).add ((x107).toNat * 19)).add 8) (iv (((rdD t12 x107 z_Row).South).e7)), .cell (((adr A17).add ((x107).toNat * 19)).add 9) (iv (((rdD t12 x107 z_Row).North).e0)), .cell (((adr A17).add ((x107).toNat * 19)).add 10) (iv (((rdD t12 x107 z_Row).North).e1)), .cell (((adr A17).add ((x107).toNat * 19)).add 11) (iv (((rdD t12 x107 z_Row).North).e2)), .cell (((adr A17).add ((x107).toNat * 19)).add 12) (iv (((rdD t12 x107 z_Row).North).e3)), .cell (((adr A17).add ((x107).toNat * 19)).add 13) (iv (((rdD t12 x107 z_Row).North).e4)), .cell (((adr A17).add ((x107).toNat * 19)).add 14) (iv (((rdD t12 x107 z_Row).North).e5)), .cell (((adr A17).add ((x107).toNat * 19)).add 15) (iv (((rdD t12 x107 z_Row).North).e6)), .cell (((adr A17).add ((x107).toNat * 19)).add 16) (iv (((rdD t12 x107 z_Row).North).e7)), .cell (((adr A17).add ((x107).toNat * 19)).add 17) (iv ((rdD t12 x107 z_Row).West)), .cell (((adr A17).add ((x107).toNat * 19)).add 18) (iv ((rdD t12 x107 z_Row).East))] (fun fb => by kernel_rfl) rfl ⟨nrow_adr (rowO.rd (hS114.own 1).1) h117.1 h117.2, nrow_cell (rowO.rd (hS114.own 1).1) z_Row h117.1 h117.2 0 rfl, nrow_cell (rowO.rd (hS114.own 1).1) z_Row h117.1 h117.2 1 rfl, nrow_cell (rowO.rd (hS114.own 1).1) z_Row h117.1 h117.2 2 rfl, nrow_cell (rowO.rd (hS114.own 1).1) z_Row h117.1 h117.2 3 rfl, nrow_cell (rowO.rd (hS114.own 1).1) z_Row h117.1 h117.2 4 rfl, nrow_cell (rowO.rd (hS114.own 1).1) z_Row h117.1 h117.2 5 rfl, nrow_cell (rowO.rd (hS114.own 1).1) z_Row h117.1 h117.2 6 rfl, nrow_cell (rowO.rd (hS114.own 1).1) z_Row h117.1 h117.2 7 rfl, nrow_cell (rowO.rd (hS114.own 1).1) z_Row h117.1 h117.2 8 rfl, nrow_cell (rowO.rd (hS114.own 1).1) z_Row h117.1 h117.2 9 rfl, nrow_cell (rowO.rd (hS114.own 1).1) z_Row h117.1 h117.2 10 rfl, nrow_cell (rowO.rd (hS114.own 1).1) z_Row h117.1 h117.2 11 rfl, nrow_cell (rowO.rd (hS114.own 1).1) z_Row h117.1 h117.2 12 rfl, nrow_cell (rowO.rd (hS114.own 1).1) z_Row h117.1 h117.2 13 rfl, nrow_cell (rowO.rd (hS114.own 1).1) z_Row h117.1 h117.2 14 rfl, nrow_cell (rowO.rd (hS114.own 1).1) z_Row h117.1 h117.2 15 rfl, nrow_cell (rowO.rd (hS114.own 1).1) z_Row h117.1 h117.2 16 rfl, nrow_cell (rowO.rd (hS114.own 1).1) z_Row h117.1 h117.2 17 rfl, nrow_cell (rowO.rd (hS114.own 1).1) z_Row h117.1 h117.2 18 rfl, trivial⟩ ?_
          refine WL.new hS114 18 [] (fun g => (pt g)) (.cells #[(.slice none 0 0), (iv 0), (iv 0), (iv 0), (iv 0), (iv 0), (iv 0), (iv 0), (iv 0), (iv 0), (iv 0), (iv 0), (iv 0), (iv 0), (iv 0), (iv 0), (iv 0), (iv 0), (iv 0)] 85 (0, 0)) [] (fun fb g => by kernel_rfl) trivial (fun g118 w119 hS120 => ?_)
          refine ⟨trivial, ?_⟩
          refine WL.store hS120 0 rfl [(0, (sv ((H19 x107.toNat 0).1) ((rdD t12 x107 z_Row).Cells) ((H19 x107.toNat 0).2))), (1, (iv (((rdD t12 x107 z_Row).South).e0))), (2, (iv (((rdD t12 x107 z_Row).South).e1))), (3, (iv (((rdD t12 x107 z_Row).South).e2))), (4, (iv (((rdD t12 x107 z_Row).South).e3))), (5, (iv (((rdD t12 x107 z_Row).South).e4))), (6, (iv (((rdD t12 x107 z_Row).South).e5))), (7, (iv (((rdD t12 x107 z_Row).South).e6))), (8, (iv (((rdD t12 x107 z_Row).South).e7))), (9, (iv (((rdD t12 x107 z_Row).North).e0))), (10, (iv (((rdD t12 x107 z_Row).North).e1))), (11, (iv (((rdD t12 x107 z_Row).North).e2))), (12, (iv (((rdD t12 x107 z_Row).North).e3))), (13, (iv (((rdD t12 x107 z_Row).North).e4))), (14, (iv (((rdD t12 x107 z_Row).North).e5))), (15, (iv (((rdD t12 x107 z_Row).North).e6))), (16, (iv (((rdD t12 x107 z_Row).North).e7))), (17, (iv ((rdD t12 x107 z_Row).West))), (18, (iv ((rdD t12 x107 z_Row).East)))] #[(sv ((H19 x107.toNat 0).1) ((rdD t12 x107 z_Row).Cells) ((H19 x107.toNat 0).2)), (iv (((rdD t12 x107 z_Row).South).e0)), (iv (((rdD t12 x107 z_Row).South).e1)), (iv (((rdD t12 x107 z_Row).South).e2)), (iv (((rdD t12 x107 z_Row).South).e3)), (iv (((rdD t12 x107 z_Row).South).e4)), (iv (((rdD t12 x107 z_Row).South).e5)), (iv (((rdD t12 x107 z_Row).South).e6)), (iv (((rdD t12 x107 z_Row).South).e7)), (iv (((rdD t12 x107 z_Row).North).e0)), (iv (((rdD t12 x107 z_Row).North).e1)), (iv (((rdD t12 x107 z_Row).North).e2)), (iv (((rdD t12 x107 z_Row).North).e3)), (iv (((rdD t12 x107 z_Row).North).e4)), (iv (((rdD t12 x107 z_Row).North).e5)), (iv (((rdD t12 x107 z_Row).North).e6)), (iv (((rdD t12 x107 z_Row).North).e7)), (iv ((rdD t12 x107 z_Row).West)), (iv ((rdD t12 x107 z_Row).East))] (fun fb => by kernel_rfl) (by kernel_rfl) (by kernel_rfl) [1, 2, 3, 4, 5, 6] (by decide) (by decide) (fun w121 hS122 => ?_)
          refine ⟨trivial, ?_⟩
          refine WL.done rfl ?_
          refine WX.next ?_
          refine WC.seq ?_
          obtain ⟨x123, hx124, hl115⟩ := bind_some hl115
          refine WC.cutN (T := Bool) (fun t => [(6, (pt g9)), (8, (sv A17 t12 c18)), (10, (pt g24)), (13, (sv A48 x51.2 c49)), (15, (pt g88)), (16, (iv x97)), (18, (pt g118)), (74, (sv A17 t12 c18)), (75, (iv (t12.length : Int))), (76, (iv x107)), (92, (bv t))]) (fun t w1 => St NoS w w1 [knestO (aggI ints_A8_Int) vB K47 x51.1, rowR (encMap A8_Int Bool) A48 c49 (tag H50 x51.2), mapsO (aggI ints_A8_Int) vB H50 x51.2, mapsO (aggI ints_A8_Int) vB ((mget ((rdD t12 x31 z_Row).South) zHM K30).1.2.2) (mget ((rdD t12 x31 z_Row).South) [] l29), rowR (encMap A8_Int Bool) ((mget ((rdD t12 x31 z_Row).South) zHM K30).1.1) ((mget ((rdD t12 x31 z_Row).South) zHM K30).1.2.1) (tag ((mget ((rdD t12 x31 z_Row).South) zHM K30).1.2.2) (mget ((rdD t12 x31 z_Row).South) [] l29)), knestO (aggI ints_A8_Int) vB K30 l29, knestO (aggI ints_A8_Int) vB ([] : List (A8_Int × (HM × List (Option (List (A8_Int × Bool)))))) ([] : List (A8_Int × List (Option (List (A8_Int × Bool))))), rowR enc_Tile A_p0 c_p0 p0] [blk g9 (.cells #[(iv 0), (iv 0), (.slice none 0 0)] 27 (0, 0)), rowO 85 encN_Row A17 c18 (tag H19 t12), poolO [nestO subN_Row H19 t12], blk g24 (.cells #[(iv p1), (iv p2), (sv A93 l95 c94)] 27 (0, 0)), rowO 3 encInt A93 c94 l95, blk g88 (.cells #[(iv a96.e0), (iv a96.e1), (iv a96.e2), (iv a96.e3), (iv a96.e4), (iv a96.e5), (iv a96.e6), (iv a96.e7)] 83 (0, 0)), blk g118 (.cells #[(sv ((H19 x107.toNat 0).1) ((rdD t12 x107 z_Row).Cells) ((H19 x107.toNat 0).2)), (iv (((rdD t12 x107 z_Row).South).e0)), (iv (((rdD t12 x107 z_Row).South).e1)), (iv (((rdD t12 x107 z_Row).South).e2)), (iv (((rdD t12 x107 z_Row).South).e3)), (iv (((rdD t12 x107 z_Row).South).e4)), (iv (((rdD t12 x107 z_Row).South).e5)), (iv (((rdD t12 x107 z_Row).South).e6)), (iv (((rdD t12 x107 z_Row).South).e7)), (iv (((rdD t12 x107 z_Row).North).e0)), (iv (((rdD t12 x107 z_Row).North).e1)), (iv (((rdD t12 x107 z_Row).North).e2)), (iv (((rdD t12 x107 z_Row).North).e3)), (iv (((rdD t12 x107 z_Row).North).e4)), (iv (((rdD t12 x107 z_Row).North).e5)), (iv (((rdD t12 x107 z_Row).North).e6)), (iv (((rdD t12 x107 z_Row).North).e7)), (iv ((rdD t12 x107 z_Row).West)), (iv ((rdD t12 x107 z_Row).East))] 85 (0, 0))] ∧ x123 = t) (fun Kx123 => ?_) ?_
          ·
           rcases br_some hx124 with ⟨h125, hx124⟩ | ⟨h125, hx124⟩
           ·
            obtain ⟨h128, hx124⟩ := as_some hx124
            obtain ⟨m129, hm130, hx124⟩ := bind_some hx124
            refine WC.regionD ([(1, ⟨g118, 1, none⟩, (iv (((rdD t12 x107 z_Row).South).e0))), (1, ⟨g118, 2, none⟩, (iv (((rdD t12 x107 z_Row).South).e1))), (1, ⟨g118, 3, none⟩, (iv (((rdD t12 x107 z_Row).South).e2))), (1, ⟨g118, 4, none⟩, (iv (((rdD t12 x107 z_Row).South).e3))), (1, ⟨g118, 5, none⟩, (iv (((rdD t12 x107 z_Row).South).e4))), (1, ⟨g118, 6, none⟩, (iv (((rdD t12 x107 z_Row).South).e5))), (1, ⟨g118, 7, none⟩, (iv (((rdD t12 x107 z_Row).South).e6))), (1, ⟨g118, 8, none⟩, (iv (((rdD t12 x107 z_Row).South).e7))), (2, ⟨g88, 0, none⟩, (iv a96.e0)), (2, ⟨g88, 1, none⟩, (iv a96.e1)), (2, ⟨g88, 2, none⟩, (iv a96.e2)), (2, ⟨g88, 3, none⟩, (iv a96.e3)), (2, ⟨g88, 4, none⟩, (iv a96.e4)), (2, ⟨g88, 5, none⟩, (iv a96.e5)), (2, ⟨g88, 6, none⟩, (iv a96.e6)), (2, ⟨g88, 7, none⟩, (iv a96.e7)), (8, ((adr A48).add ((x97).toNat * 1)), (.map (some (H50 x97.toNat)))), (10, ⟨g118, 9, none⟩, (iv (((rdD t12 x107 z_Row).North).e0))), (10, ⟨g118, 10, none⟩, (iv (((rdD t12 x107 z_Row).North).e1))), (10, ⟨g118, 11, none⟩, (iv (((rdD t12 x107 z_Row).North).e2))), (10, ⟨g118, 12, none⟩, (iv (((rdD t12 x107 z_Row).North).e3))), (10, ⟨g118, 13, none⟩, (iv (((rdD t12 x107 z_Row).North).e4))), (10, ⟨g118, 14, none⟩, (iv (((rdD t12 x107 z_Row).North).e5))), (10, ⟨g118, 15, none⟩, (iv (((rdD t12 x107 z_Row).North).e6))), (10, ⟨g118, 16, none⟩, (iv (((rdD t12 x107 z_Row).North).e7)))], [0, 1, 2, 3, 4, 5, 6, 7, 8, 9, 10, 12], [[], [0], [], [0, 1, 2], [0, 1, 2, 3], [0, 1, 2, 3, 4], [0, 1, 2, 3, 4], [0, 1, 2, 3, 4, 5, 6], [0, 1, 2, 3, 4, 5, 6, 7], [0, 1, 2, 3, 4], [0, 1, 2, 3, 4, 9], [0, 1, 2, 3, 4, 5, 6, 7, 8, 9, 10], [0, 1, 2, 3, 4, 5, 6, 7, 8, 9, 10, 11]]) [[0, 1, 2, 3, 4, 5, 6, 7, 8, 9, 10, 11, 12]] (by kernel_rfl) (by kernel_rfl) (NoPanic.seq (NoPanic.block (NoPanic.seq (NoPanic.seq (NoPanic.block (NoPanic.scope (NoPanic.block (NoPanic.seq (NoPanic.seq (NoPanic.block (NoPanic.seq (NoPanic.block (NoPanic.seq (NoPanic.seq (NoPanic.block (NoPanic.seq (NoPanic.scope (NoPanic.body)))))))))))))))))) ?_
            have hS127 := hS122.drew
            revert hS127
            generalize World.drew w121 = w126
            intro hS127
            refine ⟨⟨hS127.cell 0 rfl 1 rfl, hS127.cell 0 rfl 2 rfl, hS127.cell 0 rfl 3 rfl, hS127.cell 0 rfl 4 rfl, hS127.cell 0 rfl 5 rfl, hS127.cell 0 rfl 6 rfl, hS127.cell 0 rfl 7 rfl, hS127.cell 0 rfl 8 rfl, hS127.cell 6 rfl 0 rfl, hS127.cell 6 rfl 1 rfl, hS127.cell 6 rfl 2 rfl, hS127.cell 6 rfl 3 rfl, hS127.cell 6 rfl 4 rfl, hS127.cell 6 rfl 5 rfl, hS127.cell 6 rfl 6 rfl, hS127.cell 6 rfl 7 rfl, nrow_cell (hS127.rd 1).1 none h128.1 h128.2 0 (mapV_some hm130), hS127.cell 0 rfl 9 rfl, hS127.cell 0 rfl 10 rfl, hS127.cell 0 rfl 11 rfl, hS127.cell 0 rfl 12 rfl, hS127.cell 0 rfl 13 rfl, hS127.cell 0 rfl 14 rfl, hS127.cell 0 rfl 15 rfl, hS127.cell 0 rfl 16 rfl, trivial⟩, forallC ?_ (forallN)⟩
            refine segF 5 [.v (iv (((rdD t12 x107 z_Row).South).e0)), .v (iv (((rdD t12 x107 z_Row).South).e1)), .v (iv (((rdD t12 x107 z_Row).South).e2)), .v (iv (((rdD t12 x107 z_Row).South).e3)), .v (iv (((rdD t12 x107 z_Row).South).e4)), .v (iv (((rdD t12 x107 z_Row).South).e5)), .v (iv (((rdD t12 x107 z_Row).South).e6)), .v (iv (((rdD t12 x107 z_Row).South).e7)), .v (iv a96.e0), .v (iv a96.e1), .v (iv a96.e2), .v (iv a96.e3), .v (iv a96.e4), .v (iv a96.e5), .v (iv a96.e6), .v (iv a96.e7)] [6, 8, 10, 13, 15, 16, 18, 74, 75, 76, 84] [(6, (pt g9)), (8, (sv A17 t12 c18)), (10, (pt g24)), (13, (sv A48 x51.2 c49)), (15, (pt g88)), (16, (iv x97)), (18, (pt g118)), (74, (sv A17 t12 c18)), (75, (iv (t12.length : Int))), (76, (iv x107)), (84, (bv ((((rdD t12 x107 z_Row).South).e0) == a96.e0 && ((((rdD t12 x107 z_Row).South).e1) == a96.e1 && ((((rdD t12 x107 z_Row).South).e2) == a96.e2 && ((((rdD t12 x107 z_Row).South).e3) == a96.e3 && ((((rdD t12 x107 z_Row).South).e4) == a96.e4 && ((((rdD t12 x107 z_Row).South).e5) == a96.e5 && ((((rdD t12 x107 z_Row).South).e6) == a96.e6 && ((((rdD t12 x107 z_Row).South).e7) == a96.e7))))))))))] [] [0, 1, 2, 3, 4, 5, 6, 7, 8, 9, 10, 11, 12, 13, 14, 15] [(1, ⟨g118, 1, none⟩, (iv (((rdD t12 x107 z_Row).South).e0))), (1, ⟨g118, 2, none⟩, (iv (((rdD t12 x107 z_Row).South).e1))), (1, ⟨g118, 3, none⟩, (iv (((rdD t12 x107 z_Row).South).e2))), (1, ⟨g118, 4, none⟩, (iv (((rdD t12 x107 z_Row).South).e3))), (1, ⟨g118, 5, none⟩, (iv (((rdD t12 x107 z_Row).South).e4))), (1, ⟨g118, 6, none⟩, (iv (((rdD t12 x107 z_Row).South).e5))), (1, ⟨g118, 7, none⟩, (iv (((rdD t12 x107 z_Row).South).e6))), (1, ⟨g118, 8, none⟩, (iv (((rdD t12 x107 z_Row).South).e7))), (2, ⟨g88, 0, none⟩, (iv a96.e0)), (2, ⟨g88, 1, none⟩, (iv a96.e1)), (2, ⟨g88, 2, none⟩, (iv a96.e2)), (2, ⟨g88, 3, none⟩, (iv a96.e3)), (2, ⟨g88, 4, none⟩, (iv a96.e4)), (2, ⟨g88, 5, none⟩, (iv a96.e5)), (2, ⟨g88, 6, none⟩, (iv a96.e6)), (2, ⟨g88, 7, none⟩, (iv a96.e7))] (fun fb => by kernel_rfl) rfl trivial rfl ?_
            refine WL.setB 84 h125 rfl ?_
            refine segF 11 [.v (.map (some (H50 x97.toNat))), .v (iv (((rdD t12 x107 z_Row).North).e0)), .v (iv (((rdD t12 x107 z_Row).North).e1)), .v (iv (((rdD t12 x107 z_Row).North).e2)), .v (iv (((rdD t12 x107 z_Row).North).e3)), .v (iv (((rdD t12 x107 z_Row).North).e4)), .v (iv (((rdD t12 x107 z_Row).North).e5)), .v (iv (((rdD t12 x107 z_Row).North).e6)), .v (iv (((rdD t12 x107 z_Row).North).e7))] [6, 8, 10, 13, 15, 16, 18, 74, 75, 76, 84, 88, 90] [(6, (pt g9)), (8, (sv A17 t12 c18)), (10, (pt g24)), (13, (sv A48 x51.2 c49)), (15, (pt g88)), (16, (iv x97)), (18, (pt g118)), (74, (sv A17 t12 c18)), (75, (iv (t12.length : Int))), (76, (iv x107)), (84, (bv true)), (88, (.map (some (H50 x97.toNat)))), (90, (.agg #[(iv (((rdD t12 x107 z_Row).North).e0)), (iv (((rdD t12 x107 z_Row).North).e1)), (iv (((rdD t12 x107 z_Row).North).e2)), (iv (((rdD t12 x107 z_Row).North).e3)), (iv (((rdD t12 x107 z_Row).North).e4)), (iv (((rdD t12 x107 z_Row).North).e5)), (iv (((rdD t12 x107 z_Row).North).e6)), (iv (((rdD t12 x107 z_Row).North).e7))]))] [.idx A48 x97 x51.2.length] [16, 17, 18, 19, 20, 21, 22, 23, 24] [(8, ((adr A48).add ((x97).toNat * 1)), (.map (some (H50 x97.toNat)))), (10, ⟨g118, 9, none⟩, (iv (((rdD t12 x107 z_Row).North).e0))), (10, ⟨g118, 10, none⟩, (iv (((rdD t12 x107 z_Row).North).e1))), (10, ⟨g118, 11, none⟩, (iv (((rdD t12 x107 z_Row).North).e2))), (10, ⟨g118, 12, none⟩, (iv (((rdD t12 x107 z_Row).North).e3))), (10, ⟨g118, 13, none⟩, (iv (((rdD t12 x107 z_Row).North).e4))), (10, ⟨g118, 14, none⟩, (iv (((rdD t12 x107 z_Row).North).e5))), (10, ⟨g118, 15, none⟩, (iv (((rdD t12 x107 z_Row).North).e6))), (10, ⟨g118, 16, none⟩, (iv (((rdD t12 x107 z_Row).North).e7)))] (fun fb => by kernel_rfl) rfl ⟨nrow_adr (hS127.rd 1).1 h128.1 h128.2, trivial⟩ rfl ?_
            refine WL.lookup (mapsO.at (hS127.rd 2).1 h128.1 h128.2 hm130) ((rdD t12 x107 z_Row).North) (d := 91) (c := false) (t := 91) (kT := 83) (eT := 4) (z := false) (kE := (aggI ints_A8_Int)) (vE := vB) (l := m129) (bv (mget ((rdD t12 x107 z_Row).North) false m129)) (fun fb => by kernel_rfl) torus_find_key83 (by kernel_rfl) (fun _ => by kernel_rfl) rfl ?_
            refine ⟨trivial, ?_⟩
            refine seg 13 [] [6, 8, 10, 13, 15, 16, 18, 74, 75, 76, 92] [(6, (pt g9)), (8, (sv A17 t12 c18)), (10, (pt g24)), (13, (sv A48 x51.2 c49)), (15, (pt g88)), (16, (iv x97)), (18, (pt g118)), (74, (sv A17 t12 c18)), (75, (iv (t12.length : Int))), (76, (iv x107)), (92, (bv (mget ((rdD t12 x107 z_Row).North) false m129)))] [] (fun fb => by kernel_rfl) rfl trivial ?_
            refine WL.done rfl ?_
            injection hx124 with hx124
            exact WX.to Kx123 (mget ((rdD t12 x107 z_Row).North) false m129) [6, 8, 10, 13, 15, 16, 18, 74, 75, 76, 92] rfl ⟨(hS127.subR [0, 1, 2, 3, 4, 5, 6, 7]).sub [1, 2, 3, 4, 5, 6, 0] (by decide), hx124.symm⟩
           refine WC.regionD ([(1, ⟨g118, 1, none⟩, (iv (((rdD t12 x107 z_Row).South).e0))), (1, ⟨g118, 2, none⟩, (iv (((rdD t12 x107 z_Row).South).e1))), (1, ⟨g118, 3, none⟩, (iv (((rdD t12 x107 z_Row).South).e2))), (1, ⟨g118, 4, none⟩, (iv (((rdD t12 x107 z_Row).South).e3))), (1, ⟨g118, 5, none⟩, (iv (((rdD t12 x107 z_Row).South).e4))), (1, ⟨g118, 6, none⟩, (iv (((rdD t12 x107 z_Row).South).e5))), (1, ⟨g118, 7, none⟩, (iv (((rdD t12 x107 z_Row).South).e6))), (1, ⟨g118, 8, none⟩, (iv (((rdD t12 x107 z_Row).South).e7))), (2, ⟨g88, 0, none⟩, (iv a96.e0)), (2, ⟨g88, 1, none⟩, (iv a96.e1)), (2, ⟨g88, 2, none⟩, (iv a96.e2)), (2, ⟨g88, 3, none⟩, (iv a96.e3)), (2, ⟨g88, 4, none⟩, (iv a96.e4)), (2, ⟨g88, 5, none⟩, (iv a96.e5)), (2, ⟨g88, 6, none⟩, (iv a96.e6)), (2, ⟨g88, 7, none⟩, (iv a96.e7))], [0, 1, 2, 3, 4, 5, 6, 7, 8, 9, 10, 12], [[], [0], [], [0, 1, 2], [0, 1, 2, 3], [0, 1, 2, 3, 4], [0, 1, 2, 3, 4], [0, 1, 2, 3, 4, 5, 6], [0, 1, 2, 3, 4, 5, 6, 7], [0, 1, 2, 3, 4], [0, 1, 2, 3, 4, 9], [0, 1, 2, 3, 4, 5, 6, 7, 8, 9, 10], [0, 1, 2, 3, 4, 5, 6, 7, 8, 9, 10, 11]]) [[0, 1, 2, 3, 4, 5, 6, 7, 8, 9, 10, 11, 12]] (by kernel_rfl) (by kernel_rfl) (NoPanic.seq (NoPanic.block (NoPanic.seq (NoPanic.seq (NoPanic.block (NoPanic.scope (NoPanic.block (NoPanic.seq (NoPanic.seq (NoPanic.block (NoPanic.seq (NoPanic.block (NoPanic.seq (NoPanic.seq (NoPanic.block (NoPanic.seq (NoPanic.scope (NoPanic.body)))))))))))))))))) ?_
           have hS132 := hS122.drew
           revert hS132
           generalize World.drew w121 = w131
           intro hS132
           refine ⟨⟨hS132.cell 0 rfl 1 rfl, hS132.cell 0 rfl 2 rfl, hS132.cell 0 rfl 3 rfl, hS132.cell 0 rfl 4 rfl, hS132.cell 0 rfl 5 rfl, hS132.cell 0 rfl 6 rfl, hS132.cell 0 rfl 7 rfl, hS132.cell 0 rfl 8 rfl, hS132.cell 6 rfl 0 rfl, hS132.cell 6 rfl 1 rfl, hS132.cell 6 rfl 2 rfl, hS132.cell 6 rfl 3 rfl, hS132.cell 6 rfl 4 rfl, hS132.cell 6 rfl 5 rfl, hS132.cell 6 rfl 6 rfl, hS132.cell 6 rfl 7 rfl, trivial⟩, forallC ?_ (forallN)⟩
           refine segF 5 [.v (iv (((rdD t12 x107 z_Row).South).e0)), .v (iv (((rdD t12 x107 z_Row).South).e1)), .v (iv (((rdD t12 x107 z_Row).South).e2)), .v (iv (((rdD t12 x107 z_Row).South).e3)), .v (iv (((rdD t12 x107 z_Row).South).e4)), .v (iv (((rdD t12 x107 z_Row).South).e5)), .v (iv (((rdD t12 x107 z_Row).South).e6)), .v (iv (((rdD t12 x107 z_Row).South).e7)), .v (iv a96.e0), .v (iv a96.e1), .v (iv a96.e2), .v (iv a96.e3), .v (iv a96.e4), .v (iv a96.e5), .v (iv a96.e6), .v (iv a96.e7)] [6, 8, 10, 13, 15, 16, 18, 74, 75, 76, 84] [(6, (pt g9)), (8, (sv A17 t12 c18)), (10, (pt g24)), (13, (sv A48 x51.2 c49)), (15, (pt g88)), (16, (iv x97)), (18, (pt g118)), (74, (sv A17 t12 c18)), (75, (iv (t12.length : Int))), (76, (iv x107)), (84, (bv ((((rdD t12 x107 z_Row).South).e0) == a96.e0 && ((((rdD t12 x107 z_Row).South).e1) == a96.e1 && ((((rdD t12 x107 z_Row).South).e2) == a96.e2 && ((((rdD t12 x107 z_Row).South).e3) == a96.e3 && ((((rdD t12 x107 z_Row).South).e4) == a96.e4 && ((((rdD t12 x107 z_Row).South).e5) == a96.e5 && ((((rdD t12 x107 z_Row).South).e6) == a96.e6 && ((((rdD t12 x107 z_Row).South).e7) == a96.e7))))))))))] [] [0, 1, 2, 3, 4, 5, 6, 7, 8, 9, 10, 11, 12, 13, 14, 15] [(1, ⟨g118, 1, none⟩, (iv (((rdD t12 x107 z_Row).South).e0))), (1, ⟨g118, 2, none⟩, (iv (((rdD t12 x107 z_Row).South).e1))), (1, ⟨g118, 3, none⟩, (iv (((rdD t12 x107 z_Row).South).e2))), (1, ⟨g118, 4, none⟩, (iv (((rdD t12 x107 z_Row).South).e3))), (1, ⟨g118, 5, none⟩, (iv (((rdD t12 x107 z_Row).South).e4))), (1, ⟨g118, 6, none⟩, (iv (((rdD t12 x107 z_Row).South).e5))), (1, ⟨g118, 7, none⟩, (iv (((rdD t12 x107 z_Row).South).e6))), (1, ⟨g118, 8, none⟩, (iv (((rdD t12 x107 z_Row).South).e7))), (2, ⟨g88, 0, none⟩, (iv a96.e0)), (2, ⟨g88, 1, none⟩, (iv a96.e1)), (2, ⟨g88, 2, none⟩, (iv a96.e2)), (2, ⟨g88, 3, none⟩, (iv a96.e3)), (2, ⟨g88, 4, none⟩, (iv a96.e4)), (2, ⟨g88, 5, none⟩, (iv a96.e5)), (2, ⟨g88, 6, none⟩, (iv a96.e6)), (2, ⟨g88, 7, none⟩, (iv a96.e7))] (fun fb => by kernel_rfl) rfl trivial rfl ?_
           refine WL.setB 84 h125 rfl ?_
           refine seg 13 [] [6, 8, 10, 13, 15, 16, 18, 74, 75, 76, 92] [(6, (pt g9)), (8, (sv A17 t12 c18)), (10, (pt g24)), (13, (sv A48 x51.2 c49)), (15, (pt g88)), (16, (iv x97)), (18, (pt g118)), (74, (sv A17 t12 c18)), (75, (iv (t12.length : Int))), (76, (iv x107)), (92, (bv false))] [] (fun fb => by kernel_rfl) rfl trivial ?_
           refine WL.done rfl ?_
           injection hx124 with hx124
           exact WX.to Kx123 false [6, 8, 10, 13, 15, 16, 18, 74, 75, 76, 92] rfl ⟨(hS132.subR [0, 1, 2, 3, 4, 5, 6, 7]).sub [1, 2, 3, 4, 5, 6, 0] (by decide), hx124.symm⟩
          rintro y136 w133 ⟨hS134, hq135⟩
          subst hq135
          refine WX.next ?_
          rcases br_some hl115 with ⟨h137, hl115⟩ | ⟨h137, hl115⟩
          ·refine WC.condT2 (fun fb => by kernel_rfl) h137 ?_
           refine WC.seq ?_
           refine WC.region ?_
           refine seg 4 [.v (sv A93 l95 c94), .v (sv ((H19 x107.toNat 0).1) ((rdD t12 x107 z_Row).Cells) ((H19 x107.toNat 0).2))] [6, 8, 10, 13, 15, 16, 18, 94, 96] [(6, (pt g9)), (8, (sv A17 t12 c18)), (10, (pt g24)), (13, (sv A48 x51.2 c49)), (15, (pt g88)), (16, (iv x97)), (18, (pt g118)), (94, (sv A93 l95 c94)), (96, (sv ((H19 x107.toNat 0).1) ((rdD t12 x107 z_Row).Cells) ((H19 x107.toNat 0).2)))] [.cell ⟨g24, 2, none⟩ (sv A93 l95 c94), .cell ⟨g118, 0, none⟩ (sv ((H19 x107.toNat 0).1) ((rdD t12 x107 z_Row).Cells) ((H19 x107.toNat 0).2))] (fun fb => by kernel_rfl) rfl ⟨hS134.cell 3 rfl 2 rfl, hS134.cell 6 rfl 0 rfl, trivial⟩ ?_
           obtain ⟨h138, hl115⟩ := as_some hl115
           refine WL.append hS134 4 (d := 97) (tS := 25) (z := (iv 0)) (bytes := 8) (c2 := (H19 x107.toNat 0).2) rfl (fun fb => by kernel_rfl) (nestO.at ((hS134.own 2).1 0) z_Row h117.1 h117.2) (by kernel_rfl) (by kernel_rfl) rfl (by decide) h138 (by decide) [0, 1, 2, 3, 5, 6] (by decide) (by decide) (fun A139 c140 w141 hS142 => ?_)
           refine ⟨trivial, ?_⟩
           refine seg 6 [] [6, 8, 10, 13, 15, 16, 18, 97, 98] [(6, (pt g9)), (8, (sv A17 t12 c18)), (10, (pt g24)), (13, (sv A48 x51.2 c49)), (15, (pt g88)), (16, (iv x97)), (18, (pt g118)), (97, (sv A139 (l95 ++ ((rdD t12 x107 z_Row).Cells)) c140)), (98, (.pointer (some ⟨g24, 2, none⟩)))] [] (fun fb => by kernel_rfl) rfl trivial ?_
           refine WL.store hS142 4 rfl [(2, (sv A139 (l95 ++ ((rdD t12 x107 z_Row).Cells)) c140))] #[(iv p1), (iv p2), (sv A139 (l95 ++ ((rdD t12 x107 z_Row).Cells)) c140)] (fun fb => by kernel_rfl) (by kernel_rfl) rfl [0, 1, 2, 3, 5, 6] (by decide) (by decide) (fun w143 hS144 => ?_)
           refine ⟨trivial, ?_⟩
           refine WL.done rfl ?_
           refine WX.next ?_
           refine WC.seq ?_
           refine WC.region ?_
           refine seg 2 [.v (iv (((rdD t12 x107 z_Row).North).e0)), .v (iv (((rdD t12 x107 z_Row).North).e1)), .v (iv (((rdD t12 x107 z_Row).North).e2)), .v (iv (((rdD t12 x107 z_Row).North).e3)), .v (iv (((rdD t12 x107 z_Row).North).e4)), .v (iv (((rdD t12 x107 z_Row).North).e5)), .v (iv (((rdD t12 x107 z_Row).North).e6)), .v (iv (((rdD t12 x107 z_Row).North).e7))] [6, 8, 10, 13, 15, 16, 100] [(6, (pt g9)), (8, (sv A17 t12 c18)), (10, (pt g24)), (13, (sv A48 x51.2 c49)), (15, (pt g88)), (16, (iv x97)), (100, (.agg #[(iv (((rdD t12 x107 z_Row).North).e0)), (iv (((rdD t12 x107 z_Row).North).e1)), (iv (((rdD t12 x107 z_Row).North).e2)), (iv (((rdD t12 x107 z_Row).North).e3)), (iv (((rdD t12 x107 z_Row).North).e4)), (iv (((rdD t12 x107 z_Row).North).e5)), (iv (((rdD t12 x107 z_Row).North).e6)), (iv (((rdD t12 x107 z_Row).North).e7))]))] [.cell ⟨g118, 9, none⟩ (iv (((rdD t12 x107 z_Row).North).e0)), .cell ⟨g118, 10, none⟩ (iv (((rdD t12 x107 z_Row).North).e1)), .cell ⟨g118, 11, none⟩ (iv (((rdD t12 x107 z_Row).North).e2)), .cell ⟨g118, 12, none⟩ (iv (((rdD t12 x107 z_Row).North).e3)), .cell ⟨g118, 13, none⟩ (iv (((rdD t12 x107 z_Row).North).e4)), .cell ⟨g118, 14, none⟩ (iv (((rdD t12 x107 z_Row).North).e5)), .cell ⟨g118, 15, none⟩ (iv (((rdD t12 x107 z_Row).North).e6)), .cell ⟨g118, 16, none⟩ (iv (((rdD t12 x107 z_Row).North).e7))] (fun fb => by kernel_rfl) rfl ⟨hS144.cell 6 rfl 9 rfl, hS144.cell 6 rfl 10 rfl, hS144.cell 6 rfl 11 rfl, hS144.cell 6 rfl 12 rfl, hS144.cell 6 rfl 13 rfl, hS144.cell 6 rfl 14 rfl, hS144.cell 6 rfl 15 rfl, hS144.cell 6 rfl 16 rfl, trivial⟩ ?_
           refine WL.store hS144 5 rfl [(0, (iv (((rdD t12 x107 z_Row).North).e0))), (1, (iv (((rdD t12 x107 z_Row).North).e1))), (2, (iv (((rdD t12 x107 z_Row).North).e2))), (3, (iv (((rdD t12 x107 z_Row).North).e3))), (4, (iv (((rdD t12 x107 z_Row).North).e4))), (5, (iv (((rdD t12 x107 z_Row).North).e5))), (6, (iv (((rdD t12 x107 z_Row).North).e6))), (7, (iv (((rdD t12 x107 z_Row).North).e7)))] #[(iv (((rdD t12 x107 z_Row).North).e0)), (iv (((rdD t12 x107 z_Row).North).e1)), (iv (((rdD t12 x107 z_Row).North).e2)), (iv (((rdD t12 x107 z_Row).North).e3)), (iv (((rdD t12 x107 z_Row).North).e4)), (iv (((rdD t12 x107 z_Row).North).e5)), (iv (((rdD t12 x107 z_Row).North).e6)), (iv (((rdD t12 x107 z_Row).North).e7))] (fun fb => by kernel_rfl) (by kernel_rfl) rfl [0, 1, 2, 3, 4, 6] (by decide) (by decide) (fun w145 hS146 => ?_)
           refine ⟨trivial, ?_⟩
           refine WL.done rfl ?_
           refine WX.next ?_
           refine WC.exit ?_
           injection hl115 with hl115
           exact WX.blockPast (by decide) (WX.thenX (WX.thenX (WX.blockHere (WX.to Kx110 ((l95 ++ ((rdD t12 x107 z_Row).Cells), ((rdD t12 x107 z_Row).North)), A139, c140) [6, 8, 10, 13, 15, 16] rfl ⟨(hS146.subR [0, 1, 2, 3, 4, 5, 6, 7]).sub [3, 4, 5, 1, 2, 0] (by decide), hl115.symm⟩))))
          refine WC.condF2 (fun fb => by kernel_rfl) h137 ?_
          refine WC.skip ?_
          refine WX.blockN (WX.next ?_)
          refine WC.region ?_
          refine seg 2 [] [6, 8, 10, 13, 15, 16, 74, 75, 76] [(6, (pt g9)), (8, (sv A17 t12 c18)), (10, (pt g24)), (13, (sv A48 x51.2 c49)), (15, (pt g88)), (16, (iv x97)), (74, (sv A17 t12 c18)), (75, (iv (t12.length : Int))), (76, (iv (w64 (x107 + 1))))] [] (fun fb => by kernel_rfl) rfl trivial ?_
          refine WL.done rfl ?_
          exact WX.again k112 (Nat.lt_succ_self _) (w64 (x107 + 1)) [6, 8, 10, 13, 15, 16, 74, 75, 76] rfl ⟨(hS134.subR [0, 1, 2, 3, 4, 5, 6, 7]).sub [0, 1, 2, 3, 4, 5] (by decide), hl115⟩
         refine WC.condF2 (fun fb => by kernel_rfl) h116 ?_
         refine WC.exit ?_
         injection hl115 with hl115
         exact WX.thenX (WX.thenX (WX.blockHere (WX.to Kx110 ((l95, a96), A93, c94) [6, 8, 10, 13, 15, 16] rfl ⟨(hS114.subR [0, 1, 2, 3, 4, 5, 6, 7]).sub [0, 1, 2, 3, 4, 5] (by decide), hl115.symm⟩)))
       rintro ⟨y150, A108, c109⟩ w147 ⟨hS148, hq149⟩
       subst hq149
       refine WX.scopeN (WX.blockN (WX.next ?_))
       refine WC.region ?_
       refine seg 3 [] [6, 8, 10, 13, 15, 16] [(6, (pt g9)), (8, (sv A17 t12 c18)), (10, (pt g24)), (13, (sv A48 x51.2 c49)), (15, (pt g88)), (16, (iv (w64 (x97 - 1))))] [] (fun fb => by kernel_rfl) rfl trivial ?_
       refine WL.done rfl ?_
       exact WX.again k102 (Nat.lt_succ_self _) ((x110.1, x110.2, w64 (x97 - 1)), A108, c109) [6, 8, 10, 13, 15, 16] rfl ⟨(hS148.subR [0, 1, 2, 3, 4, 5, 6, 7]).sub [0, 1, 2, 3, 4, 5] (by decide), hl105⟩
      refine WC.condF2 (fun fb => by kernel_rfl) h106 ?_
      refine WC.exit ?_
      injection hl105 with hl105
      exact WX.thenX (WX.thenX (WX.blockHere (WX.to Kx100 (l95, A93, c94) [6, 10] rfl ⟨(hS104.subR [0, 1, 2, 3, 4, 5, 6, 7]).sub [0, 3, 4] (by decide), hl105.symm⟩)))
    rintro ⟨y154, A98, c99⟩ w151 ⟨hS152, hq153⟩
    subst hq153
    refine WX.next ?_
    refine WC.seq ?_
    refine WC.region ?_
    refine seg 1 [.v (iv p1), .v (iv p2), .v (sv A98 x100 c99)] [6, 102] [(6, (pt g9)), (102, (.agg #[(iv p1), (iv p2), (sv A98 x100 c99)]))] [.cell ⟨g24, 0, none⟩ (iv p1), .cell ⟨g24, 1, none⟩ (iv p2), .cell ⟨g24, 2, none⟩ (sv A98 x100 c99)] (fun fb => by kernel_rfl) rfl ⟨hS152.cell 1 rfl 0 rfl, hS152.cell 1 rfl 1 rfl, hS152.cell 1 rfl 2 rfl, trivial⟩ ?_
    refine WL.store hS152 0 rfl [(0, (iv p1)), (1, (iv p2)), (2, (sv A98 x100 c99))] #[(iv p1), (iv p2), (sv A98 x100 c99)] (fun fb => by kernel_rfl) (by kernel_rfl) rfl [1, 2] (by decide) (by decide) (fun w155 hS156 => ?_)
    refine ⟨trivial, ?_⟩
    refine seg 3 [] [6, 7] [(6, (pt g9)), (7, (bv true))] [] (fun fb => by kernel_rfl) rfl trivial ?_
    refine WL.done rfl ?_
    refine WX.next ?_
    refine WC.ret ?_
    injection hl37 with hl37
    subst hl37
    injection hf with hf
    subst hf
    exact WX.blockR (WX.thenR (WX.thenR (WX.blockR (WX.thenR (WX.scopeR (WX.ret_ [.v (iv p1), .v (iv p2), .v (sv A98 x100 c99)] (.tuple #[(.agg #[(iv p1), (iv p2), (sv A98 x100 c99)]), (bv true)]) [.cell ⟨g9, 0, none⟩ (iv p1), .cell ⟨g9, 1, none⟩ (iv p2), .cell ⟨g9, 2, none⟩ (sv A98 x100 c99)] (fun fb => by kernel_rfl) ⟨hS156.cell 0 rfl 0 rfl, hS156.cell 0 rfl 1 rfl, hS156.cell 0 rfl 2 rfl, trivial⟩ ⟨_, rfl, A98, c99, rfl, (hS156.sub [2] (by decide)).noR⟩))))))
   refine WC.condF2 (fun fb => by kernel_rfl) h38 ?_
   refine WC.exit ?_
   injection hl37 with hl37
   exact WX.thenX (WX.thenX (WX.blockHere (WX.to Kx32 () [6] rfl ⟨(hS36.subR [1, 2]).sub [0] (by decide), hl37.symm⟩)))
 rintro y160 w157 ⟨hS158, hq159⟩
 subst hq159
 have hf := sum_inr hf
 refine WX.next ?_
 refine WC.seq ?_
 refine WC.region ?_
 refine seg 1 [] [6, 104] [(6, (pt g9)), (104, (.agg #[(iv 0), (iv 0), (.slice none 0 0)]))] [] (fun fb => by kernel_rfl) rfl trivial ?_
 refine WL.store hS158 0 rfl [(0, (iv 0)), (1, (iv 0)), (2, (.slice none 0 0))] #[(iv 0), (iv 0), (.slice none 0 0)] (fun fb => by kernel_rfl) (by kernel_rfl) rfl [] (by decide) (by decide) (fun w161 hS162 => ?_)
 refine ⟨trivial, ?_⟩
 refine seg 3 [] [6, 7] [(6, (pt g9)), (7, (bv false))] [] (fun fb => by kernel_rfl) rfl trivial ?_
 refine WL.done rfl ?_
 refine WX.next ?_
 refine WC.ret ?_
 have hS163 := hS162.nilrow 3 encInt
 injection hf with hf
 subst hf
 exact WX.scopeR (WX.ret_ [.v (iv 0), .v (iv 0), .v (.slice none 0 0)] (.tuple #[(.agg #[(iv 0), (iv 0), (sv none ([] : List Int) 0)]), (bv false)]) [.cell ⟨g9, 0, none⟩ (iv 0), .cell ⟨g9, 1, none⟩ (iv 0), .cell ⟨g9, 2, none⟩ (.slice none 0 0)] (fun fb => by kernel_rfl) ⟨hS162.cell 0 rfl 0 rfl, hS162.cell 0 rfl 1 rfl, hS162.cell 0 rfl 2 rfl, trivial⟩ ⟨_, rfl, none, 0, rfl, (hS163.sub [0] (by decide)).noR⟩)
theorem torus_Least_calls (k : Nat) (p0 : List Tile) (p1 : Int) (A_p0 : Option Addr) (c_p0 : Nat) (r : Pattern × Int) (w : World) (hR0 : RO NoS w (rowR enc_Tile A_p0 c_p0 p0)) (hf : torus_Least k p0 p1 = some r) :
  CallsR Tryd.prog 22 #[(sv A_p0 p0 c_p0), (iv p1)] w (fun v w' => ∃ (A1_ : Option Addr), ∃ (c1_ : Nat), v = (.tuple #[(.agg #[(iv r.1.Width), (iv r.1.Height), (sv A1_ r.1.Cells c1_)]), (iv r.2)]) ∧ St NoS w w' [] [rowO 3 encInt A1_ c1_ r.1.Cells]) := by
 have hS : St NoS w w [rowR enc_Tile A_p0 c_p0 p0] [] := St.init (ro_cons hR0 (ro_nil _ _))
 refine enter 61 Tryd.func22 rfl Tryd.ntmps22 rfl ?_
 unfold torus_Least at hf
 refine WC.seq ?_
 refine WC.region ?_
 refine WL.new hS 4 [] (fun g => (pt g)) (.cells #[(iv 0), (iv 0), (.slice none 0 0)] 27 (0, 0)) [] (fun fb g => by kernel_rfl) trivial (fun g3 w4 hS5 => ?_)
 refine ⟨trivial, ?_⟩
 refine seg 2 [] [0, 1, 4] [(0, (sv A_p0 p0 c_p0)), (1, (iv p1)), (4, (pt g3))] [] (fun fb => by kernel_rfl) rfl trivial ?_
 refine WL.done rfl ?_
 refine WX.next ?_
 refine WC.seq ?_
 refine WC.seq ?_
 refine WC.region ?_
 refine seg 1 [] [0, 1, 4, 10] [(0, (sv A_p0 p0 c_p0)), (1, (iv p1)), (4, (pt g3)), (10, (sv A_p0 p0 c_p0))] [] (fun fb => by kernel_rfl) rfl trivial ?_
 obtain ⟨t6, ht7, hf⟩ := bind_some hf
 refine WL.call (some 11) 52 #[(sv A_p0 p0 c_p0)] (fun fb => by kernel_rfl) (tile_Valid_calls _ p0 A_p0 c_p0 t6 _ (hS5.rd 0) ht7) (fun v w8 hR9 => ?_)
 obtain ⟨rfl, hk_⟩ := hR9
 have hS10 := hS5.keepN hk_
 refine ⟨trivial, ?_⟩
 refine seg 3 [] [0, 1, 4, 12] [(0, (sv A_p0 p0 c_p0)), (1, (iv p1)), (4, (pt g3)), (12, (bv (!t6)))] [] (fun fb => by kernel_rfl) rfl trivial ?_
 refine WL.done rfl ?_
 refine WX.next ?_
 rcases br_some hf with ⟨h11, hf⟩ | ⟨h11, hf⟩
 ·refine WC.condT2 (fun fb => by kernel_rfl) h11 ?_
  refine WC.seq ?_
  refine WC.region ?_
  refine seg 1 [] [4, 13] [(4, (pt g3)), (13, (.agg #[(iv 0), (iv 0), (.slice none 0 0)]))] [] (fun fb => by kernel_rfl) rfl trivial ?_
  refine WL.store hS10 0 rfl [(0, (iv 0)), (1, (iv 0)), (2, (.slice none 0 0))] #[(iv 0), (iv 0), (.slice none 0 0)] (fun fb => by kernel_rfl) (by kernel_rfl) rfl [] (by decide) (by decide) (fun w12 hS13 => ?_)
  refine ⟨trivial, ?_⟩
  refine seg 3 [] [4, 5] [(4, (pt g3)), (5, (iv 1))] [] (fun fb => by kernel_rfl) rfl trivial ?_
  refine WL.done rfl ?_
  refine WX.next ?_
  refine WC.ret ?_
  have hS14 := hS13.nilrow 3 encInt
  injection hf with hf
  subst hf
  exact WX.thenR (WX.ret_ [.v (iv 0), .v (iv 0), .v (.slice none 0 0)] (.tuple #[(.agg #[(iv 0), (iv 0), (sv none ([] : List Int) 0)]), (iv 1)]) [.cell ⟨g3, 0, none⟩ (iv 0), .cell ⟨g3, 1, none⟩ (iv 0), .cell ⟨g3, 2, none⟩ (.slice none 0 0)] (fun fb => by kernel_rfl) ⟨hS13.cell 0 rfl 0 rfl, hS13.cell 0 rfl 1 rfl, hS13.cell 0 rfl 2 rfl, trivial⟩ ⟨_, rfl, none, 0, rfl, (hS14.sub [0] (by decide)).noR⟩)
 refine WC.condF2 (fun fb => by kernel_rfl) h11 ?_
 refine WC.skip ?_
 refine WX.next ?_
 refine WC.seq ?_
 refine WC.seq ?_
 refine WC.region ?_
 refine seg 3 [] [0, 1, 4, 16] [(0, (sv A_p0 p0 c_p0)), (1, (iv p1)), (4, (pt g3)), (16, (bv (decide (p1 < 1))))] [] (fun fb => by kernel_rfl) rfl trivial ?_
 refine WL.cutV (T := Bool) 6 (fun t => [(19, (bv t)), (0, (sv A_p0 p0 c_p0)), (1, (iv p1)), (4, (pt g3))]) (fun t => ((decide (p1 < 1)) || (decide (p1 > 6))) = t) (fun K => ?_) ?_
 ·
  rcases Bool.eq_false_or_eq_true (decide (p1 < 1)) with h15 | h15
  ·
   refine WL.setB 16 h15 rfl ?_
   refine seg 6 [] [0, 1, 4, 19] [(0, (sv A_p0 p0 c_p0)), (1, (iv p1)), (4, (pt g3)), (19, (bv true))] [] (fun fb => by kernel_rfl) rfl trivial ?_
   exact WL.toV K true [19, 0, 1, 4] rfl (by first | (rw [h15]; done) | (rw [h15]; rfl))
  refine WL.setB 16 h15 rfl ?_
  refine seg 6 [] [0, 1, 4, 19] [(0, (sv A_p0 p0 c_p0)), (1, (iv p1)), (4, (pt g3)), (19, (bv (decide (p1 > 6))))] [] (fun fb => by kernel_rfl) rfl trivial ?_
  exact WL.toV K (decide (p1 > 6)) [19, 0, 1, 4] rfl (by first | (rw [h15]; done) | (rw [h15]; rfl))
 rintro b16 rfl
 refine WL.done rfl ?_
 refine WX.next ?_
 rcases br_some hf with ⟨h17, hf⟩ | ⟨h17, hf⟩
 ·refine WC.condT2 (fun fb => by kernel_rfl) h17 ?_
  refine WC.seq ?_
  refine WC.region ?_
  refine seg 1 [] [4, 20] [(4, (pt g3)), (20, (.agg #[(iv 0), (iv 0), (.slice none 0 0)]))] [] (fun fb => by kernel_rfl) rfl trivial ?_
  refine WL.store hS10 0 rfl [(0, (iv 0)), (1, (iv 0)), (2, (.slice none 0 0))] #[(iv 0), (iv 0), (.slice none 0 0)] (fun fb => by kernel_rfl) (by kernel_rfl) rfl [] (by decide) (by decide) (fun w18 hS19 => ?_)
  refine ⟨trivial, ?_⟩
  refine seg 3 [] [4, 5] [(4, (pt g3)), (5, (iv 2))] [] (fun fb => by kernel_rfl) rfl trivial ?_
  refine WL.done rfl ?_
  refine WX.next ?_
  refine WC.ret ?_
  have hS20 := hS19.nilrow 3 encInt
  injection hf with hf
  subst hf
  exact WX.thenR (WX.ret_ [.v (iv 0), .v (iv 0), .v (.slice none 0 0)] (.tuple #[(.agg #[(iv 0), (iv 0), (sv none ([] : List Int) 0)]), (iv 2)]) [.cell ⟨g3, 0, none⟩ (iv 0), .cell ⟨g3, 1, none⟩ (iv 0), .cell ⟨g3, 2, none⟩ (.slice none 0 0)] (fun fb => by kernel_rfl) ⟨hS19.cell 0 rfl 0 rfl, hS19.cell 0 rfl 1 rfl, hS19.cell 0 rfl 2 rfl, trivial⟩ ⟨_, rfl, none, 0, rfl, (hS20.sub [0] (by decide)).noR⟩)
 refine WC.condF2 (fun fb => by kernel_rfl) h17 ?_
 refine WC.skip ?_
 refine WX.next ?_
 refine WC.seq ?_
 refine WC.seq ?_
 refine WC.region ?_
 refine seg 2 [] [0, 1, 4, 21, 22] [(0, (sv A_p0 p0 c_p0)), (1, (iv p1)), (4, (pt g3)), (21, (sv A_p0 p0 c_p0)), (22, (iv p1))] [] (fun fb => by kernel_rfl) rfl trivial ?_
 obtain ⟨t21, ht23, hf⟩ := bind_some hf
 refine WL.call (some 23) 53 #[(sv A_p0 p0 c_p0), (iv p1)] (fun fb => by kernel_rfl) (rows_Few_calls _ p0 p1 A_p0 c_p0 t21 _ (hS10.rd 0) ht23) (fun v w24 hR25 => ?_)
 obtain ⟨rfl, hk_⟩ := hR25
 have hS26 := hS10.keepN hk_
 refine ⟨trivial, ?_⟩
 refine seg 4 [] [0, 1, 4, 24] [(0, (sv A_p0 p0 c_p0)), (1, (iv p1)), (4, (pt g3)), (24, (bv (!t21)))] [] (fun fb => by kernel_rfl) rfl trivial ?_
 refine WL.done rfl ?_
 refine WX.next ?_
 rcases br_some hf with ⟨h27, hf⟩ | ⟨h27, hf⟩
 ·refine WC.condT2 (fun fb => by kernel_rfl) h27 ?_
  refine WC.seq ?_
  refine WC.region ?_
  refine seg 1 [] [4, 25] [(4, (pt g3)), (25, (.agg #[(iv 0), (iv 0), (.slice none 0 0)]))] [] (fun fb => by kernel_rfl) rfl trivial ?_
  refine WL.store hS26 0 rfl [(0, (iv 0)), (1, (iv 0)), (2, (.slice none 0 0))] #[(iv 0), (iv 0), (.slice none 0 0)] (fun fb => by kernel_rfl) (by kernel_rfl) rfl [] (by decide) (by decide) (fun w28 hS29 => ?_)
  refine ⟨trivial, ?_⟩
  refine seg 3 [] [4, 5] [(4, (pt g3)), (5, (iv 4))] [] (fun fb => by kernel_rfl) rfl trivial ?_
  refine WL.done rfl ?_
  refine WX.next ?_
  refine WC.ret ?_
  have hS30 := hS29.nilrow 3 encInt
  injection hf with hf
  subst hf
  exact WX.thenR (WX.ret_ [.v (iv 0), .v (iv 0), .v (.slice none 0 0)] (.tuple #[(.agg #[(iv 0), (iv 0), (sv none ([] : List Int) 0)]), (iv 4)]) [.cell ⟨g3, 0, none⟩ (iv 0), .cell ⟨g3, 1, none⟩ (iv 0), .cell ⟨g3, 2, none⟩ (.slice none 0 0)] (fun fb => by kernel_rfl) ⟨hS29.cell 0 rfl 0 rfl, hS29.cell 0 rfl 1 rfl, hS29.cell 0 rfl 2 rfl, trivial⟩ ⟨_, rfl, none, 0, rfl, (hS30.sub [0] (by decide)).noR⟩)
 refine WC.condF2 (fun fb => by kernel_rfl) h27 ?_
 refine WC.skip ?_
 refine WX.next ?_
 refine WC.seq ?_
 refine WC.seq ?_
 refine WC.region ?_
 refine seg 1 [] [0, 1, 4, 6] [(0, (sv A_p0 p0 c_p0)), (1, (iv p1)), (4, (pt g3)), (6, (iv 1))] [] (fun fb => by kernel_rfl) rfl trivial ?_
 refine WL.done rfl ?_
 refine WX.next ?_
 obtain ⟨x32, hx33, hf⟩ := bind_some hf
 refine WC.cutN (T := Unit) (fun t => [(4, (pt g3))]) (fun t w1 => St NoS w w1 [rowR enc_Tile A_p0 c_p0 p0] [blk g3 (.cells #[(iv 0), (iv 0), (.slice none 0 0)] 27 (0, 0))] ∧ x32 = .inr t) (fun Kx32 => ?_) ?_
 ·
  refine WC.block ?_
  refine WC.loop (T := Int) (fun t => [(0, (sv A_p0 p0 c_p0)), (1, (iv p1)), (4, (pt g3)), (6, (iv t))]) (fun n t w1 => St NoS w w1 [rowR enc_Tile A_p0 c_p0 p0] [blk g3 (.cells #[(iv 0), (iv 0), (.slice none 0 0)] 27 (0, 0))] ∧ torus_Least.l0 n t p0 p1 = some x32) k 1 [0, 1, 4, 6] rfl ⟨(hS26.subR [0]).sub [0] (by decide), hx33⟩ ?_
  rintro k34 x31 w35 ⟨hS36, hl37⟩
  cases k34 with
  | zero => rw [torus_Least.l0] at hl37; cases hl37
  | succ k34 =>
   rw [torus_Least.l0] at hl37
   refine WC.seq ?_
   refine WC.seq ?_
   refine WC.region ?_
   refine seg 5 [] [0, 1, 4, 6, 30] [(0, (sv A_p0 p0 c_p0)), (1, (iv p1)), (4, (pt g3)), (6, (iv x31)), (30, (bv (decide (x31 ≤ w64 (p1 * p1)))))] [] (fun fb => by kernel_rfl) rfl trivial ?_
   refine WL.done rfl ?_
   refine WX.next ?_
   rcases br_some hl37 with ⟨h38, hl37⟩ | ⟨h38, hl37⟩
   ·refine WC.condT2 (fun fb => by kernel_rfl) h38 ?_
    refine WC.skip ?_
    refine WX.next ?_
    refine WC.seq ?_
    refine WC.block ?_
    refine WC.seq ?_
    refine WC.region ?_
    refine seg 1 [] [0, 1, 4, 6, 7] [(0, (sv A_p0 p0 c_p0)), (1, (iv p1)), (4, (pt g3)), (6, (iv x31)), (7, (iv 1))] [] (fun fb => by kernel_rfl) rfl trivial ?_
    refine WL.done rfl ?_
    refine WX.next ?_
    obtain ⟨x40, hx41, hl37⟩ := bind_some hl37
    refine WC.cutN (T := Unit) (fun t => [(0, (sv A_p0 p0 c_p0)), (1, (iv p1)), (4, (pt g3)), (6, (iv x31))]) (fun t w1 => St NoS w w1 [rowR enc_Tile A_p0 c_p0 p0] [blk g3 (.cells #[(iv 0), (iv 0), (.slice none 0 0)] 27 (0, 0))] ∧ x40 = .inr t) (fun Kx40 => ?_) ?_
    ·
     refine WC.block ?_
     refine WC.loop (T := Int) (fun t => [(0, (sv A_p0 p0 c_p0)), (1, (iv p1)), (4, (pt g3)), (6, (iv x31)), (7, (iv t))]) (fun n t w1 => St NoS w w1 [rowR enc_Tile A_p0 c_p0 p0] [blk g3 (.cells #[(iv 0), (iv 0), (.slice none 0 0)] 27 (0, 0))] ∧ torus_Least.l1 n t p0 p1 x31 = some x40) k34 1 [0, 1, 4, 6, 7] rfl ⟨(hS36.subR [0]).sub [0] (by decide), hx41⟩ ?_
     rintro k42 x39 w43 ⟨hS44, hl45⟩
     cases k42 with
     | zero => rw [torus_Least.l1] at hl45; cases hl45
     | succ k42 =>
      rw [torus_Least.l1] at hl45
      refine WC.seq ?_
      refine WC.seq ?_
      refine WC.region ?_
      refine seg 3 [] [0, 1, 4, 6, 7, 35] [(0, (sv A_p0 p0 c_p0)), (1, (iv p1)), (4, (pt g3)), (6, (iv x31)), (7, (iv x39)), (35, (bv (decide (x39 ≤ p1))))] [] (fun fb => by kernel_rfl) rfl trivial ?_
      refine WL.done rfl ?_
      refine WX.next ?_
      rcases br_some hl45 with ⟨h46, hl45⟩ | ⟨h46, hl45⟩
      ·refine WC.condT2 (fun fb => by kernel_rfl) h46 ?_
       refine WC.skip ?_
       refine WX.next ?_
       refine WC.seq ?_
       obtain ⟨x47, hx48, hl45⟩ := bind_some hl45
       refine WC.cutN (T := Unit) (fun t => [(0, (sv A_p0 p0 c_p0)), (1, (iv p1)), (4, (pt g3)), (6, (iv x31)), (7, (iv x39))]) (fun t w1 => St NoS w w1 [rowR enc_Tile A_p0 c_p0 p0] [blk g3 (.cells #[(iv 0), (iv 0), (.slice none 0 0)] 27 (0, 0))] ∧ x47 = .inr t) (fun Kx47 => ?_) ?_
       ·
        refine WC.block ?_
        refine WC.seq ?_
        refine WC.seq ?_
        refine WC.region ?_
        refine seg 2 [] [0, 1, 4, 6, 7, 38, 39] [(0, (sv A_p0 p0 c_p0)), (1, (iv p1)), (4, (pt g3)), (6, (iv x31)), (7, (iv x39)), (38, (iv x31)), (39, (iv x39))] [] (fun fb => by kernel_rfl) rfl trivial ?_
        obtain ⟨h49, hx48⟩ := as_some hx48
        refine seg 5 [] [0, 1, 4, 6, 7, 42] [(0, (sv A_p0 p0 c_p0)), (1, (iv p1)), (4, (pt g3)), (6, (iv x31)), (7, (iv x39)), (42, (bv ((Int.tmod x31 x39) != 0)))] [.ne x39] (fun fb => by kernel_rfl) rfl ⟨h49, trivial⟩ ?_
        refine WL.cutV (T := Bool) 11 (fun t => [(48, (bv t)), (0, (sv A_p0 p0 c_p0)), (1, (iv p1)), (4, (pt g3)), (6, (iv x31)), (7, (iv x39))]) (fun t => (((Int.tmod x31 x39) != 0) || (decide (w64 (Int.tdiv x31 x39) > p1))) = t) (fun K => ?_) ?_
        ·
         rcases Bool.eq_false_or_eq_true ((Int.tmod x31 x39) != 0) with h50 | h50
         ·
          refine WL.setB 42 h50 rfl ?_
          refine seg 11 [] [0, 1, 4, 6, 7, 48] [(0, (sv A_p0 p0 c_p0)), (1, (iv p1)), (4, (pt g3)), (6, (iv x31)), (7, (iv x39)), (48, (bv true))] [] (fun fb => by kernel_rfl) rfl trivial ?_
          exact WL.toV K true [48, 0, 1, 4, 6, 7] rfl (by first | (rw [h50]; done) | (rw [h50]; rfl))
         refine WL.setB 42 h50 rfl ?_
         refine seg 11 [] [0, 1, 4, 6, 7, 48] [(0, (sv A_p0 p0 c_p0)), (1, (iv p1)), (4, (pt g3)), (6, (iv x31)), (7, (iv x39)), (48, (bv (decide (w64 (Int.tdiv x31 x39) > p1))))] [.ne x39] (fun fb => by kernel_rfl) rfl ⟨h49, trivial⟩ ?_
         exact WL.toV K (decide (w64 (Int.tdiv x31 x39) > p1)) [48, 0, 1, 4, 6, 7] rfl (by first | (rw [h50]; done) | (rw [h50]; rfl))
        rintro b51 rfl
        refine WL.done rfl ?_
        refine WX.next ?_
        rcases br_some hx48 with ⟨h52, hx48⟩ | ⟨h52, hx48⟩
        ·refine WC.condT2 (fun fb => by kernel_rfl) h52 ?_
         refine WC.exit ?_
         injection hx48 with hx48
         exact WX.thenX (WX.blockHere (WX.to Kx47 () [0, 1, 4, 6, 7] rfl ⟨(hS44.subR [0]).sub [0] (by decide), hx48.symm⟩))
        refine WC.condF2 (fun fb => by kernel_rfl) h52 ?_
        refine WC.skip ?_
        refine WX.next ?_
        refine WC.seq ?_
        refine WC.region ?_
        refine seg 5 [] [0, 1, 4, 6, 7, 50, 51, 54] [(0, (sv A_p0 p0 c_p0)), (1, (iv p1)), (4, (pt g3)), (6, (iv x31)), (7, (iv x39)), (50, (sv A_p0 p0 c_p0)), (51, (iv x39)), (54, (iv (w64 (Int.tdiv x31 x39))))] [.ne x39] (fun fb => by kernel_rfl) rfl ⟨h49, trivial⟩ ?_
        obtain ⟨t53, ht54, hx48⟩ := bind_some hx48
        refine WL.call (some 55) 54 #[(sv A_p0 p0 c_p0), (iv x39), (iv (w64 (Int.tdiv x31 x39)))] (fun fb => by kernel_rfl) (torus_find_calls _ p0 x39 (w64 (Int.tdiv x31 x39)) A_p0 c_p0 t53 _ (hS44.rd 0) ht54) (fun v w55 hR56 => ?_)
        obtain ⟨A58, c59, rfl, hk_⟩ := hR56
        have hS57 : St NoS w w55 [rowR enc_Tile A_p0 c_p0 p0] [rowO 3 encInt A58 c59 t53.1.Cells, blk g3 (.cells #[(iv 0), (iv 0), (.slice none 0 0)] 27 (0, 0))] := hS44.call hk_ [] [0] (fun g hg => hg.elim) (by simp) (by decide)
        refine ⟨trivial, ?_⟩
        refine seg 9 [] [0, 1, 4, 6, 7, 56, 57] [(0, (sv A_p0 p0 c_p0)), (1, (iv p1)), (4, (pt g3)), (6, (iv x31)), (7, (iv x39)), (56, (.agg #[(iv t53.1.Width), (iv t53.1.Height), (sv A58 t53.1.Cells c59)])), (57, (bv t53.2))] [] (fun fb => by kernel_rfl) rfl trivial ?_
        refine WL.new hS57 8 [] (fun g => (pt g)) (.cells #[(iv 0), (iv 0), (.slice none 0 0)] 27 (0, 0)) [] (fun fb g => by kernel_rfl) trivial (fun g60 w61 hS62 => ?_)
        refine ⟨trivial, ?_⟩
        refine WL.store hS62 0 rfl [(0, (iv t53.1.Width)), (1, (iv t53.1.Height)), (2, (sv A58 t53.1.Cells c59))] #[(iv t53.1.Width), (iv t53.1.Height), (sv A58 t53.1.Cells c59)] (fun fb => by kernel_rfl) (by kernel_rfl) rfl [1, 2] (by decide) (by decide) (fun w63 hS65 => ?_)
        refine ⟨trivial, ?_⟩
        refine seg 12 [] [0, 1, 4, 6, 7, 8, 9] [(0, (sv A_p0 p0 c_p0)), (1, (iv p1)), (4, (pt g3)), (6, (iv x31)), (7, (iv x39)), (8, (pt g60)), (9, (bv t53.2))] [] (fun fb => by kernel_rfl) rfl trivial ?_
        refine WL.done rfl ?_
        refine WX.next ?_
        refine WC.seq ?_
        refine WC.region ?_
        refine seg 1 [] [0, 1, 4, 6, 7, 8, 58] [(0, (sv A_p0 p0 c_p0)), (1, (iv p1)), (4, (pt g3)), (6, (iv x31)), (7, (iv x39)), (8, (pt g60)), (58, (bv t53.2))] [] (fun fb => by kernel_rfl) rfl trivial ?_
        refine WL.done rfl ?_
        refine WX.next ?_
        rcases br_some hx48 with ⟨h66, hx48⟩ | ⟨h66, hx48⟩
        ·refine WC.condT2 (fun fb => by kernel_rfl) h66 ?_
         refine WC.seq ?_
         refine WC.region ?_
         refine seg 1 [.v (iv t53.1.Width), .v (iv t53.1.Height), .v (sv A58 t53.1.Cells c59)] [4, 59] [(4, (pt g3)), (59, (.agg #[(iv t53.1.Width), (iv t53.1.Height), (sv A58 t53.1.Cells c59)]))] [.cell ⟨g60, 0, none⟩ (iv t53.1.Width), .cell ⟨g60, 1, none⟩ (iv t53.1.Height), .cell ⟨g60, 2, none⟩ (sv A58 t53.1.Cells c59)] (fun fb => by kernel_rfl) rfl ⟨hS65.cell 0 rfl 0 rfl, hS65.cell 0 rfl 1 rfl, hS65.cell 0 rfl 2 rfl, trivial⟩ ?_
         refine WL.store hS65 2 rfl [(0, (iv t53.1.Width)), (1, (iv t53.1.Height)), (2, (sv A58 t53.1.Cells c59))] #[(iv t53.1.Width), (iv t53.1.Height), (sv A58 t53.1.Cells c59)] (fun fb => by kernel_rfl) (by kernel_rfl) rfl [0, 1] (by decide) (by decide) (fun w67 hS68 => ?_)
         refine ⟨trivial, ?_⟩
         refine seg 3 [] [4, 5] [(4, (pt g3)), (5, (iv 0))] [] (fun fb => by kernel_rfl) rfl trivial ?_
         refine WL.done rfl ?_
         refine WX.next ?_
         refine WC.ret ?_
         injection hx48 with hx48
         subst hx48
         injection hl45 with hl45
         subst hl45
         injection hl37 with hl37
         subst hl37
         injection hf with hf
         subst hf
         exact WX.blockR (WX.thenR (WX.thenR (WX.blockR (WX.blockR (WX.thenR (WX.thenR (WX.blockR (WX.thenR (WX.ret_ [.v (iv t53.1.Width), .v (iv t53.1.Height), .v (sv A58 t53.1.Cells c59)] (.tuple #[(.agg #[(iv t53.1.Width), (iv t53.1.Height), (sv A58 t53.1.Cells c59)]), (iv 0)]) [.cell ⟨g3, 0, none⟩ (iv t53.1.Width), .cell ⟨g3, 1, none⟩ (iv t53.1.Height), .cell ⟨g3, 2, none⟩ (sv A58 t53.1.Cells c59)] (fun fb => by kernel_rfl) ⟨hS68.cell 0 rfl 0 rfl, hS68.cell 0 rfl 1 rfl, hS68.cell 0 rfl 2 rfl, trivial⟩ ⟨_, rfl, A58, c59, rfl, (hS68.sub [2] (by decide)).noR⟩)))))))))
        refine WC.condF2 (fun fb => by kernel_rfl) h66 ?_
        refine WC.skip ?_
        injection hx48 with hx48
        exact WX.blockN (WX.to Kx47 () [0, 1, 4, 6, 7] rfl ⟨(hS65.subR [0]).sub [2] (by decide), hx48.symm⟩)
       rintro y72 w69 ⟨hS70, hq71⟩
       subst hq71
       have hl45 := sum_inr hl45
       refine WX.next ?_
       refine WC.region ?_
       refine seg 3 [] [0, 1, 4, 6, 7] [(0, (sv A_p0 p0 c_p0)), (1, (iv p1)), (4, (pt g3)), (6, (iv x31)), (7, (iv (w64 (x39 + 1))))] [] (fun fb => by kernel_rfl) rfl trivial ?_
       refine WL.done rfl ?_
       exact WX.again k42 (Nat.lt_succ_self _) (w64 (x39 + 1)) [0, 1, 4, 6, 7] rfl ⟨(hS70.subR [0]).sub [0] (by decide), hl45⟩
      refine WC.condF2 (fun fb => by kernel_rfl) h46 ?_
      refine WC.exit ?_
      injection hl45 with hl45
      exact WX.thenX (WX.thenX (WX.blockHere (WX.to Kx40 () [0, 1, 4, 6] rfl ⟨(hS44.subR [0]).sub [0] (by decide), hl45.symm⟩)))
    rintro y76 w73 ⟨hS74, hq75⟩
    subst hq75
    have hl37 := sum_inr hl37
    refine WX.blockN (WX.next ?_)
    refine WC.region ?_
    refine seg 3 [] [0, 1, 4, 6] [(0, (sv A_p0 p0 c_p0)), (1, (iv p1)), (4, (pt g3)), (6, (iv (w64 (x31 + 1))))] [] (fun fb => by kernel_rfl) rfl trivial ?_
    refine WL.done rfl ?_
    exact WX.again k34 (Nat.lt_succ_self _) (w64 (x31 + 1)) [0, 1, 4, 6] rfl ⟨(hS74.subR [0]).sub [0] (by decide), hl37⟩
   refine WC.condF2 (fun fb => by kernel_rfl) h38 ?_
   refine WC.exit ?_
   injection hl37 with hl37
   exact WX.thenX (WX.thenX (WX.blockHere (WX.to Kx32 () [4] rfl ⟨(hS36.subR [0]).sub [0] (by decide), hl37.symm⟩)))
 rintro y80 w77 ⟨hS78, hq79⟩
 subst hq79
 have hf := sum_inr hf
 refine WX.next ?_
 refine WC.seq ?_
 refine WC.region ?_
 refine seg 1 [] [4, 60] [(4, (pt g3)), (60, (.agg #[(iv 0), (iv 0), (.slice none 0 0)]))] [] (fun fb => by kernel_rfl) rfl trivial ?_
 refine WL.store hS78 0 rfl [(0, (iv 0)), (1, (iv 0)), (2, (.slice none 0 0))] #[(iv 0), (iv 0), (.slice none 0 0)] (fun fb => by kernel_rfl) (by kernel_rfl) rfl [] (by decide) (by decide) (fun w81 hS82 => ?_)
 refine ⟨trivial, ?_⟩
 refine seg 3 [] [4, 5] [(4, (pt g3)), (5, (iv 6))] [] (fun fb => by kernel_rfl) rfl trivial ?_
 refine WL.done rfl ?_
 refine WX.next ?_
 refine WC.ret ?_
 have hS83 := hS82.nilrow 3 encInt
 injection hf with hf
 subst hf
 exact WX.ret_ [.v (iv 0), .v (iv 0), .v (.slice none 0 0)] (.tuple #[(.agg #[(iv 0), (iv 0), (sv none ([] : List Int) 0)]), (iv 6)]) [.cell ⟨g3, 0, none⟩ (iv 0), .cell ⟨g3, 1, none⟩ (iv 0), .cell ⟨g3, 2, none⟩ (.slice none 0 0)] (fun fb => by kernel_rfl) ⟨hS82.cell 0 rfl 0 rfl, hS82.cell 0 rfl 1 rfl, hS82.cell 0 rfl 2 rfl, trivial⟩ ⟨_, rfl, none, 0, rfl, (hS83.sub [0] (by decide)).noR⟩
theorem torus_Find_calls (k : Nat) (p0 : List Tile) (p1 : Int) (p2 : Int) (A_p0 : Option Addr) (c_p0 : Nat) (r : Pattern × Int) (w : World) (hR0 : RO NoS w (rowR enc_Tile A_p0 c_p0 p0)) (hf : torus_Find k p0 p1 p2 = some r) :
  CallsR Tryd.prog 16 #[(sv A_p0 p0 c_p0), (iv p1), (iv p2)] w (fun v w' => ∃ (A1_ : Option Addr), ∃ (c1_ : Nat), v = (.tuple #[(.agg #[(iv r.1.Width), (iv r.1.Height), (sv A1_ r.1.Cells c1_)]), (iv r.2)]) ∧ St NoS w w' [] [rowO 3 encInt A1_ c1_ r.1.Cells]) := by
 have hS : St NoS w w [rowR enc_Tile A_p0 c_p0 p0] [] := St.init (ro_cons hR0 (ro_nil _ _))
 refine enter 45 Tryd.func16 rfl Tryd.ntmps16 rfl ?_
 unfold torus_Find at hf
 refine WC.seq ?_
 refine WC.region ?_
 refine WL.new hS 6 [] (fun g => (pt g)) (.cells #[(iv 0), (iv 0), (.slice none 0 0)] 27 (0, 0)) [] (fun fb g => by kernel_rfl) trivial (fun g3 w4 hS5 => ?_)
 refine ⟨trivial, ?_⟩
 refine seg 2 [] [0, 1, 2, 6] [(0, (sv A_p0 p0 c_p0)), (1, (iv p1)), (2, (iv p2)), (6, (pt g3))] [] (fun fb => by kernel_rfl) rfl trivial ?_
 refine WL.done rfl ?_
 refine WX.next ?_
 refine WC.seq ?_
 refine WC.seq ?_
 refine WC.region ?_
 refine seg 1 [] [0, 1, 2, 6, 10] [(0, (sv A_p0 p0 c_p0)), (1, (iv p1)), (2, (iv p2)), (6, (pt g3)), (10, (sv A_p0 p0 c_p0))] [] (fun fb => by kernel_rfl) rfl trivial ?_
 obtain ⟨t6, ht7, hf⟩ := bind_some hf
 refine WL.call (some 11) 52 #[(sv A_p0 p0 c_p0)] (fun fb => by kernel_rfl) (tile_Valid_calls _ p0 A_p0 c_p0 t6 _ (hS5.rd 0) ht7) (fun v w8 hR9 => ?_)
 obtain ⟨rfl, hk_⟩ := hR9
 have hS10 := hS5.keepN hk_
 refine ⟨trivial, ?_⟩
 refine seg 3 [] [0, 1, 2, 6, 12] [(0, (sv A_p0 p0 c_p0)), (1, (iv p1)), (2, (iv p2)), (6, (pt g3)), (12, (bv (!t6)))] [] (fun fb => by kernel_rfl) rfl trivial ?_
 refine WL.done rfl ?_
 refine WX.next ?_
 rcases br_some hf with ⟨h11, hf⟩ | ⟨h11, hf⟩
 ·refine WC.condT2 (fun fb => by kernel_rfl) h11 ?_
  refine WC.seq ?_
  refine WC.region ?_
  refine seg 1 [] [6, 13] [(6, (pt g3)), (13, (.agg #[(iv 0), (iv 0), (.slice none 0 0)]))] [] (fun fb => by kernel_rfl) rfl trivial ?_
  refine WL.store hS10 0 rfl [(0, (iv 0)), (1, (iv 0)), (2, (.slice none 0 0))] #[(iv 0), (iv 0), (.slice none 0 0)] (fun fb => by kernel_rfl) (by kernel_rfl) rfl [] (by decide) (by decide) (fun w12 hS13 => ?_)
  refine ⟨trivial, ?_⟩
  refine seg 3 [] [6, 7] [(6, (pt g3)), (7, (iv 1))] [] (fun fb => by kernel_rfl) rfl trivial ?_
  refine WL.done rfl ?_
  refine WX.next ?_
  refine WC.ret ?_
  have hS14 := hS13.nilrow 3 encInt
  injection hf with hf
  subst hf
  exact WX.thenR (WX.ret_ [.v (iv 0), .v (iv 0), .v (.slice none 0 0)] (.tuple #[(.agg #[(iv 0), (iv 0), (sv none ([] : List Int) 0)]), (iv 1)]) [.cell ⟨g3, 0, none⟩ (iv 0), .cell ⟨g3, 1, none⟩ (iv 0), .cell ⟨g3, 2, none⟩ (.slice none 0 0)] (fun fb => by kernel_rfl) ⟨hS13.cell 0 rfl 0 rfl, hS13.cell 0 rfl 1 rfl, hS13.cell 0 rfl 2 rfl, trivial⟩ ⟨_, rfl, none, 0, rfl, (hS14.sub [0] (by decide)).noR⟩)
 refine WC.condF2 (fun fb => by kernel_rfl) h11 ?_
 refine WC.skip ?_
 refine WX.next ?_
 refine WC.seq ?_
 refine WC.seq ?_
 refine WC.region ?_
 refine seg 3 [] [0, 1, 2, 6, 16] [(0, (sv A_p0 p0 c_p0)), (1, (iv p1)), (2, (iv p2)), (6, (pt g3)), (16, (bv (decide (p1 < 1))))] [] (fun fb => by kernel_rfl) rfl trivial ?_
 refine WL.cutV (T := Bool) 6 (fun t => [(19, (bv t)), (0, (sv A_p0 p0 c_p0)), (1, (iv p1)), (2, (iv p2)), (6, (pt g3))]) (fun t => ((decide (p1 < 1)) || (decide (p1 > 6))) = t) (fun K => ?_) ?_
 ·
  rcases Bool.eq_false_or_eq_true (decide (p1 < 1)) with h15 | h15
  ·
   refine WL.setB 16 h15 rfl ?_
   refine seg 6 [] [0, 1, 2, 6, 19] [(0, (sv A_p0 p0 c_p0)), (1, (iv p1)), (2, (iv p2)), (6, (pt g3)), (19, (bv true))] [] (fun fb => by kernel_rfl) rfl trivial ?_
   exact WL.toV K true [19, 0, 1, 2, 6] rfl (by first | (rw [h15]; done) | (rw [h15]; rfl))
  refine WL.setB 16 h15 rfl ?_
  refine seg 6 [] [0, 1, 2, 6, 19] [(0, (sv A_p0 p0 c_p0)), (1, (iv p1)), (2, (iv p2)), (6, (pt g3)), (19, (bv (decide (p1 > 6))))] [] (fun fb => by kernel_rfl) rfl trivial ?_
  exact WL.toV K (decide (p1 > 6)) [19, 0, 1, 2, 6] rfl (by first | (rw [h15]; done) | (rw [h15]; rfl))
 rintro b17 rfl
 refine seg 7 [] [0, 1, 2, 6, 20] [(0, (sv A_p0 p0 c_p0)), (1, (iv p1)), (2, (iv p2)), (6, (pt g3)), (20, (bv ((decide (p1 < 1)) || (decide (p1 > 6)))))] [] (fun fb => by kernel_rfl) rfl trivial ?_
 refine WL.cutV (T := Bool) 10 (fun t => [(23, (bv t)), (0, (sv A_p0 p0 c_p0)), (1, (iv p1)), (2, (iv p2)), (6, (pt g3))]) (fun t => (((decide (p1 < 1)) || (decide (p1 > 6))) || (decide (p2 < 1))) = t) (fun K => ?_) ?_
 ·
  rcases Bool.eq_false_or_eq_true ((decide (p1 < 1)) || (decide (p1 > 6))) with h18 | h18
  ·
   refine WL.setB 20 h18 rfl ?_
   refine seg 10 [] [0, 1, 2, 6, 23] [(0, (sv A_p0 p0 c_p0)), (1, (iv p1)), (2, (iv p2)), (6, (pt g3)), (23, (bv true))] [] (fun fb => by kernel_rfl) rfl trivial ?_
   exact WL.toV K true [23, 0, 1, 2, 6] rfl (by first | (rw [h18]; done) | (rw [h18]; rfl))
  refine WL.setB 20 h18 rfl ?_
  refine seg 10 [] [0, 1, 2, 6, 23] [(0, (sv A_p0 p0 c_p0)), (1, (iv p1)), (2, (iv p2)), (6, (pt g3)), (23, (bv (decide (p2 < 1))))] [] (fun fb => by kernel_rfl) rfl trivial ?_
  exact WL.toV K (decide (p2 < 1)) [23, 0, 1, 2, 6] rfl (by first | (rw [h18]; done) | (rw [h18]; rfl))
 rintro b19 rfl
 refine seg 11 [] [0, 1, 2, 6, 24] [(0, (sv A_p0 p0 c_p0)), (1, (iv p1)), (2, (iv p2)), (6, (pt g3)), (24, (bv (((decide (p1 < 1)) || (decide (p1 > 6))) || (decide (p2 < 1)))))] [] (fun fb => by kernel_rfl) rfl trivial ?_
 refine WL.cutV (T := Bool) 14 (fun t => [(27, (bv t)), (0, (sv A_p0 p0 c_p0)), (1, (iv p1)), (2, (iv p2)), (6, (pt g3))]) (fun t => ((((decide (p1 < 1)) || (decide (p1 > 6))) || (decide (p2 < 1))) || (decide (p2 > 6))) = t) (fun K => ?_) ?_
 ·
  rcases Bool.eq_false_or_eq_true (((decide (p1 < 1)) || (decide (p1 > 6))) || (decide (p2 < 1))) with h20 | h20
  ·
   refine WL.setB 24 h20 rfl ?_
   refine seg 14 [] [0, 1, 2, 6, 27] [(0, (sv A_p0 p0 c_p0)), (1, (iv p1)), (2, (iv p2)), (6, (pt g3)), (27, (bv true))] [] (fun fb => by kernel_rfl) rfl trivial ?_
   exact WL.toV K true [27, 0, 1, 2, 6] rfl (by first | (rw [h20]; done) | (rw [h20]; rfl))
  refine WL.setB 24 h20 rfl ?_
  refine seg 14 [] [0, 1, 2, 6, 27] [(0, (sv A_p0 p0 c_p0)), (1, (iv p1)), (2, (iv p2)), (6, (pt g3)), (27, (bv (decide (p2 > 6))))] [] (fun fb => by kernel_rfl) rfl trivial ?_
  exact WL.toV K (decide (p2 > 6)) [27, 0, 1, 2, 6] rfl (by first | (rw [h20]; done) | (rw [h20]; rfl))
 rintro b21 rfl
 refine WL.done rfl ?_
 refine WX.next ?_
 rcases br_some hf with ⟨h22, hf⟩ | ⟨h22, hf⟩
 ·refine WC.condT2 (fun fb => by kernel_rfl) h22 ?_
  refine WC.seq ?_
  refine WC.region ?_
  refine seg 1 [] [6, 28] [(6, (pt g3)), (28, (.agg #[(iv 0), (iv 0), (.slice none 0 0)]))] [] (fun fb => by kernel_rfl) rfl trivial ?_
  refine WL.store hS10 0 rfl [(0, (iv 0)), (1, (iv 0)), (2, (.slice none 0 0))] #[(iv 0), (iv 0), (.slice none 0 0)] (fun fb => by kernel_rfl) (by kernel_rfl) rfl [] (by decide) (by decide) (fun w23 hS24 => ?_)
  refine ⟨trivial, ?_⟩
  refine seg 3 [] [6, 7] [(6, (pt g3)), (7, (iv 2))] [] (fun fb => by kernel_rfl) rfl trivial ?_
  refine WL.done rfl ?_
  refine WX.next ?_
  refine WC.ret ?_
  have hS25 := hS24.nilrow 3 encInt
  injection hf with hf
  subst hf
  exact WX.thenR (WX.ret_ [.v (iv 0), .v (iv 0), .v (.slice none 0 0)] (.tuple #[(.agg #[(iv 0), (iv 0), (sv none ([] : List Int) 0)]), (iv 2)]) [.cell ⟨g3, 0, none⟩ (iv 0), .cell ⟨g3, 1, none⟩ (iv 0), .cell ⟨g3, 2, none⟩ (.slice none 0 0)] (fun fb => by kernel_rfl) ⟨hS24.cell 0 rfl 0 rfl, hS24.cell 0 rfl 1 rfl, hS24.cell 0 rfl 2 rfl, trivial⟩ ⟨_, rfl, none, 0, rfl, (hS25.sub [0] (by decide)).noR⟩)
 refine WC.condF2 (fun fb => by kernel_rfl) h22 ?_
 refine WC.skip ?_
 refine WX.next ?_
 refine WC.seq ?_
 refine WC.seq ?_
 refine WC.region ?_
 refine seg 2 [] [0, 1, 2, 6, 29, 30] [(0, (sv A_p0 p0 c_p0)), (1, (iv p1)), (2, (iv p2)), (6, (pt g3)), (29, (sv A_p0 p0 c_p0)), (30, (iv p1))] [] (fun fb => by kernel_rfl) rfl trivial ?_
 obtain ⟨t26, ht27, hf⟩ := bind_some hf
 refine WL.call (some 31) 53 #[(sv A_p0 p0 c_p0), (iv p1)] (fun fb => by kernel_rfl) (rows_Few_calls _ p0 p1 A_p0 c_p0 t26 _ (hS10.rd 0) ht27) (fun v w28 hR29 => ?_)
 obtain ⟨rfl, hk_⟩ := hR29
 have hS30 := hS10.keepN hk_
 refine ⟨trivial, ?_⟩
 refine seg 4 [] [0, 1, 2, 6, 32] [(0, (sv A_p0 p0 c_p0)), (1, (iv p1)), (2, (iv p2)), (6, (pt g3)), (32, (bv (!t26)))] [] (fun fb => by kernel_rfl) rfl trivial ?_
 refine WL.done rfl ?_
 refine WX.next ?_
 rcases br_some hf with ⟨h31, hf⟩ | ⟨h31, hf⟩
 ·refine WC.condT2 (fun fb => by kernel_rfl) h31 ?_
  refine WC.seq ?_
  refine WC.region ?_
  refine seg 1 [] [6, 33] [(6, (pt g3)), (33, (.agg #[(iv 0), (iv 0), (.slice none 0 0)]))] [] (fun fb => by kernel_rfl) rfl trivial ?_
  refine WL.store hS30 0 rfl [(0, (iv 0)), (1, (iv 0)), (2, (.slice none 0 0))] #[(iv 0), (iv 0), (.slice none 0 0)] (fun fb => by kernel_rfl) (by kernel_rfl) rfl [] (by decide) (by decide) (fun w32 hS33 => ?_)
  refine ⟨trivial, ?_⟩
  refine seg 3 [] [6, 7] [(6, (pt g3)), (7, (iv 4))] [] (fun fb => by kernel_rfl) rfl trivial ?_
  refine WL.done rfl ?_
  refine WX.next ?_
  refine WC.ret ?_
  have hS34 := hS33.nilrow 3 encInt
  injection hf with hf
  subst hf
  exact WX.thenR (WX.ret_ [.v (iv 0), .v (iv 0), .v (.slice none 0 0)] (.tuple #[(.agg #[(iv 0), (iv 0), (sv none ([] : List Int) 0)]), (iv 4)]) [.cell ⟨g3, 0, none⟩ (iv 0), .cell ⟨g3, 1, none⟩ (iv 0), .cell ⟨g3, 2, none⟩ (.slice none 0 0)] (fun fb => by kernel_rfl) ⟨hS33.cell 0 rfl 0 rfl, hS33.cell 0 rfl 1 rfl, hS33.cell 0 rfl 2 rfl, trivial⟩ ⟨_, rfl, none, 0, rfl, (hS34.sub [0] (by decide)).noR⟩)
 refine WC.condF2 (fun fb => by kernel_rfl) h31 ?_
 refine WC.skip ?_
 refine WX.next ?_
 refine WC.seq ?_
 refine WC.region ?_
 refine seg 3 [] [6, 35, 36, 37] [(6, (pt g3)), (35, (sv A_p0 p0 c_p0)), (36, (iv p1)), (37, (iv p2))] [] (fun fb => by kernel_rfl) rfl trivial ?_
 obtain ⟨t35, ht36, hf⟩ := bind_some hf
 refine WL.call (some 38) 54 #[(sv A_p0 p0 c_p0), (iv p1), (iv p2)] (fun fb => by kernel_rfl) (torus_find_calls _ p0 p1 p2 A_p0 c_p0 t35 _ (hS30.rd 0) ht36) (fun v w37 hR38 => ?_)
 obtain ⟨A40, c41, rfl, hk_⟩ := hR38
 have hS39 : St NoS w w37 [rowR enc_Tile A_p0 c_p0 p0] [rowO 3 encInt A40 c41 t35.1.Cells, blk g3 (.cells #[(iv 0), (iv 0), (.slice none 0 0)] 27 (0, 0))] := hS30.call hk_ [] [0] (fun g hg => hg.elim) (by simp) (by decide)
 refine ⟨trivial, ?_⟩
 refine seg 7 [] [6, 39, 40] [(6, (pt g3)), (39, (.agg #[(iv t35.1.Width), (iv t35.1.Height), (sv A40 t35.1.Cells c41)])), (40, (bv t35.2))] [] (fun fb => by kernel_rfl) rfl trivial ?_
 refine WL.new hS39 8 [] (fun g => (pt g)) (.cells #[(iv 0), (iv 0), (.slice none 0 0)] 27 (0, 0)) [] (fun fb g => by kernel_rfl) trivial (fun g42 w43 hS44 => ?_)
 refine ⟨trivial, ?_⟩
 refine WL.store hS44 0 rfl [(0, (iv t35.1.Width)), (1, (iv t35.1.Height)), (2, (sv A40 t35.1.Cells c41))] #[(iv t35.1.Width), (iv t35.1.Height), (sv A40 t35.1.Cells c41)] (fun fb => by kernel_rfl) (by kernel_rfl) rfl [1, 2] (by decide) (by decide) (fun w45 hS46 => ?_)
 refine ⟨trivial, ?_⟩
 refine seg 10 [] [6, 8, 9] [(6, (pt g3)), (8, (pt g42)), (9, (bv t35.2))] [] (fun fb => by kernel_rfl) rfl trivial ?_
 refine WL.done rfl ?_
 refine WX.next ?_
 refine WC.seq ?_
 refine WC.seq ?_
 refine WC.region ?_
 refine seg 2 [] [6, 8, 42] [(6, (pt g3)), (8, (pt g42)), (42, (bv (!t35.2)))] [] (fun fb => by kernel_rfl) rfl trivial ?_
 refine WL.done rfl ?_
 refine WX.next ?_
 rcases br_some hf with ⟨h47, hf⟩ | ⟨h47, hf⟩
 ·refine WC.condT2 (fun fb => by kernel_rfl) h47 ?_
  refine WC.seq ?_
  refine WC.region ?_
  refine seg 1 [] [6, 43] [(6, (pt g3)), (43, (.agg #[(iv 0), (iv 0), (.slice none 0 0)]))] [] (fun fb => by kernel_rfl) rfl trivial ?_
  refine WL.store hS46 2 rfl [(0, (iv 0)), (1, (iv 0)), (2, (.slice none 0 0))] #[(iv 0), (iv 0), (.slice none 0 0)] (fun fb => by kernel_rfl) (by kernel_rfl) rfl [0, 1] (by decide) (by decide) (fun w48 hS49 => ?_)
  refine ⟨trivial, ?_⟩
  refine seg 3 [] [6, 7] [(6, (pt g3)), (7, (iv 6))] [] (fun fb => by kernel_rfl) rfl trivial ?_
  refine WL.done rfl ?_
  refine WX.next ?_
  refine WC.ret ?_
  have hS50 := hS49.nilrow 3 encInt
  injection hf with hf
  subst hf
  exact WX.thenR (WX.ret_ [.v (iv 0), .v (iv 0), .v (.slice none 0 0)] (.tuple #[(.agg #[(iv 0), (iv 0), (sv none ([] : List Int) 0)]), (iv 6)]) [.cell ⟨g3, 0, none⟩ (iv 0), .cell ⟨g3, 1, none⟩ (iv 0), .cell ⟨g3, 2, none⟩ (.slice none 0 0)] (fun fb => by kernel_rfl) ⟨hS49.cell 0 rfl 0 rfl, hS49.cell 0 rfl 1 rfl, hS49.cell 0 rfl 2 rfl, trivial⟩ ⟨_, rfl, none, 0, rfl, (hS50.sub [0] (by decide)).noR⟩)
 refine WC.condF2 (fun fb => by kernel_rfl) h47 ?_
 refine WC.skip ?_
 refine WX.next ?_
 refine WC.seq ?_
 refine WC.region ?_
 refine seg 1 [.v (iv t35.1.Width), .v (iv t35.1.Height), .v (sv A40 t35.1.Cells c41)] [6, 44] [(6, (pt g3)), (44, (.agg #[(iv t35.1.Width), (iv t35.1.Height), (sv A40 t35.1.Cells c41)]))] [.cell ⟨g42, 0, none⟩ (iv t35.1.Width), .cell ⟨g42, 1, none⟩ (iv t35.1.Height), .cell ⟨g42, 2, none⟩ (sv A40 t35.1.Cells c41)] (fun fb => by kernel_rfl) rfl ⟨hS46.cell 0 rfl 0 rfl, hS46.cell 0 rfl 1 rfl, hS46.cell 0 rfl 2 rfl, trivial⟩ ?_
 refine WL.store hS46 2 rfl [(0, (iv t35.1.Width)), (1, (iv t35.1.Height)), (2, (sv A40 t35.1.Cells c41))] #[(iv t35.1.Width), (iv t35.1.Height), (sv A40 t35.1.Cells c41)] (fun fb => by kernel_rfl) (by kernel_rfl) rfl [0, 1] (by decide) (by decide) (fun w51 hS52 => ?_)
 refine ⟨trivial, ?_⟩
 refine seg 3 [] [6, 7] [(6, (pt g3)), (7, (iv 0))] [] (fun fb => by kernel_rfl) rfl trivial ?_
 refine WL.done rfl ?_
 refine WX.next ?_
 refine WC.ret ?_
 injection hf with hf
 subst hf
 exact WX.ret_ [.v (iv t35.1.Width), .v (iv t35.1.Height), .v (sv A40 t35.1.Cells c41)] (.tuple #[(.agg #[(iv t35.1.Width), (iv t35.1.Height), (sv A40 t35.1.Cells c41)]), (iv 0)]) [.cell ⟨g3, 0, none⟩ (iv t35.1.Width), .cell ⟨g3, 1, none⟩ (iv t35.1.Height), .cell ⟨g3, 2, none⟩ (sv A40 t35.1.Cells c41)] (fun fb => by kernel_rfl) ⟨hS52.cell 0 rfl 0 rfl, hS52.cell 0 rfl 1 rfl, hS52.cell 0 rfl 2 rfl, trivial⟩ ⟨_, rfl, A40, c41, rfl, (hS52.sub [2] (by decide)).noR⟩
theorem ref01_Same_calls (k : Nat) (p0 : List Int) (p1 : List Int) (A_p0 : Option Addr) (c_p0 : Nat) (A_p1 : Option Addr) (c_p1 : Nat) (r : Bool) (w : World) (hR0 : RO NoS w (rowR encInt A_p0 c_p0 p0)) (hR1 : RO NoS w (rowR encInt A_p1 c_p1 p1)) (hf : ref01_Same k p0 p1 = some r) :
  CallsR Tryd.prog 64 #[(sv A_p0 p0 c_p0), (sv A_p1 p1 c_p1)] w (fun v w' => v = (bv r) ∧ Keeps NoS w w') := by
 have hS : St NoS w w [rowR encInt A_p0 c_p0 p0, rowR encInt A_p1 c_p1 p1] [] := St.init (ro_cons hR0 (ro_cons hR1 (ro_nil _ _)))
 refine enter 26 Tryd.func64 rfl Tryd.ntmps64 rfl ?_
 unfold ref01_Same at hf
 refine WC.seq ?_
 refine WC.region ?_
 refine seg 1 [] [0, 1] [(0, (sv A_p0 p0 c_p0)), (1, (sv A_p1 p1 c_p1))] [] (fun fb => by kernel_rfl) rfl trivial ?_
 refine WL.done rfl ?_
 refine WX.next ?_
 refine WC.seq ?_
 refine WC.seq ?_
 refine WC.region ?_
 refine seg 5 [] [0, 1, 10] [(0, (sv A_p0 p0 c_p0)), (1, (sv A_p1 p1 c_p1)), (10, (bv ((p0.length : Int) != (p1.length : Int))))] [] (fun fb => by kernel_rfl) rfl trivial ?_
 refine WL.done rfl ?_
 refine WX.next ?_
 rcases br_some hf with ⟨h3, hf⟩ | ⟨h3, hf⟩
 ·refine WC.condT2 (fun fb => by kernel_rfl) h3 ?_
  refine WC.seq ?_
  refine WC.region ?_
  refine seg 1 [] [4] [(4, (bv false))] [] (fun fb => by kernel_rfl) rfl trivial ?_
  refine WL.done rfl ?_
  refine WX.next ?_
  refine WC.ret ?_
  injection hf with hf
  subst hf
  exact WX.thenR (WX.ret_ [] (bv false) [] (fun fb => by kernel_rfl) trivial ⟨_, rfl, rfl, hS.keep⟩)
 refine WC.condF2 (fun fb => by kernel_rfl) h3 ?_
 refine WC.skip ?_
 refine WX.next ?_
 refine WC.seq ?_
 refine WC.seq ?_
 refine WC.region ?_
 refine seg 1 [] [0, 1, 5] [(0, (sv A_p0 p0 c_p0)), (1, (sv A_p1 p1 c_p1)), (5, (iv 0))] [] (fun fb => by kernel_rfl) rfl trivial ?_
 refine WL.done rfl ?_
 refine WX.next ?_
 obtain ⟨x5, hx6, hf⟩ := bind_some hf
 refine WC.cutN (T := Unit) (fun t => []) (fun t w1 => St NoS w w1 [rowR encInt A_p0 c_p0 p0, rowR encInt A_p1 c_p1 p1] [] ∧ x5 = .inr t) (fun Kx5 => ?_) ?_
 ·
  refine WC.block ?_
  refine WC.loop (T := Int) (fun t => [(0, (sv A_p0 p0 c_p0)), (1, (sv A_p1 p1 c_p1)), (5, (iv t))]) (fun n t w1 => St NoS w w1 [rowR encInt A_p0 c_p0 p0, rowR encInt A_p1 c_p1 p1] [] ∧ ref01_Same.l0 n t p0 p1 = some x5) k 0 [0, 1, 5] rfl ⟨(hS.subR [0, 1]).sub [] (by decide), hx6⟩ ?_
  rintro k7 x4 w8 ⟨hS9, hl10⟩
  cases k7 with
  | zero => rw [ref01_Same.l0] at hl10; cases hl10
  | succ k7 =>
   rw [ref01_Same.l0] at hl10
   refine WC.seq ?_
   refine WC.seq ?_
   refine WC.region ?_
   refine seg 4 [] [0, 1, 5, 14] [(0, (sv A_p0 p0 c_p0)), (1, (sv A_p1 p1 c_p1)), (5, (iv x4)), (14, (bv (decide (x4 < (p0.length : Int)))))] [] (fun fb => by kernel_rfl) rfl trivial ?_
   refine WL.done rfl ?_
   refine WX.next ?_
   rcases br_some hl10 with ⟨h11, hl10⟩ | ⟨h11, hl10⟩
   ·refine WC.condT2 (fun fb => by kernel_rfl) h11 ?_
    refine WC.skip ?_
    refine WX.next ?_
    refine WC.seq ?_
    refine WC.block ?_
    refine WC.seq ?_
    obtain ⟨h14, hl10⟩ := as_some hl10
    obtain ⟨h15, hl10⟩ := as_some hl10
    refine WC.regionD ([(3, ((adr A_p0).add ((x4).toNat * 1)), (iv (rdD p0 x4 0))), (7, ((adr A_p1).add ((x4).toNat * 1)), (iv (rdD p1 x4 0)))], [0, 1, 2, 3, 4, 5, 6, 7, 8], [[], [], [0, 1], [0, 1, 2], [], [], [4, 5], [4, 5, 6], [0, 1, 2, 3, 4, 5, 6, 7]]) [[0, 1, 2, 3, 4, 5, 6, 7, 8]] (by kernel_rfl) (by kernel_rfl) (NoPanic.seq (NoPanic.block (NoPanic.seq (NoPanic.seq (NoPanic.block (NoPanic.seq (NoPanic.body))))))) ?_
    have hS13 := hS9.drew
    revert hS13
    generalize World.drew w8 = w12
    intro hS13
    refine ⟨⟨rowR.cell (hS13.rd 0).1 0 h14.1 h14.2 0 rfl, rowR.cell (hS13.rd 1).1 0 h15.1 h15.2 0 rfl, trivial⟩, forallC ?_ (forallN)⟩
    refine segF 9 [.v (iv (rdD p0 x4 0)), .v (iv (rdD p1 x4 0))] [0, 1, 5, 25] [(0, (sv A_p0 p0 c_p0)), (1, (sv A_p1 p1 c_p1)), (5, (iv x4)), (25, (bv ((rdD p0 x4 0) != (rdD p1 x4 0))))] [.idx A_p0 x4 p0.length, .idx A_p1 x4 p1.length] [0, 1] [(3, ((adr A_p0).add ((x4).toNat * 1)), (iv (rdD p0 x4 0))), (7, ((adr A_p1).add ((x4).toNat * 1)), (iv (rdD p1 x4 0)))] (fun fb => by kernel_rfl) rfl ⟨rowR.adr (hS13.rd 0).1 h14.1 h14.2, rowR.adr (hS13.rd 1).1 h15.1 h15.2, trivial⟩ rfl ?_
    refine WL.done rfl ?_
    refine WX.next ?_
    rcases br_some hl10 with ⟨h16, hl10⟩ | ⟨h16, hl10⟩
    ·refine WC.condT2 (fun fb => by kernel_rfl) h16 ?_
     refine WC.seq ?_
     refine WC.region ?_
     refine seg 1 [] [4] [(4, (bv false))] [] (fun fb => by kernel_rfl) rfl trivial ?_
     refine WL.done rfl ?_
     refine WX.next ?_
     refine WC.ret ?_
     injection hl10 with hl10
     subst hl10
     injection hf with hf
     subst hf
     exact WX.blockR (WX.thenR (WX.thenR (WX.blockR (WX.thenR (WX.ret_ [] (bv false) [] (fun fb => by kernel_rfl) trivial ⟨_, rfl, rfl, hS13.keep⟩)))))
    refine WC.condF2 (fun fb => by kernel_rfl) h16 ?_
    refine WC.skip ?_
    refine WX.blockN (WX.next ?_)
    refine WC.region ?_
    refine seg 3 [] [0, 1, 5] [(0, (sv A_p0 p0 c_p0)), (1, (sv A_p1 p1 c_p1)), (5, (iv (w64 (x4 + 1))))] [] (fun fb => by kernel_rfl) rfl trivial ?_
    refine WL.done rfl ?_
    exact WX.again k7 (Nat.lt_succ_self _) (w64 (x4 + 1)) [0, 1, 5] rfl ⟨(hS13.subR [0, 1]).sub [] (by decide), hl10⟩
   refine WC.condF2 (fun fb => by kernel_rfl) h11 ?_
   refine WC.exit ?_
   injection hl10 with hl10
   exact WX.thenX (WX.thenX (WX.blockHere (WX.to Kx5 () [] rfl ⟨(hS9.subR [0, 1]).sub [] (by decide), hl10.symm⟩)))
 rintro y20 w17 ⟨hS18, hq19⟩
 subst hq19
 have hf := sum_inr hf
 refine WX.next ?_
 refine WC.seq ?_
 refine WC.region ?_
 refine seg 1 [] [4] [(4, (bv true))] [] (fun fb => by kernel_rfl) rfl trivial ?_
 refine WL.done rfl ?_
 refine WX.next ?_
 refine WC.ret ?_
 injection hf with hf
 subst hf
 exact WX.ret_ [] (bv true) [] (fun fb => by kernel_rfl) trivial ⟨_, rfl, rfl, hS18.keep⟩
theorem ref01_SamePattern_calls (k : Nat) (p0 : Pattern) (p1 : Pattern) (A_p0_Cells : Option Addr) (c_p0_Cells : Nat) (A_p1_Cells : Option Addr) (c_p1_Cells : Nat) (r : Bool) (w : World) (hR0 : RO NoS w (rowR encInt A_p0_Cells c_p0_Cells p0.Cells)) (hR1 : RO NoS w (rowR encInt A_p1_Cells c_p1_Cells p1.Cells)) (hf : ref01_SamePattern k p0 p1 = some r) :
  CallsR Tryd.prog 32 #[(.agg #[(iv p0.Width), (iv p0.Height), (sv A_p0_Cells p0.Cells c_p0_Cells)]), (.agg #[(iv p1.Width), (iv p1.Height), (sv A_p1_Cells p1.Cells c_p1_Cells)])] w (fun v w' => v = (bv r) ∧ Keeps NoS w w') := by
 have hS : St NoS w w [rowR encInt A_p0_Cells c_p0_Cells p0.Cells, rowR encInt A_p1_Cells c_p1_Cells p1.Cells] [] := St.init (ro_cons hR0 (ro_cons hR1 (ro_nil _ _)))
 refine enter 24 Tryd.func32 rfl Tryd.ntmps32 rfl ?_
 unfold ref01_SamePattern at hf
 refine WC.seq ?_
 refine WC.region ?_
 refine WL.new hS 2 [] (fun g => (pt g)) (.cells #[(iv p0.Width), (iv p0.Height), (sv A_p0_Cells p0.Cells c_p0_Cells)] 27 (0, 0)) [] (fun fb g => by kernel_rfl) trivial (fun g2 w3 hS4 => ?_)
 refine ⟨trivial, ?_⟩
 refine WL.new hS4 3 [] (fun g => (pt g)) (.cells #[(iv p1.Width), (iv p1.Height), (sv A_p1_Cells p1.Cells c_p1_Cells)] 27 (0, 0)) [] (fun fb g => by kernel_rfl) trivial (fun g5 w6 hS7 => ?_)
 refine ⟨trivial, ?_⟩
 refine seg 3 [] [2, 3] [(2, (pt g2)), (3, (pt g5))] [] (fun fb => by kernel_rfl) rfl trivial ?_
 refine WL.done rfl ?_
 refine WX.next ?_
 refine WC.seq ?_
 refine WC.region ?_
 refine seg 6 [.v (iv p0.Width), .v (iv p1.Width)] [2, 3, 10] [(2, (pt g2)), (3, (pt g5)), (10, (bv (p0.Width == p1.Width)))] [.cell ⟨g2, 0, none⟩ (iv p0.Width), .cell ⟨g5, 0, none⟩ (iv p1.Width)] (fun fb => by kernel_rfl) rfl ⟨hS7.cell 1 rfl 0 rfl, hS7.cell 0 rfl 0 rfl, trivial⟩ ?_
 refine WL.cutV (T := Bool) 12 (fun t => [(16, (bv t)), (2, (pt g2)), (3, (pt g5))]) (fun t => ((p0.Width == p1.Width) && (p0.Height == p1.Height)) = t) (fun K => ?_) ?_
 ·
  rcases Bool.eq_false_or_eq_true (p0.Width == p1.Width) with h8 | h8
  ·
   refine WL.setB 10 h8 rfl ?_
   refine seg 12 [.v (iv p0.Height), .v (iv p1.Height)] [2, 3, 16] [(2, (pt g2)), (3, (pt g5)), (16, (bv (p0.Height == p1.Height)))] [.cell ⟨g2, 1, none⟩ (iv p0.Height), .cell ⟨g5, 1, none⟩ (iv p1.Height)] (fun fb => by kernel_rfl) rfl ⟨hS7.cell 1 rfl 1 rfl, hS7.cell 0 rfl 1 rfl, trivial⟩ ?_
   exact WL.toV K (p0.Height == p1.Height) [16, 2, 3] rfl (by first | (rw [h8]; done) | (rw [h8]; rfl))
  refine WL.setB 10 h8 rfl ?_
  refine seg 12 [] [2, 3, 16] [(2, (pt g2)), (3, (pt g5)), (16, (bv false))] [] (fun fb => by kernel_rfl) rfl trivial ?_
  exact WL.toV K false [16, 2, 3] rfl (by first | (rw [h8]; done) | (rw [h8]; rfl))
 rintro b9 rfl
 refine seg 13 [] [2, 3, 17] [(2, (pt g2)), (3, (pt g5)), (17, (bv ((p0.Width == p1.Width) && (p0.Height == p1.Height))))] [] (fun fb => by kernel_rfl) rfl trivial ?_
 obtain ⟨x10, hx11, hf⟩ := bind_some hf
 refine WL.cutW (T := Bool) 19 (fun t => [(23, (bv t))]) (fun t w1 => (St NoS w w1 [rowR encInt A_p0_Cells c_p0_Cells p0.Cells, rowR encInt A_p1_Cells c_p1_Cells p1.Cells] [] ∧ x10 = t) ∧ CellsOK [] w1) (fun K => ?_) ?_
 ·
  rcases br_some hx11 with ⟨h12, hx11⟩ | ⟨h12, hx11⟩
  ·
   refine WL.setB 17 h12 rfl ?_
   refine seg 17 [.v (sv A_p0_Cells p0.Cells c_p0_Cells), .v (sv A_p1_Cells p1.Cells c_p1_Cells)] [17, 19, 21] [(17, (bv true)), (19, (sv A_p0_Cells p0.Cells c_p0_Cells)), (21, (sv A_p1_Cells p1.Cells c_p1_Cells))] [.cell ⟨g2, 2, none⟩ (sv A_p0_Cells p0.Cells c_p0_Cells), .cell ⟨g5, 2, none⟩ (sv A_p1_Cells p1.Cells c_p1_Cells)] (fun fb => by kernel_rfl) rfl ⟨hS7.cell 1 rfl 2 rfl, hS7.cell 0 rfl 2 rfl, trivial⟩ ?_
   obtain ⟨t13, ht14, hx11⟩ := bind_some hx11
   refine WL.call (some 22) 64 #[(sv A_p0_Cells p0.Cells c_p0_Cells), (sv A_p1_Cells p1.Cells c_p1_Cells)] (fun fb => by kernel_rfl) (ref01_Same_calls _ p0.Cells p1.Cells A_p0_Cells c_p0_Cells A_p1_Cells c_p1_Cells t13 _ (hS7.rd 0) (hS7.rd 1) ht14) (fun v w15 hR16 => ?_)
   obtain ⟨rfl, hk_⟩ := hR16
   have hS17 := hS7.keepN hk_
   refine ⟨trivial, ?_⟩
   refine seg 19 [] [23] [(23, (bv t13))] [] (fun fb => by kernel_rfl) rfl trivial ?_
   injection hx11 with hx11
   exact WL.to K t13 [23] rfl ⟨⟨(hS17.subR [0, 1]).sub [] (by decide), hx11.symm⟩, trivial⟩
  refine WL.setB 17 h12 rfl ?_
  refine seg 19 [] [23] [(23, (bv false))] [] (fun fb => by kernel_rfl) rfl trivial ?_
  injection hx11 with hx11
  exact WL.to K false [23] rfl ⟨⟨(hS7.subR [0, 1]).sub [] (by decide), hx11.symm⟩, trivial⟩
 rintro y18 w20 ⟨⟨hS21, hq19⟩, hF22⟩
 subst hq19
 refine seg 20 [] [4] [(4, (bv x10))] [] (fun fb => by kernel_rfl) rfl trivial ?_
 refine WL.done rfl ?_
 refine WX.next ?_
 refine WC.ret ?_
 injection hf with hf
 subst hf
 exact WX.ret_ [] (bv x10) [] (fun fb => by kernel_rfl) trivial ⟨_, rfl, rfl, hS21.keep⟩
theorem law03_awake_calls (k : Nat)  (mG : Int) (r : Bool) (w : World) (hR0 : RO NoS w (cel ⟨2, 0, none⟩ (iv mG))) (hf : law03_awake k = some r) :
  CallsR Tryd.prog 14 #[] w (fun v w' => v = (bv r) ∧ Keeps NoS w w') := by
 have hS : St NoS w w [cel ⟨2, 0, none⟩ (iv mG)] [] := St.init (ro_cons hR0 (ro_nil _ _))
 refine enter 50 Tryd.func14 rfl Tryd.ntmps14 rfl ?_
 unfold law03_awake at hf
 refine WC.seq ?_
 refine WC.region ?_
 refine seg 1 [] [] [] [] (fun fb => by kernel_rfl) rfl trivial ?_
 refine WL.done rfl ?_
 refine WX.next ?_
 refine WC.seq ?_
 refine WC.region ?_
 obtain ⟨t4, ht5, hf⟩ := bind_some hf
 refine WL.call (some 12) 49 #[(.string (⟨#[48, 46, 49, 46, 49, 46, 48, 32, 49, 46, 48, 46, 48, 46, 49]⟩ : ByteArray))] (fun fb => by kernel_rfl) (tile_Parse_calls _ (⟨#[48, 46, 49, 46, 49, 46, 48, 32, 49, 46, 48, 46, 48, 46, 49]⟩ : ByteArray) mG t4 _ (hS.rd 0) ht5) (fun v w6 hR7 => ?_)
 obtain ⟨A9, c10, rfl, hk_⟩ := hR7
 have hS8 : St NoS w w6 [cel ⟨2, 0, none⟩ (iv mG)] [rowO 40 enc_Tile A9 c10 t4.1] := hS.call hk_ [] [] (fun g hg => hg.elim) (by simp) (by decide)
 refine ⟨trivial, ?_⟩
 refine seg 6 [] [1] [(1, (sv A9 t4.1 c10))] [] (fun fb => by kernel_rfl) rfl trivial ?_
 refine WL.done rfl ?_
 refine WX.next ?_
 refine WC.seq ?_
 refine WC.region ?_
 obtain ⟨t11, ht12, hf⟩ := bind_some hf
 refine WL.call (some 16) 49 #[(.string (⟨#[48, 46, 49, 46, 48, 46, 48]⟩ : ByteArray))] (fun fb => by kernel_rfl) (tile_Parse_calls _ (⟨#[48, 46, 49, 46, 48, 46, 48]⟩ : ByteArray) mG t11 _ (hS8.rd 0) ht12) (fun v w13 hR15 => ?_)
 obtain ⟨A17, c18, rfl, hk_⟩ := hR15
 have hS16 : St NoS w w13 [cel ⟨2, 0, none⟩ (iv mG)] [rowO 40 enc_Tile A17 c18 t11.1, rowO 40 enc_Tile A9 c10 t4.1] := hS8.call hk_ [] [0] (fun g hg => hg.elim) (by simp) (by decide)
 refine ⟨trivial, ?_⟩
 refine seg 6 [] [1, 3] [(1, (sv A9 t4.1 c10)), (3, (sv A17 t11.1 c18))] [] (fun fb => by kernel_rfl) rfl trivial ?_
 refine WL.done rfl ?_
 refine WX.next ?_
 refine WC.seq ?_
 refine WC.region ?_
 refine seg 1 [] [1, 3, 20] [(1, (sv A9 t4.1 c10)), (3, (sv A17 t11.1 c18)), (20, (sv A9 t4.1 c10))] [] (fun fb => by kernel_rfl) rfl trivial ?_
 obtain ⟨t19, ht20, hf⟩ := bind_some hf
 refine WL.call (some 21) 22 #[(sv A9 t4.1 c10), (iv 6)] (fun fb => by kernel_rfl) (torus_Least_calls _ t4.1 6 A9 c10 t19 _ (hS16.ow 1).ofO ht20) (fun v w21 hR22 => ?_)
 obtain ⟨A24, c25, rfl, hk_⟩ := hR22
 have hS23 : St NoS w w21 [cel ⟨2, 0, none⟩ (iv mG)] [rowO 3 encInt A24 c25 t19.1.Cells, rowO 40 enc_Tile A17 c18 t11.1, rowO 40 enc_Tile A9 c10 t4.1] := hS16.call hk_ [] [0, 1] (fun g hg => hg.elim) (by simp) (by decide)
 refine ⟨trivial, ?_⟩
 refine seg 5 [] [1, 3, 22, 23] [(1, (sv A9 t4.1 c10)), (3, (sv A17 t11.1 c18)), (22, (.agg #[(iv t19.1.Width), (iv t19.1.Height), (sv A24 t19.1.Cells c25)])), (23, (iv t19.2))] [] (fun fb => by kernel_rfl) rfl trivial ?_
 refine WL.new hS23 5 [] (fun g => (pt g)) (.cells #[(iv 0), (iv 0), (.slice none 0 0)] 27 (0, 0)) [] (fun fb g => by kernel_rfl) trivial (fun g26 w27 hS28 => ?_)
 refine ⟨trivial, ?_⟩
 refine WL.store hS28 0 rfl [(0, (iv t19.1.Width)), (1, (iv t19.1.Height)), (2, (sv A24 t19.1.Cells c25))] #[(iv t19.1.Width), (iv t19.1.Height), (sv A24 t19.1.Cells c25)] (fun fb => by kernel_rfl) (by kernel_rfl) rfl [1, 2, 3] (by decide) (by decide) (fun w29 hS30 => ?_)
 refine ⟨trivial, ?_⟩
 refine seg 8 [] [1, 3, 5, 6] [(1, (sv A9 t4.1 c10)), (3, (sv A17 t11.1 c18)), (5, (pt g26)), (6, (iv t19.2))] [] (fun fb => by kernel_rfl) rfl trivial ?_
 refine WL.done rfl ?_
 refine WX.next ?_
 refine WC.seq ?_
 refine WC.region ?_
 refine seg 1 [] [3, 5, 6, 25] [(3, (sv A17 t11.1 c18)), (5, (pt g26)), (6, (iv t19.2)), (25, (sv A9 t4.1 c10))] [] (fun fb => by kernel_rfl) rfl trivial ?_
 obtain ⟨t31, ht32, hf⟩ := bind_some hf
 refine WL.call (some 26) 16 #[(sv A9 t4.1 c10), (iv 2), (iv 1)] (fun fb => by kernel_rfl) (torus_Find_calls _ t4.1 2 1 A9 c10 t31 _ (hS30.ow 3).ofO ht32) (fun v w33 hR34 => ?_)
 obtain ⟨A36, c37, rfl, hk_⟩ := hR34
 have hS35 : St NoS w w33 [cel ⟨2, 0, none⟩ (iv mG)] [rowO 3 encInt A36 c37 t31.1.Cells, blk g26 (.cells #[(iv t19.1.Width), (iv t19.1.Height), (.slice A24 t19.1.Cells.length c25)] 27 (0, 0)), rowO 3 encInt A24 c25 t19.1.Cells, rowO 40 enc_Tile A17 c18 t11.1, rowO 40 enc_Tile A9 c10 t4.1] := hS30.call hk_ [] [0, 1, 2, 3] (fun g hg => hg.elim) (by simp) (by decide)
 refine ⟨trivial, ?_⟩
 refine seg 5 [] [3, 5, 6, 27, 28] [(3, (sv A17 t11.1 c18)), (5, (pt g26)), (6, (iv t19.2)), (27, (.agg #[(iv t31.1.Width), (iv t31.1.Height), (sv A36 t31.1.Cells c37)])), (28, (iv t31.2))] [] (fun fb => by kernel_rfl) rfl trivial ?_
 refine WL.new hS35 7 [] (fun g => (pt g)) (.cells #[(iv 0), (iv 0), (.slice none 0 0)] 27 (0, 0)) [] (fun fb g => by kernel_rfl) trivial (fun g38 w39 hS40 => ?_)
 refine ⟨trivial, ?_⟩
 refine WL.store hS40 0 rfl [(0, (iv t31.1.Width)), (1, (iv t31.1.Height)), (2, (sv A36 t31.1.Cells c37))] #[(iv t31.1.Width), (iv t31.1.Height), (sv A36 t31.1.Cells c37)] (fun fb => by kernel_rfl) (by kernel_rfl) rfl [1, 2, 3, 4, 5] (by decide) (by decide) (fun w41 hS42 => ?_)
 refine ⟨trivial, ?_⟩
 refine seg 8 [] [3, 5, 6, 8] [(3, (sv A17 t11.1 c18)), (5, (pt g26)), (6, (iv t19.2)), (8, (iv t31.2))] [] (fun fb => by kernel_rfl) rfl trivial ?_
 refine WL.done rfl ?_
 refine WX.next ?_
 refine WC.seq ?_
 refine WC.region ?_
 refine seg 1 [] [5, 6, 8, 30] [(5, (pt g26)), (6, (iv t19.2)), (8, (iv t31.2)), (30, (sv A17 t11.1 c18))] [] (fun fb => by kernel_rfl) rfl trivial ?_
 obtain ⟨t43, ht44, hf⟩ := bind_some hf
 refine WL.call (some 31) 22 #[(sv A17 t11.1 c18), (iv 4)] (fun fb => by kernel_rfl) (torus_Least_calls _ t11.1 4 A17 c18 t43 _ (hS42.ow 4).ofO ht44) (fun v w45 hR46 => ?_)
 obtain ⟨A48, c49, rfl, hk_⟩ := hR46
 have hS47 : St NoS w w45 [cel ⟨2, 0, none⟩ (iv mG)] [rowO 3 encInt A48 c49 t43.1.Cells, blk g38 (.cells #[(iv t31.1.Width), (iv t31.1.Height), (.slice A36 t31.1.Cells.length c37)] 27 (0, 0)), rowO 3 encInt A36 c37 t31.1.Cells, blk g26 (.cells #[(iv t19.1.Width), (iv t19.1.Height), (.slice A24 t19.1.Cells.length c25)] 27 (0, 0)), rowO 3 encInt A24 c25 t19.1.Cells, rowO 40 enc_Tile A17 c18 t11.1, rowO 40 enc_Tile A9 c10 t4.1] := hS42.call hk_ [] [0, 1, 2, 3, 4, 5] (fun g hg => hg.elim) (by simp) (by decide)
 refine ⟨trivial, ?_⟩
 refine seg 5 [] [5, 6, 8, 32, 33] [(5, (pt g26)), (6, (iv t19.2)), (8, (iv t31.2)), (32, (.agg #[(iv t43.1.Width), (iv t43.1.Height), (sv A48 t43.1.Cells c49)])), (33, (iv t43.2))] [] (fun fb => by kernel_rfl) rfl trivial ?_
 refine WL.new hS47 9 [] (fun g => (pt g)) (.cells #[(iv 0), (iv 0), (.slice none 0 0)] 27 (0, 0)) [] (fun fb g => by kernel_rfl) trivial (fun g50 w51 hS52 => ?_)
 refine ⟨trivial, ?_⟩
 refine WL.store hS52 0 rfl [(0, (iv t43.1.Width)), (1, (iv t43.1.Height)), (2, (sv A48 t43.1.Cells c49))] #[(iv t43.1.Width), (iv t43.1.Height), (sv A48 t43.1.Cells c49)] (fun fb => by kernel_rfl) (by kernel_rfl) rfl [1, 2, 3, 4, 5, 6, 7] (by decide) (by decide) (fun w53 hS54 => ?_)
 refine ⟨trivial, ?_⟩
 refine seg 8 [] [5, 6, 8, 10] [(5, (pt g26)), (6, (iv t19.2)), (8, (iv t31.2)), (10, (iv t43.2))] [] (fun fb => by kernel_rfl) rfl trivial ?_
 refine WL.done rfl ?_
 refine WX.next ?_
 refine WC.seq ?_
 refine WC.region ?_
 refine seg 3 [] [5, 8, 10, 36] [(5, (pt g26)), (8, (iv t31.2)), (10, (iv t43.2)), (36, (bv (t19.2 == 0)))] [] (fun fb => by kernel_rfl) rfl trivial ?_
 refine WL.cutV (T := Bool) 6 (fun t => [(39, (bv t)), (5, (pt g26)), (10, (iv t43.2))]) (fun t => ((t19.2 == 0) && (t31.2 == 6)) = t) (fun K => ?_) ?_
 ·
  rcases Bool.eq_false_or_eq_true (t19.2 == 0) with h55 | h55
  ·
   refine WL.setB 36 h55 rfl ?_
   refine seg 6 [] [5, 10, 39] [(5, (pt g26)), (10, (iv t43.2)), (39, (bv (t31.2 == 6)))] [] (fun fb => by kernel_rfl) rfl trivial ?_
   exact WL.toV K (t31.2 == 6) [39, 5, 10] rfl (by first | (rw [h55]; done) | (rw [h55]; rfl))
  refine WL.setB 36 h55 rfl ?_
  refine seg 6 [] [5, 10, 39] [(5, (pt g26)), (10, (iv t43.2)), (39, (bv false))] [] (fun fb => by kernel_rfl) rfl trivial ?_
  exact WL.toV K false [39, 5, 10] rfl (by first | (rw [h55]; done) | (rw [h55]; rfl))
 rintro b56 rfl
 refine seg 7 [] [5, 10, 40] [(5, (pt g26)), (10, (iv t43.2)), (40, (bv ((t19.2 == 0) && (t31.2 == 6))))] [] (fun fb => by kernel_rfl) rfl trivial ?_
 refine WL.cutV (T := Bool) 10 (fun t => [(43, (bv t)), (5, (pt g26))]) (fun t => (((t19.2 == 0) && (t31.2 == 6)) && (t43.2 == 6)) = t) (fun K => ?_) ?_
 ·
  rcases Bool.eq_false_or_eq_true ((t19.2 == 0) && (t31.2 == 6)) with h57 | h57
  ·
   refine WL.setB 40 h57 rfl ?_
   refine seg 10 [] [5, 43] [(5, (pt g26)), (43, (bv (t43.2 == 6)))] [] (fun fb => by kernel_rfl) rfl trivial ?_
   exact WL.toV K (t43.2 == 6) [43, 5] rfl (by first | (rw [h57]; done) | (rw [h57]; rfl))
  refine WL.setB 40 h57 rfl ?_
  refine seg 10 [] [5, 43] [(5, (pt g26)), (43, (bv false))] [] (fun fb => by kernel_rfl) rfl trivial ?_
  exact WL.toV K false [43, 5] rfl (by first | (rw [h57]; done) | (rw [h57]; rfl))
 rintro b58 rfl
 refine seg 11 [] [5, 44] [(5, (pt g26)), (44, (bv (((t19.2 == 0) && (t31.2 == 6)) && (t43.2 == 6))))] [] (fun fb => by kernel_rfl) rfl trivial ?_
 obtain ⟨x59, hx60, hf⟩ := bind_some hf
 refine WL.cutW (T := Bool) 16 (fun t => [(49, (bv t))]) (fun t w1 => (St NoS w w1 [cel ⟨2, 0, none⟩ (iv mG)] [] ∧ x59 = t) ∧ CellsOK [] w1) (fun K => ?_) ?_
 ·
  rcases br_some hx60 with ⟨h61, hx60⟩ | ⟨h61, hx60⟩
  ·
   refine WL.setB 44 h61 rfl ?_
   refine seg 12 [.v (iv t19.1.Width), .v (iv t19.1.Height), .v (sv A24 t19.1.Cells c25)] [44, 45] [(44, (bv true)), (45, (.agg #[(iv t19.1.Width), (iv t19.1.Height), (sv A24 t19.1.Cells c25)]))] [.cell ⟨g26, 0, none⟩ (iv t19.1.Width), .cell ⟨g26, 1, none⟩ (iv t19.1.Height), .cell ⟨g26, 2, none⟩ (sv A24 t19.1.Cells c25)] (fun fb => by kernel_rfl) rfl ⟨hS54.cell 4 rfl 0 rfl, hS54.cell 4 rfl 1 rfl, hS54.cell 4 rfl 2 rfl, trivial⟩ ?_
   refine WL.new hS54 46 [] (fun g => (.slice (some ⟨g, 0, none⟩) 4 4)) (.cells #[(iv 0), (iv 1), (iv 1), (iv 0)] 3 (0, 0)) [] (fun fb g => by kernel_rfl) trivial (fun g62 w63 hS65 => ?_)
   refine ⟨trivial, ?_⟩
   have hS66 : St NoS w w63 [cel ⟨2, 0, none⟩ (iv mG)] [rowO 3 encInt (some ⟨g62, 0, none⟩) 4 [0, 1, 1, 0], blk g50 (.cells #[(iv t43.1.Width), (iv t43.1.Height), (sv A48 t43.1.Cells c49)] 27 (0, 0)), rowO 3 encInt A48 c49 t43.1.Cells, blk g38 (.cells #[(iv t31.1.Width), (iv t31.1.Height), (sv A36 t31.1.Cells c37)] 27 (0, 0)), rowO 3 encInt A36 c37 t31.1.Cells, blk g26 (.cells #[(iv t19.1.Width), (iv t19.1.Height), (sv A24 t19.1.Cells c25)] 27 (0, 0)), rowO 3 encInt A24 c25 t19.1.Cells, rowO 40 enc_Tile A17 c18 t11.1, rowO 40 enc_Tile A9 c10 t4.1] := hS65.map1 0 _ (fun h => rowO.ofBlk h rfl (Nat.le_of_ble_eq_true (by kernel_rfl))) (fun _ h => by obtain ⟨_, h1, h2⟩ := h; injection h1 with h1; subst h1; exact h2) [1, 2, 3, 4, 5, 6, 7, 8] (by decide) (by decide)
   refine seg 14 [] [44, 45, 47] [(44, (bv true)), (45, (.agg #[(iv t19.1.Width), (iv t19.1.Height), (sv A24 t19.1.Cells c25)])), (47, (.agg #[(iv 2), (iv 2), (sv (some ⟨g62, 0, none⟩) [0, 1, 1, 0] 4)]))] [] (fun fb => by kernel_rfl) rfl trivial ?_
   obtain ⟨t67, ht68, hx60⟩ := bind_some hx60
   refine WL.call (some 48) 32 #[(.agg #[(iv t19.1.Width), (iv t19.1.Height), (sv A24 t19.1.Cells c25)]), (.agg #[(iv 2), (iv 2), (sv (some ⟨g62, 0, none⟩) [0, 1, 1, 0] 4)])] (fun fb => by kernel_rfl) (ref01_SamePattern_calls _ t19.1 (Pattern.mk 2 2 [0, 1, 1, 0]) A24 c25 (some ⟨g62, 0, none⟩) 4 t67 _ (hS66.ow 6).ofO (hS66.ow 0).ofO ht68) (fun v w69 hR70 => ?_)
   obtain ⟨rfl, hk_⟩ := hR70
   have hS71 := hS66.keepN hk_
   refine ⟨trivial, ?_⟩
   refine seg 16 [] [49] [(49, (bv t67))] [] (fun fb => by kernel_rfl) rfl trivial ?_
   injection hx60 with hx60
   exact WL.to K t67 [49] rfl ⟨⟨(hS71.subR [0]).sub [] (by decide), hx60.symm⟩, trivial⟩
  refine WL.setB 44 h61 rfl ?_
  refine seg 16 [] [49] [(49, (bv false))] [] (fun fb => by kernel_rfl) rfl trivial ?_
  injection hx60 with hx60
  exact WL.to K false [49] rfl ⟨⟨(hS54.subR [0]).sub [] (by decide), hx60.symm⟩, trivial⟩
 rintro y72 w74 ⟨⟨hS75, hq73⟩, hF76⟩
 subst hq73
 refine seg 17 [] [0] [(0, (bv x59))] [] (fun fb => by kernel_rfl) rfl trivial ?_
 refine WL.done rfl ?_
 refine WX.next ?_
 refine WC.ret ?_
 injection hf with hf
 subst hf
 exact WX.ret_ [] (bv x59) [] (fun fb => by kernel_rfl) trivial ⟨_, rfl, rfl, hS75.keep⟩
theorem ref01_colour_calls (p0 : Int)  (r : Bool) (w : World)  (hf : ref01_colour p0 = some r) :
  CallsR Tryd.prog 50 #[(iv p0)] w (fun v w' => v = (bv r) ∧ Keeps NoS w w') := by
 have hS : St NoS w w [] [] := St.init (ro_nil _ _)
 refine enter 9 Tryd.func50 rfl Tryd.ntmps50 rfl ?_
 unfold ref01_colour at hf
 refine WC.seq ?_
 refine WC.region ?_
 refine seg 1 [] [0] [(0, (iv p0))] [] (fun fb => by kernel_rfl) rfl trivial ?_
 refine WL.done rfl ?_
 refine WX.next ?_
 refine WC.seq ?_
 refine WC.region ?_
 refine seg 3 [] [0, 5] [(0, (iv p0)), (5, (bv (decide (p0 ≥ 0))))] [] (fun fb => by kernel_rfl) rfl trivial ?_
 refine WL.cutV (T := Bool) 6 (fun t => [(8, (bv t))]) (fun t => ((decide (p0 ≥ 0)) && (decide (p0 < 1000))) = t) (fun K => ?_) ?_
 ·
  rcases Bool.eq_false_or_eq_true (decide (p0 ≥ 0)) with h2 | h2
  ·
   refine WL.setB 5 h2 rfl ?_
   refine seg 6 [] [8] [(8, (bv (decide (p0 < 1000))))] [] (fun fb => by kernel_rfl) rfl trivial ?_
   exact WL.toV K (decide (p0 < 1000)) [8] rfl (by first | (rw [h2]; done) | (rw [h2]; rfl))
  refine WL.setB 5 h2 rfl ?_
  refine seg 6 [] [8] [(8, (bv false))] [] (fun fb => by kernel_rfl) rfl trivial ?_
  exact WL.toV K false [8] rfl (by first | (rw [h2]; done) | (rw [h2]; rfl))
 rintro b3 rfl
 refine seg 7 [] [2] [(2, (bv ((decide (p0 ≥ 0)) && (decide (p0 < 1000)))))] [] (fun fb => by kernel_rfl) rfl trivial ?_
 refine WL.done rfl ?_
 refine WX.next ?_
 refine WC.ret ?_
 injection hf with hf
 subst hf
 exact WX.ret_ [] (bv ((decide (p0 ≥ 0)) && (decide (p0 < 1000)))) [] (fun fb => by kernel_rfl) trivial ⟨_, rfl, rfl, hS.keep⟩
theorem ref01_Index_calls (k : Nat) (p0 : List Tile) (p1 : Tile) (A_p0 : Option Addr) (c_p0 : Nat) (r : Int) (w : World) (hR0 : RO NoS w (rowR enc_Tile A_p0 c_p0 p0)) (hf : ref01_Index k p0 p1 = some r) :
  CallsR Tryd.prog 51 #[(sv A_p0 p0 c_p0), (.agg #[(iv p1.N), (iv p1.E), (iv p1.S), (iv p1.W)])] w (fun v w' => v = (iv r) ∧ Keeps NoS w w') := by
 have hS : St NoS w w [rowR enc_Tile A_p0 c_p0 p0] [] := St.init (ro_cons hR0 (ro_nil _ _))
 refine enter 19 Tryd.func51 rfl Tryd.ntmps51 rfl ?_
 unfold ref01_Index at hf
 refine WC.seq ?_
 refine WC.region ?_
 refine WL.new hS 3 [] (fun g => (pt g)) (.cells #[(iv p1.N), (iv p1.E), (iv p1.S), (iv p1.W)] 40 (0, 0)) [] (fun fb g => by kernel_rfl) trivial (fun g3 w4 hS5 => ?_)
 refine ⟨trivial, ?_⟩
 refine seg 2 [] [0, 3] [(0, (sv A_p0 p0 c_p0)), (3, (pt g3))] [] (fun fb => by kernel_rfl) rfl trivial ?_
 refine WL.done rfl ?_
 refine WX.next ?_
 refine WC.seq ?_
 refine WC.seq ?_
 refine WC.region ?_
 refine seg 1 [] [0, 3, 5] [(0, (sv A_p0 p0 c_p0)), (3, (pt g3)), (5, (iv 0))] [] (fun fb => by kernel_rfl) rfl trivial ?_
 refine WL.done rfl ?_
 refine WX.next ?_
 obtain ⟨x7, hx8, hf⟩ := bind_some hf
 refine WC.cutN (T := Unit) (fun t => []) (fun t w1 => St NoS w w1 [rowR enc_Tile A_p0 c_p0 p0] [] ∧ x7 = .inr t) (fun Kx7 => ?_) ?_
 ·
  refine WC.block ?_
  refine WC.loop (T := Int) (fun t => [(0, (sv A_p0 p0 c_p0)), (3, (pt g3)), (5, (iv t))]) (fun n t w1 => St NoS w w1 [rowR enc_Tile A_p0 c_p0 p0] [blk g3 (.cells #[(iv p1.N), (iv p1.E), (iv p1.S), (iv p1.W)] 40 (0, 0))] ∧ ref01_Index.l0 n t p0 p1 = some x7) k 0 [0, 3, 5] rfl ⟨(hS5.subR [0]).sub [0] (by decide), hx8⟩ ?_
  rintro k9 x6 w10 ⟨hS11, hl12⟩
  cases k9 with
  | zero => rw [ref01_Index.l0] at hl12; cases hl12
  | succ k9 =>
   rw [ref01_Index.l0] at hl12
   refine WC.seq ?_
   refine WC.seq ?_
   refine WC.region ?_
   refine seg 4 [] [0, 3, 5, 9] [(0, (sv A_p0 p0 c_p0)), (3, (pt g3)), (5, (iv x6)), (9, (bv (decide (x6 < (p0.length : Int)))))] [] (fun fb => by kernel_rfl) rfl trivial ?_
   refine WL.done rfl ?_
   refine WX.next ?_
   rcases br_some hl12 with ⟨h13, hl12⟩ | ⟨h13, hl12⟩
   ·refine WC.condT2 (fun fb => by kernel_rfl) h13 ?_
    refine WC.skip ?_
    refine WX.next ?_
    refine WC.seq ?_
    refine WC.block ?_
    refine WC.seq ?_
    obtain ⟨h16, hl12⟩ := as_some hl12
    refine WC.regionD ([(3, ((adr A_p0).add ((x6).toNat * 4)), (iv ((rdD p0 x6 z_Tile).N))), (3, (((adr A_p0).add ((x6).toNat * 4)).add 1), (iv ((rdD p0 x6 z_Tile).E))), (3, (((adr A_p0).add ((x6).toNat * 4)).add 2), (iv ((rdD p0 x6 z_Tile).S))), (3, (((adr A_p0).add ((x6).toNat * 4)).add 3), (iv ((rdD p0 x6 z_Tile).W))), (4, ⟨g3, 0, none⟩, (iv p1.N)), (4, ⟨g3, 1, none⟩, (iv p1.E)), (4, ⟨g3, 2, none⟩, (iv p1.S)), (4, ⟨g3, 3, none⟩, (iv p1.W))], [0, 1, 2, 3, 4, 5], [[], [], [0, 1], [0, 1, 2], [], [0, 1, 2, 3, 4]]) [[0, 1, 2, 3, 4, 5]] (by kernel_rfl) (by kernel_rfl) (NoPanic.seq (NoPanic.block (NoPanic.seq (NoPanic.seq (NoPanic.block (NoPanic.seq (NoPanic.body))))))) ?_
    have hS15 := hS11.drew
    revert hS15
    generalize World.drew w10 = w14
    intro hS15
    refine ⟨⟨rowR.cell (hS15.rd 0).1 z_Tile h16.1 h16.2 0 rfl, rowR.cell (hS15.rd 0).1 z_Tile h16.1 h16.2 1 rfl, rowR.cell (hS15.rd 0).1 z_Tile h16.1 h16.2 2 rfl, rowR.cell (hS15.rd 0).1 z_Tile h16.1 h16.2 3 rfl, hS15.cell 0 rfl 0 rfl, hS15.cell 0 rfl 1 rfl, hS15.cell 0 rfl 2 rfl, hS15.cell 0 rfl 3 rfl, trivial⟩, forallC ?_ (forallN)⟩
    refine segF 6 [.v (iv ((rdD p0 x6 z_Tile).N)), .v (iv ((rdD p0 x6 z_Tile).E)), .v (iv ((rdD p0 x6 z_Tile).S)), .v (iv ((rdD p0 x6 z_Tile).W)), .v (iv p1.N), .v (iv p1.E), .v (iv p1.S), .v (iv p1.W)] [0, 3, 5, 17] [(0, (sv A_p0 p0 c_p0)), (3, (pt g3)), (5, (iv x6)), (17, (bv (((rdD p0 x6 z_Tile).N) == p1.N && (((rdD p0 x6 z_Tile).E) == p1.E && (((rdD p0 x6 z_Tile).S) == p1.S && (((rdD p0 x6 z_Tile).W) == p1.W))))))] [.idx A_p0 x6 p0.length] [0, 1, 2, 3, 4, 5, 6, 7] [(3, ((adr A_p0).add ((x6).toNat * 4)), (iv ((rdD p0 x6 z_Tile).N))), (3, (((adr A_p0).add ((x6).toNat * 4)).add 1), (iv ((rdD p0 x6 z_Tile).E))), (3, (((adr A_p0).add ((x6).toNat * 4)).add 2), (iv ((rdD p0 x6 z_Tile).S))), (3, (((adr A_p0).add ((x6).toNat * 4)).add 3), (iv ((rdD p0 x6 z_Tile).W))), (4, ⟨g3, 0, none⟩, (iv p1.N)), (4, ⟨g3, 1, none⟩, (iv p1.E)), (4, ⟨g3, 2, none⟩, (iv p1.S)), (4, ⟨g3, 3, none⟩, (iv p1.W))] (fun fb => by kernel_rfl) rfl ⟨rowR.adr (hS15.rd 0).1 h16.1 h16.2, trivial⟩ rfl ?_
    refine WL.done rfl ?_
    refine WX.next ?_
    rcases br_some hl12 with ⟨h17, hl12⟩ | ⟨h17, hl12⟩
    ·refine WC.condT2 (fun fb => by kernel_rfl) h17 ?_
     refine WC.seq ?_
     refine WC.region ?_
     refine seg 2 [] [4] [(4, (iv x6))] [] (fun fb => by kernel_rfl) rfl trivial ?_
     refine WL.done rfl ?_
     refine WX.next ?_
     refine WC.ret ?_
     injection hl12 with hl12
     subst hl12
     injection hf with hf
     subst hf
     exact WX.blockR (WX.thenR (WX.thenR (WX.blockR (WX.thenR (WX.ret_ [] (iv x6) [] (fun fb => by kernel_rfl) trivial ⟨_, rfl, rfl, hS15.keep⟩)))))
    refine WC.condF2 (fun fb => by kernel_rfl) h17 ?_
    refine WC.skip ?_
    refine WX.blockN (WX.next ?_)
    refine WC.region ?_
    refine seg 3 [] [0, 3, 5] [(0, (sv A_p0 p0 c_p0)), (3, (pt g3)), (5, (iv (w64 (x6 + 1))))] [] (fun fb => by kernel_rfl) rfl trivial ?_
    refine WL.done rfl ?_
    exact WX.again k9 (Nat.lt_succ_self _) (w64 (x6 + 1)) [0, 3, 5] rfl ⟨(hS15.subR [0]).sub [0] (by decide), hl12⟩
   refine WC.condF2 (fun fb => by kernel_rfl) h13 ?_
   refine WC.exit ?_
   injection hl12 with hl12
   exact WX.thenX (WX.thenX (WX.blockHere (WX.to Kx7 () [] rfl ⟨(hS11.subR [0]).sub [] (by decide), hl12.symm⟩)))
 rintro y21 w18 ⟨hS19, hq20⟩
 subst hq20
 have hf := sum_inr hf
 refine WX.next ?_
 refine WC.seq ?_
 refine WC.region ?_
 refine seg 1 [] [4] [(4, (iv (-1)))] [] (fun fb => by kernel_rfl) rfl trivial ?_
 refine WL.done rfl ?_
 refine WX.next ?_
 refine WC.ret ?_
 injection hf with hf
 subst hf
 exact WX.ret_ [] (iv (-1)) [] (fun fb => by kernel_rfl) trivial ⟨_, rfl, rfl, hS19.keep⟩
theorem ref01_Valid_calls (k : Nat) (p0 : List Tile) (A_p0 : Option Addr) (c_p0 : Nat) (r : Bool) (w : World) (hR0 : RO NoS w (rowR enc_Tile A_p0 c_p0 p0)) (hf : ref01_Valid k p0 = some r) :
  CallsR Tryd.prog 15 #[(sv A_p0 p0 c_p0)] w (fun v w' => v = (bv r) ∧ Keeps NoS w w') := by
 have hS : St NoS w w [rowR enc_Tile A_p0 c_p0 p0] [] := St.init (ro_cons hR0 (ro_nil _ _))
 refine enter 48 Tryd.func15 rfl Tryd.ntmps15 rfl ?_
 unfold ref01_Valid at hf
 refine WC.seq ?_
 refine WC.region ?_
 refine seg 1 [] [0] [(0, (sv A_p0 p0 c_p0))] [] (fun fb => by kernel_rfl) rfl trivial ?_
 refine WL.done rfl ?_
 refine WX.next ?_
 refine WC.seq ?_
 refine WC.seq ?_
 refine WC.region ?_
 refine seg 3 [] [0, 7] [(0, (sv A_p0 p0 c_p0)), (7, (bv (decide ((p0.length : Int) > 1000))))] [] (fun fb => by kernel_rfl) rfl trivial ?_
 refine WL.done rfl ?_
 refine WX.next ?_
 rcases br_some hf with ⟨h3, hf⟩ | ⟨h3, hf⟩
 ·refine WC.condT2 (fun fb => by kernel_rfl) h3 ?_
  refine WC.seq ?_
  refine WC.region ?_
  refine seg 1 [] [2] [(2, (bv false))] [] (fun fb => by kernel_rfl) rfl trivial ?_
  refine WL.done rfl ?_
  refine WX.next ?_
  refine WC.ret ?_
  injection hf with hf
  subst hf
  exact WX.thenR (WX.ret_ [] (bv false) [] (fun fb => by kernel_rfl) trivial ⟨_, rfl, rfl, hS.keep⟩)
 refine WC.condF2 (fun fb => by kernel_rfl) h3 ?_
 refine WC.skip ?_
 refine WX.next ?_
 refine WC.seq ?_
 refine WC.seq ?_
 refine WC.region ?_
 refine seg 1 [] [0, 3] [(0, (sv A_p0 p0 c_p0)), (3, (iv 0))] [] (fun fb => by kernel_rfl) rfl trivial ?_
 refine WL.done rfl ?_
 refine WX.next ?_
 obtain ⟨x5, hx6, hf⟩ := bind_some hf
 refine WC.cutN (T := Unit) (fun t => []) (fun t w1 => St NoS w w1 [rowR enc_Tile A_p0 c_p0 p0] [] ∧ x5 = .inr t) (fun Kx5 => ?_) ?_
 ·
  refine WC.block ?_
  refine WC.loop (T := Int) (fun t => [(0, (sv A_p0 p0 c_p0)), (3, (iv t))]) (fun n t w1 => St NoS w w1 [rowR enc_Tile A_p0 c_p0 p0] [] ∧ ref01_Valid.l0 n t p0 = some x5) k 0 [0, 3] rfl ⟨(hS.subR [0]).sub [] (by decide), hx6⟩ ?_
  rintro k7 x4 w8 ⟨hS9, hl10⟩
  cases k7 with
  | zero => rw [ref01_Valid.l0] at hl10; cases hl10
  | succ k7 =>
   rw [ref01_Valid.l0] at hl10
   refine WC.seq ?_
   refine WC.seq ?_
   refine WC.region ?_
   refine seg 4 [] [0, 3, 11] [(0, (sv A_p0 p0 c_p0)), (3, (iv x4)), (11, (bv (decide (x4 < (p0.length : Int)))))] [] (fun fb => by kernel_rfl) rfl trivial ?_
   refine WL.done rfl ?_
   refine WX.next ?_
   rcases br_some hl10 with ⟨h11, hl10⟩ | ⟨h11, hl10⟩
   ·refine WC.condT2 (fun fb => by kernel_rfl) h11 ?_
    refine WC.skip ?_
    refine WX.next ?_
    refine WC.seq ?_
    refine WC.block ?_
    refine WC.seq ?_
    refine WC.region ?_
    refine seg 2 [] [0, 3, 14, 15] [(0, (sv A_p0 p0 c_p0)), (3, (iv x4)), (14, (sv A_p0 p0 c_p0)), (15, (iv x4))] [] (fun fb => by kernel_rfl) rfl trivial ?_
    obtain ⟨h12, hl10⟩ := as_some hl10
    refine seg 4 [.v (iv ((rdD p0 x4 z_Tile).N)), .v (iv ((rdD p0 x4 z_Tile).E)), .v (iv ((rdD p0 x4 z_Tile).S)), .v (iv ((rdD p0 x4 z_Tile).W))] [0, 3, 17] [(0, (sv A_p0 p0 c_p0)), (3, (iv x4)), (17, (.agg #[(iv ((rdD p0 x4 z_Tile).N)), (iv ((rdD p0 x4 z_Tile).E)), (iv ((rdD p0 x4 z_Tile).S)), (iv ((rdD p0 x4 z_Tile).W))]))] [.idx A_p0 x4 p0.length, .cell ((adr A_p0).add ((x4).toNat * 4)) (iv ((rdD p0 x4 z_Tile).N)), .cell (((adr A_p0).add ((x4).toNat * 4)).add 1) (iv ((rdD p0 x4 z_Tile).E)), .cell (((adr A_p0).add ((x4).toNat * 4)).add 2) (iv ((rdD p0 x4 z_Tile).S)), .cell (((adr A_p0).add ((x4).toNat * 4)).add 3) (iv ((rdD p0 x4 z_Tile).W))] (fun fb => by kernel_rfl) rfl ⟨rowR.adr (hS9.rd 0).1 h12.1 h12.2, rowR.cell (hS9.rd 0).1 z_Tile h12.1 h12.2 0 rfl, rowR.cell (hS9.rd 0).1 z_Tile h12.1 h12.2 1 rfl, rowR.cell (hS9.rd 0).1 z_Tile h12.1 h12.2 2 rfl, rowR.cell (hS9.rd 0).1 z_Tile h12.1 h12.2 3 rfl, trivial⟩ ?_
    refine WL.new hS9 4 [] (fun g => (pt g)) (.cells #[(iv 0), (iv 0), (iv 0), (iv 0)] 40 (0, 0)) [] (fun fb g => by kernel_rfl) trivial (fun g13 w14 hS16 => ?_)
    refine ⟨trivial, ?_⟩
    refine WL.store hS16 0 rfl [(0, (iv ((rdD p0 x4 z_Tile).N))), (1, (iv ((rdD p0 x4 z_Tile).E))), (2, (iv ((rdD p0 x4 z_Tile).S))), (3, (iv ((rdD p0 x4 z_Tile).W)))] #[(iv ((rdD p0 x4 z_Tile).N)), (iv ((rdD p0 x4 z_Tile).E)), (iv ((rdD p0 x4 z_Tile).S)), (iv ((rdD p0 x4 z_Tile).W))] (fun fb => by kernel_rfl) (by kernel_rfl) rfl [] (by decide) (by decide) (fun w17 hS18 => ?_)
    refine ⟨trivial, ?_⟩
    refine WL.done rfl ?_
    refine WX.next ?_
    refine WC.seq ?_
    refine WC.regionD ([(1, ⟨g13, 0, none⟩, (iv ((rdD p0 x4 z_Tile).N))), (6, ⟨g13, 1, none⟩, (iv ((rdD p0 x4 z_Tile).E))), (12, ⟨g13, 2, none⟩, (iv ((rdD p0 x4 z_Tile).S))), (18, ⟨g13, 3, none⟩, (iv ((rdD p0 x4 z_Tile).W))), (26, ⟨g13, 0, none⟩, (iv ((rdD p0 x4 z_Tile).N))), (26, ⟨g13, 1, none⟩, (iv ((rdD p0 x4 z_Tile).E))), (26, ⟨g13, 2, none⟩, (iv ((rdD p0 x4 z_Tile).S))), (26, ⟨g13, 3, none⟩, (iv ((rdD p0 x4 z_Tile).W)))], [0, 1, 3, 4, 5, 6, 8, 9, 10, 11, 12, 14, 15, 16, 17, 18, 20, 21, 22, 23, 24, 25, 26, 28, 29], [[], [0], [0, 1], [0, 1, 2], [0, 1, 2, 3], [0, 1, 2, 3, 4], [0, 1, 2, 3, 4, 5], [0, 1, 2, 3, 4, 5, 6], [0, 1, 2, 3, 4, 5, 6, 7], [0, 1, 2, 3, 4, 5, 6, 7, 8], [0, 1, 2, 3, 4, 5, 6, 7, 8, 9], [0, 1, 2, 3, 4, 5, 6, 7, 8, 9, 10], [0, 1, 2, 3, 4, 5, 6, 7, 8, 9, 10, 11], [0, 1, 2, 3, 4, 5, 6, 7, 8, 9, 10, 11, 12], [0, 1, 2, 3, 4, 5, 6, 7, 8, 9, 10, 11, 12, 13], [0, 1, 2, 3, 4, 5, 6, 7, 8, 9, 10, 11, 12, 13, 14], [0, 1, 2, 3, 4, 5, 6, 7, 8, 9, 10, 11, 12, 13, 14, 15], [0, 1, 2, 3, 4, 5, 6, 7, 8, 9, 10, 11, 12, 13, 14, 15, 16], [0, 1, 2, 3, 4, 5, 6, 7, 8, 9, 10, 11, 12, 13, 14, 15, 16, 17], [0, 1, 2, 3, 4, 5, 6, 7, 8, 9, 10, 11, 12, 13, 14, 15, 16, 17, 18], [0, 1, 2, 3, 4, 5, 6, 7, 8, 9, 10, 11, 12, 13, 14, 15, 16, 17, 18, 19], [0, 1, 2, 3, 4, 5, 6, 7, 8, 9, 10, 11, 12, 13, 14, 15, 16, 17, 18, 19, 20], [0, 1, 2, 3, 4, 5, 6, 7, 8, 9, 10, 11, 12, 13, 14, 15, 16, 17, 18, 19, 20, 21], [0, 1, 2, 3, 4, 5, 6, 7, 8, 9, 10, 11, 12, 13, 14, 15, 16, 17, 18, 19, 20, 21, 22], [0, 1, 2, 3, 4, 5, 6, 7, 8, 9, 10, 11, 12, 13, 14, 15, 16, 17, 18, 19, 20, 21, 22], [0, 1, 2, 3, 4, 5, 6, 7, 8, 9, 10, 11, 12, 13, 14, 15, 16, 17, 18, 19, 20, 21, 22, 23, 24], [0, 1, 2, 3, 4, 5, 6, 7, 8, 9, 10, 11, 12, 13, 14, 15, 16, 17, 18, 19, 20, 21, 22], [0, 1, 2, 3, 4, 5, 6, 7, 8, 9, 10, 11, 12, 13, 14, 15, 16, 17, 18, 19, 20, 21, 22, 23, 24, 25, 26], [0, 1, 2, 3, 4, 5, 6, 7, 8, 9, 10, 11, 12, 13, 14, 15, 16, 17, 18, 19, 20, 21, 22, 23, 24, 25, 26, 27], [0, 1, 2, 3, 4, 5, 6, 7, 8, 9, 10, 11, 12, 13, 14, 15, 16, 17, 18, 19, 20, 21, 22, 23, 24, 25, 26, 27, 28]]) [[0, 1, 2, 3, 4, 5, 6, 7, 8, 9, 10, 11, 12, 13, 14, 15, 16, 17, 18, 19, 20, 21, 22, 23, 24, 25, 26, 27, 28, 29]] (by kernel_rfl) (by kernel_rfl) (NoPanic.seq (NoPanic.block (NoPanic.seq (NoPanic.seq (NoPanic.block (NoPanic.seq (NoPanic.body))))))) ?_
    have hS20 := hS18.drew
    revert hS20
    generalize World.drew w17 = w19
    intro hS20
    refine ⟨⟨hS20.cell 0 rfl 0 rfl, hS20.cell 0 rfl 1 rfl, hS20.cell 0 rfl 2 rfl, hS20.cell 0 rfl 3 rfl, hS20.cell 0 rfl 0 rfl, hS20.cell 0 rfl 1 rfl, hS20.cell 0 rfl 2 rfl, hS20.cell 0 rfl 3 rfl, trivial⟩, forallC ?_ (forallN)⟩
    refine segF 2 [.v (iv ((rdD p0 x4 z_Tile).N))] [0, 3, 4, 19] [(0, (sv A_p0 p0 c_p0)), (3, (iv x4)), (4, (pt g13)), (19, (iv ((rdD p0 x4 z_Tile).N)))] [] [0] [(1, ⟨g13, 0, none⟩, (iv ((rdD p0 x4 z_Tile).N)))] (fun fb => by kernel_rfl) rfl trivial rfl ?_
    obtain ⟨t21, ht22, hl10⟩ := bind_some hl10
    refine WL.call (some 20) 50 #[(iv ((rdD p0 x4 z_Tile).N))] (fun fb => by kernel_rfl) (ref01_colour_calls ((rdD p0 x4 z_Tile).N) t21 _ ht22) (fun v w23 hR24 => ?_)
    obtain ⟨rfl, hk_⟩ := hR24
    have hS25 := hS20.keepN hk_
    refine ⟨⟨hS25.cell 0 rfl 1 rfl, hS25.cell 0 rfl 2 rfl, hS25.cell 0 rfl 3 rfl, hS25.cell 0 rfl 0 rfl, hS25.cell 0 rfl 1 rfl, hS25.cell 0 rfl 2 rfl, hS25.cell 0 rfl 3 rfl, trivial⟩, ?_⟩
    refine seg 5 [] [0, 3, 4, 22] [(0, (sv A_p0 p0 c_p0)), (3, (iv x4)), (4, (pt g13)), (22, (bv (!t21)))] [] (fun fb => by kernel_rfl) rfl trivial ?_
    obtain ⟨x26, hx27, hl10⟩ := bind_some hl10
    refine WL.cutW (T := Bool) 10 (fun t => [(0, (sv A_p0 p0 c_p0)), (3, (iv x4)), (4, (pt g13)), (27, (bv t))]) (fun t w1 => (St NoS w w1 [rowR enc_Tile A_p0 c_p0 p0] [blk g13 (.cells #[(iv ((rdD p0 x4 z_Tile).N)), (iv ((rdD p0 x4 z_Tile).E)), (iv ((rdD p0 x4 z_Tile).S)), (iv ((rdD p0 x4 z_Tile).W))] 40 (0, 0))] ∧ x26 = t) ∧ CellsOK [] w1) (fun K => ?_) ?_
    ·
     rcases br_some hx27 with ⟨h28, hx27⟩ | ⟨h28, hx27⟩
     ·
      refine WL.setB 22 h28 rfl ?_
      refine seg 10 [] [0, 3, 4, 27] [(0, (sv A_p0 p0 c_p0)), (3, (iv x4)), (4, (pt g13)), (27, (bv true))] [] (fun fb => by kernel_rfl) rfl trivial ?_
      injection hx27 with hx27
      exact WL.to K true [0, 3, 4, 27] rfl ⟨⟨(hS25.subR [0]).sub [0] (by decide), hx27.symm⟩, trivial⟩
     refine WL.setB 22 h28 rfl ?_
     refine segF 7 [.v (iv ((rdD p0 x4 z_Tile).E))] [0, 3, 4, 22, 24] [(0, (sv A_p0 p0 c_p0)), (3, (iv x4)), (4, (pt g13)), (22, (bv false)), (24, (iv ((rdD p0 x4 z_Tile).E)))] [] [1] [(6, ⟨g13, 1, none⟩, (iv ((rdD p0 x4 z_Tile).E)))] (fun fb => by kernel_rfl) rfl trivial rfl ?_
     obtain ⟨t29, ht30, hx27⟩ := bind_some hx27
     refine WL.call (some 25) 50 #[(iv ((rdD p0 x4 z_Tile).E))] (fun fb => by kernel_rfl) (ref01_colour_calls ((rdD p0 x4 z_Tile).E) t29 _ ht30) (fun v w31 hR32 => ?_)
     obtain ⟨rfl, hk_⟩ := hR32
     have hS33 := hS25.keepN hk_
     refine ⟨⟨hS33.cell 0 rfl 2 rfl, hS33.cell 0 rfl 3 rfl, hS33.cell 0 rfl 0 rfl, hS33.cell 0 rfl 1 rfl, hS33.cell 0 rfl 2 rfl, hS33.cell 0 rfl 3 rfl, trivial⟩, ?_⟩
     refine seg 10 [] [0, 3, 4, 27] [(0, (sv A_p0 p0 c_p0)), (3, (iv x4)), (4, (pt g13)), (27, (bv (!t29)))] [] (fun fb => by kernel_rfl) rfl trivial ?_
     injection hx27 with hx27
     exact WL.to K (!t29) [0, 3, 4, 27] rfl ⟨⟨(hS33.subR [0]).sub [0] (by decide), hx27.symm⟩, trivial⟩
    rintro y34 w36 ⟨⟨hS37, hq35⟩, hF38⟩
    subst hq35
    refine seg 11 [] [0, 3, 4, 28] [(0, (sv A_p0 p0 c_p0)), (3, (iv x4)), (4, (pt g13)), (28, (bv x26))] [] (fun fb => by kernel_rfl) rfl trivial ?_
    obtain ⟨x39, hx40, hl10⟩ := bind_some hl10
    refine WL.cutW (T := Bool) 16 (fun t => [(0, (sv A_p0 p0 c_p0)), (3, (iv x4)), (4, (pt g13)), (33, (bv t))]) (fun t w1 => (St NoS w w1 [rowR enc_Tile A_p0 c_p0 p0] [blk g13 (.cells #[(iv ((rdD p0 x4 z_Tile).N)), (iv ((rdD p0 x4 z_Tile).E)), (iv ((rdD p0 x4 z_Tile).S)), (iv ((rdD p0 x4 z_Tile).W))] 40 (0, 0))] ∧ x39 = t) ∧ CellsOK [] w1) (fun K => ?_) ?_
    ·
     rcases br_some hx40 with ⟨h41, hx40⟩ | ⟨h41, hx40⟩
     ·
      refine WL.setB 28 h41 rfl ?_
      refine seg 16 [] [0, 3, 4, 33] [(0, (sv A_p0 p0 c_p0)), (3, (iv x4)), (4, (pt g13)), (33, (bv true))] [] (fun fb => by kernel_rfl) rfl trivial ?_
      injection hx40 with hx40
      exact WL.to K true [0, 3, 4, 33] rfl ⟨⟨(hS37.subR [0]).sub [0] (by decide), hx40.symm⟩, trivial⟩
     refine WL.setB 28 h41 rfl ?_
     refine segF 13 [.v (iv ((rdD p0 x4 z_Tile).S))] [0, 3, 4, 28, 30] [(0, (sv A_p0 p0 c_p0)), (3, (iv x4)), (4, (pt g13)), (28, (bv false)), (30, (iv ((rdD p0 x4 z_Tile).S)))] [] [2] [(12, ⟨g13, 2, none⟩, (iv ((rdD p0 x4 z_Tile).S)))] (fun fb => by kernel_rfl) rfl trivial rfl ?_
     obtain ⟨t42, ht43, hx40⟩ := bind_some hx40
     refine WL.call (some 31) 50 #[(iv ((rdD p0 x4 z_Tile).S))] (fun fb => by kernel_rfl) (ref01_colour_calls ((rdD p0 x4 z_Tile).S) t42 _ ht43) (fun v w44 hR45 => ?_)
     obtain ⟨rfl, hk_⟩ := hR45
     have hS46 := hS37.keepN hk_
     refine ⟨⟨hS46.cell 0 rfl 3 rfl, hS46.cell 0 rfl 0 rfl, hS46.cell 0 rfl 1 rfl, hS46.cell 0 rfl 2 rfl, hS46.cell 0 rfl 3 rfl, trivial⟩, ?_⟩
     refine seg 16 [] [0, 3, 4, 33] [(0, (sv A_p0 p0 c_p0)), (3, (iv x4)), (4, (pt g13)), (33, (bv (!t42)))] [] (fun fb => by kernel_rfl) rfl trivial ?_
     injection hx40 with hx40
     exact WL.to K (!t42) [0, 3, 4, 33] rfl ⟨⟨(hS46.subR [0]).sub [0] (by decide), hx40.symm⟩, trivial⟩
    rintro y47 w49 ⟨⟨hS50, hq48⟩, hF51⟩
    subst hq48
    refine seg 17 [] [0, 3, 4, 34] [(0, (sv A_p0 p0 c_p0)), (3, (iv x4)), (4, (pt g13)), (34, (bv x39))] [] (fun fb => by kernel_rfl) rfl trivial ?_
    obtain ⟨x52, hx53, hl10⟩ := bind_some hl10
    refine WL.cutW (T := Bool) 22 (fun t => [(0, (sv A_p0 p0 c_p0)), (3, (iv x4)), (4, (pt g13)), (39, (bv t))]) (fun t w1 => (St NoS w w1 [rowR enc_Tile A_p0 c_p0 p0] [blk g13 (.cells #[(iv ((rdD p0 x4 z_Tile).N)), (iv ((rdD p0 x4 z_Tile).E)), (iv ((rdD p0 x4 z_Tile).S)), (iv ((rdD p0 x4 z_Tile).W))] 40 (0, 0))] ∧ x52 = t) ∧ CellsOK [] w1) (fun K => ?_) ?_
    ·
     rcases br_some hx53 with ⟨h54, hx53⟩ | ⟨h54, hx53⟩
     ·
      refine WL.setB 34 h54 rfl ?_
      refine seg 22 [] [0, 3, 4, 39] [(0, (sv A_p0 p0 c_p0)), (3, (iv x4)), (4, (pt g13)), (39, (bv true))] [] (fun fb => by kernel_rfl) rfl trivial ?_
      injection hx53 with hx53
      exact WL.to K true [0, 3, 4, 39] rfl ⟨⟨(hS50.subR [0]).sub [0] (by decide), hx53.symm⟩, trivial⟩
     refine WL.setB 34 h54 rfl ?_
     refine segF 19 [.v (iv ((rdD p0 x4 z_Tile).W))] [0, 3, 4, 34, 36] [(0, (sv A_p0 p0 c_p0)), (3, (iv x4)), (4, (pt g13)), (34, (bv false)), (36, (iv ((rdD p0 x4 z_Tile).W)))] [] [3] [(18, ⟨g13, 3, none⟩, (iv ((rdD p0 x4 z_Tile).W)))] (fun fb => by kernel_rfl) rfl trivial rfl ?_
     obtain ⟨t55, ht56, hx53⟩ := bind_some hx53
     refine WL.call (some 37) 50 #[(iv ((rdD p0 x4 z_Tile).W))] (fun fb => by kernel_rfl) (ref01_colour_calls ((rdD p0 x4 z_Tile).W) t55 _ ht56) (fun v w57 hR58 => ?_)
     obtain ⟨rfl, hk_⟩ := hR58
     have hS59 := hS50.keepN hk_
     refine ⟨⟨hS59.cell 0 rfl 0 rfl, hS59.cell 0 rfl 1 rfl, hS59.cell 0 rfl 2 rfl, hS59.cell 0 rfl 3 rfl, trivial⟩, ?_⟩
     refine seg 22 [] [0, 3, 4, 39] [(0, (sv A_p0 p0 c_p0)), (3, (iv x4)), (4, (pt g13)), (39, (bv (!t55)))] [] (fun fb => by kernel_rfl) rfl trivial ?_
     injection hx53 with hx53
     exact WL.to K (!t55) [0, 3, 4, 39] rfl ⟨⟨(hS59.subR [0]).sub [0] (by decide), hx53.symm⟩, trivial⟩
    rintro y60 w62 ⟨⟨hS63, hq61⟩, hF65⟩
    subst hq61
    refine seg 23 [] [0, 3, 4, 40] [(0, (sv A_p0 p0 c_p0)), (3, (iv x4)), (4, (pt g13)), (40, (bv x52))] [] (fun fb => by kernel_rfl) rfl trivial ?_
    obtain ⟨x66, hx67, hl10⟩ := bind_some hl10
    refine WL.cutW (T := Bool) 30 (fun t => [(0, (sv A_p0 p0 c_p0)), (3, (iv x4)), (47, (bv t))]) (fun t w1 => (St NoS w w1 [rowR enc_Tile A_p0 c_p0 p0] [] ∧ x66 = t) ∧ CellsOK [] w1) (fun K => ?_) ?_
    ·
     rcases br_some hx67 with ⟨h68, hx67⟩ | ⟨h68, hx67⟩
     ·
      refine WL.setB 40 h68 rfl ?_
      refine seg 30 [] [0, 3, 47] [(0, (sv A_p0 p0 c_p0)), (3, (iv x4)), (47, (bv true))] [] (fun fb => by kernel_rfl) rfl trivial ?_
      injection hx67 with hx67
      exact WL.to K true [0, 3, 47] rfl ⟨⟨(hS63.subR [0]).sub [] (by decide), hx67.symm⟩, trivial⟩
     refine WL.setB 40 h68 rfl ?_
     refine seg 25 [] [0, 3, 4, 40, 41, 42] [(0, (sv A_p0 p0 c_p0)), (3, (iv x4)), (4, (pt g13)), (40, (bv false)), (41, (sv A_p0 p0 c_p0)), (42, (iv x4))] [] (fun fb => by kernel_rfl) rfl trivial ?_
     obtain ⟨h69, hx67⟩ := as_some hx67
     refine seg 26 [] [0, 3, 4, 40, 43] [(0, (sv A_p0 p0 c_p0)), (3, (iv x4)), (4, (pt g13)), (40, (bv false)), (43, (.slice (subA A_p0 c_p0 (0 : Int).toNat 4) (x4.toNat - (0 : Int).toNat) (c_p0 - (0 : Int).toNat)))] [.idx (some ⟨0, 0, none⟩) (0 : Int) (x4.toNat + 1), .idx (some ⟨0, 0, none⟩) x4 (c_p0 + 1)] (fun fb => by kernel_rfl) rfl ⟨cut1 h69.1 h69.2.1, cut2 h69.1 h69.2.1 h69.2.2 (hS63.rd 0).1.2, trivial⟩ ?_
     refine WL.reE [0, 3, 4, 40, 43] [(0, (.slice A_p0 p0.length c_p0)), (3, (iv x4)), (4, (pt g13)), (40, (.bool false)), (43, (.slice (subA A_p0 c_p0 (0 : Int).toNat 4) (x4.toNat - (0 : Int).toNat) (c_p0 - (0 : Int).toNat)))] [(0, (.slice A_p0 p0.length c_p0)), (3, (iv x4)), (4, (pt g13)), (40, (.bool false)), (43, (.slice (subA A_p0 c_p0 (0 : Int).toNat 4) (cut p0 (0 : Int) x4).length (c_p0 - (0 : Int).toNat)))] rfl (by rw [cut_length h69.1 h69.2.1 h69.2.2]) ?_
     have hS70 := hS63.cutR 0 rfl h69.1 h69.2.1 h69.2.2
     refine segF 27 [.v (iv ((rdD p0 x4 z_Tile).N)), .v (iv ((rdD p0 x4 z_Tile).E)), .v (iv ((rdD p0 x4 z_Tile).S)), .v (iv ((rdD p0 x4 z_Tile).W))] [0, 3, 40, 43, 44] [(0, (sv A_p0 p0 c_p0)), (3, (iv x4)), (40, (bv false)), (43, (sv (subA A_p0 c_p0 (0 : Int).toNat 4) (cut p0 (0 : Int) x4) (c_p0 - (0 : Int).toNat))), (44, (.agg #[(iv ((rdD p0 x4 z_Tile).N)), (iv ((rdD p0 x4 z_Tile).E)), (iv ((rdD p0 x4 z_Tile).S)), (iv ((rdD p0 x4 z_Tile).W))]))] [] [4, 5, 6, 7] [(26, ⟨g13, 0, none⟩, (iv ((rdD p0 x4 z_Tile).N))), (26, ⟨g13, 1, none⟩, (iv ((rdD p0 x4 z_Tile).E))), (26, ⟨g13, 2, none⟩, (iv ((rdD p0 x4 z_Tile).S))), (26, ⟨g13, 3, none⟩, (iv ((rdD p0 x4 z_Tile).W)))] (fun fb => by kernel_rfl) rfl trivial rfl ?_
     obtain ⟨t71, ht72, hx67⟩ := bind_some hx67
     refine WL.call (some 45) 51 #[(sv (subA A_p0 c_p0 (0 : Int).toNat 4) (cut p0 (0 : Int) x4) (c_p0 - (0 : Int).toNat)), (.agg #[(iv ((rdD p0 x4 z_Tile).N)), (iv ((rdD p0 x4 z_Tile).E)), (iv ((rdD p0 x4 z_Tile).S)), (iv ((rdD p0 x4 z_Tile).W))])] (fun fb => by kernel_rfl) (ref01_Index_calls _ (cut p0 (0 : Int) x4) (rdD p0 x4 z_Tile) (subA A_p0 c_p0 (0 : Int).toNat 4) (c_p0 - (0 : Int).toNat) t71 _ (hS70.rd 0) ht72) (fun v w73 hR74 => ?_)
     obtain ⟨rfl, hk_⟩ := hR74
     have hS75 := hS70.keepN hk_
     refine ⟨trivial, ?_⟩
     refine seg 30 [] [0, 3, 47] [(0, (sv A_p0 p0 c_p0)), (3, (iv x4)), (47, (bv (decide (t71 ≥ 0))))] [] (fun fb => by kernel_rfl) rfl trivial ?_
     injection hx67 with hx67
     exact WL.to K (decide (t71 ≥ 0)) [0, 3, 47] rfl ⟨⟨(hS75.subR [1]).sub [] (by decide), hx67.symm⟩, trivial⟩
    rintro y76 w78 ⟨⟨hS79, hq77⟩, hF80⟩
    subst hq77
    refine WL.done rfl ?_
    refine WX.next ?_
    rcases br_some hl10 with ⟨h81, hl10⟩ | ⟨h81, hl10⟩
    ·refine WC.condT2 (fun fb => by kernel_rfl) h81 ?_
     refine WC.seq ?_
     refine WC.region ?_
     refine seg 1 [] [2] [(2, (bv false))] [] (fun fb => by kernel_rfl) rfl trivial ?_
     refine WL.done rfl ?_
     refine WX.next ?_
     refine WC.ret ?_
     injection hl10 with hl10
     subst hl10
     injection hf with hf
     subst hf
     exact WX.blockR (WX.thenR (WX.thenR (WX.blockR (WX.thenR (WX.ret_ [] (bv false) [] (fun fb => by kernel_rfl) trivial ⟨_, rfl, rfl, hS79.keep⟩)))))
    refine WC.condF2 (fun fb => by kernel_rfl) h81 ?_
    refine WC.skip ?_
    refine WX.blockN (WX.next ?_)
    refine WC.region ?_
    refine seg 3 [] [0, 3] [(0, (sv A_p0 p0 c_p0)), (3, (iv (w64 (x4 + 1))))] [] (fun fb => by kernel_rfl) rfl trivial ?_
    refine WL.done rfl ?_
    exact WX.again k7 (Nat.lt_succ_self _) (w64 (x4 + 1)) [0, 3] rfl ⟨(hS79.subR [0]).sub [] (by decide), hl10⟩
   refine WC.condF2 (fun fb => by kernel_rfl) h11 ?_
   refine WC.exit ?_
   injection hl10 with hl10
   exact WX.thenX (WX.thenX (WX.blockHere (WX.to Kx5 () [] rfl ⟨(hS9.subR [0]).sub [] (by decide), hl10.symm⟩)))
 rintro y85 w82 ⟨hS83, hq84⟩
 subst hq84
 have hf := sum_inr hf
 refine WX.next ?_
 refine WC.seq ?_
 refine WC.region ?_
 refine seg 1 [] [2] [(2, (bv true))] [] (fun fb => by kernel_rfl) rfl trivial ?_
 refine WL.done rfl ?_
 refine WX.next ?_
 refine WC.ret ?_
 injection hf with hf
 subst hf
 exact WX.ret_ [] (bv true) [] (fun fb => by kernel_rfl) trivial ⟨_, rfl, rfl, hS83.keep⟩
theorem law03_no_calls (k : Nat) (p0 : Pattern) (p1 : Int) (p2 : Int) (A_p0_Cells : Option Addr) (c_p0_Cells : Nat) (r : Bool) (w : World) (hR0 : RO NoS w (rowR encInt A_p0_Cells c_p0_Cells p0.Cells)) (hf : law03_no k p0 p1 p2 = some r) :
  CallsR Tryd.prog 17 #[(.agg #[(iv p0.Width), (iv p0.Height), (sv A_p0_Cells p0.Cells c_p0_Cells)]), (iv p1), (iv p2)] w (fun v w' => v = (bv r) ∧ Keeps NoS w w') := by
 have hS : St NoS w w [rowR encInt A_p0_Cells c_p0_Cells p0.Cells] [] := St.init (ro_cons hR0 (ro_nil _ _))
 refine enter 15 Tryd.func17 rfl Tryd.ntmps17 rfl ?_
 unfold law03_no at hf
 refine WC.seq ?_
 refine WC.region ?_
 refine WL.new hS 3 [] (fun g => (pt g)) (.cells #[(iv p0.Width), (iv p0.Height), (sv A_p0_Cells p0.Cells c_p0_Cells)] 27 (0, 0)) [] (fun fb g => by kernel_rfl) trivial (fun g4 w5 hS6 => ?_)
 refine ⟨trivial, ?_⟩
 refine seg 2 [] [1, 2, 3] [(1, (iv p1)), (2, (iv p2)), (3, (pt g4))] [] (fun fb => by kernel_rfl) rfl trivial ?_
 refine WL.done rfl ?_
 refine WX.next ?_
 refine WC.seq ?_
 refine WC.region ?_
 refine seg 4 [] [3, 10] [(3, (pt g4)), (10, (bv (p1 == p2)))] [] (fun fb => by kernel_rfl) rfl trivial ?_
 obtain ⟨x7, hx8, hf⟩ := bind_some hf
 refine WL.cutW (T := Bool) 8 (fun t => [(14, (bv t))]) (fun t w1 => (St NoS w w1 [rowR encInt A_p0_Cells c_p0_Cells p0.Cells] [] ∧ x7 = t) ∧ CellsOK [] w1) (fun K => ?_) ?_
 ·
  rcases br_some hx8 with ⟨h9, hx8⟩ | ⟨h9, hx8⟩
  ·
   refine WL.setB 10 h9 rfl ?_
   refine seg 6 [.v (iv p0.Width), .v (iv p0.Height), .v (sv A_p0_Cells p0.Cells c_p0_Cells)] [10, 11, 12] [(10, (bv true)), (11, (.agg #[(iv p0.Width), (iv p0.Height), (sv A_p0_Cells p0.Cells c_p0_Cells)])), (12, (.agg #[(iv 0), (iv 0), (.slice none 0 0)]))] [.cell ⟨g4, 0, none⟩ (iv p0.Width), .cell ⟨g4, 1, none⟩ (iv p0.Height), .cell ⟨g4, 2, none⟩ (sv A_p0_Cells p0.Cells c_p0_Cells)] (fun fb => by kernel_rfl) rfl ⟨hS6.cell 0 rfl 0 rfl, hS6.cell 0 rfl 1 rfl, hS6.cell 0 rfl 2 rfl, trivial⟩ ?_
   obtain ⟨t10, ht11, hx8⟩ := bind_some hx8
   refine WL.call (some 13) 32 #[(.agg #[(iv p0.Width), (iv p0.Height), (sv A_p0_Cells p0.Cells c_p0_Cells)]), (.agg #[(iv 0), (iv 0), (.slice none 0 0)])] (fun fb => by kernel_rfl) (ref01_SamePattern_calls _ p0 (Pattern.mk 0 0 ([] : List Int)) A_p0_Cells c_p0_Cells none 0 t10 _ (hS6.rd 0) (RO.nilR _ _ _) ht11) (fun v w12 hR13 => ?_)
   obtain ⟨rfl, hk_⟩ := hR13
   have hS14 := hS6.keepN hk_
   refine ⟨trivial, ?_⟩
   refine seg 8 [] [14] [(14, (bv t10))] [] (fun fb => by kernel_rfl) rfl trivial ?_
   injection hx8 with hx8
   exact WL.to K t10 [14] rfl ⟨⟨(hS14.subR [0]).sub [] (by decide), hx8.symm⟩, trivial⟩
  refine WL.setB 10 h9 rfl ?_
  refine seg 8 [] [14] [(14, (bv false))] [] (fun fb => by kernel_rfl) rfl trivial ?_
  injection hx8 with hx8
  exact WL.to K false [14] rfl ⟨⟨(hS6.subR [0]).sub [] (by decide), hx8.symm⟩, trivial⟩
 rintro y15 w18 ⟨⟨hS19, hq16⟩, hF20⟩
 subst hq16
 refine seg 9 [] [6] [(6, (bv x7))] [] (fun fb => by kernel_rfl) rfl trivial ?_
 refine WL.done rfl ?_
 refine WX.next ?_
 refine WC.ret ?_
 injection hf with hf
 subst hf
 exact WX.ret_ [] (bv x7) [] (fun fb => by kernel_rfl) trivial ⟨_, rfl, rfl, hS19.keep⟩
theorem ref02_at_calls (k : Nat) (p0 : List Int) (p1 : Int) (A_p0 : Option Addr) (c_p0 : Nat) (r : Int) (w : World) (hR0 : RO NoS w (rowR encInt A_p0 c_p0 p0)) (hf : ref02_at k p0 p1 = some r) :
  CallsR Tryd.prog 87 #[(sv A_p0 p0 c_p0), (iv p1)] w (fun v w' => v = (iv r) ∧ Keeps NoS w w') := by
 have hS : St NoS w w [rowR encInt A_p0 c_p0 p0] [] := St.init (ro_cons hR0 (ro_nil _ _))
 refine enter 19 Tryd.func87 rfl Tryd.ntmps87 rfl ?_
 unfold ref02_at at hf
 refine WC.seq ?_
 refine WC.region ?_
 refine seg 1 [] [0, 1] [(0, (sv A_p0 p0 c_p0)), (1, (iv p1))] [] (fun fb => by kernel_rfl) rfl trivial ?_
 refine WL.done rfl ?_
 refine WX.next ?_
 refine WC.seq ?_
 refine WC.seq ?_
 refine WC.region ?_
 refine seg 1 [] [0, 1, 5] [(0, (sv A_p0 p0 c_p0)), (1, (iv p1)), (5, (iv 0))] [] (fun fb => by kernel_rfl) rfl trivial ?_
 refine WL.done rfl ?_
 refine WX.next ?_
 obtain ⟨x4, hx5, hf⟩ := bind_some hf
 refine WC.cutN (T := Unit) (fun t => []) (fun t w1 => St NoS w w1 [rowR encInt A_p0 c_p0 p0] [] ∧ x4 = .inr t) (fun Kx4 => ?_) ?_
 ·
  refine WC.block ?_
  refine WC.loop (T := Int) (fun t => [(0, (sv A_p0 p0 c_p0)), (1, (iv p1)), (5, (iv t))]) (fun n t w1 => St NoS w w1 [rowR encInt A_p0 c_p0 p0] [] ∧ ref02_at.l0 n t p0 p1 = some x4) k 0 [0, 1, 5] rfl ⟨(hS.subR [0]).sub [] (by decide), hx5⟩ ?_
  rintro k6 x3 w7 ⟨hS8, hl9⟩
  cases k6 with
  | zero => rw [ref02_at.l0] at hl9; cases hl9
  | succ k6 =>
   rw [ref02_at.l0] at hl9
   refine WC.seq ?_
   refine WC.seq ?_
   refine WC.region ?_
   refine seg 4 [] [0, 1, 5, 9] [(0, (sv A_p0 p0 c_p0)), (1, (iv p1)), (5, (iv x3)), (9, (bv (decide (x3 < (p0.length : Int)))))] [] (fun fb => by kernel_rfl) rfl trivial ?_
   refine WL.done rfl ?_
   refine WX.next ?_
   rcases br_some hl9 with ⟨h10, hl9⟩ | ⟨h10, hl9⟩
   ·refine WC.condT2 (fun fb => by kernel_rfl) h10 ?_
    refine WC.skip ?_
    refine WX.next ?_
    refine WC.seq ?_
    refine WC.block ?_
    refine WC.seq ?_
    refine WC.region ?_
    refine seg 2 [] [0, 1, 5, 12, 13] [(0, (sv A_p0 p0 c_p0)), (1, (iv p1)), (5, (iv x3)), (12, (sv A_p0 p0 c_p0)), (13, (iv x3))] [] (fun fb => by kernel_rfl) rfl trivial ?_
    obtain ⟨h11, hl9⟩ := as_some hl9
    refine seg 6 [.v (iv (rdD p0 x3 0))] [0, 1, 5, 17] [(0, (sv A_p0 p0 c_p0)), (1, (iv p1)), (5, (iv x3)), (17, (bv ((rdD p0 x3 0) == p1)))] [.idx A_p0 x3 p0.length, .cell ((adr A_p0).add ((x3).toNat * 1)) (iv (rdD p0 x3 0))] (fun fb => by kernel_rfl) rfl ⟨rowR.adr (hS8.rd 0).1 h11.1 h11.2, rowR.cell (hS8.rd 0).1 0 h11.1 h11.2 0 rfl, trivial⟩ ?_
    refine WL.done rfl ?_
    refine WX.next ?_
    rcases br_some hl9 with ⟨h12, hl9⟩ | ⟨h12, hl9⟩
    ·refine WC.condT2 (fun fb => by kernel_rfl) h12 ?_
     refine WC.seq ?_
     refine WC.region ?_
     refine seg 2 [] [4] [(4, (iv x3))] [] (fun fb => by kernel_rfl) rfl trivial ?_
     refine WL.done rfl ?_
     refine WX.next ?_
     refine WC.ret ?_
     injection hl9 with hl9
     subst hl9
     injection hf with hf
     subst hf
     exact WX.blockR (WX.thenR (WX.thenR (WX.blockR (WX.thenR (WX.ret_ [] (iv x3) [] (fun fb => by kernel_rfl) trivial ⟨_, rfl, rfl, hS8.keep⟩)))))
    refine WC.condF2 (fun fb => by kernel_rfl) h12 ?_
    refine WC.skip ?_
    refine WX.blockN (WX.next ?_)
    refine WC.region ?_
    refine seg 3 [] [0, 1, 5] [(0, (sv A_p0 p0 c_p0)), (1, (iv p1)), (5, (iv (w64 (x3 + 1))))] [] (fun fb => by kernel_rfl) rfl trivial ?_
    refine WL.done rfl ?_
    exact WX.again k6 (Nat.lt_succ_self _) (w64 (x3 + 1)) [0, 1, 5] rfl ⟨(hS8.subR [0]).sub [] (by decide), hl9⟩
   refine WC.condF2 (fun fb => by kernel_rfl) h10 ?_
   refine WC.exit ?_
   injection hl9 with hl9
   exact WX.thenX (WX.thenX (WX.blockHere (WX.to Kx4 () [] rfl ⟨(hS8.subR [0]).sub [] (by decide), hl9.symm⟩)))
 rintro y16 w13 ⟨hS14, hq15⟩
 subst hq15
 have hf := sum_inr hf
 refine WX.next ?_
 refine WC.seq ?_
 refine WC.region ?_
 refine seg 1 [] [4] [(4, (iv (-1)))] [] (fun fb => by kernel_rfl) rfl trivial ?_
 refine WL.done rfl ?_
 refine WX.next ?_
 refine WC.ret ?_
 injection hf with hf
 subst hf
 exact WX.ret_ [] (iv (-1)) [] (fun fb => by kernel_rfl) trivial ⟨_, rfl, rfl, hS14.keep⟩
theorem ref02_with_calls (k : Nat) (p0 : List Int) (p1 : Int) (A_p0 : Option Addr) (c_p0 : Nat) (r : (List Int)) (w : World) (hI : IoOK w [rowO 3 encInt A_p0 c_p0 p0]) (hf : ref02_with k p0 p1 = some r) :
  CallsR Tryd.prog 67 #[(sv A_p0 p0 c_p0), (iv p1)] w (fun v w' => ∃ (A1_ : Option Addr), ∃ (c1_ : Nat), v = (sv A1_ r c1_) ∧ St (fpL [rowO 3 encInt A_p0 c_p0 p0]) w w' [] [rowO 3 encInt A1_ c1_ r]) := by
 have hS : St (fpL [rowO 3 encInt A_p0 c_p0 p0]) w w [] [rowO 3 encInt A_p0 c_p0 p0] := St.initIO (ro_nil _ _) hI
 refine enter 14 Tryd.func67 rfl Tryd.ntmps67 rfl ?_
 unfold ref02_with at hf
 refine WC.seq ?_
 refine WC.region ?_
 refine seg 1 [] [0, 1] [(0, (sv A_p0 p0 c_p0)), (1, (iv p1))] [] (fun fb => by kernel_rfl) rfl trivial ?_
 refine WL.done rfl ?_
 refine WX.next ?_
 refine WC.seq ?_
 refine WC.seq ?_
 refine WC.region ?_
 refine seg 2 [] [0, 1, 5, 6] [(0, (sv A_p0 p0 c_p0)), (1, (iv p1)), (5, (sv A_p0 p0 c_p0)), (6, (iv p1))] [] (fun fb => by kernel_rfl) rfl trivial ?_
 obtain ⟨t3, ht4, hf⟩ := bind_some hf
 refine WL.call (some 7) 87 #[(sv A_p0 p0 c_p0), (iv p1)] (fun fb => by kernel_rfl) (ref02_at_calls _ p0 p1 A_p0 c_p0 t3 _ (hS.ow 0).ofO ht4) (fun v w5 hR6 => ?_)
 obtain ⟨rfl, hk_⟩ := hR6
 have hS7 := hS.keepN hk_
 refine ⟨trivial, ?_⟩
 refine seg 4 [] [0, 1, 8] [(0, (sv A_p0 p0 c_p0)), (1, (iv p1)), (8, (bv (decide (t3 < 0))))] [] (fun fb => by kernel_rfl) rfl trivial ?_
 refine WL.done rfl ?_
 refine WX.next ?_
 obtain ⟨x10, hx11, hf⟩ := bind_some hf
 refine WC.cutN (T := (List Int) × (Option Addr) × Nat) (fun t => [(0, (sv t.2.1 t.1 t.2.2))]) (fun t w1 => St (fpL [rowO 3 encInt A_p0 c_p0 p0]) w w1 [] [rowO 3 encInt t.2.1 t.2.2 t.1] ∧ x10 = t.1) (fun Kx10 => ?_) ?_
 ·
  rcases br_some hx11 with ⟨h12, hx11⟩ | ⟨h12, hx11⟩
  ·refine WC.condT2 (fun fb => by kernel_rfl) h12 ?_
   refine WC.region ?_
   refine seg 2 [] [9, 10] [(9, (sv A_p0 p0 c_p0)), (10, (iv p1))] [] (fun fb => by kernel_rfl) rfl trivial ?_
   refine WL.new hS7 11 [] (fun g => (.slice (some ⟨g, 0, none⟩) 1 1)) (.cells #[(iv p1)] 3 (0, 0)) [] (fun fb g => by kernel_rfl) trivial (fun g13 w14 hS15 => ?_)
   refine ⟨trivial, ?_⟩
   have hS16 : St (fpL [rowO 3 encInt A_p0 c_p0 p0]) w w14 [] [rowO 3 encInt (some ⟨g13, 0, none⟩) 1 [p1], rowO 3 encInt A_p0 c_p0 p0] := hS15.map1 0 _ (fun h => rowO.ofBlk h rfl (Nat.le_of_ble_eq_true (by kernel_rfl))) (fun _ h => by obtain ⟨_, h1, h2⟩ := h; injection h1 with h1; subst h1; exact h2) [1] (by decide) (by decide)
   obtain ⟨h17, hx11⟩ := as_some hx11
   refine WL.append hS16 1 (d := 12) (tS := 25) (z := (iv 0)) (bytes := 8) (c2 := 1) rfl (fun fb => by kernel_rfl) (rowO.rd (hS16.own 0).1) (by kernel_rfl) (by kernel_rfl) rfl (by decide) h17 (by decide) [0] (by decide) (by decide) (fun A18 c19 w20 hS21 => ?_)
   refine ⟨trivial, ?_⟩
   refine seg 5 [] [0] [(0, (sv A18 (p0 ++ [p1]) c19))] [] (fun fb => by kernel_rfl) rfl trivial ?_
   refine WL.done rfl ?_
   injection hx11 with hx11
   exact WX.to Kx10 (p0 ++ [p1], A18, c19) [0] rfl ⟨(hS21.subR []).sub [0] (by decide), hx11.symm⟩
  refine WC.condF2 (fun fb => by kernel_rfl) h12 ?_
  refine WC.skip ?_
  injection hx11 with hx11
  exact WX.to Kx10 (p0, A_p0, c_p0) [0] rfl ⟨(hS7.subR []).sub [0] (by decide), hx11.symm⟩
 rintro ⟨y25, A8, c9⟩ w22 ⟨hS23, hq24⟩
 subst hq24
 refine WX.next ?_
 refine WC.seq ?_
 refine WC.region ?_
 refine seg 2 [] [4] [(4, (sv A8 x10 c9))] [] (fun fb => by kernel_rfl) rfl trivial ?_
 refine WL.done rfl ?_
 refine WX.next ?_
 refine WC.ret ?_
 injection hf with hf
 subst hf
 exact WX.ret_ [] (sv A8 x10 c9) [] (fun fb => by kernel_rfl) trivial ⟨_, rfl, A8, c9, rfl, (hS23.sub [0] (by decide)).noR⟩
theorem ref02_Colours_calls (k : Nat) (p0 : List Tile) (A_p0 : Option Addr) (c_p0 : Nat) (r : (List Int)) (w : World) (hR0 : RO NoS w (rowR enc_Tile A_p0 c_p0 p0)) (hf : ref02_Colours k p0 = some r) :
  CallsR Tryd.prog 38 #[(sv A_p0 p0 c_p0)] w (fun v w' => ∃ (A1_ : Option Addr), ∃ (c1_ : Nat), v = (sv A1_ r c1_) ∧ St NoS w w' [] [rowO 3 encInt A1_ c1_ r]) := by
 have hS : St NoS w w [rowR enc_Tile A_p0 c_p0 p0] [] := St.init (ro_cons hR0 (ro_nil _ _))
 refine enter 25 Tryd.func38 rfl Tryd.ntmps38 rfl ?_
 unfold ref02_Colours at hf
 refine WC.seq ?_
 refine WC.region ?_
 refine seg 1 [] [0] [(0, (sv A_p0 p0 c_p0))] [] (fun fb => by kernel_rfl) rfl trivial ?_
 refine WL.done rfl ?_
 refine WX.next ?_
 refine WC.seq ?_
 refine WC.region ?_
 refine seg 1 [] [0, 3] [(0, (sv A_p0 p0 c_p0)), (3, (.slice none 0 0))] [] (fun fb => by kernel_rfl) rfl trivial ?_
 refine WL.done rfl ?_
 refine WX.next ?_
 refine WC.seq ?_
 refine WC.seq ?_
 refine WC.region ?_
 refine seg 1 [] [0, 3, 4] [(0, (sv A_p0 p0 c_p0)), (3, (.slice none 0 0)), (4, (iv 0))] [] (fun fb => by kernel_rfl) rfl trivial ?_
 refine WL.done rfl ?_
 refine WX.next ?_
 have hS3 := hS.nilrow 3 encInt
 obtain ⟨x10, hx11, hf⟩ := bind_some hf
 refine WC.cutN (T := (List Int) × (Option Addr) × Nat) (fun t => [(3, (sv t.2.1 t.1 t.2.2))]) (fun t w1 => St NoS w w1 [rowR enc_Tile A_p0 c_p0 p0] [rowO 3 encInt t.2.1 t.2.2 t.1] ∧ x10 = t.1) (fun Kx10 => ?_) ?_
 ·
  refine WC.block ?_
  refine WC.loop (T := ((List Int) × Int) × (Option Addr) × Nat) (fun t => [(0, (sv A_p0 p0 c_p0)), (3, (sv t.2.1 t.1.1 t.2.2)), (4, (iv t.1.2))]) (fun n t w1 => St NoS w w1 [rowR enc_Tile A_p0 c_p0 p0] [rowO 3 encInt t.2.1 t.2.2 t.1.1] ∧ ref02_Colours.l0 n t.1.1 t.1.2 p0 = some x10) k ((([] : List Int), 0), none, 0) [0, 3, 4] rfl ⟨(hS3.subR [0]).sub [0] (by decide), hx11⟩ ?_
  rintro k12 ⟨⟨l6, x7⟩, A4, c5⟩ w13 ⟨hS14, hl15⟩
  cases k12 with
  | zero => rw [ref02_Colours.l0] at hl15; cases hl15
  | succ k12 =>
   rw [ref02_Colours.l0] at hl15
   refine WC.seq ?_
   refine WC.seq ?_
   refine WC.region ?_
   refine seg 4 [] [0, 3, 4, 8] [(0, (sv A_p0 p0 c_p0)), (3, (sv A4 l6 c5)), (4, (iv x7)), (8, (bv (decide (x7 < (p0.length : Int)))))] [] (fun fb => by kernel_rfl) rfl trivial ?_
   refine WL.done rfl ?_
   refine WX.next ?_
   rcases br_some hl15 with ⟨h16, hl15⟩ | ⟨h16, hl15⟩
   ·refine WC.condT2 (fun fb => by kernel_rfl) h16 ?_
    refine WC.skip ?_
    refine WX.next ?_
    refine WC.seq ?_
    refine WC.block ?_
    obtain ⟨h19, hl15⟩ := as_some hl15
    refine WC.regionD ([(5, ((adr A_p0).add ((x7).toNat * 4)), (iv ((rdD p0 x7 z_Tile).N))), (11, (((adr A_p0).add ((x7).toNat * 4)).add 2), (iv ((rdD p0 x7 z_Tile).S)))], [0, 1, 2, 3, 4, 5, 7, 8, 9, 10, 11, 13], [[], [], [], [1, 2], [1, 2, 3], [1, 2, 3, 4], [0, 1, 2, 3, 4, 5], [], [], [7, 8], [7, 8, 9], [7, 8, 9, 10], [0, 1, 2, 3, 4, 5, 6, 7, 8, 9, 10, 11], [0, 1, 2, 3, 4, 5, 6, 7, 8, 9, 10, 11, 12]]) [[0, 1, 2, 3, 4, 5, 7, 8, 9, 10, 11, 6, 12, 13]] (by kernel_rfl) (by kernel_rfl) (NoPanic.block (NoPanic.seq (NoPanic.seq (NoPanic.block (NoPanic.seq (NoPanic.body)))))) ?_
    have hS18 := hS14.drew
    revert hS18
    generalize World.drew w13 = w17
    intro hS18
    refine ⟨⟨rowR.cell (hS18.rd 0).1 z_Tile h19.1 h19.2 0 rfl, rowR.cell (hS18.rd 0).1 z_Tile h19.1 h19.2 2 rfl, trivial⟩, forallC ?_ (forallN)⟩
    refine segF 11 [.v (iv ((rdD p0 x7 z_Tile).N)), .v (iv ((rdD p0 x7 z_Tile).S))] [0, 4, 11, 16, 22] [(0, (sv A_p0 p0 c_p0)), (4, (iv x7)), (11, (sv A4 l6 c5)), (16, (iv ((rdD p0 x7 z_Tile).N))), (22, (iv ((rdD p0 x7 z_Tile).S)))] [.idx A_p0 x7 p0.length, .idx A_p0 x7 p0.length] [0, 1] [(5, ((adr A_p0).add ((x7).toNat * 4)), (iv ((rdD p0 x7 z_Tile).N))), (11, (((adr A_p0).add ((x7).toNat * 4)).add 2), (iv ((rdD p0 x7 z_Tile).S)))] (fun fb => by kernel_rfl) rfl ⟨rowR.adr (hS18.rd 0).1 h19.1 h19.2, rowR.adr (hS18.rd 0).1 h19.1 h19.2, trivial⟩ rfl ?_
    obtain ⟨t20, ht21, hl15⟩ := bind_some hl15
    refine WL.call (some 17) 67 #[(sv A4 l6 c5), (iv ((rdD p0 x7 z_Tile).N))] (fun fb => by kernel_rfl) (ref02_with_calls _ l6 ((rdD p0 x7 z_Tile).N) A4 c5 t20 _ (hS18.io [0] (by decide)) ht21) (fun v w22 hR23 => ?_)
    obtain ⟨A25, c26, rfl, hk_⟩ := hR23
    have hS24 : St NoS w w22 [rowR enc_Tile A_p0 c_p0 p0] [rowO 3 encInt A25 c26 t20] := hS18.call hk_ [0] [] (fun g hg => fpL_sel g hg) (by decide) (by decide)
    refine ⟨⟨rowR.cell (hS24.rd 0).1 z_Tile h19.1 h19.2 2 rfl, trivial⟩, ?_⟩
    obtain ⟨t27, ht28, hl15⟩ := bind_some hl15
    refine WL.call (some 23) 67 #[(sv A25 t20 c26), (iv ((rdD p0 x7 z_Tile).S))] (fun fb => by kernel_rfl) (ref02_with_calls _ t20 ((rdD p0 x7 z_Tile).S) A25 c26 t27 _ (hS24.io [0] (by decide)) ht28) (fun v w29 hR30 => ?_)
    obtain ⟨A32, c33, rfl, hk_⟩ := hR30
    have hS31 : St NoS w w29 [rowR enc_Tile A_p0 c_p0 p0] [rowO 3 encInt A32 c33 t27] := hS24.call hk_ [0] [] (fun g hg => fpL_sel g hg) (by decide) (by decide)
    refine ⟨trivial, ?_⟩
    refine seg 14 [] [0, 3, 4] [(0, (sv A_p0 p0 c_p0)), (3, (sv A32 t27 c33)), (4, (iv x7))] [] (fun fb => by kernel_rfl) rfl trivial ?_
    refine WL.done rfl ?_
    refine WX.blockN (WX.next ?_)
    refine WC.region ?_
    refine seg 3 [] [0, 3, 4] [(0, (sv A_p0 p0 c_p0)), (3, (sv A32 t27 c33)), (4, (iv (w64 (x7 + 1))))] [] (fun fb => by kernel_rfl) rfl trivial ?_
    refine WL.done rfl ?_
    exact WX.again k12 (Nat.lt_succ_self _) ((t27, w64 (x7 + 1)), A32, c33) [0, 3, 4] rfl ⟨(hS31.subR [0]).sub [0] (by decide), hl15⟩
   refine WC.condF2 (fun fb => by kernel_rfl) h16 ?_
   refine WC.exit ?_
   injection hl15 with hl15
   exact WX.thenX (WX.thenX (WX.blockHere (WX.to Kx10 (l6, A4, c5) [3] rfl ⟨(hS14.subR [0]).sub [0] (by decide), hl15.symm⟩)))
 rintro ⟨y37, A8, c9⟩ w34 ⟨hS35, hq36⟩
 subst hq36
 refine WX.next ?_
 refine WC.seq ?_
 refine WC.region ?_
 refine seg 2 [] [2] [(2, (sv A8 x10 c9))] [] (fun fb => by kernel_rfl) rfl trivial ?_
 refine WL.done rfl ?_
 refine WX.next ?_
 refine WC.ret ?_
 injection hf with hf
 subst hf
 exact WX.ret_ [] (sv A8 x10 c9) [] (fun fb => by kernel_rfl) trivial ⟨_, rfl, A8, c9, rfl, (hS35.sub [0] (by decide)).noR⟩
theorem ref02_Power_calls (k : Nat) (p0 : Int) (p1 : Int)  (r : Int) (w : World)  (hf : ref02_Power k p0 p1 = some r) :
  CallsR Tryd.prog 24 #[(iv p0), (iv p1)] w (fun v w' => v = (iv r) ∧ Keeps NoS w w') := by
 have hS : St NoS w w [] [] := St.init (ro_nil _ _)
 refine enter 17 Tryd.func24 rfl Tryd.ntmps24 rfl ?_
 unfold ref02_Power at hf
 refine WC.seq ?_
 refine WC.region ?_
 refine seg 1 [] [0, 1] [(0, (iv p0)), (1, (iv p1))] [] (fun fb => by kernel_rfl) rfl trivial ?_
 refine WL.done rfl ?_
 refine WX.next ?_
 refine WC.seq ?_
 refine WC.region ?_
 refine seg 1 [] [0, 1, 5] [(0, (iv p0)), (1, (iv p1)), (5, (iv 1))] [] (fun fb => by kernel_rfl) rfl trivial ?_
 refine WL.done rfl ?_
 refine WX.next ?_
 refine WC.seq ?_
 refine WC.seq ?_
 refine WC.region ?_
 refine seg 1 [] [0, 1, 5, 6] [(0, (iv p0)), (1, (iv p1)), (5, (iv 1)), (6, (iv 0))] [] (fun fb => by kernel_rfl) rfl trivial ?_
 refine WL.done rfl ?_
 refine WX.next ?_
 obtain ⟨x5, hx6, hf⟩ := bind_some hf
 refine WC.cutN (T := Int) (fun t => [(5, (iv t))]) (fun t w1 => St NoS w w1 [] [] ∧ x5 = t) (fun Kx5 => ?_) ?_
 ·
  refine WC.block ?_
  refine WC.loop (T := Int × Int) (fun t => [(0, (iv p0)), (1, (iv p1)), (5, (iv t.1)), (6, (iv t.2))]) (fun n t w1 => St NoS w w1 [] [] ∧ ref02_Power.l0 n t.1 t.2 p0 p1 = some x5) k (1, 0) [0, 1, 5, 6] rfl ⟨(hS.subR []).sub [] (by decide), hx6⟩ ?_
  rintro k7 ⟨x3, x4⟩ w8 ⟨hS9, hl10⟩
  cases k7 with
  | zero => rw [ref02_Power.l0] at hl10; cases hl10
  | succ k7 =>
   rw [ref02_Power.l0] at hl10
   refine WC.seq ?_
   refine WC.seq ?_
   refine WC.region ?_
   refine seg 3 [] [0, 1, 5, 6, 9] [(0, (iv p0)), (1, (iv p1)), (5, (iv x3)), (6, (iv x4)), (9, (bv (decide (x4 < p1))))] [] (fun fb => by kernel_rfl) rfl trivial ?_
   refine WL.done rfl ?_
   refine WX.next ?_
   rcases br_some hl10 with ⟨h11, hl10⟩ | ⟨h11, hl10⟩
   ·refine WC.condT2 (fun fb => by kernel_rfl) h11 ?_
    refine WC.skip ?_
    refine WX.next ?_
    refine WC.seq ?_
    refine WC.block ?_
    refine WC.region ?_
    refine seg 5 [] [0, 1, 5, 6] [(0, (iv p0)), (1, (iv p1)), (5, (iv (minI (w64 (x3 * p0)) 1000000))), (6, (iv x4))] [] (fun fb => by kernel_rfl) rfl trivial ?_
    refine WL.done rfl ?_
    refine WX.blockN (WX.next ?_)
    refine WC.region ?_
    refine seg 3 [] [0, 1, 5, 6] [(0, (iv p0)), (1, (iv p1)), (5, (iv (minI (w64 (x3 * p0)) 1000000))), (6, (iv (w64 (x4 + 1))))] [] (fun fb => by kernel_rfl) rfl trivial ?_
    refine WL.done rfl ?_
    exact WX.again k7 (Nat.lt_succ_self _) (minI (w64 (x3 * p0)) 1000000, w64 (x4 + 1)) [0, 1, 5, 6] rfl ⟨(hS9.subR []).sub [] (by decide), hl10⟩
   refine WC.condF2 (fun fb => by kernel_rfl) h11 ?_
   refine WC.exit ?_
   injection hl10 with hl10
   exact WX.thenX (WX.thenX (WX.blockHere (WX.to Kx5 x3 [5] rfl ⟨(hS9.subR []).sub [] (by decide), hl10.symm⟩)))
 rintro y15 w12 ⟨hS13, hq14⟩
 subst hq14
 refine WX.next ?_
 refine WC.seq ?_
 refine WC.region ?_
 refine seg 2 [] [4] [(4, (iv x5))] [] (fun fb => by kernel_rfl) rfl trivial ?_
 refine WL.done rfl ?_
 refine WX.next ?_
 refine WC.ret ?_
 injection hf with hf
 subst hf
 exact WX.ret_ [] (iv x5) [] (fun fb => by kernel_rfl) trivial ⟨_, rfl, rfl, hS13.keep⟩
theorem ref03_Heavy_calls (k : Nat) (p0 : List Tile) (p1 : Int) (A_p0 : Option Addr) (c_p0 : Nat) (r : Bool) (w : World) (hR0 : RO NoS w (rowR enc_Tile A_p0 c_p0 p0)) (hf : ref03_Heavy k p0 p1 = some r) :
  CallsR Tryd.prog 18 #[(sv A_p0 p0 c_p0), (iv p1)] w (fun v w' => v = (bv r) ∧ Keeps NoS w w') := by
 have hS : St NoS w w [rowR enc_Tile A_p0 c_p0 p0] [] := St.init (ro_cons hR0 (ro_nil _ _))
 refine enter 23 Tryd.func18 rfl Tryd.ntmps18 rfl ?_
 unfold ref03_Heavy at hf
 refine WC.seq ?_
 refine WC.region ?_
 refine seg 1 [] [0, 1] [(0, (sv A_p0 p0 c_p0)), (1, (iv p1))] [] (fun fb => by kernel_rfl) rfl trivial ?_
 refine WL.done rfl ?_
 refine WX.next ?_
 refine WC.seq ?_
 refine WC.region ?_
 refine seg 4 [] [0, 1, 8] [(0, (sv A_p0 p0 c_p0)), (1, (iv p1)), (8, (bv (decide ((p0.length : Int) > 40))))] [] (fun fb => by kernel_rfl) rfl trivial ?_
 obtain ⟨x4, hx5, hf⟩ := bind_some hf
 refine WL.cutW (T := Bool) 11 (fun t => [(0, (sv A_p0 p0 c_p0)), (1, (iv p1)), (15, (bv t))]) (fun t w1 => (St NoS w w1 [rowR enc_Tile A_p0 c_p0 p0] [] ∧ x4 = t) ∧ CellsOK [] w1) (fun K => ?_) ?_
 ·
  rcases br_some hx5 with ⟨h6, hx5⟩ | ⟨h6, hx5⟩
  ·
   refine WL.setB 8 h6 rfl ?_
   refine seg 11 [] [0, 1, 15] [(0, (sv A_p0 p0 c_p0)), (1, (iv p1)), (15, (bv true))] [] (fun fb => by kernel_rfl) rfl trivial ?_
   injection hx5 with hx5
   exact WL.to K true [0, 1, 15] rfl ⟨⟨(hS.subR [0]).sub [] (by decide), hx5.symm⟩, trivial⟩
  refine WL.setB 8 h6 rfl ?_
  refine seg 5 [] [0, 1, 8, 9] [(0, (sv A_p0 p0 c_p0)), (1, (iv p1)), (8, (bv false)), (9, (sv A_p0 p0 c_p0))] [] (fun fb => by kernel_rfl) rfl trivial ?_
  obtain ⟨t7, ht8, hx5⟩ := bind_some hx5
  refine WL.call (some 10) 38 #[(sv A_p0 p0 c_p0)] (fun fb => by kernel_rfl) (ref02_Colours_calls _ p0 A_p0 c_p0 t7 _ (hS.rd 0) ht8) (fun v w9 hR10 => ?_)
  obtain ⟨A12, c13, rfl, hk_⟩ := hR10
  have hS11 : St NoS w w9 [rowR enc_Tile A_p0 c_p0 p0] [rowO 3 encInt A12 c13 t7] := hS.call hk_ [] [] (fun g hg => hg.elim) (by simp) (by decide)
  refine ⟨trivial, ?_⟩
  refine seg 8 [] [0, 1, 8, 11, 12] [(0, (sv A_p0 p0 c_p0)), (1, (iv p1)), (8, (bv false)), (11, (iv (t7.length : Int))), (12, (iv p1))] [] (fun fb => by kernel_rfl) rfl trivial ?_
  obtain ⟨t14, ht15, hx5⟩ := bind_some hx5
  refine WL.call (some 13) 24 #[(iv (t7.length : Int)), (iv p1)] (fun fb => by kernel_rfl) (ref02_Power_calls _ (t7.length : Int) p1 t14 _ ht15) (fun v w16 hR17 => ?_)
  obtain ⟨rfl, hk_⟩ := hR17
  have hS19 := hS11.keepN hk_
  refine ⟨trivial, ?_⟩
  refine seg 11 [] [0, 1, 15] [(0, (sv A_p0 p0 c_p0)), (1, (iv p1)), (15, (bv (decide (t14 > 800))))] [] (fun fb => by kernel_rfl) rfl trivial ?_
  injection hx5 with hx5
  exact WL.to K (decide (t14 > 800)) [0, 1, 15] rfl ⟨⟨(hS19.subR [0]).sub [] (by decide), hx5.symm⟩, trivial⟩
 rintro y20 w22 ⟨⟨hS23, hq21⟩, hF24⟩
 subst hq21
 refine seg 12 [] [0, 1, 16] [(0, (sv A_p0 p0 c_p0)), (1, (iv p1)), (16, (bv x4))] [] (fun fb => by kernel_rfl) rfl trivial ?_
 obtain ⟨x25, hx26, hf⟩ := bind_some hf
 refine WL.cutW (T := Bool) 18 (fun t => [(22, (bv t))]) (fun t w1 => (St NoS w w1 [rowR enc_Tile A_p0 c_p0 p0] [] ∧ x25 = t) ∧ CellsOK [] w1) (fun K => ?_) ?_
 ·
  rcases br_some hx26 with ⟨h27, hx26⟩ | ⟨h27, hx26⟩
  ·
   refine WL.setB 16 h27 rfl ?_
   refine seg 18 [] [22] [(22, (bv true))] [] (fun fb => by kernel_rfl) rfl trivial ?_
   injection hx26 with hx26
   exact WL.to K true [22] rfl ⟨⟨(hS23.subR [0]).sub [] (by decide), hx26.symm⟩, trivial⟩
  refine WL.setB 16 h27 rfl ?_
  refine seg 15 [] [16, 18, 19] [(16, (bv false)), (18, (iv (p0.length : Int))), (19, (iv p1))] [] (fun fb => by kernel_rfl) rfl trivial ?_
  obtain ⟨t28, ht29, hx26⟩ := bind_some hx26
  refine WL.call (some 20) 24 #[(iv (p0.length : Int)), (iv p1)] (fun fb => by kernel_rfl) (ref02_Power_calls _ (p0.length : Int) p1 t28 _ ht29) (fun v w30 hR31 => ?_)
  obtain ⟨rfl, hk_⟩ := hR31
  have hS32 := hS23.keepN hk_
  refine ⟨trivial, ?_⟩
  refine seg 18 [] [22] [(22, (bv (decide (t28 > 8000))))] [] (fun fb => by kernel_rfl) rfl trivial ?_
  injection hx26 with hx26
  exact WL.to K (decide (t28 > 8000)) [22] rfl ⟨⟨(hS32.subR [0]).sub [] (by decide), hx26.symm⟩, trivial⟩
 rintro y33 w35 ⟨⟨hS36, hq34⟩, hF37⟩
 subst hq34
 refine seg 19 [] [4] [(4, (bv x25))] [] (fun fb => by kernel_rfl) rfl trivial ?_
 refine WL.done rfl ?_
 refine WX.next ?_
 refine WC.ret ?_
 injection hf with hf
 subst hf
 exact WX.ret_ [] (bv x25) [] (fun fb => by kernel_rfl) trivial ⟨_, rfl, rfl, hS36.keep⟩
theorem ref02_Great_calls (k : Nat) (p0 : List Tile) (p1 : Int) (A_p0 : Option Addr) (c_p0 : Nat) (r : Bool) (w : World) (hR0 : RO NoS w (rowR enc_Tile A_p0 c_p0 p0)) (hf : ref02_Great k p0 p1 = some r) :
  CallsR Tryd.prog 19 #[(sv A_p0 p0 c_p0), (iv p1)] w (fun v w' => v = (bv r) ∧ Keeps NoS w w') := by
 have hS : St NoS w w [rowR enc_Tile A_p0 c_p0 p0] [] := St.init (ro_cons hR0 (ro_nil _ _))
 refine enter 10 Tryd.func19 rfl Tryd.ntmps19 rfl ?_
 unfold ref02_Great at hf
 refine WC.seq ?_
 refine WC.region ?_
 refine seg 1 [] [0, 1] [(0, (sv A_p0 p0 c_p0)), (1, (iv p1))] [] (fun fb => by kernel_rfl) rfl trivial ?_
 refine WL.done rfl ?_
 refine WX.next ?_
 refine WC.seq ?_
 refine WC.region ?_
 refine seg 3 [] [6, 7] [(6, (iv (p0.length : Int))), (7, (iv p1))] [] (fun fb => by kernel_rfl) rfl trivial ?_
 obtain ⟨t3, ht4, hf⟩ := bind_some hf
 refine WL.call (some 8) 24 #[(iv (p0.length : Int)), (iv p1)] (fun fb => by kernel_rfl) (ref02_Power_calls _ (p0.length : Int) p1 t3 _ ht4) (fun v w5 hR6 => ?_)
 obtain ⟨rfl, hk_⟩ := hR6
 have hS7 := hS.keepN hk_
 refine ⟨trivial, ?_⟩
 refine seg 6 [] [4] [(4, (bv (decide (t3 > 5000))))] [] (fun fb => by kernel_rfl) rfl trivial ?_
 refine WL.done rfl ?_
 refine WX.next ?_
 refine WC.ret ?_
 injection hf with hf
 subst hf
 exact WX.ret_ [] (bv (decide (t3 > 5000))) [] (fun fb => by kernel_rfl) trivial ⟨_, rfl, rfl, hS7.keep⟩
end Gp
